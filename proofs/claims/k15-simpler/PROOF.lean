import PyProof.Rows.All
import HandS.ForMost
import HandS.ForExc
import HandS.Wide
import HandS.TupAny
import HandS.TupMul
import HandS.SortInts
import HandS.Deep
import HandS.Style
import HandS.Conv
import HandS.Zip
import HandS.CallSlots
import HandS.TryOnly
import HandS.ExcOwn
import HandS.ExcIs
import HandS.ExcValue
import HandS.SetFor
import HandS.Strs
import HandS.More
import HandS.WrittenGet
import HandS.IsInst
import HandS.Small
import HandS.Defaults
import PyProof.Rows.SortShellAny
import PySem.Challenge.RW_diespeech_k15_whole_simpler
set_option Elab.async false
set_option linter.all false
set_option maxRecDepth 100000
set_option maxHeartbeats 4000000
/-! A small language with values as trees, and its interpreter: plain core Lean. -/
set_option linter.all false
namespace Y

abbrev S := List Nat
/-- the words -/
def wd : Nat → S
  | 0 => [110, 117, 109, 98, 101, 114]
  | 1 => [100, 105, 99, 101]
  | 2 => [104, 105, 103, 104]
  | 3 => [108, 111, 119]
  | 4 => [97, 103, 97, 105, 110]
  | 5 => [98, 117, 114, 115, 116]
  | 6 => [99, 111, 117, 110, 116]
  | 7 => [112, 108, 117, 115]
  | 8 => [108, 101, 115, 115]
  | 9 => [109, 111, 115, 116]
  | 10 => [108, 101, 97, 115, 116]
  | 11 => [98, 101, 97, 116, 115]
  | 12 => [116, 105, 109, 101, 115]
  | 13 => [110, 111, 110, 101]
  | _ => []

inductive D where
  | non | bl (b : Bool) | int (i : Int) | str (s : S)
  | tup (ds : List D) | fl (ds : List D)
  | fi (kvs : List (Int × D)) | ft (kvs : List (List Int × D)) | fs (kvs : List (S × D))
  | ref (i : Nat) | exc (c : Nat) | scr (l : List Int)
  deriving Inhabited

/-- what stands in the store -/
inductive Ob where
  | lst (ds : List D) | dI (kvs : List (Int × D)) | dT (kvs : List (List Int × D))
  | ins (c : Nat) (fs : List (String × D)) | gone
  deriving Inhabited

abbrev Hs := List Ob
abbrev Env := List (Option D)

inductive R (α : Type) where
  | ok (a : α) (h : Hs) | ex (c : Nat) (h : Hs) | bad

def R.bind {α β : Type} (r : R α) (f : α → Hs → R β) : R β := match r with
  | .ok a h => f a h
  | .ex c h => .ex c h
  | .bad => .bad
@[simp] theorem R.bind_ok {α β : Type} (a : α) (h : Hs) (f : α → Hs → R β) : (R.ok a h).bind f = f a h := rfl
@[simp] theorem R.bind_ex {α β : Type} (c : Nat) (h : Hs) (f : α → Hs → R β) : (R.ex c h).bind f = .ex c h := rfl
@[simp] theorem R.bind_bad {α β : Type} (f : α → Hs → R β) : (R.bad).bind f = .bad := rfl

inductive RS where
  | nx (e : Env) (h : Hs) | rt (d : D) (h : Hs) | bk (e : Env) (h : Hs) | ct (e : Env) (h : Hs) | ex (c : Nat) (e : Env) (h : Hs) | bad

def R.toS {α : Type} (r : R α) (e : Env) (f : α → Hs → RS) : RS := match r with
  | .ok a h => f a h
  | .ex c h => .ex c e h
  | .bad => .bad
@[simp] theorem R.toS_ok {α : Type} (a : α) (h : Hs) (e : Env) (f : α → Hs → RS) : (R.ok a h).toS e f = f a h := rfl
@[simp] theorem R.toS_ex {α : Type} (c : Nat) (h : Hs) (e : Env) (f : α → Hs → RS) : (R.ex c h : R α).toS e f = .ex c e h := rfl
@[simp] theorem R.toS_bad {α : Type} (e : Env) (f : α → Hs → RS) : (R.bad : R α).toS e f = .bad := rfl

abbrev SZ : Nat := 16777216

/-! ### equality of data -/
def b2i (b : Bool) : Int := if b then 1 else 0
mutual
def D.eqv : D → D → Bool
  | .non, .non => true
  | .bl a, .bl b => a == b
  | .bl a, .int j => (if a then 1 else 0) == j
  | .int i, .bl b => i == (if b then 1 else 0)
  | .int i, .int j => i == j
  | .str a, .str b => a == b
  | .tup a, .tup b => D.eqvs a b
  | .fl a, .fl b => D.eqvs a b
  | _, _ => false
def D.eqvs : List D → List D → Bool
  | [], [] => true
  | a :: r, b :: t => D.eqv a b && D.eqvs r t
  | _, _ => false
end
mutual
/-- data that may be compared: no object within, at most n deep -/
def D.okn : Nat → D → Bool
  | _, .non => true
  | _, .bl _ => true
  | _, .int _ => true
  | _, .str s => s.all fun c => decide (c < 128)
  | n + 1, .tup ds => D.oksn n ds
  | n + 1, .fl ds => D.oksn n ds
  | _, _ => false
def D.oksn : Nat → List D → Bool
  | _, [] => true
  | n, d :: r => D.okn n d && D.oksn n r
end
abbrev D.ok (d : D) : Bool := D.okn 60 d
abbrev D.oks (ds : List D) : Bool := D.oksn 59 ds
def D.flat : D → Bool
  | .non => true
  | .bl _ => true
  | .int _ => true
  | .str _ => true
  | _ => false

/-! ### dicts as lists of pairs -/
section
variable {κ : Type} [DecidableEq κ]
def dget (kvs : List (κ × D)) (k : κ) : Option D := (kvs.find? fun kv => decide (kv.1 = k)).map (·.2)
def dput (kvs : List (κ × D)) (k : κ) (v : D) : List (κ × D) :=
  if (kvs.any fun kv => decide (kv.1 = k)) = true then kvs.map fun kv => if kv.1 = k then (kv.1, v) else kv else kvs ++ [(k, v)]
end

/-! ### what values are -/
def intsOf : List D → Option (List Int)
  | [] => some []
  | .int i :: r => (intsOf r).map (i :: ·)
  | _ :: _ => none
def blsOf : List D → Option (List Bool)
  | [] => some []
  | .bl i :: r => (blsOf r).map (i :: ·)
  | _ :: _ => none
def tupsOf : List D → Option (List (List Int))
  | [] => some []
  | .tup ds :: r => match intsOf ds, tupsOf r with
    | some is, some l => some (is :: l)
    | _, _ => none
  | _ :: _ => none
def strsOf : List D → Option (List S)
  | [] => some []
  | .str i :: r => (strsOf r).map (i :: ·)
  | _ :: _ => none
def dints (l : List Int) : List D := l.map D.int
/-- the items of a sequence -/
def seqOf (d : D) (h : Hs) : Option (List D) := match d with
  | .tup ds => some ds
  | .fl ds => some ds
  | .ref i => match h[i]? with
    | some (.lst ds) => some ds
    | _ => none
  | _ => none
/-- what a for walks -/
def itemsOf : D → Option (List D)
  | .tup ds => some ds
  | .fl ds => some ds
  | .fi kvs => some (kvs.map fun kv => .int kv.1)
  | .ft kvs => some (kvs.map fun kv => .tup (dints kv.1))
  | _ => none

/-! ### sorting -/
def insI (x : Int) : List Int → List Int
  | [] => [x]
  | y :: r => if x ≤ y then x :: y :: r else y :: insI x r
def sortI : List Int → List Int
  | [] => []
  | x :: r => insI x (sortI r)
def lexLt : List Int → List Int → Bool
  | [], [] => false
  | [], _ :: _ => true
  | _ :: _, [] => false
  | x :: r, y :: t => if x = y then lexLt r t else decide (x < y)
def insT (x : List Int) : List (List Int) → List (List Int)
  | [] => [x]
  | y :: r => if lexLt y x = true then y :: insT x r else x :: y :: r
def sortT : List (List Int) → List (List Int)
  | [] => []
  | x :: r => insT x (sortT r)
def dedup : List Int → List Int
  | [] => []
  | x :: r => if x ∈ r then dedup r else x :: dedup r

/-! ### places and slices -/
def ixN (n : Nat) (i : Int) : Option Nat := if 0 ≤ i then (if i < n then some i.toNat else none) else if -(n : Int) ≤ i then some (i + n).toNat else none
def atI {α : Type} (xs : List α) (i : Int) : Option α := (ixN xs.length i).bind fun j => xs[j]?
def sIx (n d : Nat) : Option Int → Nat
  | none => d
  | some v => if v < 0 then (v + n).toNat else min v.toNat n
def cut {α : Type} (xs : List α) (lo hi : Option Int) : List α := (xs.drop (sIx xs.length 0 lo)).take (sIx xs.length xs.length hi - sIx xs.length 0 lo)

/-! ### operators -/
inductive Bop | add | sub | mul | div | mod | pow
  deriving DecidableEq
inductive Cop | eq | ne | lt | le | gt | ge | isin | notin | is | isnot
  deriving DecidableEq
inductive Blt | len | abs | max2 | min2 | int | str | sum | sorted | sortedT | all | any | tuple | list | max | maxD | sset | lset
  deriving DecidableEq
inductive Mth | append | extend | pop | count | index | get | upper
  deriving DecidableEq
inductive Ty | int | bool | str | tuple | intstr | exc (c : Nat)
  deriving DecidableEq

def opAdd (h : Hs) : D → D → R D
  | .int i, .int j => .ok (.int (i + j)) h
  | .str a, .str b => if a.length + b.length ≤ SZ then .ok (.str (a ++ b)) h else .bad
  | .tup a, .tup b => if a.length + b.length ≤ SZ then .ok (.tup (a ++ b)) h else .bad
  | .fl a, .fl b => if a.length + b.length ≤ SZ then .ok (.fl (a ++ b)) h else .bad
  | _, _ => .bad
def opSub (h : Hs) : D → D → R D
  | .int i, .int j => .ok (.int (i - j)) h
  | _, _ => .bad
/-- a great number -/
def BIG : Nat := 2 ^ 1000
def opMul (h : Hs) : D → D → R D
  | .int i, .int j => if (i.natAbs < 18446744073709551616 ∨ j.natAbs < 18446744073709551616) ∨ (i.natAbs < BIG ∧ j.natAbs < BIG) then .ok (.int (i * j)) h else .bad
  | .fl a, .int k => if 0 ≤ k ∧ k ≤ 1000 ∧ a.length * k.toNat ≤ SZ then .ok (.fl (List.replicate k.toNat a).flatten) h else .bad
  | .str a, .int k => if 0 ≤ k ∧ k ≤ 1000 ∧ a.length * k.toNat ≤ 1000 then .ok (.str (List.replicate k.toNat a).flatten) h else .bad
  | _, _ => .bad
def opDiv (h : Hs) : D → D → R D
  | .int i, .int j => if 0 < j ∧ j.natAbs < BIG then .ok (.int (i / j)) h else .bad
  | _, _ => .bad
def opMod (h : Hs) : D → D → R D
  | .int i, .int j => if 0 < j then .ok (.int (i % j)) h else .bad
  | _, _ => .bad
def opPow (h : Hs) : D → D → R D
  | .int i, .int j => if 0 ≤ j ∧ j ≤ 1000 ∧ i.natAbs < 18446744073709551616 then .ok (.int (i ^ j.toNat)) h else .bad
  | _, _ => .bad
def bop : Bop → Hs → D → D → R D
  | .add => opAdd
  | .sub => opSub
  | .mul => opMul
  | .div => opDiv
  | .mod => opMod
  | .pow => opPow

def isIn (h : Hs) (x : D) : D → Option Bool
  | .tup ds => if x.flat = true ∧ ds.all D.flat = true then some (ds.any fun z => D.eqv z x) else none
  | .fl ds => if x.ok = true ∧ D.oks ds = true then some (ds.any fun z => D.eqv z x) else none
  | .ref i => match h[i]? with
    | some (.lst ds) => if x.ok = true ∧ D.oks ds = true then some (ds.any fun z => D.eqv z x) else none
    | _ => none
  | .str z => match x with
    | .str [c] => some (decide (c ∈ z))
    | _ => none
  | .fs kvs => match x with
    | .str s => some (dget kvs s).isSome
    | _ => none
  | _ => none
def isIs : D → D → Option Bool
  | .non, .non => some true
  | .bl a, .bl b => some (decide (a = b))
  | _, .non => some false
  | _, _ => none
/-- a list as it stands now -/
def deref (h : Hs) (d : D) : D := match d with
  | .ref i => match h[i]? with
    | some (.lst ds) => .fl ds
    | _ => d
  | _ => d
def cop (o : Cop) (h : Hs) (a b : D) : R D := match o with
  | .eq => if (deref h a).ok = true ∧ (deref h b).ok = true then .ok (.bl (D.eqv (deref h a) (deref h b))) h else .bad
  | .ne => if (deref h a).ok = true ∧ (deref h b).ok = true then .ok (.bl (!D.eqv (deref h a) (deref h b))) h else .bad
  | .lt => match a, b with
    | .int i, .int j => .ok (.bl (decide (i < j))) h
    | _, _ => .bad
  | .le => match a, b with
    | .int i, .int j => .ok (.bl (decide (i ≤ j))) h
    | _, _ => .bad
  | .gt => match a, b with
    | .int i, .int j => .ok (.bl (decide (j < i))) h
    | _, _ => .bad
  | .ge => match a, b with
    | .int i, .int j => .ok (.bl (decide (j ≤ i))) h
    | _, _ => .bad
  | .isin => match isIn h a b with
    | some k => .ok (.bl k) h
    | none => .bad
  | .notin => match isIn h a b with
    | some k => .ok (.bl (!k)) h
    | none => .bad
  | .is => match isIs a b with
    | some k => .ok (.bl k) h
    | none => .bad
  | .isnot => match isIs a b with
    | some k => .ok (.bl (!k)) h
    | none => .bad

def getKey {κ : Type} [DecidableEq κ] (kvs : List (κ × D)) (k : κ) : Option D := dget kvs k
/-- the dict's entry; none: this is no such dict, or no such key -/
def dictAt (h : Hs) (d k : D) : Option (Option D) := match d with
  | .fi kvs => match k with
    | .int i => some (dget kvs i)
    | _ => none
  | .ft kvs => match k with
    | .tup ds => (intsOf ds).map (dget kvs)
    | _ => none
  | .fs kvs => match k with
    | .str s => some (dget kvs s)
    | _ => none
  | .ref i => match h[i]? with
    | some (.dI kvs) => match k with
      | .int i => some (dget kvs i)
      | _ => none
    | some (.dT kvs) => match k with
      | .tup ds => (intsOf ds).map (dget kvs)
      | _ => none
    | _ => none
  | _ => none
def index (h : Hs) (a i : D) : Option D := match a with
  | .scr l => match i with
    | .int k => (atI l k).map .int
    | _ => none
  | .tup ds => match i with
    | .int k => atI ds k
    | _ => none
  | .fl ds => match i with
    | .int k => atI ds k
    | _ => none
  | .str s => match i with
    | .int k => if s.length ≤ SZ then (atI s k).map fun c => .str [c] else none
    | _ => none
  | .ref r => match h[r]? with
    | some (.lst ds) => match i with
      | .int k => atI ds k
      | _ => none
    | some (.dI kvs) => match i with
      | .int i => dget kvs i
      | _ => none
    | some (.dT kvs) => match i with
      | .tup ds => (intsOf ds).bind (dget kvs)
      | _ => none
    | _ => none
  | .fi kvs => match i with
    | .int i => dget kvs i
    | _ => none
  | .ft kvs => match i with
    | .tup ds => (intsOf ds).bind (dget kvs)
    | _ => none
  | .fs kvs => match i with
    | .str s => dget kvs s
    | _ => none
  | _ => none
def slice (a : D) (lo hi : Option Int) : Option D := match a with
  | .tup ds => some (.tup (cut ds lo hi))
  | .fl ds => some (.fl (cut ds lo hi))
  | .str s => if s.length ≤ SZ then some (.str (cut s lo hi)) else none
  | _ => none
def revD : D → Option D
  | .tup ds => some (.tup ds.reverse)
  | .str s => if s.length ≤ SZ then some (.str s.reverse) else none
  | _ => none
def setIx (h : Hs) (o i v : D) : Option Hs := match o with
  | .ref r => match h[r]? with
    | some (.lst ds) => match i with
      | .int k => (ixN ds.length k).map fun j => h.set r (.lst (ds.set j v))
      | _ => none
    | some (.dI kvs) => match i with
      | .int k => if kvs.length < SZ then some (h.set r (.dI (dput kvs k v))) else none
      | _ => none
    | some (.dT kvs) => match i with
      | .tup ds => match intsOf ds with
        | some ks => if kvs.length < SZ then some (h.set r (.dT (dput kvs ks v))) else none
        | none => none
      | _ => none
    | _ => none
  | _ => none
def lenOf (h : Hs) : D → Option Nat
  | .scr l => some l.length
  | .tup ds => some ds.length
  | .fl ds => some ds.length
  | .str s => if s.length ≤ SZ then some s.length else none
  | .ref i => match h[i]? with
    | some (.lst ds) => some ds.length
    | _ => none
  | _ => none
def sortD (h : Hs) (d : D) : Option (List D) := match d with
  | .fi kvs => some (dints (sortI (kvs.map (·.1))))
  | _ => ((seqOf d h).bind intsOf).map fun l => dints (sortI l)
/-- .. of tuples of ints -/
def sortTD (h : Hs) (d : D) : Option (List D) := match d with
  | .fl ds => (tupsOf ds).map fun l => (sortT l).map fun t => .tup (dints t)
  | _ => none
def maxL : List Int → Int
  | [] => 0
  | x :: r => r.foldl (fun a b => if b > a then b else a) x
def one (h : Hs) (o : Option D) : R D := match o with
  | some d => .ok d h
  | none => .bad
def blt (b : Blt) (h : Hs) (ds : List D) : R D := match b, ds with
  | .len, [d] => one h ((lenOf h d).map fun (n : Nat) => D.int n)
  | .abs, [.int i] => .ok (.int (if i < 0 then -i else i)) h
  | .max2, [.int i, .int j] => .ok (.int (if j > i then j else i)) h
  | .min2, [.int i, .int j] => .ok (.int (if j < i then j else i)) h
  | .int, [.int i] => .ok (.int i) h
  | .int, [.bl b] => .ok (.int (if b then 1 else 0)) h
  | .int, [.str s] => match s with
    | [c] => if 48 ≤ c ∧ c < 58 then .ok (.int ((c : Int) - 48)) h else .bad
    | _ => .bad
  | .str, [.int i] => if 0 ≤ i ∧ i < 10 then .ok (.str [48 + i.toNat]) h else .bad
  | .sum, [d] => one h (((seqOf d h).bind intsOf).map fun l => .int l.sum)
  | .sorted, [d] => one h ((sortD h d).map .fl)
  | .sortedT, [d] => one h ((sortTD h d).map .fl)
  | .all, [.fl ds] => one h ((blsOf ds).map fun l => .bl (l.all id))
  | .any, [.fl ds] => one h ((blsOf ds).map fun l => .bl (l.any id))
  | .tuple, [d] => one h ((seqOf d h).map .tup)
  | .list, [.fi kvs] => .ok (.fl (kvs.map fun kv => .int kv.1)) h
  | .list, [d] => one h ((seqOf d h).map .fl)
  | .max, [.fl ds] => match intsOf ds with
    | some (x :: r) => .ok (.int (maxL (x :: r))) h
    | _ => .bad
  | .maxD, [.fl ds] => one h ((intsOf ds).map fun l => .int (maxL l))
  | .sset, [d] => one h (((seqOf d h).bind intsOf).map fun l => .fl (dints (sortI (dedup l))))
  | .lset, [d] => one h (((seqOf d h).bind intsOf).map fun l => .int (dedup l).length)
  | _, _ => .bad
def upC (c : Nat) : Nat := if 97 ≤ c ∧ c ≤ 122 then c - 32 else c
def mth (m : Mth) (h : Hs) (o : D) (ds : List D) : R D := match m, ds with
  | .append, [d] => match o with
    | .ref i => match h[i]? with
      | some (.lst xs) => if xs.length < SZ then .ok .non (h.set i (.lst (xs ++ [d]))) else .bad
      | _ => .bad
    | _ => .bad
  | .extend, [.fl ys] => match o with
    | .ref i => match h[i]? with
      | some (.lst xs) => if xs.length + ys.length ≤ SZ then .ok .non (h.set i (.lst (xs ++ ys))) else .bad
      | _ => .bad
    | _ => .bad
  | .pop, [] => match o with
    | .ref i => match h[i]? with
      | some (.lst xs) => match xs[xs.length - 1]? with
        | some d => .ok d (h.set i (.lst xs.dropLast))
        | none => .bad
      | _ => .bad
    | _ => .bad
  | .count, [d] => match seqOf o h with
    | some xs => if d.flat = true ∧ xs.all D.flat = true then .ok (.int (xs.countP fun z => D.eqv z d)) h else .bad
    | none => .bad
  | .index, [d] => match seqOf o h with
    | some xs => if d.flat = true ∧ xs.all D.flat = true then (match xs.findIdx? fun z => D.eqv z d with
      | some j => .ok (.int j) h
      | none => .bad) else .bad
    | none => .bad
  | .get, [k, d] => match dictAt h o k with
    | some r => .ok (r.getD d) h
    | none => .bad
  | .upper, [] => match o with
    | .str s => if s.length ≤ 1000 ∧ (s.all fun c => decide (c < 128)) = true then .ok (.str (s.map upC)) h else .bad
    | _ => .bad
  | _, _ => .bad
/-- has it such a method -/
def mok (m : Mth) (h : Hs) (x : D) : Bool := match m with
  | .get => match x with
    | .fi _ => true
    | .ft _ => true
    | .fs _ => true
    | .ref i => match h[i]? with
      | some (.dI _) => true
      | some (.dT _) => true
      | _ => false
    | _ => false
  | .upper => match x with
    | .str _ => true
    | _ => false
  | .count => (seqOf x h).isSome
  | .index => (seqOf x h).isSome
  | _ => match x with
    | .ref i => match h[i]? with
      | some (.lst _) => true
      | _ => false
    | _ => false
/-- the classes of errors: 0 above all of them but 5, the built-in one -/
def sub (c c' : Nat) : Bool := c == c' || c' == 0 || c' == 5
def isi (t : Ty) (d : D) : Option Bool := match t with
  | .int => match d with
    | .int _ => some true
    | .bl _ => some true
    | .non => some false
    | .str _ => some false
    | .tup _ => some false
    | .fl _ => some false
    | _ => none
  | .bool => match d with
    | .bl _ => some true
    | .int _ => some false
    | .non => some false
    | .str _ => some false
    | .tup _ => some false
    | .fl _ => some false
    | _ => none
  | .str => match d with
    | .str _ => some true
    | .int _ => some false
    | .bl _ => some false
    | .non => some false
    | .tup _ => some false
    | .fl _ => some false
    | _ => none
  | .tuple => match d with
    | .tup _ => some true
    | .int _ => some false
    | .bl _ => some false
    | .non => some false
    | .str _ => some false
    | .fl _ => some false
    | _ => none
  | .intstr => match d with
    | .int _ => some true
    | .bl _ => some true
    | .str _ => some true
    | .non => some false
    | .tup _ => some false
    | .fl _ => some false
    | _ => none
  | .exc c => match d with
    | .exc c' => some (sub c' c)
    | .non => some false
    | _ => none
def truD (h : Hs) : D → Option Bool
  | .non => some false
  | .bl b => some b
  | .int i => some (i != 0)
  | .fl ds => some (!ds.isEmpty)
  | .tup ds => some (!ds.isEmpty)
  | .ref i => match h[i]? with
    | some (.lst ds) => some (!ds.isEmpty)
    | _ => none
  | _ => none
def freeze (h : Hs) : D → R D
  | .ref i => match h[i]? with
    | some (.lst ds) => .ok (.fl ds) (h.set i .gone)
    | some (.dI kvs) => .ok (.fi kvs) (h.set i .gone)
    | some (.dT kvs) => .ok (.ft kvs) (h.set i .gone)
    | _ => .bad
  | d => .ok d h
def putF (f : String) (v : D) : List (String × D) → List (String × D)
  | [] => [(f, v)]
  | (g, x) :: r => if g = f then (f, v) :: r else (g, x) :: putF f v r

/-! ### the syntax -/
inductive Tg | n (i : Nat) | t (is : List Nat)
  deriving DecidableEq
mutual
inductive E where
  | int (i : Int) | str (s : S) | bl (b : Bool) | non
  | var (i : Nat) | glo (g : Nat)
  | tup (es : Es) | lst (es : Es) | lstM (es : Es) | frz (e : E)
  | bin (o : Bop) (a b : E) | catM (a b : E) | neg (a : E)
  | cmp (o : Cop) (a b : E) | chn (o p : Cop) (a b c : E)
  | not (a : E) | and (es : Es) | or (es : Es) | ite (t : T) (a b : E)
  | idx (a i : E) | sl (a : E) (lo hi : Oe) | rev (a : E)
  | call (f : Nat) (es : Es) | blt (b : Blt) (es : Es) | isi (t : Ty) (a : E)
  | mth (m : Mth) (o : E) (es : Es) | own (c : Nat) (m : String) (f : Nat) (o : E) (es : Es)
  | mk (c : Nat) (es : Es) | fld (c : Nat) (o : E) (f : String)
  | dI0 | dT0 | dI1 (k v : E) | dT1 (v : E) | dS (ks : List S) (vs : Es)
  | lc (elt : E) (tg : Tg) (it : It) (t : T)
inductive Es where
  | nil | cons (e : E) (es : Es)
inductive Oe where
  | no | yes (e : E)
inductive T where
  | tt | cmp (o : Cop) (a b : E) | chn (o p : Cop) (a b c : E) | not (t : T) | and (ts : Ts) | or (ts : Ts) | tru (e : E)
inductive Ts where
  | nil | cons (t : T) (ts : Ts)
inductive It where
  | seq (e : E) | rng1 (e : E) | rng2 (a b : E) | enm (e : E) | zip (a b : E)
end
mutual
inductive St where
  | asg (i : Nat) (e : E) | asgT (is : List Nat) (e : E) | par (i j : Nat) (a b : E)
  | setI (o i e : E) | setF (c : Nat) (o : E) (f : String) (e : E)
  | ex (e : E) | ret (e : E) | retN
  | ite (t : T) (a b : Ss) | for_ (tg : Tg) (it : It) (b : Ss) | whl (t : T) (b : Ss)
  | raise (c : Nat) | tryO (b : Ss) (c : Nat) (s : Ss) | tryA (b : Ss) (c : Nat) (i : Nat) (s : Ss)
  | brk | pass | frzV (i : Nat)
inductive Ss where
  | nil | cons (s : St) (ss : Ss)
end

/-! ### what it does -/
structure Cfg where
  call : Nat → List D → Hs → R D
  init : Nat → List D → Hs → R D
  ini : Nat → Nat
  glo : Nat → D
  W : Nat

def setTg (tg : Tg) (ρ : Env) (d : D) : Option Env := match tg with
  | .n i => some (ρ.set i (some d))
  | .t is => match d with
    | .tup ds => if ds.length = is.length then some ((is.zip ds).foldl (fun r p => r.set p.1 (some p.2)) ρ) else none
    | _ => none
def Tg.slots : Tg → List Nat
  | .n i => [i]
  | .t is => is
def wipe (ρ : Env) : List Nat → Env
  | [] => ρ
  | v :: vs => (wipe ρ vs).set v none
def rngD (a b : Int) : List D := (List.range (b - a).toNat).map fun (i : Nat) => D.int (a + i)
def enmD : Nat → List D → List D
  | _, [] => []
  | n, d :: r => .tup [.int n, d] :: enmD (n + 1) r
def zipD : List D → List D → List D
  | a :: r, b :: t => .tup [a, b] :: zipD r t
  | _, _ => []
def loopC (f : D → Hs → R (Option D)) : List D → List D → Hs → R (List D)
  | [], acc, h => .ok acc h
  | d :: r, acc, h => (f d h).bind fun o h => match o with
    | some v => if acc.length < SZ then loopC f r (acc ++ [v]) h else .bad
    | none => loopC f r acc h
def loopS (f : D → Env → Hs → RS) : List D → Env → Hs → RS
  | [], ρ, h => .nx ρ h
  | d :: r, ρ, h => match f d ρ h with
    | .nx ρ h => loopS f r ρ h
    | .ct ρ h => loopS f r ρ h
    | .bk ρ h => .nx ρ h
    | .rt d h => .rt d h
    | .ex c ρ h => .ex c ρ h
    | .bad => .bad
def loopW (t : Env → Hs → R Bool) (f : Env → Hs → RS) : Nat → Env → Hs → RS
  | 0, _, _ => .bad
  | n + 1, ρ, h => (t ρ h).toS ρ fun b h => if b = true then (match f ρ h with
    | .nx ρ h => loopW t f n ρ h
    | .ct ρ h => loopW t f n ρ h
    | .bk ρ h => .nx ρ h
    | .rt d h => .rt d h
    | .ex c ρ h => .ex c ρ h
    | .bad => .bad) else .nx ρ h
/-- no error may leave a comprehension -/
def noEx {α : Type} : R α → R α
  | .ok a h => .ok a h
  | _ => .bad
@[simp] theorem noEx_ok {α : Type} (a : α) (h : Hs) : noEx (.ok a h) = .ok a h := rfl
def zipKs : List S → List D → List (S × D)
  | k :: ks, d :: ds => (k, d) :: zipKs ks ds
  | _, _ => []
def RS.andThen (r : RS) (f : Env → Hs → RS) : RS := match r with
  | .nx ρ h => f ρ h
  | r => r
@[simp] theorem RS.andThen_nx (ρ : Env) (h : Hs) (f) : (RS.nx ρ h).andThen f = f ρ h := rfl
@[simp] theorem RS.andThen_rt (d : D) (h : Hs) (f) : (RS.rt d h).andThen f = .rt d h := rfl
@[simp] theorem RS.andThen_ex (c) (ρ : Env) (h : Hs) (f) : (RS.ex c ρ h).andThen f = .ex c ρ h := rfl
@[simp] theorem RS.andThen_bk (ρ : Env) (h : Hs) (f) : (RS.bk ρ h).andThen f = .bk ρ h := rfl
@[simp] theorem RS.andThen_ct (ρ : Env) (h : Hs) (f) : (RS.ct ρ h).andThen f = .ct ρ h := rfl
@[simp] theorem RS.andThen_bad (f) : (RS.bad).andThen f = .bad := rfl

section
variable (C : Cfg)
mutual
def E.sem : E → Env → Hs → R D
  | .int i, _, h => .ok (.int i) h
  | .str s, _, h => .ok (.str s) h
  | .bl b, _, h => .ok (.bl b) h
  | .non, _, h => .ok .non h
  | .var i, ρ, h => match ρ[i]? with
    | some (some d) => .ok d h
    | _ => .bad
  | .glo g, _, h => .ok (C.glo g) h
  | .tup es, ρ, h => (es.sem ρ h).bind fun ds h => if ds.length ≤ SZ then .ok (.tup ds) h else .bad
  | .lst es, ρ, h => (es.sem ρ h).bind fun ds h => if ds.length ≤ SZ then .ok (.fl ds) h else .bad
  | .lstM es, ρ, h => (es.sem ρ h).bind fun ds h => if ds.length ≤ SZ then .ok (.ref h.length) (h ++ [.lst ds]) else .bad
  | .frz e, ρ, h => (e.sem ρ h).bind fun d h => freeze h d
  | .bin o a b, ρ, h => (a.sem ρ h).bind fun x h => (b.sem ρ h).bind fun y h => bop o h x y
  | .catM a b, ρ, h => (a.sem ρ h).bind fun x h => (b.sem ρ h).bind fun y h => match x, y with
    | .fl xs, .fl ys => if xs.length + ys.length ≤ SZ then .ok (.ref h.length) (h ++ [.lst (xs ++ ys)]) else .bad
    | _, _ => .bad
  | .neg a, ρ, h => (a.sem ρ h).bind fun x h => match x with
    | .int i => .ok (.int (-i)) h
    | _ => .bad
  | .cmp o a b, ρ, h => (a.sem ρ h).bind fun x h => (b.sem ρ h).bind fun y h => cop o h x y
  | .chn o p a b c, ρ, h => (a.sem ρ h).bind fun x h => (b.sem ρ h).bind fun y h => (cop o h x y).bind fun k h => match k with
    | .bl true => (c.sem ρ h).bind fun z h => cop p h y z
    | .bl false => .ok (.bl false) h
    | _ => .bad
  | .not a, ρ, h => (a.sem ρ h).bind fun x h => match x with
    | .bl b => .ok (.bl (!b)) h
    | _ => .bad
  | .and es, ρ, h => es.semAnd ρ h
  | .or es, ρ, h => es.semOr ρ h
  | .ite t a b, ρ, h => (t.sem ρ h).bind fun k h => if k = true then a.sem ρ h else b.sem ρ h
  | .idx a i, ρ, h => (a.sem ρ h).bind fun x h => (i.sem ρ h).bind fun y h => one h (index h x y)
  | .sl a lo hi, ρ, h => (a.sem ρ h).bind fun x h => (lo.sem ρ h).bind fun l h => (hi.sem ρ h).bind fun u h => one h (slice x l u)
  | .rev a, ρ, h => (a.sem ρ h).bind fun x h => one h (revD x)
  | .call f es, ρ, h => (es.sem ρ h).bind fun ds h => C.call f ds h
  | .blt b es, ρ, h => (es.sem ρ h).bind fun ds h => Y.blt b h ds
  | .isi t a, ρ, h => (a.sem ρ h).bind fun x h => one h ((Y.isi t x).map .bl)
  | .mth m o es, ρ, h => (o.sem ρ h).bind fun x h => if mok m h x = true then (es.sem ρ h).bind fun ds h => Y.mth m h x ds else .bad
  | .own c m f o es, ρ, h => (o.sem ρ h).bind fun x h => match x with
    | .ref i => match h[i]? with
      | some (.ins c' fs) => if c' = c ∧ fs.lookup m = none then (es.sem ρ h).bind fun ds h => C.call f (.ref i :: ds) h else .bad
      | _ => .bad
    | _ => .bad
  | .mk c es, ρ, h => (es.sem ρ h).bind fun ds h => (C.init (C.ini c) (.ref h.length :: ds) (h ++ [.ins c []])).bind fun d h' => match d with
    | .non => .ok (.ref h.length) h'
    | _ => .bad
  | .fld c o f, ρ, h => (o.sem ρ h).bind fun x h => match x with
    | .ref i => match h[i]? with
      | some (.ins c' fs) => if c' = c then one h (fs.lookup f) else .bad
      | _ => .bad
    | _ => .bad
  | .dI0, _, h => .ok (.ref h.length) (h ++ [.dI []])
  | .dT0, _, h => .ok (.ref h.length) (h ++ [.dT []])
  | .dI1 k v, ρ, h => (k.sem ρ h).bind fun x h => (v.sem ρ h).bind fun y h => match x with
    | .int i => .ok (.fi [(i, y)]) h
    | _ => .bad
  | .dT1 v, ρ, h => (v.sem ρ h).bind fun y h => .ok (.ft [([], y)]) h
  | .dS ks vs, ρ, h => (vs.sem ρ h).bind fun ds h => .ok (.fs (zipKs ks ds)) h
  | .lc elt tg it t, ρ, h => (it.sem ρ h).bind fun ds h => (noEx (loopC (fun d h => match setTg tg (wipe ρ tg.slots) d with
      | some ρ' => (t.sem ρ' h).bind fun k h => if k = true then (elt.sem ρ' h).bind fun v h => .ok (some v) h else .ok none h
      | none => .bad) ds [] h)).bind fun vs h => .ok (.fl vs) h
def Es.sem : Es → Env → Hs → R (List D)
  | .nil, _, h => .ok [] h
  | .cons e es, ρ, h => (e.sem ρ h).bind fun d h => (es.sem ρ h).bind fun ds h => .ok (d :: ds) h
def Es.semAnd : Es → Env → Hs → R D
  | .nil, _, _ => .bad
  | .cons e .nil, ρ, h => e.sem ρ h
  | .cons e es, ρ, h => (e.sem ρ h).bind fun d h => match d with
    | .bl true => es.semAnd ρ h
    | .bl false => .ok (.bl false) h
    | _ => .bad
def Es.semOr : Es → Env → Hs → R D
  | .nil, _, _ => .bad
  | .cons e .nil, ρ, h => e.sem ρ h
  | .cons e es, ρ, h => (e.sem ρ h).bind fun d h => match d with
    | .bl true => .ok (.bl true) h
    | .bl false => es.semOr ρ h
    | _ => .bad
def Oe.sem : Oe → Env → Hs → R (Option Int)
  | .no, _, h => .ok none h
  | .yes e, ρ, h => (e.sem ρ h).bind fun d h => match d with
    | .int i => .ok (some i) h
    | _ => .bad
def T.sem : T → Env → Hs → R Bool
  | .tt, _, h => .ok true h
  | .cmp o a b, ρ, h => (a.sem ρ h).bind fun x h => (b.sem ρ h).bind fun y h => (cop o h x y).bind fun k h => match k with
    | .bl k => .ok k h
    | _ => .bad
  | .chn o p a b c, ρ, h => (a.sem ρ h).bind fun x h => (b.sem ρ h).bind fun y h => (cop o h x y).bind fun k h => match k with
    | .bl true => (c.sem ρ h).bind fun z h => (cop p h y z).bind fun k h => match k with
      | .bl k => .ok k h
      | _ => .bad
    | .bl false => .ok false h
    | _ => .bad
  | .not t, ρ, h => (t.sem ρ h).bind fun k h => .ok (!k) h
  | .and ts, ρ, h => ts.semAnd ρ h
  | .or ts, ρ, h => ts.semOr ρ h
  | .tru e, ρ, h => (e.sem ρ h).bind fun d h => match truD h d with
    | some k => .ok k h
    | none => .bad
def Ts.semAnd : Ts → Env → Hs → R Bool
  | .nil, _, _ => .bad
  | .cons t .nil, ρ, h => t.sem ρ h
  | .cons t ts, ρ, h => (t.sem ρ h).bind fun k h => if k = true then ts.semAnd ρ h else .ok false h
def Ts.semOr : Ts → Env → Hs → R Bool
  | .nil, _, _ => .bad
  | .cons t .nil, ρ, h => t.sem ρ h
  | .cons t ts, ρ, h => (t.sem ρ h).bind fun k h => if k = true then .ok true h else ts.semOr ρ h
def It.sem : It → Env → Hs → R (List D)
  | .seq e, ρ, h => (e.sem ρ h).bind fun d h => match itemsOf d with
    | some ds => .ok ds h
    | none => .bad
  | .rng1 e, ρ, h => (e.sem ρ h).bind fun d h => match d with
    | .int n => if n.natAbs < 4611686018427387904 then .ok (rngD 0 n) h else .bad
    | _ => .bad
  | .rng2 a b, ρ, h => (a.sem ρ h).bind fun x h => (b.sem ρ h).bind fun y h => match x, y with
    | .int m, .int n => if m.natAbs < 4611686018427387904 ∧ n.natAbs < 4611686018427387904 then .ok (rngD m n) h else .bad
    | _, _ => .bad
  | .enm e, ρ, h => (e.sem ρ h).bind fun d h => match d with
    | .fl ds => .ok (enmD 0 ds) h
    | _ => .bad
  | .zip a b, ρ, h => (a.sem ρ h).bind fun x h => (b.sem ρ h).bind fun y h => match x, y with
    | .tup xs, .tup ys => .ok (zipD xs ys) h
    | _, _ => .bad
end
mutual
def St.sem : St → Env → Hs → RS
  | .asg i e, ρ, h => (e.sem C ρ h).toS ρ fun d h => .nx (ρ.set i (some d)) h
  | .asgT is e, ρ, h => (e.sem C ρ h).toS ρ fun d h => match setTg (.t is) ρ d with
    | some ρ' => .nx ρ' h
    | none => .bad
  | .par i j a b, ρ, h => (a.sem C ρ h).toS ρ fun x h => (b.sem C ρ h).toS ρ fun y h => .nx ((ρ.set i (some x)).set j (some y)) h
  | .setI o i e, ρ, h => (e.sem C ρ h).toS ρ fun v h => (o.sem C ρ h).toS ρ fun x h => (i.sem C ρ h).toS ρ fun y h => match setIx h x y v with
    | some h' => .nx ρ h'
    | none => .bad
  | .setF c' o f e, ρ, h => (e.sem C ρ h).toS ρ fun v h => (o.sem C ρ h).toS ρ fun x h => match x with
    | .ref i => match h[i]? with
      | some (.ins c fs) => if c = c' ∧ fs.length < 1000 then .nx ρ (h.set i (.ins c (putF f v fs))) else .bad
      | _ => .bad
    | _ => .bad
  | .ex e, ρ, h => (e.sem C ρ h).toS ρ fun _ h => .nx ρ h
  | .ret e, ρ, h => (e.sem C ρ h).toS ρ fun d h => .rt d h
  | .retN, _, h => .rt .non h
  | .ite t a b, ρ, h => (t.sem C ρ h).toS ρ fun k h => if k = true then a.sem ρ h else b.sem ρ h
  | .for_ tg it b, ρ, h => (it.sem C ρ h).toS ρ fun ds h => loopS (fun d ρ h => match setTg tg ρ d with
    | some ρ' => b.sem ρ' h
    | none => .bad) ds ρ h
  | .whl t b, ρ, h => loopW (fun ρ h => t.sem C ρ h) (fun ρ h => b.sem ρ h) C.W ρ h
  | .raise c, ρ, h => .ex c ρ h
  | .tryO b c s, ρ, h => match b.sem ρ h with
    | .ex c' ρ' h' => if sub c' c = true then s.sem ρ' h' else .ex c' ρ' h'
    | r => r
  | .tryA b c i s, ρ, h => match b.sem ρ h with
    | .ex c' ρ' h' => if sub c' c = true then (match s.sem (ρ'.set i (some (.exc c'))) h' with
      | .nx ρ2 h2 => .nx (ρ2.set i none) h2
      | _ => .bad) else .ex c' ρ' h'
    | r => r
  | .brk, ρ, h => .bk ρ h
  | .pass, ρ, h => .nx ρ h
  | .frzV i, ρ, h => match ρ[i]? with
    | some (some d) => (freeze h d).toS ρ fun d h => .nx (ρ.set i (some d)) h
    | _ => .bad
def Ss.sem : Ss → Env → Hs → RS
  | .nil, ρ, h => .nx ρ h
  | .cons s ss, ρ, h => (s.sem ρ h).andThen fun ρ h => ss.sem ρ h
end
end

/-- a def: its body, how many names it has, how many parameters, and whether what it makes goes with its end -/
structure Fd where
  body : Ss
  names : Nat
  pars : Nat
  tr : Bool
def enter (n : Nat) (ds : List D) : Env := ds.map some ++ List.replicate (n - ds.length) none
mutual
/-- every object within is below k -/
def D.rb (k : Nat) : D → Bool
  | .ref i => decide (i < k)
  | .tup ds => D.rbs k ds
  | .fl ds => D.rbs k ds
  | .fi kvs => D.rbi k kvs
  | .ft kvs => D.rbt k kvs
  | .fs kvs => D.rbk k kvs
  | _ => true
def D.rbs (k : Nat) : List D → Bool
  | [] => true
  | d :: r => D.rb k d && D.rbs k r
def D.rbi (k : Nat) : List (Int × D) → Bool
  | [] => true
  | (_, d) :: r => D.rb k d && D.rbi k r
def D.rbt (k : Nat) : List (List Int × D) → Bool
  | [] => true
  | (_, d) :: r => D.rb k d && D.rbt k r
def D.rbk (k : Nat) : List (S × D) → Bool
  | [] => true
  | (_, d) :: r => D.rb k d && D.rbk k r
end
def rbf (k : Nat) : List (String × D) → Bool
  | [] => true
  | (_, d) :: r => D.rb k d && rbf k r
def Ob.rb (k : Nat) : Ob → Bool
  | .lst ds => D.rbs k ds
  | .dI kvs => D.rbi k kvs
  | .dT kvs => D.rbt k kvs
  | .ins _ fs => rbf k fs
  | .gone => true
/-- what a def made is forgotten at its end -/
def cutR (b : Bool) (n : Nat) (r : R D) : R D := if b = true then (match r with
  | .ok d h' => if d.rb n = true ∧ (h'.take n).all (Ob.rb n) = true then .ok d (h'.take n) else .bad
  | .ex c h' => if (h'.take n).all (Ob.rb n) = true then .ex c (h'.take n) else .bad
  | .bad => .bad) else r
def RS.toR : RS → R D
  | .nx _ h => .ok .non h
  | .rt d h => .ok d h
  | .ex c _ h => .ex c h
  | _ => .bad
def runF (C : Cfg) (F : Fd) (ds : List D) (h : Hs) : R D :=
  if ds.length = F.pars then cutR F.tr h.length (F.body.sem C (enter F.names ds) h).toR else .bad
structure Prog where
  fd : Nat → Fd
  ini : Nat → Nat
  glo : Nat → D
  W : Nat
def interp (P : Prog) : Nat → Nat → List D → Hs → R D
  | 0, _, _, _ => .bad
  | n + 1, f, ds, h => runF { call := interp P n, init := interp P (n - 1), ini := P.ini, glo := P.glo, W := P.W } (P.fd f) ds h
end Y

set_option Elab.async false
set_option linter.all false
set_option maxRecDepth 100000
set_option maxHeartbeats 4000000
/-! How the store of the language lies in the model's heap. -/
namespace Y
open PySem PySem.Spec PyProof.Rows
open L2 (V Hp HO upd upd_same upd_ne SqL SqT Rd VK TE TT TA TS TG XK WX Cx Inv PE PT PA PS PSs PG PI Key RelV Vals EP Mut ne_of ne_of_none)

/-- what of the model the language's words stand for -/
structure Gm where
  K : PySem.W.Frag
  w : World
  cls : Nat → Addr
  exc : Nat → Value

/-- what never changes -/
def Imm : HO → Prop
  | .tup _ => True
  | .frz _ _ => True
  | .ext _ => True
  | _ => False

abbrev toStr (s : S) : Str := ⟨s.toArray⟩

/-- a list that no one changes any more -/
def FzL (K : PySem.W.Frag) (H : Hp) (a : Addr) (xs : List V) : Prop :=
  (∃ o, H a = some (.frz o (.lst xs))) ∨
    ∃ (o : Obj) (its : Array Value) (n : Nat), K.lookup a = some o ∧ o.cls = .type "list" ∧ o.dict = none ∧ o.data = .seq its n ∧ its.size ≤ sizeLine ∧ Vals xs its.toList
theorem FzL.sq {K : PySem.W.Frag} {H : Hp} {a : Addr} {xs : List V} (h : FzL K H a xs) : SqL K H a xs := by
  rcases h with ⟨o, h⟩ | h
  · exact .inl (.inr ⟨o, h⟩)
  · exact .inr h
/-- a dict of the module: its keys and values texts -/
structure KD (G : Gm) (a : Addr) (kvs : List (S × S)) : Prop where
  kd : ∃ (es : Array DictEntry) (n : Nat), L2.KDict G.K G.w a es n ∧ Paired (fun (e : DictEntry) (kv : S × S) => (∃ t, e.key = Value.str (toStr kv.1) t) ∧ ∃ t, e.val = Value.str (toStr kv.2) t) es.toList kvs
  look : ∀ s : S, match kvs.find? fun kv => decide (kv.1 = s) with
    | some kv => ∃ t, PySem.W.nsIn G.K a (toStr s) = some (some (Value.str (toStr kv.2) t))
    | none => PySem.W.nsIn G.K a (toStr s) = some none
/-- an error that was caught, of the class with the number c -/
def ExAt (G : Gm) (a : Addr) (c : Nat) : HO := .ext fun h => ∃ (C : Addr) (oe : Obj) (vs : Array Value), G.exc c = .ref C ∧ h.get? a = some oe ∧ L2.Zc (.ref C) none oe ∧ oe.data = .fields vs

/-- a tuple of the module -/
def KTup (K : PySem.W.Frag) (a : Addr) (xs : List V) : Prop :=
  ∃ (o : Obj) (its : Array Value) (n : Nat), K.lookup a = some o ∧ o.cls = .type "tuple" ∧ o.data = .seq its n ∧ its.size ≤ sizeLine ∧ Vals xs its.toList
mutual
/-- the value v stands for d; n: how many objects the store has -/
inductive Rep (G : Gm) (π : Nat → Addr) (n : Nat) (H : Hp) : V → D → Prop
  | non : Rep G π n H .non .non
  | bl (b : Bool) : Rep G π n H (.bl b) (.bl b)
  | int (i : Int) : Rep G π n H (.int i) (.int i)
  | str (s : S) : Rep G π n H (.str (toStr s)) (.str s)
  | tup {a : Addr} {xs : List V} {ds : List D} : H a = some (.tup xs) → Reps G π n H xs ds → Rep G π n H (.ref a) (.tup ds)
  | ktup {a : Addr} {xs : List V} {ds : List D} : KTup G.K a xs → Reps G π n H xs ds → intsOf ds = none → Rep G π n H (.ref a) (.tup ds)
  | fl {a : Addr} {o : Obj} {xs : List V} {ds : List D} : H a = some (.frz o (.lst xs)) → Reps G π n H xs ds → Rep G π n H (.ref a) (.fl ds)
  | scr {a : Addr} {l : List Int} : FzL G.K H a (l.map V.int) → Rep G π n H (.ref a) (.scr l)
  | fi {a : Addr} {o : Obj} {ks : List (Key × V)} {kvs : List (Int × D)} : H a = some (.frz o (.dK ks)) → RepI G π n H ks kvs → Rep G π n H (.ref a) (.fi kvs)
  | ft {a : Addr} {o : Obj} {ks : List (List Key × V)} {kvs : List (List Int × D)} : H a = some (.frz o (.dT ks)) → RepT G π n H ks kvs → Rep G π n H (.ref a) (.ft kvs)
  | fs {a : Addr} {o : Obj} {ks : List (Key × V)} {kvs : List (S × D)} : H a = some (.frz o (.dK ks)) → RepS G π n H ks kvs → Rep G π n H (.ref a) (.fs kvs)
  | fk {a : Addr} {kvs : List (S × S)} : KD G a kvs → Rep G π n H (.ref a) (.fs (kvs.map fun kv => (kv.1, .str kv.2)))
  | ref (i : Nat) : i < n → Rep G π n H (.ref (π i)) (.ref i)
  | exc {a : Addr} (c : Nat) : H a = some (ExAt G a c) → Rep G π n H (.ref a) (.exc c)
inductive Reps (G : Gm) (π : Nat → Addr) (n : Nat) (H : Hp) : List V → List D → Prop
  | nil : Reps G π n H [] []
  | cons {v : V} {d : D} {vs : List V} {ds : List D} : Rep G π n H v d → Reps G π n H vs ds → Reps G π n H (v :: vs) (d :: ds)
inductive RepI (G : Gm) (π : Nat → Addr) (n : Nat) (H : Hp) : List (Key × V) → List (Int × D) → Prop
  | nil : RepI G π n H [] []
  | cons {i : Int} {v : V} {d : D} {vs : List (Key × V)} {ds : List (Int × D)} : Rep G π n H v d → RepI G π n H vs ds → RepI G π n H ((.inl i, v) :: vs) ((i, d) :: ds)
inductive RepT (G : Gm) (π : Nat → Addr) (n : Nat) (H : Hp) : List (List Key × V) → List (List Int × D) → Prop
  | nil : RepT G π n H [] []
  | cons {ks : List Int} {v : V} {d : D} {vs : List (List Key × V)} {ds : List (List Int × D)} : Rep G π n H v d → RepT G π n H vs ds → RepT G π n H ((ks.map Sum.inl, v) :: vs) ((ks, d) :: ds)
inductive RepS (G : Gm) (π : Nat → Addr) (n : Nat) (H : Hp) : List (Key × V) → List (S × D) → Prop
  | nil : RepS G π n H [] []
  | cons {s : S} {v : V} {d : D} {vs : List (Key × V)} {ds : List (S × D)} : Rep G π n H v d → RepS G π n H vs ds → RepS G π n H ((.inr (toStr s), v) :: vs) ((s, d) :: ds)
end

/-- from (π, n, H) on to (π', n', H') -/
structure Stp (π : Nat → Addr) (n : Nat) (H : Hp) (π' : Nat → Addr) (n' : Nat) (H' : Hp) : Prop where
  le : n ≤ n'
  ext : ∀ i, i < n → π' i = π i
  new : ∀ i, n ≤ i → i < n' → H (π' i) = none
  imm : ∀ a o, H a = some o → Imm o → H' a = some o
  fr : ∀ a o, H a = some o → (∀ i, i < n → π i ≠ a) → H' a = some o

/-- what stands for good is kept -/
structure Lk (π : Nat → Addr) (n : Nat) (H : Hp) (π' : Nat → Addr) (n' : Nat) (H' : Hp) : Prop where
  le : n ≤ n'
  ext : ∀ i, i < n → π' i = π i
  imm : ∀ a o, H a = some o → Imm o → H' a = some o
section
variable {G : Gm} {π π' π'' : Nat → Addr} {n n' n'' : Nat} {H H' H'' : Hp}
theorem Lk.fzl (s : Lk π n H π' n' H') {K : PySem.W.Frag} {a : Addr} {xs : List V} (h : FzL K H a xs) : FzL K H' a xs := by
  rcases h with ⟨o, h⟩ | h
  · exact .inl ⟨o, s.imm _ _ h trivial⟩
  · exact .inr h
mutual
theorem Rep.lk (s : Lk π n H π' n' H') : ∀ {v : V} {d : D}, Rep G π n H v d → Rep G π' n' H' v d
  | _, _, .non => .non
  | _, _, .bl b => .bl b
  | _, _, .int i => .int i
  | _, _, .str x => .str x
  | _, _, .tup h r => .tup (s.imm _ _ h trivial) (Reps.lk s r)
  | _, _, .ktup h r e => .ktup h (Reps.lk s r) e
  | _, _, .fl h r => .fl (s.imm _ _ h trivial) (Reps.lk s r)
  | _, _, .scr h => .scr (s.fzl h)
  | _, _, .fi h r => .fi (s.imm _ _ h trivial) (RepI.lk s r)
  | _, _, .ft h r => .ft (s.imm _ _ h trivial) (RepT.lk s r)
  | _, _, .fs h r => .fs (s.imm _ _ h trivial) (RepS.lk s r)
  | _, _, .fk h => .fk h
  | _, _, .ref i hi => by rw [← s.ext i hi]; exact .ref i (Nat.lt_of_lt_of_le hi s.le)
  | _, _, .exc c h => .exc c (s.imm _ _ h trivial)
theorem Reps.lk (s : Lk π n H π' n' H') : ∀ {v : List V} {d : List D}, Reps G π n H v d → Reps G π' n' H' v d
  | _, _, .nil => .nil
  | _, _, .cons h r => .cons (Rep.lk s h) (Reps.lk s r)
theorem RepI.lk (s : Lk π n H π' n' H') : ∀ {v : List (Key × V)} {d : List (Int × D)}, RepI G π n H v d → RepI G π' n' H' v d
  | _, _, .nil => .nil
  | _, _, .cons h r => .cons (Rep.lk s h) (RepI.lk s r)
theorem RepT.lk (s : Lk π n H π' n' H') : ∀ {v : List (List Key × V)} {d : List (List Int × D)}, RepT G π n H v d → RepT G π' n' H' v d
  | _, _, .nil => .nil
  | _, _, .cons h r => .cons (Rep.lk s h) (RepT.lk s r)
theorem RepS.lk (s : Lk π n H π' n' H') : ∀ {v : List (Key × V)} {d : List (S × D)}, RepS G π n H v d → RepS G π' n' H' v d
  | _, _, .nil => .nil
  | _, _, .cons h r => .cons (Rep.lk s h) (RepS.lk s r)
end
theorem Stp.lk (s : Stp π n H π' n' H') : Lk π n H π' n' H' := ⟨s.le, s.ext, s.imm⟩
theorem Stp.fzl (s : Stp π n H π' n' H') {K : PySem.W.Frag} {a : Addr} {xs : List V} (h : FzL K H a xs) : FzL K H' a xs := s.lk.fzl h
theorem Rep.step (s : Stp π n H π' n' H') {v : V} {d : D} (r : Rep G π n H v d) : Rep G π' n' H' v d := r.lk s.lk
theorem Reps.step (s : Stp π n H π' n' H') {v : List V} {d : List D} (r : Reps G π n H v d) : Reps G π' n' H' v d := r.lk s.lk
theorem RepI.step (s : Stp π n H π' n' H') {v : List (Key × V)} {d : List (Int × D)} (r : RepI G π n H v d) : RepI G π' n' H' v d := r.lk s.lk
theorem RepT.step (s : Stp π n H π' n' H') {v : List (List Key × V)} {d : List (List Int × D)} (r : RepT G π n H v d) : RepT G π' n' H' v d := r.lk s.lk
theorem RepS.step (s : Stp π n H π' n' H') {v : List (Key × V)} {d : List (S × D)} (r : RepS G π n H v d) : RepS G π' n' H' v d := r.lk s.lk
theorem Rep.sqt {v : V} {ds : List D} (r : Rep G π n H v (.tup ds)) : ∃ a xs, v = .ref a ∧ SqT G.K H a xs ∧ Reps G π n H xs ds ∧ (intsOf ds ≠ none → H a = some (.tup xs)) := by
  cases r with
  | tup h q => exact ⟨_, _, rfl, .inl (.inl h), q, fun _ => h⟩
  | ktup h q e => exact ⟨_, _, rfl, .inr h, q, fun z => absurd e z⟩
/-- an instance's attributes -/
def RepF (G : Gm) (π : Nat → Addr) (n : Nat) (H : Hp) : List (Str × V) → List (String × D) → Prop
  | [], [] => True
  | (f, v) :: r, (g, d) :: t => f = Str.ofString g ∧ Rep G π n H v d ∧ RepF G π n H r t
  | _, _ => False
theorem RepF.lk (s : Lk π n H π' n' H') : ∀ {v : List (Str × V)} {d : List (String × D)}, RepF G π n H v d → RepF G π' n' H' v d
  | [], [], _ => trivial
  | (f, v) :: r, (g, d) :: t, h => ⟨h.1, Rep.lk s h.2.1, RepF.lk s h.2.2⟩
  | [], _ :: _, h => h.elim
  | _ :: _, [], h => h.elim
theorem RepF.step (s : Stp π n H π' n' H') {v : List (Str × V)} {d : List (String × D)} (r : RepF G π n H v d) : RepF G π' n' H' v d := r.lk s.lk
/-- the object o stands at a -/
def ObR (G : Gm) (π : Nat → Addr) (n : Nat) (H : Hp) (a : Addr) : Ob → Prop
  | .lst ds => ∃ xs, H a = some (.lst xs) ∧ Reps G π n H xs ds
  | .dI kvs => ∃ ks, H a = some (.dK ks) ∧ RepI G π n H ks kvs
  | .dT kvs => ∃ ks, H a = some (.dT ks) ∧ RepT G π n H ks kvs
  | .ins c fs => ∃ dx f', H a = some (.ins (G.cls c) dx f') ∧ RepF G π n H f' fs
  | .gone => ∃ o, H a = some o
structure HpR (G : Gm) (π : Nat → Addr) (h : Hs) (H : Hp) : Prop where
  inj : ∀ i j, i < h.length → j < h.length → π i = π j → i = j
  ob : ∀ i o, h[i]? = some o → ObR G π h.length H (π i) o
theorem ObR.there {a : Addr} {o : Ob} (h : ObR G π n H a o) : ∃ u, H a = some u := by
  cases o with
  | lst ds => obtain ⟨_, e, _⟩ := h; exact ⟨_, e⟩
  | dI ds => obtain ⟨_, e, _⟩ := h; exact ⟨_, e⟩
  | dT ds => obtain ⟨_, e, _⟩ := h; exact ⟨_, e⟩
  | ins c fs => obtain ⟨_, _, e, _⟩ := h; exact ⟨_, e⟩
  | gone => obtain ⟨o, e⟩ := h; exact ⟨o, e⟩
theorem HpR.there {h : Hs} (r : HpR G π h H) {i : Nat} (hi : i < h.length) : ∃ u, H (π i) = some u :=
  (r.ob i h[i] (List.getElem?_eq_getElem hi)).there
theorem HpR.ne_new {h : Hs} (r : HpR G π h H) {a : Addr} (ha : H a = none) {i : Nat} (hi : i < h.length) : π i ≠ a := fun e => by
  obtain ⟨u, q⟩ := r.there hi
  rw [e, ha] at q
  cases q
theorem Stp.refl : Stp π n H π n H := ⟨Nat.le_refl _, fun _ _ => rfl, fun i h1 h2 => absurd (Nat.lt_of_lt_of_le h2 h1) (Nat.lt_irrefl _), fun _ _ h _ => h, fun _ _ h _ => h⟩
theorem Stp.trans {h' : Hs} (s : Stp π n H π' h'.length H') (r : HpR G π' h' H') (t : Stp π' h'.length H' π'' n'' H'') : Stp π n H π'' n'' H'' where
  le := Nat.le_trans s.le t.le
  ext := fun i hi => (t.ext i (Nat.lt_of_lt_of_le hi s.le)).trans (s.ext i hi)
  new := fun i h1 h2 => by
    by_cases hi : i < h'.length
    · rw [t.ext i hi]; exact s.new i h1 hi
    · have q := t.new i (Nat.le_of_not_lt hi) h2
      cases e : H (π'' i) with
      | none => rfl
      | some u =>
        by_cases hz : ∃ j, j < n ∧ π j = π'' i
        · obtain ⟨j, hj, ej⟩ := hz
          have hj' : j < h'.length := Nat.lt_of_lt_of_le hj s.le
          obtain ⟨u, hu⟩ := r.there hj'
          rw [s.ext j hj, ej, q] at hu
          cases hu
        · have z := s.fr _ _ e fun j hj ej => hz ⟨j, hj, ej⟩
          rw [q] at z
          cases z
  imm := fun a o e hi => t.imm a o (s.imm a o e hi) hi
  fr := fun a o e hn => by
    have e1 := s.fr a o e hn
    refine t.fr a o e1 fun i hi z => ?_
    by_cases hj : i < n
    · exact hn i hj ((s.ext i hj).symm.trans z)
    · have q := s.new i (Nat.le_of_not_lt hj) hi
      rw [z, e] at q
      cases q
/-- a new object that the store does not know -/
theorem Stp.lay {h : Hs} (r : HpR G π h H) {a : Addr} {o : HO} (ha : H a = none) : Stp π h.length H π h.length (upd H a o) :=
  ⟨Nat.le_refl _, fun _ _ => rfl, fun i h1 h2 => absurd (Nat.lt_of_lt_of_le h2 h1) (Nat.lt_irrefl _), fun b u e _ => by rw [upd_ne (ne_of_none e ha)]; exact e, fun b u e _ => by rw [upd_ne (ne_of_none e ha)]; exact e⟩
theorem ObR.lk (s : Lk π n H π' n' H') {a : Addr} {o : Ob} (h : ObR G π n H a o) (e : H' a = H a) : ObR G π' n' H' a o := by
  cases o with
  | lst ds => obtain ⟨xs, q, r⟩ := h; exact ⟨xs, e.trans q, r.lk s⟩
  | dI ds => obtain ⟨xs, q, r⟩ := h; exact ⟨xs, e.trans q, r.lk s⟩
  | dT ds => obtain ⟨xs, q, r⟩ := h; exact ⟨xs, e.trans q, r.lk s⟩
  | ins c fs => obtain ⟨dx, xs, q, r⟩ := h; exact ⟨dx, xs, e.trans q, r.lk s⟩
  | gone => obtain ⟨u, q⟩ := h; exact ⟨u, e.trans q⟩
theorem ObR.step (s : Stp π n H π' n' H') {a : Addr} {o : Ob} (h : ObR G π n H a o) (e : H' a = H a) : ObR G π' n' H' a o := h.lk s.lk e
/-- a thing that the store does not know changes -/
theorem Stp.priv {D : Addr} {o : HO} (s : Stp π n H π' n' H') (hn : H D = none) : Stp π n H π' n' (upd H' D o) :=
  ⟨s.le, s.ext, s.new, fun a u e hi => by rw [upd_ne (ne_of_none e hn)]; exact s.imm a u e hi, fun a u e hf => by rw [upd_ne (ne_of_none e hn)]; exact s.fr a u e hf⟩
theorem Lk.priv {D : Addr} {o : HO} (hm : ∀ u, H D = some u → ¬ Imm u) : Lk π n H π n (upd H D o) :=
  ⟨Nat.le_refl _, fun _ _ => rfl, fun a u e hi => by rw [upd_ne (fun z => hm u (by rw [← z]; exact e) hi)]; exact e⟩
theorem HpR.priv {h : Hs} {D : Addr} {o : HO} (r : HpR G π h H) (hm : ∀ u, H D = some u → ¬ Imm u) (hn : ∀ i, i < h.length → π i ≠ D) : HpR G π h (upd H D o) :=
  ⟨r.inj, fun i ob e => (r.ob i ob e).lk (Lk.priv hm) (upd_ne (hn i (List.getElem?_eq_some_iff.mp e).1))⟩
theorem HpR.lay {h : Hs} (r : HpR G π h H) {a : Addr} {o : HO} (ha : H a = none) : HpR G π h (upd H a o) :=
  ⟨r.inj, fun i ob e => (r.ob i ob e).step (Stp.lay r ha) (upd_ne (r.ne_new ha (List.getElem?_eq_some_iff.mp e).1))⟩
/-- an object of the store changes -/
theorem Stp.set {h : Hs} {i : Nat} {o : HO} (hi : i < h.length) (hm : ∀ u, H (π i) = some u → ¬ Imm u) : Stp π h.length H π h.length (upd H (π i) o) :=
  ⟨Nat.le_refl _, fun _ _ => rfl, fun j h1 h2 => absurd (Nat.lt_of_lt_of_le h2 h1) (Nat.lt_irrefl _),
    fun b u e him => by rw [upd_ne (fun z => hm u (by rw [← z]; exact e) him)]; exact e, fun b u e hn => by rw [upd_ne (fun z => hn i hi z.symm)]; exact e⟩
theorem HpR.set {h : Hs} (r : HpR G π h H) {i : Nat} {o : HO} {ob : Ob} (hi : i < h.length) (hm : ∀ u, H (π i) = some u → ¬ Imm u) (ho : ObR G π h.length (upd H (π i) o) (π i) ob) : HpR G π (h.set i ob) (upd H (π i) o) := by
  have s := Stp.set (π := π) (H := H) (o := o) hi hm
  refine ⟨fun a b ha hb => r.inj a b (by simpa using ha) (by simpa using hb), fun j u e => ?_⟩
  rw [List.length_set]
  by_cases hj : j = i
  · subst hj
    rw [List.getElem?_set_self hi] at e
    cases e
    exact ho
  · rw [List.getElem?_set_ne (Ne.symm hj)] at e
    have hjl := (List.getElem?_eq_some_iff.mp e).1
    exact (r.ob j u e).step s (upd_ne fun z => hj (r.inj j i hjl hi z))
/-- a new object of the store -/
def ext1 (π : Nat → Addr) (n : Nat) (p : Addr) : Nat → Addr := fun i => if i = n then p else π i
theorem ext1_lt {p : Addr} {i : Nat} (h : i < n) : ext1 π n p i = π i := if_neg (Nat.ne_of_lt h)
theorem ext1_eq {p : Addr} : ext1 π n p n = p := if_pos rfl
theorem Stp.alloc {h : Hs} {p : Addr} {o : HO} {ob : Ob} (hp : H p = none) : Stp π h.length H (ext1 π h.length p) (h ++ [ob]).length (upd H p o) where
  le := by simp
  ext := fun i hi => ext1_lt hi
  new := fun i h1 h2 => by
    have e : i = h.length := by simp at h2; omega
    subst e
    rw [ext1_eq]
    exact hp
  imm := fun b u e _ => by rw [upd_ne (ne_of_none e hp)]; exact e
  fr := fun b u e _ => by rw [upd_ne (ne_of_none e hp)]; exact e
theorem HpR.alloc {h : Hs} (r : HpR G π h H) {p : Addr} {o : HO} {ob : Ob} (hp : H p = none) (ho : ObR G (ext1 π h.length p) (h ++ [ob]).length (upd H p o) p ob) : HpR G (ext1 π h.length p) (h ++ [ob]) (upd H p o) := by
  have s : Stp π h.length H (ext1 π h.length p) (h ++ [ob]).length (upd H p o) := Stp.alloc hp
  have hl : (h ++ [ob]).length = h.length + 1 := by simp
  refine ⟨fun a b ha hb e => ?_, fun j u e => ?_⟩
  · by_cases h1 : a < h.length
    · by_cases h2 : b < h.length
      · rw [ext1_lt h1, ext1_lt h2] at e; exact r.inj a b h1 h2 e
      · have eb : b = h.length := by omega
        rw [ext1_lt h1, eb, ext1_eq] at e
        exact absurd e (r.ne_new hp h1)
    · have ea : a = h.length := by omega
      by_cases h2 : b < h.length
      · rw [ext1_lt h2, ea, ext1_eq] at e
        exact absurd e.symm (r.ne_new hp h2)
      · omega
  · by_cases hj : j < h.length
    · rw [List.getElem?_append_left hj] at e
      rw [ext1_lt hj]
      exact (r.ob j u e).step s (upd_ne (r.ne_new hp hj))
    · have ej : j = h.length := by have := (List.getElem?_eq_some_iff.mp e).1; omega
      subst ej
      rw [List.getElem?_append_right (Nat.le_refl _), Nat.sub_self] at e
      cases e
      rw [ext1_eq]
      exact ho
/-- the last objects are forgotten -/
theorem HpR.take {h : Hs} (r : HpR G π h H) (k : Nat) (hk : k ≤ h.length) (hr : ∀ (i : Nat) o, (h.take k)[i]? = some o → ObR G π k H (π i) o) : HpR G π (h.take k) H := by
  have hl : (h.take k).length = k := by rw [List.length_take]; omega
  exact ⟨fun a b ha hb => r.inj a b (by omega) (by omega), fun i o e => by rw [hl]; exact hr i o e⟩

/-! ### the slots -/
structure Rl (G : Gm) (π : Nat → Addr) (ρ : Env) (h : Hs) (σ : L2.St) (H : Hp) : Prop where
  len : ρ.length = σ.length
  sl : ∀ (i : Nat) (d : D), ρ[i]? = some (some d) → ∃ v, σ[i]? = some (some v) ∧ Rep G π h.length H v d
  hp : HpR G π h H
theorem Rl.step {ρ : Env} {h h' : Hs} {σ : L2.St} (r : Rl G π ρ h σ H) (s : Stp π h.length H π' h'.length H') (p : HpR G π' h' H') : Rl G π' ρ h' σ H' :=
  ⟨r.len, fun i d e => let ⟨v, e1, q⟩ := r.sl i d e; ⟨v, e1, q.step s⟩, p⟩
theorem Rl.set {ρ : Env} {h : Hs} {σ : L2.St} (r : Rl G π ρ h σ H) {i : Nat} {v : V} {d : D} (q : Rep G π h.length H v d) : Rl G π (ρ.set i (some d)) h (σ.set i (some v)) H := by
  refine ⟨by simp [r.len], fun j d' e => ?_, r.hp⟩
  by_cases hj : j = i
  · subst hj
    have hl : j < ρ.length := by have := (List.getElem?_eq_some_iff.mp e).1; simpa using this
    rw [List.getElem?_set_self hl] at e
    cases e
    exact ⟨v, List.getElem?_set_self (by rw [← r.len]; exact hl), q⟩
  · rw [List.getElem?_set_ne (Ne.symm hj)] at e ⊢
    exact r.sl j d' e
theorem Rl.drop {ρ : Env} {h : Hs} {σ : L2.St} (r : Rl G π ρ h σ H) {i : Nat} : Rl G π (ρ.set i none) h (σ.set i none) H := by
  refine ⟨by simp [r.len], fun j d' e => ?_, r.hp⟩
  by_cases hj : j = i
  · subst hj
    have hl : j < ρ.length := by have := (List.getElem?_eq_some_iff.mp e).1; simpa using this
    rw [List.getElem?_set_self hl] at e
    cases e
  · rw [List.getElem?_set_ne (Ne.symm hj)] at e ⊢
    exact r.sl j d' e
theorem Rl.wipe {ρ : Env} {h : Hs} {σ : L2.St} (r : Rl G π ρ h σ H) : ∀ vs : List Nat, Rl G π (Y.wipe ρ vs) h (L2.wipe σ vs) H
  | [] => r
  | v :: vs => (r.wipe vs).drop
end

/-! ### readings by what the language says -/
section
variable {α β γ δ : Type}
/-- what is wanted of the result r, told from (π, n, H) -/
def Post (G : Gm) (W : WX) (rel : (Nat → Addr) → Nat → Hp → β → α → Prop) (π : Nat → Addr) (n : Nat) (σ : L2.St) (H : Hp) (r : R α) (Q : β → Hp → Prop) : Prop := match r with
  | .ok a h' => ∀ π' b H', Stp π n H π' h'.length H' → HpR G π' h' H' → rel π' h'.length H' b a → Q b H'
  | .ex c h' => ∀ π' H', Stp π n H π' h'.length H' → HpR G π' h' H' → W (G.exc c) none σ H'
  | .bad => False
variable {G : Gm} {W : WX} {rel : (Nat → Addr) → Nat → Hp → β → α → Prop} {rel2 : (Nat → Addr) → Nat → Hp → δ → γ → Prop} {π : Nat → Addr} {h : Hs} {σ : L2.St} {H : Hp}
theorem Post.bind {r : R α} {f : α → Hs → R γ} {Q : δ → Hp → Prop} (p : Post G W rel2 π h.length σ H (r.bind f) Q) :
    Post G W rel π h.length σ H r fun b H1 => ∃ π1 h1 a, Stp π h.length H π1 h1.length H1 ∧ HpR G π1 h1 H1 ∧ rel π1 h1.length H1 b a ∧ Post G W rel2 π1 h1.length σ H1 (f a h1) Q := by
  cases r with
  | bad => exact p
  | ex c h' => exact p
  | ok a h' =>
    intro π' b H' s hp hr
    refine ⟨π', h', a, s, hp, hr, ?_⟩
    have p' : Post G W rel2 π h.length σ H (f a h') Q := p
    revert p'
    cases e : f a h' with
    | bad => exact fun p' => p'
    | ex c h2 => exact fun p' π2 H2 s2 hp2 => p' π2 H2 (s.trans hp s2) hp2
    | ok d h2 => exact fun p' π2 b2 H2 s2 hp2 hr2 => p' π2 b2 H2 (s.trans hp s2) hp2 hr2
theorem Post.mono {r : R α} {Q Q' : β → Hp → Prop} (p : Post G W rel π h.length σ H r Q) (hQ : ∀ b H', Q b H' → Q' b H') : Post G W rel π h.length σ H r Q' := by
  cases r with
  | bad => exact p
  | ex c h' => exact p
  | ok a h' => exact fun π' b H' s hp hr => hQ b H' (p π' b H' s hp hr)
end
def RelD (G : Gm) (π : Nat → Addr) (n : Nat) (H : Hp) (v : V) (d : D) : Prop := Rep G π n H v d
def RelDs (G : Gm) (π : Nat → Addr) (n : Nat) (H : Hp) (v : List V) (d : List D) : Prop := Reps G π n H v d
def RelB (π : Nat → Addr) (n : Nat) (H : Hp) (b : Bool) (d : Bool) : Prop := b = d
def RelO (π : Nat → Addr) (n : Nat) (H : Hp) (b : Option Int) (d : Option Int) : Prop := b = d
def tR {α β : Type} (G : Gm) (W : WX) (rel : (Nat → Addr) → Nat → Hp → β → α → Prop) (m : Env → Hs → R α) : L2.St → Hp → (β → Hp → Prop) → Prop := fun σ H Q =>
  ∃ π ρ h, Rl G π ρ h σ H ∧ Post G W rel π h.length σ H (m ρ h) Q
abbrev tE (G : Gm) (W : WX) (m : Env → Hs → R D) : TE := tR G W (RelD G) m
abbrev tEs (G : Gm) (W : WX) (m : Env → Hs → R (List D)) : TA := tR G W (RelDs G) m
abbrev tT (G : Gm) (W : WX) (m : Env → Hs → R Bool) : TT := tR G W RelB m
abbrev tO (G : Gm) (W : WX) (m : Env → Hs → R (Option Int)) : L2.TO := tR G W RelO m
def PostS (G : Gm) (W : WX) (π : Nat → Addr) (n : Nat) (H : Hp) (r : RS) (Dn : L2.Ends) : Prop := match r with
  | .nx ρ' h' => ∀ π' σ' H', Stp π n H π' h'.length H' → Rl G π' ρ' h' σ' H' → Dn.nx σ' H'
  | .rt d h' => ∀ π' v H', Stp π n H π' h'.length H' → HpR G π' h' H' → Rep G π' h'.length H' v d → Dn.rt v H'
  | .bk ρ' h' => ∀ π' σ' H', Stp π n H π' h'.length H' → Rl G π' ρ' h' σ' H' → Dn.bk σ' H'
  | .ct ρ' h' => ∀ π' σ' H', Stp π n H π' h'.length H' → Rl G π' ρ' h' σ' H' → Dn.ct σ' H'
  | .ex c ρ' h' => ∀ π' σ' H', Stp π n H π' h'.length H' → Rl G π' ρ' h' σ' H' → W (G.exc c) none σ' H'
  | .bad => False
def tS (G : Gm) (W : WX) (m : Env → Hs → RS) : TS := fun Dn σ H => ∃ π ρ h, Rl G π ρ h σ H ∧ PostS G W π h.length H (m ρ h) Dn
end Y

set_option Elab.async false
set_option linter.all false
set_option maxRecDepth 100000
set_option maxHeartbeats 4000000
/-! The operators of the language are the model's. -/
namespace Y
open PySem PySem.Spec PyProof.Rows
open L2 (V Hp HO upd upd_same upd_ne SqL SqT Rd VK TE TT TA TS TG XK WX Cx Inv PE PT PA PS PSs PG PI Key RelV Vals EP Mut ne_of ne_of_none OpR CallR IxR SlR MtR thn)

def PostO (G : Gm) (π : Nat → Addr) (n : Nat) (H : Hp) (r : R D) (Q : VK) : Prop := match r with
  | .ok d h' => ∀ π' v H', Stp π n H π' h'.length H' → HpR G π' h' H' → Rep G π' h'.length H' v d → Q v H'
  | _ => False
def NoEx {α : Type} (r : R α) : Prop := ∀ c h, r ≠ .ex c h
section
variable {G : Gm} {W : WX} {π π' : Nat → Addr} {n : Nat} {h : Hs} {σ : L2.St} {H H' : Hp} {r : R D} {Q : VK} {d : D} {v : V}
theorem Post.toO (p : Post G W (RelD G) π n σ H r Q) (hn : NoEx r) : PostO G π n H r Q := by
  cases r with
  | ok d h' => exact p
  | ex c h' => exact absurd rfl (hn c h')
  | bad => exact p
theorem PostO.fin (p : PostO G π h.length H (.ok d h) Q) (hp : HpR G π h H) (q : Rep G π h.length H v d) : Q v H := p π v H Stp.refl hp q
/-- a new thing that never changes -/
theorem PostO.lay {p : Addr} {o : HO} (k : PostO G π h.length H (.ok d h) Q) (hp : HpR G π h H) (hn : H p = none) (q : Rep G π h.length (upd H p o) v d) : Q v (upd H p o) :=
  k π v _ (Stp.lay hp hn) (hp.lay hn) q
end

/-! ### lists of values -/
section
variable {G : Gm} {π : Nat → Addr} {n : Nat} {H : Hp}
theorem Reps.length : ∀ {vs : List V} {ds : List D}, Reps G π n H vs ds → vs.length = ds.length
  | _, _, .nil => rfl
  | _, _, .cons _ r => congrArg (· + 1) (Reps.length r)
theorem Reps.append : ∀ {vs ws : List V} {ds es : List D}, Reps G π n H vs ds → Reps G π n H ws es → Reps G π n H (vs ++ ws) (ds ++ es)
  | _, _, _, _, .nil, s => s
  | _, _, _, _, .cons h r, s => .cons h (Reps.append r s)
theorem Reps.get : ∀ {vs : List V} {ds : List D} {i : Nat} {d : D}, Reps G π n H vs ds → ds[i]? = some d → ∃ v, vs[i]? = some v ∧ Rep G π n H v d
  | _, _, _, _, .nil, e => by simp at e
  | _, _, 0, _, .cons h _, e => by simp at e; subst e; exact ⟨_, rfl, h⟩
  | _, _, i + 1, _, .cons _ r, e => by
    obtain ⟨v, a, b⟩ := Reps.get (i := i) r (by simpa using e)
    exact ⟨v, by simpa using a, b⟩
theorem Reps.getV {vs : List V} {ds : List D} {i : Nat} {v : V} (r : Reps G π n H vs ds) (e : vs[i]? = some v) : ∃ d, ds[i]? = some d ∧ Rep G π n H v d := by
  have hi : i < vs.length := (List.getElem?_eq_some_iff.mp e).1
  rw [r.length] at hi
  obtain ⟨w, a, b⟩ := r.get (List.getElem?_eq_getElem hi)
  rw [e] at a
  cases a
  exact ⟨_, List.getElem?_eq_getElem hi, b⟩
theorem Reps.take : ∀ {vs : List V} {ds : List D} (k : Nat), Reps G π n H vs ds → Reps G π n H (vs.take k) (ds.take k)
  | _, _, 0, _ => .nil
  | _, _, _ + 1, .nil => .nil
  | _, _, k + 1, .cons h r => .cons h (Reps.take k r)
theorem Reps.drop : ∀ {vs : List V} {ds : List D} (k : Nat), Reps G π n H vs ds → Reps G π n H (vs.drop k) (ds.drop k)
  | _, _, 0, r => r
  | _, _, _ + 1, .nil => .nil
  | _, _, k + 1, .cons _ r => Reps.drop k r
theorem Reps.set : ∀ {vs : List V} {ds : List D} (k : Nat) {v : V} {d : D}, Reps G π n H vs ds → Rep G π n H v d → Reps G π n H (vs.set k v) (ds.set k d)
  | _, _, _, _, _, .nil, _ => .nil
  | _, _, 0, _, _, .cons _ r, q => .cons q r
  | _, _, k + 1, _, _, .cons h r, q => .cons h (Reps.set k r q)
theorem Reps.nil_iff {vs : List V} {ds : List D} (r : Reps G π n H vs ds) : vs = [] ↔ ds = [] := by cases r <;> simp
theorem Reps.reverse {vs : List V} {ds : List D} (r : Reps G π n H vs ds) : Reps G π n H vs.reverse ds.reverse := by
  induction vs generalizing ds with
  | nil => cases r; exact .nil
  | cons v vs ih =>
    cases r with
    | cons a b =>
      rw [List.reverse_cons, List.reverse_cons]
      exact (ih b).append (.cons a .nil)
theorem Reps.rep {vs : List V} {ds : List D} (r : Reps G π n H vs ds) : ∀ k : Nat, Reps G π n H (List.replicate k vs).flatten (List.replicate k ds).flatten
  | 0 => .nil
  | k + 1 => by
    rw [List.replicate_succ, List.replicate_succ, List.flatten_cons, List.flatten_cons]
    exact r.append (r.rep k)
theorem Reps.dropLast {vs : List V} {ds : List D} (r : Reps G π n H vs ds) : Reps G π n H vs.dropLast ds.dropLast := by
  rw [List.dropLast_eq_take, List.dropLast_eq_take, r.length]
  exact r.take _
theorem Reps.ints : ∀ {vs : List V} {ds : List D} {l : List Int}, Reps G π n H vs ds → intsOf ds = some l → vs = l.map V.int
  | _, _, _, .nil, e => by cases e; rfl
  | _, d :: ds, l, .cons h r, e => by
    cases h <;> simp only [intsOf, Option.map_eq_some_iff, reduceCtorEq] at e
    obtain ⟨l', e1, rfl⟩ := e
    rw [Reps.ints r e1, List.map_cons]
theorem Reps.bls : ∀ {vs : List V} {ds : List D} {l : List Bool}, Reps G π n H vs ds → blsOf ds = some l → vs = l.map V.bl
  | _, _, _, .nil, e => by cases e; rfl
  | _, d :: ds, l, .cons h r, e => by
    cases h <;> simp only [blsOf, Option.map_eq_some_iff, reduceCtorEq] at e
    obtain ⟨l', e1, rfl⟩ := e
    rw [Reps.bls r e1, List.map_cons]
theorem Reps.ofInts : ∀ l : List Int, Reps G π n H (l.map V.int) (dints l)
  | [] => .nil
  | i :: l => .cons (.int i) (Reps.ofInts l)
end

/-! ### flat values, data -/
def vD : D → V
  | .non => .non
  | .bl b => .bl b
  | .int i => .int i
  | .str s => .str (toStr s)
  | _ => .non
theorem toStr_inj {a b : S} : toStr a = toStr b ↔ a = b := by
  constructor
  · intro e
    have := congrArg (fun z : Str => z.cps.toList) e
    simpa using this
  · intro e; rw [e]
section
variable {G : Gm} {π : Nat → Addr} {n : Nat} {H : Hp}
theorem Rep.flat {v : V} {d : D} (r : Rep G π n H v d) (f : d.flat = true) : v = vD d ∧ L2.flatV v = true := by
  cases r <;> simp [D.flat] at f <;> simp [vD, L2.flatV]
theorem Reps.flat : ∀ {vs : List V} {ds : List D}, Reps G π n H vs ds → ds.all D.flat = true → vs = ds.map vD ∧ vs.all L2.flatV = true
  | _, _, .nil, _ => ⟨rfl, rfl⟩
  | _, _, .cons h r, f => by
    rw [List.all_cons, Bool.and_eq_true] at f
    obtain ⟨a, b⟩ := h.flat f.1
    obtain ⟨c, e⟩ := r.flat f.2
    exact ⟨by rw [List.map_cons, ← a, ← c], by rw [List.all_cons, b, e]; rfl⟩
theorem str_beq (x y : S) : ((toStr x == toStr y) : Bool) = (x == y) := by
  by_cases e : x = y
  · subst e; rw [beq_self_eq_true, beq_self_eq_true]
  · have : ¬ toStr x = toStr y := fun z => e (toStr_inj.mp z)
    rw [beq_eq_false_iff_ne.mpr e, beq_eq_false_iff_ne.mpr this]
theorem eqV_eqv (a b : D) (ha : a.flat = true) (hb : b.flat = true) : L2.eqV (vD a) (vD b) = D.eqv a b := by
  cases a <;> simp [D.flat] at ha <;> cases b <;> simp [D.flat] at hb <;> simp only [vD, L2.eqV, D.eqv, str_beq]
mutual
/-- as the library's data -/
def D.py : D → PyData
  | .non => .none
  | .bl b => .bool b
  | .int i => .int i
  | .str s => .str (toStr s)
  | .tup ds => .tuple (D.pys ds)
  | .fl ds => .list (D.pys ds)
  | _ => .none
def D.pys : List D → List PyData
  | [] => []
  | d :: r => d.py :: D.pys r
end
theorem pys_map : ∀ ds : List D, D.pys ds = ds.map D.py
  | [] => by simp [D.pys]
  | d :: r => by simp [D.pys, pys_map r]
mutual
theorem eqv_py : ∀ (a b : D) (k l : Nat), a.okn k = true → b.okn l = true → PyData.eqv a.py b.py = D.eqv a b
  | .non, b, k, l, ha, hb => by cases b <;> first | (simp [D.okn] at hb; done) | simp [D.py, PyData.eqv, D.eqv]
  | .bl x, b, k, l, ha, hb => by cases b <;> first | (simp [D.okn] at hb; done) | simp [D.py, PyData.eqv, D.eqv]
  | .int x, b, k, l, ha, hb => by cases b <;> first | (simp [D.okn] at hb; done) | simp [D.py, PyData.eqv, D.eqv]
  | .str x, b, k, l, ha, hb => by
    cases b with
    | str y => simp only [D.py, PyData.eqv, D.eqv]; exact str_beq _ _
    | _ => first | (simp [D.okn] at hb; done) | simp [D.py, PyData.eqv, D.eqv]
  | .tup x, b, k, l, ha, hb => by
    cases b with
    | tup y =>
      cases k with
      | zero => simp [D.okn] at ha
      | succ k =>
        cases l with
        | zero => simp [D.okn] at hb
        | succ l =>
          simp only [D.py, PyData.eqv, D.eqv]
          exact eqvs_py x y k l (by simpa [D.okn] using ha) (by simpa [D.okn] using hb)
    | _ => first | (simp [D.okn] at hb; done) | simp [D.py, PyData.eqv, D.eqv]
  | .fl x, b, k, l, ha, hb => by
    cases b with
    | fl y =>
      cases k with
      | zero => simp [D.okn] at ha
      | succ k =>
        cases l with
        | zero => simp [D.okn] at hb
        | succ l =>
          simp only [D.py, PyData.eqv, D.eqv]
          exact eqvs_py x y k l (by simpa [D.okn] using ha) (by simpa [D.okn] using hb)
    | _ => first | (simp [D.okn] at hb; done) | simp [D.py, PyData.eqv, D.eqv]
  | .fi _, _, _, _, ha, _ => by simp [D.okn] at ha
  | .ft _, _, _, _, ha, _ => by simp [D.okn] at ha
  | .fs _, _, _, _, ha, _ => by simp [D.okn] at ha
  | .ref _, _, _, _, ha, _ => by simp [D.okn] at ha
  | .exc _, _, _, _, ha, _ => by simp [D.okn] at ha
  | .scr _, _, _, _, ha, _ => by simp [D.okn] at ha
theorem eqvs_py : ∀ (a b : List D) (k l : Nat), D.oksn k a = true → D.oksn l b = true → PyData.eqvAll (D.pys a) (D.pys b) = D.eqvs a b
  | [], [], _, _, _, _ => by simp [D.pys, PyData.eqvAll, D.eqvs]
  | [], _ :: _, _, _, _, _ => by simp [D.pys, PyData.eqvAll, D.eqvs]
  | _ :: _, [], _, _, _, _ => by simp [D.pys, PyData.eqvAll, D.eqvs]
  | x :: a, y :: b, k, l, ha, hb => by
    simp only [D.oksn, Bool.and_eq_true] at ha hb
    simp only [D.pys, PyData.eqvAll, D.eqvs]
    rw [eqv_py x y k l ha.1 hb.1, eqvs_py a b k l ha.2 hb.2]
end
mutual
theorem okn_lay : ∀ (d : D) (k : Nat), d.okn k = true → d.py.canLay0 = true ∧ d.py.depth ≤ k
  | .non, k, _ => by simp [D.py, PyData.canLay0, PyData.depth]
  | .bl _, k, _ => by simp [D.py, PyData.canLay0, PyData.depth]
  | .int _, k, _ => by simp [D.py, PyData.canLay0, PyData.depth]
  | .str s, k, h => by
    simp only [D.okn, List.all_eq_true, decide_eq_true_eq] at h
    refine ⟨?_, by simp [D.py, PyData.depth]⟩
    simp only [D.py, PyData.canLay0, PyData.strOk, toStr]
    rw [Array.all_eq_true_iff_forall_mem]
    intro x hx
    have := h x (by simpa using hx)
    exact decide_eq_true (by omega)
  | .tup ds, k, h => by
    cases k with
    | zero => simp [D.okn] at h
    | succ k =>
      obtain ⟨a, b⟩ := oksn_lay ds k (by simpa [D.okn] using h)
      exact ⟨by simpa [D.py, PyData.canLay0] using a, by simp only [D.py, PyData.depth]; omega⟩
  | .fl ds, k, h => by
    cases k with
    | zero => simp [D.okn] at h
    | succ k =>
      obtain ⟨a, b⟩ := oksn_lay ds k (by simpa [D.okn] using h)
      exact ⟨by simpa [D.py, PyData.canLay0] using a, by simp only [D.py, PyData.depth]; omega⟩
  | .fi _, _, h => by simp [D.okn] at h
  | .ft _, _, h => by simp [D.okn] at h
  | .fs _, _, h => by simp [D.okn] at h
  | .ref _, _, h => by simp [D.okn] at h
  | .exc _, _, h => by simp [D.okn] at h
  | .scr _, _, h => by simp [D.okn] at h
theorem oksn_lay : ∀ (ds : List D) (k : Nat), D.oksn k ds = true → PyData.canLayAll0 (D.pys ds) = true ∧ PyData.depthAll (D.pys ds) ≤ k
  | [], k, _ => by simp [D.pys, PyData.canLayAll0, PyData.depthAll]
  | d :: r, k, h => by
    simp only [D.oksn, Bool.and_eq_true] at h
    obtain ⟨a, b⟩ := okn_lay d k h.1
    obtain ⟨a', b'⟩ := oksn_lay r k h.2
    refine ⟨by simp [D.pys, PyData.canLayAll0, a, a'], ?_⟩
    simp only [D.pys, PyData.depthAll]
    omega
end
mutual
theorem Rep.dp : ∀ {v : V} {d : D} {k : Nat}, Rep G π n H v d → d.okn k = true → L2.Dp G.K H v d.py
  | _, _, _, .non, _ => .non
  | _, _, _, .bl b, _ => .bl b
  | _, _, _, .int i, _ => .int i
  | _, _, _, .str s, _ => .str _
  | _, _, k, .tup h r, f => by
    cases k with
    | zero => simp [D.okn] at f
    | succ k => exact .tup (.inl (.inl h)) (Reps.dp r (by simpa [D.okn] using f))
  | _, _, k, .ktup h r _, f => by
    cases k with
    | zero => simp [D.okn] at f
    | succ k => exact .tup (.inr h) (Reps.dp r (by simpa [D.okn] using f))
  | _, _, k, .fl h r, f => by
    cases k with
    | zero => simp [D.okn] at f
    | succ k => exact .lst (.inl (.inr ⟨_, h⟩)) (Reps.dp r (by simpa [D.okn] using f))
  | _, _, _, .fi _ _, f => by simp [D.okn] at f
  | _, _, _, .ft _ _, f => by simp [D.okn] at f
  | _, _, _, .fs _ _, f => by simp [D.okn] at f
  | _, _, _, .fk _, f => by simp [D.okn] at f
  | _, _, _, .ref _ _, f => by simp [D.okn] at f
  | _, _, _, .exc _ _, f => by simp [D.okn] at f
  | _, _, _, .scr _, f => by simp [D.okn] at f
theorem Reps.dp : ∀ {vs : List V} {ds : List D} {k : Nat}, Reps G π n H vs ds → D.oksn k ds = true → L2.DpAll G.K H vs (D.pys ds)
  | _, _, _, .nil, _ => .nil
  | _, _, _, .cons h r, f => by
    simp only [D.oksn, Bool.and_eq_true] at f
    exact .cons (Rep.dp h f.1) (Reps.dp r f.2)
end
theorem shaped_of {d : D} (h : d.ok = true) : SeqAt.shaped d.py = true := by
  obtain ⟨a, b⟩ := okn_lay d 60 h
  unfold SeqAt.shaped
  rw [a, decide_eq_true (show d.py.depth ≤ 64 by omega)]
  rfl
end
end Y

set_option Elab.async false
set_option linter.all false
set_option maxRecDepth 100000
set_option maxHeartbeats 4000000
namespace Y
open PySem PySem.Spec PyProof.Rows
open L2 (V Hp HO upd upd_same upd_ne SqL SqT Rd VK TE TT TA TS TG XK WX Cx Inv PE PT PA PS PSs PG PI Key RelV Vals EP Mut ne_of ne_of_none OpR CallR IxR SlR MtR thn)

/-! ### a new list or dict is locked for good -/
section
variable {X : Cx} {pins : List (Addr × Obj)} {σ : L2.St} {Q : VK} {u : Value} {s : Shared}
def Fz (Q : VK) : VK := fun v H => ∃ p o, v = .ref p ∧ H p = some o ∧ Mut (some o) ∧ ∀ od, Q v (upd H p (.frz od o))
theorem EP.fz (h : EP X pins σ (Fz Q) u s) : EP X pins σ Q u s := by
  obtain ⟨v, H, I, r, p, o, rfl, hp, mu, q⟩ := h
  obtain ⟨od, I'⟩ := I.lock hp mu
  exact ⟨_, _, I', r, q od⟩
end
section
variable {G : Gm} {π : Nat → Addr} {h : Hs} {H : Hp} {Q : VK}
theorem Fz.lst {p : Addr} {xs : List V} {ds : List D} (k : PostO G π h.length H (.ok (.fl ds) h) Q) (hp : HpR G π h H) (hn : H p = none) (q : Reps G π h.length H xs ds) : Fz Q (.ref p) (upd H p (.lst xs)) := by
  refine ⟨p, _, rfl, upd_same, trivial, fun od => ?_⟩
  rw [L2.upd_upd]
  exact k.lay hp hn (.fl upd_same (q.step (Stp.lay hp hn)))
end
theorem op_fz {X : Cx} {f : Value → Value → Sem Value} {r : L2.R2} (h : OpR X f r) : OpR X f (fun x y H Q => r x y H (Fz Q)) := fun pins s σ H x y v u Q I rx ry q =>
  thn (h pins s σ H x y v u (Fz Q) I rx ry q) fun _ _ z => EP.fz z
theorem call_fz {X : Cx} {f : Value} {r : List V → Hp → VK → Prop} (h : CallR X f r) : CallR X f (fun xs H Q => r xs H (Fz Q)) := fun pins s σ H xs us Q I rx q =>
  thn (h pins s σ H xs us (Fz Q) I rx q) fun _ _ z => EP.fz z
theorem pe_fz {X : Cx} {e : Expr} {t : TE} (h : PE X e t) : PE X e (fun σ H Q => t σ H (Fz Q)) := ⟨fun pins s σ H Q I q =>
  thn (h.run pins s σ H (Fz Q) I q) fun _ _ z => EP.fz z⟩

/-! ### lists that are read: joined, repeated -/
section
variable {X : Cx}
open L2 in
theorem _root_.L2.Inv.lstR {pins : List (Addr × Obj)} {σ : L2.St} {H : Hp} {s : Shared} {a : Addr} {xs : List V} (I : Inv X pins σ H s) (h : Rd H a (.lst xs)) :
    xs.length ≤ sizeLine ∧ ∃ (its : List Value) (n : Nat), Vals xs its ∧ xs.length = its.length ∧ s.heap.get? a = some { cls := .type "list", data := .seq its.toArray n } := by
  obtain ⟨z, its, n, r, e⟩ := h.ok I.hok
  exact ⟨z, its, n, r, r.length, e⟩
open L2 in
theorem op_catR : OpR X (binaryOp .Add) (fun x y H Q => ∃ l b xs zs, x = V.ref l ∧ y = V.ref b ∧ Rd H l (.lst xs) ∧ Rd H b (.lst zs) ∧ xs.length + zs.length ≤ sizeLine ∧ ∀ p, H p = none → Q (.ref p) (upd H p (.lst (xs ++ zs)))) := by
  intro pins s σ H x y v u Q I rx ry h
  obtain ⟨l, b, xs, zs, rfl, rfl, hH, hB, hz, q⟩ := h
  cases rx
  cases ry
  obtain ⟨z, its, n, r, hl, e⟩ := I.lstR hH
  obtain ⟨z2, its2, n2, r2, hl2, e2⟩ := I.lstR hB
  refine PySem.P.add_list e e2 ?_ (by rw [List.size_toArray, List.size_toArray]; omega)
  have ea : its.toArray ++ its2.toArray = (its ++ its2).toArray := by simp
  rw [ea]
  exact ⟨.ref _, _, I.lnew (t' := s.toks) (r.append r2) (by rw [List.length_append]; omega), rfl, q _ I.fresh⟩
open L2 in
theorem op_repR : OpR X (binaryOp .Mult) (fun x y H Q => ∃ l k xs, x = V.ref l ∧ y = V.int k ∧ Rd H l (.lst xs) ∧ -(2 ^ 63) ≤ k ∧ k < 2 ^ 63 ∧ xs.length * k.toNat ≤ sizeLine ∧ ∀ p, H p = none → Q (.ref p) (upd H p (.lst (List.replicate k.toNat xs).flatten))) := by
  intro pins s σ H x y v u Q I rx ry h
  obtain ⟨l, k, xs, rfl, rfl, hH, h1, h2, hz, q⟩ := h
  cases rx
  obtain ⟨t, rfl⟩ := ry
  obtain ⟨z, its, n, r, hl, e⟩ := I.lstR hH
  have hlen : its.toArray.size * k.toNat ≤ sizeLine := by rw [List.size_toArray, ← hl]; exact hz
  have hcap : ¬ its.toArray.size * k.toNat > (2 ^ 63 - 1) / 8 := by
    have : (sizeLine : Nat) ≤ (2 ^ 63 - 1) / 8 := by decide
    omega
  have hfit : ¬ (!Builtin.List.listFitsIndex k) = true := by
    rw [fitsIndex_both h1 h2]
    exact Bool.false_ne_true
  have hlong : ¬ Builtin.List.listTooLong (its.toArray.size * k.toNat) = true := by
    rw [notLongL hlen]
    exact Bool.false_ne_true
  have hnew : List.foldl (fun x1 x2 => x1 ++ x2) #[] (List.replicate (if its.toArray.isEmpty = true then 0 else k.toNat) its.toArray) = (List.replicate k.toNat its).flatten.toArray := by
    have f0 : ∀ m : Nat, List.foldl (fun x1 x2 => x1 ++ x2) #[] (List.replicate m its.toArray) = (List.replicate m its).flatten.toArray := fun m => by
      have := foldl_rep its m []
      rw [List.nil_append] at this
      exact this
    rw [f0]
    cases its with
    | nil => simp
    | cons a r' => rw [if_neg (by simp)]
  refine wpAny_binaryOp_repeat_ref (T := "list") (U := "int") (by decide) ⟨_, e, rfl⟩ (fun s' => typeIs_int s' k t) noFill_list_mul F.fills_int_mul F.slot_int_rmul repeat_list F.slot_int_index.lookup
    (call_meets F.slot_int_rmul (typeIs_int s k t) F.entry_int_rmul (F.args_int_rmul_2 _ _) (int___rmul___int_list k t l its.toArray n)
      ⟨e, rfl, ⟨_, e, rfl⟩, call_meets F.slot_list_mul ⟨_, e, rfl⟩ F.entry_list_mul (F.args_list_mul_2 _ _) (AutoListH.list___mul___list_int_3 l its.toArray n k t hfit hcap hlong) ⟨e, ?_⟩⟩)
  rw [hnew]
  exact ⟨.ref _, _, I.lnew (t' := s.toks) (r.rep k.toNat) (by rw [PyProof.Rows.lm_len_rep_flat, Nat.mul_comm]; exact hz), rfl, q _ I.fresh⟩
end

/-! ### two-place operators -/
def rO (G : Gm) (g : Hs → D → D → R D) : L2.R2 := fun x y H Q => ∃ π h d1 d2, HpR G π h H ∧ Rep G π h.length H x d1 ∧ Rep G π h.length H y d2 ∧ PostO G π h.length H (g h d1 d2) Q
theorem toStr_app (a b : S) : toStr a ++ toStr b = toStr (a ++ b) := by
  show Str.append _ _ = _
  first
    | rfl
    | (unfold Str.append; simp)
theorem toStr_len (a : S) : (toStr a).length = a.length := by
  show a.toArray.size = a.length
  simp
theorem sz_le {n : Nat} (h : n ≤ SZ) : n ≤ sizeLine := by rw [sizeLine_eq]; exact h
section
variable {X : Cx} {G : Gm}
theorem ok_sub : OpR X (binaryOp .Sub) (rO G opSub) := by
  intro pins s σ H x y v u Q I rx ry ⟨π, h, d1, d2, hp, r1, r2, k⟩
  cases d1 <;> try exact k.elim
  cases d2 <;> try exact k.elim
  cases r1; cases r2
  exact L2.op_sub pins s σ H _ _ v u Q I rx ry ⟨_, _, rfl, rfl, k.fin hp (.int _)⟩
theorem ok_mod : OpR X (binaryOp .Mod) (rO G opMod) := by
  intro pins s σ H x y v u Q I rx ry ⟨π, h, d1, d2, hp, r1, r2, k⟩
  cases d1 <;> try exact k.elim
  cases d2 <;> try exact k.elim
  rename_i i j
  cases r1; cases r2
  simp only [opMod] at k
  split at k
  · exact L2.op_mod pins s σ H _ _ v u Q I rx ry ⟨_, _, rfl, rfl, by assumption, k.fin hp (.int _)⟩
  · exact k.elim
theorem ok_div : OpR X (binaryOp .FloorDiv) (rO G opDiv) := by
  intro pins s σ H x y v u Q I rx ry ⟨π, h, d1, d2, hp, r1, r2, k⟩
  cases d1 <;> try exact k.elim
  cases d2 <;> try exact k.elim
  rename_i i j
  cases r1; cases r2
  simp only [opDiv] at k
  split at k
  · rename_i c
    refine L2.op_fdivW pins s σ H _ _ v u Q I rx ry ⟨_, _, rfl, rfl, L2.wide_div c.1 (b := 1000) ?_ (by decide) (by decide), k.fin hp (.int _)⟩
    exact c.2
  · exact k.elim
theorem ok_pow : OpR X (binaryOp .Pow) (rO G opPow) := by
  intro pins s σ H x y v u Q I rx ry ⟨π, h, d1, d2, hp, r1, r2, k⟩
  cases d1 <;> try exact k.elim
  cases d2 <;> try exact k.elim
  rename_i i j
  cases r1; cases r2
  simp only [opPow] at k
  split at k
  · rename_i c
    refine L2.op_pow pins s σ H _ _ v u Q I rx ry ⟨_, _, rfl, rfl, ⟨c.1, by omega, by have := c.2.2; exact this⟩, k.fin hp (.int _)⟩
  · exact k.elim
variable (hK : G.K = X.K)
include hK
theorem ok_add : OpR X (binaryOp .Add) (rO G opAdd) := by
  intro pins s σ H x y v u Q I rx ry ⟨π, h, d1, d2, hp, r1, r2, k⟩
  cases d1 with
  | int i =>
    cases d2 <;> try exact k.elim
    cases r1; cases r2
    exact L2.op_add pins s σ H _ _ v u Q I rx ry ⟨_, _, rfl, rfl, k.fin hp (.int _)⟩
  | str a =>
    cases d2 <;> try exact k.elim
    rename_i b
    cases r1; cases r2
    simp only [opAdd] at k
    split at k
    · rename_i c
      refine L2.op_add_str pins s σ H _ _ v u Q I rx ry ⟨_, _, rfl, rfl, ?_, ?_⟩
      · rw [toStr_len, toStr_len]; exact sz_le c
      · rw [toStr_app]; exact k.fin hp (.str _)
    · exact k.elim
  | tup a =>
    cases d2 <;> try exact k.elim
    rename_i b
    obtain ⟨a1, xs, rfl, h1, q1, _⟩ := r1.sqt
    obtain ⟨a2, ys, rfl, h2, q2, _⟩ := r2.sqt
    simp only [opAdd] at k
    split at k
    · rename_i c
      rw [hK] at h1 h2
      refine L2.op_catA pins s σ H _ _ v u Q I rx ry ⟨_, _, _, _, rfl, rfl, h1, h2, ?_, fun e => ?_, fun e1 e2 => ?_, fun e1 e2 p hn => ?_⟩
      · rw [q1.length, q2.length]; exact sz_le c
      · have e' := q1.nil_iff.mp e
        rw [e', List.nil_append] at k
        exact k.fin hp r2
      · have e' := q2.nil_iff.mp e2
        rw [e', List.append_nil] at k
        exact k.fin hp r1
      · exact k.lay hp hn (.tup upd_same ((q1.append q2).step (Stp.lay hp hn)))
    · exact k.elim
  | fl a =>
    cases d2 <;> try exact k.elim
    rename_i b
    cases r1 with
    | fl h1 q1 =>
    cases r2 with
    | fl h2 q2 =>
    simp only [opAdd] at k
    split at k
    · rename_i c
      refine op_fz op_catR pins s σ H _ _ v u Q I rx ry ⟨_, _, _, _, rfl, rfl, .inr ⟨_, h1⟩, .inr ⟨_, h2⟩, ?_, fun p hn => Fz.lst k hp hn (q1.append q2)⟩
      rw [q1.length, q2.length]; exact sz_le c
    · exact k.elim
  | _ => cases d2 <;> exact k.elim
/-- a + b, two lists, the new one an object of the store -/
def opCatM (h : Hs) (x y : D) : R D := match x, y with
  | .fl xs, .fl ys => if xs.length + ys.length ≤ SZ then .ok (.ref h.length) (h ++ [.lst (xs ++ ys)]) else .bad
  | _, _ => .bad
omit hK in
theorem PostO.alloc {π : Nat → Addr} {h : Hs} {H : Hp} {Q : VK} {p : Addr} {o : HO} {ob : Ob} (k : PostO G π h.length H (.ok (.ref h.length) (h ++ [ob])) Q) (hp : HpR G π h H) (hn : H p = none)
    (ho : ObR G (ext1 π h.length p) (h ++ [ob]).length (upd H p o) p ob) : Q (.ref p) (upd H p o) := by
  have q : Rep G (ext1 π h.length p) (h ++ [ob]).length (upd H p o) (.ref (ext1 π h.length p h.length)) (.ref h.length) := .ref _ (by simp)
  rw [ext1_eq] at q
  exact k _ _ _ (Stp.alloc hn) (hp.alloc hn ho) q
omit hK in
theorem ok_catM : OpR X (binaryOp .Add) (rO G opCatM) := by
  intro pins s σ H x y v u Q I rx ry ⟨π, h, d1, d2, hp, r1, r2, k⟩
  cases d1 <;> cases d2 <;> try exact k.elim
  rename_i a b
  cases r1 with
  | fl h1 q1 =>
  cases r2 with
  | fl h2 q2 =>
  simp only [opCatM] at k
  split at k
  · rename_i c
    refine op_catR pins s σ H _ _ v u Q I rx ry ⟨_, _, _, _, rfl, rfl, .inr ⟨_, h1⟩, .inr ⟨_, h2⟩, ?_, fun p hn => ?_⟩
    · rw [q1.length, q2.length]; exact sz_le c
    · exact k.alloc hp hn ⟨_, upd_same, (q1.append q2).step (Stp.alloc (ob := .lst (a ++ b)) hn)⟩
  · exact k.elim
omit hK in
theorem ok_mul : OpR X (binaryOp .Mult) (rO G opMul) := by
  intro pins s σ H x y v u Q I rx ry ⟨π, h, d1, d2, hp, r1, r2, k⟩
  cases d1 with
  | int i =>
    cases d2 <;> try exact k.elim
    rename_i j
    cases r1; cases r2
    simp only [opMul] at k
    split at k
    · rename_i c
      rcases c with c | ⟨c1, c2⟩
      · refine L2.op_mul pins s σ H _ _ v u Q I rx ry ⟨_, _, rfl, rfl, ?_, k.fin hp (.int _)⟩
        rcases c with c | c
        · exact .inl (by omega)
        · exact .inr (by omega)
      · exact L2.op_mulW pins s σ H _ _ v u Q I rx ry ⟨_, _, rfl, rfl, L2.wide_mul (a := 1000) (b := 1000) c1 c2 (by decide) (by decide) (by decide), k.fin hp (.int _)⟩
    · exact k.elim
  | fl a =>
    cases d2 <;> try exact k.elim
    rename_i j
    cases r1 with
    | fl h1 q1 =>
    cases r2
    simp only [opMul] at k
    split at k
    · rename_i c
      refine op_fz op_repR pins s σ H _ _ v u Q I rx ry ⟨_, _, _, rfl, rfl, .inr ⟨_, h1⟩, by omega, by omega, ?_, fun p hn => Fz.lst k hp hn (q1.rep _)⟩
      rw [q1.length]; exact sz_le c.2.2
    · exact k.elim
  | str a =>
    cases d2 <;> try exact k.elim
    rename_i j
    cases r1; cases r2
    simp only [opMul] at k
    split at k
    · rename_i c
      obtain ⟨t, rfl⟩ := rx
      obtain ⟨t', rfl⟩ := ry
      have hrep : ∀ m : Nat, (List.replicate m a.toArray).foldl (· ++ ·) (#[] : Array Nat) = (List.replicate m a).flatten.toArray := by
        have : ∀ (m : Nat) (acc : List Nat), (List.replicate m a.toArray).foldl (· ++ ·) acc.toArray = (acc ++ (List.replicate m a).flatten).toArray := by
          intro m
          induction m with
          | zero => intro acc; simp
          | succ m ih =>
            intro acc
            rw [List.replicate_succ, List.foldl_cons, List.replicate_succ, List.flatten_cons, ← List.append_assoc, ← ih (acc ++ a)]
            simp
        intro m
        simpa using this m []
      by_cases hj : j < 1
      · have ej : j = 0 := by omega
        subst ej
        refine PySem.P.mul_str_none hj (by omega) ⟨.str Str.empty, H, I.tok _, ⟨_, rfl⟩, ?_⟩
        exact k.fin hp (.str [])
      · have hlen : (toStr a).length = a.length := toStr_len a
        refine PySem.P.mul_str (by rw [decide_eq_false (show ¬ j < -(2 ^ 63 : Int) by omega), decide_eq_false (show ¬ j ≥ 2 ^ 63 by omega)]; rfl) (fun _ _ => ?_) (fun _ _ => ?_) ?_
        · rw [hlen]
          have h1 : (a.length : Int) * j ≤ 1000 := by
            have := c.2.2
            have e : ((a.length * j.toNat : Nat) : Int) = (a.length : Int) * j := by rw [Int.natCast_mul, Int.toNat_of_nonneg (by omega)]
            omega
          have h2 : (a.length : Int) ≤ (2 ^ 63 - 1) / j := by
            rw [Int.le_ediv_iff_mul_le (by omega)]
            omega
          omega
        · rw [hlen]
          have := c.2.2
          unfold Builtin.Str.tooLong
          exact decide_eq_false (by rw [sizeLine_eq]; omega)
        · rw [if_neg hj]
          split
          · rename_i e
            refine ⟨.str (toStr a), H, ?_, ⟨_, rfl⟩, ?_⟩
            · exact I
            · have e2 : (List.replicate j.toNat a).flatten = a := by
                rw [Bool.or_eq_true, beq_iff_eq, beq_iff_eq, hlen] at e
                rcases e with e | e
                · rw [e]; simp
                · have : a = [] := List.length_eq_zero_iff.mp e
                  subst this; simp
              rw [e2] at k
              exact k.fin hp (.str a)
          · refine ⟨?_, ?_⟩
            · show Str.length _ ≤ _
              rw [hrep]
              show ((List.replicate j.toNat a).flatten.toArray).size ≤ _
              rw [List.size_toArray, PyProof.Rows.lm_len_rep_flat, sizeLine_eq, Nat.mul_comm]
              have := c.2.2
              omega
            · rw [hrep]
              exact ⟨.str (toStr _), H, I.tok _, ⟨_, rfl⟩, k.fin hp (.str _)⟩
    · exact k.elim
  | _ => cases d2 <;> exact k.elim
end
end Y

set_option Elab.async false
set_option linter.all false
set_option maxRecDepth 100000
set_option maxHeartbeats 4000000
namespace Y
open PySem PySem.Spec PyProof.Rows
open L2 (V Hp HO upd upd_same upd_ne SqL SqT Rd VK TE TT TA TS TG XK WX Cx Inv PE PT PA PS PSs PG PI Key RelV Vals EP Mut ne_of ne_of_none OpR CallR IxR SlR MtR thn)

/-! ### dicts -/
section
variable {G : Gm} {π : Nat → Addr} {n : Nat} {H : Hp}
theorem RepI.val : ∀ {ks : List (Key × V)} {kvs : List (Int × D)} (i : Int), RepI G π n H ks kvs →
    (∀ d, dget kvs i = some d → ∃ v, L2.valV ks (.inl i) = some v ∧ Rep G π n H v d) ∧ (dget kvs i = none → L2.valV ks (.inl i) = none)
  | _, _, i, .nil => ⟨fun d e => by simp [dget] at e, fun _ => rfl⟩
  | _, _, i, .cons (i := j) (v := v) (d := d) (vs := vs) (ds := ds) h r => by
    obtain ⟨a, b⟩ := RepI.val i r
    by_cases e : j = i
    · subst e
      have e1 : dget ((j, d) :: ds) j = some d := by simp [dget, List.find?_cons]
      have e2 : L2.valV ((Sum.inl j, v) :: vs) (Sum.inl j : Key) = some v := L2.valV_pos rfl
      rw [e1, e2]
      exact ⟨fun d' q => by cases q; exact ⟨_, rfl, h⟩, fun q => by cases q⟩
    · have e1 : dget ((j, d) :: ds) i = dget ds i := by simp [dget, List.find?_cons, e]
      have e2 : L2.valV ((Sum.inl j, v) :: vs) (Sum.inl i : Key) = L2.valV vs (Sum.inl i) := L2.valV_neg (fun z => e (Sum.inl.inj z))
      rw [e1, e2]
      exact ⟨a, b⟩
theorem inl_inj : ∀ {a b : List Int}, (a.map Sum.inl : List Key) = b.map Sum.inl → a = b
  | [], [], _ => rfl
  | [], _ :: _, h => by simp at h
  | _ :: _, [], h => by simp at h
  | x :: a, y :: b, h => by
    simp only [List.map_cons, List.cons.injEq, Sum.inl.injEq] at h
    rw [h.1, inl_inj h.2]
theorem RepT.val : ∀ {ks : List (List Key × V)} {kvs : List (List Int × D)} (i : List Int), RepT G π n H ks kvs →
    (∀ d, dget kvs i = some d → ∃ v, L2.valV ks (i.map Sum.inl) = some v ∧ Rep G π n H v d) ∧ (dget kvs i = none → L2.valV ks (i.map Sum.inl) = none)
  | _, _, i, .nil => ⟨fun d e => by simp [dget] at e, fun _ => rfl⟩
  | _, _, i, .cons (ks := j) (v := v) (d := d) (vs := vs) (ds := ds) h r => by
    obtain ⟨a, b⟩ := RepT.val i r
    by_cases e : j = i
    · subst e
      have e1 : dget ((j, d) :: ds) j = some d := by simp [dget, List.find?_cons]
      have e2 : L2.valV ((j.map Sum.inl, v) :: vs) (j.map Sum.inl : List Key) = some v := L2.valV_pos rfl
      rw [e1, e2]
      exact ⟨fun d' q => by cases q; exact ⟨_, rfl, h⟩, fun q => by cases q⟩
    · have e1 : dget ((j, d) :: ds) i = dget ds i := by simp [dget, List.find?_cons, e]
      have e2 : L2.valV ((j.map Sum.inl, v) :: vs) (i.map Sum.inl : List Key) = L2.valV vs (i.map Sum.inl) := L2.valV_neg (fun z => e (inl_inj z))
      rw [e1, e2]
      exact ⟨a, b⟩
theorem RepS.val : ∀ {ks : List (Key × V)} {kvs : List (S × D)} (i : S), RepS G π n H ks kvs →
    (∀ d, dget kvs i = some d → ∃ v, L2.valV ks (.inr (toStr i)) = some v ∧ Rep G π n H v d) ∧ (dget kvs i = none → L2.valV ks (.inr (toStr i)) = none)
  | _, _, i, .nil => ⟨fun d e => by simp [dget] at e, fun _ => rfl⟩
  | _, _, i, .cons (s := j) (v := v) (d := d) (vs := vs) (ds := ds) h r => by
    obtain ⟨a, b⟩ := RepS.val i r
    by_cases e : j = i
    · subst e
      have e1 : dget ((j, d) :: ds) j = some d := by simp [dget, List.find?_cons]
      have e2 : L2.valV ((Sum.inr (toStr j), v) :: vs) (Sum.inr (toStr j) : Key) = some v := L2.valV_pos rfl
      rw [e1, e2]
      exact ⟨fun d' q => by cases q; exact ⟨_, rfl, h⟩, fun q => by cases q⟩
    · have e1 : dget ((j, d) :: ds) i = dget ds i := by simp [dget, List.find?_cons, e]
      have e2 : L2.valV ((Sum.inr (toStr j), v) :: vs) (Sum.inr (toStr i) : Key) = L2.valV vs (Sum.inr (toStr i)) := L2.valV_neg (fun z => e (toStr_inj.mp (Sum.inr.inj z)))
      rw [e1, e2]
      exact ⟨a, b⟩
theorem RepI.length : ∀ {vs : List (Key × V)} {ds : List (Int × D)}, RepI G π n H vs ds → vs.length = ds.length
  | _, _, .nil => rfl
  | _, _, .cons _ r => congrArg (· + 1) (RepI.length r)
theorem RepT.length : ∀ {vs : List (List Key × V)} {ds : List (List Int × D)}, RepT G π n H vs ds → vs.length = ds.length
  | _, _, .nil => rfl
  | _, _, .cons _ r => congrArg (· + 1) (RepT.length r)
theorem RepS.length : ∀ {vs : List (Key × V)} {ds : List (S × D)}, RepS G π n H vs ds → vs.length = ds.length
  | _, _, .nil => rfl
  | _, _, .cons _ r => congrArg (· + 1) (RepS.length r)
theorem RepI.append : ∀ {vs ws : List (Key × V)} {ds es : List (Int × D)}, RepI G π n H vs ds → RepI G π n H ws es → RepI G π n H (vs ++ ws) (ds ++ es)
  | _, _, _, _, .nil, s => s
  | _, _, _, _, .cons h r, s => .cons h (RepI.append r s)
theorem RepT.append : ∀ {vs ws : List (List Key × V)} {ds es : List (List Int × D)}, RepT G π n H vs ds → RepT G π n H ws es → RepT G π n H (vs ++ ws) (ds ++ es)
  | _, _, _, _, .nil, s => s
  | _, _, _, _, .cons h r, s => .cons h (RepT.append r s)
theorem RepI.any {i : Int} : ∀ {ks : List (Key × V)} {kvs : List (Int × D)}, RepI G π n H ks kvs → (ks.any fun kv => decide (kv.1 = (.inl i : Key))) = kvs.any fun kv => decide (kv.1 = i)
  | _, _, .nil => rfl
  | _, _, .cons (i := j) h r => by
    rw [List.any_cons, List.any_cons, RepI.any r]
    congr 1
    by_cases e : j = i
    · rw [decide_eq_true (congrArg Sum.inl e), decide_eq_true e]
    · rw [decide_eq_false (fun z => e (Sum.inl.inj z)), decide_eq_false e]
theorem RepI.map {i : Int} {v : V} {d : D} (hv : Rep G π n H v d) : ∀ {ks : List (Key × V)} {kvs : List (Int × D)}, RepI G π n H ks kvs →
    RepI G π n H (ks.map fun kv => if kv.1 = (.inl i : Key) then (kv.1, v) else kv) (kvs.map fun kv => if kv.1 = i then (kv.1, d) else kv)
  | _, _, .nil => .nil
  | _, _, .cons (i := j) h r => by
    rw [List.map_cons, List.map_cons]
    by_cases e : j = i
    · rw [if_pos (congrArg Sum.inl e), if_pos e]
      exact .cons hv (RepI.map hv r)
    · rw [if_neg (fun z => e (Sum.inl.inj z)), if_neg e]
      exact .cons h (RepI.map hv r)
theorem RepI.put {i : Int} {v : V} {d : D} {ks : List (Key × V)} {kvs : List (Int × D)} (r : RepI G π n H ks kvs) (hv : Rep G π n H v d) : RepI G π n H (L2.putK ks (.inl i) v) (dput kvs i d) := by
  unfold L2.putK dput
  rw [r.any]
  split
  · exact r.map hv
  · exact r.append (.cons hv .nil)
theorem RepT.any {i : List Int} : ∀ {ks : List (List Key × V)} {kvs : List (List Int × D)}, RepT G π n H ks kvs → (ks.any fun kv => decide (kv.1 = (i.map Sum.inl : List Key))) = kvs.any fun kv => decide (kv.1 = i)
  | _, _, .nil => rfl
  | _, _, .cons (ks := j) h r => by
    rw [List.any_cons, List.any_cons, RepT.any r]
    congr 1
    by_cases e : j = i
    · rw [decide_eq_true (congrArg _ e), decide_eq_true e]
    · rw [decide_eq_false (fun z => e (inl_inj z)), decide_eq_false e]
theorem RepT.map {i : List Int} {v : V} {d : D} (hv : Rep G π n H v d) : ∀ {ks : List (List Key × V)} {kvs : List (List Int × D)}, RepT G π n H ks kvs →
    RepT G π n H (ks.map fun kv => if kv.1 = (i.map Sum.inl : List Key) then (kv.1, v) else kv) (kvs.map fun kv => if kv.1 = i then (kv.1, d) else kv)
  | _, _, .nil => .nil
  | _, _, .cons (ks := j) h r => by
    rw [List.map_cons, List.map_cons]
    by_cases e : j = i
    · rw [if_pos (congrArg _ e), if_pos e]
      exact .cons hv (RepT.map hv r)
    · rw [if_neg (fun z => e (inl_inj z)), if_neg e]
      exact .cons h (RepT.map hv r)
theorem RepT.put {i : List Int} {v : V} {d : D} {ks : List (List Key × V)} {kvs : List (List Int × D)} (r : RepT G π n H ks kvs) (hv : Rep G π n H v d) : RepT G π n H (L2.putK ks (i.map Sum.inl) v) (dput kvs i d) := by
  unfold L2.putK dput
  rw [r.any]
  split
  · exact r.map hv
  · exact r.append (.cons hv .nil)
theorem map_kV (l : List Int) : (l.map Sum.inl : List Key).map L2.kV = l.map V.int := by rw [List.map_map]; rfl
/-- a tuple of ints, as a key -/
theorem Rep.key {v : V} {ds : List D} {l : List Int} (r : Rep G π n H v (.tup ds)) (e : intsOf ds = some l) : ∃ b, v = .ref b ∧ H b = some (.tup ((l.map Sum.inl : List Key).map L2.kV)) := by
  obtain ⟨a, xs, rfl, _, q, z⟩ := r.sqt
  refine ⟨a, rfl, ?_⟩
  rw [map_kV, ← q.ints e]
  exact z (by rw [e]; simp)
theorem getK {a : Addr} {ks : List (Key × V)} {k : Key} (e : Rd H a (.dK ks)) : L2.DGet H a (L2.kV k) (L2.valV ks k) := .inl ⟨ks, k, e, rfl, rfl⟩
theorem getT {a b : Addr} {ks : List (List Key × V)} {k : List Key} (e : Rd H a (.dT ks)) (eb : H b = some (.tup (k.map L2.kV))) : L2.DGet H a (.ref b) (L2.valV ks k) := .inr ⟨ks, k, b, e, rfl, eb, rfl⟩
/-- what a dict of the store, or one that stays, holds -/
theorem dictAt_get {h : Hs} {v w : V} {d k : D} {r : Option D} (hp : HpR G π h H) (rv : Rep G π h.length H v d) (rk : Rep G π h.length H w k) (e : dictAt h d k = some r) (hk : ∀ kvs, d = .fs kvs → ∃ o, ∃ a, v = .ref a ∧ ∃ ks, H a = some (.frz o (.dK ks)) ∧ RepS G π h.length H ks kvs) :
    ∃ a o, v = .ref a ∧ L2.IsD H a ∧ L2.DGet H a w o ∧ (∀ x, r = some x → ∃ y, o = some y ∧ Rep G π h.length H y x) ∧ (r = none → o = none) := by
  cases d with
  | fi kvs =>
    cases k <;> simp only [dictAt, reduceCtorEq, Option.some.injEq] at e
    subst e
    cases rk
    cases rv with
    | fi ha hr =>
      obtain ⟨z1, z2⟩ := hr.val _
      exact ⟨_, _, rfl, .inl ⟨_, .inr ⟨_, ha⟩⟩, getK (k := .inl _) (.inr ⟨_, ha⟩), z1, z2⟩
  | ft kvs =>
    cases k <;> simp only [dictAt, reduceCtorEq, Option.map_eq_some_iff] at e
    obtain ⟨l, e1, rfl⟩ := e
    obtain ⟨b, rfl, hb⟩ := rk.key e1
    cases rv with
    | ft ha hr =>
      obtain ⟨z1, z2⟩ := hr.val l
      exact ⟨_, _, rfl, .inr ⟨_, .inr ⟨_, ha⟩⟩, getT (.inr ⟨_, ha⟩) hb, z1, z2⟩
  | fs kvs =>
    cases k <;> simp only [dictAt, reduceCtorEq, Option.some.injEq] at e
    subst e
    cases rk
    obtain ⟨o, a, rfl, ks, ha, hr⟩ := hk _ rfl
    obtain ⟨z1, z2⟩ := hr.val _
    exact ⟨_, _, rfl, .inl ⟨_, .inr ⟨_, ha⟩⟩, getK (k := .inr _) (.inr ⟨_, ha⟩), z1, z2⟩
  | ref i =>
    cases rv with
    | ref i hi =>
    simp only [dictAt] at e
    split at e
    · rename_i kvs hq
      cases k <;> simp only [reduceCtorEq, Option.some.injEq] at e
      subst e
      cases rk
      obtain ⟨ks, ha, hr⟩ := hp.ob i _ hq
      obtain ⟨z1, z2⟩ := hr.val _
      exact ⟨_, _, rfl, .inl ⟨_, .inl ha⟩, getK (k := .inl _) (.inl ha), z1, z2⟩
    · rename_i kvs hq
      cases k <;> simp only [reduceCtorEq, Option.map_eq_some_iff] at e
      obtain ⟨l, e1, rfl⟩ := e
      obtain ⟨b, rfl, hb⟩ := rk.key e1
      obtain ⟨ks, ha, hr⟩ := hp.ob i _ hq
      obtain ⟨z1, z2⟩ := hr.val l
      exact ⟨_, _, rfl, .inr ⟨_, .inl ha⟩, getT (.inl ha) hb, z1, z2⟩
    · cases e
  | _ => simp [dictAt] at e
end
end Y

set_option Elab.async false
set_option linter.all false
set_option maxRecDepth 100000
set_option maxHeartbeats 4000000
namespace Y
open PySem PySem.Spec PyProof.Rows
open L2 (V Hp HO upd upd_same upd_ne SqL SqT Rd VK TE TT TA TS TG XK WX Cx Inv PE PT PA PS PSs PG PI Key RelV Vals EP Mut ne_of ne_of_none OpR CallR IxR SlR MtR thn)

theorem atI_eq {α : Type} (xs : List α) (i : Int) : Y.atI xs i = L2.atI xs i := rfl
section
variable {G : Gm} {π : Nat → Addr} {n : Nat} {H : Hp}
theorem Reps.atI {vs : List V} {ds : List D} {i : Int} {d : D} (r : Reps G π n H vs ds) (e : Y.atI ds i = some d) : ∃ v, L2.atI vs i = some v ∧ Rep G π n H v d := by
  unfold Y.atI at e
  unfold L2.atI
  obtain ⟨j, e1, e2⟩ := Option.bind_eq_some_iff.mp e
  obtain ⟨v, a, b⟩ := r.get e2
  have e1' : L2.ixN vs.length i = some j := by rw [r.length]; exact e1
  rw [e1']
  exact ⟨v, a, b⟩
theorem map_atI {α β : Type} (f : α → β) (xs : List α) (i : Int) : L2.atI (xs.map f) i = (L2.atI xs i).map f := by
  unfold L2.atI
  rw [List.length_map]
  cases L2.ixN xs.length i with
  | none => rfl
  | some j => simp
theorem dget_str (kvs : List (S × S)) (s : S) : dget (kvs.map fun kv => (kv.1, D.str kv.2)) s = (kvs.find? fun kv => decide (kv.1 = s)).map fun kv => D.str kv.2 := by
  induction kvs with
  | nil => rfl
  | cons kv r ih =>
    by_cases e : kv.1 = s
    · simp [dget, List.find?_cons, e]
    · have : dget ((kv.1, D.str kv.2) :: r.map fun kv => (kv.1, D.str kv.2)) s = dget (r.map fun kv => (kv.1, D.str kv.2)) s := by simp [dget, List.find?_cons, e]
      rw [List.map_cons, this, ih, List.find?_cons]
      simp [e]
end
/-! ### x[i] -/
def opIdx (h : Hs) (x y : D) : R D := one h (index h x y)
section
variable {X : Cx} {G : Gm}
open L2 in
theorem ix_dict (hu : X.A.units + 1 < cLine) : IxR X (fun x y H Q => ∃ a v, x = V.ref a ∧ DGet H a y (some v) ∧ Q v H) := by
  intro value slice pins s σ H x y v u Q I rx ry h hs
  obtain ⟨a, r, rfl, g, q⟩ := h
  obtain rfl : v = Value.ref a := rx
  exact tail_any (dict_typeIs I g) slot_dict_getitem.lookup (d_getItem hu I g ry fun w' s' I' r' => ⟨r, H, I', r', q⟩) hs
variable (hK : G.K = X.K) (hw : G.w = X.w)
include hK hw
theorem ok_idx (hu : X.A.units + 1 < cLine) : IxR X (rO G opIdx) := by
  intro value slice pins s σ H x y v u Q I rx ry ⟨π, h, d1, d2, hp, r1, r2, k⟩ hs
  have kd : ∀ {r : D}, dictAt h d1 d2 = some (some r) → index h d1 d2 = some r → (∀ kvs, d1 = .fs kvs → ∃ o, ∃ a, x = .ref a ∧ ∃ ks, H a = some (.frz o (.dK ks)) ∧ RepS G π h.length H ks kvs) →
      wpAny (model X.prog X.w) X.A (subscriptTail value slice v u) (EP X pins σ Q) X.xe s := fun {r} e e2 hk => by
    obtain ⟨a, o, rfl, _, g, z1, _⟩ := dictAt_get hp r1 r2 e hk
    obtain ⟨y', rfl, ry'⟩ := z1 r rfl
    unfold opIdx at k
    rw [e2] at k
    exact ix_dict hu value slice pins s σ H _ _ v u Q I rx ry ⟨a, y', rfl, g, k.fin hp ry'⟩ hs
  cases d1 with
  | scr l =>
    cases d2 <;> try exact k.elim
    rename_i i
    cases r1 with
    | scr h1 =>
    cases r2
    unfold opIdx index at k
    simp only at k
    cases e : Y.atI l i with
    | none => rw [e] at k; exact k.elim
    | some z =>
      rw [e] at k
      refine L2.ix_list value slice pins s σ H _ _ v u Q I rx ry ⟨_, _, _, _, rfl, rfl, by rw [← hK]; exact h1.sq, ?_, k.fin hp (.int z)⟩ hs
      rw [map_atI, ← atI_eq, e]; rfl
  | tup ds =>
    cases d2 <;> try exact k.elim
    rename_i i
    obtain ⟨a, xs, rfl, h1, q1, _⟩ := r1.sqt
    cases r2
    unfold opIdx index at k
    simp only at k
    cases e : Y.atI ds i with
    | none => rw [e] at k; exact k.elim
    | some z =>
      rw [e] at k
      obtain ⟨w, a1, a2⟩ := q1.atI e
      exact L2.ix_tup value slice pins s σ H _ _ v u Q I rx ry ⟨_, _, _, _, rfl, rfl, by rw [← hK]; exact h1, a1, k.fin hp a2⟩ hs
  | fl ds =>
    cases d2 <;> try exact k.elim
    rename_i i
    cases r1 with
    | fl h1 q1 =>
    cases r2
    unfold opIdx index at k
    simp only at k
    cases e : Y.atI ds i with
    | none => rw [e] at k; exact k.elim
    | some z =>
      rw [e] at k
      obtain ⟨w, a1, a2⟩ := q1.atI e
      exact L2.ix_list value slice pins s σ H _ _ v u Q I rx ry ⟨_, _, _, _, rfl, rfl, .inl (.inr ⟨_, h1⟩), a1, k.fin hp a2⟩ hs
  | str z =>
    cases d2 <;> try exact k.elim
    rename_i i
    cases r1; cases r2
    unfold opIdx index at k
    simp only at k
    split at k
    · rename_i c
      cases e : Y.atI z i with
      | none => rw [e] at k; exact k.elim
      | some w =>
        rw [e] at k
        have q : (toStr z).cps.toList = z := by simp
        exact L2.ix_str value slice pins s σ H _ _ v u Q I rx ry ⟨_, _, w, rfl, rfl, by rw [toStr_len]; exact sz_le c, by rw [q]; exact e, k.fin hp (.str [w])⟩ hs
    · exact k.elim
  | ref r =>
    unfold opIdx index at k
    simp only at k
    split at k
    · rename_i ds hq
      cases d2 <;> try exact k.elim
      rename_i i
      cases r1 with
      | ref _ hi =>
      cases r2
      obtain ⟨xs, ha, q1⟩ := hp.ob r _ hq
      simp only at k
      cases e : Y.atI ds i with
      | none => rw [e] at k; exact k.elim
      | some z =>
        rw [e] at k
        obtain ⟨w, a1, a2⟩ := q1.atI e
        exact L2.ix_list value slice pins s σ H _ _ v u Q I rx ry ⟨_, _, _, _, rfl, rfl, .inl (.inl ha), a1, k.fin hp a2⟩ hs
    · rename_i kvs hq
      cases d2 <;> try exact k.elim
      rename_i i
      simp only at k
      cases e : dget kvs i with
      | none => rw [e] at k; exact k.elim
      | some z => exact kd (r := z) (by simp [dictAt, hq, e]) (by simp [index, hq, e]) (fun _ q => by cases q)
    · rename_i kvs hq
      cases d2 <;> try exact k.elim
      rename_i ds
      simp only at k
      cases e1 : intsOf ds with
      | none => rw [e1] at k; exact k.elim
      | some l =>
        rw [e1] at k
        cases e : dget kvs l with
        | none => simp only [Option.bind_some, e] at k; exact k.elim
        | some z => exact kd (r := z) (by simp [dictAt, hq, e1, e]) (by simp [index, hq, e1, e]) (fun _ q => by cases q)
    · exact k.elim
  | fi kvs =>
    cases d2 <;> try exact k.elim
    rename_i i
    unfold opIdx index at k
    simp only at k
    cases e : dget kvs i with
    | none => rw [e] at k; exact k.elim
    | some z => exact kd (r := z) (by simp [dictAt, e]) (by simp [index, e]) (fun _ q => by cases q)
  | ft kvs =>
    cases d2 <;> try exact k.elim
    rename_i ds
    unfold opIdx index at k
    simp only at k
    cases e1 : intsOf ds with
    | none => rw [e1] at k; exact k.elim
    | some l =>
      rw [e1] at k
      cases e : dget kvs l with
      | none => simp only [Option.bind_some, e] at k; exact k.elim
      | some z => exact kd (r := z) (by simp [dictAt, e1, e]) (by simp [index, e1, e]) (fun _ q => by cases q)
  | fs kvs =>
    cases d2 <;> try exact k.elim
    rename_i i
    unfold opIdx index at k
    simp only at k
    cases e : dget kvs i with
    | none => rw [e] at k; exact k.elim
    | some z =>
      cases r1 with
      | fs ha hr => exact kd (r := z) (by simp [dictAt, e]) (by simp [index, e]) (fun _ q => by cases q; exact ⟨_, _, rfl, _, ha, hr⟩)
      | fk hd =>
        rename_i a kvs
        rw [e] at k
        cases r2
        obtain ⟨es, nn, ⟨e1, e2, e3⟩, _⟩ := hd.kd
        have hl := hd.look i
        rw [dget_str] at e
        obtain ⟨kv, e4, rfl⟩ := Option.map_eq_some_iff.mp e
        rw [e4] at hl
        obtain ⟨t, e5⟩ := hl
        rw [hK] at e1 e5
        rw [hw] at e2
        exact L2.ix_kdict value slice pins s σ H _ _ v u Q I rx ry ⟨a, _, .str (toStr kv.2), rfl, rfl, ⟨es, nn, _, e1, e2, e5, ⟨t, rfl⟩⟩, k.fin hp (.str kv.2)⟩ hs
  | _ => cases d2 <;> exact k.elim
end
/-! ### slices -/
def opSl (h : Hs) (x : D) (lo hi : Option Int) : R D := one h (slice x lo hi)
def rSl (G : Gm) : V → Option Int → Option Int → Hp → VK → Prop := fun x lo hi H Q => ∃ π h d, HpR G π h H ∧ Rep G π h.length H x d ∧ PostO G π h.length H (opSl h d lo hi) Q
theorem sl_fz {X : Cx} {r : V → Option Int → Option Int → Hp → VK → Prop} (h : SlR X r) : SlR X (fun x lo hi H Q => r x lo hi H (Fz Q)) := fun pins s σ H x v vl vu lo hi sl Q I rx hs pl pu q =>
  let ⟨T, id, h1, h2, h3⟩ := h pins s σ H x v vl vu lo hi sl (Fz Q) I rx hs pl pu q
  ⟨T, id, h1, h2, thn h3 fun _ _ z => EP.fz z⟩
theorem Reps.cut {G : Gm} {π : Nat → Addr} {n : Nat} {H : Hp} {vs : List V} {ds : List D} (r : Reps G π n H vs ds) (lo hi : Option Int) : Reps G π n H (L2.cutV vs lo hi) (Y.cut ds lo hi) := by
  unfold L2.cutV Y.cut
  rw [r.length]
  exact (r.drop _).take _
theorem cut_whole {α : Type} {ds : List α} {lo hi : Option Int} (h : HT.sIx ds.length 0 lo = 0 ∧ HT.sIx ds.length ds.length hi = ds.length) : Y.cut ds lo hi = ds := by
  unfold Y.cut
  have h1 : Y.sIx ds.length 0 lo = 0 := h.1
  have h2 : Y.sIx ds.length ds.length hi = ds.length := h.2
  rw [h1, h2]
  simp
section
variable {X : Cx} {G : Gm} (hK : G.K = X.K)
include hK
theorem ok_sl : SlR X (rSl G) := by
  intro pins s σ H x v vl vu lo hi sl Q I rx hs pl pu ⟨π, h, d, hp, r, k⟩
  cases d with
  | tup ds =>
    obtain ⟨a, xs, rfl, h1, q1, _⟩ := r.sqt
    unfold opSl slice at k
    refine L2.sl_tupA pins s σ H _ v vl vu lo hi sl Q I rx hs pl pu ⟨a, xs, rfl, by rw [← hK]; exact h1, fun c => ?_, fun c p hn => ?_⟩
    · rw [q1.length] at c
      have k : PostO G π h.length H (.ok (.tup (Y.cut ds lo hi)) h) Q := k
      rw [cut_whole c] at k
      exact k.fin hp r
    · exact PostO.lay (d := .tup (Y.cut ds lo hi)) k hp hn (.tup upd_same ((q1.cut lo hi).step (Stp.lay hp hn)))
  | fl ds =>
    cases r with
    | fl h1 q1 =>
    refine sl_fz L2.sl_list pins s σ H _ v vl vu lo hi sl Q I rx hs pl pu ⟨_, _, rfl, .inl (.inr ⟨_, h1⟩), fun p hn => Fz.lst (ds := Y.cut ds lo hi) k hp hn (q1.cut lo hi)⟩
  | str z =>
    cases r
    unfold opSl slice at k
    simp only at k
    split at k
    · rename_i c
      refine L2.sl_str pins s σ H _ v vl vu lo hi sl Q I rx hs pl pu ⟨_, rfl, by rw [toStr_len]; exact sz_le c, ?_⟩
      have e : L2.cutS (toStr z) lo hi = toStr (Y.cut z lo hi) := by
        unfold L2.cutS Y.cut
        rw [toStr_len]
        rfl
      rw [e]
      exact PostO.fin (d := .str (Y.cut z lo hi)) k hp (.str _)
    · exact k.elim
  | _ => exact k.elim
end
/-! ### x[i] = v -/
/-- by values -/
def rSet (G : Gm) : V → V → V → Hp → (Hp → Prop) → Prop := fun o i v H Q => ∃ π h d1 d2 d3 h', HpR G π h H ∧ Rep G π h.length H o d1 ∧ Rep G π h.length H i d2 ∧ Rep G π h.length H v d3 ∧ setIx h d1 d2 d3 = some h' ∧
  ∀ π' H', Stp π h.length H π' h'.length H' → HpR G π' h' H' → Q H'
theorem nImm_of {H : Hp} {a : Addr} {o : HO} (h : H a = some o) (hi : ¬ Imm o) : ∀ u, H a = some u → ¬ Imm u := fun u e => by
  rw [h] at e
  cases e
  exact hi
section
variable {X : Cx} {G : Gm}
theorem ok_set (hu : X.A.units + 1 < cLine) : L2.PSet X (rSet G) := by
  intro pins s σ H o i v ov iv u Q I ro ri rv ⟨π, h, d1, d2, d3, h', hp, r1, r2, r3, e, k⟩
  cases d1 with
  | ref r =>
    cases r1 with
    | ref _ hi =>
    simp only [setIx] at e
    split at e
    · rename_i ds hq
      cases d2 <;> simp only [reduceCtorEq, Option.map_eq_some_iff] at e
      rename_i j
      obtain ⟨jj, e1, rfl⟩ := e
      cases r2
      obtain ⟨xs, ha, q1⟩ := hp.ob r _ hq
      have nm := nImm_of ha (fun z => z)
      refine L2.set_list pins s σ H _ _ _ ov iv u Q I ro ri rv ⟨_, _, _, jj, rfl, rfl, ha, by rw [q1.length]; exact e1, ?_⟩
      have st := Stp.set (π := π) (H := H) (o := .lst (xs.set jj v)) hi nm
      exact k _ _ (by rw [List.length_set]; exact st) (hp.set hi nm ⟨_, upd_same, (q1.step st).set jj (r3.step st)⟩)
    · rename_i kvs hq
      cases d2 <;> simp only [reduceCtorEq] at e
      rename_i j
      split at e
      · rename_i c
        cases e
        cases r2
        obtain ⟨ks, ha, q1⟩ := hp.ob r _ hq
        have nm := nImm_of ha (fun z => z)
        obtain rfl : ov = Value.ref (π r) := ro
        have st := Stp.set (π := π) (H := H) (o := .dK (L2.putK ks (.inl j) v)) hi nm
        refine L2.d_setItem hu I (L2.DPut.k (k := .inl j) ha ?_) ri rv fun s' I' => ⟨_, I', ?_⟩
        · rw [q1.length, sizeLine_eq]; exact c
        · exact k _ _ (by rw [List.length_set]; exact st) (hp.set hi nm ⟨_, upd_same, (q1.step st).put (r3.step st)⟩)
      · cases e
    · rename_i kvs hq
      cases d2 <;> simp only [reduceCtorEq] at e
      rename_i ds
      split at e
      · rename_i l e1
        split at e
        · rename_i c
          cases e
          obtain ⟨b, rfl, hb⟩ := r2.key e1
          obtain ⟨ks, ha, q1⟩ := hp.ob r _ hq
          have nm := nImm_of ha (fun z => z)
          obtain rfl : ov = Value.ref (π r) := ro
          have st := Stp.set (π := π) (H := H) (o := .dT (L2.putK ks (l.map Sum.inl) v)) hi nm
          refine L2.d_setItem hu I (L2.DPut.t ha hb ?_) ri rv fun s' I' => ⟨_, I', ?_⟩
          · rw [q1.length, sizeLine_eq]; exact c
          · exact k _ _ (by rw [List.length_set]; exact st) (hp.set hi nm ⟨_, upd_same, (q1.step st).put (r3.step st)⟩)
        · cases e
      · cases e
    · cases e
  | _ => simp [setIx] at e
end
end Y

set_option Elab.async false
set_option linter.all false
set_option maxRecDepth 100000
set_option maxHeartbeats 4000000
namespace Y
open PySem PySem.Spec PyProof.Rows
open L2 (V Hp HO upd upd_same upd_ne SqL SqT Rd VK TE TT TA TS TG XK WX Cx Inv PE PT PA PS PSs PG PI Key RelV Vals EP Mut ne_of ne_of_none OpR CallR IxR SlR MtR thn)

/-! ### comparisons -/
section
variable {X : Cx} {G : Gm} {π : Nat → Addr} {h : Hs} {H : Hp}
theorem dp_deref {v : V} {d : D} (hp : HpR G π h H) (r : Rep G π h.length H v d) (ok : (deref h d).ok = true) : L2.Dp G.K H v (deref h d).py := by
  cases d with
  | ref i =>
    cases r with
    | ref _ hi =>
    cases hq : h[i]? with
    | none =>
      have e : deref h (.ref i) = .ref i := by simp only [deref, hq]
      rw [e] at ok
      simp [D.okn] at ok
    | some ob =>
      cases ob with
      | lst ds =>
        have e : deref h (.ref i) = .fl ds := by simp only [deref, hq]
        rw [e] at ok ⊢
        obtain ⟨xs, ha, q⟩ := hp.ob i _ hq
        have ok' : D.oksn 59 ds = true := by simpa [D.okn] using ok
        exact .lst (.inl (.inl ha)) (q.dp ok')
      | _ =>
        have e : deref h (.ref i) = .ref i := by simp only [deref, hq]
        rw [e] at ok
        simp [D.okn] at ok
  | _ => exact r.dp ok
variable (hK : G.K = X.K) (hw : G.w = X.w)
include hK
theorem ok_eq (hu : X.A.units + 64 < cLine) : OpR X (compareOp .Eq) (rO G (cop .eq)) := by
  intro pins s σ H x y v u Q I rx ry ⟨π, h, d1, d2, hp, r1, r2, k⟩
  simp only [cop] at k
  split at k
  · rename_i c
    refine L2.op_eqD hu pins s σ H x y v u Q I rx ry ⟨_, _, ?_, ?_, shaped_of c.1, shaped_of c.2, ?_⟩
    · rw [← hK]; exact dp_deref hp r1 c.1
    · rw [← hK]; exact dp_deref hp r2 c.2
    · rw [eqv_py _ _ 60 60 c.1 c.2]
      exact k.fin hp (.bl _)
  · exact k.elim
theorem ok_ne (hu : X.A.units + 64 < cLine) : OpR X (compareOp .NotEq) (rO G (cop .ne)) := by
  intro pins s σ H x y v u Q I rx ry ⟨π, h, d1, d2, hp, r1, r2, k⟩
  simp only [cop] at k
  split at k
  · rename_i c
    refine L2.op_neD hu pins s σ H x y v u Q I rx ry ⟨_, _, ?_, ?_, shaped_of c.1, shaped_of c.2, ?_⟩
    · rw [← hK]; exact dp_deref hp r1 c.1
    · rw [← hK]; exact dp_deref hp r2 c.2
    · rw [eqv_py _ _ 60 60 c.1 c.2]
      exact k.fin hp (.bl _)
  · exact k.elim
omit hK in
theorem ok_cmpI {o : Cop} {op : CmpOp} {g : Int → Int → Bool} (hr : OpR X (compareOp op) (L2.rI0 fun i j => .bl (g i j))) (hc : ∀ h i j, cop o h (.int i) (.int j) = .ok (.bl (g i j)) h)
    (hn : ∀ h a b, (∀ i j, ¬ (a = .int i ∧ b = .int j)) → cop o h a b = .bad) : OpR X (compareOp op) (rO G (cop o)) := by
  intro pins s σ H x y v u Q I rx ry ⟨π, h, d1, d2, hp, r1, r2, k⟩
  by_cases c : ∃ i j, d1 = .int i ∧ d2 = .int j
  · obtain ⟨i, j, rfl, rfl⟩ := c
    cases r1; cases r2
    rw [hc] at k
    exact hr pins s σ H _ _ v u Q I rx ry ⟨_, _, rfl, rfl, k.fin hp (.bl _)⟩
  · rw [hn h d1 d2 fun i j z => c ⟨i, j, z⟩] at k
    exact k.elim
omit hK in
theorem ok_lt : OpR X (compareOp .Lt) (rO G (cop .lt)) := ok_cmpI L2.op_lt (fun _ _ _ => rfl) fun h a b n => by
  cases a <;> cases b <;> first | rfl | exact absurd ⟨rfl, rfl⟩ (n _ _)
omit hK in
theorem ok_le : OpR X (compareOp .LtE) (rO G (cop .le)) := ok_cmpI L2.op_le (fun _ _ _ => rfl) fun h a b n => by
  cases a <;> cases b <;> first | rfl | exact absurd ⟨rfl, rfl⟩ (n _ _)
omit hK in
theorem ok_gt : OpR X (compareOp .Gt) (rO G (cop .gt)) := ok_cmpI L2.op_gt (fun _ _ _ => rfl) fun h a b n => by
  cases a <;> cases b <;> first | rfl | exact absurd ⟨rfl, rfl⟩ (n _ _)
omit hK in
theorem ok_ge : OpR X (compareOp .GtE) (rO G (cop .ge)) := ok_cmpI L2.op_ge (fun _ _ _ => rfl) fun h a b n => by
  cases a <;> cases b <;> first | rfl | exact absurd ⟨rfl, rfl⟩ (n _ _)
omit hK in
theorem ok_is0 {neg : Bool} {op : CmpOp} (h1 : OpR X (compareOp op) (fun x y H Q => y = .non ∧ Q (.bl (if neg then !decide (x = .non) else decide (x = .non))) H))
    (h2 : OpR X (compareOp op) (fun x y H Q => ∃ a b : Bool, x = .bl a ∧ y = .bl b ∧ Q (.bl (if neg then !decide (a = b) else decide (a = b))) H)) {g : Hs → D → D → R D}
    (hg : ∀ h a b, g h a b = match isIs a b with | some k => .ok (.bl (if neg then !k else k)) h | none => .bad) : OpR X (compareOp op) (rO G g) := by
  intro pins s σ H x y v u Q I rx ry ⟨π, h, d1, d2, hp, r1, r2, k⟩
  rw [hg] at k
  cases d2 with
  | non =>
    have e2 : isIs d1 .non = some (decide (x = V.non)) := by cases r1 <;> rfl
    cases r2
    rw [e2] at k
    exact h1 pins s σ H x _ v u Q I rx ry ⟨rfl, k.fin hp (.bl _)⟩
  | bl b =>
    cases d1 <;> simp only [isIs] at k <;> try exact k.elim
    cases r1; cases r2
    exact h2 pins s σ H _ _ v u Q I rx ry ⟨_, _, rfl, rfl, k.fin hp (.bl _)⟩
  | _ => cases d1 <;> simp only [isIs] at k <;> exact k.elim
omit hK in
theorem ok_is : OpR X (compareOp .Is) (rO G (cop .is)) := ok_is0 (neg := false) L2.op_isN L2.op_isBl fun h a b => by
  simp only [cop]
  cases isIs a b <;> rfl
omit hK in
theorem ok_isnot : OpR X (compareOp .IsNot) (rO G (cop .isnot)) := ok_is0 (neg := true) L2.op_notN L2.op_notBl fun h a b => by
  simp only [cop]
  cases isIs a b <;> rfl
omit hK in
theorem oksn_dl {ds : List D} (h : D.oks ds = true) : SeqAt.shaped (.list (D.pys ds)) = true := by
  obtain ⟨a, b⟩ := oksn_lay ds 59 h
  unfold SeqAt.shaped
  simp only [PyData.canLay0, PyData.depth, a, Bool.true_and]
  exact decide_eq_true (by omega)
omit hK in
theorem any_py {x : D} (hx : x.ok = true) : ∀ {ds : List D}, D.oks ds = true → ((D.pys ds).any fun z => PyData.eqv z x.py) = ds.any fun z => D.eqv z x
  | [], _ => rfl
  | d :: r, h => by
    simp only [D.oks, D.oksn, Bool.and_eq_true] at h
    rw [D.pys, List.any_cons, List.any_cons, any_py hx h.2, eqv_py d x 59 60 h.1 hx]
omit hK in
theorem any_flat {x : D} (hx : x.flat = true) : ∀ {ds : List D}, ds.all D.flat = true → (L2.inV (vD x) (ds.map vD)) = ds.any fun z => D.eqv z x
  | [], _ => rfl
  | d :: r, h => by
    rw [List.all_cons, Bool.and_eq_true] at h
    have ih := any_flat hx h.2
    unfold L2.inV at ih ⊢
    rw [List.map_cons, List.any_cons, List.any_cons, ih, eqV_eqv d x h.1 hx]
include hw in
theorem ok_in0 (hu : X.A.units + 65 < cLine) {neg : Bool} {op : CmpOp} (h1 : OpR X (compareOp op) (L2.rIn X.K neg))
    (h2 : OpR X (compareOp op) (fun x y H Q => ∃ d ds, L2.Dp X.K H x d ∧ L2.Dp X.K H y (.list ds) ∧ SeqAt.shaped d = true ∧ SeqAt.shaped (.list ds) = true ∧ Q (.bl (if neg then !(ds.any fun z => PyData.eqv z d) else ds.any fun z => PyData.eqv z d)) H))
    (h3 : OpR X (compareOp op) (fun x y H Q => ∃ (c : Nat) (z : Str), x = .str ⟨#[c]⟩ ∧ y = .str z ∧ Q (.bl (if neg then !decide (c ∈ z.cps.toList) else decide (c ∈ z.cps.toList))) H))
    (h4 : ∀ (pins : List (Addr × Obj)) (s : Shared) (σ : L2.St) (H : Hp) (a : Addr) (y : V) (u : Value) (o : Option V) (Q : Value → Shared → Prop), Inv X pins σ H s → L2.DGet H a y o → RelV y u →
      (∀ s', Inv X pins σ H s' → Q (.bool (if neg then !o.isSome else o.isSome)) s') → wpAny (model X.prog X.w) X.A (compareOp op u (.ref a)) Q X.xe s)
    (h5 : ∀ {d : Addr} {es : Array DictEntry} {n : Nat}, L2.KDict X.K X.w d es n → OpR X (compareOp op) (fun x y H Q => ∃ (z : Str) (r : Option Value), x = .str z ∧ y = .ref d ∧ PySem.W.nsIn X.K d z = some r ∧ Q (.bl (if neg then !r.isSome else r.isSome)) H))
    {g : Hs → D → D → R D} (hg : ∀ h a b, g h a b = match isIn h a b with | some k => .ok (.bl (if neg then !k else k)) h | none => .bad) : OpR X (compareOp op) (rO G g) := by
  intro pins s σ H x y v u Q I rx ry ⟨π, h, d1, d2, hp, r1, r2, k⟩
  rw [hg] at k
  cases d2 with
  | tup ds =>
    obtain ⟨a, xs, rfl, hs, q1, _⟩ := r2.sqt
    simp only [isIn] at k
    by_cases c : d1.flat = true ∧ ds.all D.flat = true
    · rw [if_pos c] at k
      obtain ⟨e1, f1⟩ := r1.flat c.1
      obtain ⟨e2, f2⟩ := q1.flat c.2
      refine h1 pins s σ H x _ v u Q I rx ry ⟨_, _, rfl, .inr (by rw [← hK]; exact hs), f1, f2, ?_⟩
      rw [e1, e2, any_flat c.1 c.2]
      have := k.fin hp (.bl _)
      cases neg <;> exact this
    · rw [if_neg c] at k
      exact k.elim
  | fl ds =>
    simp only [isIn] at k
    by_cases c : d1.ok = true ∧ D.oks ds = true
    · rw [if_pos c] at k
      refine h2 pins s σ H x _ v u Q I rx ry ⟨d1.py, D.pys ds, by rw [← hK]; exact r1.dp c.1, ?_, shaped_of c.1, oksn_dl c.2, ?_⟩
      · rw [← hK]
        have := r2.dp (k := 60) (by simpa [D.okn] using c.2)
        exact this
      · rw [any_py c.1 c.2]
        exact k.fin hp (.bl _)
    · rw [if_neg c] at k
      exact k.elim
  | ref i =>
    simp only [isIn] at k
    cases r2 with
    | ref _ hi =>
    cases hq : h[i]? with
    | none => rw [hq] at k; exact k.elim
    | some ob =>
      rw [hq] at k
      cases ob with
      | lst ds =>
        simp only at k
        by_cases c : d1.ok = true ∧ D.oks ds = true
        · rw [if_pos c] at k
          obtain ⟨xs, ha, q⟩ := hp.ob i _ hq
          refine h2 pins s σ H x _ v u Q I rx ry ⟨d1.py, D.pys ds, by rw [← hK]; exact r1.dp c.1, by rw [← hK]; exact .lst (.inl (.inl ha)) (q.dp c.2), shaped_of c.1, oksn_dl c.2, ?_⟩
          rw [any_py c.1 c.2]
          exact k.fin hp (.bl _)
        · rw [if_neg c] at k
          exact k.elim
      | _ => exact k.elim
  | str z =>
    simp only [isIn] at k
    cases d1 with
    | str cs =>
      cases cs with
      | nil => exact k.elim
      | cons c0 r =>
        cases r with
        | cons _ _ => exact k.elim
        | nil =>
          cases r1; cases r2
          refine h3 pins s σ H _ _ v u Q I rx ry ⟨c0, _, rfl, rfl, ?_⟩
          have e : (toStr z).cps.toList = z := by simp
          rw [e]
          exact k.fin hp (.bl _)
    | _ => exact k.elim
  | fs kvs =>
    simp only [isIn] at k
    cases d1 with
    | str cs =>
      cases r2 with
      | fs ha hr =>
        cases r1
        obtain ⟨z1, z2⟩ := hr.val cs
        rename_i a o ks
        obtain rfl : u = Value.ref a := ry
        refine h4 pins s σ H a _ v _ _ I (getK (k := .inr (toStr cs)) (.inr ⟨_, ha⟩)) rx fun s' I' => ⟨.bl _, H, I', rfl, ?_⟩
        have e : (L2.valV ks (.inr (toStr cs))).isSome = (dget kvs cs).isSome := by
          cases e : dget kvs cs with
          | none => rw [z2 e]; rfl
          | some d => obtain ⟨v', e', _⟩ := z1 d e; rw [e']; rfl
        rw [e]
        exact k.fin hp (.bl _)
      | fk hd =>
        rename_i a kvs
        cases r1
        obtain ⟨es, nn, hkd, _⟩ := hd.kd
        have hl := hd.look cs
        rw [hK, hw] at hkd
        rw [hK] at hl
        have e : (dget (kvs.map fun kv => (kv.1, D.str kv.2)) cs).isSome = (kvs.find? fun kv => decide (kv.1 = cs)).isSome := by rw [dget_str]; simp
        simp only at k
        rw [e] at k
        cases e2 : kvs.find? fun kv => decide (kv.1 = cs) with
        | none =>
          rw [e2] at hl k
          exact h5 hkd pins s σ H _ _ v u Q I rx ry ⟨_, _, rfl, rfl, hl, k.fin hp (.bl _)⟩
        | some kv =>
          rw [e2] at hl k
          obtain ⟨t, hl⟩ := hl
          exact h5 hkd pins s σ H _ _ v u Q I rx ry ⟨_, _, rfl, rfl, hl, k.fin hp (.bl _)⟩
    | _ => exact k.elim
  | _ => exact k.elim
include hw in
theorem ok_in (hu : X.A.units + 65 < cLine) : OpR X (compareOp .In) (rO G (cop .isin)) :=
  ok_in0 hK hw hu (neg := false) L2.op_in_seq (L2.op_inD hu) L2.op_in_sign (fun pins s σ H a y u o Q I g r h => L2.d_in (by omega) I g r h) L2.op_in_kd fun h a b => by
    simp only [cop]
    cases isIn h a b <;> rfl
include hw in
theorem ok_notin (hu : X.A.units + 65 < cLine) : OpR X (compareOp .NotIn) (rO G (cop .notin)) :=
  ok_in0 hK hw hu (neg := true) L2.op_notIn_seq (L2.op_notInD hu) L2.op_notIn_sign (fun pins s σ H a y u o Q I g r h => L2.d_notIn (by omega) I g r h) L2.op_notIn_kd fun h a b => by
    simp only [cop]
    cases isIn h a b <;> rfl
end
end Y

set_option Elab.async false
set_option linter.all false
set_option maxRecDepth 100000
set_option maxHeartbeats 4000000
namespace Y
open PySem PySem.Spec PyProof.Rows
open L2 (V Hp HO upd upd_same upd_ne SqL SqT Rd VK TE TT TA TS TG XK WX Cx Inv PE PT PA PS PSs PG PI Key RelV Vals EP Mut ne_of ne_of_none OpR CallR IxR SlR MtR thn)

/-! ### built-in functions -/
def rC (G : Gm) (g : Hs → List D → R D) : List V → Hp → VK → Prop := fun xs H Q => ∃ π h ds, HpR G π h H ∧ Reps G π h.length H xs ds ∧ PostO G π h.length H (g h ds) Q
section
variable {G : Gm} {π : Nat → Addr} {n : Nat} {h : Hs} {H : Hp}
theorem Reps.one {xs : List V} {d : D} (r : Reps G π n H xs [d]) : ∃ v, xs = [v] ∧ Rep G π n H v d := by
  cases r with
  | cons a b => cases b; exact ⟨_, rfl, a⟩
theorem Reps.two {xs : List V} {d e : D} (r : Reps G π n H xs [d, e]) : ∃ v w, xs = [v, w] ∧ Rep G π n H v d ∧ Rep G π n H w e := by
  cases r with
  | cons a b =>
    cases b with
    | cons c d => cases d; exact ⟨_, _, rfl, a, c⟩
/-- the items of what is no tuple -/
theorem seq_list {v : V} {d : D} {ds : List D} (hp : HpR G π h H) (r : Rep G π h.length H v d) (e : seqOf d h = some ds) :
    (∃ a xs, v = .ref a ∧ SqT G.K H a xs ∧ Reps G π h.length H xs ds ∧ d = .tup ds ∧ (intsOf ds ≠ none → H a = some (.tup xs))) ∨ ∃ a xs, v = .ref a ∧ Rd H a (.lst xs) ∧ Reps G π h.length H xs ds := by
  cases d with
  | tup l =>
    simp only [seqOf, Option.some.injEq] at e
    subst e
    obtain ⟨a, xs, rfl, hs, q, z⟩ := r.sqt
    exact .inl ⟨a, xs, rfl, hs, q, rfl, z⟩
  | fl l =>
    simp only [seqOf, Option.some.injEq] at e
    subst e
    cases r with
    | fl ha q => exact .inr ⟨_, _, rfl, .inr ⟨_, ha⟩, q⟩
  | ref i =>
    cases r with
    | ref _ hi =>
    cases hq : h[i]? with
    | none => simp [seqOf, hq] at e
    | some ob =>
      cases ob <;> simp [seqOf, hq] at e
      subst e
      obtain ⟨xs, ha, q⟩ := hp.ob i _ hq
      exact .inr ⟨_, xs, rfl, .inl ha, q⟩
  | _ => simp [seqOf] at e
theorem one_ok {o : Option D} {Q : VK} (k : PostO G π n H (Y.one h o) Q) : ∃ d, o = some d ∧ PostO G π n H (.ok d h) Q := by
  cases o with
  | none => exact k.elim
  | some d => exact ⟨d, rfl, k⟩
end
/-! uniqueness of what is sorted -/
theorem insI_perm (x : Int) : ∀ l : List Int, (insI x l).Perm (x :: l)
  | [] => .refl _
  | y :: r => by
    unfold insI
    split
    · exact .refl _
    · exact ((insI_perm x r).cons y).trans (.swap x y r)
theorem sortI_perm : ∀ l : List Int, (sortI l).Perm l
  | [] => .refl _
  | x :: r => (insI_perm x _).trans ((sortI_perm r).cons x)
theorem insI_sorted {x : Int} : ∀ {l : List Int}, l.Pairwise (· ≤ ·) → (insI x l).Pairwise (· ≤ ·)
  | [], _ => by simp [insI]
  | y :: r, h => by
    unfold insI
    rw [List.pairwise_cons] at h
    split
    · rename_i c
      rw [List.pairwise_cons]
      refine ⟨fun z hz => ?_, List.pairwise_cons.mpr h⟩
      rcases List.mem_cons.mp hz with e | hz
      · subst e; exact c
      · have := h.1 z hz; omega
    · rename_i c
      rw [List.pairwise_cons]
      refine ⟨fun z hz => ?_, insI_sorted h.2⟩
      have hz' := (insI_perm x r).mem_iff.mp hz
      rcases List.mem_cons.mp hz' with e | hz'
      · omega
      · exact h.1 z hz'
theorem sortI_sorted : ∀ l : List Int, (sortI l).Pairwise (· ≤ ·)
  | [] => .nil
  | x :: r => insI_sorted (sortI_sorted r)
theorem sorted_eq {a b : List Int} (p : a.Perm b) (ha : a.Pairwise (· ≤ ·)) (hb : b.Pairwise (· ≤ ·)) : a = b :=
  List.Perm.eq_of_pairwise (le := (· ≤ ·)) (fun a b _ _ h1 h2 => Int.le_antisymm h1 h2) ha hb p
section
variable {X : Cx} {G : Gm} (hK : G.K = X.K)
include hK
theorem cb_len : CallR X (.builtin "len") (rC G (blt .len)) := by
  intro pins s σ H xs us Q I r ⟨π, h, ds, hp, rs, k⟩
  match ds, rs, k with
  | [], _, k => exact k.elim
  | _ :: _ :: _, _, k => exact k.elim
  | [d], rs, k =>
    obtain ⟨v, rfl, rv⟩ := rs.one
    obtain ⟨d', e0, k⟩ := one_ok k
    obtain ⟨n, e, rfl⟩ := Option.map_eq_some_iff.mp e0
    clear e0
    have kk := k.fin hp (.int _)
    refine L2.call_len pins s σ H _ us Q I r ⟨v, n, rfl, ?_, kk⟩
    cases d with
    | scr l =>
      simp only [lenOf, Option.some.injEq] at e
      subst e
      cases rv with
      | scr ha => exact .inl ⟨_, by rw [← hK]; exact ha.sq, by simp⟩
    | tup l =>
      simp only [lenOf, Option.some.injEq] at e
      subst e
      obtain ⟨a, xs, rfl, hs, q, _⟩ := rv.sqt
      exact .inr ⟨xs, by rw [← hK]; exact hs, q.length.symm⟩
    | fl l =>
      simp only [lenOf, Option.some.injEq] at e
      subst e
      cases rv with
      | fl ha q => exact .inl ⟨_, .inl (.inr ⟨_, ha⟩), q.length.symm⟩
    | str z =>
      cases rv
      simp only [lenOf] at e
      split at e
      · rename_i c
        cases e
        exact ⟨by rw [toStr_len]; exact sz_le c, toStr_len z⟩
      · cases e
    | ref i =>
      cases rv with
      | ref _ hi =>
      cases hq : h[i]? with
      | none => simp [lenOf, hq] at e
      | some ob =>
        cases ob <;> simp [lenOf, hq] at e
        subst e
        obtain ⟨xs, ha, q⟩ := hp.ob i _ hq
        exact .inl ⟨xs, .inl (.inl ha), q.length.symm⟩
    | _ => simp [lenOf] at e
omit hK in
theorem cb_abs : CallR X (.builtin "abs") (rC G (blt .abs)) := by
  intro pins s σ H xs us Q I r ⟨π, h, ds, hp, rs, k⟩
  match ds, rs, k with
  | [.int i], rs, k =>
    obtain ⟨v, rfl, rv⟩ := rs.one
    cases rv
    exact L2.call_abs pins s σ H _ us Q I r ⟨i, rfl, PostO.fin (d := .int _) k hp (.int _)⟩
omit hK in
theorem cb_max2 (hc : X.calm = true) : CallR X (.builtin "max") (rC G (blt .max2)) := by
  intro pins s σ H xs us Q I r ⟨π, h, ds, hp, rs, k⟩
  match ds, rs, k with
  | [.int i, .int j], rs, k =>
    obtain ⟨v, w, rfl, rv, rw'⟩ := rs.two
    cases rv; cases rw'
    exact L2.call_max2 hc pins s σ H _ us Q I r ⟨i, j, rfl, PostO.fin (d := .int _) k hp (.int _)⟩
omit hK in
theorem cb_min2 (hc : X.calm = true) : CallR X (.builtin "min") (rC G (blt .min2)) := by
  intro pins s σ H xs us Q I r ⟨π, h, ds, hp, rs, k⟩
  match ds, rs, k with
  | [.int i, .int j], rs, k =>
    obtain ⟨v, w, rfl, rv, rw'⟩ := rs.two
    cases rv; cases rw'
    exact L2.call_min2 hc pins s σ H _ us Q I r ⟨i, j, rfl, PostO.fin (d := .int _) k hp (.int _)⟩
theorem intText_digit : ∀ c : Nat, 48 ≤ c → c < 58 → PySem.intText? (toStr [c]) = some ((c : Int) - 48) := by
  intro c h1 h2
  have : c = 48 ∨ c = 49 ∨ c = 50 ∨ c = 51 ∨ c = 52 ∨ c = 53 ∨ c = 54 ∨ c = 55 ∨ c = 56 ∨ c = 57 := by omega
  rcases this with rfl | rfl | rfl | rfl | rfl | rfl | rfl | rfl | rfl | rfl <;> decide +kernel
theorem cb_int : CallR X (.type "int") (rC G (blt .int)) := by
  intro pins s σ H xs us Q I r ⟨π, h, ds, hp, rs, k⟩
  match ds, rs, k with
  | [.int i], rs, k =>
    obtain ⟨v, rfl, rv⟩ := rs.one
    cases rv
    exact L2.call_int1 pins s σ H _ us Q I r (.inl ⟨i, rfl, PostO.fin (d := .int _) k hp (.int _)⟩)
  | [.bl b], rs, k =>
    obtain ⟨v, rfl, rv⟩ := rs.one
    cases rv
    exact L2.call_int1 pins s σ H _ us Q I r (.inr ⟨b, rfl, PostO.fin (d := .int _) k hp (.int _)⟩)
  | [.str []], rs, k => exact k.elim
  | [.str (_ :: _ :: _)], rs, k => exact k.elim
  | [.str [c]], rs, k =>
    obtain ⟨v, rfl, rv⟩ := rs.one
    cases rv
    simp only [blt] at k
    split at k
    · rename_i hc
      exact L2.call_int_str pins s σ H _ us Q I r ⟨_, _, rfl, intText_digit hK c hc.1 hc.2, by show [c].toArray.size ≤ 640; simp, k.fin hp (.int _)⟩
    · exact k.elim
theorem str_digit : ∀ i : Int, 0 ≤ i → i < 10 → (Str.ofString (toString i)) = toStr [48 + i.toNat] := by
  intro i h1 h2
  have : i = 0 ∨ i = 1 ∨ i = 2 ∨ i = 3 ∨ i = 4 ∨ i = 5 ∨ i = 6 ∨ i = 7 ∨ i = 8 ∨ i = 9 := by omega
  rcases this with rfl | rfl | rfl | rfl | rfl | rfl | rfl | rfl | rfl | rfl <;> decide +kernel
theorem cb_str : CallR X (.type "str") (rC G (blt .str)) := by
  intro pins s σ H xs us Q I r ⟨π, h, ds, hp, rs, k⟩
  match ds, rs, k with
  | [.int i], rs, k =>
    obtain ⟨v, rfl, rv⟩ := rs.one
    cases rv
    simp only [blt] at k
    split at k
    · rename_i hc
      refine L2.call_str_int pins s σ H _ us Q I r ⟨i, rfl, ?_, ?_⟩
      · have : i.natAbs < 2 ^ 4 := by omega
        exact Nat.lt_of_lt_of_le (PySem.Flt.log2_lt_of (by decide) this) (by decide)
      · rw [str_digit hK i hc.1 hc.2]
        exact k.fin hp (.str _)
    · exact k.elim
theorem cb_sorted0 {π : Nat → Addr} {h : Hs} {l : List Int} {pins : List (Addr × Obj)} {s : Shared} {σ : L2.St} {H : Hp} {a : Addr} {xs : List V} {ds : List D} {us : List Value} {Q : VK} (I : Inv X pins σ H s) (r : Vals [V.ref a] us) (hp : HpR G π h H)
    (ha : Rd H a (.lst xs)) (q : Reps G π h.length H xs ds) (e : intsOf ds = some l) (k : PostO G π h.length H (.ok (.fl (dints (sortI l))) h) Q) : wpAny (model X.prog X.w) X.A (call (.builtin "sorted") us) (EP X pins σ Q) X.xe s := by
  have ex := q.ints e
  subst ex
  refine call_fz L2.cr_sortedI pins s σ H _ us Q I r ⟨a, l, rfl, .inl ha, fun ns' p hperm hsort hn => ?_⟩
  have e2 : ns' = sortI l := sorted_eq (hperm.trans (sortI_perm l).symm) hsort (sortI_sorted l)
  rw [e2]
  exact Fz.lst k hp hn (Reps.ofInts _)
theorem cb_all (hc : X.calm = true) : CallR X (.builtin "all") (rC G (blt .all)) := by
  intro pins s σ H xs us Q I r ⟨π, h, ds, hp, rs, k⟩
  match ds, rs, k with
  | [.fl l], rs, k =>
    obtain ⟨v, rfl, rv⟩ := rs.one
    cases rv with
    | fl ha q =>
    obtain ⟨d', e0, k⟩ := one_ok k
    obtain ⟨bs, e, rfl⟩ := Option.map_eq_some_iff.mp e0
    clear e0
    have ex := q.bls e
    subst ex
    exact L2.cr_all hc pins s σ H _ us Q I r ⟨_, bs, rfl, .inl (.inr ⟨_, ha⟩), k.fin hp (.bl _)⟩
theorem cb_any (hc : X.calm = true) : CallR X (.builtin "any") (rC G (blt .any)) := by
  intro pins s σ H xs us Q I r ⟨π, h, ds, hp, rs, k⟩
  match ds, rs, k with
  | [.fl l], rs, k =>
    obtain ⟨v, rfl, rv⟩ := rs.one
    cases rv with
    | fl ha q =>
    obtain ⟨d', e0, k⟩ := one_ok k
    obtain ⟨bs, e, rfl⟩ := Option.map_eq_some_iff.mp e0
    clear e0
    have ex := q.bls e
    subst ex
    exact L2.cr_any hc pins s σ H _ us Q I r ⟨_, bs, rfl, .inl (.inr ⟨_, ha⟩), k.fin hp (.bl _)⟩
theorem cb_tuple : CallR X (.type "tuple") (rC G (blt .tuple)) := by
  intro pins s σ H xs us Q I r ⟨π, h, ds, hp, rs, k⟩
  match ds, rs, k with
  | [], _, k => exact k.elim
  | _ :: _ :: _, _, k => exact k.elim
  | [d], rs, k =>
    obtain ⟨v, rfl, rv⟩ := rs.one
    obtain ⟨d', e0, k⟩ := one_ok k
    obtain ⟨l, e, rfl⟩ := Option.map_eq_some_iff.mp e0
    clear e0
    rcases seq_list hp rv e with ⟨a, xs, rfl, hs, q, rfl, _⟩ | ⟨a, xs, rfl, ha, q⟩
    · exact L2.call_tuple_of pins s σ H _ us Q I r ⟨a, xs, rfl, .inr ⟨by rw [← hK]; exact hs, k.fin hp rv⟩⟩
    · exact L2.call_tuple_of pins s σ H _ us Q I r ⟨a, xs, rfl, .inl ⟨.inl ha, fun p hn => k.lay hp hn (.tup upd_same (q.step (Stp.lay hp hn)))⟩⟩
/-- max of a list -/
theorem maxL_spec : ∀ (x : Int) (r : List Int), (maxL (x :: r) ∈ x :: r) ∧ ∀ y ∈ x :: r, y ≤ maxL (x :: r) := by
  have key : ∀ (r : List Int) (x : Int), (r.foldl (fun a b => if b > a then b else a) x ∈ x :: r) ∧ ∀ y ∈ x :: r, y ≤ r.foldl (fun a b => if b > a then b else a) x := by
    intro r
    induction r with
    | nil => intro x; simp
    | cons z r ih =>
      intro x
      rw [List.foldl_cons]
      obtain ⟨h1, h2⟩ := ih (if z > x then z else x)
      refine ⟨?_, fun y hy => ?_⟩
      · rcases List.mem_cons.mp h1 with e | e
        · rw [e]; split <;> simp
        · simp [e]
      · have hm : (if z > x then z else x) ≤ r.foldl (fun a b => if b > a then b else a) (if z > x then z else x) := h2 _ (by simp)
        rcases List.mem_cons.mp hy with e | hy
        · subst e
          have : y ≤ (if z > y then z else y) := by split <;> omega
          omega
        · rcases List.mem_cons.mp hy with e | hy
          · subst e
            have : y ≤ (if y > x then y else x) := by split <;> omega
            omega
          · exact h2 y (by simp [hy])
  intro x r
  exact key r x
theorem cb_max (hc : X.calm = true) : CallR X (.builtin "max") (rC G (blt .max)) := by
  intro pins s σ H xs us Q I r ⟨π, h, ds, hp, rs, k⟩
  match ds, rs, k with
  | [.fl l], rs, k =>
    obtain ⟨v, rfl, rv⟩ := rs.one
    cases rv with
    | fl ha q =>
    simp only [blt] at k
    cases e : intsOf l with
    | none => rw [e] at k; exact k.elim
    | some ns =>
      rw [e] at k
      cases ns with
      | nil => exact k.elim
      | cons x t =>
        have ex := q.ints e
        subst ex
        refine L2.cr_max hc pins s σ H _ us Q I r ⟨_, x :: t, rfl, .inl (.inr ⟨_, ha⟩), by simp, fun m hm hle => ?_⟩
        obtain ⟨h1, h2⟩ := maxL_spec hK x t
        have e3 : m = maxL (x :: t) := Int.le_antisymm (h2 m hm) (hle _ h1)
        rw [e3]
        exact k.fin hp (.int _)
end
end Y

set_option Elab.async false
set_option linter.all false
set_option maxRecDepth 100000
set_option maxHeartbeats 4000000
namespace Y
open PySem PySem.Spec PyProof.Rows
open L2 (V Hp HO upd upd_same upd_ne SqL SqT Rd VK TE TT TA TS TG XK WX Cx Inv PE PT PA PS PSs PG PI Key RelV Vals EP Mut ne_of ne_of_none OpR CallR IxR SlR MtR thn)

section
variable {M : Program} {w : World} {A : Around} {E : Value → Shared → Prop} {s : Shared}
/-- a tuple's items, collected -/
theorem collect_tup {l : Addr} {vs : List Value} {Q : List Value → Shared → Prop} (hl : IsTup s.heap l vs.toArray) (hsz : vs.length ≤ sizeLine)
    (h : ∀ h', (∀ b o, s.heap.get? b = some o → h'.get? b = some o) → Q vs { s with heap := h' }) : wpAny (model M w) A (collect (.ref l)) Q E s := by
  obtain ⟨o, ho, hc, n, hd⟩ := id hl
  unfold collect
  refine wpAny_bind (wpAny_runValue (codeAny_builtin entry_proto_collect' ?_))
  show wpAny _ _ (do again (.builtin "list.__iadd__" ⟨[← newList [], .ref l], []⟩)) _ _ s
  refine wpAny_bind (wpAny_newList (wpAny_pure ⟨Code.quiet_builtin _ (by decide +kernel), codeAny_builtin entry_list_iadd' ?_⟩))
  show wpAny _ _ (Builtin.List.listExtendWith (.ref s.heap.objs.size) (.ref l) (.ref s.heap.objs.size)) _ _ { s with heap := s.heap.push (seqObj "list" #[] 0) }
  unfold Builtin.List.listExtendWith
  have ho' : (s.heap.push (seqObj "list" #[] 0)).get? l = some o := Heap.get?_push_of_some _ ho
  refine wpAny_bind (wpAny_typeOf (T := "tuple") ⟨o, ho', hc⟩ ?_)
  have ht : (Value.type "tuple" == Value.type "tuple") = true := by rfl
  rw [if_pos (by rw [ht]; simp)]
  refine wpAny_bind (listItems_at ho' hd ?_)
  refine wpAny_bind (listItems_at (xs := #[]) (n := 0) (Heap.get?_push_size _ rfl) rfl ?_)
  rw [if_neg (by simp)]
  refine wpAny_bind (listUpdate_at (xs := #[]) (n := 0) (Heap.get?_push_size _ rfl) rfl ?_ (Nat.zero_le _) (by show (#[] ++ vs.toArray).size ≤ sizeLine + 1; simp only [Array.size_append, List.size_toArray, List.length_nil]; omega))
  refine wpAny_pure ?_
  show wpAny (model M w) A (do
      let o ← load s.heap.objs.size
      match o.data with
      | .seq xs _ => pure xs.toList
      | _ => unsupported "internal:collect") Q E { s with heap := (s.heap.push (seqObj "list" #[] 0)).update s.heap.objs.size (Obj.mapSeq (· ++ vs.toArray)) }
  refine wpAny_bind (wpAny_load (get?_update_seq (Heap.get?_push_size _ rfl) _) ?_)
  show wpAny _ _ (pure ((#[] : Array Value) ++ vs.toArray).toList) Q E _
  rw [show ((#[] : Array Value) ++ vs.toArray).toList = vs by simp]
  refine wpAny_pure (h _ fun b o e => ?_)
  rw [Heap.get?_update_other _ _ (Ne.symm (Nat.ne_of_lt (Heap.lt_size e)))]
  exact Heap.get?_push_of_some _ e
end
section
variable {X : Cx} {pins : List (Addr × Obj)} {σ : L2.St} {H : Hp} {s : Shared}
/-- sorted(x), x of ints, whatever x is: what collecting it gives -/
theorem sorted_src {a : Addr} {ks : List Int} {Q : VK} (I : Inv X pins σ H s) (hz : ks.length ≤ sizeLine)
    (hc : ∀ R : List Value → Shared → Prop, (∀ h' tk vs, (∀ b o, s.heap.get? b = some o → h'.get? b = some o) → IntsAre vs ks → R vs { s with heap := h', toks := tk }) → wpAny (model X.prog X.w) X.A.in1 (collect (.ref a)) R X.xe s)
    (q : ∀ (ys : List Int) (p : Addr), ys.Perm ks → ys.Pairwise (· ≤ ·) → H p = none → Q (.ref p) (upd H p (.lst (ys.map V.int)))) :
    wpAny (model X.prog X.w) X.A (call (.builtin "sorted") [.ref a]) (EP X pins σ Q) X.xe s := by
  refine Calls.call_function_entry PyProof.Rows.kind_sorted PyProof.Rows.plain_sorted PyProof.Rows.entry_sorted (PyProof.Rows.args_sorted1 _) ?_
  unfold Builtin.«sorted»
  refine wpAny_bind (m := checkCount "sorted" 1 1 _) (wpAny_pure ?_)
  refine wpAny_bind (hc _ fun h' tk vs hk hS => ?_)
  have hal : vs.length = ks.length := hS.length
  have I1 : Inv X pins σ H { s with heap := h', toks := tk } := I.kept hk
  refine wpAny_bind (wpAny_newList ?_ (by rw [hal]; exact hz))
  have hoL : (h'.push (seqObj "list" vs.toArray 0)).get? h'.objs.size = some (seqObj "list" vs.toArray 0) := Heap.get?_push_size _ rfl
  show wpAny _ _ _ _ _ { s with heap := h'.push (seqObj "list" vs.toArray 0), toks := tk }
  refine wpAny_bind (wpAny_holding (wpAny_call_entry PyProof.Rows.slot_list_sort ⟨_, hoL, rfl⟩ PyProof.Rows.entry_list_sort
    (PyProof.Rows.list_sort_treeAny (s := { s with heap := h'.push (seqObj "list" vs.toArray 0), toks := tk }) hoL hS (by rw [hal]; exact hz) fun out ys g1 g2 g3 => ⟨_, rfl, ?_⟩) (PyProof.Rows.args_list_sort _)))
  obtain ⟨e', he'⟩ := PyProof.Rows.sortedHeap_at (vs := vs) (out := out) hoL
  have hlen : (ys.map V.int).length ≤ sizeLine := by
    rw [List.length_map, g2.length_eq]
    exact hz
  refine wpAny_pure ⟨_, rfl, .ref h'.objs.size, upd H h'.objs.size (.lst (ys.map V.int)), I1.laid (t' := tk) (fun b u e => ?_) (Nat.le_refl _)
    (show L2.ObjOk X.prog X.w _ _ _ (.lst (ys.map V.int)) from ⟨hlen, out.toList, e', L2.vals_of_ints g1, by rw [Array.toArray_toList]; exact he'⟩), rfl, q ys _ g2 g3 (I1.hok.fresh (Nat.le_refl _))⟩
  have hb : b < h'.objs.size := Heap.lt_size e
  rw [PyProof.Rows.sortedHeap_old (Nat.ne_of_lt hb) (by rw [size_push']; exact Nat.lt_succ_of_lt hb)]
  exact Heap.get?_push_of_some _ e
/-- sorted(t), t a tuple of ints -/
theorem sorted_tup {a : Addr} {ks : List Int} {Q : VK} (I : Inv X pins σ H s) (hs : SqT X.K H a (ks.map V.int))
    (q : ∀ (ys : List Int) (p : Addr), ys.Perm ks → ys.Pairwise (· ≤ ·) → H p = none → Q (.ref p) (upd H p (.lst (ys.map V.int)))) :
    wpAny (model X.prog X.w) X.A (call (.builtin "sorted") [.ref a]) (EP X pins σ Q) X.xe s := by
  obtain ⟨its, r, ht, hz⟩ := I.tuple hs
  have hi : IntsAre its ks := r.ints
  refine sorted_src I (by rw [List.length_map] at hz; exact hz) (fun R hR => collect_tup ht (by rw [← r.length]; exact hz) fun h' hk => ?_) q
  exact hR h' s.toks its hk hi
/-- sorted(d), d a dict of int keys -/
theorem sorted_dK (hcalm : X.calm = true) {a : Addr} {kvs : List (Key × V)} {ks : List Int} {Q : VK} (I : Inv X pins σ H s) (hd : Rd H a (.dK kvs)) (hks : kvs.map (·.1) = ks.map Sum.inl)
    (q : ∀ (ys : List Int) (p : Addr), ys.Perm ks → ys.Pairwise (· ≤ ·) → H p = none → Q (.ref p) (upd H p (.lst (ys.map V.int)))) :
    wpAny (model X.prog X.w) X.A (call (.builtin "sorted") [.ref a]) (EP X pins σ Q) X.xe s := by
  obtain ⟨z, lo, vs, rel, dd⟩ := L2.dk_rd I.hok hd
  obtain ⟨ep, hat⟩ := dd.dictAt
  have hkeys : vs.map (·.1) = ks.map Sum.inl := rel.keys.symm.trans hks
  have hl : vs.length = ks.length := by
    have e := congrArg List.length hkeys
    rw [List.length_map, List.length_map] at e
    exact e
  have h16 : vs.length ≤ sizeLine := by rw [← rel.length]; exact z
  refine sorted_src I (by rw [← hl]; exact h16) (fun R hR => ?_) q
  refine PySem.W.kdu_collect (A := X.A.in1) (PySem.W.kdl_dict (knd := L2.mixKind X.prog X.w) (kvs := vs) (ep := ep) lo) (I.ok.hd hcalm) hat h16 fun h' tk acc hk hacc => hR h' tk _ hk ?_
  refine L2.ints_each (by rw [Array.length_toList, hacc.1, hl]) fun j v e => ?_
  obtain ⟨k, x, e1, e2⟩ := hacc.2 j v (by rw [← Array.getElem?_toList]; exact e)
  have e3 : (vs.map (·.1))[j]? = some k := by rw [List.getElem?_map, e1]; rfl
  rw [hkeys, List.getElem?_map] at e3
  cases e4 : ks[j]? with
  | none => rw [e4] at e3; cases e3
  | some y =>
    rw [e4] at e3
    have e5 : Sum.inl y = k := Option.some.inj e3
    subst e5
    rcases L2.keyIs_shape (show L2.keyIs (Sum.inl y) v = true from e2) with ⟨i, t, ek, ev⟩ | ⟨z, t, ek, ev⟩
    · cases ek
      exact ⟨y, t, rfl, ev⟩
    · cases ek
/-- sum(t), t a tuple of ints -/
theorem sum_tup (hc : X.calm = true) {a : Addr} {ks : List Int} {Q : VK} (I : Inv X pins σ H s) (hs : SqT X.K H a (ks.map V.int)) (q : Q (.int ks.sum) H) :
    wpAny (model X.prog X.w) X.A (call (.builtin "sum") [.ref a]) (EP X pins σ Q) X.xe s := by
  obtain ⟨its, r, ht, hz⟩ := I.tuple hs
  have hi : IntsAre its ks := r.ints
  obtain ⟨xs, e⟩ := hi.allInts.items
  have hn : numsOf (intItems xs).toList = ks := by rw [← e]; exact hi.numsOf
  rw [nums_intItems] at hn
  rw [e] at ht
  have hlt : a < s.heap.objs.size := ht.lt
  have ht' : s.heap.IsTuple a (intItems xs) := ht
  refine call_sum_walkG (wpAny_pyIter_tuple ht' ?_)
  refine ⟨_, _, _, _, _, _, numAt xs, rfl, Walks.tuple (A := X.A.in1) (I.ok.hd hc) s.heap.objs.size a (Nat.ne_of_lt hlt) (intItems xs), ⟨⟨_, Heap.get?_push_size _ rfl, rfl, rfl⟩, ht.push _⟩, fun b hb => ?_, fun _ _ => intItems_at, fun h' tk t' hk => ?_⟩
  · show b < (s.heap.push _).objs.size
    rw [Heap.size_push]
    rcases List.mem_cons.mp hb with rfl | hb
    · exact Nat.lt_succ_self _
    · rcases List.mem_cons.mp hb with rfl | hb
      · exact Nat.lt_succ_of_lt hlt
      · cases hb
  · have e2 : preSum (numAt xs) (intItems xs).size = ks.sum := by
      rw [show (intItems xs).size = xs.size by simp [intItems], preSum_eq, List.take_of_length_le (by simp), hn]
    rw [e2]
    refine ⟨.int _, H, I.kept fun b o e => ?_, ⟨_, rfl⟩, q⟩
    refine hk b o (fun hm => ?_) (Heap.get?_push_of_some _ e)
    rcases List.mem_cons.mp hm with e1 | hm
    · exact absurd (e1 ▸ Heap.lt_size e) (Nat.lt_irrefl _)
    · cases hm
end
theorem RepI.keyD {G : Gm} {π : Nat → Addr} {n : Nat} {H : Hp} : ∀ {ks : List (Key × V)} {kvs : List (Int × D)}, RepI G π n H ks kvs → Reps G π n H (ks.map fun kv => L2.kV kv.1) (kvs.map fun kv => .int kv.1)
  | _, _, .nil => .nil
  | _, _, .cons _ q => .cons (.int _) q.keyD
theorem RepI.keys {G : Gm} {π : Nat → Addr} {n : Nat} {H : Hp} : ∀ {ks : List (Key × V)} {kvs : List (Int × D)}, RepI G π n H ks kvs → ks.map (·.1) = (kvs.map (·.1)).map Sum.inl
  | _, _, .nil => rfl
  | _, _, .cons _ q => by
    rw [List.map_cons, List.map_cons, List.map_cons, q.keys]
section
variable {X : Cx} {G : Gm} (hK : G.K = X.K)
include hK
theorem cb_sum (hc : X.calm = true) : CallR X (.builtin "sum") (rC G (blt .sum)) := by
  intro pins s σ H xs us Q I r ⟨π, h, ds, hp, rs, k⟩
  match ds, rs, k with
  | [], _, k => exact k.elim
  | _ :: _ :: _, _, k => exact k.elim
  | [d], rs, k =>
    obtain ⟨v, rfl, rv⟩ := rs.one
    obtain ⟨d', e0, k⟩ := one_ok k
    obtain ⟨l, e1, rfl⟩ := Option.map_eq_some_iff.mp e0
    clear e0
    obtain ⟨ds, e, e2⟩ := Option.bind_eq_some_iff.mp e1
    have kk := k.fin hp (.int _)
    rcases seq_list hp rv e with ⟨a, xs, rfl, hs, q, rfl, _⟩ | ⟨a, xs, rfl, ha, q⟩
    · have ex := q.ints e2
      subst ex
      obtain ⟨u, rfl, ru⟩ := L2.vals1 r
      cases ru
      exact sum_tup hc I (by rw [← hK]; exact hs) kk
    · have ex := q.ints e2
      subst ex
      exact L2.cr_sum hc pins s σ H _ us Q I r ⟨a, l, rfl, .inl ha, kk⟩
theorem cb_list (hc : X.calm = true) : CallR X (.type "list") (rC G (blt .list)) := by
  intro pins s σ H xs us Q I r ⟨π, h, ds, hp, rs, k⟩
  match ds, rs, k with
  | [], _, k => exact k.elim
  | .fi _ :: _ :: _, _, k => exact k.elim
  | .non :: _ :: _, _, k => exact k.elim
  | .bl _ :: _ :: _, _, k => exact k.elim
  | .int _ :: _ :: _, _, k => exact k.elim
  | .str _ :: _ :: _, _, k => exact k.elim
  | .tup _ :: _ :: _, _, k => exact k.elim
  | .fl _ :: _ :: _, _, k => exact k.elim
  | .ft _ :: _ :: _, _, k => exact k.elim
  | .fs _ :: _ :: _, _, k => exact k.elim
  | .ref _ :: _ :: _, _, k => exact k.elim
  | .exc _ :: _ :: _, _, k => exact k.elim
  | .scr _ :: _ :: _, _, k => exact k.elim
  | [d], rs, k =>
    obtain ⟨v, rfl, rv⟩ := rs.one
    by_cases hf : ∃ kvs, d = .fi kvs
    · obtain ⟨kvs, rfl⟩ := hf
      cases rv with
      | fi ha q =>
      have k : PostO G π h.length H (.ok (.fl (kvs.map fun kv => .int kv.1)) h) Q := k
      refine call_fz (L2.call_listD hc) pins s σ H _ us Q I r ⟨_, _, rfl, .inr ⟨_, ha⟩, fun p hn => ?_⟩
      refine Fz.lst k hp hn ?_
      exact q.keyD
    · have k' : PostO G π h.length H (one h ((seqOf d h).map .fl)) Q := by
        cases d <;> first | exact k | exact absurd ⟨_, rfl⟩ hf
      obtain ⟨d', e0, k⟩ := one_ok k'
      obtain ⟨l, e, rfl⟩ := Option.map_eq_some_iff.mp e0
      refine call_fz L2.call_list_of pins s σ H _ us Q I r ?_
      rcases seq_list hp rv e with ⟨a, xs, rfl, hs, q, rfl, _⟩ | ⟨a, xs, rfl, ha, q⟩
      · exact ⟨a, xs, rfl, .inr (by rw [← hK]; exact hs), fun p hn => Fz.lst k hp hn q⟩
      · exact ⟨a, xs, rfl, .inl (.inl ha), fun p hn => Fz.lst k hp hn q⟩
end
end Y

set_option Elab.async false
set_option linter.all false
set_option maxRecDepth 100000
set_option maxHeartbeats 4000000
namespace Y
open PySem PySem.Spec PyProof.Rows
open L2 (V Hp HO upd upd_same upd_ne SqL SqT Rd VK TE TT TA TS TG XK WX Cx Inv PE PT PA PS PSs PG PI Key RelV Vals EP Mut ne_of ne_of_none OpR CallR IxR SlR MtR thn)
section
variable {X : Cx} {G : Gm} (hK : G.K = X.K)
include hK
theorem cb_sorted (hc : X.calm = true) : CallR X (.builtin "sorted") (rC G (blt .sorted)) := by
  intro pins s σ H xs us Q I r ⟨π, h, ds, hp, rs, k⟩
  match ds, rs, k with
  | [], _, k => exact k.elim
  | _ :: _ :: _, _, k => exact k.elim
  | [d], rs, k =>
    obtain ⟨v, rfl, rv⟩ := rs.one
    obtain ⟨d', e0, k⟩ := one_ok k
    obtain ⟨l, e1, rfl⟩ := Option.map_eq_some_iff.mp e0
    clear e0
    have done : ∀ (ks ys : List Int) (p : Addr), ys.Perm ks → ys.Pairwise (· ≤ ·) → H p = none → l = dints (sortI ks) → Fz Q (.ref p) (upd H p (.lst (ys.map V.int))) := fun ks ys p h1 h2 hn e => by
      subst e
      have e2 : ys = sortI ks := sorted_eq (h1.trans (sortI_perm ks).symm) h2 (sortI_sorted ks)
      rw [e2]
      exact Fz.lst k hp hn (Reps.ofInts _)
    by_cases hf : ∃ kvs, d = .fi kvs
    · obtain ⟨kvs, rfl⟩ := hf
      cases rv with
      | fi ha q =>
      simp only [sortD, Option.some.injEq] at e1
      obtain ⟨u, rfl, ru⟩ := L2.vals1 r
      cases ru
      exact thn (sorted_dK hc (Q := Fz Q) I (.inr ⟨_, ha⟩) q.keys fun ys p h1 h2 hn => done _ ys p h1 h2 hn e1.symm) fun _ _ z => EP.fz z
    · have e2 : ((seqOf d h).bind intsOf).map (fun l => dints (sortI l)) = some l := by
        cases d <;> first | exact e1 | exact absurd ⟨_, rfl⟩ hf
      obtain ⟨ns, e3, rfl⟩ := Option.map_eq_some_iff.mp e2
      obtain ⟨ds, e, e4⟩ := Option.bind_eq_some_iff.mp e3
      rcases seq_list hp rv e with ⟨a, xs, rfl, hs, q, rfl, _⟩ | ⟨a, xs, rfl, ha, q⟩
      · have ex := q.ints e4
        subst ex
        obtain ⟨u, rfl, ru⟩ := L2.vals1 r
        cases ru
        exact thn (sorted_tup (Q := Fz Q) I (by rw [← hK]; exact hs) fun ys p h1 h2 hn => done _ ys p h1 h2 hn rfl) fun _ _ z => EP.fz z
      · exact cb_sorted0 hK I r hp ha q e4 k
end

/-! ### isinstance -/
def tyD : D → Option String
  | .non => some "NoneType"
  | .bl _ => some "bool"
  | .int _ => some "int"
  | .str _ => some "str"
  | .tup _ => some "tuple"
  | .fl _ => some "list"
  | _ => none
def tyN : Ty → Option String
  | .int => some "int"
  | .bool => some "bool"
  | .str => some "str"
  | .tuple => some "tuple"
  | _ => none
theorem Rep.ty {G : Gm} {π : Nat → Addr} {n : Nat} {H : Hp} {v : V} {d : D} {T : String} (r : Rep G π n H v d) (e : tyD d = some T) : L2.TyX G.K H v (.type T) := by
  cases d with
  | tup ds =>
    obtain ⟨a, xs, rfl, hs, _, _⟩ := r.sqt
    cases e
    rcases hs with (hs | ⟨o, hs⟩) | ⟨o, its, k, hk, hc, _⟩
    · exact .base (.tup hs)
    · exact .fTuple hs
    · exact .kTuple hk hc
  | fl ds =>
    cases e
    cases r with
    | fl ha _ => exact .base (.frz ha)
  | non => cases e; cases r; exact .base .non
  | bl b => cases e; cases r; exact .base (.bl b)
  | int i => cases e; cases r; exact .base (.int i)
  | str i => cases e; cases r; exact .base (.str _)
  | _ => cases e
theorem isi_kit {t : Ty} {d : D} {b : Bool} {T : String} (ht : tyN t = some T) (e : Y.isi t d = some b) : ∃ T', tyD d = some T' ∧ L2.kitB T' T = some b := by
  cases t with
  | intstr => cases ht
  | exc c => cases ht
  | _ =>
    cases ht
    cases d <;> cases e <;> exact ⟨_, rfl, by decide +kernel⟩
theorem isi_kit2 {d : D} {b : Bool} (K : PySem.W.Frag) (e : Y.isi .intstr d = some b) : ∃ T', tyD d = some T' ∧ PySem.W.kitAny K (.type T') [.type "int", .type "str"] = some b := by
  have two : ∀ (T' : String) (b1 b2 : Bool), L2.kitB T' "int" = some b1 → L2.kitB T' "str" = some b2 → PySem.W.kitAny K (.type T') [.type "int", .type "str"] = some (b1 || b2) := fun T' b1 b2 h1 h2 => by
    refine L2.kitAny_cons (L2.kit_ty h1) (fun hb => ?_) (fun hb => by rw [hb]; rfl)
    subst hb
    refine L2.kitAny_cons (L2.kit_ty h2) (fun hb => ?_) (fun hb => by rw [hb]; rfl)
    subst hb
    exact L2.kitAny_nil
  cases d <;> cases e <;> refine ⟨_, rfl, ?_⟩
  · exact two _ false false (by decide +kernel) (by decide +kernel)
  · exact two _ true false (by decide +kernel) (by decide +kernel)
  · exact two _ true false (by decide +kernel) (by decide +kernel)
  · exact two _ false true (by decide +kernel) (by decide +kernel)
  · exact two _ false false (by decide +kernel) (by decide +kernel)
  · exact two _ false false (by decide +kernel) (by decide +kernel)

/-! ### methods -/
section
variable {X : Cx} {G : Gm}
def rM (G : Gm) (m : Mth) : V → List V → Hp → VK → Prop := fun x xs H Q => ∃ π h d ds, HpR G π h H ∧ Rep G π h.length H x d ∧ Reps G π h.length H xs ds ∧ PostO G π h.length H (mth m h d ds) Q
theorem ObR.lst {π : Nat → Addr} {h : Hs} {H : Hp} {i : Nat} {xs : List V} {ds : List D} (hp : HpR G π h H) (hi : i < h.length) (ha : ∃ ys, H (π i) = some (.lst ys)) (q : Reps G π h.length H xs ds) :
    Stp π h.length H π (h.set i (.lst ds)).length (upd H (π i) (.lst xs)) ∧ HpR G π (h.set i (.lst ds)) (upd H (π i) (.lst xs)) := by
  obtain ⟨ys, ha⟩ := ha
  have hm := nImm_of ha (fun z => z)
  have s : Stp π h.length H π h.length (upd H (π i) (.lst xs)) := Stp.set hi hm
  refine ⟨by rw [List.length_set]; exact s, hp.set hi hm ⟨xs, upd_same, q.step s⟩⟩
theorem PostO.lset {π : Nat → Addr} {h : Hs} {H : Hp} {i : Nat} {xs : List V} {ds : List D} {d : D} {v : V} {Q : VK} (hp : HpR G π h H) (hi : i < h.length) (ha : ∃ ys, H (π i) = some (.lst ys)) (q : Reps G π h.length H xs ds)
    (k : PostO G π h.length H (.ok d (h.set i (.lst ds))) Q) (rd : Rep G π h.length H v d) : Q v (upd H (π i) (.lst xs)) := by
  obtain ⟨s, p⟩ := ObR.lst hp hi ha q
  exact k π v _ s p (rd.step s)
theorem cm_extend : MtR X "list.extend" (rM G .extend) := by
  intro pins s σ H x xs v us Q I rx rv ⟨π, h, d, ds, hp, rd, rs, k⟩
  match ds, rs, k with
  | [.fl ys], rs, k =>
    obtain ⟨y, rfl, ry⟩ := rs.one
    cases ry with
    | fl hb qb =>
    cases d with
    | ref i =>
      cases rd with
      | ref _ hi =>
      cases hq : h[i]? with
      | none => simp [mth, hq, PostO] at k
      | some ob =>
        cases ob with
        | lst zs =>
          simp only [mth, hq] at k
          split at k
          · rename_i hz
            obtain ⟨zs', ha, qa⟩ := hp.ob i _ hq
            cases rx
            obtain ⟨u, rfl, ru⟩ := rv.one
            cases ru
            obtain ⟨z, its, n, r, hl, e⟩ := I.lstM ha
            obtain ⟨z2, its2, n2, r2, hl2, e2⟩ := I.lstR (.inr ⟨_, hb⟩)
            have hzz : its.length + its2.length ≤ sizeLine := by
              rw [← hl, ← hl2, qa.length, qb.length]
              exact sz_le hz
            have hsz : its.toArray.size + its2.toArray.size ≤ sizeLine := by rw [List.size_toArray, List.size_toArray]; omega
            have hlong : ¬ (!its.toArray.isEmpty && Builtin.List.listTooLong (its.toArray.size + its2.toArray.size)) = true := by
              rw [L2.notLongL hsz, Bool.and_false]
              exact Bool.false_ne_true
            refine call_meets F.slot_list_extend ⟨_, e, rfl⟩ F.entry_list_extend (F.args_list_extend_2 _ _)
              (AutoSeq1.list_extend_list_list_0 (π i) its.toArray n _ its2.toArray n2 hlong (by rw [List.size_toArray]; omega) (by omega)) ⟨e, e2, ?_⟩
            refine ⟨.non, _, I.lset (its' := its ++ its2) ha e (by simp) (r.append r2) ?_, rfl, PostO.lset hp hi ⟨_, ha⟩ (qa.append qb) k .non⟩
            rw [List.length_append]
            omega
          · exact k.elim
        | _ => simp [mth, hq, PostO] at k
    | _ => exact k.elim
  | [], _, k => exact k.elim
  | _ :: _ :: _, _, k => exact absurd k (by simp [mth, PostO])
  | [.non], _, k => exact k.elim
  | [.bl _], _, k => exact k.elim
  | [.int _], _, k => exact k.elim
  | [.str _], _, k => exact k.elim
  | [.tup _], _, k => exact k.elim
  | [.fi _], _, k => exact k.elim
  | [.ft _], _, k => exact k.elim
  | [.fs _], _, k => exact k.elim
  | [.ref _], _, k => exact k.elim
  | [.exc _], _, k => exact k.elim
  | [.scr _], _, k => exact k.elim
end
/-! ### d.get(k, x) -/
section
variable {X : Cx} {G : Gm} (hK : G.K = X.K) (hw : G.w = X.w)
/-- a dict, whichever -/
def AnyD (G : Gm) (x : V) (H : Hp) : Prop := ∃ a, x = .ref a ∧ (L2.IsD H a ∨ ∃ es n, L2.KDict G.K G.w a es n)
def rGet (G : Gm) : V → V → V → Hp → VK → Prop := fun x y z H Q => ∃ π h d k e, HpR G π h H ∧ Rep G π h.length H x d ∧ Rep G π h.length H y k ∧ Rep G π h.length H z e ∧ PostO G π h.length H (mth .get h d [k, e]) Q
include hK hw
theorem anyD_at {pins : List (Addr × Obj)} {σ : L2.St} {H : Hp} {s : Shared} {a : Addr} (I : Inv X pins σ H s) (d : AnyD G (.ref a) H) :
    s.TypeIs (.ref a) "dict" ∧ (∀ b, Value.ref a = .ref b → ∃ ob, s.heap.get? b = some ob ∧ ob.dict = none) := by
  obtain ⟨b, e, d⟩ := d
  cases e
  rcases d with d | ⟨es, n, e1, e2, e3⟩
  · obtain ⟨t1, t2, _⟩ := L2.isD_at I d
    exact ⟨t1, t2⟩
  · rw [hK] at e1
    have q := I.kIn _ _ e1
    refine ⟨⟨_, q, rfl⟩, fun b e => ?_⟩
    cases e
    exact ⟨_, q, rfl⟩
theorem get_call (hu : X.A.units + 1 < cLine) {pins : List (Addr × Obj)} {σ : L2.St} {H : Hp} {s : Shared} {a : Addr} {y z : V} {u r : Value} {Q : VK} (I : Inv X pins σ H s) (ry : RelV y u) (rz : RelV z r) (q : rGet G (.ref a) y z H Q) :
    wpAny (model X.prog X.w) X.A (call (.builtin "dict.get") [.ref a, u, r]) (EP X pins σ Q) X.xe s := by
  obtain ⟨π, h, d, k, e, hp, r1, r2, r3, p⟩ := q
  simp only [mth] at p
  cases ed : dictAt h d k with
  | none => rw [ed] at p; exact p.elim
  | some o =>
    rw [ed] at p
    have p : PostO G π h.length H (.ok (o.getD e) h) Q := p
    by_cases hfk : ∃ kvs : List (S × S), d = .fs (kvs.map fun kv => (kv.1, .str kv.2)) ∧ KD G a kvs
    · obtain ⟨kvs, rfl, hd⟩ := hfk
      obtain ⟨es, n, ⟨e1, e2, e3⟩, _⟩ := hd.kd
      rw [hK] at e1
      rw [hw] at e2
      cases k <;> simp only [dictAt, reduceCtorEq, Option.some.injEq] at ed
      rename_i key
      cases r2
      obtain ⟨t, rfl⟩ := (show ∃ t, u = Value.str (toStr key) t from ry)
      have hm' := PySem.W.mapOf_K (prog := X.prog) (w := X.w) I.kIn e1 e2
      have hl := hd.look key
      rw [hK] at hl
      rw [dget_str] at ed
      refine call_meetsIn PySem.F.slot_dict_get hm'.typeIs PySem.F.entry_dict_get (PySem.F.args_dict_get_3 _ _ _) (meets_dict_get_default (strKind X.prog X.w) a (strKind_is X.prog X.w _ t) e3 r) ⟨_, hm', ?_⟩
      cases ef : kvs.find? (fun kv => decide (kv.1 = key)) with
      | none =>
        rw [ef] at hl ed
        rw [show findBy Value.isStrOf es (toStr key) = none from PySem.W.find_K e1 hl]
        cases ed
        exact ⟨z, H, I.tok _, rz, p.fin hp r3⟩
      | some kv =>
        rw [ef] at hl ed
        obtain ⟨t', hl⟩ := hl
        rw [show findBy Value.isStrOf es (toStr key) = some _ from PySem.W.find_K e1 hl]
        cases ed
        exact ⟨.str (toStr kv.2), H, I.tok _, ⟨t', rfl⟩, p.fin hp (.str kv.2)⟩
    · obtain ⟨b, ov, ea, hd, g, g1, g2⟩ := dictAt_get hp r1 r2 ed fun kvs ek => by
        subst ek
        cases r1 with
        | fs ha hr => exact ⟨_, a, rfl, _, ha, hr⟩
        | fk hd => exact absurd ⟨_, rfl, hd⟩ hfk
      cases ea
      refine L2.d_get2 hu I g ry rz fun w' s3 I3 rw' => ⟨_, H, I3, rw', ?_⟩
      cases o with
      | none =>
        rw [g2 rfl]
        exact p.fin hp r3
      | some x =>
        obtain ⟨y, e1, e2⟩ := g1 x rfl
        rw [e1]
        exact p.fin hp e2
theorem pe_get (hu : X.A.units + 1 < cLine) {o e f : Expr} {apos cpos : Pos} {td ty tx : TE} (ho : PE X o td) (he : PE X e ty) (hf : PE X f tx) (m : L2.M2 X o "get" apos e f cpos) :
    PE X (.Call (.Attribute o "get" apos) [e, f] [] cpos) (fun σ H Q => td σ H fun x H1 => AnyD G x H1 ∧ ty σ H1 fun y H2 => tx σ H2 fun z H3 => rGet G x y z H3 Q) := by
  refine ⟨fun pins s σ H Q I h => ?_⟩
  refine wpAny_Call_method m.base m.few m.line PySem.F.plainAttrs_dict PySem.F.slot_dict_get PySem.F.type_dict_get (thn (ho.run pins s σ H _ I h) fun u s1 ⟨x, H1, I1, rx, d, q1⟩ => ?_)
  obtain ⟨a, ex, _⟩ := id d
  subst ex
  obtain rfl : u = Value.ref a := rx
  obtain ⟨t1, t2⟩ := anyD_at hK hw I1 d
  refine ⟨t1, t2, ?_⟩
  rw [m.trees]
  refine Calls.callWith_builtin rfl (Calls.evalArgs_plain (Calls.spliced_cons (thn (he.run pins s1 σ H1 _ I1 q1) fun iv s2 ⟨y, H2, I2, ry, q2⟩ =>
    Calls.spliced_cons (thn (hf.run pins s2 σ H2 _ I2 q2) fun fv s3 ⟨z, H3, I3, rz, q3⟩ => Calls.spliced_nil ?_))))
  exact get_call hK hw hu I3 ry rz q3
end
end Y

set_option Elab.async false
set_option linter.all false
set_option maxRecDepth 100000
set_option maxHeartbeats 4000000
namespace Y
open PySem PySem.Spec PyProof.Rows
open L2 (V Hp HO upd upd_same upd_ne SqL SqT Rd VK TE TT TA TS TG XK WX Cx Inv PE PT PA PW PS PSs PG PI Key RelV Vals EP Mut ne_of ne_of_none OpR CallR IxR SlR MtR thn Takes)

theorem PE.imp {X : Cx} {e : Expr} {t t' : TE} (h : PE X e t) (hi : ∀ σ H Q, t' σ H Q → t σ H Q) : PE X e t' := ⟨fun pins s σ H Q I q => h.run pins s σ H Q I (hi σ H Q q)⟩
theorem PT.imp {X : Cx} {e : Expr} {t t' : TT} (h : PT X e t) (hi : ∀ σ H Q, t' σ H Q → t σ H Q) : PT X e t' := ⟨fun pins s σ H Q I q => h.run pins s σ H Q I (hi σ H Q q)⟩
theorem PW.imp {X : Cx} {e : Expr} {t t' : TT} (h : PW X e t) (hi : ∀ σ H Q, t' σ H Q → t σ H Q) : PW X e t' := ⟨fun wh pins s σ H Q I q => h.run wh pins s σ H Q I (hi σ H Q q)⟩
theorem PA.imp {X : Cx} {e : List Expr} {t t' : TA} (h : PA X e t) (hi : ∀ σ H Q, t' σ H Q → t σ H Q) : PA X e t' := ⟨fun pos pins s σ H Q I q => h.run pos pins s σ H Q I (hi σ H Q q)⟩
theorem PS.imp {X : Cx} {e : Stmt} {t t' : TS} (h : PS X e t) (hi : ∀ D σ H, t' D σ H → t D σ H) : PS X e t' := ⟨fun pins s σ H D I q => h.run pins s σ H D I (hi D σ H q)⟩
theorem PSs.imp {X : Cx} {e : List Stmt} {t t' : TS} (h : PSs X e t) (hi : ∀ D σ H, t' D σ H → t D σ H) : PSs X e t' := ⟨fun pins s σ H D I q => h.run pins s σ H D I (hi D σ H q)⟩

/-! ### nothing of these raises -/
theorem NoEx.ok {α : Type} {a : α} {h : Hs} : NoEx (.ok a h) := fun _ _ e => nomatch e
theorem NoEx.bad {α : Type} : NoEx (.bad : R α) := fun _ _ e => nomatch e
theorem NoEx.ite {α : Type} {c : Prop} [Decidable c] {a b : R α} (ha : NoEx a) (hb : NoEx b) : NoEx (if c then a else b) := by split <;> assumption
theorem noEx_one {h : Hs} {o : Option D} : NoEx (one h o) := by cases o <;> first | exact .bad | exact .ok
theorem noEx_bop {o : Bop} {h : Hs} {a b : D} : NoEx (bop o h a b) := by
  cases o <;> cases a <;> cases b <;> first | exact .ok | exact .bad | exact .ite .ok .bad
theorem noEx_catM {h : Hs} {a b : D} : NoEx (opCatM h a b) := by
  cases a <;> cases b <;> first | exact .bad | exact .ite .ok .bad
theorem noEx_cop {o : Cop} {h : Hs} {a b : D} : NoEx (cop o h a b) := by
  have h1 : ∀ (o : Option Bool) (f : Bool → D), NoEx (match o with | some k => R.ok (f k) h | none => .bad) := fun o f => by cases o <;> first | exact .bad | exact .ok
  cases o with
  | eq => exact .ite .ok .bad
  | ne => exact .ite .ok .bad
  | lt => cases a <;> cases b <;> first | exact .ok | exact .bad
  | le => cases a <;> cases b <;> first | exact .ok | exact .bad
  | gt => cases a <;> cases b <;> first | exact .ok | exact .bad
  | ge => cases a <;> cases b <;> first | exact .ok | exact .bad
  | isin => exact h1 _ fun k => .bl k
  | notin => exact h1 _ fun k => .bl (!k)
  | is => exact h1 _ fun k => .bl k
  | isnot => exact h1 _ fun k => .bl (!k)
theorem noEx_freeze {h : Hs} {d : D} : NoEx (freeze h d) := by
  unfold freeze
  repeat' split
  all_goals first | exact .ok | exact .bad
theorem noEx_blt {b : Blt} {h : Hs} {ds : List D} : NoEx (blt b h ds) := by
  unfold blt
  repeat' split
  all_goals first | exact noEx_one | exact .ok | exact .bad
theorem noEx_mth {b : Mth} {h : Hs} {d : D} {ds : List D} : NoEx (mth b h d ds) := by
  unfold mth
  repeat' split
  all_goals first | exact noEx_one | exact .ok | exact .bad

/-! ### readings put together -/
section
variable {G : Gm} {W : WX} {X : Cx}
theorem pe_c {x : Expr} {d : D} {v : V} (h : PE X x (L2.tC v)) (r : ∀ π n H, Rep G π n H v d) : PE X x (tE G W fun _ h => .ok d h) :=
  PE.imp h fun σ H Q ⟨π, ρ, h, rl, p⟩ => p π v H Stp.refl rl.hp (r _ _ _)
theorem l_var {i : Nat} {x : Str} {pos : Pos} (hN : X.N[i]? = some x) (hv : L2.Vis X.env.scope x) (hd : (x == ("__debug__" : Str)) = false) (hcd : (x == ("__classdict__" : Str)) = false) :
    PE X (.Name x pos) (tE G W fun ρ h => match ρ[i]? with | some (some d) => .ok d h | _ => .bad) :=
  PE.imp (L2.pe_var hN hv hd hcd) fun σ H Q ⟨π, ρ, h, rl, p⟩ => by
    dsimp only at p
    split at p
    · rename_i d e
      obtain ⟨v, e1, r⟩ := rl.sl i d e
      exact ⟨v, e1, p π v H Stp.refl rl.hp r⟩
    · exact p.elim
theorem l_op {o : Bop} {op : Operator} {a b : Expr} {pos : Pos} {ma mb : Env → Hs → R D} (ho : OpR X (binaryOp op) (rO G (bop o))) (ha : PE X a (tE G W ma)) (hb : PE X b (tE G W mb)) :
    PE X (.BinOp a op b pos) (tE G W fun ρ h => (ma ρ h).bind fun u h => (mb ρ h).bind fun v h => bop o h u v) :=
  PE.imp (L2.pe_op ho ha hb) fun σ H Q ⟨π, ρ, h, rl, p⟩ =>
    ⟨π, ρ, h, rl, (Post.bind p).mono fun x H1 ⟨π1, h1, d1, s1, hp1, r1, p1⟩ => ⟨π1, ρ, h1, rl.step s1 hp1, (Post.bind p1).mono fun y H2 ⟨π2, h2, d2, s2, hp2, r2, p2⟩ =>
      ⟨π2, h2, d1, d2, hp2, r1.step s2, r2, p2.toO noEx_bop⟩⟩⟩
theorem l_catM {a b : Expr} {pos : Pos} {ma mb : Env → Hs → R D} (ha : PE X a (tE G W ma)) (hb : PE X b (tE G W mb)) :
    PE X (.BinOp a .Add b pos) (tE G W fun ρ h => (ma ρ h).bind fun u h => (mb ρ h).bind fun v h => opCatM h u v) :=
  PE.imp (L2.pe_op ok_catM ha hb) fun σ H Q ⟨π, ρ, h, rl, p⟩ =>
    ⟨π, ρ, h, rl, (Post.bind p).mono fun x H1 ⟨π1, h1, d1, s1, hp1, r1, p1⟩ => ⟨π1, ρ, h1, rl.step s1 hp1, (Post.bind p1).mono fun y H2 ⟨π2, h2, d2, s2, hp2, r2, p2⟩ =>
      ⟨π2, h2, d1, d2, hp2, r1.step s2, r2, p2.toO noEx_catM⟩⟩⟩
theorem l_idx {a b : Expr} {pos : Pos} {ma mb : Env → Hs → R D} (ho : IxR X (rO G opIdx)) (ha : PE X a (tE G W ma)) (hb : PE X b (tE G W mb)) (hs : L2.PlainIx b) :
    PE X (.Subscript a b pos) (tE G W fun ρ h => (ma ρ h).bind fun u h => (mb ρ h).bind fun v h => one h (index h u v)) :=
  PE.imp (L2.pe_ix ho ha hb hs) fun σ H Q ⟨π, ρ, h, rl, p⟩ =>
    ⟨π, ρ, h, rl, (Post.bind p).mono fun x H1 ⟨π1, h1, d1, s1, hp1, r1, p1⟩ => ⟨π1, ρ, h1, rl.step s1 hp1, (Post.bind p1).mono fun y H2 ⟨π2, h2, d2, s2, hp2, r2, p2⟩ =>
      ⟨π2, h2, d1, d2, hp2, r1.step s2, r2, p2.toO noEx_one⟩⟩⟩
theorem l_cmp {o : Cop} {op : CmpOp} {a b : Expr} {pos : Pos} {ma mb : Env → Hs → R D} (ho : OpR X (compareOp op) (rO G (cop o))) (ha : PE X a (tE G W ma)) (hb : PE X b (tE G W mb)) (hm : behindInMarks op b = false) :
    PE X (.Compare a [op] [b] pos) (tE G W fun ρ h => (ma ρ h).bind fun u h => (mb ρ h).bind fun v h => cop o h u v) :=
  PE.imp (L2.pe_cmpR ho ha hb hm) fun σ H Q ⟨π, ρ, h, rl, p⟩ =>
    ⟨π, ρ, h, rl, (Post.bind p).mono fun x H1 ⟨π1, h1, d1, s1, hp1, r1, p1⟩ => ⟨π1, ρ, h1, rl.step s1 hp1, (Post.bind p1).mono fun y H2 ⟨π2, h2, d2, s2, hp2, r2, p2⟩ =>
      ⟨π2, h2, d1, d2, hp2, r1.step s2, r2, p2.toO noEx_cop⟩⟩⟩
/-- a comparison gives a truth -/
theorem cop_bl {o : Cop} {h h' : Hs} {a b d : D} (e : cop o h a b = .ok d h') : h' = h ∧ ∃ k, d = .bl k := by
  have h1 : ∀ (o : Option Bool) (f : Bool → Bool), (match o with | some k => R.ok (D.bl (f k)) h | none => .bad) = R.ok d h' → h' = h ∧ ∃ k, d = .bl k := fun o f e => by
    cases o <;> cases e
    exact ⟨rfl, _, rfl⟩
  have h2 : ∀ (c : Prop) [Decidable c] (k : Bool), (if c then R.ok (D.bl k) h else .bad) = R.ok d h' → h' = h ∧ ∃ k, d = .bl k := fun c _ k e => by
    split at e <;> cases e
    exact ⟨rfl, _, rfl⟩
  cases o with
  | eq => exact h2 _ _ e
  | ne => exact h2 _ _ e
  | lt => cases a <;> cases b <;> cases e; exact ⟨rfl, _, rfl⟩
  | le => cases a <;> cases b <;> cases e; exact ⟨rfl, _, rfl⟩
  | gt => cases a <;> cases b <;> cases e; exact ⟨rfl, _, rfl⟩
  | ge => cases a <;> cases b <;> cases e; exact ⟨rfl, _, rfl⟩
  | isin => exact h1 _ (fun k => k) e
  | notin => exact h1 _ (fun k => !k) e
  | is => exact h1 _ (fun k => k) e
  | isnot => exact h1 _ (fun k => !k) e
theorem Post.on {α β : Type} {rel : (Nat → Addr) → Nat → Hp → β → α → Prop} {r : R α} {π π' : Nat → Addr} {n : Nat} {h' : Hs} {σ : L2.St} {H H' : Hp} {Q : β → Hp → Prop} (s : Stp π n H π' h'.length H') (hp : HpR G π' h' H') (p : Post G W rel π n σ H r Q) :
    Post G W rel π' h'.length σ H' r Q := by
  cases r with
  | bad => exact p
  | ex c h3 => exact fun π3 H3 s3 q3 => p π3 H3 (s.trans hp s3) q3
  | ok d h3 => exact fun π3 b3 H3 s3 q3 => p π3 b3 H3 (s.trans hp s3) q3
/-- what a comparison gives, read on -/
theorem cop_then {α β : Type} {rel : (Nat → Addr) → Nat → Hp → β → α → Prop} {o : Cop} {h : Hs} {a b : D} {π : Nat → Addr} {σ : L2.St} {H : Hp} {f : D → Hs → R α} {Q : β → Hp → Prop} (hp : HpR G π h H)
    (p : Post G W rel π h.length σ H ((cop o h a b).bind f) Q) : ∃ k, cop o h a b = .ok (.bl k) h ∧ Post G W rel π h.length σ H (f (.bl k) h) Q := by
  cases e : cop o h a b with
  | bad => rw [e] at p; exact p.elim
  | ex c h' => exact absurd e (noEx_cop _ _)
  | ok d h' =>
    obtain ⟨rfl, k, rfl⟩ := cop_bl e
    rw [e] at p
    exact ⟨k, rfl, p⟩
theorem PostO.of_bl {π : Nat → Addr} {n : Nat} {h : Hs} {H : Hp} {k : Bool} {Q : VK} (q : ∀ H', Q (.bl k) H') : PostO G π n H (.ok (.bl k) h) Q := by
  intro π' v H' s hp r
  cases r
  exact q H'
theorem t_cmp {o : Cop} {op : CmpOp} {a b : Expr} {pos : Pos} {ma mb : Env → Hs → R D} (ho : OpR X (compareOp op) (rO G (cop o))) (ha : PE X a (tE G W ma)) (hb : PE X b (tE G W mb)) (hm : behindInMarks op b = false) :
    PT X (.Compare a [op] [b] pos) (tT G W fun ρ h => (ma ρ h).bind fun u h => (mb ρ h).bind fun v h => (cop o h u v).bind fun k h => match k with | .bl k => .ok k h | _ => .bad) :=
  PT.imp (L2.pt_cmpR ho ha hb hm) fun σ H Q ⟨π, ρ, h, rl, p⟩ =>
    ⟨π, ρ, h, rl, (Post.bind p).mono fun x H1 ⟨π1, h1, d1, s1, hp1, r1, p1⟩ => ⟨π1, ρ, h1, rl.step s1 hp1, (Post.bind p1).mono fun y H2 ⟨π2, h2, d2, s2, hp2, r2, p2⟩ => by
      obtain ⟨k, e, p3⟩ := cop_then hp2 p2
      refine ⟨π2, h2, d1, d2, hp2, r1.step s2, r2, ?_⟩
      rw [e]
      intro π' v H' s' hp' r'
      cases r'
      exact ⟨k, rfl, p3 π' k H' s' hp' rfl⟩⟩⟩

theorem l_chn {o o' : Cop} {op op' : CmpOp} {a b c : Expr} {pos : Pos} {ma mb mc : Env → Hs → R D} (ho : OpR X (compareOp op) (rO G (cop o))) (ho' : OpR X (compareOp op') (rO G (cop o'))) (ha : PE X a (tE G W ma)) (hb : PE X b (tE G W mb)) (hc : PE X c (tE G W mc))
    (hm : lastMarks [op, op'] [b, c] = false) :
    PE X (.Compare a [op, op'] [b, c] pos) (tE G W fun ρ h => (ma ρ h).bind fun x h => (mb ρ h).bind fun y h => (cop o h x y).bind fun k h => match k with
      | .bl true => (mc ρ h).bind fun z h => cop o' h y z
      | .bl false => .ok (.bl false) h
      | _ => .bad) :=
  PE.imp (L2.pe_chain ho ho' ha hb hc hm) fun σ H Q ⟨π, ρ, h, rl, p⟩ =>
    ⟨π, ρ, h, rl, (Post.bind p).mono fun x H1 ⟨π1, h1, d1, s1, hp1, r1, p1⟩ => ⟨π1, ρ, h1, rl.step s1 hp1, (Post.bind p1).mono fun y H2 ⟨π2, h2, d2, s2, hp2, r2, p2⟩ => by
      obtain ⟨k, e, p3⟩ := cop_then hp2 p2
      refine ⟨π2, h2, d1, d2, hp2, r1.step s2, r2, ?_⟩
      rw [e]
      intro π' v H' s' hp' r'
      cases r'
      refine ⟨k, rfl, ?_⟩
      cases k with
      | false => exact p3 π' (.bl false) H' s' hp' (.bl false)
      | true =>
        have p4 : Post G W (RelD G) π' h2.length σ H' ((mc ρ h2).bind fun z h => cop o' h d2 z) Q := Post.on s' hp' p3
        exact ⟨π', ρ, h2, ((rl.step s1 hp1).step s2 hp2).step s' hp', (Post.bind p4).mono fun w' H4 ⟨π4, h4, d4, s4, hp4, r4, p5⟩ => ⟨π4, h4, d2, d4, hp4, (r2.step s').step s4, r4, p5.toO noEx_cop⟩⟩⟩⟩
theorem t_chn {o o' : Cop} {op op' : CmpOp} {a b c : Expr} {pos : Pos} {ma mb mc : Env → Hs → R D} (ho : OpR X (compareOp op) (rO G (cop o))) (ho' : OpR X (compareOp op') (rO G (cop o'))) (ha : PE X a (tE G W ma)) (hb : PE X b (tE G W mb)) (hc : PE X c (tE G W mc))
    (hm : lastMarks [op, op'] [b, c] = false) :
    PT X (.Compare a [op, op'] [b, c] pos) (tT G W fun ρ h => (ma ρ h).bind fun x h => (mb ρ h).bind fun y h => (cop o h x y).bind fun k h => match k with
      | .bl true => (mc ρ h).bind fun z h => (cop o' h y z).bind fun k h => match k with
        | .bl k => .ok k h
        | _ => .bad
      | .bl false => .ok false h
      | _ => .bad) :=
  PT.imp (L2.pt_chain ho ho' ha hb hc hm) fun σ H Q ⟨π, ρ, h, rl, p⟩ =>
    ⟨π, ρ, h, rl, (Post.bind p).mono fun x H1 ⟨π1, h1, d1, s1, hp1, r1, p1⟩ => ⟨π1, ρ, h1, rl.step s1 hp1, (Post.bind p1).mono fun y H2 ⟨π2, h2, d2, s2, hp2, r2, p2⟩ => by
      obtain ⟨k, e, p3⟩ := cop_then hp2 p2
      refine ⟨π2, h2, d1, d2, hp2, r1.step s2, r2, ?_⟩
      rw [e]
      intro π' v H' s' hp' r'
      cases r'
      refine ⟨k, rfl, ?_⟩
      cases k with
      | false => exact ⟨false, rfl, p3 π' false H' s' hp' rfl⟩
      | true =>
        have p4 : Post G W RelB π' h2.length σ H' ((mc ρ h2).bind fun z h => (cop o' h d2 z).bind fun k h => match k with | .bl k => R.ok k h | _ => .bad) Q := Post.on s' hp' p3
        exact ⟨π', ρ, h2, ((rl.step s1 hp1).step s2 hp2).step s' hp', (Post.bind p4).mono fun w' H4 ⟨π4, h4, d4, s4, hp4, r4, p5⟩ => by
          obtain ⟨k, e, p6⟩ := cop_then hp4 p5
          refine ⟨π4, h4, d2, d4, hp4, (r2.step s').step s4, r4, ?_⟩
          rw [e]
          intro π5 v H5 s5 hp5 r5
          cases r5
          exact ⟨k, rfl, p6 π5 k H5 s5 hp5 rfl⟩⟩⟩⟩
theorem l_not {a : Expr} {pos : Pos} {ma : Env → Hs → R D} (ha : PE X a (tE G W ma)) : PE X (.UnaryOp .Not a pos) (tE G W fun ρ h => (ma ρ h).bind fun x h => match x with | .bl b => .ok (.bl (!b)) h | _ => .bad) :=
  PE.imp (L2.pe_not ha) fun σ H Q ⟨π, ρ, h, rl, p⟩ => ⟨π, ρ, h, rl, (Post.bind p).mono fun x H1 ⟨π1, h1, d1, s1, hp1, r1, p1⟩ => by
    cases d1 with
    | bl b => cases r1; exact ⟨b, rfl, p1 π1 _ H1 Stp.refl hp1 (.bl _)⟩
    | _ => exact p1.elim⟩
theorem l_neg {a : Expr} {pos : Pos} {ma : Env → Hs → R D} (ha : PE X a (tE G W ma)) : PE X (.UnaryOp .USub a pos) (tE G W fun ρ h => (ma ρ h).bind fun x h => match x with | .int i => .ok (.int (-i)) h | _ => .bad) :=
  PE.imp (L2.pe_un L2.un_neg ha) fun σ H Q ⟨π, ρ, h, rl, p⟩ => ⟨π, ρ, h, rl, (Post.bind p).mono fun x H1 ⟨π1, h1, d1, s1, hp1, r1, p1⟩ => by
    cases d1 with
    | int b => cases r1; exact ⟨b, rfl, p1 π1 _ H1 Stp.refl hp1 (.int _)⟩
    | _ => exact p1.elim⟩
theorem l_ite {t a b : Expr} {pos : Pos} {mt : Env → Hs → R Bool} {ma mb : Env → Hs → R D} (ht : PT X t (tT G W mt)) (ha : PE X a (tE G W ma)) (hb : PE X b (tE G W mb)) :
    PE X (.IfExp t a b pos) (tE G W fun ρ h => (mt ρ h).bind fun k h => if k = true then ma ρ h else mb ρ h) :=
  PE.imp (L2.pe_ifExp ht ha hb) fun σ H Q ⟨π, ρ, h, rl, p⟩ => ⟨π, ρ, h, rl, (Post.bind p).mono fun x H1 ⟨π1, h1, d1, s1, hp1, r1, p1⟩ => by
    cases r1
    cases x with
    | true => exact ⟨π1, ρ, h1, rl.step s1 hp1, p1⟩
    | false => exact ⟨π1, ρ, h1, rl.step s1 hp1, p1⟩⟩
theorem l_and {a b : Expr} {r : List Expr} {pos : Pos} {ma mr : Env → Hs → R D} (ha : PE X a (tE G W ma)) (hr : PE X (.BoolOp .And (b :: r) pos) (tE G W mr)) :
    PE X (.BoolOp .And (a :: b :: r) pos) (tE G W fun ρ h => (ma ρ h).bind fun d h => match d with | .bl true => mr ρ h | .bl false => .ok (.bl false) h | _ => .bad) :=
  PE.imp (L2.pe_and ha hr) fun σ H Q ⟨π, ρ, h, rl, p⟩ => ⟨π, ρ, h, rl, (Post.bind p).mono fun x H1 ⟨π1, h1, d1, s1, hp1, r1, p1⟩ => by
    cases d1 with
    | bl b =>
      cases r1
      refine ⟨b, rfl, ?_⟩
      cases b with
      | true => exact ⟨π1, ρ, h1, rl.step s1 hp1, p1⟩
      | false => exact p1 π1 _ H1 Stp.refl hp1 (.bl _)
    | _ => exact p1.elim⟩
theorem l_or {a b : Expr} {r : List Expr} {pos : Pos} {ma mr : Env → Hs → R D} (ha : PE X a (tE G W ma)) (hr : PE X (.BoolOp .Or (b :: r) pos) (tE G W mr)) :
    PE X (.BoolOp .Or (a :: b :: r) pos) (tE G W fun ρ h => (ma ρ h).bind fun d h => match d with | .bl true => .ok (.bl true) h | .bl false => mr ρ h | _ => .bad) :=
  PE.imp (L2.pe_or ha hr) fun σ H Q ⟨π, ρ, h, rl, p⟩ => ⟨π, ρ, h, rl, (Post.bind p).mono fun x H1 ⟨π1, h1, d1, s1, hp1, r1, p1⟩ => by
    cases d1 with
    | bl b =>
      cases r1
      refine ⟨b, rfl, ?_⟩
      cases b with
      | true => exact p1 π1 _ H1 Stp.refl hp1 (.bl _)
      | false => exact ⟨π1, ρ, h1, rl.step s1 hp1, p1⟩
    | _ => exact p1.elim⟩
theorem t_not {a : Expr} {pos : Pos} {ma : Env → Hs → R Bool} (ha : PT X a (tT G W ma)) : PT X (.UnaryOp .Not a pos) (tT G W fun ρ h => (ma ρ h).bind fun k h => .ok (!k) h) :=
  PT.imp (L2.pt_not ha) fun σ H Q ⟨π, ρ, h, rl, p⟩ => ⟨π, ρ, h, rl, (Post.bind p).mono fun x H1 ⟨π1, h1, d1, s1, hp1, r1, p1⟩ => by
    cases r1
    exact p1 π1 _ H1 Stp.refl hp1 rfl⟩
theorem t_and {a b : Expr} {r : List Expr} {pos : Pos} {ma mr : Env → Hs → R Bool} (ha : PT X a (tT G W ma)) (hr : PW X (.BoolOp .And (b :: r) pos) (tT G W mr)) :
    PW X (.BoolOp .And (a :: b :: r) pos) (tT G W fun ρ h => (ma ρ h).bind fun k h => if k = true then mr ρ h else .ok false h) :=
  PW.imp (L2.pw_and ha hr) fun σ H Q ⟨π, ρ, h, rl, p⟩ => ⟨π, ρ, h, rl, (Post.bind p).mono fun x H1 ⟨π1, h1, d1, s1, hp1, r1, p1⟩ => by
    cases r1
    cases x with
    | true => exact ⟨π1, ρ, h1, rl.step s1 hp1, p1⟩
    | false => exact p1 π1 _ H1 Stp.refl hp1 rfl⟩
theorem t_or {a b : Expr} {r : List Expr} {pos : Pos} {ma mr : Env → Hs → R Bool} (ha : PT X a (tT G W ma)) (hr : PW X (.BoolOp .Or (b :: r) pos) (tT G W mr)) :
    PW X (.BoolOp .Or (a :: b :: r) pos) (tT G W fun ρ h => (ma ρ h).bind fun k h => if k = true then .ok true h else mr ρ h) :=
  PW.imp (L2.pw_or ha hr) fun σ H Q ⟨π, ρ, h, rl, p⟩ => ⟨π, ρ, h, rl, (Post.bind p).mono fun x H1 ⟨π1, h1, d1, s1, hp1, r1, p1⟩ => by
    cases r1
    cases x with
    | true => exact p1 π1 _ H1 Stp.refl hp1 rfl
    | false => exact ⟨π1, ρ, h1, rl.step s1 hp1, p1⟩⟩
theorem isEmpty_reps {π : Nat → Addr} {n : Nat} {H : Hp} {xs : List V} {ds : List D} (r : Reps G π n H xs ds) : xs.isEmpty = ds.isEmpty := by cases r <;> rfl
theorem t_tru (hK : G.K = X.K) {a : Expr} {ma : Env → Hs → R D} (ha : PE X a (tE G W ma)) (he : ∀ whole, isTrue a X.env whole = (do let v ← whole; standAt a.pos; holding [v] (truthy v))) :
    PT X a (tT G W fun ρ h => (ma ρ h).bind fun d h => match truD h d with | some k => .ok k h | none => .bad) :=
  PT.imp (L2.pt_truth ha he) fun σ H Q ⟨π, ρ, h, rl, p⟩ => ⟨π, ρ, h, rl, (Post.bind p).mono fun x H1 ⟨π1, h1, d1, s1, hp1, r1, p1⟩ => by
    cases e : truD h1 d1 with
    | none => rw [e] at p1; exact p1.elim
    | some k =>
      rw [e] at p1
      refine ⟨k, ?_, p1 π1 k H1 Stp.refl hp1 rfl⟩
      cases d1 with
      | non => cases r1; cases e; rfl
      | bl b => cases r1; cases e; rfl
      | int i => cases r1; cases e; rfl
      | tup ds =>
        obtain ⟨a, xs, rfl, hs, q, _⟩ := Rep.sqt r1
        cases e
        exact .inr (.inl ⟨xs, by rw [← hK]; exact hs, by rw [isEmpty_reps q]⟩)
      | fl ds =>
        cases r1 with
        | fl ha q =>
        cases e
        exact .inl ⟨_, .inl (.inr ⟨_, ha⟩), by rw [isEmpty_reps q]⟩
      | ref i =>
        cases r1 with
        | ref _ hi =>
        cases hq : h1[i]? with
        | none => simp [truD, hq] at e
        | some ob =>
          cases ob <;> simp [truD, hq] at e
          obtain ⟨xs, ha, q⟩ := hp1.ob i _ hq
          exact .inl ⟨xs, .inl (.inl ha), by rw [isEmpty_reps q, e, Bool.not_not]⟩
      | _ => cases e⟩
/-! ### lists of expressions -/
theorem l_nil : PA X [] (tEs G W fun _ h => .ok [] h) := PA.imp L2.pa_nil fun σ H Q ⟨π, ρ, h, rl, p⟩ => p π [] H Stp.refl rl.hp .nil
theorem l_cons {a : Expr} {es : List Expr} {ma : Env → Hs → R D} {ms : Env → Hs → R (List D)} (ha : PE X a (tE G W ma)) (hs : PA X es (tEs G W ms)) (he : starEach (a :: es) X.env = (false, eval a X.env) :: starEach es X.env) :
    PA X (a :: es) (tEs G W fun ρ h => (ma ρ h).bind fun d h => (ms ρ h).bind fun ds h => .ok (d :: ds) h) :=
  PA.imp (L2.pa_cons ha hs he) fun σ H Q ⟨π, ρ, h, rl, p⟩ => ⟨π, ρ, h, rl, (Post.bind p).mono fun x H1 ⟨π1, h1, d1, s1, hp1, r1, p1⟩ => ⟨π1, ρ, h1, rl.step s1 hp1, (Post.bind p1).mono fun y H2 ⟨π2, h2, d2, s2, hp2, r2, p2⟩ =>
    p2 π2 _ H2 Stp.refl hp2 (.cons (r1.step s2) r2)⟩⟩
theorem l_tup {es : List Expr} {k : Nat} {pos : Pos} {ms : Env → Hs → R (List D)} (hs : PA X es (tEs G W ms)) : PE X (.Tuple es k pos) (tE G W fun ρ h => (ms ρ h).bind fun ds h => if ds.length ≤ SZ then .ok (.tup ds) h else .bad) :=
  PE.imp (L2.pe_tup hs) fun σ H Q ⟨π, ρ, h, rl, p⟩ => ⟨π, ρ, h, rl, (Post.bind p).mono fun x H1 ⟨π1, h1, d1, s1, hp1, r1, p1⟩ => by
    split at p1
    · rename_i c
      refine ⟨by rw [Reps.length r1]; exact sz_le c, fun a hn => ?_⟩
      exact p1 π1 (.ref a) _ (Stp.lay hp1 hn) (hp1.lay hn) (.tup upd_same (Reps.step (Stp.lay hp1 hn) r1))
    · exact p1.elim⟩
theorem l_lst {es : List Expr} {pos : Pos} {ms : Env → Hs → R (List D)} (hs : PA X es (tEs G W ms)) : PE X (.List es pos) (tE G W fun ρ h => (ms ρ h).bind fun ds h => if ds.length ≤ SZ then .ok (.fl ds) h else .bad) :=
  PE.imp (pe_fz (L2.pe_lst hs)) fun σ H Q ⟨π, ρ, h, rl, p⟩ => ⟨π, ρ, h, rl, (Post.bind p).mono fun x H1 ⟨π1, h1, d1, s1, hp1, r1, p1⟩ => by
    split at p1
    · rename_i c
      refine ⟨by rw [Reps.length r1]; exact sz_le c, fun a hn => ?_⟩
      exact Fz.lst p1 hp1 hn r1
    · exact p1.elim⟩
theorem l_lstM {es : List Expr} {pos : Pos} {ms : Env → Hs → R (List D)} (hs : PA X es (tEs G W ms)) : PE X (.List es pos) (tE G W fun ρ h => (ms ρ h).bind fun ds h => if ds.length ≤ SZ then .ok (.ref h.length) (h ++ [.lst ds]) else .bad) :=
  PE.imp (L2.pe_lst hs) fun σ H Q ⟨π, ρ, h, rl, p⟩ => ⟨π, ρ, h, rl, (Post.bind p).mono fun x H1 ⟨π1, h1, d1, s1, hp1, r1, p1⟩ => by
    split at p1
    · rename_i c
      refine ⟨by rw [Reps.length r1]; exact sz_le c, fun a hn => ?_⟩
      exact PostO.alloc p1 hp1 hn ⟨x, upd_same, Reps.step (Stp.alloc hn) r1⟩
    · exact p1.elim⟩
theorem l_dI0 {pos : Pos} : PE X (.Dict [] [] pos) (tE G W fun _ h => .ok (.ref h.length) (h ++ [.dI []])) :=
  PE.imp L2.pe_dnewK fun σ H Q ⟨π, ρ, h, rl, p⟩ => fun a hn => PostO.alloc p rl.hp hn ⟨[], upd_same, .nil⟩
theorem l_dT0 {pos : Pos} : PE X (.Dict [] [] pos) (tE G W fun _ h => .ok (.ref h.length) (h ++ [.dT []])) :=
  PE.imp L2.pe_dnewT fun σ H Q ⟨π, ρ, h, rl, p⟩ => fun a hn => PostO.alloc p rl.hp hn ⟨[], upd_same, .nil⟩
/-! ### parts of slices -/
theorem l_no : L2.PO X none (tO G W fun _ h => .ok none h) := ⟨fun pins s σ H Q I ⟨π, ρ, h, rl, p⟩ => L2.po_none.run pins s σ H Q I (p π none H Stp.refl rl.hp rfl)⟩
theorem l_yes {a : Expr} {ma : Env → Hs → R D} (ha : PE X a (tE G W ma)) : L2.PO X (some a) (tO G W fun ρ h => (ma ρ h).bind fun d h => match d with | .int i => .ok (some i) h | _ => .bad) :=
  ⟨fun pins s σ H Q I ⟨π, ρ, h, rl, p⟩ => (L2.po_some ha).run pins s σ H Q I ⟨π, ρ, h, rl, (Post.bind p).mono fun x H1 ⟨π1, h1, d1, s1, hp1, r1, p1⟩ => by
    cases d1 with
    | int b => cases r1; exact ⟨b, rfl, p1 π1 _ H1 Stp.refl hp1 rfl⟩
    | _ => exact p1.elim⟩⟩
theorem l_sl {a : Expr} {lo hi : Option Expr} {p2 pos : Pos} {ma : Env → Hs → R D} {ml mu : Env → Hs → R (Option Int)} (ho : SlR X (rSl G)) (ha : PE X a (tE G W ma)) (hl : L2.PO X lo (tO G W ml)) (hu : L2.PO X hi (tO G W mu)) :
    PE X (.Subscript a (.Slice lo hi none p2) pos) (tE G W fun ρ h => (ma ρ h).bind fun x h => (ml ρ h).bind fun l h => (mu ρ h).bind fun u h => one h (slice x l u)) :=
  PE.imp (L2.pe_slice ho ha hl hu) fun σ H Q ⟨π, ρ, h, rl, p⟩ => ⟨π, ρ, h, rl, (Post.bind p).mono fun x H1 ⟨π1, h1, d1, s1, hp1, r1, p1⟩ => ⟨π1, ρ, h1, rl.step s1 hp1, (Post.bind p1).mono fun y H2 ⟨π2, h2, d2, s2, hp2, r2, p2⟩ =>
    ⟨π2, ρ, h2, (rl.step s1 hp1).step s2 hp2, (Post.bind p2).mono fun z H3 ⟨π3, h3, d3, s3, hp3, r3, p3⟩ => by
      cases r2
      cases r3
      exact ⟨π3, h3, d1, hp3, (Rep.step s2 r1).step s3, p3.toO noEx_one⟩⟩⟩⟩
/-! ### calls -/
theorem l_blt {b : Blt} {x : Str} {id : String} {p pos : Pos} {e : Expr} {es : List Expr} {ms : Env → Hs → R (List D)} (hc : CallR X (.builtin id) (rC G (blt b))) (hg : L2.Gl X x) (hm : X.mg x = none) (hv : bootBuiltins x = some (.builtin id)) (ha : PA X (e :: es) (tEs G W ms)) (hn : x ≠ "__name__")
    (hdb : (x == ("__debug__" : Str)) = false) (he : starEach (e :: es) X.env = (false, eval e X.env) :: starEach es X.env) (hpl : (backTo pos (starEach es X.env)).any (·.1) = false) :
    PE X (.Call (.Name x p) (e :: es) [] pos) (tE G W fun ρ h => (ms ρ h).bind fun ds h => blt b h ds) :=
  PE.imp (L2.pe_callB hc hg hm hv ha hn hdb he hpl) fun σ H Q ⟨π, ρ, h, rl, p⟩ => ⟨π, ρ, h, rl, (Post.bind p).mono fun x H1 ⟨π1, h1, d1, s1, hp1, r1, p1⟩ => ⟨π1, h1, d1, hp1, r1, p1.toO noEx_blt⟩⟩
theorem l_bltTy {b : Blt} {x : Str} {id : String} {p pos : Pos} {e : Expr} {es : List Expr} {ms : Env → Hs → R (List D)} (hc : CallR X (.type id) (rC G (blt b))) (hg : L2.Gl X x) (hm : X.mg x = none) (hv : bootBuiltins x = some (.type id)) (ha : PA X (e :: es) (tEs G W ms)) (hn : x ≠ "__name__")
    (hdb : (x == ("__debug__" : Str)) = false) (he : starEach (e :: es) X.env = (false, eval e X.env) :: starEach es X.env) (hpl : (backTo pos (starEach es X.env)).any (·.1) = false) :
    PE X (.Call (.Name x p) (e :: es) [] pos) (tE G W fun ρ h => (ms ρ h).bind fun ds h => blt b h ds) :=
  PE.imp (L2.pe_callTy hc hg hm hv ha hn hdb he hpl) fun σ H Q ⟨π, ρ, h, rl, p⟩ => ⟨π, ρ, h, rl, (Post.bind p).mono fun x H1 ⟨π1, h1, d1, s1, hp1, r1, p1⟩ => ⟨π1, h1, d1, hp1, r1, p1.toO noEx_blt⟩⟩
/-- what a def promises: what the function φ says -/
def spF (G : Gm) (φ : List D → Hs → R D) : L2.Sp := fun vs H Q E => ∃ π h ds, HpR G π h H ∧ Reps G π h.length H vs ds ∧ Post G (fun cls d _ H' => E cls d H') (RelD G) π h.length ([] : L2.St) H (φ ds h) Q
theorem Post.to {α β : Type} {rel : (Nat → Addr) → Nat → Hp → β → α → Prop} {π : Nat → Addr} {n : Nat} {σ σ' : L2.St} {H : Hp} {r : R α} {Q : β → Hp → Prop} {W' : WX} (p : Post G W rel π n σ H r Q) (hw : ∀ c H', W (G.exc c) none σ H' → W' (G.exc c) none σ' H') : Post G W' rel π n σ' H r Q := by
  cases r with
  | bad => exact p
  | ok a h => exact p
  | ex c h => exact fun π' H' s hp => hw _ _ (p π' H' s hp)
theorem l_call {φ : List D → Hs → R D} {k : Nat} {f : Addr} {fd : FuncData} {ps : List Str} {x : Str} {p pos : Pos} {e : Expr} {es : List Expr} {ms : Env → Hs → R (List D)} (F : L2.FnOk X.prog X.w X.K X.mg X.base (L2.CX X.prog X.w) k f fd ps (spF G φ)) (hr : L2.Room k X.A)
    (hg : L2.Gl X x) (hm : X.mg x = some (.ref f)) (hk : PySem.W.keepIn X.K (.ref f) = true) (hb : L2.Binds X.K fd ps []) (tk : Takes X W) (ha : PA X (e :: es) (tEs G W ms)) (hdb : (x == ("__debug__" : Str)) = false)
    (he : starEach (e :: es) X.env = (false, eval e X.env) :: starEach es X.env) (hpl : (backTo pos (starEach es X.env)).any (·.1) = false) :
    PE X (.Call (.Name x p) (e :: es) [] pos) (tE G W fun ρ h => (ms ρ h).bind fun ds h => φ ds h) :=
  PE.imp (L2.pe_callS F hr hg hm hk hb (fun σ => L2.passAt tk σ) ha hdb he hpl) fun σ H Q ⟨π, ρ, h, rl, p⟩ => ⟨π, ρ, h, rl, (Post.bind p).mono fun x H1 ⟨π1, h1, d1, s1, hp1, r1, p1⟩ =>
    ⟨π1, h1, d1, hp1, r1, p1.to fun _ _ z => z⟩⟩
theorem l_call0 {φ : List D → Hs → R D} {k : Nat} {f : Addr} {fd : FuncData} {ps : List Str} {x : Str} {p pos : Pos} (F : L2.FnOk X.prog X.w X.K X.mg X.base (L2.CX X.prog X.w) k f fd ps (spF G φ)) (hr : L2.Room k X.A)
    (hg : L2.Gl X x) (hm : X.mg x = some (.ref f)) (hk : PySem.W.keepIn X.K (.ref f) = true) (hb : L2.Binds X.K fd ps []) (tk : Takes X W) (hdb : (x == ("__debug__" : Str)) = false) :
    PE X (.Call (.Name x p) [] [] pos) (tE G W fun ρ h => φ [] h) := by
  refine ⟨fun pins s σ H Q I ⟨π, ρ, h, rl, p⟩ => ?_⟩
  refine wpAny_Call_Name_kw (L2.ld_glob I hg hm ?_ hdb)
  exact PySem.W.callWith_K0 I.kIn hk (L2.run_fnS (us := []) (vs := []) (E := L2.WE W) F hr hb (L2.passAt tk σ) I .nil ⟨π, h, [], rl.hp, .nil, p.to fun _ _ z => z⟩)
end
end Y

set_option Elab.async false
set_option linter.all false
set_option maxRecDepth 100000
set_option maxHeartbeats 4000000
namespace Y
open PySem PySem.Spec PyProof.Rows
open L2 (V Hp HO upd upd_same upd_ne SqL SqT Rd VK TE TT TA TS TG XK WX Cx Inv PE PT PA PW PS PSs PG PI Key RelV Vals EP Mut ne_of ne_of_none OpR CallR IxR SlR MtR thn Takes)

theorem R.bind_assoc {α β γ : Type} (r : R α) (f : α → Hs → R β) (g : β → Hs → R γ) : (r.bind f).bind g = r.bind fun a h => (f a h).bind g := by cases r <;> rfl
/-! ### a thing that only this expression knows, while it is made -/
section
variable {G : Gm} {π0 π' : Nat → Addr} {h0 h2 : Hs} {H H2 : Hp} {p : Addr} {o0 o : HO}
theorem priv_at (hp0 : HpR G π0 h0 H) (hn : H p = none) (s : Stp π0 h0.length (upd H p o0) π' h2.length H2) : H2 p = some o0 ∧ (∀ i, i < h2.length → π' i ≠ p) ∧ Stp π0 h0.length H π' h2.length H2 := by
  have n0 : ∀ i, i < h0.length → π0 i ≠ p := fun i hi => hp0.ne_new hn hi
  refine ⟨s.fr p _ upd_same n0, fun i hi => ?_, (Stp.lay hp0 hn).trans (hp0.lay hn) s⟩
  by_cases h : i < h0.length
  · rw [s.ext i h]; exact n0 i h
  · intro e
    have q := s.new i (Nat.le_of_not_lt h) hi
    rw [e, upd_same] at q
    cases q
end
theorem nImm {H : Hp} {p : Addr} {o : HO} (e : H p = some o) (h : ¬ Imm o) : ∀ u, H p = some u → ¬ Imm u := fun u q => by rw [e] at q; cases q; exact h

section
variable {G : Gm} {W : WX} {X : Cx}
/-- {k: v}, k a tuple of ints and texts -/
theorem pe_dispT1 (hu : X.A.units + 1 < cLine) {k v : Expr} {pos : Pos} {tk tv : TE} (hk : PE X k tk) (hv : PE X v tv) :
    PE X (.Dict [some k] [v] pos) (fun σ H Q => ∀ p, H p = none → tk σ (upd H p (.dT [])) fun x H1 => tv σ H1 fun y H2 => H2 p = some (.dT []) ∧ ∃ b ks, x = .ref b ∧ H2 b = some (.tup (ks.map L2.kV)) ∧ Q (.ref p) (upd H2 p (.dT [(ks, y)]))) := by
  refine ⟨fun pins s σ H Q I q => ?_⟩
  have hn := I.hok.fresh (Nat.le_refl s.heap.objs.size)
  have I1 := I.laid (a := s.heap.objs.size) (o := .dT []) (h' := s.heap.push { cls := .type "dict", data := .dict #[] }) (t' := s.toks) (fun _ _ q => Heap.get?_push_of_some _ q) (Nat.le_refl _) (L2.dt_empty s.heap I.big)
  refine wpAny_Dict_any rfl rfl (by intro z; cases z) (by show 1 ≤ 15; decide) ?_
  refine pairTrees_cons_walk (thn (hk.run pins _ σ _ _ I1 (q _ hn)) fun u s1 ⟨x, H1, I2, rx, q1⟩ => thn (hv.run pins s1 σ H1 _ I2 q1) fun r s2 ⟨y, H2, I3, ry, e, b, ks, ex, eb, q2⟩ => pairTrees_nil_walk ?_)
  subst ex
  cases (show u = Value.ref b from rx)
  obtain ⟨z, hd, xs, rel, dd⟩ := L2.dt_of I3.hok e
  cases rel
  show wpAny _ _ (forIn [(Value.ref b, r)] PUnit.unit fun (x : Value × Value) (_ : PUnit) => (do dictSet s.heap.objs.size x.1 x.2; pure (ForInStep.yield PUnit.unit) : Sem (ForInStep PUnit))) _ _ _
  rw [List.forIn_cons]
  refine wpAny_bind (wpAny_bind (wpAny_dictSet_heap (hsz := Nat.zero_le _) (by show X.A.units < cLine; omega) (L2.key_of I3.hok eb) dd fun h' dd' hs => wpAny_pure ?_))
  show wpAny _ _ (forIn ([] : List (Value × Value)) _ _) _ _ _
  rw [List.forIn_nil]
  refine wpAny_pure ?_
  obtain ⟨q, es, ep, hq, h2, h3, h4, _, h5⟩ := dd'
  refine ⟨.ref s.heap.objs.size, _, L2.d_write (ob := .dT [(ks, y)]) I3 (by rw [e]; exact True.intro) hs ⟨q, hq⟩ ⟨by show 1 ≤ sizeLine; decide, hd, _, (L2.KT.put .nil ks eb ry).keeps fun c ys ec => ?_, q, es, ep, hq, h2, h3, h4, h5⟩, rfl, q2⟩
  rw [upd_ne (ne_of ec e (fun z => nomatch z))]
  exact ec

/-- a dict just made, locked -/
theorem Fz.at {p : Addr} {o : HO} {H : Hp} {Q : VK} (e : H p = some o) (mu : Mut (some o)) (q : ∀ od, Q (.ref p) (upd H p (.frz od o))) : Fz Q (.ref p) H := ⟨p, o, rfl, e, mu, q⟩
theorem l_dT1 (hu : X.A.units + 1 < cLine) {v : Expr} {k : Nat} {kp pos : Pos} {mv : Env → Hs → R D} (hv : PE X v (tE G W mv)) :
    PE X (.Dict [some (.Tuple [] k kp)] [v] pos) (tE G W fun ρ h => (mv ρ h).bind fun y h => .ok (.ft [([], y)]) h) :=
  PE.imp (pe_fz (pe_dispT1 hu (L2.pe_tup L2.pa_nil) hv)) fun σ H Q ⟨π, ρ, h, rl, p⟩ a hn => by
    dsimp only at p
    refine ⟨by decide, fun b hb => ?_⟩
    have hb' : H b = none := by
      by_cases e : b = a
      · rw [e, upd_same] at hb; cases hb
      · rw [upd_ne e] at hb; exact hb
    have hab : a ≠ b := fun e => by rw [← e, upd_same] at hb; cases hb
    have s1 : Stp π h.length H π h.length (upd H a (.dT [])) := Stp.lay rl.hp hn
    have hp1 : HpR G π h (upd H a (.dT [])) := rl.hp.lay hn
    have s2 : Stp π h.length (upd H a (.dT [])) π h.length (upd (upd H a (.dT [])) b (.tup [])) := Stp.lay hp1 hb
    have hp2 : HpR G π h (upd (upd H a (.dT [])) b (.tup [])) := hp1.lay hb
    have p1 := Post.on (s1.trans hp1 s2) hp2 p
    refine ⟨π, ρ, h, (rl.step s1 hp1).step s2 hp2, ?_⟩
    cases e : mv ρ h with
    | bad => rw [e] at p; exact p.elim
    | ex c h' => rw [e] at p1; exact p1
    | ok d h' =>
      rw [e] at p
      have p : Post G W (RelD G) π h.length σ H (.ok (.ft [([], d)]) h') Q := p
      intro π' y H2 s3 hp3 r3
      obtain ⟨e1, n1, _⟩ := priv_at rl.hp hn (s2.trans hp2 s3)
      have s4 := (s1.trans hp1 s2).trans hp2 s3
      have e2 : H2 b = some (.tup []) := s3.imm _ _ upd_same trivial
      refine ⟨e1, b, [], rfl, e2, Fz.at upd_same trivial fun od => ?_⟩
      rw [L2.upd_upd]
      have hm := nImm e1 (fun z => z)
      exact p π' (.ref a) _ (s4.priv hn) (hp3.priv hm n1) (.ft upd_same (.cons (ks := []) (Rep.lk (Lk.priv hm) r3) .nil))
theorem l_dI1 {k v : Expr} {pos : Pos} {mk mv : Env → Hs → R D} (hk : PE X k (tE G W mk)) (hv : PE X v (tE G W mv)) :
    PE X (.Dict [some k] [v] pos) (tE G W fun ρ h => (mk ρ h).bind fun x h => (mv ρ h).bind fun y h => match x with | .int i => .ok (.fi [(i, y)]) h | _ => .bad) :=
  PE.imp (pe_fz (L2.pe_disp (L2.pps_cons hk hv L2.pps_nil) rfl rfl (by intro z; cases z) (by show 1 ≤ 15; decide))) fun σ H Q ⟨π, ρ, h, rl, p⟩ a hn => by
    dsimp only at p
    have s1 : Stp π h.length H π h.length (upd H a (.dK [])) := Stp.lay rl.hp hn
    have hp1 : HpR G π h (upd H a (.dK [])) := rl.hp.lay hn
    have p1 := Post.on s1 hp1 p
    refine ⟨π, ρ, h, rl.step s1 hp1, ?_⟩
    cases e : mk ρ h with
    | bad => rw [e] at p; exact p.elim
    | ex c h' => rw [e] at p1; exact p1
    | ok d h' =>
      rw [e, R.bind_ok] at p p1
      intro π' x H2 s3 hp3 r3
      have p2 := Post.on s3 hp3 p1
      refine ⟨π', ρ, h', (rl.step s1 hp1).step s3 hp3, ?_⟩
      cases e : mv ρ h' with
      | bad => rw [e] at p; exact p.elim
      | ex c h' => rw [e] at p2; exact p2
      | ok y h2 =>
        rw [e] at p
        cases d with
        | int i =>
          have p : Post G W (RelD G) π h.length σ H (.ok (.fi [(i, y)]) h2) Q := p
          intro π2 yv H3 s4 hp4 r4
          cases r3
          obtain ⟨e1, n1, s5⟩ := priv_at rl.hp hn (s3.trans hp3 s4)
          refine ⟨e1, [(.inl i, yv)], rfl, (by show 1 ≤ 15; decide), Fz.at upd_same trivial fun od => ?_⟩
          rw [L2.upd_upd]
          have hm := nImm e1 (fun z => z)
          exact p π2 (.ref a) _ (s5.priv hn) (hp4.priv hm n1) (.fi upd_same (.cons (Rep.lk (Lk.priv hm) r4) .nil))
        | _ => exact p.elim
/-- one after another -/
def seqm : List (Env → Hs → R D) → Env → Hs → R (List D)
  | [], _, h => .ok [] h
  | m :: ms, ρ, h => (m ρ h).bind fun d h => (seqm ms ρ h).bind fun ds h => .ok (d :: ds) h
def prs (G : Gm) (W : WX) : List S → List (Env → Hs → R D) → List (TE × TE)
  | k :: ks, m :: ms => (L2.tC (.str (toStr k)), tE G W m) :: prs G W ks ms
  | _, _ => []
theorem tPairs_mono : ∀ (trs : List (TE × TE)) (hm : ∀ t ∈ trs, (∀ σ H (Q Q' : VK), (∀ v H, Q v H → Q' v H) → t.1 σ H Q → t.1 σ H Q') ∧ ∀ σ H (Q Q' : VK), (∀ v H, Q v H → Q' v H) → t.2 σ H Q → t.2 σ H Q') (σ : L2.St) (H : Hp) (Q Q' : List (V × V) → Hp → Prop), (∀ ps H, Q ps H → Q' ps H) → L2.tPairs trs σ H Q → L2.tPairs trs σ H Q' := by
  intro trs
  induction trs with
  | nil => intro _ σ H Q Q' hQ q; exact hQ _ _ q
  | cons t trs ih =>
    intro hm σ H Q Q' hQ q
    obtain ⟨t1, t2⟩ := t
    obtain ⟨m1, m2⟩ := hm _ List.mem_cons_self
    exact m1 σ H _ _ (fun x H1 q1 => m2 σ H1 _ _ (fun y H2 q2 => ih (fun t ht => hm t (List.mem_cons_of_mem _ ht)) σ H2 _ _ (fun ps H3 q3 => hQ _ _ q3) q2) q1) q
theorem prs_mono {σ : L2.St} {H : Hp} {Q Q' : List (V × V) → Hp → Prop} (ks : List S) (ms : List (Env → Hs → R D)) (hQ : ∀ ps H, Q ps H → Q' ps H) (q : L2.tPairs (prs G W ks ms) σ H Q) : L2.tPairs (prs G W ks ms) σ H Q' := by
  refine tPairs_mono _ ?_ _ _ _ _ hQ q
  clear q
  induction ks generalizing ms with
  | nil => intro t ht; cases ms <;> cases ht
  | cons k ks ih =>
    intro t ht
    cases ms with
    | nil => cases ht
    | cons m ms =>
      rcases List.mem_cons.mp ht with rfl | ht
      · exact ⟨fun σ H Q Q' hQ q => hQ _ _ q, fun σ H Q Q' hQ ⟨π, ρ, h, rl, p⟩ => ⟨π, ρ, h, rl, p.mono hQ⟩⟩
      · exact ih ms t ht
theorem prs_sem : ∀ (ks : List S) (ms : List (Env → Hs → R D)) (σ : L2.St) (H : Hp) (π : Nat → Addr) (ρ : Env) (h : Hs) (Q : List V → Hp → Prop), ks.length = ms.length → Rl G π ρ h σ H → Post G W (RelDs G) π h.length σ H (seqm ms ρ h) Q →
    L2.tPairs (prs G W ks ms) σ H fun ps H2 => ∃ vs, ps = (ks.zip vs).map (fun kv => (V.str (toStr kv.1), kv.2)) ∧ vs.length = ks.length ∧ Q vs H2
  | [], [], σ, H, π, ρ, h, Q, _, rl, p => ⟨[], rfl, rfl, p π [] H Stp.refl rl.hp .nil⟩
  | [], _ :: _, _, _, _, _, _, _, e, _, _ => by simp at e
  | _ :: _, [], _, _, _, _, _, _, e, _, _ => by simp at e
  | k :: ks, m :: ms, σ, H, π, ρ, h, Q, el, rl, p => by
    refine ⟨π, ρ, h, rl, (Post.bind p).mono fun x H1 ⟨π1, h1, d1, s1, hp1, r1, p1⟩ => ?_⟩
    have ih := prs_sem ks ms σ H1 π1 ρ h1 (fun vs H2 => Q (x :: vs) H2) (by simpa using el) (rl.step s1 hp1) ((Post.bind p1).mono fun vs H2 ⟨π2, h2, d2, s2, hp2, r2, p2⟩ => p2 π2 _ H2 Stp.refl hp2 (.cons (r1.step s2) r2))
    exact prs_mono ks ms (fun ps H2 ⟨vs, e, hl, q⟩ => ⟨x :: vs, by rw [e]; rfl, by rw [List.length_cons, List.length_cons, hl], q⟩) ih
/-- keys that differ stay as they are -/
theorem merge_nodup : ∀ (kvs acc : List (Key × V)), ((acc ++ kvs).map (·.1)).Nodup → L2.mergeK acc kvs = acc ++ kvs
  | [], acc, _ => by simp [L2.mergeK]
  | kv :: r, acc, h => by
    have hn : (acc.any fun x => decide (x.1 = kv.1)) = false := by
      rw [List.any_eq_false]
      intro x hx
      rw [List.map_append, List.map_cons, List.nodup_append] at h
      have := h.2.2 x.1 (List.mem_map.mpr ⟨x, hx, rfl⟩) kv.1 List.mem_cons_self
      simpa using this
    have e : L2.putK acc kv.1 kv.2 = acc ++ [kv] := by
      unfold L2.putK
      rw [hn]
      rfl
    show L2.mergeK (L2.putK acc kv.1 kv.2) r = _
    rw [e, merge_nodup r (acc ++ [kv]) (by rw [List.append_assoc]; exact h), List.append_assoc]
    rfl
theorem repS_zip {π : Nat → Addr} {n : Nat} {H : Hp} : ∀ {ks : List S} {vs : List V} {ds : List D}, ks.length = vs.length → Reps G π n H vs ds → RepS G π n H ((ks.zip vs).map fun kv => ((.inr (toStr kv.1) : Key), kv.2)) (zipKs ks ds)
  | [], [], _, _, .nil => .nil
  | [], _ :: _, _, e, _ => by simp at e
  | _ :: _, [], _, e, _ => by simp at e
  | k :: ks, v :: vs, _, e, .cons r q => .cons r (repS_zip (by simpa using e) q)
theorem l_dS {ks : List S} {ms : List (Env → Hs → R D)} {keys : List (Option Expr)} {vals : List Expr} {pos : Pos} (hpp : L2.PPs X pos keys vals (prs G W ks ms)) (hall : keys.all (·.isSome) = true) (hl : keys.length = vals.length) (h0 : keys ≠ []) (h15 : keys.length ≤ 15)
    (hkl : ks.length = ms.length) (hkk : keys.length = ks.length) (hnd : ks.Nodup) :
    PE X (.Dict keys vals pos) (tE G W fun ρ h => (seqm ms ρ h).bind fun ds h => .ok (.fs (zipKs ks ds)) h) :=
  PE.imp (pe_fz (L2.pe_disp hpp hall hl h0 h15)) fun σ H Q ⟨π, ρ, h, rl, p⟩ a hn => by
    dsimp only at p
    have s1 : Stp π h.length H π h.length (upd H a (.dK [])) := Stp.lay rl.hp hn
    have hp1 : HpR G π h (upd H a (.dK [])) := rl.hp.lay hn
    have p1 := Post.on s1 hp1 p
    refine prs_mono ks ms ?h1 (prs_sem ks ms σ (upd H a (.dK [])) π ρ h (fun vs H2 => vs.length = ks.length → H2 a = some (.dK []) ∧ ∃ kvs : List (Key × V), (ks.zip vs).map (fun kv => (V.str (toStr kv.1), kv.2)) = kvs.map (fun kv => (L2.kV kv.1, kv.2)) ∧ kvs.length ≤ 15 ∧ Fz Q (.ref a) (upd H2 a (.dK (L2.mergeK [] kvs)))) hkl (rl.step s1 hp1) ?h2)
    case h1 =>
      rintro ps H2 ⟨vs, e, hl, q⟩
      obtain ⟨e1, kvs, e2, e3, e4⟩ := q hl
      exact ⟨e1, kvs, e.trans e2, e3, e4⟩
    case h2 =>
      cases e : seqm ms ρ h with
      | bad => rw [e] at p; exact p.elim
      | ex c h' => rw [e] at p1; exact p1
      | ok ds h' =>
        rw [e] at p
        have p : Post G W (RelD G) π h.length σ H (.ok (.fs (zipKs ks ds)) h') Q := p
        intro π' vs H2 s3 hp3 r3 hvl
        obtain ⟨e1, n1, s5⟩ := priv_at rl.hp hn s3
        refine ⟨e1, (ks.zip vs).map fun kv => ((.inr (toStr kv.1) : Key), kv.2), ?_, ?_, ?_⟩
        · rw [List.map_map]; rfl
        · rw [List.length_map, List.length_zip]; omega
        · have hnk : ((([] : List (Key × V)) ++ (ks.zip vs).map fun kv => ((.inr (toStr kv.1) : Key), kv.2)).map (·.1)).Nodup := by
            rw [List.nil_append, List.map_map]
            have e5 : (ks.zip vs).map ((fun x : Key × V => x.1) ∘ fun kv : S × V => ((.inr (toStr kv.1) : Key), kv.2)) = ks.map fun k => (.inr (toStr k) : Key) := by
              have : (ks.zip vs).map (fun x => x.1) = ks := List.map_fst_zip (by omega)
              calc _ = ((ks.zip vs).map fun x => x.1).map fun k => (.inr (toStr k) : Key) := by rw [List.map_map]; rfl
                _ = _ := by rw [this]
            rw [e5]
            exact List.Pairwise.map _ (fun a b hab z => hab (toStr_inj.mp (Sum.inr.inj z))) hnd
          rw [merge_nodup _ _ hnk, List.nil_append]
          refine Fz.at upd_same trivial fun od => ?_
          rw [L2.upd_upd]
          have hm := nImm e1 (fun z => z)
          exact p π' (.ref a) _ (s5.priv hn) (hp3.priv hm n1) (.fs upd_same (repS_zip hvl.symm (Reps.lk (Lk.priv hm) r3)))

/-! ### what a name holds is read from now on -/
theorem freeze_at {π : Nat → Addr} {h : Hs} {H : Hp} {i : Nat} {o : HO} {od : Obj} (hp : HpR G π h H) (hi : i < h.length) (e : H (π i) = some o) (hm : ¬ Imm o) :
    Stp π h.length H π (h.set i .gone).length (upd H (π i) (.frz od o)) ∧ HpR G π (h.set i .gone) (upd H (π i) (.frz od o)) := by
  have hm' := nImm e hm
  refine ⟨by rw [List.length_set]; exact Stp.set hi hm', hp.set hi hm' ⟨_, upd_same⟩⟩
theorem freeze_inv {X : Cx} {pins : List (Addr × Obj)} {σ : L2.St} {H : Hp} {s : Shared} {π : Nat → Addr} {h h' : Hs} {v : V} {d d' : D} (I : Inv X pins σ H s) (hp : HpR G π h H) (r : Rep G π h.length H v d) (e : freeze h d = .ok d' h') :
    ∃ H', Inv X pins σ H' s ∧ Stp π h.length H π h'.length H' ∧ HpR G π h' H' ∧ Rep G π h'.length H' v d' := by
  by_cases hd : ∃ i, d = .ref i
  · obtain ⟨i, rfl⟩ := hd
    cases r with
    | ref _ hi =>
    cases hq : h[i]? with
    | none => simp [freeze, hq] at e
    | some ob =>
      cases ob with
      | lst ds =>
        simp only [freeze, hq, R.ok.injEq] at e
        obtain ⟨rfl, rfl⟩ := e
        obtain ⟨xs, ha, q⟩ := hp.ob i _ hq
        obtain ⟨od, I2⟩ := I.lock ha trivial
        obtain ⟨s1, p1⟩ := freeze_at (od := od) hp hi ha (fun z => z)
        exact ⟨_, I2, s1, p1, .fl upd_same (q.step s1)⟩
      | dI ds =>
        simp only [freeze, hq, R.ok.injEq] at e
        obtain ⟨rfl, rfl⟩ := e
        obtain ⟨xs, ha, q⟩ := hp.ob i _ hq
        obtain ⟨od, I2⟩ := I.lock ha trivial
        obtain ⟨s1, p1⟩ := freeze_at (od := od) hp hi ha (fun z => z)
        exact ⟨_, I2, s1, p1, .fi upd_same (q.step s1)⟩
      | dT ds =>
        simp only [freeze, hq, R.ok.injEq] at e
        obtain ⟨rfl, rfl⟩ := e
        obtain ⟨xs, ha, q⟩ := hp.ob i _ hq
        obtain ⟨od, I2⟩ := I.lock ha trivial
        obtain ⟨s1, p1⟩ := freeze_at (od := od) hp hi ha (fun z => z)
        exact ⟨_, I2, s1, p1, .ft upd_same (q.step s1)⟩
      | ins c fs => simp [freeze, hq] at e
      | gone => simp [freeze, hq] at e
  · have e2 : freeze h d = .ok d h := by
      cases d <;> first | rfl | exact absurd ⟨_, rfl⟩ hd
    rw [e2] at e
    cases e
    exact ⟨H, I, Stp.refl, hp, r⟩
theorem l_frz {e : Expr} {m : Env → Hs → R D} (ha : PE X e (tE G W m)) : PE X e (tE G W fun ρ h => (m ρ h).bind fun d h => freeze h d) :=
  ⟨fun pins s σ H Q I ⟨π, ρ, h, rl, p⟩ => thn (ha.run pins s σ H _ I ⟨π, ρ, h, rl, Post.bind p⟩) fun u s' ⟨v, H1, I1, r1, π1, h1, d1, s1, hp1, rd, p1⟩ => by
    cases e : freeze h1 d1 with
    | bad => rw [e] at p1; exact p1.elim
    | ex c h' => exact absurd e (noEx_freeze _ _)
    | ok d' h' =>
      rw [e] at p1
      obtain ⟨H2, I2, s2, p2, r2⟩ := freeze_inv I1 hp1 rd e
      exact ⟨v, H2, I2, r1, p1 π1 v H2 s2 p2 r2⟩⟩
theorem s_frzV {i : Nat} {sts : List Stmt} {m : Env → Hs → RS} (ha : PSs X sts (tS G W m)) :
    PSs X sts (tS G W fun ρ h => (match ρ[i]? with | some (some d) => (freeze h d).toS ρ fun d h => .nx (ρ.set i (some d)) h | _ => RS.bad).andThen m) :=
  ⟨fun pins s σ H D I ⟨π, ρ, h, rl, p⟩ => by
    dsimp only at p
    split at p
    · rename_i d ei
      obtain ⟨v, e1, r⟩ := rl.sl i d ei
      cases e : freeze h d with
      | bad => rw [e] at p; exact p.elim
      | ex c h' => exact absurd e (noEx_freeze _ _)
      | ok d' h' =>
        rw [e] at p
        have p : PostS G W π h.length H (m (ρ.set i (some d')) h') D := p
        obtain ⟨H2, I2, s2, p2, r2⟩ := freeze_inv I rl.hp r e
        refine ha.run pins s σ H2 D I2 ⟨π, ρ.set i (some d'), h', ?_, ?_⟩
        · have q := (rl.step s2 p2).set (i := i) r2
          have e3 : σ.set i (some v) = σ := by
            obtain ⟨hl, e4⟩ := List.getElem?_eq_some_iff.mp e1
            rw [← e4, List.set_getElem_self]
          rw [e3] at q
          exact q
        · cases e5 : m (ρ.set i (some d')) h' with
          | bad => rw [e5] at p; exact p
          | nx ρ2 h2 => rw [e5] at p; exact fun π' σ' H' s' r' => p π' σ' H' (s2.trans p2 s') r'
          | bk ρ2 h2 => rw [e5] at p; exact fun π' σ' H' s' r' => p π' σ' H' (s2.trans p2 s') r'
          | ct ρ2 h2 => rw [e5] at p; exact fun π' σ' H' s' r' => p π' σ' H' (s2.trans p2 s') r'
          | ex c ρ2 h2 => rw [e5] at p; exact fun π' σ' H' s' r' => p π' σ' H' (s2.trans p2 s') r'
          | rt d2 h2 => rw [e5] at p; exact fun π' v' H' s' hp' r' => p π' v' H' (s2.trans p2 s') hp' r'
    · exact p.elim⟩
/-! ### isinstance, methods -/
theorem l_isi (hK : G.K = X.K) {t : Ty} {T x : Str} {nm : String} {a : Expr} {p pt pos : Pos} {m : Env → Hs → R D} (ht : tyN t = some nm) (ha : PE X a (tE G W m)) (hx : x = "isinstance") (hg : L2.Gl X x) (hm : X.mg x = none) (hgT : L2.Gl X T) (hmT : X.mg T = none) (hvT : bootBuiltins T = some (.type nm)) (hnT : T ≠ "__name__") (hdT : (T == ("__debug__" : Str)) = false)
    (he : starEach [a, .Name T pt] X.env = (false, eval a X.env) :: starEach [.Name T pt] X.env) :
    PE X (.Call (.Name x p) [a, .Name T pt] [] pos) (tE G W fun ρ h => (m ρ h).bind fun d h => one h ((Y.isi t d).map .bl)) := by
  subst hx
  refine PE.imp (L2.pe_callB L2.call_isi hg hm (by kernel_rfl) (L2.pa_cons ha (L2.pa_cons (L2.pe_bltn hgT hmT hvT (v := .ty nm) rfl hnT hdT) L2.pa_nil rfl) he) (by decide +kernel) (by decide +kernel) he rfl) fun σ H Q ⟨π, ρ, h, rl, p⟩ => ⟨π, ρ, h, rl, (Post.bind p).mono fun v H1 ⟨π1, h1, d1, s1, hp1, r1, p1⟩ => ?_⟩
  cases e : Y.isi t d1 with
  | none => rw [e] at p1; exact p1.elim
  | some b =>
    rw [e] at p1
    obtain ⟨T', e1, e2⟩ := isi_kit ht e
    have ty := Rep.ty r1 e1
    rw [hK] at ty
    exact ⟨v, .ty nm, _, _, b, rfl, .ty nm, ty, L2.kit_ty e2, p1 π1 (.bl b) H1 Stp.refl hp1 (.bl b)⟩
theorem l_isi2 (hK : G.K = X.K) {x T1 T2 : Str} {k : Nat} {a : Expr} {p p1' p2' pt pos : Pos} {m : Env → Hs → R D} (ha : PE X a (tE G W m)) (hx : x = "isinstance") (hg : L2.Gl X x) (hm : X.mg x = none) (h1 : T1 = "int") (hg1 : L2.Gl X T1) (hm1 : X.mg T1 = none) (h2 : T2 = "str") (hg2 : L2.Gl X T2) (hm2 : X.mg T2 = none)
    (he : starEach [a, .Tuple [.Name T1 p1', .Name T2 p2'] k pt] X.env = (false, eval a X.env) :: starEach [.Tuple [.Name T1 p1', .Name T2 p2'] k pt] X.env) :
    PE X (.Call (.Name x p) [a, .Tuple [.Name T1 p1', .Name T2 p2'] k pt] [] pos) (tE G W fun ρ h => (m ρ h).bind fun d h => one h ((Y.isi .intstr d).map .bl)) := by
  subst hx h1 h2
  refine PE.imp (L2.pe_callB L2.call_isiT hg hm (by kernel_rfl) (L2.pa_cons ha (L2.pa_cons (L2.pe_tup (L2.pa_cons (L2.pe_bltn hg1 hm1 (by kernel_rfl) (v := .ty "int") rfl (by decide +kernel) (by decide +kernel)) (L2.pa_cons (L2.pe_bltn hg2 hm2 (by kernel_rfl) (v := .ty "str") rfl (by decide +kernel) (by decide +kernel)) L2.pa_nil rfl) rfl)) L2.pa_nil rfl) he) (by decide +kernel) (by decide +kernel) he rfl) fun σ H Q ⟨π, ρ, h, rl, p⟩ => ⟨π, ρ, h, rl, (Post.bind p).mono fun v H1 ⟨π1, h1, d1, s1, hp1, r1, p1⟩ => ?_⟩
  refine ⟨by decide, fun tp hn => ?_⟩
  cases e : Y.isi .intstr d1 with
  | none => rw [e] at p1; exact p1.elim
  | some b =>
    rw [e] at p1
    obtain ⟨T', e1, e2⟩ := isi_kit2 X.K e
    have ty := Rep.ty (Rep.step (Stp.lay hp1 hn (o := .tup [.ty "int", .ty "str"])) r1) e1
    rw [hK] at ty
    exact ⟨v, tp, [.ty "int", .ty "str"], _, _, b, rfl, upd_same, .cons (.ty _) (.cons (.ty _) .nil), ty, e2, p1 π1 (.bl b) _ (Stp.lay hp1 hn) (hp1.lay hn) (.bl b)⟩
theorem anyD_of {π : Nat → Addr} {h : Hs} {H : Hp} {x : V} {d : D} (hp : HpR G π h H) (r : Rep G π h.length H x d) (e : mok .get h d = true) : AnyD G x H := by
  cases d with
  | fi kvs => cases r with | fi ha _ => exact ⟨_, rfl, .inl (.inl ⟨_, .inr ⟨_, ha⟩⟩)⟩
  | ft kvs => cases r with | ft ha _ => exact ⟨_, rfl, .inl (.inr ⟨_, .inr ⟨_, ha⟩⟩)⟩
  | fs kvs =>
    cases r with
    | fs ha _ => exact ⟨_, rfl, .inl (.inl ⟨_, .inr ⟨_, ha⟩⟩)⟩
    | fk hd =>
      obtain ⟨es, n, hk, _⟩ := hd.kd
      exact ⟨_, rfl, .inr ⟨es, n, hk⟩⟩
  | ref i =>
    cases r with
    | ref _ hi =>
    cases hq : h[i]? with
    | none => simp [mok, hq] at e
    | some ob =>
      cases ob with
      | dI kvs => obtain ⟨ks, ha, _⟩ := hp.ob i _ hq; exact ⟨_, rfl, .inl (.inl ⟨_, .inl ha⟩)⟩
      | dT kvs => obtain ⟨ks, ha, _⟩ := hp.ob i _ hq; exact ⟨_, rfl, .inl (.inr ⟨_, .inl ha⟩)⟩
      | _ => simp [mok, hq] at e
  | _ => simp [mok] at e
theorem l_get (hK : G.K = X.K) (hw : G.w = X.w) (hu : X.A.units + 1 < cLine) {o e f : Expr} {apos cpos : Pos} {mo me mf : Env → Hs → R D} (ho : PE X o (tE G W mo)) (he : PE X e (tE G W me)) (hf : PE X f (tE G W mf)) (mm : L2.M2 X o "get" apos e f cpos) :
    PE X (.Call (.Attribute o "get" apos) [e, f] [] cpos) (tE G W fun ρ h => (mo ρ h).bind fun x h => if mok .get h x = true then ((me ρ h).bind fun d h => ((mf ρ h).bind fun d h => R.bind (.ok [] h) fun ds h => .ok (d :: ds) h).bind fun ds h => .ok (d :: ds) h).bind fun ds h => mth .get h x ds else .bad) :=
  PE.imp (pe_get hK hw hu ho he hf mm) fun σ H Q ⟨π, ρ, h, rl, p⟩ => ⟨π, ρ, h, rl, (Post.bind p).mono fun x H1 ⟨π1, h1, d1, s1, hp1, r1, p1⟩ => by
    have rl1 := rl.step s1 hp1
    split at p1
    · rename_i hok
      rw [R.bind_assoc] at p1
      have p2 := Post.bind (rel := RelD G) p1
      refine ⟨anyD_of hp1 r1 hok, π1, ρ, h1, rl1, p2.mono fun y H2 ⟨π2, h2, d2, s2, hp2, r2, p3⟩ => ?_⟩
      rw [R.bind_assoc, R.bind_assoc] at p3
      have p4 := Post.bind (rel := RelD G) p3
      refine ⟨π2, ρ, h2, rl1.step s2 hp2, p4.mono fun z H3 ⟨π3, h3, d3, s3, hp3, r3, p5⟩ => ?_⟩
      exact ⟨π3, h3, d1, d2, d3, hp3, (Rep.step s2 r1).step s3, Rep.step s3 r2, r3, Post.toO p5 noEx_mth⟩
    · exact p1.elim⟩
/-- a list's method that asks a thing that is a list -/
theorem l_lm {m : Mth} {id : String} {name : Str} (hm : MtR X id (rM G m)) (slot : Slot "list" name id) (hty : typeOf (.builtin id) = pure (.type "method_descriptor")) (hmok : ∀ h d, mok m h d = true → ∃ i ds, d = .ref i ∧ h[i]? = some (.lst ds))
    {o e : Expr} {es : List Expr} {apos cpos : Pos} {mo : Env → Hs → R D} {ms : Env → Hs → R (List D)} (ho : PE X o (tE G W mo)) (ha : PA X (e :: es) (tEs G W ms)) (hbase : attributeBase o name X.env (eval o X.env) = eval o X.env)
    (hfew : ((backTo cpos (starEach (e :: es) X.env)).all (fun x => !x.1) && (backToKw cpos (keywordEach [] X.env)).all (fun x => x.1.isSome)
      && decide ((e :: es).length + ([] : List Keyword).length + (if ([] : List Keyword).isEmpty then 0 else 1) < 30)) = true)
    (hline : (apos.endLine == cpos.line) = true) (hs : starEach (e :: es) X.env = (false, eval e X.env) :: starEach es X.env) (hplain : (backTo cpos (starEach es X.env)).any (·.1) = false) :
    PE X (.Call (.Attribute o name apos) (e :: es) [] cpos) (tE G W fun ρ h => (mo ρ h).bind fun x h => if mok m h x = true then (ms ρ h).bind fun ds h => mth m h x ds else .bad) :=
  PE.imp (L2.pe_bm PySem.F.plainAttrs_list slot hty hm ho ha hbase hfew hline hs hplain) fun σ H Q ⟨π, ρ, h, rl, p⟩ => ⟨π, ρ, h, rl, (Post.bind p).mono fun x H1 ⟨π1, h1, d1, s1, hp1, r1, p1⟩ => by
    split at p1
    · rename_i hok
      obtain ⟨i, ds, rfl, hq⟩ := hmok _ _ hok
      obtain ⟨xs, hh, _⟩ := hp1.ob i _ hq
      have hx : x = .ref (π1 i) := by cases r1; rfl
      refine ⟨?_, π1, ρ, h1, rl.step s1 hp1, (Post.bind p1).mono fun y H2 ⟨π2, h2, d2, s2, hp2, r2, p2⟩ => ⟨π2, h2, _, d2, hp2, Rep.step s2 r1, r2, p2.toO noEx_mth⟩⟩
      rw [hx]
      exact .inl ⟨rfl, xs, .inl (.inl hh)⟩
    · exact p1.elim⟩
end
end Y

set_option Elab.async false
set_option linter.all false
set_option maxRecDepth 100000
set_option maxHeartbeats 4000000
namespace Y
open PySem PySem.Spec PyProof.Rows
open L2 (V Hp HO upd upd_same upd_ne SqL SqT Rd VK TE TT TA TS TG TI XK WX Cx Inv PE PT PA PW PS PSs PG PI Key RelV Vals EP Mut ne_of ne_of_none OpR CallR IxR SlR MtR thn Takes)

/-! ### what is walked -/
structure Wk (G : Gm) (J : L2.It) (ds : List D) (P : (Nat → Addr) → Nat → Hp → Prop) : Prop where
  step : ∀ {π n H π' n' H'}, Stp π n H π' n' H' → P π n H → P π' n' H'
  go : ∀ {π n H i}, P π n H → i < ds.length → J.go i H
  yld : ∀ {π} {h : Hs} {H i x H' d}, HpR G π h H → P π h.length H → ds[i]? = some d → J.yld i H x H' → Stp π h.length H π h.length H' ∧ HpR G π h H' ∧ Rep G π h.length H' x d
  stop : ∀ {π n H i}, P π n H → ds.length ≤ i → J.stop i H
def PostI (G : Gm) (W : WX) (π : Nat → Addr) (n : Nat) (σ : L2.St) (H : Hp) (r : R (List D)) (Q : L2.It → Hp → Prop) : Prop := match r with
  | .ok ds h' => ∀ π' H' J P, Stp π n H π' h'.length H' → HpR G π' h' H' → Wk G J ds P → P π' h'.length H' → Q J H'
  | .ex c h' => ∀ π' H', Stp π n H π' h'.length H' → HpR G π' h' H' → W (G.exc c) none σ H'
  | .bad => False
def tI (G : Gm) (W : WX) (m : Env → Hs → R (List D)) : TI := fun σ H Q => ∃ π ρ h, Rl G π ρ h σ H ∧ PostI G W π h.length σ H (m ρ h) Q
theorem PI.imp {X : Cx} {tg e : Expr} {t t' : TI} (h : PI X tg e t) (hi : ∀ σ H Q, t' σ H Q → t σ H Q) : PI X tg e t' := ⟨fun pins s σ H Q I q => h.run pins s σ H Q I (hi σ H Q q)⟩
section
variable {G : Gm} {W : WX} {X : Cx} {tg : Expr}
theorem PostI.bind {α β : Type} {rel : (Nat → Addr) → Nat → Hp → β → α → Prop} {π : Nat → Addr} {h : Hs} {σ : L2.St} {H : Hp} {r : R α} {f : α → Hs → R (List D)} {Q : L2.It → Hp → Prop} (p : PostI G W π h.length σ H (r.bind f) Q) :
    Post G W rel π h.length σ H r fun b H1 => ∃ π1 h1 a, Stp π h.length H π1 h1.length H1 ∧ HpR G π1 h1 H1 ∧ rel π1 h1.length H1 b a ∧ PostI G W π1 h1.length σ H1 (f a h1) Q := by
  cases r with
  | bad => exact p
  | ex c h' => exact p
  | ok a h' =>
    intro π' b H' s hp hr
    refine ⟨π', h', a, s, hp, hr, ?_⟩
    have p' : PostI G W π h.length σ H (f a h') Q := p
    revert p'
    cases e : f a h' with
    | bad => exact fun p' => p'
    | ex c h2 => exact fun p' π2 H2 s2 hp2 => p' π2 H2 (s.trans hp s2) hp2
    | ok d h2 => exact fun p' π2 H2 J P s2 hp2 w q => p' π2 H2 J P (s.trans hp s2) hp2 w q
theorem sqT_step {K : PySem.W.Frag} {π π' : Nat → Addr} {n n' : Nat} {H H' : Hp} {a : Addr} {xs : List V} (s : Stp π n H π' n' H') (h : SqT K H a xs) : SqT K H' a xs := by
  rcases h with (h | ⟨o, h⟩) | h
  · exact .inl (.inl (s.imm _ _ h trivial))
  · exact .inl (.inr ⟨o, s.imm _ _ h trivial⟩)
  · exact .inr h
/-- .. a tuple -/
theorem wk_tup {a : Addr} {ds : List D} : Wk G (L2.Itt G.K a) ds fun π n H => ∃ xs, SqT G.K H a xs ∧ Reps G π n H xs ds where
  step := fun s ⟨xs, h1, h2⟩ => ⟨xs, sqT_step s h1, h2.step s⟩
  go := fun ⟨xs, h1, h2⟩ hi => ⟨xs, xs[_]'(by rw [h2.length]; exact hi), h1, List.getElem?_eq_getElem _⟩
  yld := fun hp ⟨xs, h1, h2⟩ hd ⟨e, q⟩ => by
    subst e
    refine ⟨Stp.refl, hp, ?_⟩
    obtain ⟨v, e1, r⟩ := h2.get hd
    have := (q xs h1).symm.trans e1
    cases this
    exact r
  stop := fun ⟨xs, h1, h2⟩ hi => ⟨xs, h1, by rw [h2.length]; exact hi⟩
/-- .. a list that stays -/
theorem wk_fl {a : Addr} {ds : List D} {K : PySem.W.Frag} : Wk G (L2.Itl K a) ds fun π n H => ∃ o xs, H a = some (.frz o (.lst xs)) ∧ Reps G π n H xs ds where
  step := fun s ⟨o, xs, h1, h2⟩ => ⟨o, xs, s.imm _ _ h1 trivial, h2.step s⟩
  go := fun ⟨o, xs, h1, h2⟩ hi => ⟨xs, xs[_]'(by rw [h2.length]; exact hi), .inl (.inr ⟨o, h1⟩), List.getElem?_eq_getElem _⟩
  yld := fun hp ⟨o, xs, h1, h2⟩ hd ⟨e, q⟩ => by
    subst e
    refine ⟨Stp.refl, hp, ?_⟩
    obtain ⟨v, e1, r⟩ := h2.get hd
    have := (q xs (.inl (.inr ⟨o, h1⟩))).symm.trans e1
    cases this
    exact r
  stop := fun ⟨o, xs, h1, h2⟩ hi => ⟨xs, .inl (.inr ⟨o, h1⟩), by rw [h2.length]; exact hi⟩
theorem repI_get {π : Nat → Addr} {n : Nat} {H : Hp} : ∀ {ks : List (Key × V)} {kvs : List (Int × D)} {i : Nat} {k : Key} {v : V}, RepI G π n H ks kvs → ks[i]? = some (k, v) → ∃ j d, kvs[i]? = some (j, d) ∧ k = .inl j
  | _, _, _, _, _, .nil, e => by simp at e
  | _, _, 0, _, _, .cons _ _, e => by simp at e; obtain ⟨rfl, _⟩ := e; exact ⟨_, _, rfl, rfl⟩
  | _, _, i + 1, _, _, .cons _ q, e => by simp at e; obtain ⟨j, d, e1, e2⟩ := repI_get q e; exact ⟨j, d, by simpa using e1, e2⟩
theorem repT_get {π : Nat → Addr} {n : Nat} {H : Hp} : ∀ {ks : List (List Key × V)} {kvs : List (List Int × D)} {i : Nat} {k : List Key} {v : V}, RepT G π n H ks kvs → ks[i]? = some (k, v) → ∃ j d, kvs[i]? = some (j, d) ∧ k = j.map Sum.inl
  | _, _, _, _, _, .nil, e => by simp at e
  | _, _, 0, _, _, .cons _ _, e => by simp at e; obtain ⟨rfl, _⟩ := e; exact ⟨_, _, rfl, rfl⟩
  | _, _, i + 1, _, _, .cons _ q, e => by simp at e; obtain ⟨j, d, e1, e2⟩ := repT_get q e; exact ⟨j, d, by simpa using e1, e2⟩
theorem wk_fi {a : Addr} {o : Obj} {ks : List (Key × V)} {kvs : List (Int × D)} : Wk G (L2.Itk a o ks) (kvs.map fun kv => .int kv.1) fun π n H => H a = some (.frz o (.dK ks)) ∧ RepI G π n H ks kvs where
  step := fun s ⟨h1, h2⟩ => ⟨s.imm _ _ h1 trivial, h2.step s⟩
  go := fun ⟨h1, h2⟩ hi => ⟨h1, by rw [h2.length]; simpa using hi⟩
  yld := fun hp ⟨h1, h2⟩ hd ⟨e, k, v, e1, e2⟩ => by
    subst e
    refine ⟨Stp.refl, hp, ?_⟩
    obtain ⟨j, d, e3, rfl⟩ := repI_get h2 e1
    rw [List.getElem?_map, e3] at hd
    cases hd
    rw [e2]
    exact .int j
  stop := fun ⟨h1, h2⟩ hi => ⟨h1, by rw [h2.length]; simpa using hi⟩
theorem wk_ft {a : Addr} {o : Obj} {ks : List (List Key × V)} {kvs : List (List Int × D)} : Wk G (L2.Itkt a o ks) (kvs.map fun kv => .tup (dints kv.1)) fun π n H => H a = some (.frz o (.dT ks)) ∧ RepT G π n H ks kvs where
  step := fun s ⟨h1, h2⟩ => ⟨s.imm _ _ h1 trivial, h2.step s⟩
  go := fun ⟨h1, h2⟩ hi => ⟨h1, by rw [h2.length]; simpa using hi⟩
  yld := fun hp ⟨h1, h2⟩ hd ⟨e, k, v, q, e1, e2, e4⟩ => by
    subst e
    refine ⟨Stp.refl, hp, ?_⟩
    obtain ⟨j, d, e3, rfl⟩ := repT_get h2 e1
    rw [List.getElem?_map, e3] at hd
    cases hd
    rw [e2]
    rw [map_kV] at e4
    exact .tup e4 (Reps.ofInts j)
  stop := fun ⟨h1, h2⟩ hi => ⟨h1, by rw [h2.length]; simpa using hi⟩
theorem wk_rng {lo : Int} {n : Nat} : Wk G (L2.Itr lo n) ((List.range n).map fun (i : Nat) => D.int (lo + i)) fun _ _ _ => True where
  step := fun _ _ => trivial
  go := fun {_ _ _ i} _ hi => show i < n by simpa using hi
  yld := fun hp _ hd ⟨e, q⟩ => by
    subst e q
    refine ⟨Stp.refl, hp, ?_⟩
    rw [List.getElem?_map] at hd
    obtain ⟨j, e1, rfl⟩ := Option.map_eq_some_iff.mp hd
    obtain ⟨h1, h2⟩ := List.getElem?_eq_some_iff.mp e1
    rw [List.getElem_range] at h2
    subst h2
    exact .int _
  stop := fun {_ _ _ i} _ hi => show n ≤ i by simpa using hi
theorem enmD_get : ∀ (n : Nat) (ds : List D) (i : Nat) (d : D), (enmD n ds)[i]? = some d → ∃ x, ds[i]? = some x ∧ d = .tup [.int ((n + i : Nat) : Int), x]
  | _, [], _, _, e => by simp [enmD] at e
  | n, x :: r, 0, d, e => by simp [enmD] at e; exact ⟨x, rfl, by rw [← e]; simp⟩
  | n, x :: r, i + 1, d, e => by
    simp only [enmD, List.getElem?_cons_succ] at e ⊢
    obtain ⟨y, e1, e2⟩ := enmD_get (n + 1) r i d e
    exact ⟨y, e1, by rw [e2]; congr 3; omega⟩
theorem enmD_len : ∀ (n : Nat) (ds : List D), (enmD n ds).length = ds.length
  | _, [] => rfl
  | n, x :: r => by simp [enmD, enmD_len (n + 1) r]
theorem wk_enm {a : Addr} {ds : List D} {K : PySem.W.Frag} : Wk G (L2.Ite K a) (enmD 0 ds) fun π n H => ∃ o xs, H a = some (.frz o (.lst xs)) ∧ Reps G π n H xs ds where
  step := fun s ⟨o, xs, h1, h2⟩ => ⟨o, xs, s.imm _ _ h1 trivial, h2.step s⟩
  go := fun ⟨o, xs, h1, h2⟩ hi => by
    rw [enmD_len] at hi
    exact ⟨xs, xs[_]'(by rw [h2.length]; exact hi), .inl (.inr ⟨o, h1⟩), List.getElem?_eq_getElem _⟩
  yld := fun {_ _ _ i _ _ _} hp ⟨o, xs, h1, h2⟩ hd ⟨T, x, e1, hn, e2, q⟩ => by
    subst e1 e2
    have s := Stp.lay (o := .tup [.int (i : Nat), x]) hp hn
    refine ⟨s, hp.lay hn, ?_⟩
    obtain ⟨y, e3, rfl⟩ := enmD_get _ _ _ _ hd
    obtain ⟨v, e4, r⟩ := h2.get e3
    have := (q xs (.inl (.inr ⟨o, h1⟩))).symm.trans e4
    cases this
    rw [Nat.zero_add]
    exact .tup upd_same (.cons (.int _) (.cons (r.step s) .nil))
  stop := fun ⟨o, xs, h1, h2⟩ hi => by
    rw [enmD_len] at hi
    exact ⟨xs, .inl (.inr ⟨o, h1⟩), by rw [h2.length]; exact hi⟩
theorem zipD_get : ∀ (xs ys : List D) (i : Nat) (d : D), (zipD xs ys)[i]? = some d → ∃ x y, xs[i]? = some x ∧ ys[i]? = some y ∧ d = .tup [x, y]
  | [], _, _, _, e => by simp [zipD] at e
  | _ :: _, [], _, _, e => by simp [zipD] at e
  | x :: r, y :: t, 0, d, e => by simp [zipD] at e; exact ⟨x, y, rfl, rfl, e.symm⟩
  | x :: r, y :: t, i + 1, d, e => by
    simp only [zipD, List.getElem?_cons_succ] at e ⊢
    exact zipD_get r t i d e
theorem zipD_len : ∀ (xs ys : List D), (zipD xs ys).length = min xs.length ys.length
  | [], _ => by simp [zipD]
  | _ :: _, [] => by simp [zipD]
  | x :: r, y :: t => by
    simp only [zipD, List.length_cons, zipD_len r t]
    omega
theorem wk_zip {a b : Addr} {ds es : List D} : Wk G (RZ.ItzT G.K a b) (zipD ds es) fun π n H => ∃ xs ys, SqT G.K H a xs ∧ SqT G.K H b ys ∧ Reps G π n H xs ds ∧ Reps G π n H ys es where
  step := fun s ⟨xs, ys, h1, h2, h3, h4⟩ => ⟨xs, ys, sqT_step s h1, sqT_step s h2, h3.step s, h4.step s⟩
  go := fun ⟨xs, ys, h1, h2, h3, h4⟩ hi => by
    rw [zipD_len] at hi
    exact ⟨xs, ys, xs[_]'(by rw [h3.length]; omega), ys[_]'(by rw [h4.length]; omega), h1, h2, List.getElem?_eq_getElem _, List.getElem?_eq_getElem _⟩
  yld := fun hp ⟨xs, ys, h1, h2, h3, h4⟩ hd ⟨T, x, y, e1, hn, e2, q1, q2⟩ => by
    subst e1 e2
    have s := Stp.lay (o := .tup [x, y]) hp hn
    refine ⟨s, hp.lay hn, ?_⟩
    obtain ⟨x', y', e3, e4, rfl⟩ := zipD_get _ _ _ _ hd
    obtain ⟨v, e5, r⟩ := h3.get e3
    obtain ⟨v', e6, r'⟩ := h4.get e4
    have z1 := (q1 xs h1).symm.trans e5
    have z2 := (q2 ys h2).symm.trans e6
    cases z1
    cases z2
    exact .tup upd_same (.cons (r.step s) (.cons (r'.step s) .nil))
  stop := fun ⟨xs, ys, h1, h2, h3, h4⟩ hi => by
    rw [zipD_len] at hi
    refine ⟨xs, ys, h1, h2, ?_⟩
    rw [h3.length, h4.length]
    omega

/-! ### iterators -/
/-- a thing that is walked as it is: which rule depends on what it turns out to be -/
theorem i_seq (hK : G.K = X.K) {e : Expr} {m : Env → Hs → R D} (he : PE X e (tE G W m)) : PI X tg e (tI G W fun ρ h => (m ρ h).bind fun d h => match itemsOf d with | some ds => .ok ds h | none => .bad) := by
  refine ⟨fun pins s σ H Q I ⟨π, ρ, h, rl, p⟩ => ?_⟩
  dsimp only at p
  have key := PostI.bind (rel := RelD G) p
  cases em : m ρ h with
  | bad => rw [em] at p; exact p.elim
  | ex c h' =>
    rw [em] at key
    exact (L2.pi_list (tg := tg) he).run pins s σ H Q I ⟨π, ρ, h, rl, by rw [em]; exact key⟩
  | ok d h' =>
    rw [em] at p key
    cases d with
    | tup ds =>
      refine (L2.pi_tup (tg := tg) he).run pins s σ H Q I ⟨π, ρ, h, rl, ?_⟩
      rw [em]
      intro π' v H' s' hp' r'
      obtain ⟨a, xs, rfl, hs, q, _⟩ := Rep.sqt r'
      refine ⟨a, rfl, ⟨xs, by rw [← hK]; exact hs⟩, ?_⟩
      rw [← hK]
      exact p π' H' _ _ s' hp' wk_tup ⟨xs, hs, q⟩
    | fl ds =>
      refine (L2.pi_list (tg := tg) he).run pins s σ H Q I ⟨π, ρ, h, rl, ?_⟩
      rw [em]
      intro π' v H' s' hp' r'
      cases r' with
      | fl ha q => exact ⟨_, rfl, ⟨_, .inl (.inr ⟨_, ha⟩)⟩, p π' H' _ _ s' hp' wk_fl ⟨_, _, ha, q⟩⟩
    | fi kvs =>
      refine (L2.pi_keys (tg := tg) he).run pins s σ H Q I ⟨π, ρ, h, rl, ?_⟩
      rw [em]
      intro π' v H' s' hp' r'
      cases r' with
      | fi ha q => exact ⟨_, _, rfl, .inl ⟨_, ha, p π' H' _ _ s' hp' wk_fi ⟨ha, q⟩⟩⟩
    | ft kvs =>
      refine (L2.pi_keys (tg := tg) he).run pins s σ H Q I ⟨π, ρ, h, rl, ?_⟩
      rw [em]
      intro π' v H' s' hp' r'
      cases r' with
      | ft ha q => exact ⟨_, _, rfl, .inr ⟨_, ha, p π' H' _ _ s' hp' wk_ft ⟨ha, q⟩⟩⟩
    | _ => exact p.elim
theorem i_rng1 {x : Str} {p pos : Pos} {a : Expr} {m : Env → Hs → R D} (hx : x = "range") (hg : L2.Gl X x) (hm : X.mg x = none) (ha : PE X a (tE G W m)) (hs : starEach [a] X.env = [(false, eval a X.env)]) :
    PI X tg (.Call (.Name x p) [a] [] pos) (tI G W fun ρ h => (m ρ h).bind fun d h => match d with | .int n => if n.natAbs < 4611686018427387904 then .ok (rngD 0 n) h else .bad | _ => .bad) := by
  subst hx
  refine PI.imp (L2.pi_range1 hg hm (L2.pa_cons ha L2.pa_nil hs) hs) fun σ H Q ⟨π, ρ, h, rl, p⟩ => ⟨π, ρ, h, rl, (PostI.bind p).mono fun v H1 ⟨π1, h1, d1, s1, hp1, r1, p1⟩ => ?_⟩
  cases d1 with
  | int n =>
    cases r1
    dsimp only at p1
    split at p1
    · rename_i c
      refine ⟨n, rfl, by omega, by omega, ?_⟩
      have e : rngD 0 n = (List.range n.toNat).map fun (i : Nat) => D.int (0 + i) := by unfold rngD; rw [Int.sub_zero]
      rw [e] at p1
      exact p1 π1 H1 _ _ Stp.refl hp1 wk_rng trivial
    · exact p1.elim
  | _ => exact p1.elim
theorem i_rng2 {x : Str} {p pos : Pos} {a b : Expr} {m m2 : Env → Hs → R D} (hx : x = "range") (hg : L2.Gl X x) (hm : X.mg x = none) (ha : PE X a (tE G W m)) (hb : PE X b (tE G W m2)) (hs : starEach [a, b] X.env = [(false, eval a X.env), (false, eval b X.env)]) (hs2 : starEach [b] X.env = [(false, eval b X.env)]) :
    PI X tg (.Call (.Name x p) [a, b] [] pos) (tI G W fun ρ h => (m ρ h).bind fun x h => (m2 ρ h).bind fun y h => match x, y with
      | .int m, .int n => if m.natAbs < 4611686018427387904 ∧ n.natAbs < 4611686018427387904 then .ok (rngD m n) h else .bad
      | _, _ => .bad) := by
  subst hx
  refine PI.imp (L2.pi_range2 hg hm (L2.pa_cons ha (L2.pa_cons hb L2.pa_nil hs2) (by rw [hs, hs2])) hs hs2) fun σ H Q ⟨π, ρ, h, rl, p⟩ => ⟨π, ρ, h, rl, (PostI.bind p).mono fun v H1 ⟨π1, h1, d1, s1, hp1, r1, p1⟩ => ⟨π1, ρ, h1, rl.step s1 hp1, (PostI.bind p1).mono fun w' H2 ⟨π2, h2, d2, s2, hp2, r2, p2⟩ => ?_⟩⟩
  cases d1 with
  | int a =>
    cases r1
    cases d2 with
    | int b =>
      cases r2
      dsimp only at p2
      split at p2
      · rename_i c
        refine ⟨a, b, rfl, by omega, ?_⟩
        exact p2 π2 H2 _ _ Stp.refl hp2 wk_rng trivial
      · exact p2.elim
    | _ => exact p2.elim
  | _ => exact p2.elim
theorem i_enm {x : Str} {p pos tp : Pos} {a : Expr} {elts : List Expr} {k : Nat} {m : Env → Hs → R D} (hx : x = "enumerate") (hg : L2.Gl X x) (hm : X.mg x = none) (ha : PE X a (tE G W m)) (hs : starEach [a] X.env = [(false, eval a X.env)]) :
    PI X (.Tuple elts k tp) (.Call (.Name x p) [a] [] pos) (tI G W fun ρ h => (m ρ h).bind fun d h => match d with | .fl ds => .ok (enmD 0 ds) h | _ => .bad) := by
  subst hx
  refine PI.imp (L2.pi_enum hg hm (L2.pa_cons ha L2.pa_nil hs) hs) fun σ H Q ⟨π, ρ, h, rl, p⟩ => ⟨π, ρ, h, rl, (PostI.bind p).mono fun v H1 ⟨π1, h1, d1, s1, hp1, r1, p1⟩ => ?_⟩
  cases d1 with
  | fl ds =>
    cases r1 with
    | fl hb q => exact ⟨_, _, rfl, .inl (.inr ⟨_, hb⟩), p1 π1 H1 _ _ Stp.refl hp1 wk_enm ⟨_, _, hb, q⟩⟩
  | _ => exact p1.elim
theorem i_zip (hK : G.K = X.K) {x : Str} {p pos tp : Pos} {a b : Expr} {elts : List Expr} {k : Nat} {m m2 : Env → Hs → R D} (hx : x = "zip") (hg : L2.Gl X x) (hm : X.mg x = none) (ha : PE X a (tE G W m)) (hb : PE X b (tE G W m2)) (hs : starEach [a, b] X.env = (false, eval a X.env) :: starEach [b] X.env)
    (hs2 : starEach [b] X.env = [(false, eval b X.env)]) (hpl : (backTo pos (starEach [b] X.env)).any (·.1) = false) :
    PI X (.Tuple elts k tp) (.Call (.Name x p) [a, b] [] pos) (tI G W fun ρ h => (m ρ h).bind fun x h => (m2 ρ h).bind fun y h => match x, y with | .tup xs, .tup ys => .ok (zipD xs ys) h | _, _ => .bad) := by
  subst hx
  refine PI.imp (RZ.pi_zipA hg hm (L2.pa_cons ha (L2.pa_cons hb L2.pa_nil hs2) hs) hs hpl) fun σ H Q ⟨π, ρ, h, rl, p⟩ => ⟨π, ρ, h, rl, (PostI.bind p).mono fun v H1 ⟨π1, h1, d1, s1, hp1, r1, p1⟩ => ⟨π1, ρ, h1, rl.step s1 hp1, (PostI.bind p1).mono fun w' H2 ⟨π2, h2, d2, s2, hp2, r2, p2⟩ => ?_⟩⟩
  cases d1 with
  | tup ds =>
    cases d2 with
    | tup es =>
      obtain ⟨a, xs, rfl, hsa, q, _⟩ := Rep.sqt r1
      obtain ⟨b, ys, rfl, hsb, q2, _⟩ := Rep.sqt r2
      have hsa' := sqT_step s2 hsa
      refine ⟨a, b, xs, ys, rfl, .inr ⟨by rw [← hK]; exact hsa', by rw [← hK]; exact hsb, ?_⟩⟩
      rw [← hK]
      exact p2 π2 H2 _ _ Stp.refl hp2 wk_zip ⟨xs, ys, hsa', hsb, Reps.step s2 q, q2⟩
    | _ => exact p2.elim
  | _ => exact p2.elim
end
end Y

set_option Elab.async false
set_option linter.all false
set_option maxRecDepth 100000
set_option maxHeartbeats 4000000
namespace Y
open PySem PySem.Spec PyProof.Rows
open L2 (V Hp HO upd upd_same upd_ne SqL SqT Rd VK TE TT TA TS TG TI XK WX Cx Inv PE PT PA PW PS PSs PG PI Key RelV Vals EP Mut ne_of ne_of_none OpR CallR IxR SlR MtR thn Takes)

/-! ### targets -/
theorem wipe_get (σ : L2.St) : ∀ (vs : List Nat) (j : Nat), (L2.wipe σ vs)[j]? = if j ∈ vs then (σ[j]?).map (fun _ => none) else σ[j]?
  | [], j => by simp [L2.wipe]
  | v :: vs, j => by
    unfold L2.wipe
    by_cases h : v = j
    · subst h
      rw [if_pos List.mem_cons_self]
      by_cases hl : v < (L2.wipe σ vs).length
      · rw [List.getElem?_set_self hl]
        rw [L2.wipe_length] at hl
        rw [List.getElem?_eq_getElem hl]
        rfl
      · rw [List.getElem?_eq_none (by simpa using hl)]
        rw [L2.wipe_length] at hl
        rw [List.getElem?_eq_none (by simpa using hl)]
        rfl
    · rw [List.getElem?_set_ne h, wipe_get σ vs j]
      by_cases h2 : j ∈ vs
      · rw [if_pos h2, if_pos (List.mem_cons_of_mem _ h2)]
      · rw [if_neg h2, if_neg (by simp only [List.mem_cons, not_or]; exact ⟨fun e => h e.symm, h2⟩)]
theorem wipe_set {σ : L2.St} {i : Nat} {x : Option V} {vs : List Nat} (h : i ∈ vs) : L2.wipe (σ.set i x) vs = L2.wipe σ vs := by
  apply List.ext_getElem?
  intro j
  rw [wipe_get, wipe_get]
  by_cases hj : j ∈ vs
  · rw [if_pos hj, if_pos hj]
    by_cases e : i = j
    · subst e
      by_cases hl : i < σ.length
      · rw [List.getElem?_set_self hl, List.getElem?_eq_getElem hl]; rfl
      · rw [List.getElem?_eq_none (by simpa using hl), List.getElem?_eq_none (by simpa using hl)]
    · rw [List.getElem?_set_ne e]
  · rw [if_neg hj, if_neg hj, List.getElem?_set_ne (fun e => hj (by rw [← e]; exact h))]
theorem wipe_wipe (σ : L2.St) (vs : List Nat) : L2.wipe (L2.wipe σ vs) vs = L2.wipe σ vs := by
  apply List.ext_getElem?
  intro j
  rw [wipe_get, wipe_get]
  by_cases hj : j ∈ vs
  · rw [if_pos hj, if_pos hj]
    cases σ[j]? <;> rfl
  · rw [if_neg hj, if_neg hj]
def gT (G : Gm) (tg : Tg) : TG := fun v σ H Q => ∃ π ρ h d, Rl G π ρ h σ H ∧ Rep G π h.length H v d ∧ ∃ ρ', setTg tg ρ d = some ρ' ∧ ∀ σ', Rl G π ρ' h σ' H → L2.wipe σ' tg.slots = L2.wipe σ tg.slots → Q σ' H
section
variable {G : Gm} {W : WX} {X : Cx}
theorem PG.imp {tg : Expr} {t t' : TG} (h : PG X tg t) (hi : ∀ v σ H Q, t' v σ H Q → t v σ H Q) : PG X tg t' := ⟨fun pins s σ H v u Q I r q => h.run pins s σ H v u Q I r (hi v σ H Q q)⟩
theorem g_n {i : Nat} {x : Str} {pos : Pos} (hN : X.N.Nodup) (hi : X.N[i]? = some x) (hx : L2.Loc X.env.scope x) (hf : X.fn x = true ∨ X.env.scope.names.lookup x = some .local) : PG X (.Name x pos) (gT G (.n i)) :=
  PG.imp (L2.pg_name hN hi hx hf) fun v σ H Q ⟨π, ρ, h, d, rl, r, ρ', e, q⟩ => by
    cases e
    exact q _ (rl.set r) (wipe_set (by simp [Tg.slots]))
/-- names one after another -/
inductive Nms (X : Cx) : List Expr → List Nat → Prop
  | nil : Nms X [] []
  | cons {x : Str} {pos : Pos} {i : Nat} {es : List Expr} {is : List Nat} (hi : X.N[i]? = some x) (hx : L2.Loc X.env.scope x) (hf : X.fn x = true ∨ X.env.scope.names.lookup x = some .local) (r : Nms X es is) : Nms X (.Name x pos :: es) (i :: is)
def gNs : List Nat → L2.TGs
  | [] => L2.gNil
  | i :: is => L2.gCons (L2.gName i) (gNs is)
theorem Nms.pgs (hN : X.N.Nodup) : ∀ {es : List Expr} {is : List Nat}, Nms X es is → L2.PGs X es (gNs is)
  | _, _, .nil => L2.pgs_nil
  | _, _, .cons hi hx hf r => L2.pgs_cons (L2.pg_name hN hi hx hf) (r.pgs hN)
theorem Nms.len : ∀ {es : List Expr} {is : List Nat}, Nms X es is → (assignEach es X.env).length = is.length ∧ (assignEach es X.env).findIdx? (·.1) = none
  | _, _, .nil => ⟨rfl, rfl⟩
  | _, _, .cons hi hx hf r => by
    obtain ⟨h1, h2⟩ := r.len
    refine ⟨?_, ?_⟩
    · show (_ :: assignEach _ X.env).length = _
      rw [List.length_cons, List.length_cons, h1]
    · show (((false, _) : Bool × (Value → Sem Unit)) :: assignEach _ X.env).findIdx? (·.1) = none
      rw [List.findIdx?_cons, h2]
      rfl
theorem sets_run {π : Nat → Addr} {h : Hs} {H : Hp} {Q : L2.St → Hp → Prop} {vs : List Nat} : ∀ (is : List Nat) (xs : List V) (ds : List D) (ρ : Env) (σ : L2.St), (∀ i ∈ is, i ∈ vs) → ds.length = is.length → Rl G π ρ h σ H → Reps G π h.length H xs ds →
    (∀ σ', Rl G π ((is.zip ds).foldl (fun r p => r.set p.1 (some p.2)) ρ) h σ' H → L2.wipe σ' vs = L2.wipe σ vs → Q σ' H) → gNs is xs σ H Q
  | [], xs, ds, ρ, σ, _, el, rl, r, q => by
    cases ds with
    | nil => cases r; exact ⟨rfl, q σ rl rfl⟩
    | cons _ _ => simp at el
  | i :: is, xs, ds, ρ, σ, hs, el, rl, r, q => by
    cases r with
    | nil => simp at el
    | cons r1 r2 =>
      refine ⟨_, _, rfl, ?_⟩
      refine sets_run is _ _ (ρ.set i (some _)) (σ.set i (some _)) (fun j hj => hs j (List.mem_cons_of_mem _ hj)) (by simpa using el) (rl.set r1) r2 fun σ' rl' hw => q σ' rl' ?_
      rw [hw, wipe_set (hs i List.mem_cons_self)]
theorem g_t (hK : G.K = X.K) {es : List Expr} {is : List Nat} {k : Nat} {pos : Pos} (hc : X.calm = true) (hN : X.N.Nodup) (hn : Nms X es is) : PG X (.Tuple es k pos) (gT G (.t is)) :=
  PG.imp (L2.pg_tup (n := is.length) hc (hn.pgs hN) hn.len.1 hn.len.2) fun v σ H Q ⟨π, ρ, h, d, rl, r, ρ', e, q⟩ => by
    unfold setTg at e
    dsimp only at e
    split at e
    · rename_i ds
      split at e
      · rename_i c
        cases e
        obtain ⟨a, xs, rfl, hs, qs, _⟩ := r.sqt
        refine ⟨a, xs, rfl, by rw [← hK]; exact hs, by rw [qs.length, c], ?_⟩
        exact sets_run is xs ds ρ σ (fun i hi => hi) c rl qs q
      · cases e
    · cases e

/-! ### comprehensions -/
def lcF (tg : Tg) (ρ : Env) (mt : Env → Hs → R Bool) (me : Env → Hs → R D) : D → Hs → R (Option D) := fun d h => match setTg tg (wipe ρ tg.slots) d with
  | some ρ' => (mt ρ' h).bind fun k h => if k = true then (me ρ' h).bind fun v h => .ok (some v) h else .ok none h
  | none => .bad
abbrev Wf : WX := fun _ _ _ _ => False
theorem lc_run {tg : Tg} {mi : Env → Hs → R (List D)} {mt : Env → Hs → R Bool} {me : Env → Hs → R D} {σ : L2.St} {H : Hp} {Q : VK} {π : Nat → Addr} {ρ : Env} {h : Hs} (rl : Rl G π ρ h σ H)
    (p : Post G W (RelD G) π h.length σ H ((mi ρ h).bind fun ds h => (noEx (loopC (lcF tg ρ mt me) ds [] h)).bind fun vs h => .ok (.fl vs) h) Q) :
    L2.tLc (tI G W mi) (gT G tg) (tT G Wf mt) (tE G Wf me) tg.slots σ H (Fz Q) := by
  refine ⟨π, ρ, h, rl, ?_⟩
  cases em : mi ρ h with
  | bad => rw [em] at p; exact p.elim
  | ex c h' => rw [em] at p; exact p
  | ok ds h1 =>
    rw [em, R.bind_ok] at p
    intro π1 H1 J P s1 hp1 wk hP Dd hD
    refine ⟨fun i m Hc => ∃ πc hc acc xs, m = ds.length - i ∧ Stp π1 h1.length H1 πc (List.length hc) Hc ∧ HpR G πc hc Hc ∧ Hc Dd = some (.lst xs) ∧ (∀ j, j < List.length hc → πc j ≠ Dd) ∧ Reps G πc (List.length hc) Hc xs acc ∧
      Post G W (RelD G) π h.length σ H ((noEx (loopC (lcF tg ρ mt me) (ds.drop i) acc hc)).bind fun vs h => .ok (.fl vs) h) Q,
      ⟨ds.length, π1, h1, [], [], by simp, Stp.lay hp1 hD, hp1.lay hD, upd_same, fun j hj => hp1.ne_new hD hj, .nil, p⟩, ?_⟩
    rintro i m Hc ⟨πc, hc, acc, xs, rfl, sc, hpc, eD, nD, rx, pc⟩
    have hPc := wk.step sc hP
    by_cases hi : i < ds.length
    · refine .inr ⟨wk.go hPc hi, fun H' => ∃ πc hc acc xs, Stp π1 h1.length H1 πc (List.length hc) H' ∧ HpR G πc hc H' ∧ H' Dd = some (.lst xs) ∧ (∀ j, j < List.length hc → πc j ≠ Dd) ∧ Reps G πc (List.length hc) H' xs acc ∧
        Post G W (RelD G) π h.length σ H ((noEx (loopC (lcF tg ρ mt me) (ds.drop (i + 1)) acc hc)).bind fun vs h => .ok (.fl vs) h) Q, ?_, ?_⟩
      · rintro H' ⟨π2, h2, acc2, xs2, a1, a2, a3, a4, a5, a6⟩
        exact ⟨ds.length - (i + 1), by omega, π2, h2, acc2, xs2, rfl, a1, a2, a3, a4, a5, a6⟩
      · intro x H' hy
        have ed : ds.drop i = ds[i] :: ds.drop (i + 1) := List.drop_eq_getElem_cons hi
        rw [ed] at pc
        obtain ⟨s2, hp2, rd⟩ := wk.yld hpc hPc (List.getElem?_eq_getElem hi) hy
        have eD2 : H' Dd = some (.lst xs) := s2.fr _ _ eD nD
        have sc2 := sc.trans hpc s2
        have rx2 := rx.step s2
        simp only [loopC, lcF] at pc
        cases et : setTg tg (wipe ρ tg.slots) ds[i] with
        | none => rw [et] at pc; exact pc.elim
        | some ρ' =>
          rw [et] at pc
          refine ⟨πc, wipe ρ tg.slots, hc, ds[i], ((rl.step s1 hp1).step sc2 hp2).wipe _, rd, ρ', et, fun σ2 rl2 hw => ⟨by rw [hw, wipe_wipe], πc, ρ', hc, rl2, ?_⟩⟩
          cases e2 : mt ρ' hc with
          | bad => simp only [e2] at pc; exact pc.elim
          | ex c h2 => simp only [e2] at pc; exact pc.elim
          | ok k h2 =>
            simp only [e2, R.bind_ok] at pc
            intro π3 b H3 s3 hp3 eb
            cases eb
            obtain ⟨eD3, n3, _⟩ : H3 Dd = some (.lst xs) ∧ (∀ j, j < List.length h2 → π3 j ≠ Dd) ∧ True := by
              refine ⟨s3.fr _ _ eD2 nD, fun j hj e => ?_, trivial⟩
              by_cases hj' : j < List.length hc
              · rw [s3.ext j hj'] at e; exact nD j hj' e
              · have := s3.new j (Nat.le_of_not_lt hj') hj
                rw [e, eD2] at this
                cases this
            have sc3 := sc2.trans hp2 s3
            have rx3 := rx2.step s3
            cases k with
            | false =>
              simp only [Bool.false_eq_true, if_false] at pc ⊢
              exact ⟨π3, h2, acc, xs, sc3, hp3, eD3, n3, rx3, pc⟩
            | true =>
              simp only [if_true] at pc ⊢
              refine ⟨π3, ρ', h2, rl2.step s3 hp3, ?_⟩
              cases e3 : me ρ' h2 with
              | bad => simp only [e3] at pc; exact pc.elim
              | ex c h3 => simp only [e3] at pc; exact pc.elim
              | ok v h3 =>
                simp only [e3, R.bind_ok] at pc
                split at pc
                · rename_i cl
                  intro π4 y H4 s4 hp4 ry
                  obtain ⟨eD4, n4, _⟩ : H4 Dd = some (.lst xs) ∧ (∀ j, j < List.length h3 → π4 j ≠ Dd) ∧ True := by
                    refine ⟨s4.fr _ _ eD3 n3, fun j hj e => ?_, trivial⟩
                    by_cases hj' : j < List.length h2
                    · rw [s4.ext j hj'] at e; exact n3 j hj' e
                    · have := s4.new j (Nat.le_of_not_lt hj') hj
                      rw [e, eD3] at this
                      cases this
                  have rx4 := rx3.step s4
                  have hm := nImm eD4 (fun z => z)
                  refine ⟨xs, eD4, ?_, π4, h3, acc ++ [v], xs ++ [y], (sc3.trans hp3 s4).priv hD, hp4.priv hm n4, upd_same, n4, ?_, pc⟩
                  · rw [rx4.length, sizeLine_eq]; exact cl
                  · exact (rx4.lk (Lk.priv hm)).append (.cons (Rep.lk (Lk.priv hm) ry) .nil)
                · exact pc.elim
    · refine .inl ⟨wk.stop hPc (Nat.le_of_not_lt hi), ?_⟩
      rw [List.drop_eq_nil_of_le (Nat.le_of_not_lt hi)] at pc
      have hm := nImm eD (fun z => z)
      refine Fz.at eD trivial fun od => ?_
      exact pc πc (.ref Dd) _ (s1.trans hp1 (sc.priv hD)) (hpc.priv hm nD) (.fl upd_same (rx.lk (Lk.priv hm)))
theorem l_lc {tg : Tg} {elt tgE iter : Expr} {ifs : List Expr} {scope : Scope} {own : List (Str × Nat)} {pos : Pos} {mi : Env → Hs → R (List D)} {mt : Env → Hs → R Bool} {me : Env → Hs → R D} (hc : X.calm = true) (hN : X.N.Nodup) (hi : PI X tgE iter (tI G W mi)) (ok : L2.BlkOk X.N X.env.scope scope own) (ho : own.map (·.2) = tg.slots)
    (hg : ∀ (s : Shared) (H : Hp) (C : Addr) (cl : List (Str × Addr)) (fp : List Addr), PG (X.blk s H scope (compEnvC scope cl C X.env) fp) tgE (gT G tg)) (ht : ∀ (s : Shared) (H : Hp) (C : Addr) (cl : List (Str × Addr)) (fp : List Addr), L2.PTs (X.blk s H scope (compEnvC scope cl C X.env) fp) ifs (tT G Wf mt))
    (he : ∀ (s : Shared) (H : Hp) (C : Addr) (cl : List (Str × Addr)) (fp : List Addr), PE (X.blk s H scope (compEnvC scope cl C X.env) fp) elt (tE G Wf me)) (hs : ∀ x, foldedSetIterable iter X.env x = pure x) :
    PE X (.ListComp elt [⟨tgE, iter, ifs, 0⟩] scope pos) (tE G W fun ρ h => (mi ρ h).bind fun ds h => (noEx (loopC (lcF tg ρ mt me) ds [] h)).bind fun vs h => .ok (.fl vs) h) :=
  PE.imp (pe_fz (L2.pe_lc hc hN hi ok hg ht he hs)) fun σ H Q ⟨π, ρ, h, rl, p⟩ => by
    rw [ho]
    exact lc_run rl p
end
end Y

set_option Elab.async false
set_option linter.all false
set_option maxRecDepth 100000
set_option maxHeartbeats 4000000
namespace Y
open PySem PySem.Spec PyProof.Rows
def noStar : Expr → Bool
  | .Starred _ _ => false
  | _ => true
theorem noStar_each {e : Expr} (h : noStar e = true) (es : List Expr) (env : PySem.Env) : starEach (e :: es) env = (false, eval e env) :: starEach es env := by
  cases e <;> first | rfl | cases h
theorem noStar_all {pos : Pos} {env : PySem.Env} : ∀ {es : List Expr}, es.all noStar = true → (backTo pos (starEach es env)).any (·.1) = false
  | [], _ => rfl
  | e :: es, h => by
    rw [List.all_cons, Bool.and_eq_true] at h
    rw [noStar_each h.1]
    show (false || (backTo pos (starEach es env)).any (·.1)) = false
    rw [noStar_all h.2]
    rfl
theorem sw_some {x y : Str} {a b : Expr} {env : PySem.Env} {px py pt pt2 : Pos} {kt k2 : Nat} (hk : env.scope.kind = .function) (hx : env.scope.names.lookup x = some .local) (hy : env.scope.names.lookup y = some .local) (hl : py.line = px.line) (hxy : x ≠ y)
    (ha : noStar a = true) (hb : noStar b = true) (hf : (foldedForSure 8 a && foldedForSure 8 b) = false) (hc : (constantsAlone 8 a && constantsAlone 8 b) = false) :
    swappedStores [.Tuple [.Name x px, .Name y py] kt pt] (.Tuple [a, b] k2 pt2) env = pure (some [x, y]) := by
  have kx : env.kindOf x = some .local := hx
  have ky : env.kindOf y = some .local := hy
  have hbk : env.blockKind = .function := by unfold Env.blockKind; rw [hk]; rfl
  have hf' : ([a, b].all (foldedForSure 8)) = false := by simpa using hf
  have hc' : ([a, b].all (constantsAlone 8)) = false := by simpa using hc
  have e2 : ([x, y].eraseDups.length != [x, y].length) = false := by
    have : ([x, y] : List Str).eraseDups = [x, y] := by
      simp [List.eraseDups_cons, Ne.symm hxy]
    rw [this]; rfl
  unfold swappedStores
  simp only [hf', hc', hbk, List.length_cons, List.length_nil, List.any_cons, List.any_nil, List.filterMap_cons, List.filterMap_nil, List.head?_cons, Option.map_some, Option.getD_some, Expr.pos, kx, ky, hl]
  rw [if_neg (by decide), if_neg (fun h => by
    rw [Bool.or_eq_true, Bool.or_eq_true] at h
    rcases h with h | h | h
    · split at h
      · cases ha
      · cases h
    · split at h
      · cases hb
      · cases h
    · cases h)]
  have eL : (px.line == px.line) = true := beq_self_eq_true _
  have eK : (some NameKind.local == some NameKind.local) = true := by decide
  simp only [eL, eK, Bool.and_true, if_true]
  rw [if_neg (fun h => by
    rw [e2, Bool.or_false] at h
    exact absurd h (by show ¬ ((2 != 2) = true); decide))]
  rfl
theorem bne_opt {k : Option NameKind} (h : k ≠ some .local) : (k == some NameKind.local) = false := by
  cases k with
  | none => rfl
  | some k => cases k <;> first | rfl | exact absurd rfl h
/-- one of the two is seen by a comprehension: stored from the left -/
theorem sw_none {x y : Str} {a b : Expr} {env : PySem.Env} {px py pt pt2 : Pos} {kt k2 : Nat} (h1 : env.scope.names.lookup x ≠ some .local ∨ env.scope.names.lookup y ≠ some .local ∨ (foldedForSure 8 a && foldedForSure 8 b) = true) (ha : noStar a = true) (hb : noStar b = true) :
    swappedStores [.Tuple [.Name x px, .Name y py] kt pt] (.Tuple [a, b] k2 pt2) env = pure none := by
  have kx : env.kindOf x = env.scope.names.lookup x := rfl
  have ky : env.kindOf y = env.scope.names.lookup y := rfl
  unfold swappedStores
  simp only [List.length_cons, List.length_nil, List.any_cons, List.any_nil, List.filterMap_cons, List.filterMap_nil, List.head?_cons, Option.map_some, Option.getD_some, Expr.pos, kx, ky]
  split
  · rfl
  · rw [if_neg (fun h => by
      rw [Bool.or_eq_true, Bool.or_eq_true] at h
      rcases h with h | h | h
      · split at h
        · cases ha
        · cases h
      · split at h
        · cases hb
        · cases h
      · cases h)]
    rcases h1 with h1 | h1 | h1
    · rw [bne_opt h1]
      simp only [Bool.false_and, Bool.false_eq_true, if_false]
      rw [if_pos]
      rw [Bool.or_eq_true]
      left
      split <;> rfl
    · rw [bne_opt h1]
      simp only [Bool.false_and, Bool.false_eq_true, if_false]
      rw [if_pos]
      rw [Bool.or_eq_true]
      left
      split <;> rfl
    · have e : [a, b].all (foldedForSure 8) = true := by simpa using h1
      rw [e, if_pos rfl, ite_self]

def noComp : Expr → Bool
  | .ListComp _ _ _ _ => false
  | .SetComp _ _ _ _ => false
  | .DictComp _ _ _ _ _ => false
  | _ => true
theorem noComp_sw {e : Expr} (h : noComp e = true) (t : Option Expr) (l : Nat) (env : PySem.Env) : swapsWith e t l env = pure false := by
  cases e <;> first | rfl | cases h
def noTup : Expr → Bool
  | .Tuple _ _ _ => false
  | _ => true
theorem noTup_sw {es : List Expr} {k : Nat} {p : Pos} {e : Expr} (h : noTup e = true) (env : PySem.Env) : swappedStores [.Tuple es k p] e env = pure none := by
  cases e <;> first | rfl | cases h
theorem sub_sw {o i : Expr} {p : Pos} (e : Expr) (env : PySem.Env) : swappedStores [.Subscript o i p] e env = pure none := by
  cases e <;> rfl
def plainT : Expr → Bool
  | .UnaryOp .Not _ _ => false
  | .BoolOp _ _ _ => false
  | .IfExp _ _ _ _ => false
  | .Compare _ _ _ _ => false
  | _ => true
theorem plainT_is {e : Expr} (h : plainT e = true) (env : PySem.Env) (whole : Sem Value) : isTrue e env whole = (do let v ← whole; standAt e.pos; holding [v] (truthy v)) := by
  cases e with
  | UnaryOp op a p => cases op <;> first | rfl | cases h
  | _ => first | rfl | cases h
def noSlice : Expr → Bool
  | .Slice _ _ _ _ => false
  | _ => true
theorem noSlice_ix {e : Expr} (h : noSlice e = true) : L2.PlainIx e := fun o i => by
  cases e <;> first | rfl | cases h
def abOk : Expr → Bool
  | .Call (.Name _ _) [] [] _ => false
  | _ => true
theorem abOk_is {e : Expr} (h : abOk e = true) (f : Str) (env : PySem.Env) (w : Sem Value) : attributeBase e f env w = w := by
  unfold attributeBase
  split
  · cases h
  · rfl
def noSet : Expr → Bool
  | .Set _ _ _ => false
  | _ => true
theorem noSet_is {e : Expr} (h : noSet e = true) (env : PySem.Env) (x : Value) : foldedSetIterable e env x = pure x := by
  cases e <;> first | rfl | cases h
theorem sub_asg {o i : Expr} {pos : Pos} {env : PySem.Env} (h : noSlice i = true) : ∀ v, assign (.Subscript o i pos) env v = (do
      let ov ← holding [v] (eval o env)
      let iv ← holding [v, ov] (eval i env)
      standAt pos
      holding [v, ov, iv] (setItem ov iv v)
      release [v, ov, iv] []) := fun _ => by
  cases i <;> first | rfl | cases h
/-- does the comprehension's value go straight to the name -/
def lcSw (sc scope : Scope) (t : Str) (pl vl : Nat) : Bool := sc.names.lookup t == some .local && pl == vl && !(scope.names.any fun (n, k) => n == t && (k == .local || k == .cell))
theorem lcSw_is {elt : Expr} {gs : List Comprehension} {scope : Scope} {pos p : Pos} {t : Str} {l : Nat} {env : PySem.Env} (hk : env.scope.kind = .function) : swapsWith (.ListComp elt gs scope pos) (some (.Name t p)) l env = pure (lcSw env.scope scope t p.line pos.line) := by
  have hb : env.blockKind = .function := by unfold Env.blockKind; rw [hk]; rfl
  unfold swapsWith lcSw
  simp only [hb]
  rfl
end Y

set_option Elab.async false
set_option linter.all false
set_option maxRecDepth 100000
set_option maxHeartbeats 4000000
namespace Y
open PySem PySem.Spec PyProof.Rows
open L2 (V Hp HO upd upd_same upd_ne SqL SqT Rd VK TE TT TA TS TG TI XK WX Cx Inv PE PT PA PW PS PSs PG PI Key RelV Vals EP Mut ne_of ne_of_none OpR CallR IxR SlR MtR thn Takes Ends)

theorem tLc_mono {wi : TI} {g : TG} {tt : TT} {te : TE} {vs : List Nat} {σ : L2.St} {H : Hp} {Q Q' : VK} (h : L2.tLc wi g tt te vs σ H Q) (hQ : ∀ v H, Q v H → Q' v H) (hw : ∀ R R' : L2.It → Hp → Prop, (∀ J H, R J H → R' J H) → wi σ H R → wi σ H R') : L2.tLc wi g tt te vs σ H Q' := by
  refine hw _ _ (fun J H1 q D hD => ?_) h
  obtain ⟨Wm, h0, turn⟩ := q D hD
  refine ⟨Wm, h0, fun i m Hc w => ?_⟩
  rcases turn i m Hc w with ⟨a, b⟩ | r
  · exact .inl ⟨a, hQ _ _ b⟩
  · exact .inr r
section
variable {G : Gm} {W : WX} {X : Cx}
theorem PostS.bind {α β : Type} {rel : (Nat → Addr) → Nat → Hp → β → α → Prop} {π : Nat → Addr} {ρ : Env} {h : Hs} {σ : L2.St} {H : Hp} {r : R α} {f : α → Hs → RS} {Dn : Ends} (rl : Rl G π ρ h σ H) (p : PostS G W π h.length H (r.toS ρ f) Dn) :
    Post G W rel π h.length σ H r fun b H1 => ∃ π1 h1 a, Stp π h.length H π1 h1.length H1 ∧ HpR G π1 h1 H1 ∧ rel π1 h1.length H1 b a ∧ PostS G W π1 h1.length H1 (f a h1) Dn := by
  cases r with
  | bad => exact p
  | ex c h' => exact fun π' H' s hp => p π' σ H' s (rl.step s hp)
  | ok a h' =>
    intro π' b H' s hp hr
    refine ⟨π', h', a, s, hp, hr, ?_⟩
    have p' : PostS G W π h.length H (f a h') Dn := p
    revert p'
    cases e : f a h' with
    | bad => exact fun p' => p'
    | nx ρ2 h2 => exact fun p' π2 σ2 H2 s2 hp2 => p' π2 σ2 H2 (s.trans hp s2) hp2
    | bk ρ2 h2 => exact fun p' π2 σ2 H2 s2 hp2 => p' π2 σ2 H2 (s.trans hp s2) hp2
    | ct ρ2 h2 => exact fun p' π2 σ2 H2 s2 hp2 => p' π2 σ2 H2 (s.trans hp s2) hp2
    | ex c ρ2 h2 => exact fun p' π2 σ2 H2 s2 hp2 => p' π2 σ2 H2 (s.trans hp s2) hp2
    | rt d h2 => exact fun p' π2 v H2 s2 hp2 r2 => p' π2 v H2 (s.trans hp s2) hp2 r2
theorem PostS.on {r : RS} {π π' : Nat → Addr} {n : Nat} {h' : Hs} {H H' : Hp} {Dn : Ends} (s : Stp π n H π' h'.length H') (hp : HpR G π' h' H') (p : PostS G W π n H r Dn) : PostS G W π' h'.length H' r Dn := by
  cases r with
  | bad => exact p
  | nx ρ2 h2 => exact fun π2 σ2 H2 s2 hp2 => p π2 σ2 H2 (s.trans hp s2) hp2
  | bk ρ2 h2 => exact fun π2 σ2 H2 s2 hp2 => p π2 σ2 H2 (s.trans hp s2) hp2
  | ct ρ2 h2 => exact fun π2 σ2 H2 s2 hp2 => p π2 σ2 H2 (s.trans hp s2) hp2
  | ex c ρ2 h2 => exact fun π2 σ2 H2 s2 hp2 => p π2 σ2 H2 (s.trans hp s2) hp2
  | rt d h2 => exact fun π2 v H2 s2 hp2 r2 => p π2 v H2 (s.trans hp s2) hp2 r2
theorem s_asg {i : Nat} {y : Str} {py pos : Pos} {e : Expr} {m : Env → Hs → R D} (hN : X.N.Nodup) (hi : X.N[i]? = some y) (hx : L2.Loc X.env.scope y) (hf : X.fn y = true ∨ X.env.scope.names.lookup y = some .local) (he : PE X e (tE G W m)) (hs : swapsWith e (some (.Name y py)) pos.line X.env = pure false) :
    PS X (.Assign [.Name y py] e pos) (tS G W fun ρ h => (m ρ h).toS ρ fun d h => .nx (ρ.set i (some d)) h) :=
  PS.imp (L2.ps_set hN hi hx he hs hf) fun Dn σ H ⟨π, ρ, h, rl, p⟩ => ⟨π, ρ, h, rl, (PostS.bind rl p).mono fun v H1 ⟨π1, h1, d1, s1, hp1, r1, p1⟩ =>
    p1 π1 _ H1 Stp.refl ((rl.step s1 hp1).set r1)⟩
theorem s_asgT {tg : Expr} {is : List Nat} {pos : Pos} {e : Expr} {m : Env → Hs → R D} (he : PE X e (tE G W m)) (hg : PG X tg (gT G (.t is))) (hs : L2.PE X e (tE G W m) → swapsWithSole [tg] e pos.line X.env = pure false) (hw : swappedStores [tg] e X.env = pure none)
    (h1 : (assignEach [tg] X.env).map (·.2) = [assign tg X.env]) : PS X (.Assign [tg] e pos) (tS G W fun ρ h => (m ρ h).toS ρ fun d h => match setTg (.t is) ρ d with | some ρ' => .nx ρ' h | none => .bad) :=
  PS.imp (L2.ps_asg he hg (hs he) hw h1) fun Dn σ H ⟨π, ρ, h, rl, p⟩ => ⟨π, ρ, h, rl, (PostS.bind rl p).mono fun v H1 ⟨π1, h1, d1, s1, hp1, r1, p1⟩ => by
    split at p1
    · rename_i ρ' e
      exact ⟨π1, ρ, h1, d1, rl.step s1 hp1, r1, ρ', e, fun σ' rl' _ => p1 π1 σ' H1 Stp.refl rl'⟩
    · exact p1.elim⟩
theorem par_run {i j : Nat} {ma mb : Env → Hs → R D} {Dn : Ends} {σ : L2.St} {H : Hp} {π : Nat → Addr} {ρ : Env} {h : Hs} (rl : Rl G π ρ h σ H) (p : PostS G W π h.length H ((ma ρ h).toS ρ fun x h => (mb ρ h).toS ρ fun y h => .nx ((ρ.set i (some x)).set j (some y)) h) Dn) :
    (L2.tCons (tE G W ma) (L2.tCons (tE G W mb) L2.tNil)) σ H fun vs H1 => ∃ v w, vs = [v, w] ∧ ∃ π1 h1 d1 d2, HpR G π1 h1 H1 ∧ Stp π h.length H π1 h1.length H1 ∧ Rep G π1 h1.length H1 v d1 ∧ Rep G π1 h1.length H1 w d2 ∧ PostS G W π1 h1.length H1 (.nx ((ρ.set i (some d1)).set j (some d2)) h1) Dn :=
  ⟨π, ρ, h, rl, (PostS.bind rl p).mono fun v H1 ⟨π1, h1, d1, s1, hp1, r1, p1⟩ => ⟨π1, ρ, h1, rl.step s1 hp1, (PostS.bind (rl.step s1 hp1) p1).mono fun w' H2 ⟨π2, h2, d2, s2, hp2, r2, p2⟩ =>
    ⟨v, w', rfl, π2, h2, d1, d2, hp2, s1.trans hp1 s2, Rep.step s2 r1, r2, p2⟩⟩⟩
theorem s_par {i j : Nat} {x y : Str} {px py pt pt2 pos : Pos} {kt k2 : Nat} {a b : Expr} {ma mb : Env → Hs → R D} (hc : X.calm = true) (hN : X.N.Nodup) (hi : X.N[i]? = some x) (hj : X.N[j]? = some y) (hij : i ≠ j) (hx : X.env.scope.names.lookup x = some .local) (hy : X.env.scope.names.lookup y = some .local)
    (ha : PE X a (tE G W ma)) (hb : PE X b (tE G W mb)) (h1 : starEach [a, b] X.env = (false, eval a X.env) :: starEach [b] X.env) (h2 : starEach [b] X.env = (false, eval b X.env) :: starEach [] X.env) (hw : swappedStores [.Tuple [.Name x px, .Name y py] kt pt] (.Tuple [a, b] k2 pt2) X.env = pure (some [x, y])) :
    PS X (.Assign [.Tuple [.Name x px, .Name y py] kt pt] (.Tuple [a, b] k2 pt2) pos) (tS G W fun ρ h => (ma ρ h).toS ρ fun x h => (mb ρ h).toS ρ fun y h => .nx ((ρ.set i (some x)).set j (some y)) h) :=
  PS.imp (L2.ps_par hc hN hi hj hij hx hy (L2.pa_cons ha (L2.pa_cons hb L2.pa_nil h2) h1) hw) fun Dn σ H ⟨π, ρ, h, rl, p⟩ => by
    obtain ⟨π', ρ', h', rl', q⟩ := par_run rl p
    refine ⟨π', ρ', h', rl', q.mono fun v H1 q1 => ?_⟩
    obtain ⟨π2, ρ2, h2, rl2, q2⟩ := q1
    exact ⟨π2, ρ2, h2, rl2, q2.mono fun w' H2 ⟨v1, w1, e, π3, h3, d1, d2, hp3, s3, r1, r2, p3⟩ => ⟨v1, w1, e, p3 π3 _ H2 Stp.refl (((rl.step s3 hp3).set r1).set r2)⟩⟩
theorem s_parL {i j : Nat} {x y : Str} {px py pt pt2 pos : Pos} {kt k2 : Nat} {a b : Expr} {ma mb : Env → Hs → R D} (hc : X.calm = true) (hN : X.N.Nodup) (hn : Nms X [.Name x px, .Name y py] [i, j])
    (ha : PE X a (tE G W ma)) (hb : PE X b (tE G W mb)) (h1 : starEach [a, b] X.env = (false, eval a X.env) :: starEach [b] X.env) (h2 : starEach [b] X.env = (false, eval b X.env) :: starEach [] X.env) (hw : swappedStores [.Tuple [.Name x px, .Name y py] kt pt] (.Tuple [a, b] k2 pt2) X.env = pure none) :
    PS X (.Assign [.Tuple [.Name x px, .Name y py] kt pt] (.Tuple [a, b] k2 pt2) pos) (tS G W fun ρ h => (ma ρ h).toS ρ fun x h => (mb ρ h).toS ρ fun y h => .nx ((ρ.set i (some x)).set j (some y)) h) :=
  PS.imp (L2.ps_asg (L2.pe_tup (L2.pa_cons ha (L2.pa_cons hb L2.pa_nil h2) h1)) (L2.pg_tup (n := 2) hc (hn.pgs hN) hn.len.1 hn.len.2) rfl hw rfl) fun Dn σ H ⟨π, ρ, h, rl, p⟩ => by
    obtain ⟨π', ρ', h', rl', q⟩ := par_run rl p
    refine ⟨π', ρ', h', rl', q.mono fun v H1 q1 => ?_⟩
    obtain ⟨π2, ρ2, h2, rl2, q2⟩ := q1
    refine ⟨π2, ρ2, h2, rl2, q2.mono fun w' H2 ⟨v1, w1, e, π3, h3, d1, d2, hp3, s3, r1, r2, p3⟩ => ?_⟩
    cases e
    refine ⟨(by show 2 ≤ sizeLine; decide), fun tp hn2 => ⟨tp, [v, w'], rfl, .inl (.inl upd_same), rfl, v, [w'], rfl, w', [], rfl, rfl, ?_⟩⟩
    have s4 : Stp π3 h3.length H2 π3 h3.length (upd H2 tp (.tup [v, w'])) := Stp.lay hp3 hn2
    have hp4 : HpR G π3 h3 (upd H2 tp (.tup [v, w'])) := hp3.lay hn2
    exact p3 π3 _ _ s4 ((((rl.step s3 hp3).step s4 hp4).set (Rep.step s4 r1)).set (Rep.step s4 r2))
theorem s_setI {o i e : Expr} {sp pos : Pos} {me mo mi : Env → Hs → R D} (hu : X.A.units + 1 < cLine) (he : PE X e (tE G W me)) (ho : PE X o (tE G W mo)) (hi : PE X i (tE G W mi)) (hsl : noSlice i = true) (hs : swapsWithSole [.Subscript o i sp] e pos.line X.env = pure false) :
    PS X (.Assign [.Subscript o i sp] e pos) (tS G W fun ρ h => (me ρ h).toS ρ fun v h => (mo ρ h).toS ρ fun x h => (mi ρ h).toS ρ fun y h => match setIx h x y v with | some h' => .nx ρ h' | none => .bad) :=
  PS.imp (L2.ps_asg he (L2.pg_sub ho hi (ok_set (G := G) hu) (sub_asg hsl)) hs (sub_sw e X.env) rfl) fun Dn σ H ⟨π, ρ, h, rl, p⟩ => ⟨π, ρ, h, rl, (PostS.bind rl p).mono fun v H1 ⟨π1, h1, d1, s1, hp1, r1, p1⟩ => by
    have rl1 := rl.step s1 hp1
    exact ⟨π1, ρ, h1, rl1, (PostS.bind rl1 p1).mono fun x H2 ⟨π2, h2, d2, s2, hp2, r2, p2⟩ => by
      have rl2 := rl1.step s2 hp2
      exact ⟨π2, ρ, h2, rl2, (PostS.bind rl2 p2).mono fun y H3 ⟨π3, h3, d3, s3, hp3, r3, p3⟩ => by
        split at p3
        · rename_i h' e
          exact ⟨π3, h3, d2, d3, d1, h', hp3, Rep.step s3 r2, r3, Rep.step s3 (Rep.step s2 r1), e, fun π' H' s' hp' => p3 π' σ H' s' ((rl2.step s3 hp3).step s' hp')⟩
        · exact p3.elim⟩⟩⟩
theorem s_ex {e : Expr} {pos : Pos} {m : Env → Hs → R D} (he : PE X e (tE G W m)) (hs : swapsWith e none pos.line X.env = pure false) : PS X (.Expr e pos) (tS G W fun ρ h => (m ρ h).toS ρ fun _ h => .nx ρ h) :=
  PS.imp (L2.ps_expr he hs) fun Dn σ H ⟨π, ρ, h, rl, p⟩ => ⟨π, ρ, h, rl, (PostS.bind rl p).mono fun v H1 ⟨π1, h1, d1, s1, hp1, r1, p1⟩ => p1 π1 _ H1 Stp.refl (rl.step s1 hp1)⟩
theorem s_ret {e : Expr} {pos : Pos} {m : Env → Hs → R D} (he : PE X e (tE G W m)) : PS X (.Return (some e) pos) (tS G W fun ρ h => (m ρ h).toS ρ fun d h => .rt d h) :=
  PS.imp (L2.ps_ret he) fun Dn σ H ⟨π, ρ, h, rl, p⟩ => ⟨π, ρ, h, rl, (PostS.bind rl p).mono fun v H1 ⟨π1, h1, d1, s1, hp1, r1, p1⟩ => p1 π1 _ H1 Stp.refl hp1 r1⟩
theorem s_retN {pos : Pos} : PS X (.Return none pos) (tS G W fun _ h => .rt .non h) :=
  PS.imp L2.ps_retN fun Dn σ H ⟨π, ρ, h, rl, p⟩ => p π _ H Stp.refl rl.hp .non
theorem s_pass {pos : Pos} : PS X (.Pass pos) (tS G W fun ρ h => .nx ρ h) := PS.imp L2.ps_pass fun Dn σ H ⟨π, ρ, h, rl, p⟩ => p π _ H Stp.refl rl
theorem s_brk {pos : Pos} : PS X (.Break pos) (tS G W fun ρ h => .bk ρ h) := PS.imp L2.ps_break fun Dn σ H ⟨π, ρ, h, rl, p⟩ => p π _ H Stp.refl rl
theorem s_ite {c : Expr} {a b : List Stmt} {pos : Pos} {mt : Env → Hs → R Bool} {ma mb : Env → Hs → RS} (hc : PT X c (tT G W mt)) (ha : PSs X a (tS G W ma)) (hb : PSs X b (tS G W mb)) :
    PS X (.If c a b pos) (tS G W fun ρ h => (mt ρ h).toS ρ fun k h => if k = true then ma ρ h else mb ρ h) :=
  PS.imp (L2.ps_if hc ha hb) fun Dn σ H ⟨π, ρ, h, rl, p⟩ => ⟨π, ρ, h, rl, (PostS.bind rl p).mono fun v H1 ⟨π1, h1, d1, s1, hp1, r1, p1⟩ => by
    cases r1
    cases v with
    | true => exact ⟨π1, ρ, h1, rl.step s1 hp1, p1⟩
    | false => exact ⟨π1, ρ, h1, rl.step s1 hp1, p1⟩⟩
theorem ss_nil : PSs X [] (tS G W fun ρ h => .nx ρ h) := PSs.imp L2.pss_nil fun Dn σ H ⟨π, ρ, h, rl, p⟩ => p π _ H Stp.refl rl
theorem ss_cons {st : Stmt} {rest : List Stmt} {ma mb : Env → Hs → RS} (ha : PS X st (tS G W ma)) (hb : PSs X rest (tS G W mb)) : PSs X (st :: rest) (tS G W fun ρ h => (ma ρ h).andThen mb) :=
  PSs.imp (L2.pss_cons ha hb) fun Dn σ H ⟨π, ρ, h, rl, p⟩ => ⟨π, ρ, h, rl, by
    dsimp only at p
    cases e : ma ρ h with
    | bad => rw [e] at p; exact p
    | nx ρ2 h2 =>
      rw [e, RS.andThen_nx] at p
      exact fun π' σ' H' s' rl' => ⟨π', ρ2, h2, rl', PostS.on s' rl'.hp p⟩
    | bk ρ2 h2 => rw [e] at p; exact p
    | ct ρ2 h2 => rw [e] at p; exact p
    | ex c ρ2 h2 => rw [e] at p; exact p
    | rt d h2 => rw [e] at p; exact p⟩
/-! ### loops -/
theorem s_for {tgE iter : Expr} {tg : Tg} {body : List Stmt} {pos : Pos} {mi : Env → Hs → R (List D)} {mb : Env → Hs → RS} (hpo : PassesOwn (model X.prog X.w) X.A X.env X.xe) (hc : X.calm = true) (hi : PI X tgE iter (tI G W mi)) (hg : PG X tgE (gT G tg)) (hb : PSs X body (tS G W mb)) (hs : ∀ x, foldedSetIterable iter X.env x = pure x) :
    PS X (.For tgE iter body [] pos) (tS G W fun ρ h => (mi ρ h).toS ρ fun ds h => loopS (fun d ρ h => match setTg tg ρ d with | some ρ' => mb ρ' h | none => .bad) ds ρ h) :=
  PS.imp (L2.ps_for hpo hc hi hg hb (hs := hs)) fun Dn σ H ⟨π, ρ, h, rl, p⟩ => by
    refine ⟨π, ρ, h, rl, ?_⟩
    dsimp only at p
    cases em : mi ρ h with
    | bad => rw [em] at p; exact p.elim
    | ex c h' =>
      rw [em] at p
      exact fun π' H' s' hp' => p π' σ H' s' (rl.step s' hp')
    | ok ds h1 =>
      rw [em, R.toS_ok] at p
      intro π1 H1 J P s1 hp1 wk hP
      generalize hF : (fun d ρ h => match setTg tg ρ d with | some ρ' => mb ρ' h | none => RS.bad) = F at p
      refine ⟨fun i m σc Hc => ∃ πc ρc hc, m = ds.length - i ∧ Rl G πc ρc hc σc Hc ∧ P πc (List.length hc) Hc ∧ PostS G W πc hc.length Hc (loopS F (ds.drop i) ρc hc) Dn,
        ⟨ds.length, π1, ρ, h1, by simp, rl.step s1 hp1, hP, PostS.on s1 hp1 p⟩, ?_⟩
      rintro i m σc Hc ⟨πc, ρc, hc, rfl, rlc, hPc, pc⟩
      by_cases hi : i < ds.length
      · refine .inr ⟨wk.go hPc hi, fun σ' H' => ∃ πc ρc hc, Rl G πc ρc hc σ' H' ∧ P πc (List.length hc) H' ∧ PostS G W πc hc.length H' (loopS F (ds.drop (i + 1)) ρc hc) Dn, ?_, ?_⟩
        · rintro σ' H' ⟨π2, ρ2, h2, a1, a2, a3⟩
          exact ⟨ds.length - (i + 1), by omega, π2, ρ2, h2, rfl, a1, a2, a3⟩
        · intro x H' hy
          have ed : ds.drop i = ds[i] :: ds.drop (i + 1) := List.drop_eq_getElem_cons hi
          rw [ed] at pc
          obtain ⟨s2, hp2, rd⟩ := wk.yld rlc.hp hPc (List.getElem?_eq_getElem hi) hy
          have pc := PostS.on s2 hp2 pc
          have hP2 := wk.step s2 hPc
          rw [loopS, ← hF] at pc
          dsimp only at pc
          cases et : setTg tg ρc ds[i] with
          | none => rw [et] at pc; exact pc.elim
          | some ρ' =>
            rw [et] at pc
            refine ⟨πc, ρc, hc, ds[i], rlc.step s2 hp2, rd, ρ', et, fun σ2 rl2 _ => ⟨πc, ρ', hc, rl2, ?_⟩⟩
            dsimp only at pc
            cases eb : mb ρ' hc with
            | bad => rw [eb] at pc; exact pc
            | nx ρ3 h3 =>
              rw [eb] at pc
              intro π3 σ3 H3 s3 rl3
              have q := PostS.on s3 rl3.hp pc
              rw [hF] at q
              exact ⟨π3, ρ3, h3, rl3, wk.step s3 hP2, q⟩
            | ct ρ3 h3 =>
              rw [eb] at pc
              intro π3 σ3 H3 s3 rl3
              have q := PostS.on s3 rl3.hp pc
              rw [hF] at q
              exact ⟨π3, ρ3, h3, rl3, wk.step s3 hP2, q⟩
            | bk ρ3 h3 =>
              rw [eb] at pc
              exact fun π3 σ3 H3 s3 rl3 => pc π3 σ3 H3 s3 rl3
            | ex c ρ3 h3 => rw [eb] at pc; exact pc
            | rt d h3 => rw [eb] at pc; exact pc
      · refine .inl ⟨wk.stop hPc (Nat.le_of_not_lt hi), ?_⟩
        rw [List.drop_eq_nil_of_le (Nat.le_of_not_lt hi)] at pc
        exact pc πc σc Hc Stp.refl rlc
theorem s_whl {c : Expr} {body : List Stmt} {pos : Pos} {n : Nat} {mt : Env → Hs → R Bool} {mb : Env → Hs → RS} (hpo : PassesOwn (model X.prog X.w) X.A X.env X.xe) (hc : PT X c (tT G W mt)) (hb : PSs X body (tS G W mb)) :
    PS X (.While c body [] pos) (tS G W fun ρ h => loopW mt mb n ρ h) :=
  PS.imp (L2.ps_while hpo hc hb) fun Dn σ H ⟨π, ρ, h, rl, p⟩ => by
    refine ⟨fun m σc Hc => ∃ πc ρc hc, Rl G πc ρc hc σc Hc ∧ PostS G W πc hc.length Hc (loopW mt mb m ρc hc) Dn, ⟨n, π, ρ, h, rl, p⟩, ?_⟩
    rintro m σc Hc ⟨πc, ρc, hc, rlc, pc⟩
    cases m with
    | zero => exact pc.elim
    | succ m =>
      refine ⟨πc, ρc, hc, rlc, (PostS.bind rlc pc).mono fun b H1 ⟨π1, h1, k, s1, hp1, r1, p1⟩ => ?_⟩
      cases r1
      have rl1 := rlc.step s1 hp1
      cases b with
      | false => 
        rw [if_neg (by decide)] at p1 ⊢
        exact p1 π1 σc H1 Stp.refl rl1
      | true =>
        rw [if_pos rfl] at p1 ⊢
        refine ⟨fun σ' H' => ∃ πc ρc hc, Rl G πc ρc hc σ' H' ∧ PostS G W πc hc.length H' (loopW mt mb m ρc hc) Dn, fun σ' H' q => ⟨m, Nat.lt_succ_self _, q⟩, π1, ρc, h1, rl1, ?_⟩
        cases eb : mb ρc h1 with
        | bad => rw [eb] at p1; exact p1
        | nx ρ3 h3 => rw [eb] at p1; exact fun π3 σ3 H3 s3 rl3 => ⟨π3, ρ3, h3, rl3, PostS.on s3 rl3.hp p1⟩
        | ct ρ3 h3 => rw [eb] at p1; exact fun π3 σ3 H3 s3 rl3 => ⟨π3, ρ3, h3, rl3, PostS.on s3 rl3.hp p1⟩
        | bk ρ3 h3 => rw [eb] at p1; exact fun π3 σ3 H3 s3 rl3 => p1 π3 σ3 H3 s3 rl3
        | ex c ρ3 h3 => rw [eb] at p1; exact p1
        | rt d h3 => rw [eb] at p1; exact p1

/-- name = [..] on one line -/
theorem ps_fz {st : Stmt} {t : TS} (h : PS X st t) : PS X st (fun Dn σ H => t { Dn with nx := fun σ' H' => ∃ p o, H' p = some o ∧ Mut (some o) ∧ ∀ od, Dn.nx σ' (upd H' p (.frz od o)) } σ H) :=
  ⟨fun pins s σ H Dn I q => thn (h.run pins s σ H _ I q) fun f s' hs => by
    cases f with
    | next =>
      obtain ⟨σ', H', I', p, o, e, mu, q'⟩ := hs
      obtain ⟨od, I2⟩ := I'.lock e mu
      exact ⟨σ', _, I2, q' od⟩
    | brk => exact hs
    | cont => exact hs
    | ret u => exact hs⟩
theorem s_setLc {i : Nat} {y : Str} {py spos : Pos} {tg : Tg} {elt tgE iter : Expr} {ifs : List Expr} {scope : Scope} {own : List (Str × Nat)} {pos : Pos} {mi : Env → Hs → R (List D)} {mt : Env → Hs → R Bool} {me : Env → Hs → R D} (hc : X.calm = true) (hN : X.N.Nodup) (hy : X.N[i]? = some y) (hyl : X.env.scope.names.lookup y = some .local)
    (hsw : swapsWith (.ListComp elt [⟨tgE, iter, ifs, 0⟩] scope pos) (some (.Name y py)) spos.line X.env = pure true) (hi : PI X tgE iter (tI G W mi)) (ok : L2.BlkOk X.N X.env.scope scope own) (ho : own.map (·.2) = tg.slots)
    (hg : ∀ (s : Shared) (H : Hp) (C : Addr) (cl : List (Str × Addr)) (fp : List Addr), PG (X.blk s H scope (compEnvC scope cl C X.env) fp) tgE (gT G tg)) (ht : ∀ (s : Shared) (H : Hp) (C : Addr) (cl : List (Str × Addr)) (fp : List Addr), L2.PTs (X.blk s H scope (compEnvC scope cl C X.env) fp) ifs (tT G Wf mt))
    (he : ∀ (s : Shared) (H : Hp) (C : Addr) (cl : List (Str × Addr)) (fp : List Addr), PE (X.blk s H scope (compEnvC scope cl C X.env) fp) elt (tE G Wf me)) (hs : ∀ x, foldedSetIterable iter X.env x = pure x) :
    PS X (.Assign [.Name y py] (.ListComp elt [⟨tgE, iter, ifs, 0⟩] scope pos) spos) (tS G W fun ρ h => ((mi ρ h).bind fun ds h => (noEx (loopC (lcF tg ρ mt me) ds [] h)).bind fun vs h => .ok (.fl vs) h).toS ρ fun d h => .nx (ρ.set i (some d)) h) :=
  PS.imp (ps_fz (L2.ps_setLc hc hN hy hyl hsw hi ok hg ht he hs)) fun Dn σ H ⟨π, ρ, h, rl, p⟩ => by
    have key := lc_run (Q := fun v H1 => Dn.nx (σ.set i (some v)) H1) rl ((PostS.bind (rel := RelD G) rl p).mono fun v H1 ⟨π1, h1, d1, s1, hp1, r1, p1⟩ => p1 π1 _ H1 Stp.refl ((rl.step s1 hp1).set r1))
    rw [← ho] at key
    exact tLc_mono key (fun v H1 ⟨p, o, ev, e, mu, q⟩ => ⟨p, o, e, mu, q⟩) fun R R' hR ⟨π, ρ, h, rl, q⟩ => ⟨π, ρ, h, rl, by
      revert q
      cases mi ρ h with
      | bad => exact fun q => q
      | ex c h' => exact fun q => q
      | ok ds h' => exact fun q π' H' J P a b c d => hR _ _ (q π' H' J P a b c d)⟩
end
end Y

set_option Elab.async false
set_option linter.all false
set_option maxRecDepth 100000
set_option maxHeartbeats 4000000
/-! Is the text what the language says? -/
namespace Y
open PySem PySem.Spec PyProof.Rows

structure Ck where
  N : List Str
  fns : List (Str × Nat)
  gls : List (Str × Nat)
  bls : List Str

/-! ### the text's forms -/
def vConst : Expr → Option Const
  | .Constant c _ _ => some c
  | _ => none
theorem vConst_is {x : Expr} {c : Const} (h : vConst x = some c) : ∃ k p, x = .Constant c k p := by
  cases x <;> first | cases h; exact ⟨_, _, rfl⟩ | cases h
def vName : Expr → Option Str
  | .Name n _ => some n
  | _ => none
theorem vName_is {x : Expr} {c : Str} (h : vName x = some c) : ∃ p, x = .Name c p := by
  cases x <;> first | cases h; exact ⟨_, rfl⟩ | cases h
def vTup : Expr → Option (List Expr)
  | .Tuple es _ _ => some es
  | _ => none
theorem vTup_is {x : Expr} {c : List Expr} (h : vTup x = some c) : ∃ k p, x = .Tuple c k p := by
  cases x <;> first | cases h; exact ⟨_, _, rfl⟩ | cases h
def vLst : Expr → Option (List Expr)
  | .List es _ => some es
  | _ => none
theorem vLst_is {x : Expr} {c : List Expr} (h : vLst x = some c) : ∃ p, x = .List c p := by
  cases x <;> first | cases h; exact ⟨_, rfl⟩ | cases h
def vBin : Expr → Option (Expr × Operator × Expr)
  | .BinOp a o b _ => some (a, o, b)
  | _ => none
theorem vBin_is {x : Expr} {c : Expr × Operator × Expr} (h : vBin x = some c) : ∃ p, x = .BinOp c.1 c.2.1 c.2.2 p := by
  cases x <;> first | cases h; exact ⟨_, rfl⟩ | cases h
def vUn : Expr → Option (UnaryOp × Expr)
  | .UnaryOp o a _ => some (o, a)
  | _ => none
theorem vUn_is {x : Expr} {c : UnaryOp × Expr} (h : vUn x = some c) : ∃ p, x = .UnaryOp c.1 c.2 p := by
  cases x <;> first | cases h; exact ⟨_, rfl⟩ | cases h
def vBool : Expr → Option (BoolOp × List Expr)
  | .BoolOp o a _ => some (o, a)
  | _ => none
theorem vBool_is {x : Expr} {c : BoolOp × List Expr} (h : vBool x = some c) : ∃ p, x = .BoolOp c.1 c.2 p := by
  cases x <;> first | cases h; exact ⟨_, rfl⟩ | cases h
def vCmp1 : Expr → Option (Expr × CmpOp × Expr)
  | .Compare a [o] [b] _ => some (a, o, b)
  | _ => none
theorem vCmp1_is {x : Expr} {c : Expr × CmpOp × Expr} (h : vCmp1 x = some c) : ∃ p, x = .Compare c.1 [c.2.1] [c.2.2] p := by
  unfold vCmp1 at h
  split at h
  · cases h; exact ⟨_, rfl⟩
  · cases h
def vCmp2 : Expr → Option (Expr × CmpOp × CmpOp × Expr × Expr)
  | .Compare a [o, o'] [b, c] _ => some (a, o, o', b, c)
  | _ => none
theorem vCmp2_is {x : Expr} {c : Expr × CmpOp × CmpOp × Expr × Expr} (h : vCmp2 x = some c) : ∃ p, x = .Compare c.1 [c.2.1, c.2.2.1] [c.2.2.2.1, c.2.2.2.2] p := by
  unfold vCmp2 at h
  split at h
  · cases h; exact ⟨_, rfl⟩
  · cases h
def vIf : Expr → Option (Expr × Expr × Expr)
  | .IfExp c a b _ => some (c, a, b)
  | _ => none
theorem vIf_is {x : Expr} {c : Expr × Expr × Expr} (h : vIf x = some c) : ∃ p, x = .IfExp c.1 c.2.1 c.2.2 p := by
  cases x <;> first | cases h; exact ⟨_, rfl⟩ | cases h
def vSub : Expr → Option (Expr × Expr)
  | .Subscript a b _ => some (a, b)
  | _ => none
theorem vSub_is {x : Expr} {c : Expr × Expr} (h : vSub x = some c) : ∃ p, x = .Subscript c.1 c.2 p := by
  cases x <;> first | cases h; exact ⟨_, rfl⟩ | cases h
def vSl : Expr → Option (Expr × Option Expr × Option Expr)
  | .Subscript a (.Slice lo hi none _) _ => some (a, lo, hi)
  | _ => none
theorem vSl_is {x : Expr} {c : Expr × Option Expr × Option Expr} (h : vSl x = some c) : ∃ p2 p, x = .Subscript c.1 (.Slice c.2.1 c.2.2 none p2) p := by
  unfold vSl at h
  split at h
  · cases h; exact ⟨_, _, rfl⟩
  · cases h
def vCall : Expr → Option (Str × List Expr)
  | .Call (.Name n _) as [] _ => some (n, as)
  | _ => none
theorem vCall_is {x : Expr} {c : Str × List Expr} (h : vCall x = some c) : ∃ p pos, x = .Call (.Name c.1 p) c.2 [] pos := by
  unfold vCall at h
  split at h
  · cases h; exact ⟨_, _, rfl⟩
  · cases h
def vMeth : Expr → Option (Expr × Str × List Expr × Bool)
  | .Call (.Attribute o m ap) as [] cp => some (o, m, as, ap.endLine == cp.line)
  | _ => none
theorem vMeth_is {x : Expr} {c : Expr × Str × List Expr × Bool} (h : vMeth x = some c) : ∃ ap cp, x = .Call (.Attribute c.1 c.2.1 ap) c.2.2.1 [] cp ∧ (ap.endLine == cp.line) = c.2.2.2 := by
  unfold vMeth at h
  split at h
  · cases h; exact ⟨_, _, rfl, rfl⟩
  · cases h
def vDict : Expr → Option (List (Option Expr) × List Expr)
  | .Dict ks vs _ => some (ks, vs)
  | _ => none
theorem vDict_is {x : Expr} {c : List (Option Expr) × List Expr} (h : vDict x = some c) : ∃ p, x = .Dict c.1 c.2 p := by
  cases x <;> first | cases h; exact ⟨_, rfl⟩ | cases h
def vLc : Expr → Option (Expr × Expr × Expr × List Expr × Scope)
  | .ListComp e [⟨t, i, fs, 0⟩] sc _ => some (e, t, i, fs, sc)
  | _ => none
theorem vLc_is {x : Expr} {c : Expr × Expr × Expr × List Expr × Scope} (h : vLc x = some c) : ∃ p, x = .ListComp c.1 [⟨c.2.1, c.2.2.1, c.2.2.2.1, 0⟩] c.2.2.2.2 p := by
  unfold vLc at h
  split at h
  · cases h; exact ⟨_, rfl⟩
  · cases h

/-! ### names -/
def visB (sc : Scope) (x : Str) : Bool := match sc.names.lookup x with
  | some .local => true
  | some .cell => true
  | some .free => true
  | _ => false
theorem visB_is {sc : Scope} {x : Str} (h : visB sc x = true) : L2.Vis sc x := by
  unfold visB at h
  split at h
  · exact .inl (by assumption)
  · exact .inr (.inl (by assumption))
  · exact .inr (.inr (by assumption))
  · cases h
def locB (sc : Scope) (x : Str) : Bool := match sc.names.lookup x with
  | some .local => true
  | some .cell => true
  | _ => false
theorem locB_is {sc : Scope} {x : Str} (h : locB sc x = true) : L2.Loc sc x := by
  unfold locB at h
  split at h
  · exact .inl (by assumption)
  · exact .inr (by assumption)
  · cases h
def glB (sc : Scope) (x : Str) : Bool := sc.names.lookup x == some .globalImplicit
def dbgB (x : Str) : Bool := x == ("__debug__" : Str) || x == ("__classdict__" : Str) || x == ("__name__" : Str)
theorem dbgB_is {x : Str} (h : dbgB x = false) : (x == ("__debug__" : Str)) = false ∧ (x == ("__classdict__" : Str)) = false ∧ x ≠ "__name__" := by
  unfold dbgB at h
  rw [Bool.or_eq_false_iff, Bool.or_eq_false_iff] at h
  exact ⟨h.1.1, h.1.2, fun e => by rw [e] at h; exact absurd h.2 (by decide +kernel)⟩
/-- a name of a built-in thing -/
def bnB (C : Ck) (sc : Scope) (x : Str) (nm : String) : Bool := decide (x = Str.ofString nm) && C.bls.contains x && glB sc x && !dbgB x

def bopB : Bop → Operator → Bool
  | .add, .Add => true
  | .sub, .Sub => true
  | .mul, .Mult => true
  | .div, .FloorDiv => true
  | .mod, .Mod => true
  | .pow, .Pow => true
  | _, _ => false
def copB : Cop → CmpOp → Bool
  | .eq, .Eq => true
  | .ne, .NotEq => true
  | .lt, .Lt => true
  | .le, .LtE => true
  | .gt, .Gt => true
  | .ge, .GtE => true
  | .isin, .In => true
  | .notin, .NotIn => true
  | .is, .Is => true
  | .isnot, .IsNot => true
  | _, _ => false
/-- name, what it stands for -/
def bltN : Blt → Option (String × Sum String String)
  | .len => some ("len", .inl "len")
  | .abs => some ("abs", .inl "abs")
  | .max2 => some ("max", .inl "max")
  | .min2 => some ("min", .inl "min")
  | .int => some ("int", .inr "int")
  | .str => some ("str", .inr "str")
  | .sum => some ("sum", .inl "sum")
  | .sorted => some ("sorted", .inl "sorted")
  | .all => some ("all", .inl "all")
  | .any => some ("any", .inl "any")
  | .tuple => some ("tuple", .inr "tuple")
  | .list => some ("list", .inr "list")
  | .max => some ("max", .inl "max")
  | _ => none
def nmsB (C : Ck) (P : Str → Bool) : List Nat → List Expr → Bool
  | [], [] => true
  | i :: is, e :: es => (match vName e with
    | some n => C.N[i]? == some n && P n
    | none => false) && nmsB C P is es
  | _, _ => false
def tgB (C : Ck) (P : Str → Bool) (t : Tg) (x : Expr) : Bool := match t with
  | .n i => match vName x with
    | some n => C.N[i]? == some n && P n
    | none => false
  | .t is => match vTup x with
    | some es => nmsB C P is es
    | none => false
def ownOf (C : Ck) (is : List Nat) : List (Str × Nat) := is.map fun i => ((C.N[i]?).getD Str.empty, i)

def chkKs : List S → List (Option Expr) → Bool
  | [], [] => true
  | k :: ks, some p :: ps => (match vConst p with
    | some (.str z) => decide (z = toStr k)
    | _ => false) && chkKs ks ps
  | _, _ => false
def isTT : T → Bool
  | .tt => true
  | _ => false
/-! ### expressions -/
mutual
def chkE (C : Ck) : Scope → E → Expr → Bool
  | _, .int i, x => vConst x == some (.int i)
  | _, .str s, x => match vConst x with
    | some (.str z) => decide (z = toStr s)
    | _ => false
  | _, .bl b, x => vConst x == some (.bool b)
  | _, .non, x => vConst x == some .none
  | sc, .var i, x => match vName x with
    | some n => C.N[i]? == some n && visB sc n && !dbgB n
    | none => false
  | sc, .glo g, x => match vName x with
    | some n => C.gls.lookup n == some g && glB sc n && !dbgB n
    | none => false
  | sc, .tup es, x => match vTup x with
    | some xs => chkEs C sc es xs
    | none => false
  | sc, .lst es, x => match vLst x with
    | some xs => chkEs C sc es xs
    | none => false
  | sc, .lstM es, x => match vLst x with
    | some xs => chkEs C sc es xs
    | none => false
  | sc, .frz e, x => chkE C sc e x
  | sc, .bin o a b, x => match vBin x with
    | some (l, p, r) => bopB o p && chkE C sc a l && chkE C sc b r
    | none => false
  | sc, .catM a b, x => match vBin x with
    | some (l, p, r) => p == .Add && chkE C sc a l && chkE C sc b r
    | none => false
  | sc, .neg a, x => match vUn x with
    | some (p, l) => p == .USub && chkE C sc a l
    | none => false
  | sc, .cmp o a b, x => match vCmp1 x with
    | some (l, p, r) => copB o p && chkE C sc a l && chkE C sc b r && !behindInMarks p r
    | none => false
  | sc, .chn o o' a b c, x => match vCmp2 x with
    | some (l, p, p', r, s) => copB o p && copB o' p' && chkE C sc a l && chkE C sc b r && chkE C sc c s && !lastMarks [p, p'] [r, s]
    | none => false
  | sc, .not a, x => match vUn x with
    | some (p, l) => p == .Not && chkE C sc a l
    | none => false
  | sc, .and es, x => match vBool x with
    | some (p, xs) => p == .And && chkBs C sc es xs
    | none => false
  | sc, .or es, x => match vBool x with
    | some (p, xs) => p == .Or && chkBs C sc es xs
    | none => false
  | sc, .ite t a b, x => match vIf x with
    | some (c, l, r) => chkT C sc t c && chkE C sc a l && chkE C sc b r
    | none => false
  | sc, .idx a i, x => match vSub x with
    | some (l, r) => chkE C sc a l && chkE C sc i r && noSlice r
    | none => false
  | sc, .sl a lo hi, x => match vSl x with
    | some (l, p, q) => chkE C sc a l && chkO C sc lo p && chkO C sc hi q
    | none => false
  | sc, .call f es, x => match vCall x with
    | some (n, xs) => C.fns.lookup n == some f && glB sc n && !dbgB n && chkEs C sc es xs
    | none => false
  | sc, .blt b es, x => match vCall x with
    | some (n, xs) => (match bltN b with
      | some (nm, _) => bnB C sc n nm
      | none => false) && !xs.isEmpty && chkEs C sc es xs
    | none => false
  | sc, .isi t a, x => match vCall x with
    | some (n, [l, r]) => bnB C sc n "isinstance" && chkE C sc a l && noStar l && (match tyN t with
      | some nm => (match vName r with
        | some T => bnB C sc T nm
        | none => false)
      | none => decide (t = .intstr) && (match vTup r with
        | some [r1, r2] => (match vName r1, vName r2 with
          | some T1, some T2 => bnB C sc T1 "int" && bnB C sc T2 "str"
          | _, _ => false)
        | _ => false))
    | _ => false
  | sc, .mth m o es, x => match vMeth x with
    | some (l, n, xs, ln) => ln && abOk l && chkE C sc o l && (match m with
      | .get => decide (n = Str.ofString "get") && decide (xs.length = 2) && chkEs C sc es xs
      | .extend => decide (n = Str.ofString "extend") && decide (xs.length = 1) && chkEs C sc es xs
      | _ => false)
    | none => false
  | sc, .dI0, x => match vDict x with
    | some ([], []) => true
    | _ => false
  | sc, .dT0, x => match vDict x with
    | some ([], []) => true
    | _ => false
  | sc, .dI1 k v, x => match vDict x with
    | some ([some p], [q]) => chkE C sc k p && chkE C sc v q
    | _ => false
  | sc, .dT1 v, x => match vDict x with
    | some ([some p], [q]) => (match vTup p with
      | some [] => true
      | _ => false) && chkE C sc v q
    | _ => false
  | sc, .dS ks vs, x => match vDict x with
    | some (ps, qs) => !ps.isEmpty && decide (ps.length ≤ 15) && decide (ks.Nodup) && chkKs ks ps && chkEs C sc vs qs && decide (ps.length = qs.length)
    | none => false
  | sc, .lc elt tg it t, x => match vLc x with
    | some (e, g, i, fs, s) => L2.blkC C.N sc s (ownOf C tg.slots) && (tg.slots.all fun i => (C.N[i]?).isSome) && noSet i && chkI C sc it g i && tgB C (locB s) tg g && (match fs with
      | [] => isTT t
      | [f] => chkT C (L2.relS s sc) t f
      | _ => false) && chkE C (L2.relS s sc) elt e
    | none => false
  | _, .own _ _ _ _ _, _ => false
  | _, .mk _ _, _ => false
  | _, .fld _ _ _, _ => false
  | _, .rev _, _ => false
def chkEs (C : Ck) : Scope → Es → List Expr → Bool
  | _, .nil, [] => true
  | sc, .cons e es, x :: xs => chkE C sc e x && noStar x && chkEs C sc es xs
  | _, _, _ => false
/-- and, or -/
def chkBs (C : Ck) : Scope → Es → List Expr → Bool
  | sc, .cons e .nil, [x] => chkE C sc e x
  | sc, .cons e (.cons e' es), x :: y :: xs => chkE C sc e x && chkBs C sc (.cons e' es) (y :: xs)
  | _, _, _ => false
def chkO (C : Ck) : Scope → Oe → Option Expr → Bool
  | _, .no, none => true
  | sc, .yes e, some x => chkE C sc e x
  | _, _, _ => false
def chkT (C : Ck) : Scope → T → Expr → Bool
  | _, .tt, _ => false
  | sc, .cmp o a b, x => match vCmp1 x with
    | some (l, p, r) => copB o p && chkE C sc a l && chkE C sc b r && !behindInMarks p r
    | none => false
  | sc, .chn o o' a b c, x => match vCmp2 x with
    | some (l, p, p', r, s) => copB o p && copB o' p' && chkE C sc a l && chkE C sc b r && chkE C sc c s && !lastMarks [p, p'] [r, s]
    | none => false
  | sc, .not t, x => match vUn x with
    | some (p, l) => p == .Not && chkT C sc t l
    | none => false
  | sc, .and ts, x => match vBool x with
    | some (p, xs) => p == .And && chkTs C sc ts xs
    | none => false
  | sc, .or ts, x => match vBool x with
    | some (p, xs) => p == .Or && chkTs C sc ts xs
    | none => false
  | sc, .tru e, x => plainT x && chkE C sc e x
def chkTs (C : Ck) : Scope → Ts → List Expr → Bool
  | sc, .cons t .nil, [x] => chkT C sc t x
  | sc, .cons t (.cons t' ts), x :: y :: xs => chkT C sc t x && chkTs C sc (.cons t' ts) (y :: xs)
  | _, _, _ => false
def chkI (C : Ck) : Scope → It → Expr → Expr → Bool
  | sc, .seq e, _, x => chkE C sc e x
  | sc, .rng1 e, _, x => match vCall x with
    | some (n, [a]) => bnB C sc n "range" && chkE C sc e a && noStar a
    | _ => false
  | sc, .rng2 e e', _, x => match vCall x with
    | some (n, [a, b]) => bnB C sc n "range" && chkE C sc e a && noStar a && chkE C sc e' b && noStar b
    | _ => false
  | sc, .enm e, g, x => (vTup g).isSome && match vCall x with
    | some (n, [a]) => bnB C sc n "enumerate" && chkE C sc e a && noStar a
    | _ => false
  | sc, .zip e e', g, x => (vTup g).isSome && match vCall x with
    | some (n, [a, b]) => bnB C sc n "zip" && chkE C sc e a && noStar a && chkE C sc e' b && noStar b
    | _ => false
end
end Y

set_option Elab.async false
set_option linter.all false
set_option maxRecDepth 100000
set_option maxHeartbeats 4000000
namespace Y
open PySem PySem.Spec PyProof.Rows
open L2 (V Hp HO upd upd_same upd_ne SqL SqT Rd VK TE TT TA TS TG TI XK WX Cx Inv PE PT PA PW PS PSs PG PI Key RelV Vals EP Mut ne_of ne_of_none OpR CallR IxR SlR MtR thn Takes Ends)

structure Ct (C : Ck) (G : Gm) (Cf : Cfg) (n : Nat) (K : PySem.W.Frag) (mg : Str → Option Value) (base : Heap) (prog : Program) (w : World) : Prop where
  hK : G.K = K
  hw : G.w = w
  bl : ∀ x, C.bls.contains x = true → mg x = none
  gl : ∀ x g, C.gls.lookup x = some g → ∃ v u, mg x = some u ∧ RelV v u ∧ ∀ π m H, Rep G π m H v (Cf.glo g)
  fn : ∀ x f, C.fns.lookup x = some f → ∃ a fd ps, mg x = some (.ref a) ∧ PySem.W.keepIn K (.ref a) = true ∧ L2.Binds K fd ps [] ∧ L2.FnOk prog w K mg base (L2.CX prog w) n a fd ps (spF G (Cf.call f))
structure Cc (C : Ck) (G : Gm) (Cf : Cfg) (n : Nat) (sc : Scope) (X : Cx) : Prop where
  ct : Ct C G Cf n X.K X.mg X.base X.prog X.w
  nN : X.N = C.N
  nd : C.N.Nodup
  hsc : X.env.scope = sc
  kf : sc.kind = .function
  un : X.A.units + 65 < cLine
  calm : X.calm = true
  room : L2.Room n X.A
section
variable {C : Ck} {G : Gm} {Cf : Cfg} {n : Nat} {sc : Scope} {X : Cx} {W : WX}
theorem Cc.blk (c : Cc C G Cf n sc X) {scope : Scope} (hk : scope.kind = .function) (s : Shared) (H : Hp) (D : Addr) (cl : List (Str × Addr)) (fp : List Addr) : Cc C G Cf n (L2.relS scope sc) (X.blk s H scope (compEnvC scope cl D X.env) fp) :=
  ⟨c.ct, c.nN, c.nd, by show L2.relS scope X.env.scope = _; rw [c.hsc], hk, c.un, c.calm, c.room⟩
theorem Cc.gl (c : Cc C G Cf n sc X) {x : Str} (h : glB sc x = true) : L2.Gl X x := by
  show X.env.scope.names.lookup x = _
  rw [c.hsc]
  exact eq_of_beq h
theorem Cc.bn (c : Cc C G Cf n sc X) {x : Str} {nm : String} (h : bnB C sc x nm = true) : x = Str.ofString nm ∧ L2.Gl X x ∧ X.mg x = none ∧ (x == ("__debug__" : Str)) = false ∧ x ≠ "__name__" := by
  unfold bnB at h
  simp only [Bool.and_eq_true, decide_eq_true_eq, Bool.not_eq_true'] at h
  obtain ⟨⟨⟨h1, h2⟩, h3⟩, h4⟩ := h
  exact ⟨h1, c.gl h3, c.ct.bl _ h2, (dbgB_is h4).1, (dbgB_is h4).2.2⟩
theorem op_of (c : Cc C G Cf n sc X) {o : Bop} {p : Operator} (h : bopB o p = true) : OpR X (binaryOp p) (rO G (bop o)) := by
  unfold bopB at h
  split at h
  · exact ok_add c.ct.hK
  · exact ok_sub
  · exact ok_mul
  · exact ok_div
  · exact ok_mod
  · exact ok_pow
  · cases h
theorem cp_of (c : Cc C G Cf n sc X) {o : Cop} {p : CmpOp} (h : copB o p = true) : OpR X (compareOp p) (rO G (cop o)) := by
  have u1 : X.A.units + 64 < cLine := by have := c.un; omega
  unfold copB at h
  split at h
  · exact ok_eq c.ct.hK u1
  · exact ok_ne c.ct.hK u1
  · exact ok_lt
  · exact ok_le
  · exact ok_gt
  · exact ok_ge
  · exact ok_in c.ct.hK c.ct.hw c.un
  · exact ok_notin c.ct.hK c.ct.hw c.un
  · exact ok_is
  · exact ok_isnot
  · cases h
theorem cb_of (c : Cc C G Cf n sc X) {b : Blt} {nm id : String} (h : bltN b = some (nm, .inl id)) : CallR X (.builtin id) (rC G (blt b)) ∧ bootBuiltins (Str.ofString nm) = some (.builtin id) := by
  cases b <;> cases h
  · exact ⟨cb_len c.ct.hK, by kernel_rfl⟩
  · exact ⟨cb_abs, by kernel_rfl⟩
  · exact ⟨cb_max2 c.calm, by kernel_rfl⟩
  · exact ⟨cb_min2 c.calm, by kernel_rfl⟩
  · exact ⟨cb_sum c.ct.hK c.calm, by kernel_rfl⟩
  · exact ⟨cb_sorted c.ct.hK c.calm, by kernel_rfl⟩
  · exact ⟨cb_all c.ct.hK c.calm, by kernel_rfl⟩
  · exact ⟨cb_any c.ct.hK c.calm, by kernel_rfl⟩
  · exact ⟨cb_max c.ct.hK c.calm, by kernel_rfl⟩
theorem ct_of (c : Cc C G Cf n sc X) {b : Blt} {nm id : String} (h : bltN b = some (nm, .inr id)) : CallR X (.type id) (rC G (blt b)) ∧ bootBuiltins (Str.ofString nm) = some (.type id) := by
  cases b <;> cases h
  · exact ⟨cb_int c.ct.hK, by kernel_rfl⟩
  · exact ⟨cb_str c.ct.hK, by kernel_rfl⟩
  · exact ⟨cb_tuple c.ct.hK, by kernel_rfl⟩
  · exact ⟨cb_list c.ct.hK c.calm, by kernel_rfl⟩
theorem nms_of (c : Cc C G Cf n sc X) {P : Str → Bool} (hf : ∀ x, P x = true → L2.Loc X.env.scope x ∧ (X.fn x = true ∨ X.env.scope.names.lookup x = some .local)) : ∀ {is : List Nat} {es : List Expr}, nmsB C P is es = true → Nms X es is
  | [], [], _ => .nil
  | [], _ :: _, h => by cases h
  | _ :: _, [], h => by cases h
  | i :: is, e :: es, h => by
    unfold nmsB at h
    rw [Bool.and_eq_true] at h
    obtain ⟨h1, h2⟩ := h
    cases hv : vName e with
    | none => rw [hv] at h1; cases h1
    | some n =>
      rw [hv] at h1
      simp only [Bool.and_eq_true] at h1
      obtain ⟨p, rfl⟩ := vName_is hv
      exact .cons (by rw [c.nN]; exact eq_of_beq h1.1) (hf _ h1.2).1 (hf _ h1.2).2 (nms_of c hf h2)
theorem pg_of (c : Cc C G Cf n sc X) {P : Str → Bool} (hf : ∀ x, P x = true → L2.Loc X.env.scope x ∧ (X.fn x = true ∨ X.env.scope.names.lookup x = some .local)) {tg : Tg} {x : Expr} (h : tgB C P tg x = true) : PG X x (gT G tg) := by
  have nd : X.N.Nodup := by rw [c.nN]; exact c.nd
  cases tg with
  | n i =>
    unfold tgB at h
    dsimp only at h
    cases hv : vName x with
    | none => rw [hv] at h; cases h
    | some nm =>
      rw [hv] at h
      simp only [Bool.and_eq_true] at h
      obtain ⟨p, rfl⟩ := vName_is hv
      exact g_n nd (by rw [c.nN]; exact eq_of_beq h.1) (hf _ h.2).1 (hf _ h.2).2
  | t is =>
    unfold tgB at h
    dsimp only at h
    cases hv : vTup x with
    | none => rw [hv] at h; cases h
    | some es =>
      rw [hv] at h
      obtain ⟨k, p, rfl⟩ := vTup_is hv
      exact g_t c.ct.hK c.calm nd (nms_of c hf h)
/-- a comprehension's own names -/
theorem blk_loc {scope : Scope} {x : Str} (h : locB scope x = true) : L2.Loc (L2.relS scope sc) x ∧ ((scope.names.lookup x == some .cell) = true ∨ (L2.relS scope sc).names.lookup x = some .local) := by
  unfold locB at h
  split at h
  · rename_i e
    have q := L2.lookup_relS_keep (sc := sc) (k := .local) (by decide) e
    exact ⟨.inl q, .inr q⟩
  · rename_i e
    have q := L2.lookup_relS_keep (sc := sc) (k := .cell) (by decide) e
    exact ⟨.inr q, .inl (by rw [e]; rfl)⟩
  · cases h
end
end Y

set_option Elab.async false
set_option linter.all false
set_option maxRecDepth 100000
set_option maxHeartbeats 4000000
namespace Y
open PySem PySem.Spec PyProof.Rows
open L2 (V Hp HO upd upd_same upd_ne SqL SqT Rd VK TE TT TA TS TG TI XK WX Cx Inv PE PT PA PW PS PSs PG PI Key RelV Vals EP Mut ne_of ne_of_none OpR CallR IxR SlR MtR thn Takes Ends)
theorem takesF {X : Cx} : Takes X Wf := fun _ _ x => by
  obtain ⟨_, _, _, _, _, _, _, _, _, _, _, _, _, _, _, _, w⟩ := x
  exact w.elim
theorem all_noStar {C : Ck} {sc : Scope} : ∀ {es : Es} {xs : List Expr}, chkEs C sc es xs = true → xs.all noStar = true
  | .nil, [], _ => rfl
  | .nil, _ :: _, h => by cases h
  | .cons e es, [], h => by cases h
  | .cons e es, x :: xs, h => by
    rw [chkEs, Bool.and_eq_true, Bool.and_eq_true] at h
    rw [List.all_cons, h.1.2, all_noStar h.2]
    rfl
/-- the readings of a list of expressions, one after another -/
def semL (Cf : Cfg) : Es → List (Env → Hs → R D)
  | .nil => []
  | .cons e es => e.sem Cf :: semL Cf es
theorem semL_is (Cf : Cfg) : ∀ (es : Es) (ρ : Env) (h : Hs), es.sem Cf ρ h = seqm (semL Cf es) ρ h
  | .nil, _, _ => rfl
  | .cons e es, ρ, h => by
    show (e.sem Cf ρ h).bind _ = (e.sem Cf ρ h).bind _
    congr 1
    funext d h
    rw [semL_is Cf es]
theorem semL_len (Cf : Cfg) {C : Ck} {sc : Scope} : ∀ {es : Es} {xs : List Expr}, chkEs C sc es xs = true → (semL Cf es).length = xs.length
  | .nil, [], _ => rfl
  | .nil, _ :: _, h => by cases h
  | .cons e es, [], h => by cases h
  | .cons e es, x :: xs, h => by
    rw [chkEs, Bool.and_eq_true, Bool.and_eq_true] at h
    show (semL Cf es).length + 1 = xs.length + 1
    rw [semL_len Cf h.2]
theorem chkKs_all : ∀ {ks : List S} {ps : List (Option Expr)}, chkKs ks ps = true → ps.all (·.isSome) = true ∧ ps.length = ks.length
  | [], [], _ => ⟨rfl, rfl⟩
  | [], _ :: _, h => by cases h
  | _ :: _, [], h => by cases h
  | k :: ks, none :: ps, h => by cases h
  | k :: ks, some p :: ps, h => by
    rw [chkKs, Bool.and_eq_true] at h
    obtain ⟨h1, h2⟩ := chkKs_all h.2
    exact ⟨by rw [List.all_cons, h1]; rfl, by rw [List.length_cons, List.length_cons, h2]⟩
section
variable {C : Ck} {G : Gm} {Cf : Cfg} {n : Nat}
theorem M2_of {X : Cx} {l a b : Expr} {ap cp : Pos} (hb : abOk l = true) (hl : (ap.endLine == cp.line) = true) (ha : noStar a = true) (hb2 : noStar b = true) : L2.M2 X l "get" ap a b cp where
  base := abOk_is hb _ _ _
  few := by
    rw [noStar_each ha, noStar_each hb2]
    rfl
  line := hl
  trees := by
    rw [noStar_each ha, noStar_each hb2]
    rfl
mutual
theorem sndE : ∀ (e : E) (sc : Scope) (x : Expr), chkE C sc e x = true → ∀ (X : Cx) (W : WX), Cc C G Cf n sc X → Takes X W → PE X x (tE G W (e.sem Cf))
  | .int i, sc, x, h, X, W, c, tk => by
    rw [chkE] at h
    obtain ⟨k, p, rfl⟩ := vConst_is (eq_of_beq h)
    exact pe_c L2.pe_int fun _ _ _ => .int i
  | .str s, sc, x, h, X, W, c, tk => by
    rw [chkE] at h
    split at h
    · rename_i z hz
      obtain ⟨k, p, rfl⟩ := vConst_is hz
      rw [of_decide_eq_true h]
      exact pe_c L2.pe_str fun _ _ _ => .str s
    · cases h
  | .bl b, sc, x, h, X, W, c, tk => by
    rw [chkE] at h
    obtain ⟨k, p, rfl⟩ := vConst_is (eq_of_beq h)
    exact pe_c L2.pe_bl fun _ _ _ => .bl b
  | .non, sc, x, h, X, W, c, tk => by
    rw [chkE] at h
    obtain ⟨k, p, rfl⟩ := vConst_is (eq_of_beq h)
    exact pe_c L2.pe_non fun _ _ _ => .non
  | .var i, sc, x, h, X, W, c, tk => by
    rw [chkE] at h
    split at h
    · rename_i nm hv
      obtain ⟨p, rfl⟩ := vName_is hv
      simp only [Bool.and_eq_true, Bool.not_eq_true'] at h
      obtain ⟨⟨h1, h2⟩, h3⟩ := h
      exact l_var (by rw [c.nN]; exact eq_of_beq h1) (by rw [c.hsc]; exact visB_is h2) (dbgB_is h3).1 (dbgB_is h3).2.1
    · cases h
  | .glo g, sc, x, h, X, W, c, tk => by
    rw [chkE] at h
    split at h
    · rename_i nm hv
      obtain ⟨p, rfl⟩ := vName_is hv
      simp only [Bool.and_eq_true, Bool.not_eq_true'] at h
      obtain ⟨⟨h1, h2⟩, h3⟩ := h
      obtain ⟨v, u, e1, e2, e3⟩ := c.ct.gl nm g (eq_of_beq h1)
      exact pe_c (L2.pe_glob (c.gl h2) e1 e2 (dbgB_is h3).1) e3
    · cases h
  | .tup es, sc, x, h, X, W, c, tk => by
    rw [chkE] at h
    split at h
    · rename_i xs hv
      obtain ⟨k, p, rfl⟩ := vTup_is hv
      exact l_tup (sndEs es sc xs h X W c tk)
    · cases h
  | .lst es, sc, x, h, X, W, c, tk => by
    rw [chkE] at h
    split at h
    · rename_i xs hv
      obtain ⟨p, rfl⟩ := vLst_is hv
      exact l_lst (sndEs es sc xs h X W c tk)
    · cases h
  | .lstM es, sc, x, h, X, W, c, tk => by
    rw [chkE] at h
    split at h
    · rename_i xs hv
      obtain ⟨p, rfl⟩ := vLst_is hv
      exact l_lstM (sndEs es sc xs h X W c tk)
    · cases h
  | .frz e, sc, x, h, X, W, c, tk => by
    rw [chkE] at h
    exact l_frz (sndE e sc x h X W c tk)
  | .bin o a b, sc, x, h, X, W, c, tk => by
    rw [chkE] at h
    split at h
    · rename_i l p r hv
      obtain ⟨ps, rfl⟩ := vBin_is hv
      simp only [Bool.and_eq_true] at h
      exact l_op (op_of c h.1.1) (sndE a sc l h.1.2 X W c tk) (sndE b sc r h.2 X W c tk)
    · cases h
  | .catM a b, sc, x, h, X, W, c, tk => by
    rw [chkE] at h
    split at h
    · rename_i l p r hv
      obtain ⟨ps, rfl⟩ := vBin_is hv
      simp only [Bool.and_eq_true] at h
      obtain rfl := eq_of_beq h.1.1
      exact l_catM (sndE a sc l h.1.2 X W c tk) (sndE b sc r h.2 X W c tk)
    · cases h
  | .neg a, sc, x, h, X, W, c, tk => by
    rw [chkE] at h
    split at h
    · rename_i p l hv
      obtain ⟨ps, rfl⟩ := vUn_is hv
      simp only [Bool.and_eq_true] at h
      obtain rfl := eq_of_beq h.1
      exact l_neg (sndE a sc l h.2 X W c tk)
    · cases h
  | .cmp o a b, sc, x, h, X, W, c, tk => by
    rw [chkE] at h
    split at h
    · rename_i l p r hv
      obtain ⟨ps, rfl⟩ := vCmp1_is hv
      simp only [Bool.and_eq_true, Bool.not_eq_true'] at h
      exact l_cmp (cp_of c h.1.1.1) (sndE a sc l h.1.1.2 X W c tk) (sndE b sc r h.1.2 X W c tk) h.2
    · cases h
  | .chn o o' a b d, sc, x, h, X, W, c, tk => by
    rw [chkE] at h
    split at h
    · rename_i l p p' r s hv
      obtain ⟨ps, rfl⟩ := vCmp2_is hv
      simp only [Bool.and_eq_true, Bool.not_eq_true'] at h
      exact l_chn (cp_of c h.1.1.1.1.1) (cp_of c h.1.1.1.1.2) (sndE a sc l h.1.1.1.2 X W c tk) (sndE b sc r h.1.1.2 X W c tk) (sndE d sc s h.1.2 X W c tk) h.2
    · cases h
  | .not a, sc, x, h, X, W, c, tk => by
    rw [chkE] at h
    split at h
    · rename_i p l hv
      obtain ⟨ps, rfl⟩ := vUn_is hv
      simp only [Bool.and_eq_true] at h
      obtain rfl := eq_of_beq h.1
      exact l_not (sndE a sc l h.2 X W c tk)
    · cases h
  | .and es, sc, x, h, X, W, c, tk => by
    rw [chkE] at h
    split at h
    · rename_i p xs hv
      obtain ⟨ps, rfl⟩ := vBool_is hv
      simp only [Bool.and_eq_true] at h
      obtain rfl := eq_of_beq h.1
      exact sndA es sc xs h.2 _ X W c tk
    · cases h
  | .or es, sc, x, h, X, W, c, tk => by
    rw [chkE] at h
    split at h
    · rename_i p xs hv
      obtain ⟨ps, rfl⟩ := vBool_is hv
      simp only [Bool.and_eq_true] at h
      obtain rfl := eq_of_beq h.1
      exact sndR es sc xs h.2 _ X W c tk
    · cases h
  | .ite t a b, sc, x, h, X, W, c, tk => by
    rw [chkE] at h
    split at h
    · rename_i l p r hv
      obtain ⟨ps, rfl⟩ := vIf_is hv
      simp only [Bool.and_eq_true] at h
      exact l_ite (sndT t sc l h.1.1 X W c tk) (sndE a sc p h.1.2 X W c tk) (sndE b sc r h.2 X W c tk)
    · cases h
  | .idx a i, sc, x, h, X, W, c, tk => by
    rw [chkE] at h
    split at h
    · rename_i l r hv
      obtain ⟨ps, rfl⟩ := vSub_is hv
      simp only [Bool.and_eq_true] at h
      exact l_idx (ok_idx c.ct.hK c.ct.hw (by have := c.un; omega)) (sndE a sc l h.1.1 X W c tk) (sndE i sc r h.1.2 X W c tk) (noSlice_ix h.2)
    · cases h
  | .sl a lo hi, sc, x, h, X, W, c, tk => by
    rw [chkE] at h
    split at h
    · rename_i l p q hv
      obtain ⟨p2, ps, rfl⟩ := vSl_is hv
      simp only [Bool.and_eq_true] at h
      exact l_sl (ok_sl c.ct.hK) (sndE a sc l h.1.1 X W c tk) (sndO lo sc p h.1.2 X W c tk) (sndO hi sc q h.2 X W c tk)
    · cases h
  | .call f es, sc, x, h, X, W, c, tk => by
    rw [chkE] at h
    split at h
    · rename_i nm xs hv
      obtain ⟨p, pos, rfl⟩ := vCall_is hv
      simp only [Bool.and_eq_true, Bool.not_eq_true'] at h
      obtain ⟨⟨⟨h1, h2⟩, h3⟩, h4⟩ := h
      obtain ⟨a, fd, ps, e1, e2, e3, F⟩ := c.ct.fn nm f (eq_of_beq h1)
      cases xs with
      | nil =>
        cases es with
        | nil => exact l_call0 F c.room (c.gl h2) e1 e2 e3 tk (dbgB_is h3).1
        | cons _ _ => cases h4
      | cons y ys =>
        have st := all_noStar h4
        rw [List.all_cons, Bool.and_eq_true] at st
        exact l_call F c.room (c.gl h2) e1 e2 e3 tk (sndEs es sc (y :: ys) h4 X W c tk) (dbgB_is h3).1 (noStar_each st.1 _ _) (noStar_all st.2)
    · cases h
  | .blt b es, sc, x, h, X, W, c, tk => by
    rw [chkE] at h
    split at h
    · rename_i nm xs hv
      obtain ⟨p, pos, rfl⟩ := vCall_is hv
      simp only [Bool.and_eq_true] at h
      obtain ⟨⟨h1, h2⟩, h4⟩ := h
      cases xs with
      | nil => cases h2
      | cons y ys =>
        have st := all_noStar h4
        rw [List.all_cons, Bool.and_eq_true] at st
        split at h1
        · rename_i nm' w' hb
          obtain ⟨rfl, g1, g2, g3, g4⟩ := c.bn h1
          cases w' with
          | inl id =>
            obtain ⟨k1, k2⟩ := cb_of c hb
            exact l_blt k1 g1 g2 k2 (sndEs es sc (y :: ys) h4 X W c tk) g4 g3 (noStar_each st.1 _ _) (noStar_all st.2)
          | inr id =>
            obtain ⟨k1, k2⟩ := ct_of c hb
            exact l_bltTy k1 g1 g2 k2 (sndEs es sc (y :: ys) h4 X W c tk) g4 g3 (noStar_each st.1 _ _) (noStar_all st.2)
        · cases h1
    · cases h
  | .isi t a, sc, x, h, X, W, c, tk => by
    rw [chkE] at h
    split at h
    · rename_i nm l r hv
      obtain ⟨p, pos, rfl⟩ := vCall_is hv
      simp only [Bool.and_eq_true] at h
      obtain ⟨⟨⟨h1, h2⟩, h3⟩, h4⟩ := h
      obtain ⟨hx, g1, g2, _, _⟩ := c.bn h1
      split at h4
      · rename_i nm' ht
        split at h4
        · rename_i T hT
          obtain ⟨p2, rfl⟩ := vName_is hT
          obtain ⟨rfl, b1, b2, b3, b4⟩ := c.bn h4
          have hv2 : bootBuiltins (Str.ofString nm') = some (.type nm') := by
            cases t <;> cases ht <;> kernel_rfl
          exact l_isi c.ct.hK ht (sndE a sc l h2 X W c tk) hx g1 g2 b1 b2 hv2 b4 b3 (noStar_each h3 _ _)
        · cases h4
      · rename_i ht
        rw [Bool.and_eq_true] at h4
        obtain ⟨h5, h6⟩ := h4
        obtain rfl := of_decide_eq_true h5
        split at h6
        · rename_i r1 r2 hT
          obtain ⟨k, p2, rfl⟩ := vTup_is hT
          split at h6
          · rename_i T1 T2 hT1 hT2
            obtain ⟨q1, rfl⟩ := vName_is hT1
            obtain ⟨q2, rfl⟩ := vName_is hT2
            rw [Bool.and_eq_true] at h6
            obtain ⟨e1, b1, b2, _, _⟩ := c.bn h6.1
            obtain ⟨e2, d1, d2, _, _⟩ := c.bn h6.2
            exact l_isi2 c.ct.hK (sndE a sc l h2 X W c tk) hx g1 g2 e1 b1 b2 e2 d1 d2 (noStar_each h3 _ _)
          · cases h6
        · cases h6
    · cases h
  | .mth m o es, sc, x, h, X, W, c, tk => by
    rw [chkE] at h
    split at h
    · rename_i l nm xs ln hv
      obtain ⟨ap, cp, rfl, hln⟩ := vMeth_is hv
      simp only [Bool.and_eq_true] at h
      obtain ⟨⟨⟨h1, h2⟩, h3⟩, h4⟩ := h
      dsimp only at hln
      rw [h1] at hln
      split at h4
      · simp only [Bool.and_eq_true, decide_eq_true_eq] at h4
        obtain ⟨⟨rfl, h5⟩, h6⟩ := h4
        match xs, es, h5, h6 with
        | [a, b], .cons e1 (.cons e2 .nil), _, h6 =>
          rw [chkEs, chkEs, chkEs] at h6
          simp only [Bool.and_eq_true] at h6
          exact l_get c.ct.hK c.ct.hw (by have := c.un; omega) (sndE o sc l h3 X W c tk) (sndE e1 sc a h6.1.1 X W c tk) (sndE e2 sc b h6.2.1.1 X W c tk) (M2_of h2 hln h6.1.2 h6.2.1.2)
        | [a, b], .nil, _, h6 => cases h6
        | [a, b], .cons e1 .nil, _, h6 =>
          rw [chkEs] at h6
          simp only [Bool.and_eq_true] at h6
          cases h6.2
        | [a, b], .cons e1 (.cons e2 (.cons _ _)), _, h6 =>
          rw [chkEs, chkEs] at h6
          simp only [Bool.and_eq_true] at h6
          cases h6.2.2
      · simp only [Bool.and_eq_true, decide_eq_true_eq] at h4
        obtain ⟨⟨rfl, h5⟩, h6⟩ := h4
        match xs, h5, h6 with
        | [a], _, h6 =>
          have st := all_noStar h6
          rw [List.all_cons, Bool.and_eq_true] at st
          refine l_lm cm_extend F.slot_list_extend F.type_list_extend ?_ (sndE o sc l h3 X W c tk) (sndEs es sc [a] h6 X W c tk) (abOk_is h2 _ _ _) ?_ hln (noStar_each st.1 _ _) rfl
          · intro hh d hk
            cases d with
            | ref i =>
              cases hq : hh[i]? with
              | none => simp [mok, hq] at hk
              | some ob => cases ob with
                | lst ds => exact ⟨i, ds, rfl, hq⟩
                | _ => simp [mok, hq] at hk
            | _ => simp [mok] at hk
          · rw [noStar_each st.1]
            rfl
      · cases h4
    · cases h
  | .dI0, sc, x, h, X, W, c, tk => by
    rw [chkE] at h
    split at h
    · rename_i hv
      obtain ⟨p, rfl⟩ := vDict_is hv
      exact l_dI0
    · cases h
  | .dT0, sc, x, h, X, W, c, tk => by
    rw [chkE] at h
    split at h
    · rename_i hv
      obtain ⟨p, rfl⟩ := vDict_is hv
      exact l_dT0
    · cases h
  | .dI1 k v, sc, x, h, X, W, c, tk => by
    rw [chkE] at h
    split at h
    · rename_i p q hv
      obtain ⟨ps, rfl⟩ := vDict_is hv
      rw [Bool.and_eq_true] at h
      exact l_dI1 (sndE k sc p h.1 X W c tk) (sndE v sc q h.2 X W c tk)
    · cases h
  | .dT1 v, sc, x, h, X, W, c, tk => by
    rw [chkE] at h
    split at h
    · rename_i p q hv
      obtain ⟨ps, rfl⟩ := vDict_is hv
      rw [Bool.and_eq_true] at h
      have h1 := h.1
      split at h1
      · rename_i hv2
        obtain ⟨k, p2, rfl⟩ := vTup_is hv2
        exact l_dT1 (by have := c.un; omega) (sndE v sc q h.2 X W c tk)
      · cases h1
    · cases h
  | .dS ks vs, sc, x, h, X, W, c, tk => by
    rw [chkE] at h
    split at h
    · rename_i ps qs hv
      obtain ⟨p, rfl⟩ := vDict_is hv
      simp only [Bool.and_eq_true, decide_eq_true_eq, Bool.not_eq_true'] at h
      obtain ⟨⟨⟨⟨⟨h1, h2⟩, h3⟩, h4⟩, h5⟩, h6⟩ := h
      obtain ⟨a1, a2⟩ := chkKs_all h4
      have e : (E.dS ks vs).sem Cf = fun ρ h => (seqm (semL Cf vs) ρ h).bind fun ds h => .ok (.fs (zipKs ks ds)) h := by
        funext ρ h
        show (vs.sem Cf ρ h).bind _ = _
        rw [semL_is]
      rw [e]
      have hl := semL_len Cf h5
      exact l_dS (sndK vs sc qs h5 ks ps h4 h6 _ X W c tk) a1 h6 (by intro z; have z' : ps = [] := z; rw [z'] at h1; cases h1) h2 (by rw [hl, ← h6, a2]) a2 h3
    · cases h
  | .lc elt tg it t, sc, x, h, X, W, c, tk => by
    rw [chkE] at h
    split at h
    · rename_i e g i fs s hv
      obtain ⟨p, rfl⟩ := vLc_is hv
      simp only [Bool.and_eq_true] at h
      obtain ⟨⟨⟨⟨⟨⟨h1, h2⟩, h3⟩, h4⟩, h5⟩, h6⟩, h7⟩ := h
      have ok : L2.BlkOk X.N X.env.scope s (ownOf C tg.slots) := by
        rw [c.nN, c.hsc]
        exact L2.blkOk_by h1
      have ho : (ownOf C tg.slots).map (·.2) = tg.slots := by
        unfold ownOf
        rw [List.map_map]
        exact List.map_id _
      have nd : X.N.Nodup := by rw [c.nN]; exact c.nd
      refine l_lc c.calm nd (sndI it sc g i h4 X W c tk) ok ho (fun sh H D cl fp => ?_) (fun sh H D cl fp => ?_) (fun sh H D cl fp => ?_) (noSet_is h3 X.env)
      · refine pg_of (c.blk ok.kind sh H D cl fp) (P := locB s) (fun y hy => ?_) h5
        obtain ⟨q1, q2⟩ := blk_loc (sc := X.env.scope) hy
        exact ⟨q1, q2⟩
      · have cb := c.blk ok.kind sh H D cl fp
        split at h6
        · cases t with
          | tt => exact ⟨fun pins s σ H Q I ⟨π, ρ, h, rl, p⟩ => L2.pts_nil.run pins s σ H Q I (p π true H Stp.refl rl.hp rfl)⟩
          | _ => cases h6
        · exact L2.pts_one (sndT t _ _ h6 _ _ cb takesF)
        · cases h6
      · exact sndE elt _ e h7 _ _ (c.blk ok.kind sh H D cl fp) takesF
    · cases h
  | .own _ _ _ _ _, sc, x, h, X, W, c, tk => by rw [chkE] at h; cases h
  | .mk _ _, sc, x, h, X, W, c, tk => by rw [chkE] at h; cases h
  | .fld _ _ _, sc, x, h, X, W, c, tk => by rw [chkE] at h; cases h
  | .rev _, sc, x, h, X, W, c, tk => by rw [chkE] at h; cases h
theorem sndEs : ∀ (es : Es) (sc : Scope) (xs : List Expr), chkEs C sc es xs = true → ∀ (X : Cx) (W : WX), Cc C G Cf n sc X → Takes X W → PA X xs (tEs G W (es.sem Cf))
  | .nil, sc, [], h, X, W, c, tk => l_nil
  | .nil, sc, _ :: _, h, X, W, c, tk => by cases h
  | .cons e es, sc, [], h, X, W, c, tk => by cases h
  | .cons e es, sc, x :: xs, h, X, W, c, tk => by
    rw [chkEs, Bool.and_eq_true, Bool.and_eq_true] at h
    exact l_cons (sndE e sc x h.1.1 X W c tk) (sndEs es sc xs h.2 X W c tk) (noStar_each h.1.2 _ _)
theorem sndK : ∀ (es : Es) (sc : Scope) (xs : List Expr), chkEs C sc es xs = true → ∀ (ks : List S) (ps : List (Option Expr)), chkKs ks ps = true → ps.length = xs.length → ∀ (pos : Pos) (X : Cx) (W : WX), Cc C G Cf n sc X → Takes X W → L2.PPs X pos ps xs (prs G W ks (semL Cf es))
  | .nil, sc, [], h, [], [], hk, hl, pos, X, W, c, tk => L2.pps_nil
  | .nil, sc, [], h, _ :: _, [], hk, hl, pos, X, W, c, tk => by cases hk
  | .nil, sc, [], h, _, _ :: _, hk, hl, pos, X, W, c, tk => by cases hl
  | .nil, sc, _ :: _, h, _, _, hk, hl, pos, X, W, c, tk => by cases h
  | .cons e es, sc, [], h, _, _, hk, hl, pos, X, W, c, tk => by cases h
  | .cons e es, sc, x :: xs, h, [], [], hk, hl, pos, X, W, c, tk => by cases hl
  | .cons e es, sc, x :: xs, h, _ :: _, [], hk, hl, pos, X, W, c, tk => by cases hl
  | .cons e es, sc, x :: xs, h, [], _ :: _, hk, hl, pos, X, W, c, tk => by cases hk
  | .cons e es, sc, x :: xs, h, k :: ks, none :: ps, hk, hl, pos, X, W, c, tk => by cases hk
  | .cons e es, sc, x :: xs, h, k :: ks, some p :: ps, hk, hl, pos, X, W, c, tk => by
    rw [chkEs, Bool.and_eq_true, Bool.and_eq_true] at h
    rw [chkKs, Bool.and_eq_true] at hk
    have ih := sndK es sc xs h.2 ks ps hk.2 (by simpa using hl) pos X W c tk
    have hk1 := hk.1
    split at hk1
    · rename_i z hz
      obtain ⟨k', p', rfl⟩ := vConst_is hz
      rw [of_decide_eq_true hk1]
      exact L2.pps_cons L2.pe_str (sndE e sc x h.1.1 X W c tk) ih
    · cases hk1
theorem sndA : ∀ (es : Es) (sc : Scope) (xs : List Expr), chkBs C sc es xs = true → ∀ (pos : Pos) (X : Cx) (W : WX), Cc C G Cf n sc X → Takes X W → PE X (.BoolOp .And xs pos) (tE G W (es.semAnd Cf))
  | .nil, sc, xs, h, pos, X, W, c, tk => by cases xs <;> cases h
  | .cons e .nil, sc, [], h, pos, X, W, c, tk => by cases h
  | .cons e .nil, sc, [x], h, pos, X, W, c, tk => by
    rw [chkBs] at h
    exact L2.pe_one (sndE e sc x h X W c tk)
  | .cons e .nil, sc, _ :: _ :: _, h, pos, X, W, c, tk => by cases h
  | .cons e (.cons e' es), sc, [], h, pos, X, W, c, tk => by cases h
  | .cons e (.cons e' es), sc, [_], h, pos, X, W, c, tk => by cases h
  | .cons e (.cons e' es), sc, x :: y :: xs, h, pos, X, W, c, tk => by
    rw [chkBs, Bool.and_eq_true] at h
    exact l_and (sndE e sc x h.1 X W c tk) (sndA (.cons e' es) sc (y :: xs) h.2 pos X W c tk)
theorem sndR : ∀ (es : Es) (sc : Scope) (xs : List Expr), chkBs C sc es xs = true → ∀ (pos : Pos) (X : Cx) (W : WX), Cc C G Cf n sc X → Takes X W → PE X (.BoolOp .Or xs pos) (tE G W (es.semOr Cf))
  | .nil, sc, xs, h, pos, X, W, c, tk => by cases xs <;> cases h
  | .cons e .nil, sc, [], h, pos, X, W, c, tk => by cases h
  | .cons e .nil, sc, [x], h, pos, X, W, c, tk => by
    rw [chkBs] at h
    exact L2.pe_one (sndE e sc x h X W c tk)
  | .cons e .nil, sc, _ :: _ :: _, h, pos, X, W, c, tk => by cases h
  | .cons e (.cons e' es), sc, [], h, pos, X, W, c, tk => by cases h
  | .cons e (.cons e' es), sc, [_], h, pos, X, W, c, tk => by cases h
  | .cons e (.cons e' es), sc, x :: y :: xs, h, pos, X, W, c, tk => by
    rw [chkBs, Bool.and_eq_true] at h
    exact l_or (sndE e sc x h.1 X W c tk) (sndR (.cons e' es) sc (y :: xs) h.2 pos X W c tk)
theorem sndO : ∀ (e : Oe) (sc : Scope) (x : Option Expr), chkO C sc e x = true → ∀ (X : Cx) (W : WX), Cc C G Cf n sc X → Takes X W → L2.PO X x (tO G W (e.sem Cf))
  | .no, sc, none, h, X, W, c, tk => l_no
  | .no, sc, some _, h, X, W, c, tk => by cases h
  | .yes e, sc, none, h, X, W, c, tk => by cases h
  | .yes e, sc, some x, h, X, W, c, tk => by
    rw [chkO] at h
    exact l_yes (sndE e sc x h X W c tk)
theorem sndT : ∀ (t : T) (sc : Scope) (x : Expr), chkT C sc t x = true → ∀ (X : Cx) (W : WX), Cc C G Cf n sc X → Takes X W → PT X x (tT G W (t.sem Cf))
  | .tt, sc, x, h, X, W, c, tk => by rw [chkT] at h; cases h
  | .cmp o a b, sc, x, h, X, W, c, tk => by
    rw [chkT] at h
    split at h
    · rename_i l p r hv
      obtain ⟨ps, rfl⟩ := vCmp1_is hv
      simp only [Bool.and_eq_true, Bool.not_eq_true'] at h
      exact t_cmp (cp_of c h.1.1.1) (sndE a sc l h.1.1.2 X W c tk) (sndE b sc r h.1.2 X W c tk) h.2
    · cases h
  | .chn o o' a b d, sc, x, h, X, W, c, tk => by
    rw [chkT] at h
    split at h
    · rename_i l p p' r s hv
      obtain ⟨ps, rfl⟩ := vCmp2_is hv
      simp only [Bool.and_eq_true, Bool.not_eq_true'] at h
      exact t_chn (cp_of c h.1.1.1.1.1) (cp_of c h.1.1.1.1.2) (sndE a sc l h.1.1.1.2 X W c tk) (sndE b sc r h.1.1.2 X W c tk) (sndE d sc s h.1.2 X W c tk) h.2
    · cases h
  | .not t, sc, x, h, X, W, c, tk => by
    rw [chkT] at h
    split at h
    · rename_i p l hv
      obtain ⟨ps, rfl⟩ := vUn_is hv
      simp only [Bool.and_eq_true] at h
      obtain rfl := eq_of_beq h.1
      exact t_not (sndT t sc l h.2 X W c tk)
    · cases h
  | .and ts, sc, x, h, X, W, c, tk => by
    rw [chkT] at h
    split at h
    · rename_i p xs hv
      obtain ⟨ps, rfl⟩ := vBool_is hv
      simp only [Bool.and_eq_true] at h
      obtain rfl := eq_of_beq h.1
      exact (sndTA ts sc xs h.2 _ X W c tk).pt
    · cases h
  | .or ts, sc, x, h, X, W, c, tk => by
    rw [chkT] at h
    split at h
    · rename_i p xs hv
      obtain ⟨ps, rfl⟩ := vBool_is hv
      simp only [Bool.and_eq_true] at h
      obtain rfl := eq_of_beq h.1
      exact (sndTR ts sc xs h.2 _ X W c tk).pt
    · cases h
  | .tru e, sc, x, h, X, W, c, tk => by
    rw [chkT, Bool.and_eq_true] at h
    exact t_tru c.ct.hK (sndE e sc x h.2 X W c tk) (plainT_is h.1 X.env)
theorem sndTA : ∀ (es : Ts) (sc : Scope) (xs : List Expr), chkTs C sc es xs = true → ∀ (pos : Pos) (X : Cx) (W : WX), Cc C G Cf n sc X → Takes X W → PW X (.BoolOp .And xs pos) (tT G W (es.semAnd Cf))
  | .nil, sc, xs, h, pos, X, W, c, tk => by cases xs <;> cases h
  | .cons e .nil, sc, [], h, pos, X, W, c, tk => by cases h
  | .cons e .nil, sc, [x], h, pos, X, W, c, tk => by
    rw [chkTs] at h
    exact L2.pw_and1 (sndT e sc x h X W c tk)
  | .cons e .nil, sc, _ :: _ :: _, h, pos, X, W, c, tk => by cases h
  | .cons e (.cons e' es), sc, [], h, pos, X, W, c, tk => by cases h
  | .cons e (.cons e' es), sc, [_], h, pos, X, W, c, tk => by cases h
  | .cons e (.cons e' es), sc, x :: y :: xs, h, pos, X, W, c, tk => by
    rw [chkTs, Bool.and_eq_true] at h
    exact t_and (sndT e sc x h.1 X W c tk) (sndTA (.cons e' es) sc (y :: xs) h.2 pos X W c tk)
theorem sndTR : ∀ (es : Ts) (sc : Scope) (xs : List Expr), chkTs C sc es xs = true → ∀ (pos : Pos) (X : Cx) (W : WX), Cc C G Cf n sc X → Takes X W → PW X (.BoolOp .Or xs pos) (tT G W (es.semOr Cf))
  | .nil, sc, xs, h, pos, X, W, c, tk => by cases xs <;> cases h
  | .cons e .nil, sc, [], h, pos, X, W, c, tk => by cases h
  | .cons e .nil, sc, [x], h, pos, X, W, c, tk => by
    rw [chkTs] at h
    exact L2.pw_or1 (sndT e sc x h X W c tk)
  | .cons e .nil, sc, _ :: _ :: _, h, pos, X, W, c, tk => by cases h
  | .cons e (.cons e' es), sc, [], h, pos, X, W, c, tk => by cases h
  | .cons e (.cons e' es), sc, [_], h, pos, X, W, c, tk => by cases h
  | .cons e (.cons e' es), sc, x :: y :: xs, h, pos, X, W, c, tk => by
    rw [chkTs, Bool.and_eq_true] at h
    exact t_or (sndT e sc x h.1 X W c tk) (sndTR (.cons e' es) sc (y :: xs) h.2 pos X W c tk)
theorem sndI : ∀ (it : It) (sc : Scope) (g x : Expr), chkI C sc it g x = true → ∀ (X : Cx) (W : WX), Cc C G Cf n sc X → Takes X W → PI X g x (tI G W (it.sem Cf))
  | .seq e, sc, g, x, h, X, W, c, tk => by
    rw [chkI] at h
    exact i_seq c.ct.hK (sndE e sc x h X W c tk)
  | .rng1 e, sc, g, x, h, X, W, c, tk => by
    rw [chkI] at h
    split at h
    · rename_i nm a hv
      obtain ⟨p, pos, rfl⟩ := vCall_is hv
      simp only [Bool.and_eq_true] at h
      obtain ⟨hx, g1, g2, _, _⟩ := c.bn h.1.1
      exact i_rng1 hx g1 g2 (sndE e sc a h.1.2 X W c tk) (noStar_each h.2 _ _)
    · cases h
  | .rng2 e e', sc, g, x, h, X, W, c, tk => by
    rw [chkI] at h
    split at h
    · rename_i nm a b hv
      obtain ⟨p, pos, rfl⟩ := vCall_is hv
      simp only [Bool.and_eq_true] at h
      obtain ⟨⟨⟨⟨h1, h2⟩, h3⟩, h4⟩, h5⟩ := h
      obtain ⟨hx, g1, g2, _, _⟩ := c.bn h1
      exact i_rng2 hx g1 g2 (sndE e sc a h2 X W c tk) (sndE e' sc b h4 X W c tk) (by rw [noStar_each h3, noStar_each h5]; rfl) (noStar_each h5 _ _)
    · cases h
  | .enm e, sc, g, x, h, X, W, c, tk => by
    rw [chkI, Bool.and_eq_true] at h
    obtain ⟨hh, h⟩ := h
    obtain ⟨es, hg⟩ := Option.isSome_iff_exists.mp hh
    obtain ⟨k, tp, rfl⟩ := vTup_is hg
    split at h
    · rename_i nm a hv
      obtain ⟨p, pos, rfl⟩ := vCall_is hv
      simp only [Bool.and_eq_true] at h
      obtain ⟨hx, g1, g2, _, _⟩ := c.bn h.1.1
      exact i_enm hx g1 g2 (sndE e sc a h.1.2 X W c tk) (noStar_each h.2 _ _)
    · cases h
  | .zip e e', sc, g, x, h, X, W, c, tk => by
    rw [chkI, Bool.and_eq_true] at h
    obtain ⟨hh, h⟩ := h
    obtain ⟨es, hg⟩ := Option.isSome_iff_exists.mp hh
    obtain ⟨k, tp, rfl⟩ := vTup_is hg
    split at h
    · rename_i nm a b hv
      obtain ⟨p, pos, rfl⟩ := vCall_is hv
      simp only [Bool.and_eq_true] at h
      obtain ⟨⟨⟨⟨h1, h2⟩, h3⟩, h4⟩, h5⟩ := h
      obtain ⟨hx, g1, g2, _, _⟩ := c.bn h1
      exact i_zip c.ct.hK hx g1 g2 (sndE e sc a h2 X W c tk) (sndE e' sc b h4 X W c tk) (noStar_each h3 _ _) (noStar_each h5 _ _) (by rw [noStar_each h5]; rfl)
    · cases h
end
end
end Y

set_option Elab.async false
set_option linter.all false
set_option maxRecDepth 100000
set_option maxHeartbeats 4000000
namespace Y
open PySem PySem.Spec PyProof.Rows
open L2 (V Hp HO upd upd_same upd_ne SqL SqT Rd VK TE TT TA TS TG TI XK WX Cx Inv PE PT PA PW PS PSs PG PI Key RelV Vals EP Mut ne_of ne_of_none OpR CallR IxR SlR MtR thn Takes Ends)

/-! ### statements -/
def nmB (C : Ck) (P : Str → Bool) (i : Nat) (y : Str) : Bool := C.N[i]? == some y && P y
def isFrzV : St → Bool
  | .frzV _ => true
  | _ => false
def isLc : E → Bool
  | .lc _ _ _ _ => true
  | _ => false
mutual
def chkS (C : Ck) (sc : Scope) : St → Stmt → Bool
  | .asg i e, st => match st with
    | .Assign [.Name y py] x _ => nmB C (locB sc) i y && (match x with
      | .ListComp el [⟨g, it, fs, 0⟩] s p => if lcSw sc s y py.line p.line = true then chkE C sc e x && isLc e && sc.names.lookup y == some .local else chkE C sc e x
      | _ => chkE C sc e x && noComp x)
    | _ => false
  | .asgT is e, st => match st with
    | .Assign [.Tuple es _ _] x _ => nmsB C (locB sc) is es && chkE C sc e x && noComp x && noTup x
    | _ => false
  | .par i j a b, st => match st with
    | .Assign [.Tuple [.Name x px, .Name y py] _ _] (.Tuple [l, r] _ _) _ => nmB C (locB sc) i x && nmB C (locB sc) j y && decide (i ≠ j) && chkE C sc a l && chkE C sc b r && noStar l && noStar r &&
      (if (sc.names.lookup x == some .local && sc.names.lookup y == some .local && !(foldedForSure 8 l && foldedForSure 8 r)) = true then decide (py.line = px.line) && decide (x ≠ y) && !(constantsAlone 8 l && constantsAlone 8 r)
        else true)
    | _ => false
  | .setI o i e, st => match st with
    | .Assign [.Subscript l r _] x _ => chkE C sc o l && chkE C sc i r && chkE C sc e x && noSlice r && noComp x
    | _ => false
  | .ex e, st => match st with
    | .Expr x _ => chkE C sc e x && noComp x
    | _ => false
  | .ret e, st => match st with
    | .Return (some x) _ => chkE C sc e x
    | _ => false
  | .retN, st => match st with
    | .Return none _ => true
    | _ => false
  | .ite t a b, st => match st with
    | .If c l r _ => chkT C sc t c && chkSs C sc a l && chkSs C sc b r
    | _ => false
  | .for_ tg it b, st => match st with
    | .For g x l [] _ => tgB C (locB sc) tg g && chkI C sc it g x && noSet x && chkSs C sc b l
    | _ => false
  | .whl t b, st => match st with
    | .While c l [] _ => chkT C sc t c && chkSs C sc b l
    | _ => false
  | .brk, st => match st with
    | .Break _ => true
    | _ => false
  | .pass, st => match st with
    | .Pass _ => true
    | _ => false
  | .setF _ _ _ _, _ => false
  | .raise _, _ => false
  | .tryO _ _ _, _ => false
  | .tryA _ _ _ _, _ => false
  | .frzV _, _ => false
def chkSs (C : Ck) (sc : Scope) : Ss → List Stmt → Bool
  | .nil, sts => sts.isEmpty
  | .cons s ss, sts => if isFrzV s = true then chkSs C sc ss sts else match sts with
    | st :: rest => chkS C sc s st && chkSs C sc ss rest
    | [] => false
end

section
variable {C : Ck} {G : Gm} {Cf : Cfg} {n : Nat}
def FnL (X : Cx) : Prop := ∀ x, locB X.env.scope x = true → L2.Loc X.env.scope x ∧ (X.fn x = true ∨ X.env.scope.names.lookup x = some .local)
theorem nm_of {sc : Scope} {X : Cx} (c : Cc C G Cf n sc X) {i : Nat} {y : Str} (h : nmB C (locB sc) i y = true) : X.N[i]? = some y ∧ locB X.env.scope y = true := by
  unfold nmB at h
  rw [Bool.and_eq_true] at h
  exact ⟨by rw [c.nN]; exact eq_of_beq h.1, by rw [c.hsc]; exact h.2⟩
theorem ntB {k : Option NameKind} (h : (k == some NameKind.local) = false) : k ≠ some .local := fun e => by rw [e] at h; cases h
mutual
theorem sndS : ∀ (s : St) (sc : Scope) (st : Stmt), chkS C sc s st = true → ∀ (X : Cx) (W : WX), Cc C G Cf n sc X → Takes X W → PassesOwn (model X.prog X.w) X.A X.env X.xe → FnL X → PS X st (tS G W (s.sem Cf))
  | .asg i e, sc, st, h, X, W, c, tk, po, fl => by
    rw [chkS.eq_def] at h
    dsimp only at h
    have nd : X.N.Nodup := by rw [c.nN]; exact c.nd
    have kf : X.env.scope.kind = .function := by rw [c.hsc]; exact c.kf
    split at h
    · rename_i y py x pos
      rw [Bool.and_eq_true] at h
      obtain ⟨h1, h2⟩ := h
      obtain ⟨e1, e2⟩ := nm_of c h1
      obtain ⟨f1, f2⟩ := fl _ e2
      split at h2
      · rename_i el g it fs s p
        split at h2
        · rename_i hsw
          simp only [Bool.and_eq_true] at h2
          obtain ⟨⟨h3, h4⟩, h5⟩ := h2
          cases e with
          | lc elt tg it' t =>
            rw [chkE] at h3
            simp only [vLc] at h3
            simp only [Bool.and_eq_true] at h3
            obtain ⟨⟨⟨⟨⟨⟨a1, a2⟩, a3⟩, a4⟩, a5⟩, a6⟩, a7⟩ := h3
            have ok : L2.BlkOk X.N X.env.scope s (ownOf C tg.slots) := by
              rw [c.nN, c.hsc]
              exact L2.blkOk_by a1
            have ho : (ownOf C tg.slots).map (·.2) = tg.slots := by
              unfold ownOf
              rw [List.map_map]
              exact List.map_id _
            refine s_setLc c.calm nd e1 (by rw [c.hsc]; exact eq_of_beq h5) (by rw [lcSw_is kf, c.hsc, hsw]) (sndI it' sc g it a4 X W c tk) ok ho (fun sh H D cl fp => ?_) (fun sh H D cl fp => ?_) (fun sh H D cl fp => ?_) (noSet_is a3 X.env)
            · refine pg_of (c.blk ok.kind sh H D cl fp) (P := locB s) (fun y hy => ?_) a5
              obtain ⟨q1, q2⟩ := blk_loc (sc := X.env.scope) hy
              exact ⟨q1, q2⟩
            · have cb := c.blk ok.kind sh H D cl fp
              split at a6
              · cases t with
                | tt => exact ⟨fun pins s σ H Q I ⟨π, ρ, h, rl, p⟩ => L2.pts_nil.run pins s σ H Q I (p π true H Stp.refl rl.hp rfl)⟩
                | _ => cases a6
              · exact L2.pts_one (sndT t _ _ a6 _ _ cb takesF)
              · cases a6
            · exact sndE elt _ el a7 _ _ (c.blk ok.kind sh H D cl fp) takesF
          | _ => cases h4
        · rename_i hsw
          refine s_asg nd e1 f1 f2 (sndE e sc _ h2 X W c tk) ?_
          rw [lcSw_is kf, c.hsc, Bool.eq_false_iff.mpr hsw]
      · rw [Bool.and_eq_true] at h2
        exact s_asg nd e1 f1 f2 (sndE e sc _ h2.1 X W c tk) (noComp_sw h2.2 _ _ _)
    · cases h
  | .asgT is e, sc, st, h, X, W, c, tk, po, fl => by
    rw [chkS.eq_def] at h
    dsimp only at h
    have nd : X.N.Nodup := by rw [c.nN]; exact c.nd
    split at h
    · rename_i es k p x pos
      simp only [Bool.and_eq_true] at h
      obtain ⟨⟨⟨h1, h2⟩, h3⟩, h4⟩ := h
      rw [← c.hsc] at h1
      have nm := nms_of c (P := locB X.env.scope) (fun x hx => fl x hx) h1
      exact s_asgT (sndE e sc x h2 X W c tk) (g_t c.ct.hK c.calm nd nm) (fun _ => (show swapsWith x (some (.Tuple es k p)) pos.line X.env = pure false from noComp_sw h3 _ _ _)) (noTup_sw h4 _) rfl
    · cases h
  | .par i j a b, sc, st, h, X, W, c, tk, po, fl => by
    rw [chkS.eq_def] at h
    dsimp only at h
    have nd : X.N.Nodup := by rw [c.nN]; exact c.nd
    have kf : X.env.scope.kind = .function := by rw [c.hsc]; exact c.kf
    split at h
    · rename_i x px y py kt pt l r k2 pt2 pos
      simp only [Bool.and_eq_true, decide_eq_true_eq] at h
      obtain ⟨⟨⟨⟨⟨⟨⟨h1, h2⟩, h3⟩, h4⟩, h5⟩, h6⟩, h7⟩, h8⟩ := h
      obtain ⟨e1, e2⟩ := nm_of c h1
      obtain ⟨e3, e4⟩ := nm_of c h2
      have pa := sndE a sc l h4 X W c tk
      have pb := sndE b sc r h5 X W c tk
      have st1 := noStar_each h6 [r] X.env
      have st2 := noStar_each h7 [] X.env
      split at h8
      · rename_i hc
        simp only [Bool.and_eq_true, Bool.not_eq_true'] at hc h8
        obtain ⟨⟨c1, c2⟩, c3⟩ := hc
        obtain ⟨⟨d1, d2⟩, d3⟩ := h8
        have l1 : X.env.scope.names.lookup x = some .local := by rw [c.hsc]; exact eq_of_beq c1
        have l2 : X.env.scope.names.lookup y = some .local := by rw [c.hsc]; exact eq_of_beq c2
        exact s_par c.calm nd e1 e3 h3 l1 l2 pa pb st1 st2 (sw_some kf l1 l2 (of_decide_eq_true d1) (of_decide_eq_true d2) h6 h7 c3 d3)
      · rename_i hc
        refine s_parL c.calm nd (.cons e1 (fl _ e2).1 (fl _ e2).2 (.cons e3 (fl _ e4).1 (fl _ e4).2 .nil)) pa pb st1 st2 (sw_none ?_ h6 h7)
        rw [c.hsc]
        by_cases q1 : (sc.names.lookup x == some .local) = true
        · by_cases q2 : (sc.names.lookup y == some .local) = true
          · right; right
            cases q3 : (foldedForSure 8 l && foldedForSure 8 r) with
            | true => rfl
            | false => exact absurd ⟨⟨q1, q2⟩, by rw [q3]; rfl⟩ hc
          · exact .inr (.inl (ntB (Bool.eq_false_iff.mpr q2)))
        · exact .inl (ntB (Bool.eq_false_iff.mpr q1))
    · cases h
  | .setI o i e, sc, st, h, X, W, c, tk, po, fl => by
    rw [chkS.eq_def] at h
    dsimp only at h
    split at h
    · rename_i l r sp x pos
      simp only [Bool.and_eq_true] at h
      obtain ⟨⟨⟨⟨h1, h2⟩, h3⟩, h4⟩, h5⟩ := h
      exact s_setI (by have := c.un; omega) (sndE e sc x h3 X W c tk) (sndE o sc l h1 X W c tk) (sndE i sc r h2 X W c tk) h4 (show swapsWith x (some (.Subscript l r sp)) pos.line X.env = pure false from noComp_sw h5 _ _ _)
    · cases h
  | .ex e, sc, st, h, X, W, c, tk, po, fl => by
    rw [chkS.eq_def] at h
    dsimp only at h
    split at h
    · rw [Bool.and_eq_true] at h
      exact s_ex (sndE e sc _ h.1 X W c tk) (noComp_sw h.2 _ _ _)
    · cases h
  | .ret e, sc, st, h, X, W, c, tk, po, fl => by
    rw [chkS.eq_def] at h
    dsimp only at h
    split at h
    · exact s_ret (sndE e sc _ h X W c tk)
    · cases h
  | .retN, sc, st, h, X, W, c, tk, po, fl => by
    rw [chkS.eq_def] at h
    dsimp only at h
    split at h
    · exact s_retN
    · cases h
  | .ite t a b, sc, st, h, X, W, c, tk, po, fl => by
    rw [chkS.eq_def] at h
    dsimp only at h
    split at h
    · simp only [Bool.and_eq_true] at h
      exact s_ite (sndT t sc _ h.1.1 X W c tk) (sndSs a sc _ h.1.2 X W c tk po fl) (sndSs b sc _ h.2 X W c tk po fl)
    · cases h
  | .for_ tg it b, sc, st, h, X, W, c, tk, po, fl => by
    rw [chkS.eq_def] at h
    dsimp only at h
    split at h
    · rename_i g x l pos
      simp only [Bool.and_eq_true] at h
      obtain ⟨⟨⟨h1, h2⟩, h3⟩, h4⟩ := h
      rw [← c.hsc] at h1
      exact s_for po c.calm (sndI it sc g x h2 X W c tk) (pg_of c (P := locB X.env.scope) (fun x hx => fl x hx) h1) (sndSs b sc l h4 X W c tk po fl) (noSet_is h3 X.env)
    · cases h
  | .whl t b, sc, st, h, X, W, c, tk, po, fl => by
    rw [chkS.eq_def] at h
    dsimp only at h
    split at h
    · rw [Bool.and_eq_true] at h
      exact s_whl po (sndT t sc _ h.1 X W c tk) (sndSs b sc _ h.2 X W c tk po fl)
    · cases h
  | .brk, sc, st, h, X, W, c, tk, po, fl => by
    rw [chkS.eq_def] at h
    dsimp only at h
    split at h
    · exact s_brk
    · cases h
  | .pass, sc, st, h, X, W, c, tk, po, fl => by
    rw [chkS.eq_def] at h
    dsimp only at h
    split at h
    · exact s_pass
    · cases h
  | .setF _ _ _ _, sc, st, h, X, W, c, tk, po, fl => by rw [chkS.eq_def] at h; cases h
  | .raise _, sc, st, h, X, W, c, tk, po, fl => by rw [chkS.eq_def] at h; cases h
  | .tryO _ _ _, sc, st, h, X, W, c, tk, po, fl => by rw [chkS.eq_def] at h; cases h
  | .tryA _ _ _ _, sc, st, h, X, W, c, tk, po, fl => by rw [chkS.eq_def] at h; cases h
  | .frzV _, sc, st, h, X, W, c, tk, po, fl => by rw [chkS.eq_def] at h; cases h
theorem sndSs : ∀ (ss : Ss) (sc : Scope) (sts : List Stmt), chkSs C sc ss sts = true → ∀ (X : Cx) (W : WX), Cc C G Cf n sc X → Takes X W → PassesOwn (model X.prog X.w) X.A X.env X.xe → FnL X → PSs X sts (tS G W (ss.sem Cf))
  | .nil, sc, sts, h, X, W, c, tk, po, fl => by
    rw [chkSs.eq_def] at h
    dsimp only at h
    cases sts with
    | nil => exact ss_nil
    | cons _ _ => cases h
  | .cons s ss, sc, sts, h, X, W, c, tk, po, fl => by
    rw [chkSs.eq_def] at h
    dsimp only at h
    split at h
    · rename_i hz
      have ih := sndSs ss sc sts h X W c tk po fl
      cases s with
      | frzV i => exact s_frzV ih
      | _ => cases hz
    · split at h
      · rename_i st rest
        rw [Bool.and_eq_true] at h
        exact ss_cons (sndS s sc st h.1 X W c tk po fl) (sndSs ss sc rest h.2 X W c tk po fl)
      · cases h
end
end
end Y

set_option Elab.async false
set_option linter.all false
set_option maxRecDepth 100000
set_option maxHeartbeats 4000000
namespace Y
open PySem PySem.Spec PyProof.Rows
open L2 (V Hp HO upd upd_same upd_ne SqL SqT Rd VK TE TT TA TS TG TI XK WX Cx Inv PE PT PA PW PS PSs PG PI Key RelV Vals EP Mut ne_of ne_of_none OpR CallR IxR SlR MtR thn Takes Ends)

/-! ### what a def made is forgotten -/
section
variable {G : Gm} {π : Nat → Addr} {n m : Nat} {H : Hp}
mutual
theorem Rep.rb : ∀ {v : V} {d : D}, Rep G π m H v d → d.rb n = true → Rep G π n H v d
  | _, _, .non, _ => .non
  | _, _, .bl b, _ => .bl b
  | _, _, .int i, _ => .int i
  | _, _, .str x, _ => .str x
  | _, _, .tup h r, e => .tup h (Reps.rb r (by rw [D.rb] at e; exact e))
  | _, _, .ktup h r i, e => .ktup h (Reps.rb r (by rw [D.rb] at e; exact e)) i
  | _, _, .fl h r, e => .fl h (Reps.rb r (by rw [D.rb] at e; exact e))
  | _, _, .scr h, _ => .scr h
  | _, _, .fi h r, e => .fi h (RepI.rb r (by rw [D.rb] at e; exact e))
  | _, _, .ft h r, e => .ft h (RepT.rb r (by rw [D.rb] at e; exact e))
  | _, _, .fs h r, e => .fs h (RepS.rb r (by rw [D.rb] at e; exact e))
  | _, _, .fk h, _ => .fk h
  | _, _, .ref i hi, e => .ref i (by rw [D.rb] at e; exact of_decide_eq_true e)
  | _, _, .exc c h, _ => .exc c h
theorem Reps.rb : ∀ {v : List V} {d : List D}, Reps G π m H v d → D.rbs n d = true → Reps G π n H v d
  | _, _, .nil, _ => .nil
  | _, _, .cons h r, e => by
    rw [D.rbs, Bool.and_eq_true] at e
    exact .cons (Rep.rb h e.1) (Reps.rb r e.2)
theorem RepI.rb : ∀ {v : List (Key × V)} {d : List (Int × D)}, RepI G π m H v d → D.rbi n d = true → RepI G π n H v d
  | _, _, .nil, _ => .nil
  | _, _, .cons h r, e => by
    rw [D.rbi, Bool.and_eq_true] at e
    exact .cons (Rep.rb h e.1) (RepI.rb r e.2)
theorem RepT.rb : ∀ {v : List (List Key × V)} {d : List (List Int × D)}, RepT G π m H v d → D.rbt n d = true → RepT G π n H v d
  | _, _, .nil, _ => .nil
  | _, _, .cons h r, e => by
    rw [D.rbt, Bool.and_eq_true] at e
    exact .cons (Rep.rb h e.1) (RepT.rb r e.2)
theorem RepS.rb : ∀ {v : List (Key × V)} {d : List (S × D)}, RepS G π m H v d → D.rbk n d = true → RepS G π n H v d
  | _, _, .nil, _ => .nil
  | _, _, .cons h r, e => by
    rw [D.rbk, Bool.and_eq_true] at e
    exact .cons (Rep.rb h e.1) (RepS.rb r e.2)
end
theorem RepF.rb : ∀ {v : List (Str × V)} {d : List (String × D)}, RepF G π m H v d → rbf n d = true → RepF G π n H v d
  | [], [], _, _ => trivial
  | (f, v) :: r, (g, d) :: t, h, e => by
    rw [rbf, Bool.and_eq_true] at e
    exact ⟨h.1, Rep.rb h.2.1 e.1, RepF.rb h.2.2 e.2⟩
  | [], _ :: _, h, _ => h.elim
  | _ :: _, [], h, _ => h.elim
theorem ObR.rb {a : Addr} {o : Ob} (h : ObR G π m H a o) (e : o.rb n = true) : ObR G π n H a o := by
  cases o with
  | lst ds => obtain ⟨xs, q, r⟩ := h; exact ⟨xs, q, r.rb e⟩
  | dI ds => obtain ⟨xs, q, r⟩ := h; exact ⟨xs, q, r.rb e⟩
  | dT ds => obtain ⟨xs, q, r⟩ := h; exact ⟨xs, q, r.rb e⟩
  | ins c fs => obtain ⟨dx, xs, q, r⟩ := h; exact ⟨dx, xs, q, r.rb e⟩
  | gone => exact h
end
theorem cut_step {G : Gm} {π π' : Nat → Addr} {H H' : Hp} {h' : Hs} {n : Nat} (s : Stp π n H π' h'.length H') (hp : HpR G π' h' H') (e : (h'.take n).all (Ob.rb n) = true) :
    Stp π n H π' (h'.take n).length H' ∧ HpR G π' (h'.take n) H' := by
  have hl : (h'.take n).length = n := by rw [List.length_take]; have := s.le; omega
  refine ⟨?_, hp.take n s.le fun i o ei => ?_⟩
  · rw [hl]
    exact ⟨Nat.le_refl _, s.ext, fun i h1 h2 => absurd (Nat.lt_of_lt_of_le h2 h1) (Nat.lt_irrefl _), s.imm, s.fr⟩
  · have hi : i < n := by have := (List.getElem?_eq_some_iff.mp ei).1; omega
    have ei' : h'[i]? = some o := by rw [List.getElem?_take_of_lt hi] at ei; exact ei
    exact (hp.ob i o ei').rb (List.all_eq_true.mp e o (List.mem_of_getElem? ei))
/-- what is wanted behind the body, from what is wanted of the call -/
theorem body_post {G : Gm} {W : WX} {π : Nat → Addr} {h : Hs} {σ0 : L2.St} {H : Hp} {tr : Bool} {r : RS} {Q : VK} {E : XK} (hW : W = fun cls d _ H' => E cls d H')
    (p : Post G W (RelD G) π h.length σ0 H (cutR tr h.length r.toR) Q) : PostS G W π h.length H r { nx := fun _ H' => Q .non H', rt := Q } := by
  subst hW
  cases tr with
  | false =>
    cases r with
    | bad => exact p
    | nx ρ h' => exact fun π' σ' H' s rl => p π' .non H' s rl.hp .non
    | rt d h' => exact fun π' v H' s hp r => p π' v H' s hp r
    | ex c ρ h' => exact fun π' σ' H' s rl => p π' H' s rl.hp
    | bk ρ h' => exact p.elim
    | ct ρ h' => exact p.elim
  | true =>
    cases r with
    | bad => exact p
    | nx ρ h' =>
      intro π' σ' H' s rl
      simp only [RS.toR, cutR, if_true] at p
      split at p
      · rename_i c
        obtain ⟨s1, hp1⟩ := cut_step s rl.hp c.2
        exact p π' .non H' s1 hp1 .non
      · exact p.elim
    | rt d h' =>
      intro π' v H' s hp r
      simp only [RS.toR, cutR, if_true] at p
      split at p
      · rename_i c
        obtain ⟨s1, hp1⟩ := cut_step s hp c.2
        refine p π' v H' s1 hp1 ?_
        have hl : (h'.take h.length).length = h.length := by rw [List.length_take]; have := s.le; omega
        rw [hl]
        exact Rep.rb r c.1
      · exact p.elim
    | ex c ρ h' =>
      intro π' σ' H' s rl
      simp only [RS.toR, cutR, if_true] at p
      split at p
      · rename_i c
        obtain ⟨s1, hp1⟩ := cut_step s rl.hp c
        exact p π' H' s1 hp1
      · exact p.elim
    | bk ρ h' => exact p.elim
    | ct ρ h' => exact p.elim
theorem rl_start {G : Gm} {π : Nat → Addr} {h : Hs} {H : Hp} {vs : List V} {ds : List D} {N : List Str} {k : Nat} (hp : HpR G π h H) (r : Reps G π h.length H vs ds) (hk : k = N.length) : Rl G π (enter k ds) h (L2.start N vs) H := by
  subst hk
  refine ⟨?_, fun i d e => ?_, hp⟩
  · unfold enter L2.start
    simp [r.length]
  · unfold enter at e
    unfold L2.start
    by_cases hi : i < ds.length
    · rw [List.getElem?_append_left (by simpa using hi), List.getElem?_map] at e
      rw [List.getElem?_append_left (by rw [List.length_map, r.length]; exact hi), List.getElem?_map]
      obtain ⟨d', e1, e2⟩ := Option.map_eq_some_iff.mp e
      cases e2
      obtain ⟨v, e3, q⟩ := r.get e1
      exact ⟨v, by rw [e3]; rfl, q⟩
    · rw [List.getElem?_append_right (by simpa using Nat.le_of_not_lt hi), List.getElem?_replicate] at e
      split at e <;> cases e

/-! ### defs -/
structure Df where
  f : Nat
  nm : Str
  a : Addr
  st : Stmt
  fd : FuncData
  N : List Str
  ps : List Str
structure DefOk (P : Prog) (fns gls : List (Str × Nat)) (bls : List Str) (K : PySem.W.Frag) (mg : Str → Option Value) (d : Df) : Prop where
  F : L2.Fun K d.nm d.nm d.st d.a d.fd
  sc : L2.FnScope d.N d.ps (L2.defScope d.st)
  mg : mg d.nm = some (.ref d.a)
  bn : L2.Binds K d.fd d.ps []
  ck : chkSs ⟨d.N, fns, gls, bls⟩ (L2.defScope d.st) (P.fd d.f).body (L2.defBody d.st) = true
  nn : (P.fd d.f).names = d.N.length
  np : (P.fd d.f).pars = d.ps.length
theorem lookup_map {β : Type} (f : β → Str) (g : β → Nat) {x : Str} {y : Nat} : ∀ {l : List β}, (l.map fun d => (f d, g d)).lookup x = some y → ∃ d ∈ l, f d = x ∧ g d = y
  | [], h => by cases h
  | d :: l, h => by
    rw [List.map_cons, List.lookup_cons] at h
    split at h
    · rename_i e
      cases h
      exact ⟨d, List.mem_cons_self, (eq_of_beq e).symm, rfl⟩
    · obtain ⟨d', h1, h2⟩ := lookup_map f g h
      exact ⟨d', List.mem_cons_of_mem _ h1, h2⟩
theorem all_ok {P : Prog} {G : Gm} {gls : List (Str × Nat)} {bls : List Str} {K : PySem.W.Frag} {mg : Str → Option Value} {base : Heap} {prog : Program} {w : World} (defs : List Df) (hK : G.K = K) (hw : G.w = w) (bl : ∀ x, bls.contains x = true → mg x = none)
    (gl : ∀ x g, gls.lookup x = some g → ∃ v u, mg x = some u ∧ RelV v u ∧ ∀ π m H, Rep G π m H v (P.glo g))
    (hd : ∀ d ∈ defs, DefOk P (defs.map fun d => (d.nm, d.f)) gls bls K mg d) :
    ∀ n : Nat, ∀ d ∈ defs, L2.FnOk prog w K mg base (L2.CX prog w) n d.a d.fd d.ps (spF G (interp P n d.f))
  | 0, d, _ => by
    have no : ∀ vs H Q E, ¬ spF G (interp P 0 d.f) vs H Q E := fun vs H Q E ⟨π, h, ds, _, _, p⟩ => by
      rw [interp] at p
      exact p
    exact ⟨fun vs H Q E h => absurd h (no vs H Q E), fun A outer s H args us vs Q E _ _ _ _ h => absurd h (no vs H Q E)⟩
  | n + 1, d, hm => by
    have ih := all_ok (prog := prog) (base := base) defs hK hw bl gl hd n
    obtain ⟨F, sc, hmg, bn, ck, nn, np⟩ := hd d hm
    have hlen : ∀ vs H Q E, spF G (interp P (n + 1) d.f) vs H Q E → vs.length = d.ps.length ∧ ∀ ds : List D, ds.length = vs.length → ds.length = (P.fd d.f).pars := fun vs H Q E ⟨π, h, ds, hp, r, p⟩ => by
      have e : ds.length = (P.fd d.f).pars := by
        by_cases c : ds.length = (P.fd d.f).pars
        · exact c
        · have : interp P (n + 1) d.f ds h = .bad := by
            rw [interp, runF, if_neg c]
          rw [this] at p
          exact p.elim
      refine ⟨by rw [r.length, e, np], fun ds' e' => by rw [e', r.length, e]⟩
    refine F.okX sc (fun vs H Q E h => (hlen vs H Q E h).1) fun cdv A outer s H vs Q E hr hsp => ?_
    obtain ⟨π, h, ds, hp, r, p⟩ := id hsp
    have hpar : ds.length = (P.fd d.f).pars := (hlen vs H Q E hsp).2 ds r.length.symm
    let Cf : Cfg := { call := interp P n, init := interp P (n - 1), ini := P.ini, glo := P.glo, W := P.W }
    have ct : Ct ⟨d.N, defs.map fun d => (d.nm, d.f), gls, bls⟩ G Cf n K mg base prog w := ⟨hK, hw, bl, gl, fun x f hx => by
      obtain ⟨d', hd', rfl, rfl⟩ := lookup_map _ _ hx
      have q := hd d' hd'
      exact ⟨d'.a, d'.fd, d'.ps, q.mg, q.F.kp, q.bn, ih d' hd'⟩⟩
    have cc : Cc ⟨d.N, defs.map fun d => (d.nm, d.f), gls, bls⟩ G Cf n (L2.defScope d.st) (L2.cxOf (L2.CX prog w) prog w K mg base d.N d.nm (L2.defScope d.st) d.a cdv A outer s H E) :=
      ⟨ct, rfl, sc.nd, rfl, sc.kind, by have := hr.un; show (A.deeper _).units + 65 < cLine; omega, rfl, hr⟩
    refine ⟨_, sndSs (P.fd d.f).body (L2.defScope d.st) (L2.defBody d.st) ck _ (fun cls d _ H' => E cls d H') cc (L2.takes_of rfl rfl rfl rfl) (L2.passes_of rfl) (fun x hx => ⟨locB_is hx, .inl rfl⟩), π, enter (P.fd d.f).names ds, h, rl_start hp r nn, ?_⟩
    refine body_post (σ0 := []) (tr := (P.fd d.f).tr) rfl ?_
    have e : interp P (n + 1) d.f ds h = cutR (P.fd d.f).tr h.length ((P.fd d.f).body.sem Cf (enter (P.fd d.f).names ds) h).toR := by
      rw [interp, runF, if_pos hpar]
    rw [← e]
    exact p
/-- the law itself -/
theorem law_sp {K : PySem.W.Frag} {G : Gm} (hK : G.K = K) {P : Prog} {k f : Nat} {H : Hp} {a : Addr} {ns : List Int} (ho : L2.Only H) (hs : SqL K H a (ns.map V.int)) (hm : ∃ h', interp P k f [.scr ns] [] = .ok (.bl true) h') :
    spF G (interp P k f) [.ref a] H (fun v _ => v = .bl true) fun _ _ _ => False := by
  obtain ⟨h', e⟩ := hm
  refine ⟨fun _ => 0, [], [.scr ns], ⟨fun i j hi _ _ => absurd hi (Nat.not_lt_zero _), fun i o e => by cases e⟩, .cons (.scr ?_) .nil, ?_⟩
  · rcases hs with (hs | ⟨o, hs⟩) | hs
    · rcases ho a with e1 | ⟨o, xs, e1⟩
      · rw [hs] at e1; cases e1
      · rw [hs] at e1; cases e1
    · exact .inl ⟨o, hs⟩
    · rw [hK]
      exact .inr hs
  · rw [e]
    intro π' v H' s hp r
    cases r
    rfl
end Y

set_option Elab.async false
set_option linter.all false
set_option maxRecDepth 100000
set_option maxHeartbeats 4000000
namespace Y
open PySem PySem.Spec PyProof.Rows
/-! ### a dict of the top with texts -/
abbrev KvP (e : DictEntry) (kv : S × S) : Prop := (∃ t, e.key = Value.str (toStr kv.1) t) ∧ ∃ t, e.val = Value.str (toStr kv.2) t
theorem paired_find {es : List DictEntry} {kvs : List (S × S)} (pr : Paired KvP es kvs) (s : S) :
    (match kvs.find? fun kv => decide (kv.1 = s) with
      | some kv => ∃ e t, es.find? (fun e => e.key.isStr (toStr s)) = some e ∧ e.val = Value.str (toStr kv.2) t
      | none => es.find? (fun e => e.key.isStr (toStr s)) = none) ∧ es.any (fun e => e.refKey) = false := by
  induction pr with
  | nil => exact ⟨rfl, rfl⟩
  | cons h r ih =>
    rename_i e kv es kvs
    obtain ⟨⟨t, h1⟩, t', h2⟩ := h
    have hk : e.key.isStr (toStr s) = decide (kv.1 = s) := by
      rw [h1]
      show (toStr kv.1 == toStr s) = _
      rw [str_beq]
      exact Bool.beq_eq_decide_eq _ _
    constructor
    · rw [List.find?_cons, List.find?_cons, hk]
      by_cases c : kv.1 = s
      · simp only [c, decide_true]
        exact ⟨e, t', rfl, h2⟩
      · simp only [c, decide_false]
        exact ih.1
    · rw [List.any_cons, ih.2, Bool.or_false]
      show DictEntry.refKey e = false
      unfold DictEntry.refKey
      rw [h1]
theorem kd_of {G : Gm} {a : Addr} {es : Array DictEntry} {n : Nat} {kvs : List (S × S)} (q : G.K.lookup a = some ⟨.type "dict", none, .dict es n, #[]⟩) (kl : PySem.W.KeysLit G.w.params es.toList) (lo : (a == sysModules) = false) (pr : Paired KvP es.toList kvs) : KD G a kvs := by
  refine ⟨⟨es, n, ⟨q, kl, lo⟩, pr⟩, fun s => ?_⟩
  obtain ⟨h1, h2⟩ := paired_find pr s
  unfold PySem.W.nsIn
  rw [q]
  dsimp only
  split
  · rename_i kv hk
    rw [hk] at h1
    obtain ⟨e, t, e1, e2⟩ := h1
    exact ⟨t, by rw [e1, ← e2]⟩
  · rename_i hk
    rw [hk] at h1
    dsimp only at h1
    rw [h1]
    dsimp only
    rw [h2]
    rfl
end Y

/-! The defs, printed by gen.py. -/
set_option linter.all false
set_option maxRecDepth 100000
namespace Y
abbrev f_is_whole : Nat := 0
abbrev f_is_last : Nat := 1
abbrev f_is_dice : Nat := 2
abbrev f_is_saying_in : Nat := 3
abbrev f_dice_in : Nat := 4
abbrev f_is_saying : Nat := 5
abbrev f_l_cell : Nat := 6
abbrev f_l_mix : Nat := 7
abbrev f_l_same : Nat := 8
abbrev f_l_dice : Nat := 9
abbrev f_l_many : Nat := 10
abbrev f_l_saying : Nat := 11
abbrev f_l_bad_a : Nat := 12
abbrev f_l_odd_a : Nat := 13
abbrev f_l_is_in : Nat := 14
abbrev f_l_is_saying : Nat := 15
abbrev f_law01 : Nat := 16
abbrev f_divisor : Nat := 17
abbrev f_fraction : Nat := 18
abbrev f_sum_of : Nat := 19
abbrev f_product : Nat := 20
abbrev f_added : Nat := 21
abbrev f_put_together : Nat := 22
abbrev f_of_two : Nat := 23
abbrev f_one_die : Nat := 24
abbrev f_kept_shares : Nat := 25
abbrev f_book_of : Nat := 26
abbrev f_shares : Nat := 27
abbrev f_share_of : Nat := 28
abbrev f_share_from : Nat := 29
abbrev f_at_least : Nat := 30
abbrev f_l_divisor : Nat := 31
abbrev f_l_fraction : Nat := 32
abbrev f_l_two : Nat := 33
abbrev f_l_die : Nat := 34
abbrev f_l_kept : Nat := 35
abbrev f_l_book : Nat := 36
abbrev f_l_both : Nat := 37
abbrev f_l_shares : Nat := 38
abbrev f_law02 : Nat := 39
abbrev f_law03 : Nat := 40
abbrev f_bounds_of_dice : Nat := 41
abbrev f_bounds_of_two : Nat := 42
abbrev f_bounds : Nat := 43
abbrev f_law04 : Nat := 44
abbrev f_is_less : Nat := 45
abbrev f_mean : Nat := 46
abbrev f_likeliest : Nat := 47
abbrev f_middle : Nat := 48
abbrev f_law05 : Nat := 49
abbrev f_l_sum : Nat := 50
abbrev f_law06 : Nat := 51
abbrev f_Faces_init : Nat := 52
abbrev f_Faces_take : Nat := 53
abbrev f_die_worth : Nat := 54
abbrev f_worth_of : Nat := 55
abbrev f_read_faces : Nat := 56
abbrev f_fall : Nat := 57
abbrev f_chance : Nat := 58
abbrev f_l_row : Nat := 59
abbrev f_l_fall : Nat := 60
abbrev f_l_word : Nat := 61
abbrev f_l_told_a : Nat := 62
abbrev f_law07 : Nat := 63
abbrev f_sides_in : Nat := 64
abbrev f_state_of : Nat := 65
abbrev f_all_faces : Nat := 66
abbrev f_l_rows : Nat := 67
abbrev f_law08 : Nat := 68
abbrev f_law09 : Nat := 69
abbrev f_against : Nat := 70
abbrev f_are_alike : Nat := 71
abbrev f_is_never_behind : Nat := 72
abbrev f_l_near : Nat := 73
abbrev f_law10 : Nat := 74
abbrev f_best_for : Nat := 75
abbrev f_l_is_less : Nat := 76
abbrev f_law11 : Nat := 77
abbrev f_in_brackets : Nat := 78
abbrev f_written : Nat := 79
abbrev f_Reader_init : Nat := 80
abbrev f_Reader_has : Nat := 81
abbrev f_Reader_must : Nat := 82
abbrev f_Reader_figure : Nat := 83
abbrev f_Reader_call : Nat := 84
abbrev f_Reader_part : Nat := 85
abbrev f_Reader_saying : Nat := 86
abbrev f_read : Nat := 87
abbrev f_l_written : Nat := 88
abbrev f_l_read : Nat := 89
abbrev f_law12 : Nat := 90
abbrev f_l_told_b : Nat := 91
abbrev f_l_is_right : Nat := 92
abbrev f_l_bad_b : Nat := 93
abbrev f_l_changed : Nat := 94
abbrev f_law13 : Nat := 95
abbrev f_of_numbers : Nat := 96
abbrev f_of_nothing : Nat := 97
abbrev f_simple : Nat := 98
abbrev f_is_simple : Nat := 99
abbrev f_l_simple : Nat := 100
abbrev f_l_odd_b : Nat := 101
abbrev f_law14 : Nat := 102
abbrev f_law15 : Nat := 103
abbrev f_Tally_init : Nat := 104
abbrev f_Tally_note : Nat := 105
abbrev f_Tally_many : Nat := 106
abbrev f_Tally_counts : Nat := 107
abbrev f_Tally_due : Nat := 108
abbrev f_Tally_lacking : Nat := 109
abbrev f_Tally_undo : Nat := 110
abbrev f_l_told_c : Nat := 111
abbrev f_l_all : Nat := 112
abbrev f_law16 : Nat := 113
abbrev f_law17 : Nat := 114
abbrev f_law18 : Nat := 115
abbrev f_l_lives : Nat := 116
abbrev f_law19 : Nat := 117
def b_is_whole : Ss := (.cons (.ret (.and (.cons (.isi .int (.var 0)) (.cons (.not (.isi .bool (.var 0))) (.cons (.chn .le .le (.var 1) (.var 0) (.var 2)) .nil))))) .nil)
def d_is_whole : Fd := ⟨b_is_whole, 3, 3, true⟩
def b_is_last : Ss := (.cons (.ite (.cmp .isin (.var 0) (.tup (.cons (.str (wd 2)) (.cons (.str (wd 3)) .nil)))) (.cons (.ret (.call f_is_whole (.cons (.var 3) (.cons (.int 1) (.cons (.var 1) .nil))))) .nil) .nil) (.cons (.ite (.cmp .eq (.var 0) (.str (wd 4))) (.cons (.ret (.call f_is_whole (.cons (.var 3) (.cons (.int 1) (.cons (.bin .sub (.var 2) (.int 1)) .nil))))) .nil) .nil) (.cons (.ite (.cmp .eq (.var 0) (.str (wd 5))) (.cons (.ret (.call f_is_whole (.cons (.var 3) (.cons (.int 1) (.cons (.int 2) .nil))))) .nil) .nil) (.cons (.ret (.call f_is_whole (.cons (.var 3) (.cons (.int 2) (.cons (.var 2) .nil))))) .nil))))
def d_is_last : Fd := ⟨b_is_last, 4, 4, true⟩
def b_is_dice : Ss := (.cons (.ite (.or (.cons (.cmp .ne (.blt .len (.cons (.var 0) .nil)) (.bin .sub (.int 4) (.blt .int (.cons (.cmp .eq (.idx (.var 0) (.int 0)) (.str (wd 1))) .nil)))) (.cons (.not (.tru (.call f_is_whole (.cons (.idx (.var 0) (.int 1)) (.cons (.int 1) (.cons (.int 3) .nil)))))) (.cons (.not (.tru (.call f_is_whole (.cons (.idx (.var 0) (.int 2)) (.cons (.int 2) (.cons (.int 6) .nil)))))) .nil)))) (.cons (.ret (.bl false)) .nil) .nil) (.cons (.ret (.or (.cons (.cmp .eq (.idx (.var 0) (.int 0)) (.str (wd 1))) (.cons (.call f_is_last (.cons (.idx (.var 0) (.int 0)) (.cons (.idx (.var 0) (.int 1)) (.cons (.idx (.var 0) (.int 2)) (.cons (.idx (.var 0) (.int 3)) .nil))))) .nil)))) .nil))
def d_is_dice : Fd := ⟨b_is_dice, 1, 1, true⟩
def b_is_saying_in : Ss := (.cons (.ite (.or (.cons (.not (.tru (.isi .tuple (.var 0)))) (.cons (.cmp .lt (.blt .len (.cons (.var 0) .nil)) (.int 2)) (.cons (.not (.tru (.isi .str (.idx (.var 0) (.int 0))))) (.cons (.cmp .eq (.var 1) (.int 0)) .nil))))) (.cons (.ret (.bl false)) .nil) .nil) (.cons (.ite (.cmp .eq (.idx (.var 0) (.int 0)) (.str (wd 0))) (.cons (.ret (.and (.cons (.cmp .eq (.blt .len (.cons (.var 0) .nil)) (.int 2)) (.cons (.call f_is_whole (.cons (.idx (.var 0) (.int 1)) (.cons (.int 0) (.cons (.int 9) .nil)))) .nil)))) .nil) .nil) (.cons (.ite (.cmp .isin (.idx (.var 0) (.int 0)) (.glo 1)) (.cons (.ret (.call f_is_dice (.cons (.var 0) .nil))) .nil) .nil) (.cons (.ite (.cmp .eq (.idx (.var 0) (.int 0)) (.str (wd 12))) (.cons (.ret (.and (.cons (.cmp .eq (.blt .len (.cons (.var 0) .nil)) (.int 3)) (.cons (.call f_is_whole (.cons (.idx (.var 0) (.int 1)) (.cons (.int 0) (.cons (.int 3) .nil)))) (.cons (.call f_is_saying_in (.cons (.idx (.var 0) (.int 2)) (.cons (.bin .sub (.var 1) (.int 1)) .nil))) .nil))))) .nil) .nil) (.cons (.ret (.and (.cons (.cmp .isin (.idx (.var 0) (.int 0)) (.glo 0)) (.cons (.cmp .eq (.blt .len (.cons (.var 0) .nil)) (.int 3)) (.cons (.blt .all (.cons (.lc (.call f_is_saying_in (.cons (.var 2) (.cons (.bin .sub (.var 1) (.int 1)) .nil))) (.n 2) (.seq (.sl (.var 0) (.yes (.int 1)) .no)) .tt) .nil)) .nil))))) .nil)))))
def d_is_saying_in : Fd := ⟨b_is_saying_in, 3, 2, true⟩
def b_dice_in : Ss := (.cons (.ite (.cmp .isin (.idx (.var 0) (.int 0)) (.glo 1)) (.cons (.ret (.idx (.var 0) (.int 1))) .nil) .nil) (.cons (.ret (.blt .sum (.cons (.lc (.call f_dice_in (.cons (.var 1) .nil)) (.n 1) (.seq (.sl (.var 0) (.yes (.int 1)) .no)) (.tru (.isi .tuple (.var 1)))) .nil))) .nil))
def d_dice_in : Fd := ⟨b_dice_in, 2, 1, true⟩
def b_is_saying : Ss := (.cons (.ret (.and (.cons (.call f_is_saying_in (.cons (.var 0) (.cons (.glo 2) .nil))) (.cons (.cmp .le (.call f_dice_in (.cons (.var 0) .nil)) (.glo 3)) .nil)))) .nil)
def d_is_saying : Fd := ⟨b_is_saying, 1, 1, true⟩
def b_l_cell : Ss := (.cons (.ite (.cmp .lt (.var 1) (.blt .len (.cons (.var 0) .nil))) (.cons (.ret (.idx (.var 0) (.var 1))) .nil) .nil) (.cons (.ret (.int 0)) .nil))
def d_l_cell : Fd := ⟨b_l_cell, 2, 2, true⟩
def b_l_mix : Ss := (.cons (.asg 3 (.bin .mod (.bin .mul (.var 0) (.int 48271)) (.var 1))) (.cons (.ret (.bin .mod (.bin .mod (.bin .mul (.var 3) (.bin .add (.var 3) (.int 7))) (.var 1)) (.var 2))) .nil))
def d_l_mix : Fd := ⟨b_l_mix, 4, 3, true⟩
def b_l_same : Ss := (.cons (.ite (.tru (.isi .tuple (.var 1))) (.cons (.ite (.or (.cons (.not (.tru (.isi .tuple (.var 0)))) (.cons (.cmp .ne (.blt .len (.cons (.var 0) .nil)) (.blt .len (.cons (.var 1) .nil))) .nil))) (.cons (.ret (.bl false)) .nil) .nil) (.cons (.ret (.blt .all (.cons (.lc (.call f_l_same (.cons (.var 2) (.cons (.var 3) .nil))) (.t [2, 3]) (.zip (.var 0) (.var 1)) .tt) .nil))) .nil)) .nil) (.cons (.ite (.cmp .is (.var 1) .non) (.cons (.ret (.cmp .is (.var 0) .non)) .nil) .nil) (.cons (.ite (.or (.cons (.tru (.isi .bool (.var 1))) (.cons (.tru (.isi .bool (.var 0))) .nil))) (.cons (.ret (.and (.cons (.isi .bool (.var 1)) (.cons (.isi .bool (.var 0)) (.cons (.cmp .eq (.var 0) (.var 1)) .nil))))) .nil) .nil) (.cons (.ret (.and (.cons (.isi .intstr (.var 0)) (.cons (.cmp .eq (.var 0) (.var 1)) .nil)))) .nil))))
def d_l_same : Fd := ⟨b_l_same, 4, 2, true⟩
def b_l_dice : Ss := (.cons (.asg 2 (.idx (.tup (.cons (.str (wd 1)) (.cons (.str (wd 2)) (.cons (.str (wd 3)) (.cons (.str (wd 4)) (.cons (.str (wd 5)) (.cons (.str (wd 6)) .nil))))))) (.call f_l_mix (.cons (.var 0) (.cons (.int 9973) (.cons (.int 6) .nil)))))) (.cons (.asg 3 (.bin .add (.int 1) (.call f_l_mix (.cons (.var 0) (.cons (.int 9967) (.cons (.blt .min2 (.cons (.int 3) (.cons (.var 1) .nil))) .nil)))))) (.cons (.asg 4 (.bin .add (.int 2) (.call f_l_mix (.cons (.var 0) (.cons (.int 9949) (.cons (.int 5) .nil)))))) (.cons (.ite (.cmp .eq (.var 2) (.str (wd 1))) (.cons (.ret (.tup (.cons (.var 2) (.cons (.var 3) (.cons (.var 4) .nil))))) .nil) .nil) (.cons (.asgT [5, 6] (.mth .get (.dS [(wd 4), (wd 5), (wd 6)] (.cons (.tup (.cons (.int 1) (.cons (.bin .sub (.var 4) (.int 1)) .nil))) (.cons (.tup (.cons (.int 1) (.cons (.int 2) .nil))) (.cons (.tup (.cons (.int 2) (.cons (.var 4) .nil))) .nil)))) (.cons (.var 2) (.cons (.tup (.cons (.int 1) (.cons (.var 3) .nil))) .nil)))) (.cons (.ret (.tup (.cons (.var 2) (.cons (.var 3) (.cons (.var 4) (.cons (.bin .add (.var 5) (.call f_l_mix (.cons (.var 0) (.cons (.int 9941) (.cons (.bin .add (.bin .sub (.var 6) (.var 5)) (.int 1)) .nil))))) .nil)))))) .nil))))))
def d_l_dice : Fd := ⟨b_l_dice, 7, 2, true⟩
def b_l_many : Ss := (.cons (.ite (.cmp .eq (.idx (.var 0) (.int 0)) (.str (wd 0))) (.cons (.ret (.int 0)) .nil) .nil) (.cons (.ite (.tru (.isi .tuple (.idx (.var 0) (.neg (.int 1))))) (.cons (.ret (.blt .sum (.cons (.lc (.call f_l_many (.cons (.var 1) .nil)) (.n 1) (.seq (.sl (.var 0) (.yes (.int 1)) .no)) (.tru (.isi .tuple (.var 1)))) .nil))) .nil) .nil) (.cons (.ret (.idx (.var 0) (.int 1))) .nil)))
def d_l_many : Fd := ⟨b_l_many, 2, 1, true⟩
def b_l_saying : Ss := (.cons (.asg 3 (.call f_l_mix (.cons (.var 0) (.cons (.int 9931) (.cons (.int 12) .nil))))) (.cons (.ite (.or (.cons (.cmp .lt (.var 3) (.int 2)) (.cons (.cmp .eq (.var 2) (.int 0)) .nil))) (.cons (.ret (.tup (.cons (.str (wd 0)) (.cons (.call f_l_mix (.cons (.var 0) (.cons (.int 9929) (.cons (.int 10) .nil)))) .nil)))) .nil) .nil) (.cons (.ite (.or (.cons (.cmp .lt (.var 3) (.int 5)) (.cons (.cmp .eq (.var 1) (.int 1)) .nil))) (.cons (.ret (.call f_l_dice (.cons (.bin .add (.var 0) (.int 1)) (.cons (.var 2) .nil)))) .nil) .nil) (.cons (.ite (.cmp .eq (.var 3) (.int 11)) (.cons (.ret (.tup (.cons (.str (wd 12)) (.cons (.call f_l_mix (.cons (.var 0) (.cons (.int 9923) (.cons (.int 4) .nil)))) (.cons (.call f_l_saying (.cons (.bin .add (.var 0) (.int 2)) (.cons (.bin .sub (.var 1) (.int 1)) (.cons (.var 2) .nil)))) .nil))))) .nil) .nil) (.cons (.asg 4 (.call f_l_saying (.cons (.bin .add (.var 0) (.int 3)) (.cons (.bin .sub (.var 1) (.int 1)) (.cons (.var 2) .nil))))) (.cons (.asg 5 (.call f_l_saying (.cons (.bin .add (.var 0) (.int 5)) (.cons (.bin .sub (.var 1) (.int 1)) (.cons (.bin .sub (.var 2) (.call f_l_many (.cons (.var 4) .nil))) .nil))))) (.cons (.ite (.cmp .eq (.bin .mod (.var 0) (.int 2)) (.int 0)) (.cons (.par 4 5 (.var 5) (.var 4)) .nil) .nil) (.cons (.ret (.tup (.cons (.idx (.tup (.cons (.str (wd 7)) (.cons (.str (wd 8)) (.cons (.str (wd 9)) (.cons (.str (wd 10)) (.cons (.str (wd 11)) .nil)))))) (.call f_l_mix (.cons (.var 0) (.cons (.int 9907) (.cons (.int 5) .nil))))) (.cons (.var 4) (.cons (.var 5) .nil))))) .nil))))))))
def d_l_saying : Fd := ⟨b_l_saying, 6, 3, true⟩
def b_l_bad_a : Ss := (.cons (.asg 0 (.lst (.cons .non (.cons (.int 5) (.cons (.str [51, 100, 54]) (.cons (.tup .nil) (.cons (.tup (.cons (.str (wd 0)) .nil)) .nil))))))) (.cons (.asg 0 (.bin .add (.var 0) (.lst (.cons (.tup (.cons (.str (wd 0)) (.cons (.int 10) .nil))) (.cons (.tup (.cons (.str (wd 0)) (.cons (.neg (.int 1)) .nil))) (.cons (.tup (.cons (.str (wd 0)) (.cons (.bl true) .nil))) (.cons (.tup (.cons (.str (wd 0)) (.cons (.str [49]) .nil))) (.cons (.lst (.cons (.str (wd 0)) (.cons (.int 1) .nil))) .nil)))))))) (.cons (.asg 0 (.bin .add (.var 0) (.lst (.cons (.tup (.cons (.str (wd 1)) (.cons (.int 0) (.cons (.int 6) .nil)))) (.cons (.tup (.cons (.str (wd 1)) (.cons (.int 4) (.cons (.int 6) .nil)))) (.cons (.tup (.cons (.str (wd 1)) (.cons (.int 1) (.cons (.int 1) .nil)))) (.cons (.tup (.cons (.str (wd 1)) (.cons (.int 1) (.cons (.int 7) .nil)))) .nil))))))) (.cons (.asg 0 (.bin .add (.var 0) (.lst (.cons (.tup (.cons (.str (wd 1)) (.cons (.int 1) .nil))) (.cons (.tup (.cons (.str (wd 1)) (.cons (.int 1) (.cons (.int 6) (.cons (.int 1) .nil))))) (.cons (.tup (.cons (.str (wd 1)) (.cons (.bl true) (.cons (.int 6) .nil)))) .nil)))))) (.cons (.asg 0 (.bin .add (.var 0) (.lst (.cons (.tup (.cons (.str (wd 2)) (.cons (.int 2) (.cons (.int 6) .nil)))) (.cons (.tup (.cons (.str (wd 2)) (.cons (.int 2) (.cons (.int 6) (.cons (.int 0) .nil))))) (.cons (.tup (.cons (.str (wd 2)) (.cons (.int 2) (.cons (.int 6) (.cons (.int 3) .nil))))) .nil)))))) (.cons (.asg 0 (.bin .add (.var 0) (.lst (.cons (.tup (.cons (.str (wd 3)) (.cons (.int 1) (.cons (.int 6) (.cons (.int 2) .nil))))) (.cons (.tup (.cons (.str (wd 3)) (.cons (.int 3) (.cons (.int 6) (.cons .non .nil))))) (.cons (.tup (.cons (.str (wd 4)) (.cons (.int 1) (.cons (.int 6) (.cons (.int 0) .nil))))) .nil)))))) (.cons (.asg 0 (.bin .add (.var 0) (.lst (.cons (.tup (.cons (.str (wd 4)) (.cons (.int 1) (.cons (.int 6) (.cons (.int 6) .nil))))) (.cons (.tup (.cons (.str (wd 5)) (.cons (.int 1) (.cons (.int 6) (.cons (.int 0) .nil))))) (.cons (.tup (.cons (.str (wd 5)) (.cons (.int 1) (.cons (.int 6) (.cons (.int 3) .nil))))) .nil)))))) (.cons (.asg 0 (.bin .add (.var 0) (.lst (.cons (.tup (.cons (.str (wd 6)) (.cons (.int 1) (.cons (.int 6) (.cons (.int 1) .nil))))) (.cons (.tup (.cons (.str (wd 6)) (.cons (.int 1) (.cons (.int 6) (.cons (.int 7) .nil))))) (.cons (.tup (.cons (.str [115, 117, 109]) (.cons (.int 1) (.cons (.int 6) .nil)))) .nil)))))) (.cons (.asg 1 (.tup (.cons (.str (wd 0)) (.cons (.int 1) .nil)))) (.cons (.asg 0 (.bin .add (.var 0) (.lst (.cons (.tup (.cons (.str (wd 7)) (.cons (.var 1) .nil))) (.cons (.tup (.cons (.str (wd 7)) (.cons (.var 1) (.cons (.var 1) (.cons (.var 1) .nil))))) (.cons (.tup (.cons (.str (wd 7)) (.cons (.var 1) (.cons .non .nil)))) .nil)))))) (.cons (.asg 0 (.bin .add (.var 0) (.lst (.cons (.tup (.cons (.str (wd 11)) (.cons (.var 1) (.cons (.int 1) .nil)))) (.cons (.tup (.cons (.str (wd 12)) (.cons (.int 4) (.cons (.var 1) .nil)))) (.cons (.tup (.cons (.str (wd 12)) (.cons (.neg (.int 1)) (.cons (.var 1) .nil)))) .nil)))))) (.cons (.asg 0 (.bin .add (.var 0) (.lst (.cons (.tup (.cons (.str (wd 12)) (.cons (.var 1) (.cons (.int 2) .nil)))) (.cons (.tup (.cons (.str (wd 12)) (.cons (.int 2) .nil))) (.cons (.tup (.cons (.str (wd 12)) (.cons (.int 2) (.cons (.var 1) (.cons (.var 1) .nil))))) .nil)))))) (.cons (.asg 0 (.bin .add (.var 0) (.lst (.cons (.tup (.cons (.int 5) (.cons (.var 1) (.cons (.var 1) .nil)))) (.cons (.tup (.cons (.str (wd 9)) (.cons (.var 1) (.cons (.lst (.cons (.var 1) .nil)) .nil)))) .nil))))) (.cons (.ret (.bin .add (.var 0) (.lst (.cons (.tup (.cons (.str (wd 12)) (.cons (.bl true) (.cons (.var 1) .nil)))) .nil)))) .nil))))))))))))))
def d_l_bad_a : Fd := ⟨b_l_bad_a, 2, 0, true⟩
def b_l_odd_a : Ss := (.cons (.ite (.and (.cons (.tru (.isi .tuple (.var 0))) (.cons (.cmp .ne (.var 0) (.tup .nil)) (.cons (.cmp .gt (.call f_l_mix (.cons (.var 1) (.cons (.int 9781) (.cons (.int 5) .nil)))) (.int 0)) .nil)))) (.cons (.asg 2 (.call f_l_mix (.cons (.var 1) (.cons (.int 9769) (.cons (.blt .len (.cons (.var 0) .nil)) .nil))))) (.cons (.ret (.bin .add (.bin .add (.sl (.var 0) .no (.yes (.var 2))) (.tup (.cons (.call f_l_odd_a (.cons (.idx (.var 0) (.var 2)) (.cons (.bin .add (.bin .add (.var 1) (.bin .mul (.int 31) (.var 2))) (.int 7)) .nil))) .nil))) (.sl (.var 0) (.yes (.bin .add (.var 2) (.int 1))) .no))) .nil)) .nil) (.cons (.asg 3 (.lst (.cons .non (.cons (.bl true) (.cons (.bl false) (.cons (.int 0) (.cons (.int 1) (.cons (.neg (.int 1)) (.cons (.int 2) (.cons (.int 7) (.cons (.int 10) (.cons (.int 1000) (.cons (.str []) (.cons (.str [97]) (.cons (.str [65]) (.cons (.tup .nil) (.cons (.tup (.cons (.str [97]) .nil)) (.cons (.lst (.cons (.int 1) .nil)) .nil)))))))))))))))))) (.cons (.ite (.tru (.isi .tuple (.var 0))) (.cons (.asg 3 (.bin .add (.var 3) (.bin .mul (.lst (.cons (.blt .list (.cons (.var 0) .nil)) (.cons (.bin .add (.var 0) (.sl (.var 0) (.yes (.neg (.int 1))) .no)) (.cons (.sl (.var 0) .no (.yes (.neg (.int 1)))) (.cons (.rev (.var 0)) (.cons (.sl (.var 0) (.yes (.int 1)) .no) (.cons (.tup (.cons (.var 0) .nil)) .nil))))))) (.int 2)))) .nil) (.cons (.ite (.tru (.isi .str (.var 0))) (.cons (.asg 3 (.bin .add (.var 3) (.bin .mul (.lst (.cons (.bin .add (.var 0) (.str [97])) (.cons (.sl (.var 0) .no (.yes (.neg (.int 1)))) (.cons (.mth .upper (.var 0) .nil) (.cons (.bin .add (.var 0) (.str [32])) (.cons (.bin .mul (.var 0) (.int 2)) (.cons (.lst (.cons (.var 0) .nil)) (.cons (.bin .add (.var 0) (.sl (.var 0) .no (.yes (.int 1)))) .nil)))))))) (.int 2)))) .nil) (.cons (.ite (.tru (.isi .int (.var 0))) (.cons (.asg 3 (.bin .add (.var 3) (.bin .mul (.lst (.cons (.bin .add (.var 0) (.int 1)) (.cons (.bin .sub (.var 0) (.int 1)) (.cons (.bin .sub (.int 0) (.var 0)) (.cons (.tup (.cons (.var 0) .nil)) (.cons (.bin .add (.var 0) (.int 2)) (.cons (.bin .mul (.var 0) (.int 2)) .nil))))))) (.int 2)))) .nil) .nil) .nil)) .nil)) (.cons (.ret (.idx (.var 3) (.call f_l_mix (.cons (.var 1) (.cons (.int 9749) (.cons (.blt .len (.cons (.var 3) .nil)) .nil)))))) .nil))))
def d_l_odd_a : Fd := ⟨b_l_odd_a, 4, 2, true⟩
def b_l_is_in : Ss := (.cons (.ret (.and (.cons (.isi .int (.var 0)) (.cons (.not (.isi .bool (.var 0))) (.cons (.chn .le .le (.var 1) (.var 0) (.var 2)) .nil))))) .nil)
def d_l_is_in : Fd := ⟨b_l_is_in, 3, 3, true⟩
def b_l_is_saying : Ss := (.cons (.ite (.or (.cons (.not (.tru (.isi .tuple (.var 0)))) (.cons (.cmp .lt (.blt .len (.cons (.var 0) .nil)) (.int 2)) (.cons (.not (.tru (.isi .str (.idx (.var 0) (.int 0))))) (.cons (.cmp .gt (.var 1) (.int 3)) .nil))))) (.cons (.ret (.bl false)) .nil) .nil) (.cons (.par 2 3 (.idx (.var 0) (.int 0)) (.sl (.var 0) (.yes (.int 1)) .no)) (.cons (.ite (.cmp .eq (.var 2) (.str (wd 0))) (.cons (.ret (.and (.cons (.cmp .eq (.blt .len (.cons (.var 3) .nil)) (.int 1)) (.cons (.call f_l_is_in (.cons (.idx (.var 3) (.int 0)) (.cons (.int 0) (.cons (.int 9) .nil)))) .nil)))) .nil) .nil) (.cons (.ite (.cmp .isin (.var 2) (.tup (.cons (.str (wd 1)) (.cons (.str (wd 2)) (.cons (.str (wd 3)) (.cons (.str (wd 4)) (.cons (.str (wd 5)) (.cons (.str (wd 6)) .nil)))))))) (.cons (.ite (.or (.cons (.cmp .ne (.blt .len (.cons (.var 3) .nil)) (.bin .sub (.int 3) (.blt .int (.cons (.cmp .eq (.var 2) (.str (wd 1))) .nil)))) (.cons (.not (.tru (.call f_l_is_in (.cons (.idx (.var 3) (.int 0)) (.cons (.int 1) (.cons (.int 3) .nil)))))) (.cons (.not (.tru (.call f_l_is_in (.cons (.idx (.var 3) (.int 1)) (.cons (.int 2) (.cons (.int 6) .nil)))))) .nil)))) (.cons (.ret (.bl false)) .nil) .nil) (.cons (.asgT [4, 5] (.mth .get (.dS [(wd 4), (wd 5), (wd 6)] (.cons (.tup (.cons (.int 1) (.cons (.bin .sub (.idx (.var 3) (.int 1)) (.int 1)) .nil))) (.cons (.tup (.cons (.int 1) (.cons (.int 2) .nil))) (.cons (.tup (.cons (.int 2) (.cons (.idx (.var 3) (.int 1)) .nil))) .nil)))) (.cons (.var 2) (.cons (.tup (.cons (.int 1) (.cons (.idx (.var 3) (.int 0)) .nil))) .nil)))) (.cons (.ret (.or (.cons (.cmp .eq (.var 2) (.str (wd 1))) (.cons (.call f_l_is_in (.cons (.idx (.var 3) (.int 2)) (.cons (.var 4) (.cons (.var 5) .nil)))) .nil)))) .nil))) .nil) (.cons (.ite (.cmp .ne (.blt .len (.cons (.var 3) .nil)) (.int 2)) (.cons (.ret (.bl false)) .nil) .nil) (.cons (.ite (.cmp .eq (.var 2) (.str (wd 12))) (.cons (.ret (.and (.cons (.call f_l_is_in (.cons (.idx (.var 3) (.int 0)) (.cons (.int 0) (.cons (.int 3) .nil)))) (.cons (.call f_l_is_saying (.cons (.idx (.var 3) (.int 1)) (.cons (.bin .add (.var 1) (.int 1)) .nil))) .nil)))) .nil) .nil) (.cons (.ite (.cmp .notin (.var 2) (.tup (.cons (.str (wd 7)) (.cons (.str (wd 8)) (.cons (.str (wd 9)) (.cons (.str (wd 10)) (.cons (.str (wd 11)) .nil))))))) (.cons (.ret (.bl false)) .nil) .nil) (.cons (.ret (.and (.cons (.call f_l_is_saying (.cons (.idx (.var 3) (.int 0)) (.cons (.bin .add (.var 1) (.int 1)) .nil))) (.cons (.call f_l_is_saying (.cons (.idx (.var 3) (.int 1)) (.cons (.bin .add (.var 1) (.int 1)) .nil))) .nil)))) .nil))))))))
def d_l_is_saying : Fd := ⟨b_l_is_saying, 6, 2, true⟩
def b_law01 : Ss := (.cons (.for_ (.n 1) (.rng1 (.int 8)) (.cons (.asg 2 (.call f_l_saying (.cons (.bin .add (.call f_l_cell (.cons (.var 0) (.cons (.var 1) .nil))) (.bin .mul (.int 3) (.var 1))) (.cons (.int 3) (.cons (.int 6) .nil))))) (.cons (.ite (.or (.cons (.cmp .isnot (.call f_is_saying (.cons (.var 2) .nil)) (.bl true)) (.cons (.cmp .isnot (.call f_is_saying (.cons (.blt .list (.cons (.var 2) .nil)) .nil)) (.bl false)) .nil))) (.cons (.ret (.bl false)) .nil) .nil) (.cons (.ite (.cmp .ne (.call f_dice_in (.cons (.var 2) .nil)) (.call f_l_many (.cons (.var 2) .nil))) (.cons (.ret (.bl false)) .nil) .nil) (.cons (.for_ (.n 3) (.rng1 (.int 16)) (.cons (.asg 4 (.call f_l_odd_a (.cons (.var 2) (.cons (.bin .add (.bin .add (.call f_l_cell (.cons (.var 0) (.cons (.int 9) .nil))) (.bin .mul (.int 17) (.var 3))) (.bin .mul (.int 3) (.var 1))) .nil)))) (.cons (.asg 5 (.and (.cons (.call f_l_is_saying (.cons (.var 4) (.cons (.int 1) .nil))) (.cons (.cmp .le (.call f_l_many (.cons (.var 4) .nil)) (.int 6)) .nil)))) (.cons (.asg 6 (.call f_is_saying (.cons (.var 4) .nil))) (.cons (.ite (.or (.cons (.and (.cons (.cmp .isnot (.var 6) (.bl true)) (.cons (.tru (.var 5)) .nil))) (.cons (.and (.cons (.cmp .isnot (.var 6) (.bl false)) (.cons (.not (.tru (.var 5))) .nil))) .nil))) (.cons (.ret (.bl false)) .nil) .nil) .nil))))) (.cons (.asg 7 (.call f_l_saying (.cons (.bin .add (.call f_l_cell (.cons (.var 0) (.cons (.int 8) .nil))) (.var 1)) (.cons (.int 2) (.cons (.int 3) .nil))))) (.cons (.ite (.cmp .isnot (.call f_is_saying (.cons (.tup (.cons (.str (wd 7)) (.cons (.var 7) (.cons (.var 7) .nil)))) .nil)) (.bl true)) (.cons (.ret (.bl false)) .nil) .nil) (.cons (.for_ (.n 8) (.seq (.call f_l_bad_a .nil)) (.cons (.for_ (.n 9) (.seq (.tup (.cons (.var 8) (.cons (.tup (.cons (.str (wd 8)) (.cons (.var 7) (.cons (.var 8) .nil)))) (.cons (.tup (.cons (.str (wd 10)) (.cons (.var 8) (.cons (.var 7) .nil)))) (.cons (.tup (.cons (.str (wd 12)) (.cons (.int 2) (.cons (.var 8) .nil)))) .nil)))))) (.cons (.ite (.cmp .isnot (.call f_is_saying (.cons (.var 9) .nil)) (.bl false)) (.cons (.ret (.bl false)) .nil) .nil) .nil)) .nil)) .nil)))))))) (.cons (.asg 10 (.lst (.cons (.tup (.cons (.str (wd 1)) (.cons (.int 3) (.cons (.int 2) .nil)))) (.cons (.tup (.cons (.str (wd 2)) (.cons (.int 3) (.cons (.int 6) (.cons (.int 3) .nil))))) (.cons (.tup (.cons (.str (wd 4)) (.cons (.int 3) (.cons (.int 6) (.cons (.int 5) .nil))))) .nil))))) (.cons (.asg 10 (.bin .add (.var 10) (.lst (.cons (.tup (.cons (.str (wd 5)) (.cons (.int 3) (.cons (.int 2) (.cons (.int 2) .nil))))) (.cons (.tup (.cons (.str (wd 6)) (.cons (.int 3) (.cons (.int 6) (.cons (.int 6) .nil))))) .nil))))) (.cons (.for_ (.n 11) (.seq (.bin .add (.var 10) (.lst (.cons (.tup (.cons (.str (wd 12)) (.cons (.int 3) (.cons (.tup (.cons (.str (wd 0)) (.cons (.int 9) .nil))) .nil)))) .nil)))) (.cons (.ite (.cmp .isnot (.call f_is_saying (.cons (.var 11) .nil)) (.bl true)) (.cons (.ret (.bl false)) .nil) .nil) .nil)) (.cons (.asg 12 (.tup (.cons (.str (wd 1)) (.cons (.int 3) (.cons (.int 6) .nil))))) (.cons (.for_ (.n 13) (.rng1 (.int 3)) (.cons (.ite (.cmp .isnot (.call f_is_saying (.cons (.var 12) .nil)) (.bl true)) (.cons (.ret (.bl false)) .nil) .nil) (.cons (.asg 12 (.idx (.tup (.cons (.tup (.cons (.str (wd 12)) (.cons (.int 2) (.cons (.var 12) .nil)))) (.cons (.tup (.cons (.str (wd 7)) (.cons (.tup (.cons (.str (wd 0)) (.cons (.int 0) .nil))) (.cons (.var 12) .nil)))) (.cons (.tup (.cons (.str (wd 9)) (.cons (.var 12) (.cons (.tup (.cons (.str (wd 0)) (.cons (.int 9) .nil))) .nil)))) .nil)))) (.var 13))) .nil))) (.cons (.asg 14 (.tup (.cons (.str (wd 7)) (.cons (.tup (.cons (.str (wd 1)) (.cons (.int 3) (.cons (.int 6) .nil)))) (.cons (.tup (.cons (.str (wd 1)) (.cons (.int 3) (.cons (.int 6) .nil)))) .nil))))) (.cons (.ret (.and (.cons (.cmp .is (.call f_is_saying (.cons (.var 12) .nil)) (.bl false)) (.cons (.cmp .is (.call f_is_saying (.cons (.var 14) .nil)) (.bl true)) (.cons (.cmp .is (.call f_is_saying (.cons (.tup (.cons (.str (wd 10)) (.cons (.var 14) (.cons (.tup (.cons (.str (wd 1)) (.cons (.int 1) (.cons (.int 2) .nil)))) .nil)))) .nil)) (.bl false)) .nil))))) .nil))))))))
def d_law01 : Fd := ⟨b_law01, 15, 1, true⟩
def b_divisor : Ss := (.cons (.whl (.cmp .ne (.var 1) (.int 0)) (.cons (.par 0 1 (.var 1) (.bin .mod (.var 0) (.var 1))) .nil)) (.cons (.ret (.var 0)) .nil))
def d_divisor : Fd := ⟨b_divisor, 2, 2, true⟩
def b_fraction : Ss := (.cons (.asg 2 (.call f_divisor (.cons (.blt .abs (.cons (.var 0) .nil)) (.cons (.var 1) .nil)))) (.cons (.ret (.tup (.cons (.bin .div (.var 0) (.var 2)) (.cons (.bin .div (.var 1) (.var 2)) .nil)))) .nil))
def d_fraction : Fd := ⟨b_fraction, 3, 2, true⟩
def b_sum_of : Ss := (.cons (.ret (.call f_fraction (.cons (.bin .add (.bin .mul (.idx (.var 0) (.int 0)) (.idx (.var 1) (.int 1))) (.bin .mul (.idx (.var 1) (.int 0)) (.idx (.var 0) (.int 1)))) (.cons (.bin .mul (.idx (.var 0) (.int 1)) (.idx (.var 1) (.int 1))) .nil)))) .nil)
def d_sum_of : Fd := ⟨b_sum_of, 2, 2, true⟩
def b_product : Ss := (.cons (.ret (.call f_fraction (.cons (.bin .mul (.idx (.var 0) (.int 0)) (.idx (.var 1) (.int 0))) (.cons (.bin .mul (.idx (.var 0) (.int 1)) (.idx (.var 1) (.int 1))) .nil)))) .nil)
def d_product : Fd := ⟨b_product, 2, 2, true⟩
def b_added : Ss := (.cons (.setI (.var 0) (.var 1) (.call f_sum_of (.cons (.mth .get (.var 0) (.cons (.var 1) (.cons (.tup (.cons (.int 0) (.cons (.int 1) .nil))) .nil))) (.cons (.var 2) .nil)))) .nil)
def d_added : Fd := ⟨b_added, 3, 3, true⟩
def b_put_together : Ss := (.cons (.asg 3 .dI0) (.cons (.for_ (.n 4) (.seq (.var 0)) (.cons (.for_ (.n 5) (.seq (.var 1)) (.cons (.ex (.call f_added (.cons (.var 3) (.cons (.call f_of_two (.cons (.var 2) (.cons (.var 4) (.cons (.var 5) .nil)))) (.cons (.call f_product (.cons (.idx (.var 0) (.var 4)) (.cons (.idx (.var 1) (.var 5)) .nil))) .nil))))) .nil)) .nil)) (.cons (.frzV 3) (.cons (.ret (.var 3)) .nil))))
def d_put_together : Fd := ⟨b_put_together, 6, 3, true⟩
def b_of_two : Ss := (.cons (.ite (.cmp .eq (.var 0) (.str (wd 7))) (.cons (.ret (.bin .add (.var 1) (.var 2))) .nil) .nil) (.cons (.ite (.cmp .eq (.var 0) (.str (wd 8))) (.cons (.ret (.bin .sub (.var 1) (.var 2))) .nil) .nil) (.cons (.ite (.cmp .eq (.var 0) (.str (wd 9))) (.cons (.ret (.blt .max2 (.cons (.var 1) (.cons (.var 2) .nil)))) .nil) .nil) (.cons (.ite (.cmp .eq (.var 0) (.str (wd 10))) (.cons (.ret (.blt .min2 (.cons (.var 1) (.cons (.var 2) .nil)))) .nil) .nil) (.cons (.ret (.blt .int (.cons (.cmp .gt (.var 1) (.var 2)) .nil))) .nil)))))
def d_of_two : Fd := ⟨b_of_two, 3, 3, true⟩
def b_one_die : Ss := (.cons (.asg 3 .dI0) (.cons (.for_ (.n 4) (.rng2 (.int 1) (.bin .add (.var 1) (.int 1))) (.cons (.ite (.cmp .eq (.var 0) (.str (wd 6))) (.cons (.ex (.call f_added (.cons (.var 3) (.cons (.blt .int (.cons (.cmp .ge (.var 4) (.var 2)) .nil)) (.cons (.tup (.cons (.int 1) (.cons (.var 1) .nil))) .nil))))) .nil) (.cons (.ite (.or (.cons (.and (.cons (.cmp .eq (.var 0) (.str (wd 4))) (.cons (.cmp .le (.var 4) (.var 2)) .nil))) (.cons (.and (.cons (.cmp .eq (.var 0) (.str (wd 5))) (.cons (.cmp .eq (.var 4) (.var 1)) (.cons (.cmp .gt (.var 2) (.int 0)) .nil)))) .nil))) (.cons (.asg 5 (.call f_one_die (.cons (.idx (.tup (.cons (.str (wd 1)) (.cons (.str (wd 5)) .nil))) (.blt .int (.cons (.cmp .eq (.var 0) (.str (wd 5))) .nil))) (.cons (.var 1) (.cons (.bin .sub (.var 2) (.int 1)) .nil))))) (.cons (.for_ (.n 6) (.seq (.var 5)) (.cons (.ex (.call f_added (.cons (.var 3) (.cons (.bin .add (.var 6) (.bin .mul (.var 4) (.blt .int (.cons (.cmp .eq (.var 0) (.str (wd 5))) .nil)))) (.cons (.call f_product (.cons (.idx (.var 5) (.var 6)) (.cons (.tup (.cons (.int 1) (.cons (.var 1) .nil))) .nil))) .nil))))) .nil)) .nil)) (.cons (.ex (.call f_added (.cons (.var 3) (.cons (.var 4) (.cons (.tup (.cons (.int 1) (.cons (.var 1) .nil))) .nil))))) .nil)) .nil)) .nil)) (.cons (.frzV 3) (.cons (.ret (.var 3)) .nil))))
def d_one_die : Fd := ⟨b_one_die, 7, 3, true⟩
def b_kept_shares : Ss := (.cons (.asg 4 (.dT1 (.tup (.cons (.int 1) (.cons (.int 1) .nil))))) (.cons (.for_ (.n 5) (.rng1 (.var 1)) (.cons (.asg 6 .dT0) (.cons (.for_ (.n 7) (.seq (.var 4)) (.cons (.for_ (.n 8) (.rng2 (.int 1) (.bin .add (.var 2) (.int 1))) (.cons (.ex (.call f_added (.cons (.var 6) (.cons (.blt .tuple (.cons (.blt .sorted (.cons (.bin .add (.var 7) (.tup (.cons (.var 8) .nil))) .nil)) .nil)) (.cons (.call f_product (.cons (.idx (.var 4) (.var 7)) (.cons (.tup (.cons (.int 1) (.cons (.var 2) .nil))) .nil))) .nil))))) .nil)) .nil)) (.cons (.frzV 6) (.cons (.asg 4 (.var 6)) .nil))))) (.cons (.asg 9 .dI0) (.cons (.for_ (.n 7) (.seq (.var 4)) (.cons (.asg 10 (.sl (.var 7) .no (.yes (.var 3)))) (.cons (.ite (.cmp .eq (.var 0) (.str (wd 2))) (.cons (.asg 10 (.sl (.var 7) (.yes (.bin .sub (.var 1) (.var 3))) .no)) .nil) .nil) (.cons (.ex (.call f_added (.cons (.var 9) (.cons (.blt .sum (.cons (.var 10) .nil)) (.cons (.idx (.var 4) (.var 7)) .nil))))) .nil)))) (.cons (.frzV 9) (.cons (.ret (.var 9)) .nil))))))
def d_kept_shares : Fd := ⟨b_kept_shares, 11, 4, true⟩
def b_book_of : Ss := (.cons (.asg 1 (.idx (.var 0) (.int 0))) (.cons (.ite (.cmp .eq (.var 1) (.str (wd 0))) (.cons (.ret (.dI1 (.idx (.var 0) (.int 1)) (.tup (.cons (.int 1) (.cons (.int 1) .nil))))) .nil) .nil) (.cons (.ite (.cmp .isin (.var 1) (.tup (.cons (.str (wd 2)) (.cons (.str (wd 3)) .nil)))) (.cons (.ret (.call f_kept_shares (.cons (.var 1) (.cons (.idx (.var 0) (.int 1)) (.cons (.idx (.var 0) (.int 2)) (.cons (.idx (.var 0) (.int 3)) .nil)))))) .nil) .nil) (.cons (.ite (.cmp .isin (.var 1) (.glo 1)) (.cons (.asg 2 (.call f_one_die (.cons (.var 1) (.cons (.idx (.var 0) (.int 2)) (.cons (.idx (.bin .add (.var 0) (.tup (.cons (.int 0) .nil))) (.int 3)) .nil))))) (.cons (.asg 3 (.dI1 (.int 0) (.tup (.cons (.int 1) (.cons (.int 1) .nil))))) (.cons (.for_ (.n 4) (.rng1 (.idx (.var 0) (.int 1))) (.cons (.asg 3 (.call f_put_together (.cons (.var 3) (.cons (.var 2) (.cons (.str (wd 7)) .nil))))) .nil)) (.cons (.ret (.var 3)) .nil)))) .nil) (.cons (.ite (.cmp .eq (.var 1) (.str (wd 12))) (.cons (.asg 3 .dI0) (.cons (.asg 5 (.call f_book_of (.cons (.idx (.var 0) (.int 2)) .nil))) (.cons (.for_ (.n 6) (.seq (.var 5)) (.cons (.ex (.call f_added (.cons (.var 3) (.cons (.bin .mul (.var 6) (.idx (.var 0) (.int 1))) (.cons (.idx (.var 5) (.var 6)) .nil))))) .nil)) (.cons (.frzV 3) (.cons (.ret (.var 3)) .nil))))) .nil) (.cons (.ret (.call f_put_together (.cons (.call f_book_of (.cons (.idx (.var 0) (.int 1)) .nil)) (.cons (.call f_book_of (.cons (.idx (.var 0) (.int 2)) .nil)) (.cons (.var 1) .nil))))) .nil))))))
def d_book_of : Fd := ⟨b_book_of, 7, 1, true⟩
def b_shares : Ss := (.cons (.asg 1 (.call f_book_of (.cons (.var 0) .nil))) (.cons (.ret (.blt .tuple (.cons (.lc (.tup (.cons (.var 2) (.cons (.idx (.var 1) (.var 2)) .nil))) (.n 2) (.seq (.blt .sorted (.cons (.var 1) .nil))) .tt) .nil))) .nil))
def d_shares : Fd := ⟨b_shares, 3, 1, true⟩
def b_share_of : Ss := (.cons (.ret (.mth .get (.call f_book_of (.cons (.var 0) .nil)) (.cons (.var 1) (.cons (.tup (.cons (.int 0) (.cons (.int 1) .nil))) .nil)))) .nil)
def d_share_of : Fd := ⟨b_share_of, 2, 2, true⟩
def b_share_from : Ss := (.cons (.asg 2 (.tup (.cons (.int 0) (.cons (.int 1) .nil)))) (.cons (.for_ (.t [3, 4]) (.seq (.var 0)) (.cons (.ite (.cmp .ge (.var 3) (.var 1)) (.cons (.asg 2 (.call f_sum_of (.cons (.var 2) (.cons (.var 4) .nil)))) .nil) .nil) .nil)) (.cons (.ret (.var 2)) .nil)))
def d_share_from : Fd := ⟨b_share_from, 5, 2, true⟩
def b_at_least : Ss := (.cons (.ret (.call f_share_from (.cons (.call f_shares (.cons (.var 0) .nil)) (.cons (.var 1) .nil)))) .nil)
def d_at_least : Fd := ⟨b_at_least, 2, 2, true⟩
def b_l_divisor : Ss := (.cons (.whl (.tru (.var 1)) (.cons (.par 0 1 (.var 1) (.bin .mod (.var 0) (.var 1))) .nil)) (.cons (.ret (.var 0)) .nil))
def d_l_divisor : Fd := ⟨b_l_divisor, 2, 2, true⟩
def b_l_fraction : Ss := (.cons (.asg 2 (.call f_l_divisor (.cons (.blt .abs (.cons (.var 0) .nil)) (.cons (.var 1) .nil)))) (.cons (.ret (.tup (.cons (.bin .div (.var 0) (.var 2)) (.cons (.bin .div (.var 1) (.var 2)) .nil)))) .nil))
def d_l_fraction : Fd := ⟨b_l_fraction, 3, 2, true⟩
def b_l_two : Ss := (.cons (.ite (.cmp .eq (.var 0) (.str (wd 7))) (.cons (.ret (.bin .add (.var 1) (.var 2))) .nil) .nil) (.cons (.ite (.cmp .eq (.var 0) (.str (wd 8))) (.cons (.ret (.bin .sub (.var 1) (.var 2))) .nil) .nil) (.cons (.ite (.cmp .eq (.var 0) (.str (wd 11))) (.cons (.ret (.blt .int (.cons (.cmp .gt (.var 1) (.var 2)) .nil))) .nil) .nil) (.cons (.asg 3 (.blt .sorted (.cons (.lst (.cons (.var 1) (.cons (.var 2) .nil))) .nil))) (.cons (.ret (.idx (.var 3) (.blt .int (.cons (.cmp .eq (.var 0) (.str (wd 9))) .nil)))) .nil)))))
def d_l_two : Fd := ⟨b_l_two, 4, 3, true⟩
def b_l_die : Ss := (.cons (.asg 3 .dI0) (.cons (.asg 4 (.bin .mul (.bin .mul (.var 1) (.var 1)) (.var 1))) (.cons (.for_ (.n 5) (.rng2 (.int 1) (.bin .add (.var 1) (.int 1))) (.cons (.for_ (.n 6) (.rng2 (.int 1) (.bin .add (.var 1) (.int 1))) (.cons (.for_ (.n 7) (.rng2 (.int 1) (.bin .add (.var 1) (.int 1))) (.cons (.asg 8 (.var 5)) (.cons (.ite (.cmp .eq (.var 0) (.str (wd 6))) (.cons (.asg 8 (.blt .int (.cons (.cmp .ge (.var 5) (.var 2)) .nil))) .nil) .nil) (.cons (.ite (.and (.cons (.cmp .eq (.var 0) (.str (wd 4))) (.cons (.cmp .le (.var 5) (.var 2)) .nil))) (.cons (.asg 8 (.var 6)) .nil) .nil) (.cons (.ite (.and (.cons (.cmp .eq (.var 0) (.str (wd 5))) (.cons (.cmp .eq (.var 5) (.var 1)) .nil))) (.cons (.asg 8 (.bin .add (.var 5) (.var 6))) (.cons (.ite (.and (.cons (.cmp .eq (.var 6) (.var 1)) (.cons (.cmp .eq (.var 2) (.int 2)) .nil))) (.cons (.asg 8 (.bin .add (.var 8) (.var 7))) .nil) .nil) .nil)) .nil) (.cons (.setI (.var 3) (.var 8) (.bin .add (.mth .get (.var 3) (.cons (.var 8) (.cons (.int 0) .nil))) (.int 1))) .nil)))))) .nil)) .nil)) (.cons (.frzV 3) (.cons (.ret (.tup (.cons (.var 3) (.cons (.var 4) .nil)))) .nil)))))
def d_l_die : Fd := ⟨b_l_die, 9, 3, true⟩
def b_l_kept : Ss := (.cons (.asgT [1, 2, 3, 4] (.var 0)) (.cons (.asg 5 (.lst (.cons (.lst .nil) .nil))) (.cons (.for_ (.n 6) (.rng1 (.var 2)) (.cons (.asg 7 (.lstM .nil)) (.cons (.for_ (.n 8) (.seq (.var 5)) (.cons (.ex (.mth .extend (.var 7) (.cons (.lc (.bin .add (.var 8) (.lst (.cons (.var 11) .nil))) (.n 11) (.rng2 (.int 1) (.bin .add (.var 3) (.int 1))) .tt) .nil))) .nil)) (.cons (.frzV 7) (.cons (.asg 5 (.var 7)) .nil))))) (.cons (.asg 9 .dI0) (.cons (.for_ (.n 8) (.seq (.var 5)) (.cons (.asg 8 (.blt .sorted (.cons (.var 8) .nil))) (.cons (.asg 10 (.ite (.cmp .eq (.var 1) (.str (wd 2))) (.blt .sum (.cons (.sl (.var 8) (.yes (.bin .sub (.blt .len (.cons (.var 8) .nil)) (.var 4))) .no) .nil)) (.blt .sum (.cons (.sl (.var 8) .no (.yes (.var 4))) .nil)))) (.cons (.setI (.var 9) (.var 10) (.bin .add (.mth .get (.var 9) (.cons (.var 10) (.cons (.int 0) .nil))) (.int 1))) .nil)))) (.cons (.frzV 9) (.cons (.ret (.tup (.cons (.var 9) (.cons (.blt .len (.cons (.var 5) .nil)) .nil)))) .nil)))))))
def d_l_kept : Fd := ⟨b_l_kept, 12, 1, true⟩
def b_l_book : Ss := (.cons (.asg 1 (.idx (.var 0) (.int 0))) (.cons (.ite (.cmp .eq (.var 1) (.str (wd 0))) (.cons (.ret (.tup (.cons (.dI1 (.idx (.var 0) (.int 1)) (.int 1)) (.cons (.int 1) .nil)))) .nil) .nil) (.cons (.ite (.cmp .isin (.var 1) (.tup (.cons (.str (wd 2)) (.cons (.str (wd 3)) .nil)))) (.cons (.ret (.call f_l_kept (.cons (.var 0) .nil))) .nil) .nil) (.cons (.ite (.cmp .isin (.var 1) (.tup (.cons (.str (wd 1)) (.cons (.str (wd 4)) (.cons (.str (wd 5)) (.cons (.str (wd 6)) .nil)))))) (.cons (.asgT [2, 3] (.call f_l_die (.cons (.var 1) (.cons (.idx (.var 0) (.int 2)) (.cons (.idx (.bin .add (.var 0) (.tup (.cons (.int 0) .nil))) (.int 3)) .nil))))) (.cons (.par 4 5 (.dI1 (.int 0) (.int 1)) (.int 1)) (.cons (.for_ (.n 6) (.rng1 (.idx (.var 0) (.int 1))) (.cons (.asgT [4, 5] (.call f_l_both (.cons (.str (wd 7)) (.cons (.tup (.cons (.var 4) (.cons (.var 5) .nil))) (.cons (.tup (.cons (.var 2) (.cons (.var 3) .nil))) .nil))))) .nil)) (.cons (.ret (.tup (.cons (.var 4) (.cons (.var 5) .nil)))) .nil)))) .nil) (.cons (.ite (.cmp .eq (.var 1) (.str (wd 12))) (.cons (.asgT [7, 5] (.call f_l_book (.cons (.idx (.var 0) (.int 2)) .nil))) (.cons (.asg 4 .dI0) (.cons (.for_ (.n 8) (.seq (.var 7)) (.cons (.setI (.var 4) (.bin .mul (.var 8) (.idx (.var 0) (.int 1))) (.bin .add (.mth .get (.var 4) (.cons (.bin .mul (.var 8) (.idx (.var 0) (.int 1))) (.cons (.int 0) .nil))) (.idx (.var 7) (.var 8)))) .nil)) (.cons (.frzV 4) (.cons (.ret (.tup (.cons (.var 4) (.cons (.var 5) .nil)))) .nil))))) .nil) (.cons (.ret (.call f_l_both (.cons (.var 1) (.cons (.call f_l_book (.cons (.idx (.var 0) (.int 1)) .nil)) (.cons (.call f_l_book (.cons (.idx (.var 0) (.int 2)) .nil)) .nil))))) .nil))))))
def d_l_book : Fd := ⟨b_l_book, 9, 1, true⟩
def b_l_both : Ss := (.cons (.asg 3 .dI0) (.cons (.for_ (.n 4) (.seq (.idx (.var 1) (.int 0))) (.cons (.for_ (.n 5) (.seq (.idx (.var 2) (.int 0))) (.cons (.asg 6 (.call f_l_two (.cons (.var 0) (.cons (.var 4) (.cons (.var 5) .nil))))) (.cons (.setI (.var 3) (.var 6) (.bin .add (.mth .get (.var 3) (.cons (.var 6) (.cons (.int 0) .nil))) (.bin .mul (.idx (.idx (.var 1) (.int 0)) (.var 4)) (.idx (.idx (.var 2) (.int 0)) (.var 5))))) .nil))) .nil)) (.cons (.frzV 3) (.cons (.ret (.tup (.cons (.var 3) (.cons (.bin .mul (.idx (.var 1) (.int 1)) (.idx (.var 2) (.int 1))) .nil)))) .nil))))
def d_l_both : Fd := ⟨b_l_both, 7, 3, true⟩
def b_l_shares : Ss := (.cons (.asgT [1, 2] (.call f_l_book (.cons (.var 0) .nil))) (.cons (.ret (.blt .tuple (.cons (.lc (.tup (.cons (.var 3) (.cons (.call f_l_fraction (.cons (.idx (.var 1) (.var 3)) (.cons (.var 2) .nil))) .nil))) (.n 3) (.seq (.blt .sorted (.cons (.var 1) .nil))) .tt) .nil))) .nil))
def d_l_shares : Fd := ⟨b_l_shares, 4, 1, true⟩
def b_law02 : Ss := (.cons (.for_ (.n 1) (.rng1 (.int 6)) (.cons (.asg 2 (.call f_l_saying (.cons (.bin .add (.call f_l_cell (.cons (.var 0) (.cons (.var 1) .nil))) (.bin .mul (.int 3) (.var 1))) (.cons (.int 3) (.cons (.int 6) .nil))))) (.cons (.asg 3 (.call f_l_shares (.cons (.var 2) .nil))) (.cons (.ite (.not (.tru (.call f_l_same (.cons (.call f_shares (.cons (.var 2) .nil)) (.cons (.var 3) .nil))))) (.cons (.ret (.bl false)) .nil) .nil) (.cons (.asgT [4, 5] (.call f_l_book (.cons (.var 2) .nil))) (.cons (.for_ (.n 6) (.rng2 (.bin .sub (.idx (.idx (.var 3) (.int 0)) (.int 0)) (.int 2)) (.bin .add (.idx (.idx (.var 3) (.neg (.int 1))) (.int 0)) (.int 3))) (.cons (.asg 7 (.blt .sum (.cons (.lc (.idx (.var 4) (.var 9)) (.n 9) (.seq (.var 4)) (.cmp .ge (.var 9) (.var 6))) .nil))) (.cons (.asg 8 (.tup (.cons (.call f_share_of (.cons (.var 2) (.cons (.var 6) .nil))) (.cons (.call f_at_least (.cons (.var 2) (.cons (.var 6) .nil))) .nil)))) (.cons (.ite (.not (.tru (.call f_l_same (.cons (.var 8) (.cons (.tup (.cons (.call f_l_fraction (.cons (.mth .get (.var 4) (.cons (.var 6) (.cons (.int 0) .nil))) (.cons (.var 5) .nil))) (.cons (.call f_l_fraction (.cons (.var 7) (.cons (.var 5) .nil))) .nil))) .nil))))) (.cons (.ret (.bl false)) .nil) .nil) .nil)))) .nil)))))) (.cons (.ret (.cmp .eq (.call f_shares (.cons (.tup (.cons (.str (wd 1)) (.cons (.int 2) (.cons (.int 2) .nil)))) .nil)) (.tup (.cons (.tup (.cons (.int 2) (.cons (.tup (.cons (.int 1) (.cons (.int 4) .nil))) .nil))) (.cons (.tup (.cons (.int 3) (.cons (.tup (.cons (.int 1) (.cons (.int 2) .nil))) .nil))) (.cons (.tup (.cons (.int 4) (.cons (.tup (.cons (.int 1) (.cons (.int 4) .nil))) .nil))) .nil)))))) .nil))
def d_law02 : Fd := ⟨b_law02, 10, 1, true⟩
def b_law03 : Ss := (.cons (.asg 1 (.bin .add (.int 2) (.call f_l_mix (.cons (.call f_l_cell (.cons (.var 0) (.cons (.int 0) .nil))) (.cons (.int 9901) (.cons (.int 5) .nil)))))) (.cons (.asg 2 (.blt .tuple (.cons (.lc (.tup (.cons (.var 4) (.cons (.tup (.cons (.int 1) (.cons (.var 1) .nil))) .nil))) (.n 4) (.rng2 (.int 1) (.bin .add (.var 1) (.int 1))) .tt) .nil))) (.cons (.ite (.cmp .ne (.lc (.call f_shares (.cons (.var 5) .nil)) (.n 5) (.seq (.tup (.cons (.tup (.cons (.str (wd 1)) (.cons (.int 1) (.cons (.var 1) .nil)))) (.cons (.tup (.cons (.str (wd 2)) (.cons (.int 1) (.cons (.var 1) (.cons (.int 1) .nil))))) (.cons (.tup (.cons (.str (wd 3)) (.cons (.int 1) (.cons (.var 1) (.cons (.int 1) .nil))))) .nil))))) .tt) (.bin .mul (.lst (.cons (.var 2) .nil)) (.int 3))) (.cons (.ret (.bl false)) .nil) .nil) (.cons (.ite (.cmp .ne (.call f_shares (.cons (.tup (.cons (.str (wd 2)) (.cons (.int 2) (.cons (.int 2) (.cons (.int 1) .nil))))) .nil)) (.tup (.cons (.tup (.cons (.int 1) (.cons (.tup (.cons (.int 1) (.cons (.int 4) .nil))) .nil))) (.cons (.tup (.cons (.int 2) (.cons (.tup (.cons (.int 3) (.cons (.int 4) .nil))) .nil))) .nil)))) (.cons (.ret (.bl false)) .nil) .nil) (.cons (.ite (.cmp .ne (.call f_shares (.cons (.tup (.cons (.str (wd 3)) (.cons (.int 2) (.cons (.int 2) (.cons (.int 1) .nil))))) .nil)) (.tup (.cons (.tup (.cons (.int 1) (.cons (.tup (.cons (.int 3) (.cons (.int 4) .nil))) .nil))) (.cons (.tup (.cons (.int 2) (.cons (.tup (.cons (.int 1) (.cons (.int 4) .nil))) .nil))) .nil)))) (.cons (.ret (.bl false)) .nil) .nil) (.cons (.ite (.cmp .ne (.call f_shares (.cons (.tup (.cons (.str (wd 4)) (.cons (.int 1) (.cons (.int 2) (.cons (.int 1) .nil))))) .nil)) (.tup (.cons (.tup (.cons (.int 1) (.cons (.tup (.cons (.int 1) (.cons (.int 4) .nil))) .nil))) (.cons (.tup (.cons (.int 2) (.cons (.tup (.cons (.int 3) (.cons (.int 4) .nil))) .nil))) .nil)))) (.cons (.ret (.bl false)) .nil) .nil) (.cons (.ite (.cmp .ne (.call f_shares (.cons (.tup (.cons (.str (wd 6)) (.cons (.int 2) (.cons (.int 2) (.cons (.int 2) .nil))))) .nil)) (.tup (.cons (.tup (.cons (.int 0) (.cons (.tup (.cons (.int 1) (.cons (.int 4) .nil))) .nil))) (.cons (.tup (.cons (.int 1) (.cons (.tup (.cons (.int 1) (.cons (.int 2) .nil))) .nil))) (.cons (.tup (.cons (.int 2) (.cons (.tup (.cons (.int 1) (.cons (.int 4) .nil))) .nil))) .nil))))) (.cons (.ret (.bl false)) .nil) .nil) (.cons (.ite (.cmp .ne (.call f_shares (.cons (.tup (.cons (.str (wd 5)) (.cons (.int 1) (.cons (.int 2) (.cons (.int 1) .nil))))) .nil)) (.tup (.cons (.tup (.cons (.int 1) (.cons (.tup (.cons (.int 1) (.cons (.int 2) .nil))) .nil))) (.cons (.tup (.cons (.int 3) (.cons (.tup (.cons (.int 1) (.cons (.int 4) .nil))) .nil))) (.cons (.tup (.cons (.int 4) (.cons (.tup (.cons (.int 1) (.cons (.int 4) .nil))) .nil))) .nil))))) (.cons (.ret (.bl false)) .nil) .nil) (.cons (.ite (.cmp .ne (.call f_shares (.cons (.tup (.cons (.str (wd 5)) (.cons (.int 1) (.cons (.int 2) (.cons (.int 2) .nil))))) .nil)) (.tup (.cons (.tup (.cons (.int 1) (.cons (.tup (.cons (.int 1) (.cons (.int 2) .nil))) .nil))) (.cons (.tup (.cons (.int 3) (.cons (.tup (.cons (.int 1) (.cons (.int 4) .nil))) .nil))) (.cons (.tup (.cons (.int 5) (.cons (.tup (.cons (.int 1) (.cons (.int 8) .nil))) .nil))) (.cons (.tup (.cons (.int 6) (.cons (.tup (.cons (.int 1) (.cons (.int 8) .nil))) .nil))) .nil)))))) (.cons (.ret (.bl false)) .nil) .nil) (.cons (.asg 3 (.tup (.cons (.str (wd 1)) (.cons (.int 1) (.cons (.int 2) .nil))))) (.cons (.ite (.cmp .ne (.call f_shares (.cons (.tup (.cons (.str (wd 11)) (.cons (.var 3) (.cons (.var 3) .nil)))) .nil)) (.tup (.cons (.tup (.cons (.int 0) (.cons (.tup (.cons (.int 3) (.cons (.int 4) .nil))) .nil))) (.cons (.tup (.cons (.int 1) (.cons (.tup (.cons (.int 1) (.cons (.int 4) .nil))) .nil))) .nil)))) (.cons (.ret (.bl false)) .nil) .nil) (.cons (.ite (.cmp .ne (.call f_shares (.cons (.tup (.cons (.str (wd 8)) (.cons (.var 3) (.cons (.var 3) .nil)))) .nil)) (.tup (.cons (.tup (.cons (.neg (.int 1)) (.cons (.tup (.cons (.int 1) (.cons (.int 4) .nil))) .nil))) (.cons (.tup (.cons (.int 0) (.cons (.tup (.cons (.int 1) (.cons (.int 2) .nil))) .nil))) (.cons (.tup (.cons (.int 1) (.cons (.tup (.cons (.int 1) (.cons (.int 4) .nil))) .nil))) .nil))))) (.cons (.ret (.bl false)) .nil) .nil) (.cons (.ret (.and (.cons (.cmp .eq (.call f_shares (.cons (.tup (.cons (.str (wd 12)) (.cons (.int 3) (.cons (.var 3) .nil)))) .nil)) (.tup (.cons (.tup (.cons (.int 3) (.cons (.tup (.cons (.int 1) (.cons (.int 2) .nil))) .nil))) (.cons (.tup (.cons (.int 6) (.cons (.tup (.cons (.int 1) (.cons (.int 2) .nil))) .nil))) .nil)))) (.cons (.cmp .eq (.call f_shares (.cons (.tup (.cons (.str (wd 12)) (.cons (.int 0) (.cons (.var 3) .nil)))) .nil)) (.tup (.cons (.tup (.cons (.int 0) (.cons (.tup (.cons (.int 1) (.cons (.int 1) .nil))) .nil))) .nil))) .nil)))) .nil)))))))))))))
def d_law03 : Fd := ⟨b_law03, 6, 1, true⟩
def b_bounds_of_dice : Ss := (.cons (.asgT [1, 2, 3] (.sl (.var 0) .no (.yes (.int 3)))) (.cons (.ite (.cmp .eq (.var 1) (.str (wd 6))) (.cons (.ret (.tup (.cons (.int 0) (.cons (.var 2) .nil)))) .nil) .nil) (.cons (.ite (.cmp .isin (.var 1) (.tup (.cons (.str (wd 2)) (.cons (.str (wd 3)) .nil)))) (.cons (.ret (.tup (.cons (.idx (.var 0) (.int 3)) (.cons (.bin .mul (.idx (.var 0) (.int 3)) (.var 3)) .nil)))) .nil) .nil) (.cons (.ite (.cmp .eq (.var 1) (.str (wd 5))) (.cons (.ret (.tup (.cons (.var 2) (.cons (.bin .mul (.bin .mul (.var 2) (.var 3)) (.bin .add (.idx (.var 0) (.int 3)) (.int 1))) .nil)))) .nil) .nil) (.cons (.ret (.tup (.cons (.var 2) (.cons (.bin .mul (.var 2) (.var 3)) .nil)))) .nil)))))
def d_bounds_of_dice : Fd := ⟨b_bounds_of_dice, 4, 1, true⟩
def b_bounds_of_two : Ss := (.cons (.ite (.cmp .eq (.var 0) (.str (wd 7))) (.cons (.ret (.tup (.cons (.bin .add (.idx (.var 1) (.int 0)) (.idx (.var 2) (.int 0))) (.cons (.bin .add (.idx (.var 1) (.int 1)) (.idx (.var 2) (.int 1))) .nil)))) .nil) .nil) (.cons (.ite (.cmp .eq (.var 0) (.str (wd 8))) (.cons (.ret (.tup (.cons (.bin .sub (.idx (.var 1) (.int 0)) (.idx (.var 2) (.int 1))) (.cons (.bin .sub (.idx (.var 1) (.int 1)) (.idx (.var 2) (.int 0))) .nil)))) .nil) .nil) (.cons (.ite (.cmp .eq (.var 0) (.str (wd 9))) (.cons (.ret (.tup (.cons (.blt .max2 (.cons (.idx (.var 1) (.int 0)) (.cons (.idx (.var 2) (.int 0)) .nil))) (.cons (.blt .max2 (.cons (.idx (.var 1) (.int 1)) (.cons (.idx (.var 2) (.int 1)) .nil))) .nil)))) .nil) .nil) (.cons (.ite (.cmp .eq (.var 0) (.str (wd 10))) (.cons (.ret (.tup (.cons (.blt .min2 (.cons (.idx (.var 1) (.int 0)) (.cons (.idx (.var 2) (.int 0)) .nil))) (.cons (.blt .min2 (.cons (.idx (.var 1) (.int 1)) (.cons (.idx (.var 2) (.int 1)) .nil))) .nil)))) .nil) .nil) (.cons (.ret (.tup (.cons (.blt .int (.cons (.cmp .gt (.idx (.var 1) (.int 0)) (.idx (.var 2) (.int 1))) .nil)) (.cons (.blt .int (.cons (.cmp .gt (.idx (.var 1) (.int 1)) (.idx (.var 2) (.int 0))) .nil)) .nil)))) .nil)))))
def d_bounds_of_two : Fd := ⟨b_bounds_of_two, 3, 3, true⟩
def b_bounds : Ss := (.cons (.ite (.cmp .eq (.idx (.var 0) (.int 0)) (.str (wd 0))) (.cons (.ret (.tup (.cons (.idx (.var 0) (.int 1)) (.cons (.idx (.var 0) (.int 1)) .nil)))) .nil) .nil) (.cons (.ite (.cmp .isin (.idx (.var 0) (.int 0)) (.glo 1)) (.cons (.ret (.call f_bounds_of_dice (.cons (.var 0) .nil))) .nil) .nil) (.cons (.ite (.cmp .eq (.idx (.var 0) (.int 0)) (.str (wd 12))) (.cons (.asgT [1, 2] (.call f_bounds (.cons (.idx (.var 0) (.int 2)) .nil))) (.cons (.ret (.tup (.cons (.blt .min2 (.cons (.bin .mul (.var 1) (.idx (.var 0) (.int 1))) (.cons (.bin .mul (.var 2) (.idx (.var 0) (.int 1))) .nil))) (.cons (.blt .max2 (.cons (.bin .mul (.var 1) (.idx (.var 0) (.int 1))) (.cons (.bin .mul (.var 2) (.idx (.var 0) (.int 1))) .nil))) .nil)))) .nil)) .nil) (.cons (.ret (.call f_bounds_of_two (.cons (.idx (.var 0) (.int 0)) (.cons (.call f_bounds (.cons (.idx (.var 0) (.int 1)) .nil)) (.cons (.call f_bounds (.cons (.idx (.var 0) (.int 2)) .nil)) .nil))))) .nil))))
def d_bounds : Fd := ⟨b_bounds, 3, 1, true⟩
def b_law04 : Ss := (.cons (.for_ (.n 1) (.rng1 (.int 8)) (.cons (.asg 2 (.call f_l_saying (.cons (.bin .add (.call f_l_cell (.cons (.var 0) (.cons (.var 1) .nil))) (.bin .mul (.int 3) (.var 1))) (.cons (.int 3) (.cons (.int 6) .nil))))) (.cons (.asg 3 (.call f_shares (.cons (.var 2) .nil))) (.cons (.asg 4 (.int 1)) (.cons (.for_ (.t [5, 6]) (.seq (.var 3)) (.cons (.ite (.or (.cons (.cmp .lt (.idx (.var 6) (.int 0)) (.int 1)) (.cons (.cmp .ne (.var 6) (.call f_l_fraction (.cons (.idx (.var 6) (.int 0)) (.cons (.idx (.var 6) (.int 1)) .nil)))) (.cons (.cmp .ne (.call f_share_of (.cons (.var 2) (.cons (.var 5) .nil))) (.var 6)) .nil)))) (.cons (.ret (.bl false)) .nil) .nil) (.cons (.asg 4 (.bin .div (.bin .mul (.var 4) (.idx (.var 6) (.int 1))) (.call f_l_divisor (.cons (.var 4) (.cons (.idx (.var 6) (.int 1)) .nil))))) .nil))) (.cons (.ite (.cmp .ne (.blt .sum (.cons (.lc (.bin .mul (.idx (.var 6) (.int 0)) (.bin .div (.var 4) (.idx (.var 6) (.int 1)))) (.t [5, 6]) (.seq (.var 3)) .tt) .nil)) (.var 4)) (.cons (.ret (.bl false)) .nil) .nil) (.cons (.asg 7 (.lc (.var 5) (.t [5, 6]) (.seq (.var 3)) .tt)) (.cons (.ite (.or (.cons (.cmp .ne (.var 7) (.blt .sset (.cons (.var 7) .nil))) (.cons (.not (.tru (.call f_l_same (.cons (.call f_bounds (.cons (.var 2) .nil)) (.cons (.tup (.cons (.idx (.var 7) (.int 0)) (.cons (.idx (.var 7) (.neg (.int 1))) .nil))) .nil))))) .nil))) (.cons (.ret (.bl false)) .nil) .nil) (.cons (.asg 8 (.var 4)) (.cons (.for_ (.t [5, 6]) (.seq (.var 3)) (.cons (.ite (.cmp .ne (.call f_at_least (.cons (.var 2) (.cons (.var 5) .nil))) (.call f_l_fraction (.cons (.var 8) (.cons (.var 4) .nil)))) (.cons (.ret (.bl false)) .nil) .nil) (.cons (.asg 8 (.bin .sub (.var 8) (.bin .mul (.idx (.var 6) (.int 0)) (.bin .div (.var 4) (.idx (.var 6) (.int 1)))))) .nil))) (.cons (.ite (.or (.cons (.cmp .ne (.call f_at_least (.cons (.var 2) (.cons (.bin .add (.idx (.var 7) (.neg (.int 1))) (.int 1)) .nil))) (.tup (.cons (.int 0) (.cons (.int 1) .nil)))) (.cons (.cmp .ne (.call f_share_of (.cons (.var 2) (.cons (.bin .sub (.idx (.var 7) (.int 0)) (.int 1)) .nil))) (.tup (.cons (.int 0) (.cons (.int 1) .nil)))) .nil))) (.cons (.ret (.bl false)) .nil) .nil) (.cons (.ite (.and (.cons (.cmp .isin (.idx (.var 2) (.int 0)) (.tup (.cons (.str (wd 7)) (.cons (.str (wd 9)) (.cons (.str (wd 10)) .nil))))) (.cons (.cmp .ne (.call f_shares (.cons (.tup (.cons (.idx (.var 2) (.int 0)) (.cons (.idx (.var 2) (.int 2)) (.cons (.idx (.var 2) (.int 1)) .nil)))) .nil)) (.var 3)) .nil))) (.cons (.ret (.bl false)) .nil) .nil) .nil)))))))))))) (.cons (.for_ (.n 9) (.rng2 (.int 2) (.int 7)) (.cons (.par 10 11 (.tup (.cons (.str (wd 1)) (.cons (.int 1) (.cons (.var 9) .nil)))) (.tup (.cons (.str (wd 0)) (.cons (.var 9) .nil)))) (.cons (.for_ (.t [12, 13]) (.seq (.tup (.cons (.tup (.cons (.var 11) (.cons (.var 10) .nil))) (.cons (.tup (.cons (.var 10) (.cons (.var 11) .nil))) (.cons (.tup (.cons (.var 10) (.cons (.tup (.cons (.str (wd 0)) (.cons (.int 1) .nil))) .nil))) (.cons (.tup (.cons (.tup (.cons (.str (wd 0)) (.cons (.int 1) .nil))) (.cons (.var 10) .nil))) (.cons (.tup (.cons (.var 11) (.cons (.var 11) .nil))) .nil))))))) (.cons (.asg 3 (.call f_shares (.cons (.tup (.cons (.str (wd 11)) (.cons (.var 12) (.cons (.var 13) .nil)))) .nil))) (.cons (.ite (.not (.tru (.call f_l_same (.cons (.call f_bounds (.cons (.tup (.cons (.str (wd 11)) (.cons (.var 12) (.cons (.var 13) .nil)))) .nil)) (.cons (.tup (.cons (.idx (.idx (.var 3) (.int 0)) (.int 0)) (.cons (.idx (.idx (.var 3) (.neg (.int 1))) (.int 0)) .nil))) .nil))))) (.cons (.ret (.bl false)) .nil) .nil) .nil))) .nil))) (.cons (.ret (.bl true)) .nil)))
def d_law04 : Fd := ⟨b_law04, 14, 1, true⟩
def b_is_less : Ss := (.cons (.ret (.cmp .lt (.bin .mul (.idx (.var 0) (.int 0)) (.idx (.var 1) (.int 1))) (.bin .mul (.idx (.var 1) (.int 0)) (.idx (.var 0) (.int 1))))) .nil)
def d_is_less : Fd := ⟨b_is_less, 2, 2, true⟩
def b_mean : Ss := (.cons (.asg 1 (.tup (.cons (.int 0) (.cons (.int 1) .nil)))) (.cons (.for_ (.t [2, 3]) (.seq (.call f_shares (.cons (.var 0) .nil))) (.cons (.asg 1 (.call f_sum_of (.cons (.var 1) (.cons (.call f_product (.cons (.call f_fraction (.cons (.var 2) (.cons (.int 1) .nil))) (.cons (.var 3) .nil))) .nil)))) .nil)) (.cons (.ret (.var 1)) .nil)))
def d_mean : Fd := ⟨b_mean, 4, 1, true⟩
def b_likeliest : Ss := (.cons (.asg 1 (.call f_shares (.cons (.var 0) .nil))) (.cons (.ret (.blt .tuple (.cons (.lc (.var 2) (.t [2, 3]) (.seq (.var 1)) (.not (.tru (.blt .any (.cons (.lc (.call f_is_less (.cons (.var 3) (.cons (.var 5) .nil))) (.t [4, 5]) (.seq (.var 1)) .tt) .nil))))) .nil))) .nil))
def d_likeliest : Fd := ⟨b_likeliest, 6, 1, true⟩
def b_middle : Ss := (.cons (.asg 1 (.tup (.cons (.int 0) (.cons (.int 1) .nil)))) (.cons (.for_ (.t [2, 3]) (.seq (.call f_shares (.cons (.var 0) .nil))) (.cons (.asg 1 (.call f_sum_of (.cons (.var 1) (.cons (.var 3) .nil)))) (.cons (.ite (.not (.tru (.call f_is_less (.cons (.var 1) (.cons (.tup (.cons (.int 1) (.cons (.int 2) .nil))) .nil))))) (.cons (.ret (.var 2)) .nil) .nil) .nil))) (.cons (.ret .non) .nil)))
def d_middle : Fd := ⟨b_middle, 4, 1, true⟩
def b_law05 : Ss := (.cons (.for_ (.n 1) (.rng1 (.int 8)) (.cons (.asg 2 (.call f_l_saying (.cons (.bin .add (.call f_l_cell (.cons (.var 0) (.cons (.var 1) .nil))) (.bin .mul (.int 3) (.var 1))) (.cons (.int 3) (.cons (.int 6) .nil))))) (.cons (.asgT [3, 4] (.call f_l_book (.cons (.var 2) .nil))) (.cons (.asg 5 (.blt .max (.cons (.lc (.idx (.var 3) (.var 9)) (.n 9) (.seq (.var 3)) .tt) .nil))) (.cons (.asg 6 (.blt .sorted (.cons (.var 3) .nil))) (.cons (.asg 7 (.idx (.lc (.var 9) (.n 9) (.seq (.var 6)) (.cmp .ge (.bin .mul (.int 2) (.blt .sum (.cons (.lc (.idx (.var 3) (.var 10)) (.n 10) (.seq (.var 6)) (.cmp .le (.var 10) (.var 9))) .nil))) (.var 4))) (.int 0))) (.cons (.asg 8 (.call f_l_fraction (.cons (.blt .sum (.cons (.lc (.bin .mul (.var 9) (.idx (.var 3) (.var 9))) (.n 9) (.seq (.var 3)) .tt) .nil)) (.cons (.var 4) .nil)))) (.cons (.ite (.not (.tru (.call f_l_same (.cons (.tup (.cons (.call f_mean (.cons (.var 2) .nil)) (.cons (.call f_middle (.cons (.var 2) .nil)) .nil))) (.cons (.tup (.cons (.var 8) (.cons (.var 7) .nil))) .nil))))) (.cons (.ret (.bl false)) .nil) .nil) (.cons (.ite (.not (.tru (.call f_l_same (.cons (.call f_likeliest (.cons (.var 2) .nil)) (.cons (.blt .tuple (.cons (.lc (.var 9) (.n 9) (.seq (.var 6)) (.cmp .eq (.idx (.var 3) (.var 9)) (.var 5))) .nil)) .nil))))) (.cons (.ret (.bl false)) .nil) .nil) .nil))))))))) (.cons (.ite (.cmp .ne (.call f_mean (.cons (.tup (.cons (.str (wd 8)) (.cons (.tup (.cons (.str (wd 0)) (.cons (.int 1) .nil))) (.cons (.tup (.cons (.str (wd 1)) (.cons (.int 1) (.cons (.int 2) .nil)))) .nil)))) .nil)) (.tup (.cons (.neg (.int 1)) (.cons (.int 2) .nil)))) (.cons (.ret (.bl false)) .nil) .nil) (.cons (.ret (.and (.cons (.cmp .eq (.call f_mean (.cons (.tup (.cons (.str (wd 1)) (.cons (.int 1) (.cons (.int 6) .nil)))) .nil)) (.tup (.cons (.int 7) (.cons (.int 2) .nil)))) (.cons (.cmp .eq (.call f_middle (.cons (.tup (.cons (.str (wd 1)) (.cons (.int 1) (.cons (.int 6) .nil)))) .nil)) (.int 3)) .nil)))) .nil)))
def d_law05 : Fd := ⟨b_law05, 11, 1, true⟩
def b_l_sum : Ss := (.cons (.ret (.call f_l_fraction (.cons (.bin .add (.bin .mul (.idx (.var 0) (.int 0)) (.idx (.var 1) (.int 1))) (.bin .mul (.bin .mul (.var 2) (.idx (.var 1) (.int 0))) (.idx (.var 0) (.int 1)))) (.cons (.bin .mul (.idx (.var 0) (.int 1)) (.idx (.var 1) (.int 1))) .nil)))) .nil)
def d_l_sum : Fd := ⟨b_l_sum, 3, 3, true⟩
def b_law06 : Ss := (.cons (.for_ (.n 1) (.rng1 (.int 8)) (.cons (.asg 2 (.call f_l_saying (.cons (.bin .add (.call f_l_cell (.cons (.var 0) (.cons (.var 1) .nil))) (.bin .mul (.int 3) (.var 1))) (.cons (.int 2) (.cons (.int 3) .nil))))) (.cons (.asg 3 (.call f_l_saying (.cons (.bin .add (.call f_l_cell (.cons (.var 0) (.cons (.int 8) .nil))) (.bin .mul (.int 5) (.var 1))) (.cons (.int 2) (.cons (.int 3) .nil))))) (.cons (.ite (.cmp .ne (.call f_mean (.cons (.tup (.cons (.str (wd 7)) (.cons (.var 2) (.cons (.var 3) .nil)))) .nil)) (.call f_l_sum (.cons (.call f_mean (.cons (.var 2) .nil)) (.cons (.call f_mean (.cons (.var 3) .nil)) (.cons (.int 1) .nil))))) (.cons (.ret (.bl false)) .nil) .nil) (.cons (.ite (.cmp .ne (.call f_mean (.cons (.tup (.cons (.str (wd 8)) (.cons (.var 2) (.cons (.var 3) .nil)))) .nil)) (.call f_l_sum (.cons (.call f_mean (.cons (.var 2) .nil)) (.cons (.call f_mean (.cons (.var 3) .nil)) (.cons (.neg (.int 1)) .nil))))) (.cons (.ret (.bl false)) .nil) .nil) (.cons (.asg 4 (.call f_l_sum (.cons (.call f_mean (.cons (.tup (.cons (.str (wd 9)) (.cons (.var 2) (.cons (.var 3) .nil)))) .nil)) (.cons (.call f_mean (.cons (.tup (.cons (.str (wd 10)) (.cons (.var 2) (.cons (.var 3) .nil)))) .nil)) (.cons (.int 1) .nil))))) (.cons (.ite (.cmp .ne (.var 4) (.call f_mean (.cons (.tup (.cons (.str (wd 7)) (.cons (.var 2) (.cons (.var 3) .nil)))) .nil))) (.cons (.ret (.bl false)) .nil) .nil) (.cons (.asg 5 (.bin .mod (.var 1) (.int 4))) (.cons (.ite (.cmp .ne (.call f_mean (.cons (.tup (.cons (.str (wd 12)) (.cons (.var 5) (.cons (.var 2) .nil)))) .nil)) (.call f_l_fraction (.cons (.bin .mul (.var 5) (.idx (.call f_mean (.cons (.var 2) .nil)) (.int 0))) (.cons (.idx (.call f_mean (.cons (.var 2) .nil)) (.int 1)) .nil)))) (.cons (.ret (.bl false)) .nil) .nil) (.cons (.ite (.cmp .ne (.call f_mean (.cons (.tup (.cons (.str (wd 11)) (.cons (.var 2) (.cons (.var 3) .nil)))) .nil)) (.call f_at_least (.cons (.tup (.cons (.str (wd 11)) (.cons (.var 2) (.cons (.var 3) .nil)))) (.cons (.int 1) .nil)))) (.cons (.ret (.bl false)) .nil) .nil) (.cons (.ite (.or (.cons (.cmp .eq (.call f_share_of (.cons (.var 2) (.cons (.call f_middle (.cons (.var 2) .nil)) .nil))) (.tup (.cons (.int 0) (.cons (.int 1) .nil)))) (.cons (.cmp .isin (.tup (.cons (.int 0) (.cons (.int 1) .nil))) (.lc (.call f_share_of (.cons (.var 2) (.cons (.var 7) .nil))) (.n 7) (.seq (.call f_likeliest (.cons (.var 2) .nil))) .tt)) .nil))) (.cons (.ret (.bl false)) .nil) .nil) (.cons (.asg 6 (.call f_l_dice (.cons (.bin .add (.call f_l_cell (.cons (.var 0) (.cons (.int 9) .nil))) (.var 1)) (.cons (.int 3) .nil)))) (.cons (.ite (.cmp .ne (.call f_mean (.cons (.bin .add (.bin .add (.tup (.cons (.str (wd 2)) .nil)) (.sl (.var 6) (.yes (.int 1)) (.yes (.int 3)))) (.tup (.cons (.idx (.var 6) (.int 1)) .nil))) .nil)) (.call f_mean (.cons (.bin .add (.tup (.cons (.str (wd 1)) .nil)) (.sl (.var 6) (.yes (.int 1)) (.yes (.int 3)))) .nil))) (.cons (.ret (.bl false)) .nil) .nil) .nil))))))))))))) (.cons (.ret (.bl true)) .nil))
def d_law06 : Fd := ⟨b_law06, 8, 1, true⟩
def b_Faces_init : Ss := (.cons (.setF 0 (.var 0) "row" (.var 1)) (.cons (.setF 0 (.var 0) "count" (.int 0)) (.cons (.setF 0 (.var 0) "of" (.int 1)) .nil)))
def d_Faces_init : Fd := ⟨b_Faces_init, 2, 2, false⟩
def b_Faces_take : Ss := (.cons (.ite (.or (.cons (.cmp .eq (.fld 0 (.var 0) "count") (.blt .len (.cons (.fld 0 (.var 0) "row") .nil))) (.cons (.not (.chn .le .le (.int 1) (.idx (.fld 0 (.var 0) "row") (.fld 0 (.var 0) "count")) (.var 1))) .nil))) (.cons (.raise 1) .nil) .nil) (.cons (.setF 0 (.var 0) "count" (.bin .add (.fld 0 (.var 0) "count") (.int 1))) (.cons (.setF 0 (.var 0) "of" (.bin .mul (.fld 0 (.var 0) "of") (.var 1))) (.cons (.ret (.idx (.fld 0 (.var 0) "row") (.bin .sub (.fld 0 (.var 0) "count") (.int 1)))) .nil))))
def d_Faces_take : Fd := ⟨b_Faces_take, 2, 2, true⟩
def b_die_worth : Ss := (.cons (.asgT [2, 3, 4] (.sl (.var 1) .no (.yes (.int 3)))) (.cons (.asg 5 (.own 0 "take" f_Faces_take (.var 0) (.cons (.var 4) .nil))) (.cons (.ite (.and (.cons (.cmp .eq (.var 2) (.str (wd 4))) (.cons (.cmp .le (.var 5) (.idx (.var 1) (.int 3))) .nil))) (.cons (.ret (.own 0 "take" f_Faces_take (.var 0) (.cons (.var 4) .nil))) .nil) .nil) (.cons (.ite (.cmp .eq (.var 2) (.str (wd 6))) (.cons (.ret (.blt .int (.cons (.cmp .ge (.var 5) (.idx (.var 1) (.int 3))) .nil))) .nil) .nil) (.cons (.ite (.cmp .eq (.var 2) (.str (wd 5))) (.cons (.asg 6 (.var 5)) (.cons (.for_ (.n 7) (.rng1 (.idx (.var 1) (.int 3))) (.cons (.ite (.cmp .eq (.var 5) (.var 4)) (.cons (.asg 5 (.own 0 "take" f_Faces_take (.var 0) (.cons (.var 4) .nil))) (.cons (.asg 6 (.bin .add (.var 6) (.var 5))) .nil)) .nil) .nil)) (.cons (.ret (.var 6)) .nil))) .nil) (.cons (.ret (.var 5)) .nil))))))
def d_die_worth : Fd := ⟨b_die_worth, 8, 2, true⟩
def b_worth_of : Ss := (.cons (.asg 2 (.idx (.var 1) (.int 0))) (.cons (.ite (.cmp .eq (.var 2) (.str (wd 0))) (.cons (.ret (.idx (.var 1) (.int 1))) .nil) .nil) (.cons (.ite (.cmp .isin (.var 2) (.glo 1)) (.cons (.asg 3 (.blt .sorted (.cons (.lc (.call f_die_worth (.cons (.var 0) (.cons (.var 1) .nil))) (.n 5) (.rng1 (.idx (.var 1) (.int 1))) .tt) .nil))) (.cons (.ite (.cmp .eq (.var 2) (.str (wd 2))) (.cons (.asg 3 (.sl (.var 3) (.yes (.bin .sub (.idx (.var 1) (.int 1)) (.idx (.var 1) (.int 3)))) .no)) .nil) .nil) (.cons (.ite (.cmp .eq (.var 2) (.str (wd 3))) (.cons (.asg 3 (.sl (.var 3) .no (.yes (.idx (.var 1) (.int 3))))) .nil) .nil) (.cons (.ret (.blt .sum (.cons (.var 3) .nil))) .nil)))) .nil) (.cons (.ite (.cmp .eq (.var 2) (.str (wd 12))) (.cons (.ret (.bin .mul (.idx (.var 1) (.int 1)) (.call f_worth_of (.cons (.var 0) (.cons (.idx (.var 1) (.int 2)) .nil))))) .nil) .nil) (.cons (.asg 4 (.call f_worth_of (.cons (.var 0) (.cons (.idx (.var 1) (.int 1)) .nil)))) (.cons (.ret (.call f_of_two (.cons (.var 2) (.cons (.var 4) (.cons (.call f_worth_of (.cons (.var 0) (.cons (.idx (.var 1) (.int 2)) .nil))) .nil))))) .nil))))))
def d_worth_of : Fd := ⟨b_worth_of, 6, 2, true⟩
def b_read_faces : Ss := (.cons (.asg 2 (.mk 0 (.cons (.var 1) .nil))) (.cons (.asg 3 (.call f_worth_of (.cons (.var 2) (.cons (.var 0) .nil)))) (.cons (.ite (.cmp .lt (.fld 0 (.var 2) "count") (.blt .len (.cons (.var 1) .nil))) (.cons (.raise 1) .nil) .nil) (.cons (.ret (.tup (.cons (.var 2) (.cons (.var 3) .nil)))) .nil))))
def d_read_faces : Fd := ⟨b_read_faces, 4, 2, false⟩
def b_fall : Ss := (.cons (.ret (.idx (.call f_read_faces (.cons (.var 0) (.cons (.var 1) .nil))) (.int 1))) .nil)
def d_fall : Fd := ⟨b_fall, 2, 2, true⟩
def b_chance : Ss := (.cons (.ret (.call f_fraction (.cons (.int 1) (.cons (.fld 0 (.idx (.call f_read_faces (.cons (.var 0) (.cons (.var 1) .nil))) (.int 0)) "of") .nil)))) .nil)
def d_chance : Fd := ⟨b_chance, 2, 2, true⟩
def b_l_row : Ss := (.cons (.asg 2 (.idx (.var 1) (.int 0))) (.cons (.ite (.cmp .eq (.var 2) (.str (wd 0))) (.cons (.ret (.tup (.cons (.lst .nil) (.cons (.int 1) .nil)))) .nil) .nil) (.cons (.ite (.tru (.isi .tuple (.idx (.var 1) (.neg (.int 1))))) (.cons (.par 3 4 (.lst .nil) (.int 1)) (.cons (.for_ (.t [5, 6]) (.enm (.sl (.var 1) (.yes (.int 1)) .no)) (.cons (.ite (.tru (.isi .tuple (.var 6))) (.cons (.asgT [7, 8] (.call f_l_row (.cons (.bin .add (.bin .add (.bin .mul (.var 0) (.int 3)) (.bin .mul (.int 7) (.var 5))) (.int 1)) (.cons (.var 6) .nil)))) (.cons (.par 3 4 (.bin .add (.var 3) (.var 7)) (.bin .mul (.var 4) (.var 8))) .nil)) .nil) .nil)) (.cons (.ret (.tup (.cons (.var 3) (.cons (.var 4) .nil)))) .nil))) .nil) (.cons (.par 3 4 (.lstM .nil) (.int 1)) (.cons (.for_ (.n 5) (.rng1 (.idx (.var 1) (.int 1))) (.cons (.asg 9 (.bin .add (.bin .add (.int 1) (.blt .int (.cons (.cmp .isin (.var 2) (.tup (.cons (.str (wd 4)) (.cons (.str (wd 5)) .nil)))) .nil))) (.blt .int (.cons (.and (.cons (.cmp .eq (.var 2) (.str (wd 5))) (.cons (.cmp .eq (.idx (.var 1) (.neg (.int 1))) (.int 2)) .nil))) .nil)))) (.cons (.for_ (.n 10) (.rng1 (.var 9)) (.cons (.asg 11 (.bin .add (.int 1) (.call f_l_mix (.cons (.bin .add (.bin .add (.var 0) (.bin .mul (.int 11) (.var 5))) (.bin .mul (.int 5) (.var 10))) (.cons (.int 9887) (.cons (.idx (.var 1) (.int 2)) .nil)))))) (.cons (.ite (.cmp .eq (.call f_l_mix (.cons (.bin .add (.bin .add (.var 0) (.bin .mul (.int 3) (.var 5))) (.var 10)) (.cons (.int 9883) (.cons (.int 3) .nil)))) (.int 0)) (.cons (.asg 11 (.idx (.tup (.cons (.int 1) (.cons (.idx (.var 1) (.int 2)) .nil))) (.blt .int (.cons (.cmp .eq (.var 2) (.str (wd 5))) .nil)))) .nil) .nil) (.cons (.ex (.mth .append (.var 3) (.cons (.var 11) .nil))) (.cons (.asg 4 (.bin .mul (.var 4) (.idx (.var 1) (.int 2)))) (.cons (.ite (.or (.cons (.and (.cons (.cmp .eq (.var 2) (.str (wd 4))) (.cons (.cmp .gt (.var 11) (.idx (.var 1) (.int 3))) .nil))) (.cons (.and (.cons (.cmp .eq (.var 2) (.str (wd 5))) (.cons (.cmp .lt (.var 11) (.idx (.var 1) (.int 2))) .nil))) .nil))) (.cons .brk .nil) .nil) .nil)))))) .nil))) (.cons (.frzV 3) (.cons (.ret (.tup (.cons (.var 3) (.cons (.var 4) .nil)))) .nil)))))))
def d_l_row : Fd := ⟨b_l_row, 12, 2, true⟩
def b_l_fall : Ss := (.cons (.asg 2 (.idx (.var 0) (.int 0))) (.cons (.ite (.cmp .eq (.var 2) (.str (wd 0))) (.cons (.ret (.tup (.cons (.idx (.var 0) (.int 1)) (.cons (.var 1) .nil)))) .nil) .nil) (.cons (.ite (.cmp .eq (.var 2) (.str (wd 12))) (.cons (.asgT [3, 4] (.call f_l_fall (.cons (.idx (.var 0) (.int 2)) (.cons (.var 1) .nil)))) (.cons (.ret (.tup (.cons (.bin .mul (.var 3) (.idx (.var 0) (.int 1))) (.cons (.var 4) .nil)))) .nil)) .nil) (.cons (.ite (.tru (.isi .tuple (.idx (.var 0) (.neg (.int 1))))) (.cons (.asgT [5, 4] (.call f_l_fall (.cons (.idx (.var 0) (.int 1)) (.cons (.var 1) .nil)))) (.cons (.asgT [6, 4] (.call f_l_fall (.cons (.idx (.var 0) (.int 2)) (.cons (.var 4) .nil)))) (.cons (.ret (.tup (.cons (.call f_l_two (.cons (.var 2) (.cons (.var 5) (.cons (.var 6) .nil)))) (.cons (.var 4) .nil)))) .nil))) .nil) (.cons (.asg 7 (.lstM .nil)) (.cons (.for_ (.n 8) (.rng1 (.idx (.var 0) (.int 1))) (.cons (.par 9 10 (.int 0) (.int 1)) (.cons (.ite (.cmp .isin (.var 2) (.tup (.cons (.str (wd 4)) (.cons (.str (wd 5)) .nil)))) (.cons (.asg 10 (.int 2)) .nil) .nil) (.cons (.ite (.cmp .eq (.var 2) (.str (wd 5))) (.cons (.asg 10 (.bin .add (.int 1) (.idx (.var 0) (.int 3)))) .nil) .nil) (.cons (.whl (.cmp .gt (.var 10) (.int 0)) (.cons (.par 11 1 (.idx (.var 1) (.int 0)) (.sl (.var 1) (.yes (.int 1)) .no)) (.cons (.asg 10 (.bin .sub (.var 10) (.int 1))) (.cons (.asg 9 (.bin .add (.var 11) (.bin .mul (.var 9) (.blt .int (.cons (.cmp .eq (.var 2) (.str (wd 5))) .nil))))) (.cons (.ite (.or (.cons (.and (.cons (.cmp .eq (.var 2) (.str (wd 4))) (.cons (.cmp .gt (.var 11) (.idx (.var 0) (.int 3))) .nil))) (.cons (.and (.cons (.cmp .eq (.var 2) (.str (wd 5))) (.cons (.cmp .lt (.var 11) (.idx (.var 0) (.int 2))) .nil))) .nil))) (.cons (.asg 10 (.int 0)) .nil) .nil) .nil))))) (.cons (.ex (.mth .append (.var 7) (.cons (.var 9) .nil))) .nil)))))) (.cons (.ite (.cmp .eq (.var 2) (.str (wd 6))) (.cons (.frzV 7) (.cons (.ret (.tup (.cons (.blt .len (.cons (.lc (.var 11) (.n 11) (.seq (.var 7)) (.cmp .ge (.var 11) (.idx (.var 0) (.int 3)))) .nil)) (.cons (.var 1) .nil)))) .nil)) .nil) (.cons (.frzV 7) (.cons (.asg 7 (.blt .sorted (.cons (.var 7) .nil))) (.cons (.ite (.cmp .eq (.var 2) (.str (wd 2))) (.cons (.asg 7 (.sl (.var 7) (.yes (.bin .sub (.blt .len (.cons (.var 7) .nil)) (.idx (.var 0) (.int 3)))) .no)) .nil) .nil) (.cons (.ite (.cmp .eq (.var 2) (.str (wd 3))) (.cons (.asg 7 (.sl (.var 7) .no (.yes (.idx (.var 0) (.int 3))))) .nil) .nil) (.cons (.ret (.tup (.cons (.blt .sum (.cons (.var 7) .nil)) (.cons (.var 1) .nil)))) .nil))))))))))))
def d_l_fall : Fd := ⟨b_l_fall, 12, 2, true⟩
def b_l_word : Ss := (.cons (.asg 1 (.lst (.cons (.isi (.exc 1) (.var 0)) (.cons (.isi (.exc 2) (.var 0)) .nil)))) (.cons (.asg 1 (.bin .add (.var 1) (.lst (.cons (.isi (.exc 3) (.var 0)) (.cons (.isi (.exc 4) (.var 0)) .nil))))) (.cons (.ite (.or (.cons (.cmp .ne (.mth .count (.var 1) (.cons (.bl true) .nil)) (.int 1)) (.cons (.not (.tru (.isi (.exc 5) (.var 0)))) .nil))) (.cons (.ret (.str [119, 114, 111, 110, 103])) .nil) .nil) (.cons (.ret (.idx (.tup (.cons (.str [110, 111, 32, 102, 97, 99, 101, 115]) (.cons (.str [110, 111, 32, 116, 101, 120, 116]) (.cons (.str [110, 111, 32, 119, 111, 114, 116, 104]) (.cons (.str [110, 111, 32, 110, 111, 116, 101]) .nil))))) (.mth .index (.var 1) (.cons (.bl true) .nil)))) .nil))))
def d_l_word : Fd := ⟨b_l_word, 2, 1, true⟩
def b_l_told_a : Ss := (.cons (.asg 3 .non) (.cons (.asg 4 .non) (.cons (.tryA (.cons (.asg 4 (.ite (.cmp .eq (.var 0) (.int 0)) (.call f_fall (.cons (.var 1) (.cons (.var 2) .nil))) (.call f_chance (.cons (.var 1) (.cons (.var 2) .nil))))) .nil) 0 5 (.cons (.asg 3 (.var 5)) .nil)) (.cons (.ret (.ite (.cmp .is (.var 3) .non) (.var 4) (.call f_l_word (.cons (.var 3) .nil)))) .nil))))
def d_l_told_a : Fd := ⟨b_l_told_a, 6, 3, true⟩
def b_law07 : Ss := (.cons (.for_ (.n 1) (.rng1 (.int 8)) (.cons (.asg 2 (.call f_l_saying (.cons (.bin .add (.call f_l_cell (.cons (.var 0) (.cons (.var 1) .nil))) (.bin .mul (.int 3) (.var 1))) (.cons (.int 3) (.cons (.int 6) .nil))))) (.cons (.for_ (.n 3) (.rng1 (.int 3)) (.cons (.asgT [4, 5] (.call f_l_row (.cons (.bin .add (.bin .add (.call f_l_cell (.cons (.var 0) (.cons (.bin .add (.int 8) (.bin .mod (.var 3) (.int 2))) .nil))) (.bin .mul (.int 13) (.var 3))) (.var 1)) (.cons (.var 2) .nil)))) (.cons (.asg 6 (.blt .tuple (.cons (.var 4) .nil))) (.cons (.asg 7 (.tup (.cons (.idx (.call f_l_fall (.cons (.var 2) (.cons (.var 6) .nil))) (.int 0)) (.cons (.tup (.cons (.int 1) (.cons (.var 5) .nil))) .nil)))) (.cons (.ite (.not (.tru (.call f_l_same (.cons (.tup (.cons (.call f_l_told_a (.cons (.int 0) (.cons (.var 2) (.cons (.var 6) .nil)))) (.cons (.call f_l_told_a (.cons (.int 1) (.cons (.var 2) (.cons (.var 6) .nil)))) .nil))) (.cons (.var 7) .nil))))) (.cons (.ret (.bl false)) .nil) .nil) (.cons (.asg 8 (.lst (.cons (.bin .add (.var 6) (.tup (.cons (.int 1) .nil))) (.cons (.bin .add (.var 6) (.tup (.cons (.int 1) (.cons (.int 1) .nil)))) .nil)))) (.cons (.ite (.tru (.var 4)) (.cons (.asg 9 (.call f_l_mix (.cons (.bin .add (.call f_l_cell (.cons (.var 0) (.cons (.int 9) .nil))) (.bin .mul (.int 7) (.var 3))) (.cons (.int 9871) (.cons (.blt .len (.cons (.var 4) .nil)) .nil))))) (.cons (.asg 8 (.bin .add (.var 8) (.lst (.cons (.sl (.var 6) .no (.yes (.neg (.int 1)))) (.cons (.bin .add (.bin .add (.sl (.var 6) .no (.yes (.var 9))) (.tup (.cons (.int 0) .nil))) (.sl (.var 6) (.yes (.bin .add (.var 9) (.int 1))) .no)) .nil))))) (.cons (.asg 8 (.bin .add (.var 8) (.lst (.cons (.bin .add (.bin .add (.sl (.var 6) .no (.yes (.var 9))) (.tup (.cons (.int 7) .nil))) (.sl (.var 6) (.yes (.bin .add (.var 9) (.int 1))) .no)) (.cons (.tup .nil) .nil))))) .nil))) .nil) (.cons (.for_ (.n 10) (.seq (.var 8)) (.cons (.ite (.cmp .ne (.lc (.call f_l_told_a (.cons (.var 11) (.cons (.var 2) (.cons (.var 10) .nil)))) (.n 11) (.seq (.tup (.cons (.int 0) (.cons (.int 1) .nil)))) .tt) (.bin .mul (.lst (.cons (.str [110, 111, 32, 102, 97, 99, 101, 115]) .nil)) (.int 2))) (.cons (.ret (.bl false)) .nil) .nil) .nil)) .nil)))))))) .nil))) (.cons (.ret (.and (.cons (.cmp .eq (.call f_fall (.cons (.tup (.cons (.str (wd 4)) (.cons (.int 2) (.cons (.int 6) (.cons (.int 2) .nil))))) (.cons (.tup (.cons (.int 1) (.cons (.int 1) (.cons (.int 5) .nil)))) .nil))) (.int 6)) (.cons (.cmp .eq (.call f_chance (.cons (.tup (.cons (.str (wd 5)) (.cons (.int 1) (.cons (.int 6) (.cons (.int 2) .nil))))) (.cons (.tup (.cons (.int 6) (.cons (.int 6) (.cons (.int 1) .nil)))) .nil))) (.tup (.cons (.int 1) (.cons (.int 216) .nil)))) .nil)))) .nil))
def d_law07 : Fd := ⟨b_law07, 12, 1, true⟩
def b_sides_in : Ss := (.cons (.ite (.cmp .isin (.idx (.var 0) (.int 0)) (.glo 1)) (.cons (.ret (.idx (.var 0) (.int 2))) .nil) .nil) (.cons (.ret (.blt .maxD (.cons (.lc (.call f_sides_in (.cons (.var 1) .nil)) (.n 1) (.seq (.sl (.var 0) (.yes (.int 1)) .no)) (.tru (.isi .tuple (.var 1)))) .nil))) .nil))
def d_sides_in : Fd := ⟨b_sides_in, 2, 1, true⟩
def b_state_of : Ss := (.cons (.asg 2 (.mk 0 (.cons (.var 1) .nil))) (.cons (.tryO (.cons (.ex (.call f_worth_of (.cons (.var 2) (.cons (.var 0) .nil)))) .nil) 1 (.cons (.ret (.bin .add (.neg (.int 1)) (.blt .int (.cons (.cmp .eq (.fld 0 (.var 2) "count") (.blt .len (.cons (.var 1) .nil))) .nil)))) .nil)) (.cons (.ret (.ite (.cmp .eq (.fld 0 (.var 2) "count") (.blt .len (.cons (.var 1) .nil))) (.int 1) (.neg (.int 1)))) .nil)))
def d_state_of : Fd := ⟨b_state_of, 3, 2, true⟩
def b_all_faces : Ss := (.cons (.asg 1 (.lstM .nil)) (.cons (.asg 2 (.lst (.cons (.tup .nil) .nil))) (.cons (.whl (.tru (.var 2)) (.cons (.asg 3 (.lstM .nil)) (.cons (.for_ (.n 4) (.seq (.var 2)) (.cons (.asg 5 (.call f_state_of (.cons (.var 0) (.cons (.var 4) .nil)))) (.cons (.ite (.cmp .eq (.var 5) (.int 1)) (.cons (.ex (.mth .append (.var 1) (.cons (.var 4) .nil))) .nil) .nil) (.cons (.ite (.cmp .eq (.var 5) (.int 0)) (.cons (.ex (.mth .extend (.var 3) (.cons (.lc (.bin .add (.var 4) (.tup (.cons (.var 6) .nil))) (.n 6) (.rng2 (.int 1) (.bin .add (.call f_sides_in (.cons (.var 0) .nil)) (.int 1))) .tt) .nil))) .nil) .nil) .nil)))) (.cons (.frzV 3) (.cons (.asg 2 (.var 3)) .nil))))) (.cons (.frzV 1) (.cons (.ret (.blt .tuple (.cons (.blt .sorted (.cons (.var 1) .nil)) .nil))) .nil)))))
def d_all_faces : Fd := ⟨b_all_faces, 7, 1, true⟩
def b_l_rows : Ss := (.cons (.asg 1 (.idx (.var 0) (.int 0))) (.cons (.ite (.cmp .eq (.var 1) (.str (wd 0))) (.cons (.ret (.lst (.cons (.tup .nil) .nil))) .nil) .nil) (.cons (.ite (.tru (.isi .tuple (.idx (.var 0) (.neg (.int 1))))) (.cons (.asg 2 (.lst (.cons (.tup .nil) .nil))) (.cons (.for_ (.n 3) (.seq (.sl (.var 0) (.yes (.int 1)) .no)) (.cons (.ite (.tru (.isi .tuple (.var 3))) (.cons (.asg 4 (.call f_l_rows (.cons (.var 3) .nil))) (.cons (.asg 5 (.lstM .nil)) (.cons (.for_ (.n 6) (.seq (.var 2)) (.cons (.ex (.mth .extend (.var 5) (.cons (.lc (.bin .add (.var 6) (.var 12)) (.n 12) (.seq (.var 4)) .tt) .nil))) .nil)) (.cons (.frzV 5) (.cons (.asg 2 (.var 5)) .nil))))) .nil) .nil)) (.cons (.ret (.var 2)) .nil))) .nil) (.cons (.asg 7 (.lstM .nil)) (.cons (.for_ (.n 8) (.rng2 (.int 1) (.bin .add (.idx (.var 0) (.int 2)) (.int 1))) (.cons (.asg 9 (.lst (.cons (.tup (.cons (.var 8) .nil)) .nil))) (.cons (.for_ (.n 10) (.rng1 (.mth .get (.dS [(wd 4), (wd 5)] (.cons (.int 1) (.cons (.idx (.var 0) (.neg (.int 1))) .nil))) (.cons (.var 1) (.cons (.int 0) .nil)))) (.cons (.asg 5 (.lstM .nil)) (.cons (.for_ (.n 6) (.seq (.var 9)) (.cons (.asg 11 (.ite (.cmp .eq (.var 1) (.str (wd 4))) (.cmp .le (.idx (.var 6) (.int 0)) (.idx (.var 0) (.neg (.int 1)))) (.cmp .eq (.idx (.var 6) (.neg (.int 1))) (.idx (.var 0) (.int 2))))) (.cons (.ite (.and (.cons (.tru (.var 11)) (.cons (.cmp .eq (.blt .len (.cons (.var 6) .nil)) (.bin .add (.var 10) (.int 1))) .nil))) (.cons (.ex (.mth .extend (.var 5) (.cons (.lc (.bin .add (.var 6) (.tup (.cons (.var 13) .nil))) (.n 13) (.rng2 (.int 1) (.bin .add (.idx (.var 0) (.int 2)) (.int 1))) .tt) .nil))) .nil) (.cons (.ex (.mth .append (.var 5) (.cons (.var 6) .nil))) .nil)) .nil))) (.cons (.frzV 5) (.cons (.asg 9 (.var 5)) .nil))))) (.cons (.ex (.mth .extend (.var 7) (.cons (.var 9) .nil))) .nil)))) (.cons (.asg 2 (.lst (.cons (.tup .nil) .nil))) (.cons (.for_ (.n 10) (.rng1 (.idx (.var 0) (.int 1))) (.cons (.asg 5 (.lstM .nil)) (.cons (.for_ (.n 6) (.seq (.var 2)) (.cons (.frzV 7) (.cons (.ex (.mth .extend (.var 5) (.cons (.lc (.bin .add (.var 6) (.var 12)) (.n 12) (.seq (.var 7)) .tt) .nil))) .nil))) (.cons (.frzV 5) (.cons (.asg 2 (.var 5)) .nil))))) (.cons (.ret (.var 2)) .nil))))))))
def d_l_rows : Fd := ⟨b_l_rows, 14, 1, true⟩
def b_law08 : Ss := (.cons (.for_ (.n 1) (.rng1 (.int 6)) (.cons (.asg 2 (.call f_l_saying (.cons (.bin .add (.call f_l_cell (.cons (.var 0) (.cons (.var 1) .nil))) (.bin .mul (.int 3) (.var 1))) (.cons (.int 3) (.cons (.int 2) .nil))))) (.cons (.ite (.not (.tru (.call f_l_same (.cons (.call f_all_faces (.cons (.var 2) .nil)) (.cons (.blt .tuple (.cons (.blt .sorted (.cons (.call f_l_rows (.cons (.var 2) .nil)) .nil)) .nil)) .nil))))) (.cons (.ret (.bl false)) .nil) .nil) .nil))) (.cons (.asg 3 (.tup (.cons (.str (wd 1)) (.cons (.int 3) (.cons (.bin .add (.int 2) (.call f_l_mix (.cons (.call f_l_cell (.cons (.var 0) (.cons (.int 6) .nil))) (.cons (.int 9859) (.cons (.int 2) .nil))))) .nil))))) (.cons (.ite (.not (.tru (.call f_l_same (.cons (.call f_all_faces (.cons (.var 3) .nil)) (.cons (.blt .tuple (.cons (.blt .sorted (.cons (.call f_l_rows (.cons (.var 3) .nil)) .nil)) .nil)) .nil))))) (.cons (.ret (.bl false)) .nil) .nil) (.cons (.ret (.and (.cons (.cmp .eq (.call f_all_faces (.cons (.tup (.cons (.str (wd 0)) (.cons (.int 5) .nil))) .nil)) (.tup (.cons (.tup .nil) .nil))) (.cons (.cmp .eq (.call f_all_faces (.cons (.tup (.cons (.str (wd 5)) (.cons (.int 1) (.cons (.int 2) (.cons (.int 1) .nil))))) .nil)) (.tup (.cons (.tup (.cons (.int 1) .nil)) (.cons (.tup (.cons (.int 2) (.cons (.int 1) .nil))) (.cons (.tup (.cons (.int 2) (.cons (.int 2) .nil))) .nil))))) .nil)))) .nil))))
def d_law08 : Fd := ⟨b_law08, 4, 1, true⟩
def b_law09 : Ss := (.cons (.for_ (.n 1) (.rng1 (.int 6)) (.cons (.asg 2 (.call f_l_saying (.cons (.bin .add (.call f_l_cell (.cons (.var 0) (.cons (.var 1) .nil))) (.bin .mul (.int 3) (.var 1))) (.cons (.int 3) (.cons (.int 2) .nil))))) (.cons (.asg 3 (.bin .mul (.bin .mul (.bin .pow (.int 6) (.int 6)) (.bin .pow (.int 5) (.int 6))) (.bin .pow (.int 4) (.int 6)))) (.cons (.asg 4 .dI0) (.cons (.for_ (.n 5) (.seq (.call f_all_faces (.cons (.var 2) .nil))) (.cons (.asgT [6, 7] (.call f_chance (.cons (.var 2) (.cons (.var 5) .nil)))) (.cons (.asg 8 (.call f_fall (.cons (.var 2) (.cons (.var 5) .nil)))) (.cons (.setI (.var 4) (.var 8) (.bin .add (.mth .get (.var 4) (.cons (.var 8) (.cons (.int 0) .nil))) (.bin .mul (.var 6) (.bin .div (.var 3) (.var 7))))) .nil)))) (.cons (.frzV 4) (.cons (.ite (.not (.tru (.call f_l_same (.cons (.call f_shares (.cons (.var 2) .nil)) (.cons (.blt .tuple (.cons (.lc (.tup (.cons (.var 8) (.cons (.call f_l_fraction (.cons (.idx (.var 4) (.var 8)) (.cons (.var 3) .nil))) .nil))) (.n 8) (.seq (.blt .sorted (.cons (.var 4) .nil))) .tt) .nil)) .nil))))) (.cons (.ret (.bl false)) .nil) .nil) (.cons (.ite (.cmp .ne (.blt .sum (.cons (.lc (.idx (.var 4) (.var 8)) (.n 8) (.seq (.var 4)) .tt) .nil)) (.var 3)) (.cons (.ret (.bl false)) .nil) .nil) .nil)))))))) (.cons (.ret (.bl true)) .nil))
def d_law09 : Fd := ⟨b_law09, 9, 1, true⟩
def b_against : Ss := (.cons (.asg 2 (.lstM (.cons (.tup (.cons (.int 0) (.cons (.int 1) .nil))) (.cons (.tup (.cons (.int 0) (.cons (.int 1) .nil))) (.cons (.tup (.cons (.int 0) (.cons (.int 1) .nil))) .nil))))) (.cons (.asg 3 (.call f_shares (.cons (.var 1) .nil))) (.cons (.for_ (.t [4, 5]) (.seq (.call f_shares (.cons (.var 0) .nil))) (.cons (.for_ (.t [6, 7]) (.seq (.var 3)) (.cons (.asg 8 (.bin .add (.blt .int (.cons (.cmp .le (.var 4) (.var 6)) .nil)) (.blt .int (.cons (.cmp .lt (.var 4) (.var 6)) .nil)))) (.cons (.setI (.var 2) (.var 8) (.call f_sum_of (.cons (.idx (.var 2) (.var 8)) (.cons (.call f_product (.cons (.var 5) (.cons (.var 7) .nil))) .nil)))) .nil))) .nil)) (.cons (.ret (.blt .tuple (.cons (.var 2) .nil))) .nil))))
def d_against : Fd := ⟨b_against, 9, 2, true⟩
def b_are_alike : Ss := (.cons (.ret (.cmp .eq (.call f_shares (.cons (.var 0) .nil)) (.call f_shares (.cons (.var 1) .nil)))) .nil)
def d_are_alike : Fd := ⟨b_are_alike, 2, 2, true⟩
def b_is_never_behind : Ss := (.cons (.asg 2 (.call f_shares (.cons (.var 0) .nil))) (.cons (.asg 3 (.call f_shares (.cons (.var 1) .nil))) (.cons (.ret (.not (.blt .any (.cons (.lc (.call f_is_less (.cons (.call f_share_from (.cons (.var 2) (.cons (.var 4) .nil))) (.cons (.call f_share_from (.cons (.var 3) (.cons (.var 4) .nil))) .nil))) (.t [4, 5]) (.seq (.var 3)) .tt) .nil)))) .nil)))
def d_is_never_behind : Fd := ⟨b_is_never_behind, 6, 2, true⟩
def b_l_near : Ss := (.cons (.asg 2 (.call f_l_mix (.cons (.var 1) (.cons (.int 9857) (.cons (.int 4) .nil))))) (.cons (.ite (.and (.cons (.cmp .isin (.idx (.var 0) (.int 0)) (.tup (.cons (.str (wd 7)) (.cons (.str (wd 9)) (.cons (.str (wd 10)) .nil))))) (.cons (.cmp .lt (.var 2) (.int 2)) .nil))) (.cons (.ret (.tup (.cons (.idx (.var 0) (.int 0)) (.cons (.idx (.var 0) (.int 2)) (.cons (.idx (.var 0) (.int 1)) .nil))))) .nil) .nil) (.cons (.ite (.and (.cons (.cmp .eq (.var 2) (.int 2)) (.cons (.cmp .isin (.idx (.var 0) (.int 0)) (.tup (.cons (.str (wd 1)) (.cons (.str (wd 2)) (.cons (.str (wd 3)) (.cons (.str (wd 4)) (.cons (.str (wd 5)) .nil))))))) .nil))) (.cons (.ret (.bin .add (.tup (.cons (.str (wd 1)) .nil)) (.sl (.var 0) (.yes (.int 1)) (.yes (.int 3))))) .nil) .nil) (.cons (.ret (.ite (.cmp .eq (.var 2) (.int 3)) (.var 0) (.call f_l_saying (.cons (.bin .add (.var 1) (.int 1)) (.cons (.int 3) (.cons (.int 6) .nil)))))) .nil))))
def d_l_near : Fd := ⟨b_l_near, 3, 2, true⟩
def b_law10 : Ss := (.cons (.for_ (.n 1) (.rng1 (.int 8)) (.cons (.asg 2 (.call f_l_saying (.cons (.bin .add (.call f_l_cell (.cons (.var 0) (.cons (.var 1) .nil))) (.bin .mul (.int 3) (.var 1))) (.cons (.int 3) (.cons (.int 6) .nil))))) (.cons (.asg 3 (.call f_l_near (.cons (.var 2) (.cons (.bin .add (.call f_l_cell (.cons (.var 0) (.cons (.int 8) .nil))) (.bin .mul (.int 7) (.var 1))) .nil)))) (.cons (.asgT [4, 5] (.call f_l_book (.cons (.var 2) .nil))) (.cons (.asgT [6, 7] (.call f_l_book (.cons (.var 3) .nil))) (.cons (.asg 8 (.lstM (.cons (.int 0) (.cons (.int 0) (.cons (.int 0) .nil))))) (.cons (.for_ (.n 9) (.seq (.var 4)) (.cons (.for_ (.n 10) (.seq (.var 6)) (.cons (.asg 11 (.bin .add (.blt .int (.cons (.cmp .le (.var 9) (.var 10)) .nil)) (.blt .int (.cons (.cmp .lt (.var 9) (.var 10)) .nil)))) (.cons (.setI (.var 8) (.var 11) (.bin .add (.idx (.var 8) (.var 11)) (.bin .mul (.idx (.var 4) (.var 9)) (.idx (.var 6) (.var 10))))) .nil))) .nil)) (.cons (.frzV 8) (.cons (.asg 12 (.blt .tuple (.cons (.lc (.call f_l_fraction (.cons (.var 19) (.cons (.bin .mul (.var 5) (.var 7)) .nil))) (.n 19) (.seq (.var 8)) .tt) .nil))) (.cons (.ite (.not (.tru (.call f_l_same (.cons (.call f_against (.cons (.var 2) (.cons (.var 3) .nil))) (.cons (.var 12) .nil))))) (.cons (.ret (.bl false)) .nil) .nil) (.cons (.asg 13 (.cmp .eq (.call f_l_shares (.cons (.var 2) .nil)) (.call f_l_shares (.cons (.var 3) .nil)))) (.cons (.asg 14 (.bl false)) (.cons (.for_ (.n 9) (.seq (.bin .add (.blt .list (.cons (.var 6) .nil)) (.blt .list (.cons (.var 4) .nil)))) (.cons (.asg 15 (.blt .sum (.cons (.lc (.idx (.var 4) (.var 20)) (.n 20) (.seq (.var 4)) (.cmp .ge (.var 20) (.var 9))) .nil))) (.cons (.asg 16 (.blt .sum (.cons (.lc (.idx (.var 6) (.var 20)) (.n 20) (.seq (.var 6)) (.cmp .ge (.var 20) (.var 9))) .nil))) (.cons (.asg 14 (.or (.cons (.var 14) (.cons (.cmp .lt (.bin .mul (.var 15) (.var 7)) (.bin .mul (.var 16) (.var 5))) .nil)))) .nil)))) (.cons (.for_ (.t [17, 18]) (.seq (.tup (.cons (.tup (.cons (.call f_are_alike (.cons (.var 2) (.cons (.var 3) .nil))) (.cons (.var 13) .nil))) (.cons (.tup (.cons (.call f_is_never_behind (.cons (.var 2) (.cons (.var 3) .nil))) (.cons (.not (.var 14)) .nil))) .nil)))) (.cons (.ite (.or (.cons (.and (.cons (.cmp .isnot (.var 17) (.bl true)) (.cons (.tru (.var 18)) .nil))) (.cons (.and (.cons (.cmp .isnot (.var 17) (.bl false)) (.cons (.not (.tru (.var 18))) .nil))) .nil))) (.cons (.ret (.bl false)) .nil) .nil) .nil)) .nil)))))))))))))) (.cons (.ret (.bl true)) .nil))
def d_law10 : Fd := ⟨b_law10, 21, 1, true⟩
def b_best_for : Ss := (.cons (.asg 2 (.lc (.call f_at_least (.cons (.var 3) (.cons (.var 1) .nil))) (.n 3) (.seq (.var 0)) .tt)) (.cons (.ret (.blt .tuple (.cons (.lc (.var 4) (.t [4, 5]) (.enm (.var 2)) (.not (.tru (.blt .any (.cons (.lc (.call f_is_less (.cons (.var 5) (.cons (.var 6) .nil))) (.n 6) (.seq (.var 2)) .tt) .nil))))) .nil))) .nil))
def d_best_for : Fd := ⟨b_best_for, 7, 2, true⟩
def b_l_is_less : Ss := (.cons (.ret (.cmp .lt (.bin .mul (.idx (.var 0) (.int 0)) (.idx (.var 1) (.int 1))) (.bin .mul (.idx (.var 1) (.int 0)) (.idx (.var 0) (.int 1))))) .nil)
def d_l_is_less : Fd := ⟨b_l_is_less, 2, 2, true⟩
def b_law11 : Ss := (.cons (.for_ (.n 1) (.rng1 (.int 6)) (.cons (.asg 2 (.bin .add (.call f_l_cell (.cons (.var 0) (.cons (.var 1) .nil))) (.bin .mul (.int 3) (.var 1)))) (.cons (.asg 3 (.call f_l_saying (.cons (.var 2) (.cons (.int 2) (.cons (.int 3) .nil))))) (.cons (.asg 4 (.call f_l_saying (.cons (.bin .add (.call f_l_cell (.cons (.var 0) (.cons (.int 6) .nil))) (.bin .mul (.int 5) (.var 1))) (.cons (.int 2) (.cons (.int 3) .nil))))) (.cons (.asgT [5, 6, 7] (.call f_against (.cons (.var 3) (.cons (.var 4) .nil)))) (.cons (.ite (.or (.cons (.cmp .ne (.call f_against (.cons (.var 4) (.cons (.var 3) .nil))) (.tup (.cons (.var 7) (.cons (.var 6) (.cons (.var 5) .nil))))) (.cons (.cmp .ne (.call f_share_of (.cons (.tup (.cons (.str (wd 11)) (.cons (.var 3) (.cons (.var 4) .nil)))) (.cons (.int 1) .nil))) (.var 5)) .nil))) (.cons (.ret (.bl false)) .nil) .nil) (.cons (.asg 8 (.bin .mul (.bin .mul (.idx (.var 5) (.int 1)) (.idx (.var 6) (.int 1))) (.idx (.var 7) (.int 1)))) (.cons (.ite (.cmp .ne (.blt .sum (.cons (.lc (.bin .mul (.idx (.var 16) (.int 0)) (.bin .div (.var 8) (.idx (.var 16) (.int 1)))) (.n 16) (.seq (.tup (.cons (.var 5) (.cons (.var 6) (.cons (.var 7) .nil))))) .tt) .nil)) (.var 8)) (.cons (.ret (.bl false)) .nil) .nil) (.cons (.for_ (.n 9) (.seq (.tup (.cons (.var 3) (.cons (.var 4) .nil)))) (.cons (.ite (.or (.cons (.not (.tru (.call f_is_never_behind (.cons (.tup (.cons (.str (wd 9)) (.cons (.var 3) (.cons (.var 4) .nil)))) (.cons (.var 9) .nil))))) (.cons (.not (.tru (.call f_is_never_behind (.cons (.var 9) (.cons (.tup (.cons (.str (wd 10)) (.cons (.var 3) (.cons (.var 4) .nil)))) .nil))))) .nil))) (.cons (.ret (.bl false)) .nil) .nil) .nil)) (.cons (.ite (.cmp .ne (.and (.cons (.call f_is_never_behind (.cons (.var 3) (.cons (.var 4) .nil))) (.cons (.call f_is_never_behind (.cons (.var 4) (.cons (.var 3) .nil))) .nil))) (.call f_are_alike (.cons (.var 3) (.cons (.var 4) .nil)))) (.cons (.ret (.bl false)) .nil) .nil) (.cons (.asg 10 (.blt .tuple (.cons (.lc (.call f_l_saying (.cons (.bin .add (.var 2) (.bin .mul (.int 7) (.var 14))) (.cons (.int 2) (.cons (.int 3) .nil)))) (.n 14) (.rng1 (.bin .add (.int 1) (.call f_l_mix (.cons (.var 2) (.cons (.int 9851) (.cons (.int 4) .nil)))))) .tt) .nil))) (.cons (.asg 11 (.bin .sub (.call f_l_mix (.cons (.var 2) (.cons (.int 9839) (.cons (.int 20) .nil)))) (.int 4))) (.cons (.asg 12 (.lc (.call f_at_least (.cons (.var 15) (.cons (.var 11) .nil))) (.n 15) (.seq (.var 10)) .tt)) (.cons (.asg 13 (.lc (.var 14) (.t [14, 16]) (.enm (.var 12)) (.not (.tru (.blt .any (.cons (.lc (.call f_l_is_less (.cons (.var 16) (.cons (.var 17) .nil))) (.n 17) (.seq (.var 12)) .tt) .nil)))))) (.cons (.ite (.not (.tru (.call f_l_same (.cons (.call f_best_for (.cons (.var 10) (.cons (.var 11) .nil))) (.cons (.blt .tuple (.cons (.var 13) .nil)) .nil))))) (.cons (.ret (.bl false)) .nil) .nil) (.cons (.for_ (.t [14, 15]) (.enm (.var 10)) (.cons (.ite (.and (.cons (.tru (.blt .all (.cons (.lc (.call f_is_never_behind (.cons (.var 15) (.cons (.var 17) .nil))) (.n 17) (.seq (.var 10)) .tt) .nil))) (.cons (.cmp .notin (.var 14) (.var 13)) .nil))) (.cons (.ret (.bl false)) .nil) .nil) .nil)) .nil)))))))))))))))) (.cons (.ret (.bl true)) .nil))
def d_law11 : Fd := ⟨b_law11, 18, 1, true⟩
def b_in_brackets : Ss := (.cons (.ite (.cmp .isin (.idx (.var 0) (.int 0)) (.var 1)) (.cons (.ret (.bin .add (.bin .add (.str [40]) (.call f_written (.cons (.var 0) .nil))) (.str [41]))) .nil) .nil) (.cons (.ret (.call f_written (.cons (.var 0) .nil))) .nil))
def d_in_brackets : Fd := ⟨b_in_brackets, 2, 2, true⟩
def b_written : Ss := (.cons (.asg 1 (.idx (.var 0) (.int 0))) (.cons (.ite (.cmp .eq (.var 1) (.str (wd 0))) (.cons (.ret (.blt .str (.cons (.idx (.var 0) (.int 1)) .nil))) .nil) .nil) (.cons (.ite (.cmp .eq (.var 1) (.str (wd 12))) (.cons (.ret (.bin .add (.bin .add (.blt .str (.cons (.idx (.var 0) (.int 1)) .nil)) (.str [32, 42, 32])) (.call f_in_brackets (.cons (.idx (.var 0) (.int 2)) (.cons (.tup (.cons (.str (wd 7)) (.cons (.str (wd 8)) (.cons (.str (wd 12)) .nil)))) .nil))))) .nil) .nil) (.cons (.ite (.cmp .isin (.var 1) (.glo 8)) (.cons (.ret (.bin .add (.bin .add (.call f_written (.cons (.idx (.var 0) (.int 1)) .nil)) (.idx (.glo 8) (.var 1))) (.call f_in_brackets (.cons (.idx (.var 0) (.int 2)) (.cons (.tup (.cons (.str (wd 7)) (.cons (.str (wd 8)) .nil))) .nil))))) .nil) .nil) (.cons (.ite (.cmp .isin (.var 1) (.glo 7)) (.cons (.ret (.bin .add (.bin .add (.bin .add (.bin .add (.bin .add (.idx (.glo 7) (.var 1)) (.str [40])) (.call f_written (.cons (.idx (.var 0) (.int 1)) .nil))) (.str [44, 32])) (.call f_written (.cons (.idx (.var 0) (.int 2)) .nil))) (.str [41]))) .nil) .nil) (.cons (.asg 2 (.bin .add (.bin .add (.blt .str (.cons (.idx (.var 0) (.int 1)) .nil)) (.str [100])) (.blt .str (.cons (.idx (.var 0) (.int 2)) .nil)))) (.cons (.ite (.cmp .ne (.var 1) (.str (wd 1))) (.cons (.asg 2 (.bin .add (.bin .add (.var 2) (.idx (.glo 6) (.var 1))) (.blt .str (.cons (.idx (.var 0) (.int 3)) .nil)))) .nil) .nil) (.cons (.ret (.var 2)) .nil))))))))
def d_written : Fd := ⟨b_written, 3, 1, true⟩
def b_Reader_init : Ss := (.cons (.setF 1 (.var 0) "text" (.var 1)) (.cons (.setF 1 (.var 0) "place" (.int 0)) .nil))
def d_Reader_init : Fd := ⟨b_Reader_init, 2, 2, false⟩
def b_Reader_has : Ss := (.cons (.ite (.cmp .ne (.sl (.fld 1 (.var 0) "text") (.yes (.fld 1 (.var 0) "place")) (.yes (.bin .add (.fld 1 (.var 0) "place") (.blt .len (.cons (.var 1) .nil))))) (.var 1)) (.cons (.ret (.bl false)) .nil) .nil) (.cons (.setF 1 (.var 0) "place" (.bin .add (.fld 1 (.var 0) "place") (.blt .len (.cons (.var 1) .nil)))) (.cons (.ret (.bl true)) .nil)))
def d_Reader_has : Fd := ⟨b_Reader_has, 2, 2, true⟩
def b_Reader_must : Ss := (.cons (.ite (.not (.tru (.own 1 "has" f_Reader_has (.var 0) (.cons (.var 1) .nil)))) (.cons (.raise 2) .nil) .nil) .nil)
def d_Reader_must : Fd := ⟨b_Reader_must, 2, 2, true⟩
def b_Reader_figure : Ss := (.cons (.ite (.or (.cons (.cmp .eq (.fld 1 (.var 0) "place") (.blt .len (.cons (.fld 1 (.var 0) "text") .nil))) (.cons (.cmp .notin (.idx (.fld 1 (.var 0) "text") (.fld 1 (.var 0) "place")) (.glo 4)) .nil))) (.cons (.raise 2) .nil) .nil) (.cons (.setF 1 (.var 0) "place" (.bin .add (.fld 1 (.var 0) "place") (.int 1))) (.cons (.ret (.blt .int (.cons (.idx (.fld 1 (.var 0) "text") (.bin .sub (.fld 1 (.var 0) "place") (.int 1))) .nil))) .nil)))
def d_Reader_figure : Fd := ⟨b_Reader_figure, 1, 1, true⟩
def b_Reader_call : Ss := (.cons (.for_ (.n 2) (.seq (.glo 7)) (.cons (.ite (.tru (.own 1 "has" f_Reader_has (.var 0) (.cons (.bin .add (.idx (.glo 7) (.var 2)) (.str [40])) .nil))) (.cons (.asg 3 (.own 1 "saying" f_Reader_saying (.var 0) (.cons (.bin .sub (.var 1) (.int 1)) .nil))) (.cons (.ex (.own 1 "must" f_Reader_must (.var 0) (.cons (.str [44, 32]) .nil))) (.cons (.asg 4 (.own 1 "saying" f_Reader_saying (.var 0) (.cons (.bin .sub (.var 1) (.int 1)) .nil))) (.cons (.ex (.own 1 "must" f_Reader_must (.var 0) (.cons (.str [41]) .nil))) (.cons (.ret (.tup (.cons (.var 2) (.cons (.var 3) (.cons (.var 4) .nil))))) .nil))))) .nil) .nil)) (.cons (.ret .non) .nil))
def d_Reader_call : Fd := ⟨b_Reader_call, 5, 2, true⟩
def b_Reader_part : Ss := (.cons (.ite (.cmp .eq (.var 1) (.int 0)) (.cons (.raise 2) .nil) .nil) (.cons (.ite (.tru (.own 1 "has" f_Reader_has (.var 0) (.cons (.str [40]) .nil))) (.cons (.asg 2 (.own 1 "saying" f_Reader_saying (.var 0) (.cons (.bin .sub (.var 1) (.int 1)) .nil))) (.cons (.ex (.own 1 "must" f_Reader_must (.var 0) (.cons (.str [41]) .nil))) (.cons (.ret (.var 2)) .nil))) .nil) (.cons (.asg 2 (.own 1 "call" f_Reader_call (.var 0) (.cons (.var 1) .nil))) (.cons (.ite (.cmp .isnot (.var 2) .non) (.cons (.ret (.var 2)) .nil) .nil) (.cons (.asg 3 (.own 1 "figure" f_Reader_figure (.var 0) .nil)) (.cons (.ite (.tru (.own 1 "has" f_Reader_has (.var 0) (.cons (.str [32, 42, 32]) .nil))) (.cons (.ret (.tup (.cons (.str (wd 12)) (.cons (.var 3) (.cons (.own 1 "part" f_Reader_part (.var 0) (.cons (.bin .sub (.var 1) (.int 1)) .nil)) .nil))))) .nil) .nil) (.cons (.ite (.not (.tru (.own 1 "has" f_Reader_has (.var 0) (.cons (.str [100]) .nil)))) (.cons (.ret (.tup (.cons (.str (wd 0)) (.cons (.var 3) .nil)))) .nil) .nil) (.cons (.asg 4 (.own 1 "figure" f_Reader_figure (.var 0) .nil)) (.cons (.for_ (.n 5) (.seq (.glo 6)) (.cons (.ite (.tru (.own 1 "has" f_Reader_has (.var 0) (.cons (.idx (.glo 6) (.var 5)) .nil))) (.cons (.ret (.tup (.cons (.var 5) (.cons (.var 3) (.cons (.var 4) (.cons (.own 1 "figure" f_Reader_figure (.var 0) .nil) .nil)))))) .nil) .nil) .nil)) (.cons (.ret (.tup (.cons (.str (wd 1)) (.cons (.var 3) (.cons (.var 4) .nil))))) .nil))))))))))
def d_Reader_part : Fd := ⟨b_Reader_part, 6, 2, true⟩
def b_Reader_saying : Ss := (.cons (.asg 2 (.own 1 "part" f_Reader_part (.var 0) (.cons (.var 1) .nil))) (.cons (.for_ (.n 3) (.rng1 (.glo 5)) (.cons (.ite (.tru (.own 1 "has" f_Reader_has (.var 0) (.cons (.str [32, 43, 32]) .nil))) (.cons (.asg 2 (.tup (.cons (.str (wd 7)) (.cons (.var 2) (.cons (.own 1 "part" f_Reader_part (.var 0) (.cons (.var 1) .nil)) .nil))))) .nil) (.cons (.ite (.tru (.own 1 "has" f_Reader_has (.var 0) (.cons (.str [32, 45, 32]) .nil))) (.cons (.asg 2 (.tup (.cons (.str (wd 8)) (.cons (.var 2) (.cons (.own 1 "part" f_Reader_part (.var 0) (.cons (.var 1) .nil)) .nil))))) .nil) .nil) .nil)) .nil)) (.cons (.ret (.var 2)) .nil)))
def d_Reader_saying : Fd := ⟨b_Reader_saying, 4, 2, true⟩
def b_read : Ss := (.cons (.asg 1 (.mk 1 (.cons (.var 0) .nil))) (.cons (.asg 2 (.own 1 "saying" f_Reader_saying (.var 1) (.cons (.glo 5) .nil))) (.cons (.ite (.or (.cons (.cmp .lt (.fld 1 (.var 1) "place") (.blt .len (.cons (.var 0) .nil))) (.cons (.not (.tru (.call f_is_saying (.cons (.var 2) .nil)))) (.cons (.cmp .ne (.call f_written (.cons (.var 2) .nil)) (.var 0)) .nil)))) (.cons (.raise 2) .nil) .nil) (.cons (.ret (.var 2)) .nil))))
def d_read : Fd := ⟨b_read, 3, 1, true⟩
def b_l_written : Ss := (.cons (.asg 1 (.idx (.var 0) (.int 0))) (.cons (.ite (.cmp .eq (.var 1) (.str (wd 0))) (.cons (.ret (.blt .str (.cons (.idx (.var 0) (.int 1)) .nil))) .nil) .nil) (.cons (.ite (.cmp .isin (.var 1) (.tup (.cons (.str (wd 7)) (.cons (.str (wd 8)) .nil)))) (.cons (.asg 2 (.call f_l_written (.cons (.idx (.var 0) (.int 2)) .nil))) (.cons (.ite (.cmp .isin (.idx (.idx (.var 0) (.int 2)) (.int 0)) (.tup (.cons (.str (wd 7)) (.cons (.str (wd 8)) .nil)))) (.cons (.asg 2 (.bin .add (.bin .add (.str [40]) (.var 2)) (.str [41]))) .nil) .nil) (.cons (.ret (.bin .add (.bin .add (.call f_l_written (.cons (.idx (.var 0) (.int 1)) .nil)) (.idx (.dS [(wd 7), (wd 8)] (.cons (.str [32, 43, 32]) (.cons (.str [32, 45, 32]) .nil))) (.var 1))) (.var 2))) .nil))) .nil) (.cons (.ite (.cmp .eq (.var 1) (.str (wd 12))) (.cons (.asg 2 (.call f_l_written (.cons (.idx (.var 0) (.int 2)) .nil))) (.cons (.ite (.cmp .isin (.idx (.idx (.var 0) (.int 2)) (.int 0)) (.tup (.cons (.str (wd 7)) (.cons (.str (wd 8)) (.cons (.str (wd 12)) .nil))))) (.cons (.asg 2 (.bin .add (.bin .add (.str [40]) (.var 2)) (.str [41]))) .nil) .nil) (.cons (.ret (.bin .add (.bin .add (.blt .str (.cons (.idx (.var 0) (.int 1)) .nil)) (.str [32, 42, 32])) (.var 2))) .nil))) .nil) (.cons (.ite (.tru (.isi .tuple (.idx (.var 0) (.neg (.int 1))))) (.cons (.asg 3 (.idx (.dS [(wd 9), (wd 10), (wd 11)] (.cons (.str [109, 97, 120]) (.cons (.str [109, 105, 110]) (.cons (.str (wd 11)) .nil)))) (.var 1))) (.cons (.ret (.bin .add (.bin .add (.bin .add (.bin .add (.bin .add (.var 3) (.str [40])) (.call f_l_written (.cons (.idx (.var 0) (.int 1)) .nil))) (.str [44, 32])) (.call f_l_written (.cons (.idx (.var 0) (.int 2)) .nil))) (.str [41]))) .nil)) .nil) (.cons (.asg 4 (.bin .add (.bin .add (.blt .str (.cons (.idx (.var 0) (.int 1)) .nil)) (.str [100])) (.blt .str (.cons (.idx (.var 0) (.int 2)) .nil)))) (.cons (.ite (.cmp .ne (.var 1) (.str (wd 1))) (.cons (.asg 4 (.bin .add (.bin .add (.var 4) (.idx (.dS [(wd 2), (wd 3), (wd 4), (wd 5), (wd 6)] (.cons (.str [104]) (.cons (.str [108]) (.cons (.str [114]) (.cons (.str [120]) (.cons (.str [99]) .nil)))))) (.var 1))) (.blt .str (.cons (.idx (.var 0) (.int 3)) .nil)))) .nil) .nil) (.cons (.ret (.var 4)) .nil))))))))
def d_l_written : Fd := ⟨b_l_written, 5, 1, true⟩
def b_l_read : Ss := (.cons (.asg 1 .non) (.cons (.tryO (.cons (.asg 1 (.call f_read (.cons (.var 0) .nil))) .nil) 0 (.cons (.asg 1 .non) .nil)) (.cons (.ret (.var 1)) .nil)))
def d_l_read : Fd := ⟨b_l_read, 2, 1, true⟩
def b_law12 : Ss := (.cons (.for_ (.n 1) (.rng1 (.int 16)) (.cons (.asg 2 (.call f_l_saying (.cons (.bin .add (.call f_l_cell (.cons (.var 0) (.cons (.bin .mod (.var 1) (.int 9)) .nil))) (.bin .mul (.int 31) (.var 1))) (.cons (.int 3) (.cons (.int 6) .nil))))) (.cons (.asg 3 (.call f_l_written (.cons (.var 2) .nil))) (.cons (.ite (.not (.tru (.call f_l_same (.cons (.tup (.cons (.call f_written (.cons (.var 2) .nil)) (.cons (.call f_l_read (.cons (.var 3) .nil)) .nil))) (.cons (.tup (.cons (.var 3) (.cons (.var 2) .nil))) .nil))))) (.cons (.ret (.bl false)) .nil) .nil) .nil)))) (.cons (.asg 4 (.tup (.cons (.str (wd 8)) (.cons (.tup (.cons (.str (wd 8)) (.cons (.tup (.cons (.str (wd 0)) (.cons (.int 1) .nil))) (.cons (.tup (.cons (.str (wd 1)) (.cons (.int 1) (.cons (.int 6) .nil)))) .nil)))) (.cons (.tup (.cons (.str (wd 7)) (.cons (.tup (.cons (.str (wd 0)) (.cons (.int 2) .nil))) (.cons (.tup (.cons (.str (wd 0)) (.cons (.int 3) .nil))) .nil)))) .nil))))) (.cons (.ite (.or (.cons (.cmp .ne (.call f_written (.cons (.var 4) .nil)) (.str [49, 32, 45, 32, 49, 100, 54, 32, 45, 32, 40, 50, 32, 43, 32, 51, 41])) (.cons (.cmp .ne (.call f_l_read (.cons (.str [49, 32, 45, 32, 49, 100, 54, 32, 45, 32, 40, 50, 32, 43, 32, 51, 41]) .nil)) (.var 4)) .nil))) (.cons (.ret (.bl false)) .nil) .nil) (.cons (.ret (.cmp .eq (.call f_written (.cons (.tup (.cons (.str (wd 12)) (.cons (.int 2) (.cons (.tup (.cons (.str (wd 12)) (.cons (.int 3) (.cons (.tup (.cons (.str (wd 2)) (.cons (.int 3) (.cons (.int 6) (.cons (.int 2) .nil))))) .nil)))) .nil)))) .nil)) (.str [50, 32, 42, 32, 40, 51, 32, 42, 32, 51, 100, 54, 104, 50, 41]))) .nil))))
def d_law12 : Fd := ⟨b_law12, 5, 1, true⟩
def b_l_told_b : Ss := (.cons (.asg 1 .non) (.cons (.asg 2 .non) (.cons (.tryA (.cons (.asg 2 (.call f_read (.cons (.var 0) .nil))) .nil) 0 3 (.cons (.asg 1 (.var 3)) .nil)) (.cons (.ret (.ite (.cmp .is (.var 1) .non) (.var 2) (.call f_l_word (.cons (.var 1) .nil)))) .nil))))
def d_l_told_b : Fd := ⟨b_l_told_b, 4, 1, true⟩
def b_l_is_right : Ss := (.cons (.asg 1 (.call f_l_told_b (.cons (.var 0) .nil))) (.cons (.ite (.tru (.isi .str (.var 1))) (.cons (.ret (.cmp .eq (.var 1) (.str [110, 111, 32, 116, 101, 120, 116]))) .nil) .nil) (.cons (.ret (.and (.cons (.cmp .is (.call f_is_saying (.cons (.var 1) .nil)) (.bl true)) (.cons (.cmp .eq (.call f_l_written (.cons (.var 1) .nil)) (.var 0)) .nil)))) .nil)))
def d_l_is_right : Fd := ⟨b_l_is_right, 2, 1, true⟩
def b_l_bad_b : Ss := (.cons (.asg 0 (.lst (.cons (.str []) (.cons (.str [32]) (.cons (.str [49, 48]) (.cons (.str [48, 49]) (.cons (.str [45, 49]) (.cons (.str [100, 54]) (.cons (.str [49, 100]) (.cons (.str [48, 100, 54]) (.cons (.str [52, 100, 54]) .nil))))))))))) (.cons (.asg 0 (.bin .add (.var 0) (.lst (.cons (.str [49, 100, 49]) (.cons (.str [49, 100, 55]) (.cons (.str [49, 100, 48, 54]) (.cons (.str [49, 32, 100, 54]) (.cons (.str [49, 100, 54, 104]) (.cons (.str [49, 100, 54, 104, 48]) (.cons (.str [49, 100, 54, 104, 50]) (.cons (.str [50, 100, 54, 108, 51]) (.cons (.str [49, 100, 54, 114, 54]) .nil)))))))))))) (.cons (.asg 0 (.bin .add (.var 0) (.lst (.cons (.str [49, 100, 54, 114, 48]) (.cons (.str [49, 100, 54, 120, 51]) (.cons (.str [49, 100, 54, 120, 48]) (.cons (.str [49, 100, 54, 99, 49]) (.cons (.str [49, 100, 54, 99, 55]) (.cons (.str [49, 100, 54, 122, 49]) (.cons (.str [49, 43, 49]) .nil)))))))))) (.cons (.asg 0 (.bin .add (.var 0) (.lst (.cons (.str [49, 32, 43, 49]) (.cons (.str [49, 32, 32, 43, 32, 49]) (.cons (.str [49, 32, 43]) (.cons (.str [43, 32, 49]) (.cons (.str [40, 49, 41]) (.cons (.str [40, 49, 32, 43, 32, 50, 41]) (.cons (.str [49, 32, 43, 32, 40, 49, 100, 54, 41]) .nil)))))))))) (.cons (.asg 0 (.bin .add (.var 0) (.lst (.cons (.str [40, 49, 32, 43, 32, 50, 41, 32, 43, 32, 51]) (.cons (.str [49, 32, 43, 32, 50, 41]) (.cons (.str [40, 49, 32, 43, 32, 50]) (.cons (.str [52, 32, 42, 32, 49, 100, 54]) (.cons (.str [49, 100, 54, 32, 42, 32, 50]) (.cons (.str [50, 42, 49, 100, 54]) .nil))))))))) (.cons (.asg 0 (.bin .add (.var 0) (.lst (.cons (.str [50, 32, 42, 32]) (.cons (.str [50, 32, 42, 32, 40, 49, 100, 54, 41]) (.cons (.str [50, 32, 42, 32, 51, 32, 42, 32, 49, 100, 54]) (.cons (.str [109, 97, 120, 40, 49, 41]) (.cons (.str [109, 97, 120, 40, 49, 44, 50, 41]) .nil)))))))) (.cons (.asg 0 (.bin .add (.var 0) (.lst (.cons (.str [109, 97, 120, 40, 49, 44, 32, 50]) (.cons (.str [109, 97, 120, 40, 49, 44, 32, 50, 44, 32, 51, 41]) (.cons (.str [109, 97, 120, 32, 40, 49, 44, 32, 50, 41]) (.cons (.str [77, 97, 120, 40, 49, 44, 32, 50, 41]) (.cons (.str [98, 101, 97, 116, 40, 49, 44, 32, 50, 41]) .nil)))))))) (.cons (.asg 0 (.bin .add (.var 0) (.lst (.cons (.str [98, 101, 97, 116, 115, 40, 49, 44, 32, 41]) (.cons (.str [109, 105, 110, 40, 41]) (.cons (.str [49, 100, 54, 32]) (.cons (.str [32, 49, 100, 54]) (.cons (.str [51, 100, 54, 32, 43, 32, 51, 100, 54, 32, 43, 32, 49, 100, 54]) .nil)))))))) (.cons (.asg 0 (.bin .add (.var 0) (.lst (.cons (.str [109, 97, 120, 40, 109, 97, 120, 40, 109, 97, 120, 40, 49, 44, 32, 50, 41, 44, 32, 49, 41, 44, 32, 49, 41]) (.cons (.str [49, 32, 43, 32, 49, 32, 43, 32, 49, 32, 43, 32, 49]) (.cons (.str [50, 32, 42, 32, 40, 50, 32, 42, 32, 40, 50, 32, 42, 32, 49, 41, 41]) .nil)))))) (.cons (.asg 0 (.bin .add (.var 0) (.lst (.cons (.str [49, 100, 54, 104, 49, 104, 49]) (.cons (.str [49, 32, 49]) .nil))))) (.cons (.ret (.bin .add (.var 0) (.lst (.cons (.str [50, 32, 42, 32, 109, 97, 120, 40, 49, 32, 43, 32, 49, 32, 43, 32, 49, 44, 32, 49, 41]) .nil)))) .nil)))))))))))
def d_l_bad_b : Fd := ⟨b_l_bad_b, 1, 0, true⟩
def b_l_changed : Ss := (.cons (.asg 2 (.call f_l_mix (.cons (.var 1) (.cons (.int 9817) (.cons (.bin .add (.blt .len (.cons (.var 0) .nil)) (.int 1)) .nil))))) (.cons (.asg 3 (.str [32, 48, 49, 50, 51, 52, 54, 55, 100, 104, 108, 114, 120, 99, 43, 45, 42, 40, 41, 44, 109, 97, 120, 105, 110, 98, 101, 116, 115])) (.cons (.asg 4 (.idx (.var 3) (.call f_l_mix (.cons (.var 1) (.cons (.int 9811) (.cons (.blt .len (.cons (.var 3) .nil)) .nil)))))) (.cons (.asg 5 (.call f_l_mix (.cons (.var 1) (.cons (.int 9803) (.cons (.int 3) .nil))))) (.cons (.ite (.cmp .eq (.var 5) (.int 0)) (.cons (.ret (.bin .add (.bin .add (.sl (.var 0) .no (.yes (.var 2))) (.var 4)) (.sl (.var 0) (.yes (.var 2)) .no))) .nil) .nil) (.cons (.ite (.cmp .eq (.var 5) (.int 1)) (.cons (.ret (.bin .add (.sl (.var 0) .no (.yes (.var 2))) (.sl (.var 0) (.yes (.bin .add (.var 2) (.int 1))) .no))) .nil) .nil) (.cons (.ret (.bin .add (.bin .add (.sl (.var 0) .no (.yes (.var 2))) (.var 4)) (.sl (.var 0) (.yes (.bin .add (.var 2) (.int 1))) .no))) .nil)))))))
def d_l_changed : Fd := ⟨b_l_changed, 6, 2, true⟩
def b_law13 : Ss := (.cons (.ite (.tru (.blt .any (.cons (.lc (.cmp .ne (.call f_l_told_b (.cons (.var 2) .nil)) (.str [110, 111, 32, 116, 101, 120, 116])) (.n 2) (.seq (.call f_l_bad_b .nil)) .tt) .nil))) (.cons (.ret (.bl false)) .nil) .nil) (.cons (.for_ (.n 1) (.rng1 (.int 10)) (.cons (.asg 2 (.call f_l_written (.cons (.call f_l_saying (.cons (.bin .add (.call f_l_cell (.cons (.var 0) (.cons (.bin .mod (.var 1) (.int 8)) .nil))) (.bin .mul (.int 3) (.var 1))) (.cons (.int 3) (.cons (.int 6) .nil)))) .nil))) (.cons (.for_ (.n 3) (.rng1 (.int 3)) (.cons (.asg 2 (.call f_l_changed (.cons (.var 2) (.cons (.bin .add (.bin .add (.call f_l_cell (.cons (.var 0) (.cons (.bin .add (.int 8) (.bin .mod (.var 3) (.int 2))) .nil))) (.bin .mul (.int 7) (.var 1))) (.bin .mul (.int 11) (.var 3))) .nil)))) (.cons (.ite (.not (.tru (.call f_l_is_right (.cons (.var 2) .nil)))) (.cons (.ret (.bl false)) .nil) .nil) .nil))) .nil))) (.cons (.ret (.bl true)) .nil)))
def d_law13 : Fd := ⟨b_law13, 4, 1, true⟩
def b_of_numbers : Ss := (.cons (.asg 1 .non) (.cons (.ite (.and (.cons (.cmp .isin (.idx (.var 0) (.int 0)) (.glo 0)) (.cons (.cmp .eq (.idx (.idx (.var 0) (.int 1)) (.int 0)) (.str (wd 0))) (.cons (.cmp .eq (.idx (.idx (.var 0) (.int 2)) (.int 0)) (.str (wd 0))) .nil)))) (.cons (.asg 1 (.call f_of_two (.cons (.idx (.var 0) (.int 0)) (.cons (.idx (.idx (.var 0) (.int 1)) (.int 1)) (.cons (.idx (.idx (.var 0) (.int 2)) (.int 1)) .nil))))) .nil) .nil) (.cons (.ite (.and (.cons (.cmp .eq (.idx (.var 0) (.int 0)) (.str (wd 12))) (.cons (.cmp .eq (.idx (.idx (.var 0) (.int 2)) (.int 0)) (.str (wd 0))) .nil))) (.cons (.asg 1 (.bin .mul (.idx (.var 0) (.int 1)) (.idx (.idx (.var 0) (.int 2)) (.int 1)))) .nil) .nil) (.cons (.ite (.and (.cons (.cmp .isnot (.var 1) .non) (.cons (.chn .le .le (.int 0) (.var 1) (.int 9)) .nil))) (.cons (.ret (.tup (.cons (.str (wd 0)) (.cons (.var 1) .nil)))) .nil) .nil) (.cons (.ret (.var 0)) .nil)))))
def d_of_numbers : Fd := ⟨b_of_numbers, 2, 1, true⟩
def b_of_nothing : Ss := (.cons (.asg 1 (.idx (.var 0) (.int 0))) (.cons (.ite (.or (.cons (.and (.cons (.cmp .eq (.var 1) (.str (wd 7))) (.cons (.cmp .eq (.idx (.var 0) (.int 1)) (.glo 9)) .nil))) (.cons (.and (.cons (.cmp .eq (.var 1) (.str (wd 12))) (.cons (.cmp .eq (.idx (.var 0) (.int 1)) (.int 1)) .nil))) .nil))) (.cons (.ret (.idx (.var 0) (.int 2))) .nil) .nil) (.cons (.ite (.and (.cons (.cmp .isin (.var 1) (.tup (.cons (.str (wd 7)) (.cons (.str (wd 8)) .nil)))) (.cons (.cmp .eq (.idx (.var 0) (.int 2)) (.glo 9)) .nil))) (.cons (.ret (.idx (.var 0) (.int 1))) .nil) .nil) (.cons (.ite (.and (.cons (.cmp .eq (.var 1) (.str (wd 12))) (.cons (.cmp .eq (.idx (.var 0) (.int 1)) (.int 0)) .nil))) (.cons (.ret (.glo 9)) .nil) .nil) (.cons (.ret (.var 0)) .nil)))))
def d_of_nothing : Fd := ⟨b_of_nothing, 2, 1, true⟩
def b_simple : Ss := (.cons (.asg 1 (.idx (.var 0) (.int 0))) (.cons (.ite (.and (.cons (.cmp .isin (.var 1) (.tup (.cons (.str (wd 2)) (.cons (.str (wd 3)) .nil)))) (.cons (.cmp .eq (.idx (.var 0) (.int 1)) (.idx (.var 0) (.int 3))) .nil))) (.cons (.ret (.bin .add (.tup (.cons (.str (wd 1)) .nil)) (.sl (.var 0) (.yes (.int 1)) (.yes (.int 3))))) .nil) .nil) (.cons (.ite (.cmp .eq (.var 1) (.str (wd 12))) (.cons (.asg 0 (.tup (.cons (.str (wd 12)) (.cons (.idx (.var 0) (.int 1)) (.cons (.call f_simple (.cons (.idx (.var 0) (.int 2)) .nil)) .nil))))) .nil) (.cons (.ite (.cmp .isin (.var 1) (.glo 0)) (.cons (.asg 0 (.tup (.cons (.var 1) (.cons (.call f_simple (.cons (.idx (.var 0) (.int 1)) .nil)) (.cons (.call f_simple (.cons (.idx (.var 0) (.int 2)) .nil)) .nil))))) .nil) .nil) .nil)) (.cons (.ret (.call f_of_nothing (.cons (.call f_of_numbers (.cons (.var 0) .nil)) .nil))) .nil))))
def d_simple : Fd := ⟨b_simple, 2, 1, true⟩
def b_is_simple : Ss := (.cons (.ret (.cmp .eq (.call f_simple (.cons (.var 0) .nil)) (.var 0))) .nil)
def d_is_simple : Fd := ⟨b_is_simple, 1, 1, true⟩
def b_l_simple : Ss := (.cons (.asg 1 (.idx (.var 0) (.int 0))) (.cons (.ite (.and (.cons (.cmp .isin (.var 1) (.tup (.cons (.str (wd 2)) (.cons (.str (wd 3)) .nil)))) (.cons (.cmp .eq (.idx (.var 0) (.int 1)) (.idx (.var 0) (.int 3))) .nil))) (.cons (.ret (.tup (.cons (.str (wd 1)) (.cons (.idx (.var 0) (.int 1)) (.cons (.idx (.var 0) (.int 2)) .nil))))) .nil) .nil) (.cons (.ite (.or (.cons (.cmp .eq (.var 1) (.str (wd 0))) (.cons (.not (.tru (.isi .tuple (.idx (.var 0) (.neg (.int 1)))))) .nil))) (.cons (.ret (.var 0)) .nil) .nil) (.cons (.ite (.cmp .eq (.var 1) (.str (wd 12))) (.cons (.asg 2 (.call f_l_simple (.cons (.idx (.var 0) (.int 2)) .nil))) (.cons (.ite (.and (.cons (.cmp .eq (.idx (.var 2) (.int 0)) (.str (wd 0))) (.cons (.cmp .le (.bin .mul (.idx (.var 0) (.int 1)) (.idx (.var 2) (.int 1))) (.int 9)) .nil))) (.cons (.ret (.tup (.cons (.str (wd 0)) (.cons (.bin .mul (.idx (.var 0) (.int 1)) (.idx (.var 2) (.int 1))) .nil)))) .nil) .nil) (.cons (.ite (.cmp .eq (.idx (.var 0) (.int 1)) (.int 0)) (.cons (.ret (.tup (.cons (.str (wd 0)) (.cons (.int 0) .nil)))) .nil) .nil) (.cons (.ret (.ite (.cmp .eq (.idx (.var 0) (.int 1)) (.int 1)) (.var 2) (.tup (.cons (.str (wd 12)) (.cons (.idx (.var 0) (.int 1)) (.cons (.var 2) .nil)))))) .nil)))) .nil) (.cons (.par 2 3 (.call f_l_simple (.cons (.idx (.var 0) (.int 1)) .nil)) (.call f_l_simple (.cons (.idx (.var 0) (.int 2)) .nil))) (.cons (.ite (.and (.cons (.cmp .eq (.idx (.var 2) (.int 0)) (.str (wd 0))) (.cons (.cmp .eq (.idx (.var 3) (.int 0)) (.str (wd 0))) (.cons (.chn .le .le (.int 0) (.call f_l_two (.cons (.var 1) (.cons (.idx (.var 2) (.int 1)) (.cons (.idx (.var 3) (.int 1)) .nil)))) (.int 9)) .nil)))) (.cons (.ret (.tup (.cons (.str (wd 0)) (.cons (.call f_l_two (.cons (.var 1) (.cons (.idx (.var 2) (.int 1)) (.cons (.idx (.var 3) (.int 1)) .nil)))) .nil)))) .nil) .nil) (.cons (.ite (.and (.cons (.cmp .eq (.var 1) (.str (wd 7))) (.cons (.cmp .eq (.var 2) (.tup (.cons (.str (wd 0)) (.cons (.int 0) .nil)))) .nil))) (.cons (.ret (.var 3)) .nil) .nil) (.cons (.ite (.and (.cons (.cmp .isin (.var 1) (.tup (.cons (.str (wd 7)) (.cons (.str (wd 8)) .nil)))) (.cons (.cmp .eq (.var 3) (.tup (.cons (.str (wd 0)) (.cons (.int 0) .nil)))) .nil))) (.cons (.ret (.var 2)) .nil) .nil) (.cons (.ret (.tup (.cons (.var 1) (.cons (.var 2) (.cons (.var 3) .nil))))) .nil)))))))))
def d_l_simple : Fd := ⟨b_l_simple, 4, 1, true⟩
def b_l_odd_b : Ss := (.cons (.asg 1 (.call f_l_saying (.cons (.var 0) (.cons (.int 2) (.cons (.int 3) .nil))))) (.cons (.ite (.cmp .isin (.idx (.var 1) (.int 0)) (.tup (.cons (.str (wd 7)) (.cons (.str (wd 8)) (.cons (.str (wd 9)) (.cons (.str (wd 10)) (.cons (.str (wd 11)) .nil))))))) (.cons (.asg 2 (.bin .add (.int 1) (.bin .mod (.var 0) (.int 2)))) (.cons (.asg 3 (.tup (.cons (.str (wd 0)) (.cons (.idx (.tup (.cons (.int 0) (.cons (.int 0) (.cons (.int 1) (.cons (.int 9) .nil))))) (.call f_l_mix (.cons (.var 0) (.cons (.int 9833) (.cons (.int 4) .nil))))) .nil)))) (.cons (.asg 1 (.bin .add (.bin .add (.sl (.var 1) .no (.yes (.var 2))) (.tup (.cons (.var 3) .nil))) (.sl (.var 1) (.yes (.bin .add (.var 2) (.int 1))) .no))) .nil))) .nil) (.cons (.asg 4 (.call f_l_mix (.cons (.var 0) (.cons (.int 9829) (.cons (.int 6) .nil))))) (.cons (.ite (.cmp .lt (.var 4) (.int 2)) (.cons (.ret (.tup (.cons (.str (wd 12)) (.cons (.var 4) (.cons (.var 1) .nil))))) .nil) .nil) (.cons (.ite (.cmp .eq (.var 4) (.int 2)) (.cons (.ret (.tup (.cons (.str (wd 7)) (.cons (.tup (.cons (.str (wd 0)) (.cons (.int 0) .nil))) (.cons (.var 1) .nil))))) .nil) .nil) (.cons (.ite (.cmp .eq (.var 4) (.int 3)) (.cons (.ret (.tup (.cons (.str (wd 8)) (.cons (.var 1) (.cons (.tup (.cons (.str (wd 0)) (.cons (.int 0) .nil))) .nil))))) .nil) .nil) (.cons (.ret (.var 1)) .nil)))))))
def d_l_odd_b : Fd := ⟨b_l_odd_b, 5, 1, true⟩
def b_law14 : Ss := (.cons (.for_ (.n 1) (.rng1 (.int 16)) (.cons (.asg 2 (.bin .add (.call f_l_cell (.cons (.var 0) (.cons (.bin .mod (.var 1) (.int 9)) .nil))) (.bin .mul (.int 31) (.var 1)))) (.cons (.asg 3 (.ite (.cmp .eq (.bin .mod (.var 1) (.int 2)) (.int 0)) (.call f_l_odd_b (.cons (.var 2) .nil)) (.call f_l_saying (.cons (.var 2) (.cons (.int 3) (.cons (.int 6) .nil)))))) (.cons (.asg 4 (.call f_l_simple (.cons (.var 3) .nil))) (.cons (.ite (.not (.tru (.call f_l_same (.cons (.call f_simple (.cons (.var 3) .nil)) (.cons (.var 4) .nil))))) (.cons (.ret (.bl false)) .nil) .nil) (.cons (.asg 5 (.call f_is_simple (.cons (.var 3) .nil))) (.cons (.ite (.or (.cons (.and (.cons (.cmp .isnot (.var 5) (.bl true)) (.cons (.cmp .eq (.var 4) (.var 3)) .nil))) (.cons (.and (.cons (.cmp .isnot (.var 5) (.bl false)) (.cons (.cmp .ne (.var 4) (.var 3)) .nil))) .nil))) (.cons (.ret (.bl false)) .nil) .nil) .nil))))))) (.cons (.ite (.cmp .ne (.call f_simple (.cons (.tup (.cons (.str (wd 7)) (.cons (.tup (.cons (.str (wd 0)) (.cons (.int 5) .nil))) (.cons (.tup (.cons (.str (wd 0)) (.cons (.int 5) .nil))) .nil)))) .nil)) (.tup (.cons (.str (wd 7)) (.cons (.tup (.cons (.str (wd 0)) (.cons (.int 5) .nil))) (.cons (.tup (.cons (.str (wd 0)) (.cons (.int 5) .nil))) .nil))))) (.cons (.ret (.bl false)) .nil) .nil) (.cons (.ret (.cmp .eq (.call f_simple (.cons (.tup (.cons (.str (wd 8)) (.cons (.tup (.cons (.str (wd 0)) (.cons (.int 1) .nil))) (.cons (.tup (.cons (.str (wd 12)) (.cons (.int 0) (.cons (.tup (.cons (.str (wd 1)) (.cons (.int 3) (.cons (.int 6) .nil)))) .nil)))) .nil)))) .nil)) (.tup (.cons (.str (wd 0)) (.cons (.int 1) .nil))))) .nil)))
def d_law14 : Fd := ⟨b_law14, 6, 1, true⟩
def b_law15 : Ss := (.cons (.for_ (.n 1) (.rng1 (.int 12)) (.cons (.asg 2 (.bin .add (.call f_l_cell (.cons (.var 0) (.cons (.bin .mod (.var 1) (.int 9)) .nil))) (.bin .mul (.int 31) (.var 1)))) (.cons (.asg 3 (.ite (.cmp .eq (.bin .mod (.var 1) (.int 2)) (.int 0)) (.call f_l_odd_b (.cons (.var 2) .nil)) (.call f_l_saying (.cons (.var 2) (.cons (.int 3) (.cons (.int 6) .nil)))))) (.cons (.asg 4 (.call f_simple (.cons (.var 3) .nil))) (.cons (.ite (.or (.cons (.cmp .isnot (.call f_is_saying (.cons (.var 4) .nil)) (.bl true)) (.cons (.cmp .ne (.call f_shares (.cons (.var 4) .nil)) (.call f_shares (.cons (.var 3) .nil))) (.cons (.cmp .gt (.call f_dice_in (.cons (.var 4) .nil)) (.call f_dice_in (.cons (.var 3) .nil))) .nil)))) (.cons (.ret (.bl false)) .nil) .nil) (.cons (.ite (.or (.cons (.cmp .gt (.blt .len (.cons (.call f_written (.cons (.var 4) .nil)) .nil)) (.blt .len (.cons (.call f_written (.cons (.var 3) .nil)) .nil))) (.cons (.cmp .isnot (.call f_is_simple (.cons (.var 4) .nil)) (.bl true)) (.cons (.cmp .ne (.call f_simple (.cons (.var 4) .nil)) (.var 4)) .nil)))) (.cons (.ret (.bl false)) .nil) .nil) .nil)))))) (.cons (.ret (.bl true)) .nil))
def d_law15 : Fd := ⟨b_law15, 5, 1, true⟩
def b_Tally_init : Ss := (.cons (.setF 2 (.var 0) "said" (.var 1)) (.cons (.setF 2 (.var 0) "fell" (.lstM .nil)) .nil))
def d_Tally_init : Fd := ⟨b_Tally_init, 2, 2, false⟩
def b_Tally_note : Ss := (.cons (.ite (.cmp .eq (.call f_share_of (.cons (.fld 2 (.var 0) "said") (.cons (.var 1) .nil))) (.tup (.cons (.int 0) (.cons (.int 1) .nil)))) (.cons (.raise 3) .nil) .nil) (.cons (.ex (.mth .append (.fld 2 (.var 0) "fell") (.cons (.var 1) .nil))) .nil))
def d_Tally_note : Fd := ⟨b_Tally_note, 2, 2, true⟩
def b_Tally_many : Ss := (.cons (.ret (.blt .len (.cons (.fld 2 (.var 0) "fell") .nil))) .nil)
def d_Tally_many : Fd := ⟨b_Tally_many, 1, 1, true⟩
def b_Tally_counts : Ss := (.cons (.ret (.blt .tuple (.cons (.lc (.tup (.cons (.var 1) (.cons (.mth .count (.fld 2 (.var 0) "fell") (.cons (.var 1) .nil)) .nil))) (.n 1) (.seq (.blt .sset (.cons (.fld 2 (.var 0) "fell") .nil))) .tt) .nil))) .nil)
def d_Tally_counts : Fd := ⟨b_Tally_counts, 2, 1, true⟩
def b_Tally_due : Ss := (.cons (.ret (.blt .tuple (.cons (.lc (.tup (.cons (.var 1) (.cons (.call f_product (.cons (.var 2) (.cons (.call f_fraction (.cons (.blt .len (.cons (.fld 2 (.var 0) "fell") .nil)) (.cons (.int 1) .nil))) .nil))) .nil))) (.t [1, 2]) (.seq (.call f_shares (.cons (.fld 2 (.var 0) "said") .nil))) .tt) .nil))) .nil)
def d_Tally_due : Fd := ⟨b_Tally_due, 3, 1, true⟩
def b_Tally_lacking : Ss := (.cons (.ret (.blt .tuple (.cons (.lc (.var 1) (.t [1, 2]) (.seq (.call f_shares (.cons (.fld 2 (.var 0) "said") .nil))) (.cmp .notin (.var 1) (.fld 2 (.var 0) "fell"))) .nil))) .nil)
def d_Tally_lacking : Fd := ⟨b_Tally_lacking, 3, 1, true⟩
def b_Tally_undo : Ss := (.cons (.ite (.not (.tru (.fld 2 (.var 0) "fell"))) (.cons (.raise 4) .nil) .nil) (.cons (.ex (.mth .pop (.fld 2 (.var 0) "fell") .nil)) .nil))
def d_Tally_undo : Fd := ⟨b_Tally_undo, 1, 1, true⟩
def b_l_told_c : Ss := (.cons (.asg 2 .non) (.cons (.asg 3 .non) (.cons (.tryA (.cons (.asg 3 (.ite (.cmp .is (.var 1) .non) (.own 2 "undo" f_Tally_undo (.var 0) .nil) (.own 2 "note" f_Tally_note (.var 0) (.cons (.var 1) .nil)))) .nil) 0 4 (.cons (.asg 2 (.var 4)) .nil)) (.cons (.ret (.ite (.cmp .is (.var 2) .non) (.var 3) (.call f_l_word (.cons (.var 2) .nil)))) .nil))))
def d_l_told_c : Fd := ⟨b_l_told_c, 5, 2, true⟩
def b_l_all : Ss := (.cons (.asg 2 (.blt .tuple (.cons (.lc (.tup (.cons (.var 4) (.cons (.mth .count (.var 1) (.cons (.var 4) .nil)) .nil))) (.n 4) (.seq (.blt .sset (.cons (.var 1) .nil))) .tt) .nil))) (.cons (.asg 3 (.blt .tuple (.cons (.lc (.tup (.cons (.var 4) (.cons (.call f_l_fraction (.cons (.bin .mul (.idx (.var 5) (.int 0)) (.blt .len (.cons (.var 1) .nil))) (.cons (.idx (.var 5) (.int 1)) .nil))) .nil))) (.t [4, 5]) (.seq (.var 0)) .tt) .nil))) (.cons (.ret (.tup (.cons (.blt .len (.cons (.var 1) .nil)) (.cons (.var 2) (.cons (.var 3) (.cons (.blt .tuple (.cons (.lc (.var 4) (.t [4, 5]) (.seq (.var 0)) (.cmp .notin (.var 4) (.var 1))) .nil)) .nil)))))) .nil)))
def d_l_all : Fd := ⟨b_l_all, 6, 2, true⟩
def b_law16 : Ss := (.cons (.for_ (.n 1) (.rng1 (.int 6)) (.cons (.asg 2 (.call f_l_saying (.cons (.bin .add (.call f_l_cell (.cons (.var 0) (.cons (.var 1) .nil))) (.bin .mul (.int 3) (.var 1))) (.cons (.int 3) (.cons (.int 6) .nil))))) (.cons (.asg 3 (.call f_l_shares (.cons (.var 2) .nil))) (.cons (.asg 4 (.lc (.var 9) (.t [9, 12]) (.seq (.var 3)) .tt)) (.cons (.asg 5 (.mk 2 (.cons (.var 2) .nil))) (.cons (.asg 6 (.lstM .nil)) (.cons (.for_ (.n 7) (.rng1 (.call f_l_mix (.cons (.call f_l_cell (.cons (.var 0) (.cons (.int 6) .nil))) (.cons (.int 9791) (.cons (.int 21) .nil))))) (.cons (.asg 8 (.bin .add (.bin .add (.call f_l_cell (.cons (.var 0) (.cons (.bin .add (.int 7) (.bin .mod (.var 7) (.int 3))) .nil))) (.bin .mul (.int 17) (.var 7))) (.var 1))) (.cons (.asg 9 (.idx (.var 4) (.call f_l_mix (.cons (.var 8) (.cons (.int 9787) (.cons (.blt .len (.cons (.var 4) .nil)) .nil)))))) (.cons (.asg 10 (.call f_l_mix (.cons (.var 8) (.cons (.int 9781) (.cons (.int 6) .nil))))) (.cons (.ite (.cmp .eq (.var 10) (.int 0)) (.cons (.asg 9 .non) .nil) .nil) (.cons (.ite (.cmp .eq (.var 10) (.int 1)) (.cons (.asg 9 (.bin .add (.bin .sub (.idx (.var 4) (.int 0)) (.int 3)) (.call f_l_mix (.cons (.var 8) (.cons (.int 9769) (.cons (.bin .add (.bin .sub (.idx (.var 4) (.neg (.int 1))) (.idx (.var 4) (.int 0))) (.int 7)) .nil)))))) .nil) .nil) (.cons (.asg 11 .non) (.cons (.ite (.and (.cons (.cmp .is (.var 9) .non) (.cons (.cmp .eq (.var 6) (.lst .nil)) .nil))) (.cons (.asg 11 (.str [110, 111, 32, 110, 111, 116, 101])) .nil) (.cons (.ite (.cmp .is (.var 9) .non) (.cons (.ex (.mth .pop (.var 6) .nil)) .nil) (.cons (.ite (.cmp .isin (.var 9) (.var 4)) (.cons (.ex (.mth .append (.var 6) (.cons (.var 9) .nil))) .nil) (.cons (.asg 11 (.str [110, 111, 32, 119, 111, 114, 116, 104])) .nil)) .nil)) .nil)) (.cons (.ite (.cmp .ne (.call f_l_told_c (.cons (.var 5) (.cons (.var 9) .nil))) (.var 11)) (.cons (.ret (.bl false)) .nil) .nil) (.cons (.ite (.not (.tru (.call f_l_same (.cons (.tup (.cons (.own 2 "many" f_Tally_many (.var 5) .nil) (.cons (.own 2 "counts" f_Tally_counts (.var 5) .nil) (.cons (.own 2 "due" f_Tally_due (.var 5) .nil) (.cons (.own 2 "lacking" f_Tally_lacking (.var 5) .nil) .nil))))) (.cons (.call f_l_all (.cons (.var 3) (.cons (.var 6) .nil))) .nil))))) (.cons (.ret (.bl false)) .nil) .nil) .nil)))))))))) .nil))))))) (.cons (.ret (.bl true)) .nil))
def d_law16 : Fd := ⟨b_law16, 13, 1, true⟩
def b_law17 : Ss := (.cons (.for_ (.n 1) (.rng1 (.int 6)) (.cons (.asg 2 (.call f_l_saying (.cons (.bin .add (.call f_l_cell (.cons (.var 0) (.cons (.var 1) .nil))) (.bin .mul (.int 3) (.var 1))) (.cons (.int 3) (.cons (.int 2) .nil))))) (.cons (.asg 3 (.call f_all_faces (.cons (.var 2) .nil))) (.cons (.par 4 5 (.mk 2 (.cons (.var 2) .nil)) (.mk 2 (.cons (.var 2) .nil))) (.cons (.for_ (.n 6) (.seq (.var 3)) (.cons (.ex (.own 2 "note" f_Tally_note (.var 4) (.cons (.call f_fall (.cons (.var 2) (.cons (.var 6) .nil))) .nil))) .nil)) (.cons (.for_ (.n 6) (.seq (.rev (.var 3))) (.cons (.ex (.own 2 "note" f_Tally_note (.var 5) (.cons (.call f_fall (.cons (.var 2) (.cons (.var 6) .nil))) .nil))) .nil)) (.cons (.ite (.or (.cons (.cmp .ne (.own 2 "many" f_Tally_many (.var 4) .nil) (.blt .len (.cons (.var 3) .nil))) (.cons (.cmp .ne (.own 2 "lacking" f_Tally_lacking (.var 4) .nil) (.tup .nil)) (.cons (.cmp .ne (.blt .sum (.cons (.lc (.var 11) (.t [8, 11]) (.seq (.own 2 "counts" f_Tally_counts (.var 4) .nil)) .tt) .nil)) (.blt .len (.cons (.var 3) .nil))) .nil)))) (.cons (.ret (.bl false)) .nil) .nil) (.cons (.ite (.cmp .ne (.tup (.cons (.own 2 "counts" f_Tally_counts (.var 4) .nil) (.cons (.own 2 "due" f_Tally_due (.var 4) .nil) .nil))) (.tup (.cons (.own 2 "counts" f_Tally_counts (.var 5) .nil) (.cons (.own 2 "due" f_Tally_due (.var 5) .nil) .nil)))) (.cons (.ret (.bl false)) .nil) .nil) (.cons (.asg 7 (.int 1)) (.cons (.for_ (.t [8, 9]) (.seq (.own 2 "due" f_Tally_due (.var 4) .nil)) (.cons (.asg 7 (.bin .mul (.var 7) (.idx (.var 9) (.int 1)))) .nil)) (.cons (.ite (.cmp .ne (.blt .sum (.cons (.lc (.bin .mul (.idx (.var 9) (.int 0)) (.bin .div (.var 7) (.idx (.var 9) (.int 1)))) (.t [8, 9]) (.seq (.own 2 "due" f_Tally_due (.var 4) .nil)) .tt) .nil)) (.bin .mul (.var 7) (.blt .len (.cons (.var 3) .nil)))) (.cons (.ret (.bl false)) .nil) .nil) (.cons (.asg 10 (.blt .tuple (.cons (.lc (.tup (.cons (.var 8) (.cons (.tup (.cons (.var 11) (.cons (.int 1) .nil))) .nil))) (.t [8, 11]) (.seq (.own 2 "counts" f_Tally_counts (.var 4) .nil)) .tt) .nil))) (.cons (.ite (.and (.cons (.cmp .eq (.blt .lset (.cons (.lc (.blt .len (.cons (.var 6) .nil)) (.n 6) (.seq (.var 3)) .tt) .nil)) (.int 1)) (.cons (.cmp .ne (.own 2 "due" f_Tally_due (.var 4) .nil) (.var 10)) .nil))) (.cons (.ret (.bl false)) .nil) .nil) (.cons (.for_ (.n 6) (.seq (.var 3)) (.cons (.ex (.own 2 "undo" f_Tally_undo (.var 4) .nil)) .nil)) (.cons (.ite (.or (.cons (.cmp .ne (.own 2 "many" f_Tally_many (.var 4) .nil) (.int 0)) (.cons (.cmp .ne (.own 2 "counts" f_Tally_counts (.var 4) .nil) (.tup .nil)) (.cons (.cmp .ne (.lc (.var 9) (.t [8, 9]) (.seq (.own 2 "due" f_Tally_due (.var 4) .nil)) (.cmp .ne (.var 9) (.tup (.cons (.int 0) (.cons (.int 1) .nil))))) (.lst .nil)) .nil)))) (.cons (.ret (.bl false)) .nil) .nil) .nil))))))))))))))) (.cons (.ret (.bl true)) .nil))
def d_law17 : Fd := ⟨b_law17, 12, 1, true⟩
def b_law18 : Ss := (.cons (.for_ (.n 1) (.rng1 (.int 6)) (.cons (.asg 2 (.call f_l_saying (.cons (.bin .add (.call f_l_cell (.cons (.var 0) (.cons (.var 1) .nil))) (.bin .mul (.int 3) (.var 1))) (.cons (.int 2) (.cons (.int 1) .nil))))) (.cons (.asg 3 (.call f_l_saying (.cons (.bin .add (.call f_l_cell (.cons (.var 0) (.cons (.int 6) .nil))) (.bin .mul (.int 5) (.var 1))) (.cons (.int 2) (.cons (.int 1) .nil))))) (.cons (.asg 4 (.call f_read (.cons (.call f_written (.cons (.tup (.cons (.str (wd 7)) (.cons (.var 2) (.cons (.var 3) .nil)))) .nil)) .nil))) (.cons (.asg 5 (.call f_read (.cons (.call f_written (.cons (.tup (.cons (.str (wd 11)) (.cons (.var 2) (.cons (.var 3) .nil)))) .nil)) .nil))) (.cons (.ite (.or (.cons (.cmp .ne (.var 4) (.tup (.cons (.str (wd 7)) (.cons (.var 2) (.cons (.var 3) .nil))))) (.cons (.cmp .ne (.call f_mean (.cons (.var 4) .nil)) (.call f_mean (.cons (.tup (.cons (.str (wd 7)) (.cons (.var 3) (.cons (.var 2) .nil)))) .nil))) .nil))) (.cons (.ret (.bl false)) .nil) .nil) (.cons (.asg 6 (.bin .mul (.bin .mul (.bin .pow (.int 6) (.int 6)) (.bin .pow (.int 5) (.int 6))) (.bin .pow (.int 4) (.int 6)))) (.cons (.asg 7 (.int 0)) (.cons (.for_ (.n 8) (.seq (.call f_all_faces (.cons (.var 2) .nil))) (.cons (.for_ (.n 9) (.seq (.call f_all_faces (.cons (.var 3) .nil))) (.cons (.asg 10 (.bin .add (.var 8) (.var 9))) (.cons (.ite (.cmp .ne (.call f_fall (.cons (.var 4) (.cons (.var 10) .nil))) (.bin .add (.call f_fall (.cons (.var 2) (.cons (.var 8) .nil))) (.call f_fall (.cons (.var 3) (.cons (.var 9) .nil))))) (.cons (.ret (.bl false)) .nil) .nil) (.cons (.asgT [11, 12] (.call f_chance (.cons (.var 4) (.cons (.var 10) .nil)))) (.cons (.asg 7 (.bin .add (.var 7) (.bin .mul (.bin .mul (.call f_fall (.cons (.var 5) (.cons (.var 10) .nil))) (.var 11)) (.bin .div (.var 6) (.var 12))))) .nil))))) .nil)) (.cons (.ite (.cmp .ne (.idx (.call f_against (.cons (.var 2) (.cons (.var 3) .nil))) (.int 0)) (.call f_l_fraction (.cons (.var 7) (.cons (.var 6) .nil)))) (.cons (.ret (.bl false)) .nil) .nil) (.cons (.ite (.or (.cons (.cmp .ne (.call f_are_alike (.cons (.var 2) (.cons (.var 3) .nil))) (.call f_are_alike (.cons (.call f_simple (.cons (.var 2) .nil)) (.cons (.call f_simple (.cons (.var 3) .nil)) .nil)))) (.cons (.cmp .ne (.call f_shares (.cons (.call f_simple (.cons (.var 4) .nil)) .nil)) (.call f_shares (.cons (.var 4) .nil))) .nil))) (.cons (.ret (.bl false)) .nil) .nil) .nil))))))))))) (.cons (.ret (.bl true)) .nil))
def d_law18 : Fd := ⟨b_law18, 13, 1, true⟩
def b_l_lives : Ss := (.cons (.asg 2 (.ite (.cmp .eq (.call f_l_mix (.cons (.var 1) (.cons (.int 9781) (.cons (.int 5) .nil)))) (.int 0)) .non (.bin .sub (.call f_l_mix (.cons (.var 1) (.cons (.int 9787) (.cons (.int 14) .nil)))) (.int 2)))) (.cons (.ret (.tup (.cons (.call f_l_told_c (.cons (.var 0) (.cons (.var 2) .nil))) (.cons (.own 2 "many" f_Tally_many (.var 0) .nil) (.cons (.own 2 "counts" f_Tally_counts (.var 0) .nil) (.cons (.own 2 "due" f_Tally_due (.var 0) .nil) (.cons (.own 2 "lacking" f_Tally_lacking (.var 0) .nil) .nil))))))) .nil))
def d_l_lives : Fd := ⟨b_l_lives, 3, 2, true⟩
def b_law19 : Ss := (.cons (.for_ (.n 1) (.rng1 (.int 3)) (.cons (.asg 2 (.lst (.cons (.call f_l_saying (.cons (.bin .add (.call f_l_cell (.cons (.var 0) (.cons (.var 1) .nil))) (.bin .mul (.int 3) (.var 1))) (.cons (.int 3) (.cons (.int 6) .nil)))) .nil))) (.cons (.asg 2 (.catM (.var 2) (.lst (.cons (.call f_l_saying (.cons (.bin .add (.call f_l_cell (.cons (.var 0) (.cons (.int 9) .nil))) (.var 1)) (.cons (.int 3) (.cons (.int 6) .nil)))) .nil)))) (.cons (.ex (.mth .append (.var 2) (.cons (.idx (.var 2) (.int 0)) .nil))) (.cons (.asg 3 (.lc (.mk 2 (.cons (.idx (.var 2) (.var 8)) .nil)) (.n 8) (.rng1 (.int 3)) .tt)) (.cons (.par 4 5 (.lst (.cons (.lstM .nil) (.cons (.lstM .nil) (.cons (.lstM .nil) .nil)))) (.lst (.cons (.lstM .nil) (.cons (.lstM .nil) (.cons (.lstM .nil) .nil))))) (.cons (.for_ (.n 6) (.rng1 (.int 18)) (.cons (.asg 7 (.bin .add (.bin .add (.call f_l_cell (.cons (.var 0) (.cons (.bin .add (.int 3) (.bin .mod (.var 6) (.int 7))) .nil))) (.bin .mul (.int 41) (.var 6))) (.var 1))) (.cons (.asg 8 (.call f_l_mix (.cons (.var 7) (.cons (.int 9319) (.cons (.int 3) .nil))))) (.cons (.ex (.mth .append (.idx (.var 5) (.var 8)) (.cons (.var 7) .nil))) (.cons (.ex (.mth .append (.idx (.var 4) (.var 8)) (.cons (.call f_l_lives (.cons (.idx (.var 3) (.var 8)) (.cons (.var 7) .nil))) .nil))) .nil))))) (.cons (.for_ (.n 8) (.seq (.tup (.cons (.int 2) (.cons (.int 0) (.cons (.int 1) .nil))))) (.cons (.asg 9 (.mk 2 (.cons (.idx (.var 2) (.var 8)) .nil))) (.cons (.ite (.not (.tru (.call f_l_same (.cons (.blt .tuple (.cons (.idx (.var 4) (.var 8)) .nil)) (.cons (.blt .tuple (.cons (.lc (.call f_l_lives (.cons (.var 9) (.cons (.var 7) .nil))) (.n 7) (.seq (.frz (.idx (.var 5) (.var 8)))) .tt) .nil)) .nil))))) (.cons (.ret (.bl false)) .nil) .nil) .nil))) .nil)))))))) (.cons (.ret (.bl true)) .nil))
def d_law19 : Fd := ⟨b_law19, 10, 1, true⟩
def U : Nat → Fd
  | 0 => d_is_whole
  | 1 => d_is_last
  | 2 => d_is_dice
  | 3 => d_is_saying_in
  | 4 => d_dice_in
  | 5 => d_is_saying
  | 6 => d_l_cell
  | 7 => d_l_mix
  | 8 => d_l_same
  | 9 => d_l_dice
  | 10 => d_l_many
  | 11 => d_l_saying
  | 12 => d_l_bad_a
  | 13 => d_l_odd_a
  | 14 => d_l_is_in
  | 15 => d_l_is_saying
  | 16 => d_law01
  | 17 => d_divisor
  | 18 => d_fraction
  | 19 => d_sum_of
  | 20 => d_product
  | 21 => d_added
  | 22 => d_put_together
  | 23 => d_of_two
  | 24 => d_one_die
  | 25 => d_kept_shares
  | 26 => d_book_of
  | 27 => d_shares
  | 28 => d_share_of
  | 29 => d_share_from
  | 30 => d_at_least
  | 31 => d_l_divisor
  | 32 => d_l_fraction
  | 33 => d_l_two
  | 34 => d_l_die
  | 35 => d_l_kept
  | 36 => d_l_book
  | 37 => d_l_both
  | 38 => d_l_shares
  | 39 => d_law02
  | 40 => d_law03
  | 41 => d_bounds_of_dice
  | 42 => d_bounds_of_two
  | 43 => d_bounds
  | 44 => d_law04
  | 45 => d_is_less
  | 46 => d_mean
  | 47 => d_likeliest
  | 48 => d_middle
  | 49 => d_law05
  | 50 => d_l_sum
  | 51 => d_law06
  | 52 => d_Faces_init
  | 53 => d_Faces_take
  | 54 => d_die_worth
  | 55 => d_worth_of
  | 56 => d_read_faces
  | 57 => d_fall
  | 58 => d_chance
  | 59 => d_l_row
  | 60 => d_l_fall
  | 61 => d_l_word
  | 62 => d_l_told_a
  | 63 => d_law07
  | 64 => d_sides_in
  | 65 => d_state_of
  | 66 => d_all_faces
  | 67 => d_l_rows
  | 68 => d_law08
  | 69 => d_law09
  | 70 => d_against
  | 71 => d_are_alike
  | 72 => d_is_never_behind
  | 73 => d_l_near
  | 74 => d_law10
  | 75 => d_best_for
  | 76 => d_l_is_less
  | 77 => d_law11
  | 78 => d_in_brackets
  | 79 => d_written
  | 80 => d_Reader_init
  | 81 => d_Reader_has
  | 82 => d_Reader_must
  | 83 => d_Reader_figure
  | 84 => d_Reader_call
  | 85 => d_Reader_part
  | 86 => d_Reader_saying
  | 87 => d_read
  | 88 => d_l_written
  | 89 => d_l_read
  | 90 => d_law12
  | 91 => d_l_told_b
  | 92 => d_l_is_right
  | 93 => d_l_bad_b
  | 94 => d_l_changed
  | 95 => d_law13
  | 96 => d_of_numbers
  | 97 => d_of_nothing
  | 98 => d_simple
  | 99 => d_is_simple
  | 100 => d_l_simple
  | 101 => d_l_odd_b
  | 102 => d_law14
  | 103 => d_law15
  | 104 => d_Tally_init
  | 105 => d_Tally_note
  | 106 => d_Tally_many
  | 107 => d_Tally_counts
  | 108 => d_Tally_due
  | 109 => d_Tally_lacking
  | 110 => d_Tally_undo
  | 111 => d_l_told_c
  | 112 => d_l_all
  | 113 => d_law16
  | 114 => d_law17
  | 115 => d_law18
  | 116 => d_l_lives
  | 117 => d_law19
  | _ => ⟨.nil, 0, 0, true⟩
def gloV : Nat → D
  | 0 => (.tup [(.str (wd 7)), (.str (wd 8)), (.str (wd 9)), (.str (wd 10)), (.str (wd 11))])
  | 1 => (.tup [(.str (wd 1)), (.str (wd 2)), (.str (wd 3)), (.str (wd 4)), (.str (wd 5)), (.str (wd 6))])
  | 2 => (.int 3)
  | 3 => (.int 6)
  | 4 => (.str [48, 49, 50, 51, 52, 53, 54, 55, 56, 57])
  | 5 => (.int 6)
  | 6 => (.fs [((wd 2), .str [104]), ((wd 3), .str [108]), ((wd 4), .str [114]), ((wd 5), .str [120]), ((wd 6), .str [99])])
  | 7 => (.fs [((wd 9), .str [109, 97, 120]), ((wd 10), .str [109, 105, 110]), ((wd 11), .str (wd 11))])
  | 8 => (.fs [((wd 7), .str [32, 43, 32]), ((wd 8), .str [32, 45, 32])])
  | 9 => (.tup [(.str (wd 0)), (.int 0)])
  | _ => .non
def iniV : Nat → Nat
  | 0 => f_Faces_init
  | 1 => f_Reader_init
  | 2 => f_Tally_init
  | _ => 0
def PU : Prog := ⟨U, iniV, gloV, 4000⟩
end Y

set_option linter.all false
set_option maxRecDepth 100000
set_option maxHeartbeats 4000000
namespace Y
/-! ### evaluation, in small steps -/
def CfN (n : Nat) : Cfg := { call := interp PU n, init := interp PU (n - 1), ini := iniV, glo := gloV, W := 4000 }
theorem interp_succ (n f : Nat) (ds : List D) (h : Hs) : interp PU (n + 1) f ds h = runF (CfN n) (U f) ds h := by rw [interp]; rfl
@[simp] theorem CfN_call (n : Nat) : (CfN n).call = interp PU n := rfl
@[simp] theorem CfN_glo (n : Nat) (g : Nat) : (CfN n).glo g = gloV g := rfl
@[simp] theorem CfN_W (n : Nat) : (CfN n).W = 4000 := rfl
@[simp] theorem SZ_eq : SZ = 16777216 := rfl
def Okh (h : Hs) : Prop := h.all (Ob.rb h.length) = true
theorem Okh_nil : Okh [] := rfl
@[simp] theorem rb_non {k : Nat} : D.rb k .non = true := rfl
@[simp] theorem rb_bl {k : Nat} {b : Bool} : D.rb k (.bl b) = true := rfl
@[simp] theorem rb_int {k : Nat} {b : Int} : D.rb k (.int b) = true := rfl
@[simp] theorem rb_str {k : Nat} {b : S} : D.rb k (.str b) = true := rfl
@[simp] theorem rb_tup {k : Nat} {b : List D} : D.rb k (.tup b) = D.rbs k b := rfl
@[simp] theorem rb_fl {k : Nat} {b : List D} : D.rb k (.fl b) = D.rbs k b := rfl
@[simp] theorem rb_fi {k : Nat} {b : List (Int × D)} : D.rb k (.fi b) = D.rbi k b := rfl
@[simp] theorem rbs_nil {k : Nat} : D.rbs k [] = true := rfl
@[simp] theorem rbs_cons {k : Nat} {d : D} {r : List D} : D.rbs k (d :: r) = (D.rb k d && D.rbs k r) := rfl
@[simp] theorem rbi_nil {k : Nat} : D.rbi k [] = true := rfl
@[simp] theorem rbi_cons {k : Nat} {i : Int} {d : D} {r : List (Int × D)} : D.rbi k ((i, d) :: r) = (D.rb k d && D.rbi k r) := rfl
theorem cut_ok {h : Hs} {d : D} (ho : Okh h) (hd : d.rb h.length = true) : cutR true h.length (.ok d h) = .ok d h := by
  unfold Okh at ho
  simp [cutR, hd, ho]
@[simp] theorem eqv_int {a b : Int} : D.eqv (.int a) (.int b) = decide (a = b) := rfl
@[simp] theorem eqv_bl {a b : Bool} : D.eqv (.bl a) (.bl b) = decide (a = b) := by cases a <;> cases b <;> rfl
theorem eqv_str0 {a b : S} : D.eqv (.str a) (.str b) = (a == b) := rfl
@[simp] theorem eqv_str {a b : S} : D.eqv (.str a) (.str b) = decide (a = b) := by rw [eqv_str0, Bool.beq_eq_decide_eq]
@[simp] theorem eqv_is {a : Int} {b : S} : D.eqv (.int a) (.str b) = false := rfl
@[simp] theorem eqv_si {a : Int} {b : S} : D.eqv (.str b) (.int a) = false := rfl
@[simp] theorem eqv_ti {a : Int} {b : List D} : D.eqv (.tup b) (.int a) = false := rfl
@[simp] theorem eqv_it {a : Int} {b : List D} : D.eqv (.int a) (.tup b) = false := rfl
@[simp] theorem eqv_tup {a b : List D} : D.eqv (.tup a) (.tup b) = D.eqvs a b := rfl
@[simp] theorem eqvs_nn : D.eqvs [] [] = true := rfl
@[simp] theorem eqvs_nc {a : D} {r : List D} : D.eqvs [] (a :: r) = false := rfl
@[simp] theorem eqvs_cn {a : D} {r : List D} : D.eqvs (a :: r) [] = false := rfl
@[simp] theorem eqvs_cc {a b : D} {r t : List D} : D.eqvs (a :: r) (b :: t) = (D.eqv a b && D.eqvs r t) := rfl
@[simp] theorem okn_non {k : Nat} : D.okn k .non = true := by cases k <;> rfl
@[simp] theorem okn_int {k : Nat} {a : Int} : D.okn k (.int a) = true := by cases k <;> rfl
@[simp] theorem okn_bl {k : Nat} {a : Bool} : D.okn k (.bl a) = true := by cases k <;> rfl
theorem wd_ascii (k : Nat) : ((wd k).all fun c => decide (c < 128)) = true := by
  unfold wd
  split <;> rfl
theorem okn_str {k : Nat} {a : S} : D.okn k (.str a) = a.all fun c => decide (c < 128) := by cases k <;> rfl
@[simp] theorem okn_wd {k i : Nat} : D.okn k (.str (wd i)) = true := by rw [okn_str]; exact wd_ascii i
@[simp] theorem okn_tup {k : Nat} {a : List D} : D.okn (k + 1) (.tup a) = D.oksn k a := rfl
@[simp] theorem oksn_nil {k : Nat} : D.oksn k [] = true := by cases k <;> rfl
@[simp] theorem oksn_cons {k : Nat} {a : D} {r : List D} : D.oksn k (a :: r) = (D.okn k a && D.oksn k r) := by cases k <;> rfl
theorem wd_eq0 : ∀ i j : Fin 13, (wd i == wd j) = decide (i = j) := by decide +kernel
theorem wd_eq {i j : Nat} (hi : i < 13) (hj : j < 13) : (wd i == wd j) = decide (i = j) := by
  have := wd_eq0 ⟨i, hi⟩ ⟨j, hj⟩
  simpa using this
@[simp] theorem wd_inj {i j : Nat} (hi : i < 13) (hj : j < 13) : (wd i = wd j) = (i = j) := by
  have := wd_eq hi hj
  rw [Bool.beq_eq_decide_eq] at this
  simpa using this
@[simp] theorem deref_tup {h : Hs} {d : List D} : deref h (.tup d) = .tup d := rfl
@[simp] theorem deref_int {h : Hs} {d : Int} : deref h (.int d) = .int d := rfl
@[simp] theorem deref_str {h : Hs} {d : S} : deref h (.str d) = .str d := rfl
@[simp] theorem deref_bl {h : Hs} {d : Bool} : deref h (.bl d) = .bl d := rfl
@[simp] theorem deref_non {h : Hs} : deref h .non = .non := rfl
@[simp] theorem cop_lt {h : Hs} {a b : Int} : cop .lt h (.int a) (.int b) = .ok (.bl (decide (a < b))) h := rfl
@[simp] theorem cop_le {h : Hs} {a b : Int} : cop .le h (.int a) (.int b) = .ok (.bl (decide (a ≤ b))) h := rfl
@[simp] theorem cop_gt {h : Hs} {a b : Int} : cop .gt h (.int a) (.int b) = .ok (.bl (decide (b < a))) h := rfl
@[simp] theorem cop_ge {h : Hs} {a b : Int} : cop .ge h (.int a) (.int b) = .ok (.bl (decide (b ≤ a))) h := rfl
theorem cop_eq {h : Hs} {a b : D} (ha : (deref h a).ok = true) (hb : (deref h b).ok = true) : cop .eq h a b = .ok (.bl (D.eqv (deref h a) (deref h b))) h := by simp only [cop, ha, hb, and_self, if_true]
theorem cop_ne {h : Hs} {a b : D} (ha : (deref h a).ok = true) (hb : (deref h b).ok = true) : cop .ne h a b = .ok (.bl (!D.eqv (deref h a) (deref h b))) h := by simp only [cop, ha, hb, and_self, if_true]
@[simp] theorem cop_eq_int {h : Hs} {a b : Int} : cop .eq h (.int a) (.int b) = .ok (.bl (decide (a = b))) h := cop_eq okn_int okn_int
@[simp] theorem cop_ne_int {h : Hs} {a b : Int} : cop .ne h (.int a) (.int b) = .ok (.bl (!decide (a = b))) h := cop_ne okn_int okn_int
@[simp] theorem cop_eq_wd {h : Hs} {a b : Nat} : cop .eq h (.str (wd a)) (.str (wd b)) = .ok (.bl (decide (wd a = wd b))) h := by rw [cop_eq okn_wd okn_wd]; simp
@[simp] theorem cop_ne_wd {h : Hs} {a b : Nat} : cop .ne h (.str (wd a)) (.str (wd b)) = .ok (.bl (!decide (wd a = wd b))) h := by rw [cop_ne okn_wd okn_wd]; simp
@[simp] theorem cop_is_non {h : Hs} : cop .is h .non .non = .ok (.bl true) h := rfl
@[simp] theorem cop_isnot_non {h : Hs} : cop .isnot h .non .non = .ok (.bl false) h := rfl
@[simp] theorem cop_isnot_int {h : Hs} {i : Int} : cop .isnot h (.int i) .non = .ok (.bl true) h := rfl
@[simp] theorem cop_is_int {h : Hs} {i : Int} : cop .is h (.int i) .non = .ok (.bl false) h := rfl
@[simp] theorem cop_is_str {h : Hs} {i : S} : cop .is h (.str i) .non = .ok (.bl false) h := rfl
@[simp] theorem cop_is_tup {h : Hs} {i : List D} : cop .is h (.tup i) .non = .ok (.bl false) h := rfl
@[simp] theorem cop_is_bl {h : Hs} {a b : Bool} : cop .is h (.bl a) (.bl b) = .ok (.bl (decide (a = b))) h := rfl
@[simp] theorem cop_isnot_bl {h : Hs} {a b : Bool} : cop .isnot h (.bl a) (.bl b) = .ok (.bl (!decide (a = b))) h := rfl
@[simp] theorem cop_in {h : Hs} {x : S} {ds : List D} (hx : ds.all D.flat = true) : cop .isin h (.str x) (.tup ds) = .ok (.bl (ds.any fun z => D.eqv z (.str x))) h := by simp [cop, isIn, hx, D.flat]
@[simp] theorem flat_str {s : S} : D.flat (.str s) = true := rfl
@[simp] theorem bop_add {h : Hs} {a b : Int} : bop .add h (.int a) (.int b) = .ok (.int (a + b)) h := rfl
@[simp] theorem bop_sub {h : Hs} {a b : Int} : bop .sub h (.int a) (.int b) = .ok (.int (a - b)) h := rfl
theorem bop_mul {h : Hs} {a b : Int} (hc : a.natAbs < 18446744073709551616 ∨ b.natAbs < 18446744073709551616) : bop .mul h (.int a) (.int b) = .ok (.int (a * b)) h := by simp only [bop, opMul, if_pos (Or.inl hc)]
theorem bop_mulB {h : Hs} {a b : Int} (ha : a.natAbs < BIG) (hb : b.natAbs < BIG) : bop .mul h (.int a) (.int b) = .ok (.int (a * b)) h := by simp only [bop, opMul, if_pos (Or.inr (And.intro ha hb))]
theorem bop_div {h : Hs} {a b : Int} (ha : 0 < b) (hb : b.natAbs < BIG) : bop .div h (.int a) (.int b) = .ok (.int (a / b)) h := by simp only [bop, opDiv, if_pos (And.intro ha hb)]
theorem bop_mod {h : Hs} {a b : Int} (hc : 0 < b) : bop .mod h (.int a) (.int b) = .ok (.int (a % b)) h := by simp only [bop, opMod, if_pos hc]
@[simp] theorem ix0 {h : Hs} {a : D} {r : List D} : index h (.tup (a :: r)) (.int 0) = some a := by simp [index, atI, ixN]
@[simp] theorem ix1 {h : Hs} {a b : D} {r : List D} : index h (.tup (a :: b :: r)) (.int 1) = some b := by
  have : (1 : Int) < (r.length : Int) + 1 + 1 := by omega
  simp [index, atI, ixN, this]
@[simp] theorem ix2 {h : Hs} {a b c : D} {r : List D} : index h (.tup (a :: b :: c :: r)) (.int 2) = some c := by
  have : (2 : Int) < (r.length : Int) + 1 + 1 + 1 := by omega
  simp [index, atI, ixN, this]
@[simp] theorem ix3 {h : Hs} {a b c d : D} {r : List D} : index h (.tup (a :: b :: c :: d :: r)) (.int 3) = some d := by
  have : (3 : Int) < (r.length : Int) + 1 + 1 + 1 + 1 := by omega
  simp [index, atI, ixN, this]
@[simp] theorem one_some {h : Hs} {d : D} : one h (some d) = .ok d h := rfl
@[simp] theorem toR_rt {d : D} {h : Hs} : (RS.rt d h).toR = .ok d h := rfl
@[simp] theorem toR_nx {ρ : Env} {h : Hs} : (RS.nx ρ h).toR = .ok .non h := rfl
/-! ### sayings -/
inductive Pw | high | low | again | burst | count
  deriving DecidableEq
inductive Tw | plus | less | most | least | beats
  deriving DecidableEq
def Pw.n : Pw → Nat
  | .high => 2
  | .low => 3
  | .again => 4
  | .burst => 5
  | .count => 6
def Tw.n : Tw → Nat
  | .plus => 7
  | .less => 8
  | .most => 9
  | .least => 10
  | .beats => 11
@[simp] theorem Pw.n_high : Pw.high.n = 2 := rfl
@[simp] theorem Pw.n_low : Pw.low.n = 3 := rfl
@[simp] theorem Pw.n_again : Pw.again.n = 4 := rfl
@[simp] theorem Pw.n_burst : Pw.burst.n = 5 := rfl
@[simp] theorem Pw.n_count : Pw.count.n = 6 := rfl
@[simp] theorem Tw.n_plus : Tw.plus.n = 7 := rfl
@[simp] theorem Tw.n_less : Tw.less.n = 8 := rfl
@[simp] theorem Tw.n_most : Tw.most.n = 9 := rfl
@[simp] theorem Tw.n_least : Tw.least.n = 10 := rfl
@[simp] theorem Tw.n_beats : Tw.beats.n = 11 := rfl
@[simp] theorem Pw.lt (w : Pw) : w.n < 13 := by cases w <;> decide
@[simp] theorem Tw.lt (w : Tw) : w.n < 13 := by cases w <;> decide
@[simp] theorem Pw.inj (w v : Pw) : (w.n = v.n) = (w = v) := by cases w <;> cases v <;> simp
@[simp] theorem Tw.inj (w v : Tw) : (w.n = v.n) = (w = v) := by cases w <;> cases v <;> simp
@[simp] theorem Pw.tw (w : Pw) (v : Tw) : (w.n = v.n) = False := by cases w <;> cases v <;> simp
@[simp] theorem Tw.pw (w : Tw) (v : Pw) : (w.n = v.n) = False := by cases w <;> cases v <;> simp
@[simp] theorem Pw.n0 (w : Pw) : (w.n = 0) = False := by cases w <;> simp
@[simp] theorem Pw.m0 (w : Pw) : (0 = w.n) = False := by cases w <;> simp
@[simp] theorem Pw.n1 (w : Pw) : (w.n = 1) = False := by cases w <;> simp
@[simp] theorem Pw.m1 (w : Pw) : (1 = w.n) = False := by cases w <;> simp
@[simp] theorem Pw.n7 (w : Pw) : (w.n = 7) = False := by cases w <;> simp
@[simp] theorem Pw.m7 (w : Pw) : (7 = w.n) = False := by cases w <;> simp
@[simp] theorem Pw.n8 (w : Pw) : (w.n = 8) = False := by cases w <;> simp
@[simp] theorem Pw.m8 (w : Pw) : (8 = w.n) = False := by cases w <;> simp
@[simp] theorem Pw.n9 (w : Pw) : (w.n = 9) = False := by cases w <;> simp
@[simp] theorem Pw.m9 (w : Pw) : (9 = w.n) = False := by cases w <;> simp
@[simp] theorem Pw.n10 (w : Pw) : (w.n = 10) = False := by cases w <;> simp
@[simp] theorem Pw.m10 (w : Pw) : (10 = w.n) = False := by cases w <;> simp
@[simp] theorem Pw.n11 (w : Pw) : (w.n = 11) = False := by cases w <;> simp
@[simp] theorem Pw.m11 (w : Pw) : (11 = w.n) = False := by cases w <;> simp
@[simp] theorem Pw.n12 (w : Pw) : (w.n = 12) = False := by cases w <;> simp
@[simp] theorem Pw.m12 (w : Pw) : (12 = w.n) = False := by cases w <;> simp
@[simp] theorem Pw.n2 (w : Pw) : (w.n = 2) = (w = .high) := by cases w <;> simp
@[simp] theorem Pw.m2 (w : Pw) : (2 = w.n) = (w = .high) := by cases w <;> simp
@[simp] theorem Pw.n3 (w : Pw) : (w.n = 3) = (w = .low) := by cases w <;> simp
@[simp] theorem Pw.m3 (w : Pw) : (3 = w.n) = (w = .low) := by cases w <;> simp
@[simp] theorem Pw.n4 (w : Pw) : (w.n = 4) = (w = .again) := by cases w <;> simp
@[simp] theorem Pw.m4 (w : Pw) : (4 = w.n) = (w = .again) := by cases w <;> simp
@[simp] theorem Pw.n5 (w : Pw) : (w.n = 5) = (w = .burst) := by cases w <;> simp
@[simp] theorem Pw.m5 (w : Pw) : (5 = w.n) = (w = .burst) := by cases w <;> simp
@[simp] theorem Pw.n6 (w : Pw) : (w.n = 6) = (w = .count) := by cases w <;> simp
@[simp] theorem Pw.m6 (w : Pw) : (6 = w.n) = (w = .count) := by cases w <;> simp
@[simp] theorem Tw.n0 (w : Tw) : (w.n = 0) = False := by cases w <;> simp
@[simp] theorem Tw.m0 (w : Tw) : (0 = w.n) = False := by cases w <;> simp
@[simp] theorem Tw.n1 (w : Tw) : (w.n = 1) = False := by cases w <;> simp
@[simp] theorem Tw.m1 (w : Tw) : (1 = w.n) = False := by cases w <;> simp
@[simp] theorem Tw.n2 (w : Tw) : (w.n = 2) = False := by cases w <;> simp
@[simp] theorem Tw.m2 (w : Tw) : (2 = w.n) = False := by cases w <;> simp
@[simp] theorem Tw.n3 (w : Tw) : (w.n = 3) = False := by cases w <;> simp
@[simp] theorem Tw.m3 (w : Tw) : (3 = w.n) = False := by cases w <;> simp
@[simp] theorem Tw.n4 (w : Tw) : (w.n = 4) = False := by cases w <;> simp
@[simp] theorem Tw.m4 (w : Tw) : (4 = w.n) = False := by cases w <;> simp
@[simp] theorem Tw.n5 (w : Tw) : (w.n = 5) = False := by cases w <;> simp
@[simp] theorem Tw.m5 (w : Tw) : (5 = w.n) = False := by cases w <;> simp
@[simp] theorem Tw.n6 (w : Tw) : (w.n = 6) = False := by cases w <;> simp
@[simp] theorem Tw.m6 (w : Tw) : (6 = w.n) = False := by cases w <;> simp
@[simp] theorem Tw.n12 (w : Tw) : (w.n = 12) = False := by cases w <;> simp
@[simp] theorem Tw.m12 (w : Tw) : (12 = w.n) = False := by cases w <;> simp
@[simp] theorem Tw.n7 (w : Tw) : (w.n = 7) = (w = .plus) := by cases w <;> simp
@[simp] theorem Tw.m7 (w : Tw) : (7 = w.n) = (w = .plus) := by cases w <;> simp
@[simp] theorem Tw.n8 (w : Tw) : (w.n = 8) = (w = .less) := by cases w <;> simp
@[simp] theorem Tw.m8 (w : Tw) : (8 = w.n) = (w = .less) := by cases w <;> simp
@[simp] theorem Tw.n9 (w : Tw) : (w.n = 9) = (w = .most) := by cases w <;> simp
@[simp] theorem Tw.m9 (w : Tw) : (9 = w.n) = (w = .most) := by cases w <;> simp
@[simp] theorem Tw.n10 (w : Tw) : (w.n = 10) = (w = .least) := by cases w <;> simp
@[simp] theorem Tw.m10 (w : Tw) : (10 = w.n) = (w = .least) := by cases w <;> simp
@[simp] theorem Tw.n11 (w : Tw) : (w.n = 11) = (w = .beats) := by cases w <;> simp
@[simp] theorem Tw.m11 (w : Tw) : (11 = w.n) = (w = .beats) := by cases w <;> simp
inductive Sy where
  | num (n : Int) | dice (m s : Int) | pool (w : Pw) (m s l : Int) | times (n : Int) (a : Sy) | two (w : Tw) (a b : Sy)
  deriving DecidableEq
def Sy.toD : Sy → D
  | .num n => .tup [.str (wd 0), .int n]
  | .dice m s => .tup [.str (wd 1), .int m, .int s]
  | .pool w m s l => .tup [.str (wd w.n), .int m, .int s, .int l]
  | .times n a => .tup [.str (wd 12), .int n, a.toD]
  | .two w a b => .tup [.str (wd w.n), a.toD, b.toD]
@[simp] theorem rb_toD {k : Nat} : ∀ s : Sy, s.toD.rb k = true
  | .num _ => rfl
  | .dice _ _ => rfl
  | .pool _ _ _ _ => rfl
  | .times n a => by simp [Sy.toD, rb_toD a]
  | .two w a b => by simp [Sy.toD, rb_toD a, rb_toD b]
def Sy.dep : Sy → Nat
  | .times _ a => a.dep + 1
  | .two _ a b => max a.dep b.dep + 1
  | _ => 0
theorem okn_toD : ∀ (s : Sy) (k : Nat), s.dep < k → s.toD.okn k = true
  | .num _, k + 1, _ => by simp [Sy.toD]
  | .dice _ _, k + 1, _ => by simp [Sy.toD]
  | .pool _ _ _ _, k + 1, _ => by simp [Sy.toD]
  | .times n a, k + 1, h => by
    simp only [Sy.dep] at h
    simp [Sy.toD, okn_toD a k (by omega)]
  | .two w a b, k + 1, h => by
    simp only [Sy.dep] at h
    simp [Sy.toD, okn_toD a k (by omega), okn_toD b k (by omega)]
@[simp] theorem deref_toD {h : Hs} (s : Sy) : deref h s.toD = s.toD := by cases s <;> rfl
theorem eqv_toD : ∀ a b : Sy, D.eqv a.toD b.toD = decide (a = b)
  | .num a, b => by
    cases b with
    | num b => simp [Sy.toD]
    | dice _ _ => simp [Sy.toD]
    | pool w _ _ _ => simp [Sy.toD]
    | times _ _ => simp [Sy.toD]
    | two w _ _ => simp [Sy.toD]
  | .dice a c, b => by
    cases b with
    | num b => simp [Sy.toD]
    | dice _ _ => simp [Sy.toD]
    | pool w _ _ _ => simp [Sy.toD]
    | times _ _ => simp [Sy.toD]
    | two w _ _ => simp [Sy.toD]
  | .pool w a c d, b => by
    cases b with
    | num b => simp [Sy.toD]
    | dice _ _ => simp [Sy.toD]
    | pool w' _ _ _ => simp [Sy.toD]
    | times _ _ => simp [Sy.toD]
    | two w _ _ => simp [Sy.toD]
  | .times n a, b => by
    cases b with
    | num b => simp [Sy.toD]
    | dice _ _ => simp [Sy.toD]
    | pool w _ _ _ => simp [Sy.toD]
    | times m b => simp [Sy.toD, eqv_toD a b]
    | two w _ _ => simp [Sy.toD]
  | .two w a c, b => by
    cases b with
    | num b => simp [Sy.toD]
    | dice _ _ => simp [Sy.toD]
    | pool w _ _ _ => simp [Sy.toD]
    | times m b => simp [Sy.toD]
    | two w' b d => simp [Sy.toD, eqv_toD a b, eqv_toD c d]
end Y

set_option linter.all false
set_option maxRecDepth 100000
set_option maxHeartbeats 4000000
namespace Y
def mixI (c p m : Int) : Int := (c * 48271 % p) * (c * 48271 % p + 7) % p % m
theorem run_mix (n : Nat) (c p m : Int) (h : Hs) (ho : Okh h) (hp : 0 < p) (hp2 : p < 18446744073709551616) (hm : 0 < m) : interp PU (n + 1) f_l_mix [.int c, .int p, .int m] h = .ok (.int (mixI c p m)) h := by
  have h1 : (c * 48271 % p).natAbs < 18446744073709551616 := by
    have a := Int.emod_nonneg (c * 48271) (show p ≠ 0 by omega)
    have b := Int.emod_lt_of_pos (c * 48271) hp
    omega
  rw [interp_succ]
  simp only [runF, U, d_l_mix, b_l_mix, enter, Ss.sem, St.sem, E.sem]
  simp [bop_mul, bop_mod, h1, hp, hm, mixI]
  (refine cut_ok ho ?_; simp)
def two (w : Tw) (a b : Int) : Int := match w with
  | .plus => a + b
  | .less => a - b
  | .most => if b > a then b else a
  | .least => if b < a then b else a
  | .beats => if b < a then 1 else 0
theorem run_of_two (n : Nat) (w : Tw) (a b : Int) (h : Hs) (ho : Okh h) : interp PU (n + 1) f_of_two [.str (wd w.n), .int a, .int b] h = .ok (.int (two w a b)) h := by
  rw [interp_succ]
  simp only [runF, U, d_of_two, b_of_two, enter, Ss.sem, St.sem, E.sem, Es.sem, T.sem]
  cases w <;> simp [blt, two] <;> (refine cut_ok ho ?_; simp)
@[simp] theorem in_two (h : Hs) (w : Tw) : cop .isin h (.str (wd w.n)) (gloV 0) = .ok (.bl true) h := by cases w <;> simp [gloV]
@[simp] theorem in_two0 (h : Hs) : cop .isin h (.str (wd 0)) (gloV 0) = .ok (.bl false) h := by simp [gloV]
@[simp] theorem in_two1 (h : Hs) : cop .isin h (.str (wd 1)) (gloV 0) = .ok (.bl false) h := by simp [gloV]
@[simp] theorem in_two12 (h : Hs) : cop .isin h (.str (wd 12)) (gloV 0) = .ok (.bl false) h := by simp [gloV]
@[simp] theorem in_twoP (h : Hs) (w : Pw) : cop .isin h (.str (wd w.n)) (gloV 0) = .ok (.bl false) h := by simp [gloV]
def ofNumbers : Sy → Sy
  | .two w (.num a) (.num b) => if 0 ≤ two w a b ∧ two w a b ≤ 9 then .num (two w a b) else .two w (.num a) (.num b)
  | .times n (.num a) => if 0 ≤ n * a ∧ n * a ≤ 9 then .num (n * a) else .times n (.num a)
  | s => s
def tmOk : Sy → Prop
  | .times n _ => n.natAbs < 18446744073709551616
  | _ => True
/-- the head of a saying, as index 0 gives it -/
def Sy.hd : Sy → Nat
  | .num _ => 0
  | .dice _ _ => 1
  | .pool w _ _ _ => w.n
  | .times _ _ => 12
  | .two w _ _ => w.n
@[simp] theorem ix_hd {h : Hs} (s : Sy) : index h s.toD (.int 0) = some (.str (wd s.hd)) := by cases s <;> simp [Sy.toD, Sy.hd]
@[simp] theorem hd_lt (s : Sy) : s.hd < 13 := by cases s <;> simp [Sy.hd]
@[simp] theorem hd_0 (s : Sy) : (s.hd = 0) = ∃ n, s = .num n := by cases s <;> simp [Sy.hd]
theorem run_of_numbers (n : Nat) (s : Sy) (h : Hs) (ho : Okh h) (ht : tmOk s) : interp PU (n + 2) f_of_numbers [s.toD] h = .ok (ofNumbers s).toD h := by
  rw [interp_succ]
  simp only [runF, U, d_of_numbers, b_of_numbers, enter, Ss.sem, St.sem, E.sem, Es.sem, T.sem, Ts.semAnd]
  cases s with
  | num a =>
    simp [Sy.toD, ofNumbers]
    (refine cut_ok ho ?_; simp)
  | dice a b =>
    simp [Sy.toD, ofNumbers]
    (refine cut_ok ho ?_; simp)
  | pool w a b c =>
    simp [Sy.toD, ofNumbers]
    (refine cut_ok ho ?_; simp)
  | times a b =>
    have ht : a.natAbs < 18446744073709551616 := ht
    by_cases hb : ∃ x, b = .num x
    · obtain ⟨x, rfl⟩ := hb
      simp [Sy.toD, ofNumbers, bop_mul (Or.inl ht : a.natAbs < 18446744073709551616 ∨ x.natAbs < 18446744073709551616)]
      by_cases h1 : 0 ≤ a * x
      · by_cases h2 : a * x ≤ 9
        · simp [h1, h2, Sy.toD]
          (refine cut_ok ho ?_; simp)
        · simp [h1, h2, Sy.toD]
          (refine cut_ok ho ?_; simp)
      · simp [h1, Sy.toD]
        (refine cut_ok ho ?_; simp)
    · have e : ofNumbers (.times a b) = .times a b := by cases b <;> first | rfl | exact absurd ⟨_, rfl⟩ hb
      simp [Sy.toD, e, hb]
      exact cut_ok ho (rb_toD (.times a b))
  | two w a b =>
    by_cases hb : (∃ x, a = .num x) ∧ ∃ y, b = .num y
    · obtain ⟨⟨x, rfl⟩, y, rfl⟩ := hb
      simp [Sy.toD, ofNumbers, run_of_two n w x y h ho]
      by_cases h1 : 0 ≤ two w x y
      · by_cases h2 : two w x y ≤ 9
        · simp [h1, h2, Sy.toD]
          (refine cut_ok ho ?_; simp)
        · simp [h1, h2, Sy.toD]
          (refine cut_ok ho ?_; simp)
      · simp [h1, Sy.toD]
        (refine cut_ok ho ?_; simp)
    · have e : ofNumbers (.two w a b) = .two w a b := by cases a <;> cases b <;> first | rfl | exact absurd ⟨⟨_, rfl⟩, _, rfl⟩ hb
      by_cases ha : ∃ x, a = .num x
      · have hb2 : ¬ ∃ y, b = .num y := fun z => hb ⟨ha, z⟩
        simp [Sy.toD, e, ha, hb2]
        exact cut_ok ho (rb_toD (.two w a b))
      · simp [Sy.toD, e, ha]
        exact cut_ok ho (rb_toD (.two w a b))
end Y

set_option linter.all false
set_option maxRecDepth 100000
set_option maxHeartbeats 4000000
namespace Y
theorem cop_eq_toD {h : Hs} {a b : Sy} (ha : a.dep < 60) (hb : b.dep < 60) : cop .eq h a.toD b.toD = .ok (.bl (decide (a = b))) h := by
  rw [cop_eq (by simpa using okn_toD a 60 ha) (by simpa using okn_toD b 60 hb)]
  simp [eqv_toD]
theorem cop_ne_toD {h : Hs} {a b : Sy} (ha : a.dep < 60) (hb : b.dep < 60) : cop .ne h a.toD b.toD = .ok (.bl (!decide (a = b))) h := by
  rw [cop_ne (by simpa using okn_toD a 60 ha) (by simpa using okn_toD b 60 hb)]
  simp [eqv_toD]
theorem glo9 : gloV 9 = (Sy.num 0).toD := rfl
def ofNothing : Sy → Sy
  | .two w a b => if w = .plus ∧ a = .num 0 then b else if (w = .plus ∨ w = .less) ∧ b = .num 0 then a else .two w a b
  | .times n a => if n = 1 then a else if n = 0 then .num 0 else .times n a
  | s => s
theorem num_dep (x : Int) : (Sy.num x).dep < 60 := by show 0 < 60; omega
theorem run_of_nothing (n : Nat) (s : Sy) (h : Hs) (ho : Okh h) (hd : s.dep < 60) : interp PU (n + 1) f_of_nothing [s.toD] h = .ok (ofNothing s).toD h := by
  rw [interp_succ]
  simp only [runF, U, d_of_nothing, b_of_nothing, enter, Ss.sem, St.sem, E.sem, Es.sem, T.sem, Ts.semAnd, Ts.semOr]
  cases s with
  | num a =>
    simp [Sy.toD, ofNothing, glo9]
    (refine cut_ok ho ?_; simp)
  | dice a b =>
    simp [Sy.toD, ofNothing, glo9]
    (refine cut_ok ho ?_; simp)
  | pool w a b c =>
    simp [Sy.toD, ofNothing, glo9]
    (refine cut_ok ho ?_; simp)
  | times a b =>
    by_cases h1 : a = 1
    · simp [Sy.toD, ofNothing, glo9, h1]
      (refine cut_ok ho ?_; simp)
    · by_cases h2 : a = 0
      · simp [Sy.toD, ofNothing, glo9, h1, h2]
        (refine cut_ok ho ?_; simp)
      · simp [Sy.toD, ofNothing, glo9, h1, h2]
        (refine cut_ok ho ?_; simp)
  | two w a b =>
    simp only [Sy.dep] at hd
    have ea := cop_eq_toD (h := h) (a := a) (b := .num 0) (by omega) (num_dep 0)
    have eb := cop_eq_toD (h := h) (a := b) (b := .num 0) (by omega) (num_dep 0)
    cases w with
    | plus =>
      by_cases h1 : a = .num 0
      · simp [Sy.toD, ofNothing, glo9] at ea eb ⊢
        simp [ea, eb, h1]
        (refine cut_ok ho ?_; simp)
      · by_cases h2 : b = .num 0
        · simp [Sy.toD, ofNothing, glo9] at ea eb ⊢
          simp [ea, eb, h1, h2]
          (refine cut_ok ho ?_; simp)
        · simp [Sy.toD, ofNothing, glo9] at ea eb ⊢
          simp [ea, eb, h1, h2, Sy.toD]
          (refine cut_ok ho ?_; simp)
    | less =>
      by_cases h2 : b = .num 0
      · simp [Sy.toD, ofNothing, glo9] at ea eb ⊢
        simp [ea, eb, h2]
        (refine cut_ok ho ?_; simp)
      · simp [Sy.toD, ofNothing, glo9] at ea eb ⊢
        simp [ea, eb, h2, Sy.toD]
        (refine cut_ok ho ?_; simp)
    | most =>
      simp [Sy.toD, ofNothing, glo9]
      (refine cut_ok ho ?_; simp)
    | least =>
      simp [Sy.toD, ofNothing, glo9]
      (refine cut_ok ho ?_; simp)
    | beats =>
      simp [Sy.toD, ofNothing, glo9]
      (refine cut_ok ho ?_; simp)
end Y

set_option linter.all false
set_option maxRecDepth 100000
set_option maxHeartbeats 4000000
namespace Y
/-! ### the program's simple -/
def simpF : Sy → Sy
  | .num n => .num n
  | .dice m s => .dice m s
  | .pool w m s l => if (w = .high ∨ w = .low) ∧ m = l then .dice m s else .pool w m s l
  | .times n a => ofNothing (ofNumbers (.times n (simpF a)))
  | .two w a b => ofNothing (ofNumbers (.two w (simpF a) (simpF b)))
/-- small factors everywhere -/
def tmAll : Sy → Prop
  | .times n a => n.natAbs < 18446744073709551616 ∧ tmAll a
  | .two _ a b => tmAll a ∧ tmAll b
  | _ => True
theorem dep_ofNothing (s : Sy) : (ofNothing s).dep ≤ s.dep := by
  cases s with
  | two w a b =>
    simp only [ofNothing]
    split
    · simp only [Sy.dep]; omega
    · split
      · simp only [Sy.dep]; omega
      · exact Nat.le_refl _
  | times n a =>
    simp only [ofNothing]
    split
    · simp only [Sy.dep]; omega
    · split
      · simp only [Sy.dep]; omega
      · exact Nat.le_refl _
  | _ => exact Nat.le_refl _
theorem dep_ofNumbers (s : Sy) : (ofNumbers s).dep ≤ s.dep := by
  unfold ofNumbers
  split
  · split
    · simp only [Sy.dep]; omega
    · exact Nat.le_refl _
  · split
    · simp only [Sy.dep]; omega
    · exact Nat.le_refl _
  · exact Nat.le_refl _
theorem dep_simpF : ∀ s : Sy, (simpF s).dep ≤ s.dep
  | .num n => Nat.le_refl _
  | .dice _ _ => Nat.le_refl _
  | .pool w m s l => by
    unfold simpF
    split <;> simp [Sy.dep]
  | .times n a => by
    have h1 := dep_simpF a
    have h2 := dep_ofNumbers (.times n (simpF a))
    have h3 := dep_ofNothing (ofNumbers (.times n (simpF a)))
    simp only [simpF, Sy.dep] at *
    omega
  | .two w a b => by
    have h1 := dep_simpF a
    have h1' := dep_simpF b
    have h2 := dep_ofNumbers (.two w (simpF a) (simpF b))
    have h3 := dep_ofNothing (ofNumbers (.two w (simpF a) (simpF b)))
    simp only [simpF, Sy.dep] at *
    omega
theorem tm_num {s : Sy} (h : ∀ n a, s = .times n a → n.natAbs < 18446744073709551616) : tmOk s := by
  cases s with
  | times n a => exact h n a rfl
  | _ => trivial
@[simp] theorem in_hl (h : Hs) (w : Pw) : cop .isin h (.str (wd w.n)) (.tup [.str (wd 2), .str (wd 3)]) = .ok (.bl (decide (w = .high ∨ w = .low))) h := by cases w <;> simp
theorem sl13 {a b c d : D} : slice (.tup [a, b, c, d]) (some 1) (some 3) = some (.tup [b, c]) := by simp [slice, cut, sIx]
theorem run_simple : ∀ (s : Sy) (n : Nat) (h : Hs), Okh h → s.dep < 50 → tmAll s → interp PU (n + s.dep + 3) f_simple [s.toD] h = .ok (simpF s).toD h
  | .num a, n, h, ho, hd, ht => by
    have e1 := run_of_numbers n (.num a) h ho trivial
    have e2 := run_of_nothing (n + 1) (.num a) h ho (num_dep a)
    simp only [ofNumbers, ofNothing] at e1 e2
    show interp PU (n + 2 + 1) _ _ _ = _
    rw [interp_succ]
    simp only [runF, U, d_simple, b_simple, enter, Ss.sem, St.sem, E.sem, Es.sem, T.sem, Ts.semAnd, Ts.semOr]
    simp [Sy.toD, simpF] at e1 e2 ⊢
    simp [e1, e2]
    (refine cut_ok ho ?_; simp)
  | .dice a b, n, h, ho, hd, ht => by
    have e1 := run_of_numbers n (.dice a b) h ho trivial
    have e2 := run_of_nothing (n + 1) (.dice a b) h ho (by simp [Sy.dep])
    simp only [ofNumbers, ofNothing] at e1 e2
    show interp PU (n + 2 + 1) _ _ _ = _
    rw [interp_succ]
    simp only [runF, U, d_simple, b_simple, enter, Ss.sem, St.sem, E.sem, Es.sem, T.sem, Ts.semAnd, Ts.semOr]
    simp [Sy.toD, simpF] at e1 e2 ⊢
    simp [e1, e2]
    (refine cut_ok ho ?_; simp)
  | .pool w a b c, n, h, ho, hd, ht => by
    have e1 := run_of_numbers n (.pool w a b c) h ho trivial
    have e2 := run_of_nothing (n + 1) (.pool w a b c) h ho (by simp [Sy.dep])
    simp only [ofNumbers, ofNothing] at e1 e2
    show interp PU (n + 2 + 1) _ _ _ = _
    rw [interp_succ]
    simp only [runF, U, d_simple, b_simple, enter, Ss.sem, St.sem, E.sem, Es.sem, T.sem, Ts.semAnd, Ts.semOr]
    by_cases hw : w = .high ∨ w = .low
    · by_cases hc : a = c
      · subst hc
        simp [Sy.toD, simpF, hw, sl13, bop, opAdd, Oe.sem] at e1 e2 ⊢
        (refine cut_ok ho ?_; simp [cut, sIx])
      · simp [Sy.toD, simpF, hw, hc] at e1 e2 ⊢
        simp [e1, e2, Sy.toD]
        (refine cut_ok ho ?_; simp)
    · simp [Sy.toD, simpF, hw] at e1 e2 ⊢
      simp [e1, e2, Sy.toD]
      (refine cut_ok ho ?_; simp)
  | .times a b, n, h, ho, hd, ht => by
    have hdb : (simpF b).dep ≤ b.dep := dep_simpF b
    simp only [Sy.dep] at hd
    have e0 := run_simple b n h ho (by omega) ht.2
    have e1 := run_of_numbers (n + b.dep + 1) (.times a (simpF b)) h ho ht.1
    have hdn := dep_ofNumbers (.times a (simpF b))
    simp only [Sy.dep] at hdn
    have e2 := run_of_nothing (n + b.dep + 2) (ofNumbers (.times a (simpF b))) h ho (by omega)
    show interp PU (n + b.dep + 3 + 1) _ _ _ = _
    rw [interp_succ]
    simp only [runF, U, d_simple, b_simple, enter, Ss.sem, St.sem, E.sem, Es.sem, T.sem, Ts.semAnd, Ts.semOr]
    simp [Sy.toD, simpF] at e0 e1 e2 ⊢
    simp [e0, e1, e2]
    exact cut_ok ho (rb_toD _)
  | .two w a b, n, h, ho, hd, ht => by
    have hda : (simpF a).dep ≤ a.dep := dep_simpF a
    have hdb : (simpF b).dep ≤ b.dep := dep_simpF b
    simp only [Sy.dep] at hd
    have ea := run_simple a (n + max a.dep b.dep - a.dep) h ho (by omega) ht.1
    have eb := run_simple b (n + max a.dep b.dep - b.dep) h ho (by omega) ht.2
    rw [show n + max a.dep b.dep - a.dep + a.dep + 3 = n + max a.dep b.dep + 3 by omega] at ea
    rw [show n + max a.dep b.dep - b.dep + b.dep + 3 = n + max a.dep b.dep + 3 by omega] at eb
    have e1 := run_of_numbers (n + max a.dep b.dep + 1) (.two w (simpF a) (simpF b)) h ho trivial
    have hdn := dep_ofNumbers (.two w (simpF a) (simpF b))
    simp only [Sy.dep] at hdn
    have e2 := run_of_nothing (n + max a.dep b.dep + 2) (ofNumbers (.two w (simpF a) (simpF b))) h ho (by omega)
    show interp PU (n + max a.dep b.dep + 3 + 1) _ _ _ = _
    generalize n + max a.dep b.dep = k at *
    rw [interp_succ]
    simp only [runF, U, d_simple, b_simple, enter, Ss.sem, St.sem, E.sem, Es.sem, T.sem, Ts.semAnd, Ts.semOr]
    simp [Sy.toD, simpF] at ea eb e1 e2 ⊢
    simp [ea, eb, e1, e2]
    exact cut_ok ho (rb_toD _)
end Y

set_option linter.all false
set_option maxRecDepth 100000
set_option maxHeartbeats 4000000
namespace Y
theorem run_is_simple (n : Nat) (s : Sy) (h : Hs) (ho : Okh h) (hd : s.dep < 50) (ht : tmAll s) : interp PU (n + s.dep + 4) f_is_simple [s.toD] h = .ok (.bl (decide (simpF s = s))) h := by
  have e := run_simple s n h ho hd ht
  have hs := dep_simpF s
  show interp PU (n + s.dep + 3 + 1) _ _ _ = _
  rw [interp_succ]
  simp only [runF, U, d_is_simple, b_is_simple, enter, Ss.sem, St.sem, E.sem, Es.sem, T.sem, Ts.semAnd, Ts.semOr]
  simp [e, cop_eq_toD (show (simpF s).dep < 60 by omega) (show s.dep < 60 by omega)]
  (refine cut_ok ho ?_; simp)
/-! ### the law's simple -/
theorem run_l_two (n : Nat) (w : Tw) (a b : Int) (h : Hs) (ho : Okh h) : interp PU (n + 1) f_l_two [.str (wd w.n), .int a, .int b] h = .ok (.int (two w a b)) h := by
  rw [interp_succ]
  simp only [runF, U, d_l_two, b_l_two, enter, Ss.sem, St.sem, E.sem, Es.sem, T.sem]
  cases w with
  | plus => simp [two]; (refine cut_ok ho ?_; simp)
  | less => simp [two]; (refine cut_ok ho ?_; simp)
  | beats => simp [two, blt]; (refine cut_ok ho ?_; simp)
  | most =>
    by_cases c : a ≤ b
    · simp [two, blt, sortD, seqOf, intsOf, sortI, insI, c, dints, index, atI, ixN]
      by_cases c2 : a < b
      · simp [c2]; (refine cut_ok ho ?_; simp)
      · have : a = b := by omega
        subst this
        simp; (refine cut_ok ho ?_; simp)
    · have c2 : ¬ a < b := by omega
      simp [two, blt, sortD, seqOf, intsOf, sortI, insI, c, c2, dints, index, atI, ixN]
      (refine cut_ok ho ?_; simp)
  | least =>
    by_cases c : a ≤ b
    · have c2 : ¬ b < a := by omega
      simp [two, blt, sortD, seqOf, intsOf, sortI, insI, c, c2, dints, index, atI, ixN]
      (refine cut_ok ho ?_; simp)
    · have c2 : b < a := by omega
      simp [two, blt, sortD, seqOf, intsOf, sortI, insI, c, c2, dints, index, atI, ixN]
      (refine cut_ok ho ?_; simp)
@[simp] theorem isi_toD (s : Sy) : isi .tuple s.toD = some true := by cases s <;> rfl
@[simp] theorem isi_tup_int (i : Int) : isi .tuple (.int i) = some false := rfl
@[simp] theorem isi_tup_str (i : S) : isi .tuple (.str i) = some false := rfl
@[simp] theorem isi_tup_tup (i : List D) : isi .tuple (.tup i) = some true := rfl
@[simp] theorem ixm2 {h : Hs} {a b : D} : index h (.tup [a, b]) (.int (-1)) = some b := by simp [index, atI, ixN]
@[simp] theorem ixm3 {h : Hs} {a b c : D} : index h (.tup [a, b, c]) (.int (-1)) = some c := by simp [index, atI, ixN]
@[simp] theorem ixm4 {h : Hs} {a b c d : D} : index h (.tup [a, b, c, d]) (.int (-1)) = some d := by simp [index, atI, ixN]
@[simp] theorem truD_bl {h : Hs} {b : Bool} : truD h (.bl b) = some b := rfl
def lsimpF : Sy → Sy
  | .num n => .num n
  | .dice m s => .dice m s
  | .pool w m s l => if (w = .high ∨ w = .low) ∧ m = l then .dice m s else .pool w m s l
  | .times n a => match lsimpF a with
    | .num m => if n * m ≤ 9 then .num (n * m) else if n = 0 then .num 0 else if n = 1 then .num m else .times n (.num m)
    | s => if n = 0 then .num 0 else if n = 1 then s else .times n s
  | .two w a b => match lsimpF a, lsimpF b with
    | .num x, .num y => if 0 ≤ two w x y ∧ two w x y ≤ 9 then .num (two w x y) else if w = .plus ∧ x = 0 then .num y else if (w = .plus ∨ w = .less) ∧ y = 0 then .num x else .two w (.num x) (.num y)
    | s, t => if w = .plus ∧ s = .num 0 then t else if (w = .plus ∨ w = .less) ∧ t = .num 0 then s else .two w s t
/-- numbers that are none below 0 -/
def Nn : Sy → Prop
  | .num n => 0 ≤ n
  | .times n a => 0 ≤ n ∧ Nn a
  | .two _ a b => Nn a ∧ Nn b
  | _ => True
theorem nn_ofNothing {s : Sy} (h : Nn s) : Nn (ofNothing s) := by
  cases s with
  | two w a b =>
    simp only [ofNothing]
    split
    · exact h.2
    · split
      · exact h.1
      · exact h
  | times n a =>
    simp only [ofNothing]
    split
    · exact h.2
    · split
      · show (0 : Int) ≤ 0; omega
      · exact h
  | _ => exact h
theorem nn_ofNumbers {s : Sy} (h : Nn s) : Nn (ofNumbers s) := by
  unfold ofNumbers
  split
  · split
    · rename_i c; exact c.1
    · exact h
  · split
    · rename_i c; exact c.1
    · exact h
  · exact h
theorem nn_simpF : ∀ {s : Sy}, Nn s → Nn (simpF s)
  | .num n, h => h
  | .dice _ _, h => h
  | .pool w m s l, h => by
    unfold simpF
    split <;> trivial
  | .times n a, h => nn_ofNothing (nn_ofNumbers ⟨h.1, nn_simpF h.2⟩)
  | .two w a b, h => nn_ofNothing (nn_ofNumbers ⟨nn_simpF h.1, nn_simpF h.2⟩)
/-- both say the same -/
theorem simp_same : ∀ {s : Sy}, Nn s → lsimpF s = simpF s
  | .num n, h => rfl
  | .dice _ _, h => rfl
  | .pool w m s l, h => rfl
  | .times n a, h => by
    have ih := simp_same h.2
    have hn := nn_simpF h.2
    simp only [lsimpF, simpF, ih]
    cases e : simpF a with
    | num m =>
      rw [e] at hn
      have h0 : 0 ≤ n * m := Int.mul_nonneg h.1 hn
      simp only [ofNumbers, h0, true_and]
      split
      · rfl
      · simp only [ofNothing]
        by_cases h1 : n = 1
        · subst h1; simp
        · by_cases h2 : n = 0
          · subst h2; simp
          · simp [h1, h2]
    | _ =>
      simp only [ofNumbers, ofNothing]
      by_cases h1 : n = 1
      · subst h1; simp
      · by_cases h2 : n = 0
        · subst h2; simp
        · simp [h1, h2]
  | .two w a b, h => by
    have iha := simp_same h.1
    have ihb := simp_same h.2
    simp only [lsimpF, simpF, iha, ihb]
    cases ea : simpF a <;> cases eb : simpF b <;> simp only [ofNumbers, ofNothing, Sy.num.injEq, reduceCtorEq]
    rename_i x y
    split
    · rename_i c; simp [c]
    · rename_i c; simp [c]
theorem dep_lsimpF {s : Sy} (h : Nn s) : (lsimpF s).dep ≤ s.dep := by rw [simp_same h]; exact dep_simpF s
end Y

set_option linter.all false
set_option maxRecDepth 100000
set_option maxHeartbeats 4000000
namespace Y
theorem lsimp_times_num {n : Int} {a : Sy} {m : Int} (e : lsimpF a = .num m) : lsimpF (.times n a) = if n * m ≤ 9 then .num (n * m) else if n = 0 then .num 0 else if n = 1 then .num m else .times n (.num m) := by
  rw [lsimpF, e]
theorem lsimp_times {n : Int} {a : Sy} (e : ¬ ∃ m, lsimpF a = .num m) : lsimpF (.times n a) = if n = 0 then .num 0 else if n = 1 then lsimpF a else .times n (lsimpF a) := by
  rw [lsimpF]
  split
  · rename_i m hm; exact absurd ⟨m, hm⟩ e
  · rfl
theorem lsimp_two_num {w : Tw} {a b : Sy} {x y : Int} (ea : lsimpF a = .num x) (eb : lsimpF b = .num y) : lsimpF (.two w a b) = if 0 ≤ two w x y ∧ two w x y ≤ 9 then .num (two w x y) else if w = .plus ∧ x = 0 then .num y else if (w = .plus ∨ w = .less) ∧ y = 0 then .num x else .two w (.num x) (.num y) := by
  rw [lsimpF, ea, eb]
theorem lsimp_two {w : Tw} {a b : Sy} (e : ¬ ((∃ x, lsimpF a = .num x) ∧ ∃ y, lsimpF b = .num y)) : lsimpF (.two w a b) = if w = .plus ∧ lsimpF a = .num 0 then lsimpF b else if (w = .plus ∨ w = .less) ∧ lsimpF b = .num 0 then lsimpF a else .two w (lsimpF a) (lsimpF b) := by
  rw [lsimpF]
  split
  · rename_i x y hx hy; exact absurd ⟨⟨x, hx⟩, y, hy⟩ e
  · rfl
@[simp] theorem in_pl (h : Hs) (w : Tw) : cop .isin h (.str (wd w.n)) (.tup [.str (wd 7), .str (wd 8)]) = .ok (.bl (decide (w = .plus ∨ w = .less))) h := by cases w <;> simp
@[simp] theorem cop_eq_num {h : Hs} {x y : Int} : cop .eq h (.tup [.str (wd 0), .int x]) (.tup [.str (wd 0), .int y]) = .ok (.bl (decide (x = y))) h := by
  have := cop_eq_toD (h := h) (a := .num x) (b := .num y) (num_dep x) (num_dep y)
  simpa [Sy.toD] using this
theorem hd_num {s : Sy} : s.hd = 0 ↔ ∃ n, s = .num n := by simp
theorem wd_hd {s : Sy} : wd s.hd = wd 0 ↔ s.hd = 0 := by rw [wd_inj (hd_lt s) (by omega)]
theorem ite_pair {c : Prop} [Decidable c] {α : Type} {a b : α} : (if c then a else b) = if c then a else b := rfl
theorem run_l_simple : ∀ (s : Sy) (n : Nat) (h : Hs), Okh h → s.dep < 50 → tmAll s → Nn s → interp PU (n + s.dep + 3) f_l_simple [s.toD] h = .ok (lsimpF s).toD h
  | .num a, n, h, ho, hd, ht, hn => by
    show interp PU (n + 2 + 1) _ _ _ = _
    rw [interp_succ]
    simp only [runF, U, d_l_simple, b_l_simple, enter, Ss.sem, St.sem, E.sem, Es.sem, T.sem, Ts.semAnd, Ts.semOr]
    simp [Sy.toD, lsimpF]
    (refine cut_ok ho ?_; simp)
  | .dice a b, n, h, ho, hd, ht, hn => by
    show interp PU (n + 2 + 1) _ _ _ = _
    rw [interp_succ]
    simp only [runF, U, d_l_simple, b_l_simple, enter, Ss.sem, St.sem, E.sem, Es.sem, T.sem, Ts.semAnd, Ts.semOr]
    simp [Sy.toD, lsimpF]
    (refine cut_ok ho ?_; simp)
  | .pool w a b c, n, h, ho, hd, ht, hn => by
    show interp PU (n + 2 + 1) _ _ _ = _
    rw [interp_succ]
    simp only [runF, U, d_l_simple, b_l_simple, enter, Ss.sem, St.sem, E.sem, Es.sem, T.sem, Ts.semAnd, Ts.semOr]
    by_cases hw : w = .high ∨ w = .low
    · by_cases hc : a = c
      · subst hc
        simp [Sy.toD, lsimpF, hw]
        (refine cut_ok ho ?_; simp)
      · simp [Sy.toD, lsimpF, hw, hc]
        (refine cut_ok ho ?_; simp)
    · simp [Sy.toD, lsimpF, hw]
      (refine cut_ok ho ?_; simp)
  | .times a b, n, h, ho, hd, ht, hn => by
    simp only [Sy.dep] at hd
    have e0 := run_l_simple b n h ho (by omega) ht.2 hn.2
    have hta : a.natAbs < 18446744073709551616 := ht.1
    show interp PU (n + b.dep + 3 + 1) _ _ _ = _
    rw [interp_succ]
    simp only [runF, U, d_l_simple, b_l_simple, enter, Ss.sem, St.sem, E.sem, Es.sem, T.sem, Ts.semAnd, Ts.semOr]
    by_cases hm : ∃ m, lsimpF b = .num m
    · obtain ⟨m, em⟩ := hm
      rw [lsimp_times_num em]
      rw [em] at e0
      have bm : bop .mul h (.int a) (.int m) = .ok (.int (a * m)) h := bop_mul (Or.inl hta)
      simp [Sy.toD] at e0 ⊢
      simp [e0, bm]
      by_cases c1 : a * m ≤ 9
      · simp [c1, bm, Sy.toD]
        (refine cut_ok ho ?_; simp)
      · by_cases c2 : a = 0
        · subst c2; simp at c1
        · by_cases c3 : a = 1
          · have c1' : ¬ m ≤ 9 := by simpa [c3] using c1
            simp [c3, c1', Sy.toD]
            (refine cut_ok ho ?_; simp)
          · simp [c1, c2, c3, Sy.toD]
            (refine cut_ok ho ?_; simp)
    · rw [lsimp_times hm]
      have hh : (lsimpF b).hd ≠ 0 := fun z => hm (hd_num.mp z)
      simp [Sy.toD] at e0 ⊢
      simp [e0, hm]
      by_cases c2 : a = 0
      · simp [c2, Sy.toD]
        (refine cut_ok ho ?_; simp)
      · by_cases c3 : a = 1
        · simp [c3]
          (refine cut_ok ho ?_; simp)
        · simp [c2, c3, Sy.toD]
          (refine cut_ok ho ?_; simp)
  | .two w a b, n, h, ho, hd, ht, hn => by
    have hda := dep_lsimpF hn.1
    have hdb := dep_lsimpF hn.2
    simp only [Sy.dep] at hd
    have ea := run_l_simple a (n + max a.dep b.dep - a.dep) h ho (by omega) ht.1 hn.1
    have eb := run_l_simple b (n + max a.dep b.dep - b.dep) h ho (by omega) ht.2 hn.2
    rw [show n + max a.dep b.dep - a.dep + a.dep + 3 = n + max a.dep b.dep + 3 by omega] at ea
    rw [show n + max a.dep b.dep - b.dep + b.dep + 3 = n + max a.dep b.dep + 3 by omega] at eb
    show interp PU (n + max a.dep b.dep + 3 + 1) _ _ _ = _
    have qa := cop_eq_toD (h := h) (a := lsimpF a) (b := .num 0) (by omega) (num_dep 0)
    have qb := cop_eq_toD (h := h) (a := lsimpF b) (b := .num 0) (by omega) (num_dep 0)
    generalize n + max a.dep b.dep = k at *
    rw [interp_succ]
    simp only [runF, U, d_l_simple, b_l_simple, enter, Ss.sem, St.sem, E.sem, Es.sem, T.sem, Ts.semAnd, Ts.semOr]
    by_cases hm : (∃ x, lsimpF a = .num x) ∧ ∃ y, lsimpF b = .num y
    · obtain ⟨⟨x, ex⟩, y, ey⟩ := hm
      rw [lsimp_two_num ex ey]
      rw [ex] at ea
      rw [ey] at eb
      have e2 := run_l_two (k + 2) w x y h ho
      simp [Sy.toD] at ea eb ⊢
      simp [ea, eb, e2]
      by_cases c1 : 0 ≤ two w x y
      · by_cases c2 : two w x y ≤ 9
        · simp [c1, c2, e2, Sy.toD]
          (refine cut_ok ho ?_; simp)
        · simp [c1, c2]
          by_cases w1 : w = .plus
          · by_cases x0 : x = 0
            · simp [w1, x0, Sy.toD]; (refine cut_ok ho ?_; simp)
            · by_cases y0 : y = 0
              · simp [w1, x0, y0, Sy.toD]; (refine cut_ok ho ?_; simp)
              · simp [w1, x0, y0, Sy.toD]; (refine cut_ok ho ?_; simp)
          · by_cases w2 : w = .less
            · by_cases y0 : y = 0
              · simp [w1, w2, y0, Sy.toD]; (refine cut_ok ho ?_; simp)
              · simp [w1, w2, y0, Sy.toD]; (refine cut_ok ho ?_; simp)
            · simp [w1, w2, Sy.toD]; (refine cut_ok ho ?_; simp)
      · simp [c1]
        by_cases w1 : w = .plus
        · by_cases x0 : x = 0
          · simp [w1, x0, Sy.toD]; (refine cut_ok ho ?_; simp)
          · by_cases y0 : y = 0
            · simp [w1, x0, y0, Sy.toD]; (refine cut_ok ho ?_; simp)
            · simp [w1, x0, y0, Sy.toD]; (refine cut_ok ho ?_; simp)
        · by_cases w2 : w = .less
          · by_cases y0 : y = 0
            · simp [w1, w2, y0, Sy.toD]; (refine cut_ok ho ?_; simp)
            · simp [w1, w2, y0, Sy.toD]; (refine cut_ok ho ?_; simp)
          · simp [w1, w2, Sy.toD]; (refine cut_ok ho ?_; simp)
    · rw [lsimp_two hm]
      simp [Sy.toD] at ea eb qa qb ⊢
      have fin : ∀ (d : D), d.rb h.length = true → cutR true h.length (.ok d h) = .ok d h := fun d hd => cut_ok ho hd
      have na0 : ∀ {s : Sy}, s.hd ≠ 0 → s ≠ .num 0 := fun z e => z (by rw [e]; rfl)
      have key : (¬ wd (lsimpF a).hd = wd 0) ∨ (wd (lsimpF a).hd = wd 0 ∧ ¬ wd (lsimpF b).hd = wd 0) := by
        by_cases na : (lsimpF a).hd = 0
        · right
          have nb : (lsimpF b).hd ≠ 0 := fun z => hm ⟨hd_num.mp na, hd_num.mp z⟩
          exact ⟨by rw [na], fun z => nb (wd_hd.mp z)⟩
        · left; exact fun z => na (wd_hd.mp z)
      rcases key with na | ⟨na, nb⟩
      · by_cases w1 : w = .plus
        all_goals by_cases a0 : lsimpF a = .num 0
        all_goals by_cases b0 : lsimpF b = .num 0
        all_goals by_cases w2 : w = .less
        all_goals first | exact absurd (w1.symm.trans w2) (by decide) | exact absurd (wd_hd.mpr (hd_num.mpr ⟨_, a0⟩)) na | skip
        all_goals simp [ea, eb, qa, qb, w1, w2, a0, b0, na, Sy.toD]
        all_goals try exact fin _ (rb_toD _)
        all_goals try (refine fin _ ?_; simp)
      · by_cases w1 : w = .plus
        all_goals by_cases a0 : lsimpF a = .num 0
        all_goals by_cases b0 : lsimpF b = .num 0
        all_goals by_cases w2 : w = .less
        all_goals first | exact absurd (w1.symm.trans w2) (by decide) | exact absurd (wd_hd.mpr (hd_num.mpr ⟨_, b0⟩)) nb | skip
        all_goals simp [ea, eb, qa, qb, w1, w2, a0, b0, na, nb, Sy.toD]
        all_goals try exact fin _ (rb_toD _)
        all_goals try (refine fin _ ?_; simp)
end Y

set_option linter.all false
set_option maxRecDepth 100000
set_option maxHeartbeats 4000000
namespace Y
def cellF (l : List Int) (k : Int) : Int := if k < l.length then (l[k.toNat]?).getD 0 else 0
@[simp] theorem blt_len_scr {h : Hs} {l : List Int} : blt .len h [.scr l] = .ok (.int l.length) h := rfl
theorem run_l_cell (n : Nat) (l : List Int) (k : Int) (h : Hs) (ho : Okh h) (hk : 0 ≤ k) : interp PU (n + 1) f_l_cell [.scr l, .int k] h = .ok (.int (cellF l k)) h := by
  rw [interp_succ]
  simp only [runF, U, d_l_cell, b_l_cell, enter, Ss.sem, St.sem, E.sem, Es.sem, T.sem, Ts.semAnd, Ts.semOr]
  by_cases c : k < l.length
  · have e : index h (.scr l) (.int k) = some (.int (cellF l k)) := by
      have h2 : k.toNat < l.length := by omega
      simp [index, atI, ixN, hk, c, cellF, h2]
    simp [c, e]
    (refine cut_ok ho ?_; simp)
  · simp [c, cellF]
    (refine cut_ok ho ?_; simp)
def lmF : Sy → Int
  | .num _ => 0
  | .dice m _ => m
  | .pool _ m _ _ => m
  | .times _ a => lmF a
  | .two _ a b => lmF a + lmF b
@[simp] theorem isi_tuple_int {i : Int} : isi .tuple (.int i) = some false := rfl
@[simp] theorem isi_tuple_toD {s : Sy} : isi .tuple s.toD = some true := isi_toD s
theorem slice_1_3 {a b c : D} : slice (.tup [a, b, c]) (some 1) none = some (.tup [b, c]) := rfl
theorem blt_sum1 {h : Hs} {a : Int} : blt .sum h [.fl [.int a]] = .ok (.int a) h := by simp [blt, seqOf, intsOf]
theorem blt_sum2 {h : Hs} {a b : Int} : blt .sum h [.fl [.int a, .int b]] = .ok (.int (a + b)) h := by simp [blt, seqOf, intsOf]
theorem run_l_many : ∀ (s : Sy) (n : Nat) (h : Hs), Okh h → interp PU (n + s.dep + 1) f_l_many [s.toD] h = .ok (.int (lmF s)) h
  | .num a, n, h, ho => by
    show interp PU (n + 1) _ _ _ = _
    rw [interp_succ]
    simp only [runF, U, d_l_many, b_l_many, enter, Ss.sem, St.sem, E.sem, Es.sem, T.sem, Ts.semAnd, Ts.semOr]
    simp [Sy.toD, lmF]
    (refine cut_ok ho ?_; simp)
  | .dice a b, n, h, ho => by
    show interp PU (n + 1) _ _ _ = _
    rw [interp_succ]
    simp only [runF, U, d_l_many, b_l_many, enter, Ss.sem, St.sem, E.sem, Es.sem, T.sem, Ts.semAnd, Ts.semOr]
    simp [Sy.toD, lmF]
    (refine cut_ok ho ?_; simp)
  | .pool w a b c, n, h, ho => by
    show interp PU (n + 1) _ _ _ = _
    rw [interp_succ]
    simp only [runF, U, d_l_many, b_l_many, enter, Ss.sem, St.sem, E.sem, Es.sem, T.sem, Ts.semAnd, Ts.semOr]
    simp [Sy.toD, lmF]
    (refine cut_ok ho ?_; simp)
  | .times a b, n, h, ho => by
    have e0 := run_l_many b n h ho
    show interp PU (n + b.dep + 1 + 1) _ _ _ = _
    rw [interp_succ]
    simp only [runF, U, d_l_many, b_l_many, enter, Ss.sem, St.sem, E.sem, Es.sem, T.sem, It.sem, Oe.sem, Ts.semAnd, Ts.semOr]
    simp [Sy.toD, lmF, slice_1_3, loopC, setTg, wipe, Tg.slots, itemsOf, e0, blt_sum1]
    (refine cut_ok ho ?_; simp)
  | .two w a b, n, h, ho => by
    have ea := run_l_many a (n + max a.dep b.dep - a.dep) h ho
    have eb := run_l_many b (n + max a.dep b.dep - b.dep) h ho
    rw [show n + max a.dep b.dep - a.dep + a.dep + 1 = n + max a.dep b.dep + 1 by omega] at ea
    rw [show n + max a.dep b.dep - b.dep + b.dep + 1 = n + max a.dep b.dep + 1 by omega] at eb
    show interp PU (n + max a.dep b.dep + 1 + 1) _ _ _ = _
    rw [interp_succ]
    simp only [runF, U, d_l_many, b_l_many, enter, Ss.sem, St.sem, E.sem, Es.sem, T.sem, It.sem, Oe.sem, Ts.semAnd, Ts.semOr]
    simp [Sy.toD, lmF, slice_1_3, loopC, setTg, wipe, Tg.slots, itemsOf, ea, eb, blt_sum2]
    (refine cut_ok ho ?_; simp)
theorem mix_lo (c p : Int) {m : Int} (hm : 0 < m) : 0 ≤ mixI c p m := Int.emod_nonneg _ (by omega)
theorem mix_hi (c p : Int) {m : Int} (hm : 0 < m) : mixI c p m < m := Int.emod_lt_of_pos _ hm
end Y

set_option linter.all false
set_option maxRecDepth 100000
set_option maxHeartbeats 4000000
namespace Y
def min3 (m : Int) : Int := if m < 3 then m else 3
def ldiceF (c m : Int) : Sy :=
  let k := 1 + mixI c 9967 (min3 m)
  let s := 2 + mixI c 9949 5
  if mixI c 9973 6 = 0 then .dice k s
  else if mixI c 9973 6 = 1 then .pool .high k s (1 + mixI c 9941 k)
  else if mixI c 9973 6 = 2 then .pool .low k s (1 + mixI c 9941 k)
  else if mixI c 9973 6 = 3 then .pool .again k s (1 + mixI c 9941 (s - 1))
  else if mixI c 9973 6 = 4 then .pool .burst k s (1 + mixI c 9941 2)
  else .pool .count k s (2 + mixI c 9941 (s - 2 + 1))
@[simp] theorem blt_min3 {h : Hs} {m : Int} : blt .min2 h [.int 3, .int m] = .ok (.int (min3 m)) h := rfl
theorem mth_get {h : Hs} {kvs : List (S × D)} {k : S} {d : D} : mth .get h (.fs kvs) [.str k, d] = .ok ((dget kvs k).getD d) h := rfl
@[simp] theorem mok_get {h : Hs} {kvs : List (S × D)} : mok .get h (.fs kvs) = true := rfl
theorem six {h : Hs} {a b c d e f : D} {i : Int} : index h (.tup [a, b, c, d, e, f]) (.int i) = if i = 0 then some a else if i = 1 then some b else if i = 2 then some c else if i = 3 then some d else if i = 4 then some e else if i = 5 then some f else index h (.tup [a, b, c, d, e, f]) (.int i) := by
  split
  · subst_vars; rfl
  · split
    · subst_vars; rfl
    · split
      · subst_vars; rfl
      · split
        · subst_vars; rfl
        · split
          · subst_vars; rfl
          · split
            · subst_vars; rfl
            · rfl
@[simp] theorem setTg2 {ρ : Env} {a b : Nat} {x y : D} : setTg (.t [a, b]) ρ (.tup [x, y]) = some ((ρ.set a (some x)).set b (some y)) := rfl
theorem run_l_dice (n : Nat) (c m : Int) (h : Hs) (ho : Okh h) (hm : 1 ≤ m) : interp PU (n + 2) f_l_dice [.int c, .int m] h = .ok (ldiceF c m).toD h := by
  have m1 := run_mix n c 9973 6 h ho (by omega) (by omega) (by omega)
  have hk : 0 < min3 m := by unfold min3; split <;> omega
  have m2 := run_mix n c 9967 (min3 m) h ho (by omega) (by omega) hk
  have m3 := run_mix n c 9949 5 h ho (by omega) (by omega) (by omega)
  have k0 := mix_lo c 9967 hk
  have s0 := mix_lo c 9949 (m := 5) (by omega)
  have w0 := mix_lo c 9973 (m := 6) (by omega)
  have w1 := mix_hi c 9973 (m := 6) (by omega)
  have mh := run_mix n c 9941 (1 + mixI c 9967 (min3 m)) h ho (by omega) (by omega) (by omega)
  have ma := run_mix n c 9941 (2 + mixI c 9949 5 - 1) h ho (by omega) (by omega) (by omega)
  have mb := run_mix n c 9941 2 h ho (by omega) (by omega) (by omega)
  have mc := run_mix n c 9941 (2 + mixI c 9949 5 - 2 + 1) h ho (by omega) (by omega) (by omega)
  show interp PU (n + 1 + 1) _ _ _ = _
  rw [interp_succ]
  simp only [runF, U, d_l_dice, b_l_dice, enter, Ss.sem, St.sem, E.sem, Es.sem, T.sem, It.sem, Oe.sem, Ts.semAnd, Ts.semOr]
  generalize hw : mixI c 9973 6 = w at *
  simp only [ldiceF, hw]
  generalize hs : mixI c 9949 5 = s at *
  generalize hks : mixI c 9967 (min3 m) = k at *
  have cs : w = 0 ∨ w = 1 ∨ w = 2 ∨ w = 3 ∨ w = 4 ∨ w = 5 := by omega
  rcases cs with e | e | e | e | e | e
  all_goals subst e
  all_goals simp [m1, m2, m3, six, zipKs, mth_get, dget, mh, ma, mb, mc, Sy.toD]
  all_goals (refine cut_ok ho ?_; simp)
end Y

set_option linter.all false
set_option maxRecDepth 100000
set_option maxHeartbeats 4000000
namespace Y
/-- what a made saying keeps -/
def Wg : Sy → Prop
  | .num n => 0 ≤ n ∧ n ≤ 9
  | .dice m s => 1 ≤ m ∧ m ≤ 3 ∧ 2 ≤ s ∧ s ≤ 6
  | .pool w m s l => 1 ≤ m ∧ m ≤ 3 ∧ 2 ≤ s ∧ s ≤ 6 ∧ (match w with
    | .high => 1 ≤ l ∧ l ≤ m
    | .low => 1 ≤ l ∧ l ≤ m
    | .again => 1 ≤ l ∧ l ≤ s - 1
    | .burst => 1 ≤ l ∧ l ≤ 2
    | .count => 2 ≤ l ∧ l ≤ s)
  | .times n a => 0 ≤ n ∧ n ≤ 3 ∧ Wg a
  | .two _ a b => Wg a ∧ Wg b
theorem wf_nn : ∀ {s : Sy}, Wg s → Nn s
  | .num _, h => h.1
  | .dice _ _, _ => trivial
  | .pool _ _ _ _, _ => trivial
  | .times _ a, h => ⟨h.1, wf_nn h.2.2⟩
  | .two _ a b, h => ⟨wf_nn h.1, wf_nn h.2⟩
theorem wf_tm : ∀ {s : Sy}, Wg s → tmAll s
  | .num _, h => trivial
  | .dice _ _, _ => trivial
  | .pool _ _ _ _, _ => trivial
  | .times _ a, h => ⟨by have h1 := h.1; have h2 := h.2.1; omega, wf_tm h.2.2⟩
  | .two _ a b, h => ⟨wf_tm h.1, wf_tm h.2⟩
theorem wf_lm : ∀ {s : Sy}, Wg s → 0 ≤ lmF s
  | .num _, h => Int.le_refl _
  | .dice m _, h => by have h1 := h.1; simp only [lmF]; omega
  | .pool _ m _ _, h => by have h1 := h.1; simp only [lmF]; omega
  | .times _ a, h => by have h1 := wf_lm h.2.2; simp only [lmF]; exact h1
  | .two _ a b, h => by have h1 := wf_lm h.1; have h2 := wf_lm h.2; simp only [lmF]; omega
theorem min3_p {m : Int} (h : 1 ≤ m) : 1 ≤ min3 m ∧ min3 m ≤ 3 ∧ min3 m ≤ m := by unfold min3; split <;> omega
theorem wf_ldice (c : Int) {m : Int} (hm : 1 ≤ m) : Wg (ldiceF c m) ∧ lmF (ldiceF c m) ≤ m ∧ (ldiceF c m).dep = 0 := by
  obtain ⟨k1, k2, k3⟩ := min3_p hm
  have k0 := mix_lo c 9967 (show 0 < min3 m by omega)
  have k9 := mix_hi c 9967 (show 0 < min3 m by omega)
  have s0 := mix_lo c 9949 (m := 5) (by omega)
  have s9 := mix_hi c 9949 (m := 5) (by omega)
  simp only [ldiceF]
  generalize mixI c 9967 (min3 m) = k at *
  generalize mixI c 9949 5 = s at *
  have a0 := mix_lo c 9941 (show 0 < 1 + k by omega)
  have a9 := mix_hi c 9941 (show 0 < 1 + k by omega)
  have b0 := mix_lo c 9941 (show 0 < 2 + s - 1 by omega)
  have b9 := mix_hi c 9941 (show 0 < 2 + s - 1 by omega)
  have c0 := mix_lo c 9941 (show 0 < 2 + s - 2 + 1 by omega)
  have c9 := mix_hi c 9941 (show 0 < 2 + s - 2 + 1 by omega)
  have d0 := mix_lo c 9941 (show (0 : Int) < 2 by omega)
  have d9 := mix_hi c 9941 (show (0 : Int) < 2 by omega)
  split
  · refine ⟨⟨?_, ?_, ?_, ?_⟩, ?_, rfl⟩ <;> (try show _ + _ ≤ _) <;> omega
  split
  · refine ⟨⟨?_, ?_, ?_, ?_, ?_, ?_⟩, ?_, rfl⟩ <;> (try show _ + _ ≤ _) <;> omega
  split
  · refine ⟨⟨?_, ?_, ?_, ?_, ?_, ?_⟩, ?_, rfl⟩ <;> (try show _ + _ ≤ _) <;> omega
  split
  · refine ⟨⟨?_, ?_, ?_, ?_, ?_, ?_⟩, ?_, rfl⟩ <;> (try show _ + _ ≤ _) <;> omega
  split
  · refine ⟨⟨?_, ?_, ?_, ?_, ?_, ?_⟩, ?_, rfl⟩ <;> (try show _ + _ ≤ _) <;> omega
  · refine ⟨⟨?_, ?_, ?_, ?_, ?_, ?_⟩, ?_, rfl⟩ <;> (try show _ + _ ≤ _) <;> omega
def twOf (i : Int) : Tw := if i = 0 then .plus else if i = 1 then .less else if i = 2 then .most else if i = 3 then .least else .beats
def lsayF : Nat → Int → Int → Sy
  | 0, _, _ => .num 0
  | d + 1, c, m =>
    if mixI c 9931 12 < 2 ∨ m = 0 then .num (mixI c 9929 10)
    else if mixI c 9931 12 < 5 ∨ d = 0 then ldiceF (c + 1) m
    else if mixI c 9931 12 = 11 then .times (mixI c 9923 4) (lsayF d (c + 2) m)
    else if c % 2 = 0 then .two (twOf (mixI c 9907 5)) (lsayF d (c + 5) (m - lmF (lsayF d (c + 3) m))) (lsayF d (c + 3) m)
    else .two (twOf (mixI c 9907 5)) (lsayF d (c + 3) m) (lsayF d (c + 5) (m - lmF (lsayF d (c + 3) m)))
theorem wf_lsay : ∀ (d : Nat) (c m : Int), 0 ≤ m → Wg (lsayF d c m) ∧ lmF (lsayF d c m) ≤ m ∧ (lsayF d c m).dep ≤ d
  | 0, c, m, hm => ⟨⟨Int.le_refl _, by omega⟩, hm, Nat.le_refl _⟩
  | d + 1, c, m, hm => by
    simp only [lsayF]
    split
    · have a0 := mix_lo c 9929 (m := 10) (by omega)
      have a9 := mix_hi c 9929 (m := 10) (by omega)
      exact ⟨⟨a0, by omega⟩, hm, Nat.zero_le _⟩
    split
    · obtain ⟨a, b, e⟩ := wf_ldice (c + 1) (m := m) (by omega)
      exact ⟨a, b, by omega⟩
    split
    · obtain ⟨a, b, e⟩ := wf_lsay d (c + 2) m hm
      have a0 := mix_lo c 9923 (m := 4) (by omega)
      have a9 := mix_hi c 9923 (m := 4) (by omega)
      exact ⟨⟨a0, by omega, a⟩, b, by show _ + 1 ≤ _; omega⟩
    · obtain ⟨a, b, e⟩ := wf_lsay d (c + 3) m hm
      obtain ⟨a', b', e'⟩ := wf_lsay d (c + 5) (m - lmF (lsayF d (c + 3) m)) (by omega)
      split
      · exact ⟨⟨a', a⟩, by show _ + _ ≤ _; omega, by show max _ _ + 1 ≤ _; omega⟩
      · exact ⟨⟨a, a'⟩, by show _ + _ ≤ _; omega, by show max _ _ + 1 ≤ _; omega⟩
theorem five {h : Hs} {a b c d e : D} {i : Int} : index h (.tup [a, b, c, d, e]) (.int i) = if i = 0 then some a else if i = 1 then some b else if i = 2 then some c else if i = 3 then some d else if i = 4 then some e else index h (.tup [a, b, c, d, e]) (.int i) := by
  split
  · subst_vars; rfl
  · split
    · subst_vars; rfl
    · split
      · subst_vars; rfl
      · split
        · subst_vars; rfl
        · split
          · subst_vars; rfl
          · rfl
theorem ix_tw {h : Hs} {i : Int} (h0 : 0 ≤ i) (h5 : i < 5) : index h (.tup [.str (wd 7), .str (wd 8), .str (wd 9), .str (wd 10), .str (wd 11)]) (.int i) = some (.str (wd (twOf i).n)) := by
  have cs : i = 0 ∨ i = 1 ∨ i = 2 ∨ i = 3 ∨ i = 4 := by omega
  rcases cs with e | e | e | e | e <;> subst e <;> rfl
theorem run_l_saying : ∀ (d : Nat) (n : Nat) (c m : Int) (h : Hs), Okh h → 0 ≤ m → interp PU (n + 2 * d + 5) f_l_saying [.int c, .int (d + 1 : Nat), .int m] h = .ok (lsayF (d + 1) c m).toD h
  | d, n, c, m, h, ho, hm => by
    have mw := run_mix (n + 2 * d + 3) c 9931 12 h ho (by omega) (by omega) (by omega)
    have mn := run_mix (n + 2 * d + 3) c 9929 10 h ho (by omega) (by omega) (by omega)
    have mt := run_mix (n + 2 * d + 3) c 9923 4 h ho (by omega) (by omega) (by omega)
    have m5 := run_mix (n + 2 * d + 3) c 9907 5 h ho (by omega) (by omega) (by omega)
    have c0 := mix_lo c 9907 (m := 5) (by omega)
    have c9 := mix_hi c 9907 (m := 5) (by omega)
    have itw := ix_tw (h := h) c0 c9
    have bm : bop .mod h (.int c) (.int 2) = .ok (.int (c % 2)) h := bop_mod (by omega)
    show interp PU (n + 2 * d + 4 + 1) _ _ _ = _
    rw [interp_succ]
    simp only [runF, U, d_l_saying, b_l_saying, enter, Ss.sem, St.sem, E.sem, Es.sem, T.sem, It.sem, Oe.sem, Ts.semAnd, Ts.semOr]
    simp only [lsayF]
    generalize hw : mixI c 9931 12 = w at *
    by_cases w2 : w < 2
    · simp [mw, w2, mn, Sy.toD]
      (refine cut_ok ho ?_; simp)
    by_cases m0 : m = 0
    · simp [mw, w2, m0, mn, Sy.toD]
      (refine cut_ok ho ?_; simp)
    have md := run_l_dice (n + 2 * d + 2) (c + 1) m h ho (by omega)
    by_cases w5 : w < 5
    · simp [mw, w2, m0, w5, md]
      (refine cut_ok ho ?_; simp)
    by_cases d0 : d = 0
    · subst d0
      simp at md mw
      simp [mw, w2, m0, w5, md]
      (refine cut_ok ho ?_; simp)
    obtain ⟨e, rfl⟩ : ∃ e, d = e + 1 := ⟨d - 1, by omega⟩
    have ca : ¬ ((e + 1 : Nat) : Int) + 1 = 1 := by omega
    have cb : ((e + 1 : Nat) : Int) + 1 - 1 = ((e + 1 : Nat) : Int) := by omega
    have ea := run_l_saying e (n + 1) (c + 2) m h ho hm
    have eb := run_l_saying e (n + 1) (c + 3) m h ho hm
    obtain ⟨fa, fb, fe⟩ := wf_lsay (e + 1) (c + 3) m hm
    have ec := run_l_saying e (n + 1) (c + 5) (m - lmF (lsayF (e + 1) (c + 3) m)) h ho (by omega)
    have em := run_l_many (lsayF (e + 1) (c + 3) m) (n + 2 * (e + 1) + 3 - (lsayF (e + 1) (c + 3) m).dep) h ho
    rw [show n + 2 * (e + 1) + 3 - (lsayF (e + 1) (c + 3) m).dep + (lsayF (e + 1) (c + 3) m).dep + 1 = n + 2 * (e + 1) + 4 by omega] at em
    rw [show n + 1 + 2 * e + 5 = n + 2 * (e + 1) + 4 by omega] at ea eb ec
    rw [show n + 2 * (e + 1) + 3 + 1 = n + 2 * (e + 1) + 4 by omega] at mw mt m5
    generalize n + 2 * (e + 1) + 4 = K at *
    have cc : ((e + 1 + 1 : Nat) : Int) = ((e + 1 : Nat) : Int) + 1 := by omega
    rw [cc]
    generalize ((e + 1 : Nat) : Int) = E at *
    generalize lsayF (e + 1) (c + 3) m = A at *
    generalize lsayF (e + 1) (c + 5) (m - lmF A) = B at *
    generalize lsayF (e + 1) (c + 2) m = G at *
    by_cases w11 : w = 11
    · simp [mw, w2, m0, w5, w11, ca, mt, cb, ea, Sy.toD]
      (refine cut_ok ho ?_; simp)
    by_cases ev : c % 2 = 0
    · simp [mw, w2, m0, w5, w11, ca, m5, cb, eb, em, ec, bm, ev, itw, Sy.toD]
      (refine cut_ok ho ?_; simp)
    · simp [mw, w2, m0, w5, w11, ca, m5, cb, eb, em, ec, bm, ev, itw, Sy.toD]
      (refine cut_ok ho ?_; simp)
end Y

set_option linter.all false
set_option maxRecDepth 100000
set_option maxHeartbeats 4000000
namespace Y
mutual
/-- data as l_same takes it -/
def sdn : Nat → D → Bool
  | _, .non => true
  | _, .bl _ => true
  | _, .int _ => true
  | _, .str s => s.all fun c => decide (c < 128)
  | n + 1, .tup ds => decide (ds.length ≤ SZ) && sdsn n ds
  | _, _ => false
def sdsn : Nat → List D → Bool
  | _, [] => true
  | n, d :: r => sdn n d && sdsn n r
end
theorem sdn_toD : ∀ (s : Sy) (k : Nat), s.dep < k → sdn k s.toD = true
  | .num a, k + 1, h => by
    cases k <;> simp [Sy.toD, sdn, sdsn, wd_ascii]
  | .dice a b, k + 1, h => by
    cases k <;> simp [Sy.toD, sdn, sdsn, wd_ascii]
  | .pool w a b c, k + 1, h => by
    cases k <;> simp [Sy.toD, sdn, sdsn, wd_ascii]
  | .times n a, k + 2, h => by
    simp only [Sy.dep] at h
    have := sdn_toD a (k + 1) (by omega)
    simp [Sy.toD, sdn, sdsn, wd_ascii, this]
  | .two w a b, k + 2, h => by
    simp only [Sy.dep] at h
    have := sdn_toD a (k + 1) (by omega)
    have := sdn_toD b (k + 1) (by omega)
    simp [Sy.toD, sdn, sdsn, wd_ascii, *]
@[simp] theorem cop_is_bl_non {h : Hs} {b : Bool} : cop .is h (.bl b) .non = .ok (.bl false) h := rfl
theorem eqv_refl_s {s : S} : D.eqv (.str s) (.str s) = true := by simp
@[simp] theorem isi_bool_int {i : Int} : isi .bool (.int i) = some false := rfl
@[simp] theorem isi_bool_str {i : S} : isi .bool (.str i) = some false := rfl
@[simp] theorem isi_bool_bl {i : Bool} : isi .bool (.bl i) = some true := rfl
@[simp] theorem isi_is_int {i : Int} : isi .intstr (.int i) = some true := rfl
@[simp] theorem isi_is_str {i : S} : isi .intstr (.str i) = some true := rfl
@[simp] theorem isi_tup_non : isi .tuple .non = some false := rfl
@[simp] theorem isi_tup_bl {b : Bool} : isi .tuple (.bl b) = some false := rfl
@[simp] theorem blt_len_tup {h : Hs} {l : List D} : blt .len h [.tup l] = .ok (.int l.length) h := rfl
theorem loop_same (n : Nat) (ρ : D → D → Env) (h : Hs) : ∀ (ds : List D) (acc : List D) (F : D → Hs → R (Option D)), (∀ d, d ∈ ds → F (.tup [d, d]) h = .ok (some (.bl true)) h) → acc.length + ds.length ≤ SZ → loopC F (zipD ds ds) acc h = .ok (acc ++ List.replicate ds.length (.bl true)) h
  | [], acc, F, hf, hl => by simp [zipD, loopC]
  | d :: r, acc, F, hf, hl => by
    simp only [List.length_cons] at hl
    have := loop_same n ρ h r (acc ++ [.bl true]) F (fun x hx => hf x (by simp [hx])) (by simp; simp at hl; omega)
    have hlt : acc.length < SZ := by omega
    simp only [zipD, loopC, hf d (by simp), R.bind_ok, hlt, if_true, this]
    simp [List.replicate_succ]
theorem bls_rep : ∀ k : Nat, blsOf (List.replicate k (.bl true)) = some (List.replicate k true)
  | 0 => rfl
  | k + 1 => by simp [List.replicate_succ, blsOf, bls_rep k]
theorem sdsn_mem {k : Nat} : ∀ {ds : List D}, sdsn k ds = true → ∀ d, d ∈ ds → sdn k d = true
  | [], _, d, h => by cases h
  | a :: r, hs, d, h => by
    have hs' : sdn k a = true ∧ sdsn k r = true := by cases k <;> simpa [sdsn] using hs
    rcases List.mem_cons.mp h with e | e
    · subst e; exact hs'.1
    · exact sdsn_mem hs'.2 d e
theorem run_l_same : ∀ (k : Nat) (d : D) (n : Nat) (h : Hs), Okh h → sdn k d = true → interp PU (n + k + 1) f_l_same [d, d] h = .ok (.bl true) h
  | k, .non, n, h, ho, hs => by
    rw [interp_succ]
    simp only [runF, U, d_l_same, b_l_same, enter, Ss.sem, St.sem, E.sem, Es.sem, T.sem, It.sem, Oe.sem, Ts.semAnd, Ts.semOr, Es.semAnd, Es.semOr]
    simp
    (refine cut_ok ho ?_; simp)
  | k, .bl b, n, h, ho, hs => by
    have e : cop .eq h (.bl b) (.bl b) = .ok (.bl true) h := by rw [cop_eq okn_bl okn_bl]; simp
    rw [interp_succ]
    simp only [runF, U, d_l_same, b_l_same, enter, Ss.sem, St.sem, E.sem, Es.sem, T.sem, It.sem, Oe.sem, Ts.semAnd, Ts.semOr, Es.semAnd, Es.semOr]
    simp [e]
    (refine cut_ok ho ?_; simp)
  | k, .int b, n, h, ho, hs => by
    rw [interp_succ]
    simp only [runF, U, d_l_same, b_l_same, enter, Ss.sem, St.sem, E.sem, Es.sem, T.sem, It.sem, Oe.sem, Ts.semAnd, Ts.semOr, Es.semAnd, Es.semOr]
    simp
    (refine cut_ok ho ?_; simp)
  | k, .str b, n, h, ho, hs => by
    have o : D.ok (.str b) = true := by
      show D.okn 60 _ = true
      rw [okn_str]
      cases k <;> simpa [sdn] using hs
    have e : cop .eq h (.str b) (.str b) = .ok (.bl true) h := by rw [cop_eq (show (deref h (.str b)).ok = true from o) (show (deref h (.str b)).ok = true from o)]; simp
    rw [interp_succ]
    simp only [runF, U, d_l_same, b_l_same, enter, Ss.sem, St.sem, E.sem, Es.sem, T.sem, It.sem, Oe.sem, Ts.semAnd, Ts.semOr, Es.semAnd, Es.semOr]
    simp [e]
    (refine cut_ok ho ?_; simp)
  | k + 1, .tup ds, n, h, ho, hs => by
    simp only [sdn, Bool.and_eq_true, decide_eq_true_eq] at hs
    have ih := fun d (hd : d ∈ ds) => run_l_same k d n h ho (sdsn_mem hs.2 d hd)
    show interp PU (n + k + 1 + 1) _ _ _ = _
    rw [interp_succ]
    simp only [runF, U, d_l_same, b_l_same, enter, Ss.sem, St.sem, E.sem, Es.sem, T.sem, It.sem, Oe.sem, Ts.semAnd, Ts.semOr, Es.semAnd, Es.semOr]
    simp [wipe, Tg.slots]
    rw [loop_same 0 (fun _ _ => []) h ds [] _ (fun d hd => by simp [ih d hd]) (by simpa using hs.1)]
    simp [blt, bls_rep]
    (refine cut_ok ho ?_; simp)
  | 0, .tup ds, n, h, ho, hs => by simp [sdn] at hs
  | k, .fl ds, n, h, ho, hs => by cases k <;> simp [sdn] at hs
  | k, .fi ds, n, h, ho, hs => by cases k <;> simp [sdn] at hs
  | k, .ft ds, n, h, ho, hs => by cases k <;> simp [sdn] at hs
  | k, .fs ds, n, h, ho, hs => by cases k <;> simp [sdn] at hs
  | k, .ref ds, n, h, ho, hs => by cases k <;> simp [sdn] at hs
  | k, .exc ds, n, h, ho, hs => by cases k <;> simp [sdn] at hs
  | k, .scr ds, n, h, ho, hs => by cases k <;> simp [sdn] at hs
end Y

set_option linter.all false
set_option maxRecDepth 100000
set_option maxHeartbeats 4000000
namespace Y
/-! ### fractions -/
def fr (a b : Int) : Int × Int := (a / (Int.gcd a b : Int), b / (Int.gcd a b : Int))
def frD (p : Int × Int) : D := .tup [.int p.1, .int p.2]
theorem gcd_pos {a b : Int} (hb : 0 < b) : (0 : Int) < (Int.gcd a b : Int) := by
  have : 0 < Int.gcd a b := Int.gcd_pos_of_ne_zero_right a (by omega)
  omega
theorem fr_parts (a : Int) {b : Int} (hb : 0 < b) : ∃ g : Int, 0 < g ∧ a = g * (fr a b).1 ∧ b = g * (fr a b).2 ∧ 0 < (fr a b).2 := by
  have g0 := gcd_pos (a := a) hb
  refine ⟨(Int.gcd a b : Int), g0, ?_, ?_, ?_⟩
  · exact (Int.mul_ediv_cancel' (Int.gcd_dvd_left a b)).symm
  · exact (Int.mul_ediv_cancel' (Int.gcd_dvd_right a b)).symm
  · have e : b = (Int.gcd a b : Int) * (b / (Int.gcd a b : Int)) := (Int.mul_ediv_cancel' (Int.gcd_dvd_right a b)).symm
    show 0 < b / (Int.gcd a b : Int)
    by_cases c : 0 < b / (Int.gcd a b : Int)
    · exact c
    · exfalso
      have : (Int.gcd a b : Int) * (b / (Int.gcd a b : Int)) ≤ 0 := Int.mul_nonpos_of_nonneg_of_nonpos (by omega) (by omega)
      omega
theorem fr_mul {k : Int} (hk : 0 < k) (a b : Int) : fr (k * a) (k * b) = fr a b := by
  unfold fr
  rw [Int.gcd_mul_left]
  have e : ((k.natAbs * Int.gcd a b : Nat) : Int) = k * (Int.gcd a b : Int) := by
    rw [Int.natCast_mul, Int.natAbs_of_nonneg (by omega)]
  rw [e, Int.mul_ediv_mul_of_pos _ _ hk, Int.mul_ediv_mul_of_pos _ _ hk]
theorem fr_cross {a b c d : Int} (hb : 0 < b) (hd : 0 < d) (h : a * d = c * b) : fr a b = fr c d := by
  rw [← fr_mul hd a b, ← fr_mul hb c d]
  rw [show d * a = b * c by grind, show d * b = b * d by grind]
theorem fr_inv {a b c d : Int} (hb : 0 < b) (hd : 0 < d) (h : fr a b = fr c d) : a * d = c * b := by
  obtain ⟨g, g0, e1, e2, e3⟩ := fr_parts a hb
  obtain ⟨k, k0, f1, f2, f3⟩ := fr_parts c hd
  rw [h] at e1 e2
  generalize fr c d = p at *
  rw [e1, e2, f1, f2]
  grind
theorem fr_iff {a b c d : Int} (hb : 0 < b) (hd : 0 < d) : fr a b = fr c d ↔ a * d = c * b := ⟨fr_inv hb hd, fr_cross hb hd⟩
/-- the program's sum, and product -/
def sumf (p q : Int × Int) : Int × Int := fr (p.1 * q.2 + q.1 * p.2) (p.2 * q.2)
def prodf (p q : Int × Int) : Int × Int := fr (p.1 * q.1) (p.2 * q.2)
theorem sumf_fr (a c : Int) {T S : Int} (hT : 0 < T) (hS : 0 < S) : sumf (fr a T) (fr c S) = fr (a * S + c * T) (T * S) := by
  obtain ⟨g, g0, e1, e2, e3⟩ := fr_parts a hT
  obtain ⟨k, k0, f1, f2, f3⟩ := fr_parts c hS
  unfold sumf
  refine fr_cross (Int.mul_pos e3 f3) (Int.mul_pos hT hS) ?_
  generalize fr a T = p at *
  generalize fr c S = q at *
  rw [e1, e2, f1, f2]
  grind
theorem prodf_fr (a c : Int) {T S : Int} (hT : 0 < T) (hS : 0 < S) : prodf (fr a T) (fr c S) = fr (a * c) (T * S) := by
  obtain ⟨g, g0, e1, e2, e3⟩ := fr_parts a hT
  obtain ⟨k, k0, f1, f2, f3⟩ := fr_parts c hS
  unfold prodf
  refine fr_cross (Int.mul_pos e3 f3) (Int.mul_pos hT hS) ?_
  generalize fr a T = p at *
  generalize fr c S = q at *
  rw [e1, e2, f1, f2]
  grind
theorem sumf_same (a c : Int) {T : Int} (hT : 0 < T) : sumf (fr a T) (fr c T) = fr (a + c) T := by
  rw [sumf_fr a c hT hT]
  refine fr_cross (Int.mul_pos hT hT) hT ?_
  grind
theorem fr_01 : fr 0 1 = (0, 1) := rfl
theorem fr_0 {T : Int} (hT : 0 < T) : fr 0 T = (0, 1) := by
  rw [← fr_01]
  exact fr_cross hT (by omega) (by omega)
theorem fr_one {T : Int} (hT : 0 < T) : fr T T = (1, 1) := by
  rw [show ((1, 1) : Int × Int) = fr 1 1 from rfl]
  exact fr_cross hT (by omega) (by omega)
/-- bounds -/
def Bd (n : Nat) (p : Int × Int) : Prop := p.1.natAbs < n ∧ 0 < p.2 ∧ p.2.natAbs < n
theorem bd_fr {a b : Int} {n : Nat} (hb : 0 < b) (h1 : a.natAbs < n) (h2 : b.natAbs < n) : Bd n (fr a b) := by
  obtain ⟨g, g0, e1, e2, e3⟩ := fr_parts a hb
  have le : ∀ x y : Int, x = g * y → y.natAbs ≤ x.natAbs := fun x y e => by
    rw [e, Int.natAbs_mul]
    exact Nat.le_mul_of_pos_left _ (by omega)
  exact ⟨Nat.lt_of_le_of_lt (le _ _ e1) h1, e3, Nat.lt_of_le_of_lt (le _ _ e2) h2⟩
/-! ### the running -/
theorem euclid {h : Hs} (t : Env → Hs → R Bool) (f : Env → Hs → RS) (ht : ∀ a b : Nat, t [some (.int a), some (.int b)] h = .ok (decide (b ≠ 0)) h)
    (hf : ∀ a b : Nat, 0 < b → f [some (.int a), some (.int b)] h = .nx [some (.int b), some (.int ((a % b : Nat)))] h) : ∀ (k : Nat) (a b n : Nat), b < 2 ^ k → 2 * k + 1 ≤ n → loopW t f n [some (.int a), some (.int b)] h = .nx [some (.int (Nat.gcd a b)), some (.int 0)] h := by
  have z : ∀ (a n : Nat), 1 ≤ n → loopW t f n [some (.int a), some (.int (0 : Nat))] h = .nx [some (.int (Nat.gcd a 0)), some (.int 0)] h := by
    intro a n hn
    obtain ⟨m, rfl⟩ : ∃ m, n = m + 1 := ⟨n - 1, by omega⟩
    rw [loopW, ht]
    simp
  have s : ∀ (a b n : Nat), 0 < b → loopW t f (n + 1) [some (.int a), some (.int b)] h = loopW t f n [some (.int b), some (.int ((a % b : Nat)))] h := by
    intro a b n hb
    have hb' : b ≠ 0 := by omega
    rw [loopW, ht, R.toS_ok]
    simp [hb', hf a b hb]
  intro k
  induction k with
  | zero =>
    intro a b n hb hn
    have : b = 0 := by simpa using hb
    subst this
    exact z a n (by omega)
  | succ k ih =>
    intro a b n hb hn
    by_cases b0 : b = 0
    · subst b0; exact z a n (by omega)
    obtain ⟨m, rfl⟩ : ∃ m, n = m + 1 := ⟨n - 1, by omega⟩
    rw [s a b m (by omega)]
    have e1 : Nat.gcd a b = Nat.gcd b (a % b) := by rw [Nat.gcd_comm a b, Nat.gcd_rec b a, Nat.gcd_comm]
    rw [e1]
    have hr : a % b < b := Nat.mod_lt _ (by omega)
    generalize a % b = r at *
    by_cases r0 : r = 0
    · subst r0; exact z b m (by omega)
    obtain ⟨m, rfl⟩ : ∃ q, m = q + 1 := ⟨m - 1, by omega⟩
    rw [s b r m (by omega)]
    have e2 : Nat.gcd b r = Nat.gcd r (b % r) := by rw [Nat.gcd_comm b r, Nat.gcd_rec r b, Nat.gcd_comm]
    rw [e2]
    refine ih r (b % r) m ?_ (by omega)
    have h1 := Nat.div_add_mod b r
    have h2 : b % r < r := Nat.mod_lt _ (by omega)
    have h3 : 1 ≤ b / r := (Nat.one_le_div_iff (by omega)).mpr (by omega)
    have h4 : r ≤ r * (b / r) := Nat.le_mul_of_pos_right _ h3
    have h5 : 2 ^ (k + 1) = 2 * 2 ^ k := by rw [Nat.pow_succ]; omega
    omega
theorem run_divisor (n : Nat) (a b : Nat) (h : Hs) (ho : Okh h) (hb : b < BIG) : interp PU (n + 1) f_divisor [.int a, .int b] h = .ok (.int (Nat.gcd a b)) h := by
  rw [interp_succ]
  simp only [runF, U, d_divisor, b_divisor, enter, Ss.sem, St.sem]
  simp only [CfN_W]
  have e := euclid (h := h) (fun ρ h => T.sem (CfN n) (.cmp .ne (.var 1) (.int 0)) ρ h) (fun ρ h => Ss.sem (CfN n) (.cons (.par 0 1 (.var 1) (.bin .mod (.var 0) (.var 1))) .nil) ρ h)
    (fun a b => by simp [T.sem, E.sem]) (fun a b hb => by simp [Ss.sem, St.sem, E.sem, bop_mod (show (0 : Int) < (b : Int) by omega)]) 1000 a b 4000 hb (by omega)
  have e2 : (List.map some [D.int ↑a, D.int ↑b] ++ List.replicate (2 - [D.int ↑a, D.int ↑b].length) none : Env) = [some (.int a), some (.int b)] := rfl
  simp only [e2]
  simp only [Ss.sem, St.sem] at e
  rw [e]
  simp [E.sem]
  (refine cut_ok ho ?_; simp)
theorem run_l_divisor (n : Nat) (a b : Nat) (h : Hs) (ho : Okh h) (hb : b < BIG) : interp PU (n + 1) f_l_divisor [.int a, .int b] h = .ok (.int (Nat.gcd a b)) h := by
  rw [interp_succ]
  simp only [runF, U, d_l_divisor, b_l_divisor, enter, Ss.sem, St.sem]
  simp only [CfN_W]
  have e := euclid (h := h) (fun ρ h => T.sem (CfN n) (.tru (.var 1)) ρ h) (fun ρ h => Ss.sem (CfN n) (.cons (.par 0 1 (.var 1) (.bin .mod (.var 0) (.var 1))) .nil) ρ h)
    (fun a b => by
      simp [T.sem, E.sem, truD]
      by_cases c : b = 0
      · subst c; rfl
      · simp [c]) (fun a b hb => by simp [Ss.sem, St.sem, E.sem, bop_mod (show (0 : Int) < (b : Int) by omega)]) 1000 a b 4000 hb (by omega)
  have e2 : (List.map some [D.int ↑a, D.int ↑b] ++ List.replicate (2 - [D.int ↑a, D.int ↑b].length) none : Env) = [some (.int a), some (.int b)] := rfl
  simp only [e2]
  simp only [Ss.sem, St.sem] at e
  rw [e]
  simp [E.sem]
  (refine cut_ok ho ?_; simp)
theorem abs_nat {h : Hs} (a : Int) : blt .abs h [.int a] = .ok (.int (a.natAbs : Int)) h := by
  show R.ok (D.int (if a < 0 then -a else a)) h = _
  congr 2
  split <;> omega
theorem run_fraction (n : Nat) (a b : Int) (h : Hs) (ho : Okh h) (hb : 0 < b) (hB : b.natAbs < BIG) : interp PU (n + 2) f_fraction [.int a, .int b] h = .ok (frD (fr a b)) h := by
  have e := run_divisor n a.natAbs b.natAbs h ho hB
  rw [show ((b.natAbs : Nat) : Int) = b by omega] at e
  have g0 := gcd_pos (a := a) hb
  have gl : (Int.gcd a b : Int).natAbs < BIG := by
    have h1 : Int.gcd a b ≤ b.natAbs := Nat.le_of_dvd (by omega) (Nat.gcd_dvd_right _ _)
    rw [Int.natAbs_natCast]; omega
  have d1 : bop .div h (.int a) (.int (Int.gcd a b)) = .ok (.int (a / (Int.gcd a b : Int))) h := bop_div g0 gl
  have d2 : bop .div h (.int b) (.int (Int.gcd a b)) = .ok (.int (b / (Int.gcd a b : Int))) h := bop_div g0 gl
  show interp PU (n + 1 + 1) _ _ _ = _
  rw [interp_succ]
  simp only [runF, U, d_fraction, b_fraction, enter, Ss.sem, St.sem, E.sem, Es.sem]
  rw [show Nat.gcd a.natAbs b.natAbs = Int.gcd a b from rfl] at e
  simp [abs_nat, e, d1, d2, frD, fr]
  (refine cut_ok ho ?_; simp)
theorem run_l_fraction (n : Nat) (a b : Int) (h : Hs) (ho : Okh h) (hb : 0 < b) (hB : b.natAbs < BIG) : interp PU (n + 2) f_l_fraction [.int a, .int b] h = .ok (frD (fr a b)) h := by
  have e := run_l_divisor n a.natAbs b.natAbs h ho hB
  rw [show ((b.natAbs : Nat) : Int) = b by omega] at e
  have g0 := gcd_pos (a := a) hb
  have gl : (Int.gcd a b : Int).natAbs < BIG := by
    have h1 : Int.gcd a b ≤ b.natAbs := Nat.le_of_dvd (by omega) (Nat.gcd_dvd_right _ _)
    rw [Int.natAbs_natCast]; omega
  have d1 : bop .div h (.int a) (.int (Int.gcd a b)) = .ok (.int (a / (Int.gcd a b : Int))) h := bop_div g0 gl
  have d2 : bop .div h (.int b) (.int (Int.gcd a b)) = .ok (.int (b / (Int.gcd a b : Int))) h := bop_div g0 gl
  show interp PU (n + 1 + 1) _ _ _ = _
  rw [interp_succ]
  simp only [runF, U, d_l_fraction, b_l_fraction, enter, Ss.sem, St.sem, E.sem, Es.sem]
  rw [show Nat.gcd a.natAbs b.natAbs = Int.gcd a b from rfl] at e
  simp [abs_nat, e, d1, d2, frD, fr]
  (refine cut_ok ho ?_; simp)
/-- a bound whose square is below BIG -/
def HB : Nat := 2 ^ 400
theorem hb_sq {a b : Nat} (ha : a < HB) (hb : b < HB) : a * b < BIG := by
  have : a * b < HB * HB := Nat.mul_lt_mul'' ha hb
  have e : HB * HB ≤ BIG := by decide +kernel
  omega
theorem hb_big {a : Nat} (ha : a < HB) : a < BIG := by
  have e : HB ≤ BIG := by decide +kernel
  omega
theorem run_sum_of (n : Nat) (p q : Int × Int) (h : Hs) (ho : Okh h) (hp : Bd HB p) (hq : Bd HB q) : interp PU (n + 3) f_sum_of [frD p, frD q] h = .ok (frD (sumf p q)) h := by
  have e := run_fraction n (p.1 * q.2 + q.1 * p.2) (p.2 * q.2) h ho (Int.mul_pos hp.2.1 hq.2.1) (by rw [Int.natAbs_mul]; exact hb_sq hp.2.2 hq.2.2)
  have m1 : bop .mul h (.int p.1) (.int q.2) = .ok (.int (p.1 * q.2)) h := bop_mulB (hb_big hp.1) (hb_big hq.2.2)
  have m2 : bop .mul h (.int q.1) (.int p.2) = .ok (.int (q.1 * p.2)) h := bop_mulB (hb_big hq.1) (hb_big hp.2.2)
  have m3 : bop .mul h (.int p.2) (.int q.2) = .ok (.int (p.2 * q.2)) h := bop_mulB (hb_big hp.2.2) (hb_big hq.2.2)
  show interp PU (n + 2 + 1) _ _ _ = _
  rw [interp_succ]
  simp only [runF, U, d_sum_of, b_sum_of, enter, Ss.sem, St.sem, E.sem, Es.sem]
  simp [frD] at e ⊢
  simp [m1, m2, m3, e, sumf]
  (refine cut_ok ho ?_; simp)
theorem run_product (n : Nat) (p q : Int × Int) (h : Hs) (ho : Okh h) (hp : Bd HB p) (hq : Bd HB q) : interp PU (n + 3) f_product [frD p, frD q] h = .ok (frD (prodf p q)) h := by
  have e := run_fraction n (p.1 * q.1) (p.2 * q.2) h ho (Int.mul_pos hp.2.1 hq.2.1) (by rw [Int.natAbs_mul]; exact hb_sq hp.2.2 hq.2.2)
  have m1 : bop .mul h (.int p.1) (.int q.1) = .ok (.int (p.1 * q.1)) h := bop_mulB (hb_big hp.1) (hb_big hq.1)
  have m3 : bop .mul h (.int p.2) (.int q.2) = .ok (.int (p.2 * q.2)) h := bop_mulB (hb_big hp.2.2) (hb_big hq.2.2)
  show interp PU (n + 2 + 1) _ _ _ = _
  rw [interp_succ]
  simp only [runF, U, d_product, b_product, enter, Ss.sem, St.sem, E.sem, Es.sem]
  simp [frD] at e ⊢
  simp [m1, m3, e, prodf]
  (refine cut_ok ho ?_; simp)
theorem run_is_less (n : Nat) (p q : Int × Int) (h : Hs) (ho : Okh h) (hp : Bd HB p) (hq : Bd HB q) : interp PU (n + 1) f_is_less [frD p, frD q] h = .ok (.bl (decide (p.1 * q.2 < q.1 * p.2))) h := by
  have m1 : bop .mul h (.int p.1) (.int q.2) = .ok (.int (p.1 * q.2)) h := bop_mulB (hb_big hp.1) (hb_big hq.2.2)
  have m2 : bop .mul h (.int q.1) (.int p.2) = .ok (.int (q.1 * p.2)) h := bop_mulB (hb_big hq.1) (hb_big hp.2.2)
  rw [interp_succ]
  simp only [runF, U, d_is_less, b_is_less, enter, Ss.sem, St.sem, E.sem, Es.sem]
  simp [frD, m1, m2]
  (refine cut_ok ho ?_; simp)
@[simp] theorem rb_frD {k : Nat} {p : Int × Int} : (frD p).rb k = true := by simp [frD]
end Y

set_option linter.all false
set_option maxRecDepth 100000
set_option maxHeartbeats 4000000
namespace Y
/-! ### statements, one by one -/
def forF (C : Cfg) (tg : Tg) (b : Ss) : D → Env → Hs → RS := fun d ρ h => match setTg tg ρ d with
    | some ρ' => b.sem C ρ' h
    | none => .bad
section
variable {C : Cfg} {ρ : Env} {h : Hs}
theorem sem_for {tg : Tg} {it : It} {b : Ss} : St.sem C (.for_ tg it b) ρ h = (it.sem C ρ h).toS ρ fun ds h => loopS (forF C tg b) ds ρ h := by rw [St.sem]; rfl
theorem sem_asg {i : Nat} {e : E} : St.sem C (.asg i e) ρ h = (e.sem C ρ h).toS ρ fun d h => .nx (ρ.set i (some d)) h := by rw [St.sem]
theorem sem_par {i j : Nat} {a b : E} : St.sem C (.par i j a b) ρ h = (a.sem C ρ h).toS ρ fun x h => (b.sem C ρ h).toS ρ fun y h => .nx ((ρ.set i (some x)).set j (some y)) h := by rw [St.sem]
def asT (is : List Nat) (ρ : Env) (d : D) (h : Hs) : RS := match setTg (.t is) ρ d with
    | some ρ' => .nx ρ' h
    | none => .bad
theorem sem_asgT {is : List Nat} {e : E} : St.sem C (.asgT is e) ρ h = (e.sem C ρ h).toS ρ fun d h => asT is ρ d h := by rw [St.sem]; rfl
def siF (ρ : Env) (h : Hs) (x y v : D) : RS := match setIx h x y v with
    | some h' => .nx ρ h'
    | none => .bad
theorem sem_setI {o i e : E} : St.sem C (.setI o i e) ρ h = (e.sem C ρ h).toS ρ fun v h => (o.sem C ρ h).toS ρ fun x h => (i.sem C ρ h).toS ρ fun y h => siF ρ h x y v := by rw [St.sem]; rfl
theorem sem_ex {e : E} : St.sem C (.ex e) ρ h = (e.sem C ρ h).toS ρ fun _ h => .nx ρ h := by rw [St.sem]
theorem sem_ret {e : E} : St.sem C (.ret e) ρ h = (e.sem C ρ h).toS ρ fun d h => .rt d h := by rw [St.sem]
theorem sem_retN : St.sem C .retN ρ h = .rt .non h := by rw [St.sem]
theorem sem_ite {t : T} {a b : Ss} : St.sem C (.ite t a b) ρ h = (t.sem C ρ h).toS ρ fun k h => if k = true then a.sem C ρ h else b.sem C ρ h := by rw [St.sem]
def fzF (i : Nat) (ρ : Env) (h : Hs) : RS := match ρ[i]? with
    | some (some d) => (freeze h d).toS ρ fun d h => .nx (ρ.set i (some d)) h
    | _ => .bad
theorem sem_frzV {i : Nat} : St.sem C (.frzV i) ρ h = fzF i ρ h := by rw [St.sem]; rfl
def seqF (d : D) (h : Hs) : R (List D) := match itemsOf d with
    | some ds => .ok ds h
    | none => .bad
theorem sem_seq {e : E} : It.sem C (.seq e) ρ h = (e.sem C ρ h).bind seqF := by rw [It.sem]; rfl
def rng1F (d : D) (h : Hs) : R (List D) := match d with
    | .int n => if n.natAbs < 4611686018427387904 then .ok (rngD 0 n) h else .bad
    | _ => .bad
theorem sem_rng1 {e : E} : It.sem C (.rng1 e) ρ h = (e.sem C ρ h).bind rng1F := by rw [It.sem]; rfl
def rng2F (x y : D) (h : Hs) : R (List D) := match x, y with
    | .int m, .int n => if m.natAbs < 4611686018427387904 ∧ n.natAbs < 4611686018427387904 then .ok (rngD m n) h else .bad
    | _, _ => .bad
theorem sem_rng2 {a b : E} : It.sem C (.rng2 a b) ρ h = (a.sem C ρ h).bind fun x h => (b.sem C ρ h).bind fun y h => rng2F x y h := by rw [It.sem]; rfl
def enmF (d : D) (h : Hs) : R (List D) := match d with
    | .fl ds => .ok (enmD 0 ds) h
    | _ => .bad
theorem sem_enm {e : E} : It.sem C (.enm e) ρ h = (e.sem C ρ h).bind enmF := by rw [It.sem]; rfl
def zipF (x y : D) (h : Hs) : R (List D) := match x, y with
    | .tup xs, .tup ys => .ok (zipD xs ys) h
    | _, _ => .bad
theorem sem_zip {a b : E} : It.sem C (.zip a b) ρ h = (a.sem C ρ h).bind fun x h => (b.sem C ρ h).bind fun y h => zipF x y h := by rw [It.sem]; rfl
def lcG (elt : E) (tg : Tg) (t : T) (C : Cfg) (ρ : Env) (d : D) (h : Hs) : R (Option D) := match setTg tg (wipe ρ tg.slots) d with
      | some ρ' => (t.sem C ρ' h).bind fun k h => if k = true then (elt.sem C ρ' h).bind fun v h => .ok (some v) h else .ok none h
      | none => .bad
theorem sem_lc {elt : E} {tg : Tg} {it : It} {t : T} : E.sem C (.lc elt tg it t) ρ h = (it.sem C ρ h).bind fun ds h => (noEx (loopC (lcG elt tg t C ρ) ds [] h)).bind fun vs h => .ok (.fl vs) h := by rw [E.sem]; rfl
theorem sem_brk : St.sem C .brk ρ h = .bk ρ h := by rw [St.sem]
theorem sem_pass : St.sem C .pass ρ h = .nx ρ h := by rw [St.sem]
end
@[simp] theorem forF_n {C : Cfg} {i : Nat} {b : Ss} {d : D} {ρ : Env} {h : Hs} : forF C (.n i) b d ρ h = b.sem C (ρ.set i (some d)) h := rfl
@[simp] theorem forF_2 {C : Cfg} {i j : Nat} {b : Ss} {x y : D} {ρ : Env} {h : Hs} : forF C (.t [i, j]) b (.tup [x, y]) ρ h = b.sem C ((ρ.set i (some x)).set j (some y)) h := rfl
@[simp] theorem asT_2 {i j : Nat} {x y : D} {ρ : Env} {h : Hs} : asT [i, j] ρ (.tup [x, y]) h = .nx ((ρ.set i (some x)).set j (some y)) h := rfl
@[simp] theorem asT_4 {i j k l : Nat} {x y z u : D} {ρ : Env} {h : Hs} : asT [i, j, k, l] ρ (.tup [x, y, z, u]) h = .nx ((((ρ.set i (some x)).set j (some y)).set k (some z)).set l (some u)) h := rfl
@[simp] theorem asT_3 {i j k : Nat} {x y z : D} {ρ : Env} {h : Hs} : asT [i, j, k] ρ (.tup [x, y, z]) h = .nx (((ρ.set i (some x)).set j (some y)).set k (some z)) h := rfl
/-- small enough for a range -/
def Sm (n : Int) : Prop := n.natAbs < 4611686018427387904
theorem sm_of {n : Int} (h1 : -1000000 ≤ n) (h2 : n ≤ 1000000) : Sm n := by unfold Sm; omega
theorem rng1_ok {n : Int} {h : Hs} (hn : Sm n) : rng1F (.int n) h = .ok (rngD 0 n) h := if_pos hn
theorem rng2_ok {m n : Int} {h : Hs} (hm : Sm m) (hn : Sm n) : rng2F (.int m) (.int n) h = .ok (rngD m n) h := if_pos ⟨hm, hn⟩
theorem seq_ok {d : D} {ds : List D} {h : Hs} (e : itemsOf d = some ds) : seqF d h = .ok ds h := by unfold seqF; rw [e]
@[simp] theorem seq_tup {ds : List D} {h : Hs} : seqF (.tup ds) h = .ok ds h := rfl
@[simp] theorem seq_fl {ds : List D} {h : Hs} : seqF (.fl ds) h = .ok ds h := rfl
@[simp] theorem lcG_n {elt : E} {i : Nat} {t : T} {C : Cfg} {ρ : Env} {d : D} {h : Hs} : lcG elt (.n i) t C ρ d h = (t.sem C ((ρ.set i none).set i (some d)) h).bind fun k h => if k = true then (elt.sem C ((ρ.set i none).set i (some d)) h).bind fun v h => .ok (some v) h else .ok none h := rfl
@[simp] theorem lcG_2 {elt : E} {i j : Nat} {t : T} {C : Cfg} {ρ : Env} {x y : D} {h : Hs} : lcG elt (.t [i, j]) t C ρ (.tup [x, y]) h = (t.sem C (((((ρ.set j none).set i none)).set i (some x)).set j (some y)) h).bind fun k h => if k = true then (elt.sem C (((((ρ.set j none).set i none)).set i (some x)).set j (some y)) h).bind fun v h => .ok (some v) h else .ok none h := rfl
def Ss.nth : Ss → Nat → St
  | .nil, _ => .pass
  | .cons s _, 0 => s
  | .cons _ ss, n + 1 => ss.nth n
def St.body : St → Ss
  | .for_ _ _ b => b
  | .whl _ b => b
  | .ite _ a _ => a
  | _ => .nil
def St.els : St → Ss
  | .ite _ _ b => b
  | _ => .nil
/-! ### loops -/
theorem loopS_pre {α : Type} (enc : α → D) (f : D → Env → Hs → RS) (I : List α → Env → Hs → Prop) (xs : List α) (hs : ∀ pre x post, xs = pre ++ x :: post → ∀ ρ h, I pre ρ h → ∃ ρ' h', f (enc x) ρ h = .nx ρ' h' ∧ I (pre ++ [x]) ρ' h') :
    ∀ (ρ : Env) (h : Hs), I [] ρ h → ∃ ρ' h', loopS f (xs.map enc) ρ h = .nx ρ' h' ∧ I xs ρ' h' := by
  have key : ∀ (post pre : List α), xs = pre ++ post → ∀ ρ h, I pre ρ h → ∃ ρ' h', loopS f (post.map enc) ρ h = .nx ρ' h' ∧ I xs ρ' h' := by
    intro post
    induction post with
    | nil =>
      intro pre e ρ h hi
      rw [List.append_nil] at e
      exact ⟨ρ, h, rfl, by rw [e]; exact hi⟩
    | cons x post ih =>
      intro pre e ρ h hi
      obtain ⟨ρ1, h1, e1, i1⟩ := hs pre x post e ρ h hi
      obtain ⟨ρ2, h2, e2, i2⟩ := ih (pre ++ [x]) (by simp [e]) ρ1 h1 i1
      exact ⟨ρ2, h2, by rw [List.map_cons, loopS, e1]; exact e2, i2⟩
  intro ρ h hi
  exact key xs [] rfl ρ h hi
/-! ### the store -/
mutual
theorem D.rb_mono {k m : Nat} (hk : k ≤ m) : ∀ d : D, d.rb k = true → d.rb m = true
  | .non, _ => rfl
  | .bl _, _ => rfl
  | .int _, _ => rfl
  | .str _, _ => rfl
  | .tup ds, h => D.rbs_mono hk ds h
  | .fl ds, h => D.rbs_mono hk ds h
  | .fi ds, h => D.rbi_mono hk ds h
  | .ft ds, h => D.rbt_mono hk ds h
  | .fs ds, h => D.rbk_mono hk ds h
  | .ref i, h => by rw [D.rb, decide_eq_true_eq] at h ⊢; omega
  | .exc _, _ => rfl
  | .scr _, _ => rfl
theorem D.rbs_mono {k m : Nat} (hk : k ≤ m) : ∀ d : List D, D.rbs k d = true → D.rbs m d = true
  | [], _ => rfl
  | a :: r, h => by
    rw [D.rbs, Bool.and_eq_true] at h ⊢
    exact ⟨D.rb_mono hk a h.1, D.rbs_mono hk r h.2⟩
theorem D.rbi_mono {k m : Nat} (hk : k ≤ m) : ∀ d : List (Int × D), D.rbi k d = true → D.rbi m d = true
  | [], _ => rfl
  | (_, a) :: r, h => by
    rw [D.rbi, Bool.and_eq_true] at h ⊢
    exact ⟨D.rb_mono hk a h.1, D.rbi_mono hk r h.2⟩
theorem D.rbt_mono {k m : Nat} (hk : k ≤ m) : ∀ d : List (List Int × D), D.rbt k d = true → D.rbt m d = true
  | [], _ => rfl
  | (_, a) :: r, h => by
    rw [D.rbt, Bool.and_eq_true] at h ⊢
    exact ⟨D.rb_mono hk a h.1, D.rbt_mono hk r h.2⟩
theorem D.rbk_mono {k m : Nat} (hk : k ≤ m) : ∀ d : List (S × D), D.rbk k d = true → D.rbk m d = true
  | [], _ => rfl
  | (_, a) :: r, h => by
    rw [D.rbk, Bool.and_eq_true] at h ⊢
    exact ⟨D.rb_mono hk a h.1, D.rbk_mono hk r h.2⟩
end
theorem rbf_mono {k m : Nat} (hk : k ≤ m) : ∀ d : List (String × D), rbf k d = true → rbf m d = true
  | [], _ => rfl
  | (_, a) :: r, h => by
    rw [rbf, Bool.and_eq_true] at h ⊢
    exact ⟨D.rb_mono hk a h.1, rbf_mono hk r h.2⟩
theorem Ob.rb_mono {k m : Nat} (hk : k ≤ m) (o : Ob) (h : o.rb k = true) : o.rb m = true := by
  cases o with
  | lst ds => exact D.rbs_mono hk ds h
  | dI ds => exact D.rbi_mono hk ds h
  | dT ds => exact D.rbt_mono hk ds h
  | ins c fs => exact rbf_mono hk fs h
  | gone => rfl
theorem okh_app {h : Hs} {o : Ob} (ho : Okh h) (hr : o.rb (h.length + 1) = true) : Okh (h ++ [o]) := by
  unfold Okh at *
  rw [List.length_append, List.all_append, Bool.and_eq_true]
  refine ⟨?_, by simpa using hr⟩
  rw [List.all_eq_true] at ho ⊢
  exact fun x hx => Ob.rb_mono (by simp) x (ho x hx)
theorem okh_gone {h : Hs} (ho : Okh h) : Okh (h ++ [.gone]) := okh_app ho rfl
theorem okh_pre {h : Hs} {o : Ob} : (h ++ [o])[h.length]? = some o := by simp
theorem set_pre {h : Hs} {o o' : Ob} : (h ++ [o]).set h.length o' = h ++ [o'] := by simp
/-- what was made is forgotten -/
theorem cut_drop {h : Hs} {t : Hs} {d : D} (ho : Okh h) (hd : d.rb h.length = true) : cutR true h.length (.ok d (h ++ t)) = .ok d h := by
  unfold Okh at ho
  simp [cutR, hd, ho]
theorem cut_same {h h' : Hs} {d : D} (hl : h'.length = h.length) (ho : Okh h') (hd : d.rb h.length = true) : cutR true h.length (.ok d h') = .ok d h' := by
  unfold Okh at ho
  rw [← hl] at hd ⊢
  simp [cutR, hd, ho]
/-! ### first places -/
section
variable {κ : Type} [DecidableEq κ]
def insF (ks : List κ) (w : κ) : List κ := if w ∈ ks then ks else ks ++ [w]
def firsts (A : List κ) : List κ := A.foldl insF []
theorem firsts_nil : firsts ([] : List κ) = [] := rfl
theorem firsts_app (A B : List κ) : firsts (A ++ B) = B.foldl insF (firsts A) := by unfold firsts; rw [List.foldl_append]
theorem insF_mem {ks : List κ} {w x : κ} : x ∈ insF ks w ↔ x ∈ ks ∨ x = w := by
  unfold insF
  split
  · constructor
    · exact .inl
    · rintro (c | rfl)
      · exact c
      · assumption
  · simp
theorem foldF_mem {x : κ} : ∀ (B ks : List κ), x ∈ B.foldl insF ks ↔ x ∈ ks ∨ x ∈ B
  | [], ks => by simp
  | b :: B, ks => by rw [List.foldl_cons, foldF_mem B, insF_mem, List.mem_cons, or_assoc]
theorem firsts_mem {A : List κ} {x : κ} : x ∈ firsts A ↔ x ∈ A := by unfold firsts; rw [foldF_mem]; simp
theorem foldF_nodup : ∀ (B ks : List κ), ks.Nodup → (B.foldl insF ks).Nodup
  | [], ks, h => h
  | b :: B, ks, h => by
    refine foldF_nodup B _ ?_
    unfold insF
    split
    · exact h
    · rename_i c
      rw [List.nodup_append]
      exact ⟨h, by simp, fun a ha b hb e => by simp at hb; subst hb; subst e; exact c ha⟩
theorem firsts_nodup (A : List κ) : (firsts A).Nodup := foldF_nodup A [] List.nodup_nil
theorem foldF_rep (w : κ) : ∀ (c : Nat) (ks : List κ), 0 < c → (List.replicate c w).foldl insF ks = insF ks w
  | 1, ks, _ => rfl
  | c + 2, ks, _ => by
    rw [List.replicate_succ, List.foldl_cons, foldF_rep w (c + 1) _ (by omega)]
    unfold insF
    split
    · simp
    · simp
theorem firsts_rep (A : List κ) (w : κ) {c : Nat} (hc : 0 < c) : firsts (A ++ List.replicate c w) = insF (firsts A) w := by rw [firsts_app, foldF_rep w c _ hc]
theorem foldF_len : ∀ (B ks : List κ), ks.length ≤ (B.foldl insF ks).length
  | [], ks => Nat.le_refl _
  | b :: B, ks => by
    refine Nat.le_trans ?_ (foldF_len B _)
    unfold insF
    split
    · exact Nat.le_refl _
    · simp
theorem firsts_le (A B : List κ) : (firsts A).length ≤ (firsts (A ++ B)).length := by rw [firsts_app]; exact foldF_len _ _
/-- a dict by its outcomes -/
def bkF (F : κ → D) (A : List κ) : List (κ × D) := (firsts A).map fun x => (x, F x)
theorem dget_map (F : κ → D) (w : κ) : ∀ ks : List κ, dget (ks.map fun x => (x, F x)) w = if w ∈ ks then some (F w) else none
  | [] => rfl
  | k :: ks => by
    have ih := dget_map F w ks
    unfold dget at ih ⊢
    rw [List.map_cons, List.find?_cons]
    by_cases e : k = w
    · subst e; simp
    · have e' : ¬ w = k := fun z => e z.symm
      simp only [e, decide_false, List.mem_cons, e', false_or]
      exact ih
theorem dget_bk (F : κ → D) (A : List κ) (w : κ) : dget (bkF F A) w = if w ∈ A then some (F w) else none := by
  unfold bkF
  rw [dget_map]
  simp only [firsts_mem]
theorem dput_bk (F G : κ → D) (A : List κ) (w : κ) {c : Nat} (hc : 0 < c) (hv : ∀ x, x ≠ w → F x = G x) : dput (bkF F A) w (G w) = bkF G (A ++ List.replicate c w) := by
  unfold bkF dput
  rw [firsts_rep A w hc]
  unfold insF
  by_cases e : w ∈ firsts A
  · have h1 : ((firsts A).map fun x => (x, F x)).any (fun kv => decide (kv.1 = w)) = true := by
      rw [List.any_eq_true]
      exact ⟨(w, F w), List.mem_map.mpr ⟨w, e, rfl⟩, by simp⟩
    rw [if_pos h1, if_pos e, List.map_map]
    refine List.map_congr_left fun x hx => ?_
    simp only [Function.comp]
    by_cases c : x = w
    · subst c; simp
    · simp [c, hv x c]
  · have h1 : ¬ ((firsts A).map fun x => (x, F x)).any (fun kv => decide (kv.1 = w)) = true := by
      rw [List.any_eq_true]
      rintro ⟨kv, hk, hd⟩
      obtain ⟨x, hx, rfl⟩ := List.mem_map.mp hk
      simp at hd
      subst hd
      exact e hx
    rw [if_neg h1, if_neg e, List.map_append]
    congr 1
    refine List.map_congr_left fun x hx => ?_
    have : x ≠ w := fun z => e (z ▸ hx)
    rw [hv x this]
end
theorem rbi_bk {k : Nat} {F : Int → D} (hF : ∀ x, (F x).rb k = true) : ∀ ks : List Int, D.rbi k (ks.map fun x => (x, F x)) = true
  | [] => rfl
  | x :: ks => by rw [List.map_cons, D.rbi, hF x, rbi_bk hF ks]; rfl
theorem rbt_bk {k : Nat} {F : List Int → D} (hF : ∀ x, (F x).rb k = true) : ∀ ks : List (List Int), D.rbt k (ks.map fun x => (x, F x)) = true
  | [] => rfl
  | x :: ks => by rw [List.map_cons, D.rbt, hF x, rbt_bk hF ks]; rfl
/-- how often -/
abbrev ct {κ : Type} [DecidableEq κ] (A : List κ) (x : κ) : Nat := @List.count κ instBEqOfDecidableEq x A
/-- the program's book: shares of so many ways -/
def frF {κ : Type} [DecidableEq κ] (A : List κ) (T : Nat) (x : κ) : D := frD (fr (A.count x) T)
def bkP {κ : Type} [DecidableEq κ] (A : List κ) (T : Nat) : List (κ × D) := bkF (frF A T) A
/-- the law's book: ways -/
def ctF {κ : Type} [DecidableEq κ] (A : List κ) (x : κ) : D := .int (A.count x)
def bkL {κ : Type} [DecidableEq κ] (A : List κ) : List (κ × D) := bkF (ctF A) A
theorem rbi_bkP {k : Nat} (A : List Int) (T : Nat) : D.rbi k (bkP A T) = true := rbi_bk (fun _ => rb_frD) _
theorem rbt_bkP {k : Nat} (A : List (List Int)) (T : Nat) : D.rbt k (bkP A T) = true := rbt_bk (fun _ => rb_frD) _
theorem rbi_bkL {k : Nat} (A : List Int) : D.rbi k (bkL A) = true := rbi_bk (fun _ => rfl) _
@[simp] theorem rb_fi_bkP {k : Nat} (A : List Int) (T : Nat) : D.rb k (.fi (bkP A T)) = true := rbi_bkP A T
@[simp] theorem rb_ft_bkP {k : Nat} (A : List (List Int)) (T : Nat) : D.rb k (.ft (bkP A T)) = true := rbt_bkP A T
@[simp] theorem rb_fi_bkL {k : Nat} (A : List Int) : D.rb k (.fi (bkL A)) = true := rbi_bkL A
section
variable {κ : Type} [DecidableEq κ]
theorem bd_count {A : List κ} {T : Nat} (hA : A.length ≤ T) (hT : 0 < T) (hB : T < HB) (x : κ) : Bd HB (fr (A.count x) T) :=
  bd_fr (by omega) (by have := List.count_le_length (a := x) (l := A); omega) (by omega)
theorem bd_c {c T : Nat} (hc : c ≤ T) (hT : 0 < T) (hB : T < HB) : Bd HB (fr c T) := bd_fr (by omega) (by omega) (by omega)
theorem get_bkP {A : List κ} {T : Nat} (hT : 0 < T) (w : κ) : (dget (bkP A T) w).getD (frD (0, 1)) = frD (fr (A.count w) T) := by
  unfold bkP
  rw [dget_bk]
  split
  · rfl
  · rename_i c
    rw [List.count_eq_zero_of_not_mem c]
    show frD (0, 1) = frD (fr (0 : Nat) T)
    rw [show ((0 : Nat) : Int) = 0 from rfl, fr_0 (by omega)]
theorem put_bkP {A : List κ} {T : Nat} (hT : 0 < T) (w : κ) {c : Nat} (hc : 0 < c) : dput (bkP A T) w (frD (sumf (fr (A.count w) T) (fr c T))) = bkP (A ++ List.replicate c w) T := by
  have e : frD (sumf (fr (A.count w) T) (fr c T)) = frF (A ++ List.replicate c w) T w := by
    rw [sumf_same _ _ (by omega), frF, List.count_append, List.count_replicate_self, Int.natCast_add]
  rw [e]
  refine dput_bk _ _ A w hc fun x hx => ?_
  unfold frF
  rw [List.count_append, List.count_replicate, if_neg (by simpa using fun z : w = x => hx z.symm), Nat.add_zero]
theorem get_bkL {A : List κ} (w : κ) : (dget (bkL A) w).getD (.int 0) = .int (A.count w) := by
  unfold bkL
  rw [dget_bk]
  split
  · rfl
  · rename_i c
    rw [List.count_eq_zero_of_not_mem c]
    rfl
theorem put_bkL {A : List κ} (w : κ) {c : Nat} (hc : 0 < c) : dput (bkL A) w (.int (A.count w + c)) = bkL (A ++ List.replicate c w) := by
  have e : D.int (A.count w + c) = ctF (A ++ List.replicate c w) w := by
    rw [ctF, List.count_append, List.count_replicate_self, Int.natCast_add]
  rw [e]
  refine dput_bk _ _ A w hc fun x hx => ?_
  unfold ctF
  rw [List.count_append, List.count_replicate, if_neg (by simpa using fun z : w = x => hx z.symm), Nat.add_zero]
end
theorem bk_len {κ : Type} [DecidableEq κ] {F : κ → D} {A : List κ} : (bkF F A).length = (firsts A).length := by unfold bkF; simp
/-! ### added -/
theorem idx_dI {h : Hs} {kvs : List (Int × D)} {w : Int} {d : D} : mth .get (h ++ [.dI kvs]) (.ref h.length) [.int w, d] = .ok ((dget kvs w).getD d) (h ++ [.dI kvs]) := by
  simp [mth, dictAt]
theorem mok_dI {h : Hs} {kvs : List (Int × D)} : mok .get (h ++ [.dI kvs]) (.ref h.length) = true := by
  simp [mok]
theorem idx_dT {h : Hs} {kvs : List (List Int × D)} {w : List Int} {d : D} {ds : List D} (e : intsOf ds = some w) : mth .get (h ++ [.dT kvs]) (.ref h.length) [.tup ds, d] = .ok ((dget kvs w).getD d) (h ++ [.dT kvs]) := by
  simp [mth, dictAt, e]
theorem mok_dT {h : Hs} {kvs : List (List Int × D)} : mok .get (h ++ [.dT kvs]) (.ref h.length) = true := by
  simp [mok]
theorem set_dI {ρ : Env} {h : Hs} {kvs : List (Int × D)} {w : Int} {d : D} (hl : kvs.length < SZ) : siF ρ (h ++ [.dI kvs]) (.ref h.length) (.int w) d = .nx ρ (h ++ [.dI (dput kvs w d)]) := by
  simp only [SZ_eq] at hl
  simp [siF, setIx, hl]
theorem set_dT {ρ : Env} {h : Hs} {kvs : List (List Int × D)} {w : List Int} {d : D} {ds : List D} (e : intsOf ds = some w) (hl : kvs.length < SZ) : siF ρ (h ++ [.dT kvs]) (.ref h.length) (.tup ds) d = .nx ρ (h ++ [.dT (dput kvs w d)]) := by
  simp only [SZ_eq] at hl
  simp [siF, setIx, hl, e]
theorem intsOf_dints : ∀ l : List Int, intsOf (dints l) = some l
  | [] => rfl
  | x :: r => by
    have := intsOf_dints r
    unfold dints at this ⊢
    simp [intsOf, this]
theorem run_added (n : Nat) (A : List Int) (T : Nat) (w : Int) (c : Nat) (h : Hs) (ho : Okh h) (hc : 0 < c) (hA : A.length ≤ T) (hcT : c ≤ T) (hT : T < HB) (hl : (firsts A).length < SZ) :
    interp PU (n + 4) f_added [.ref h.length, .int w, frD (fr c T)] (h ++ [.dI (bkP A T)]) = .ok .non (h ++ [.dI (bkP (A ++ List.replicate c w) T)]) := by
  have hT0 : 0 < T := by omega
  have ho1 : ∀ B : List Int, Okh (h ++ [.dI (bkP B T)]) := fun B => okh_app ho (rbi_bkP B T)
  have e := run_sum_of n (fr (A.count w) T) (fr c T) _ (ho1 A) (bd_count hA hT0 hT w) (bd_c hcT hT0 hT)
  have p := put_bkP (A := A) hT0 w hc
  have g := get_bkP (A := A) hT0 w
  have s := fun (ρ : Env) d => set_dI (ρ := ρ) (h := h) (kvs := bkP A T) (w := w) (d := d) (by unfold bkP; rw [bk_len]; exact hl)
  have g2 := idx_dI (h := h) (kvs := bkP A T) (w := w) (d := frD (0, 1))
  rw [g] at g2
  show interp PU (n + 3 + 1) _ _ _ = _
  rw [interp_succ]
  generalize hq : frD (fr (A.count w) T) = q1 at *
  generalize hq2 : frD (fr c T) = q2 at *
  simp only [runF, U, d_added, b_added, enter, Ss.sem, sem_setI, E.sem, Es.sem]
  rw [show frD (0, 1) = .tup [.int 0, .int 1] from rfl] at g2
  have cs := cut_same (h := h ++ [.dI (bkP A T)]) (d := .non) (by simp) (ho1 (A ++ List.replicate c w)) rfl
  simp [mok_dI, g2, e, s, p] at cs ⊢
  exact cs
theorem run_addedT (n : Nat) (A : List (List Int)) (T : Nat) (w : List Int) (c : Nat) (h : Hs) (ho : Okh h) (hc : 0 < c) (hA : A.length ≤ T) (hcT : c ≤ T) (hT : T < HB) (hl : (firsts A).length < SZ) :
    interp PU (n + 4) f_added [.ref h.length, .tup (dints w), frD (fr c T)] (h ++ [.dT (bkP A T)]) = .ok .non (h ++ [.dT (bkP (A ++ List.replicate c w) T)]) := by
  have hT0 : 0 < T := by omega
  have ho1 : ∀ B : List (List Int), Okh (h ++ [.dT (bkP B T)]) := fun B => okh_app ho (rbt_bkP B T)
  have e := run_sum_of n (fr (ct A w) T) (fr c T) _ (ho1 A) (bd_count hA hT0 hT w) (bd_c hcT hT0 hT)
  have p := put_bkP (A := A) hT0 w hc
  have g := get_bkP (A := A) hT0 w
  have s := fun (ρ : Env) d => set_dT (ρ := ρ) (h := h) (kvs := bkP A T) (w := w) (d := d) (intsOf_dints w) (by unfold bkP; rw [bk_len]; exact hl)
  have g2 := idx_dT (h := h) (kvs := bkP A T) (w := w) (d := frD (0, 1)) (intsOf_dints w)
  rw [g] at g2
  show interp PU (n + 3 + 1) _ _ _ = _
  rw [interp_succ]
  generalize hq : frD (fr (ct A w) T) = q1 at *
  generalize hq2 : frD (fr c T) = q2 at *
  simp only [runF, U, d_added, b_added, enter, Ss.sem, sem_setI, E.sem, Es.sem]
  rw [show frD (0, 1) = .tup [.int 0, .int 1] from rfl] at g2
  have cs := cut_same (h := h ++ [.dT (bkP A T)]) (d := .non) (by simp) (ho1 (A ++ List.replicate c w)) rfl
  simp [mok_dT, g2, e, s, p] at cs ⊢
  exact cs
end Y

set_option linter.all false
set_option maxRecDepth 100000
set_option maxHeartbeats 4000000
namespace Y
/-! ### two books put together -/
def combI (w : Tw) (A B : List Int) (x : Int) (ys : List Int) : List Int := ys.flatMap fun y => List.replicate (A.count x * B.count y) (two w x y)
def comb (w : Tw) (A B : List Int) : List Int := (firsts A).flatMap fun x => combI w A B x (firsts B)
theorem flat_pre {α β : Type} (f : α → List β) {xs pre post : List α} {x : α} (e : xs = pre ++ x :: post) : ∃ t, xs.flatMap f = pre.flatMap f ++ f x ++ t := ⟨post.flatMap f, by rw [e]; simp [List.flatMap_append, List.flatMap_cons]⟩
theorem items_bk {F : Int → D} {A : List Int} : itemsOf (.fi (bkF F A)) = some ((firsts A).map D.int) := by
  unfold bkF
  simp [itemsOf]
theorem itemsT_bk {F : List Int → D} {A : List (List Int)} : itemsOf (.ft (bkF F A)) = some ((firsts A).map fun r => .tup (dints r)) := by
  unfold bkF
  simp [itemsOf]
theorem index_bk {h : Hs} {F : Int → D} {A : List Int} {x : Int} (hx : x ∈ A) : index h (.fi (bkF F A)) (.int x) = some (F x) := by
  show dget _ _ = _
  rw [dget_bk, if_pos hx]
theorem indexT_bk {h : Hs} {F : List Int → D} {A : List (List Int)} {x : List Int} (hx : x ∈ A) : index h (.ft (bkF F A)) (.tup (dints x)) = some (F x) := by
  show (intsOf (dints x)).bind _ = _
  rw [intsOf_dints, Option.bind_some, dget_bk, if_pos hx]
theorem dget_self {A : List Int} {x : Int} (hx : x ∈ A) : 0 < A.count x := List.count_pos_iff.mpr hx
theorem count_mul_le {A B : List Int} {T S : Nat} (hA : A.length ≤ T) (hB : B.length ≤ S) (x y : Int) : A.count x * B.count y ≤ T * S :=
  Nat.mul_le_mul (Nat.le_trans List.count_le_length hA) (Nat.le_trans List.count_le_length hB)
theorem run_put (n : Nat) (w : Tw) (A B : List Int) (T S : Nat) (h : Hs) (ho : Okh h) (hA : A.length ≤ T) (hB : B.length ≤ S) (hT : T < HB) (hS : S < HB) (hTS : T * S < HB) (hT0 : 0 < T) (hS0 : 0 < S) (hC : (comb w A B).length ≤ T * S)
    (hl : (firsts (comb w A B)).length < SZ) : interp PU (n + 5) f_put_together [.fi (bkP A T), .fi (bkP B S), .str (wd w.n)] h = .ok (.fi (bkP (comb w A B) (T * S))) h := by
  let ENV : Option D → Option D → Env := fun a b => [some (.fi (bkP A T)), some (.fi (bkP B S)), some (.str (wd w.n)), some (.ref h.length), a, b]
  let inner : Ss := (b_put_together.nth 1).body
  -- one step
  have step : ∀ (acc : List Int) (x y : Int) (t : List Int) (a b : Option D), x ∈ A → y ∈ B → comb w A B = acc ++ List.replicate (A.count x * B.count y) (two w x y) ++ t →
      forF (CfN (n + 4)) (.n 5) (inner.nth 0).body (.int y) (ENV (some (.int x)) b) (h ++ [.dI (bkP acc (T * S))]) = .nx (ENV (some (.int x)) (some (.int y))) (h ++ [.dI (bkP (acc ++ List.replicate (A.count x * B.count y) (two w x y)) (T * S))]) := by
    intro acc x y t a b hx hy e
    have hok : Okh (h ++ [.dI (bkP acc (T * S))]) := okh_app ho (rbi_bkP _ _)
    have hlen : acc.length ≤ T * S := by have := congrArg List.length e; simp at this; omega
    have hfl : (firsts acc).length < SZ := by
      have := firsts_le acc (List.replicate (A.count x * B.count y) (two w x y) ++ t)
      rw [← List.append_assoc, ← e] at this
      omega
    have e1 := run_of_two (n + 3) w x y _ hok
    have e2 := run_product (n + 1) (fr (A.count x) T) (fr (B.count y) S) _ hok (bd_count hA hT0 hT x) (bd_count hB hS0 hS y)
    rw [prodf_fr _ _ (by omega) (by omega), ← Int.natCast_mul, ← Int.natCast_mul] at e2
    have e3 := run_added n acc (T * S) (two w x y) (A.count x * B.count y) h ho (Nat.mul_pos (dget_self hx) (dget_self hy)) hlen (count_mul_le hA hB x y) hTS hfl
    have i1 : index (h ++ [.dI (bkP acc (T * S))]) (.fi (bkP A T)) (.int x) = some (frD (fr (A.count x) T)) := index_bk hx
    have i2 : index (h ++ [.dI (bkP acc (T * S))]) (.fi (bkP B S)) (.int y) = some (frD (fr (B.count y) S)) := index_bk hy
    rw [forF_n]
    simp only [inner, b_put_together, Ss.nth, St.body, ENV]
    simp only [Y.Ss.sem, sem_asg, sem_par, sem_asgT, sem_setI, sem_ex, sem_ret, sem_retN, sem_ite, sem_frzV, sem_brk, sem_pass, sem_for, Y.E.sem.eq_1, Y.E.sem.eq_2, Y.E.sem.eq_3, Y.E.sem.eq_4, Y.E.sem.eq_5, Y.E.sem.eq_6, Y.E.sem.eq_7, Y.E.sem.eq_8, Y.E.sem.eq_9, Y.E.sem.eq_10, Y.E.sem.eq_11, Y.E.sem.eq_12, Y.E.sem.eq_13, Y.E.sem.eq_14, Y.E.sem.eq_15, Y.E.sem.eq_16, Y.E.sem.eq_17, Y.E.sem.eq_18, Y.E.sem.eq_19, Y.E.sem.eq_20, Y.E.sem.eq_21, Y.E.sem.eq_22, Y.E.sem.eq_23, Y.E.sem.eq_24, Y.E.sem.eq_25, Y.E.sem.eq_26, Y.E.sem.eq_27, Y.E.sem.eq_28, Y.E.sem.eq_29, Y.E.sem.eq_30, Y.E.sem.eq_31, Y.E.sem.eq_32, Y.E.sem.eq_33, Y.E.sem.eq_34, Y.Es.sem, Y.T.sem, sem_seq, sem_rng1, sem_rng2, sem_enm, sem_zip, sem_lc, Y.Oe.sem, Y.Ts.semAnd, Y.Ts.semOr, Y.Es.semAnd, Y.Es.semOr, CfN_call, CfN_glo]
    generalize interp PU (n + 4) = I at *
    simp [-Int.natCast_mul, i1, i2, e1, e2, e3]
  have inn : ∀ (acc : List Int) (x : Int) (t : List Int) (b : Option D), x ∈ A → comb w A B = acc ++ combI w A B x (firsts B) ++ t → ∀ a : Option D,
      ∃ b', forF (CfN (n + 4)) (.n 4) inner (.int x) (ENV a b) (h ++ [.dI (bkP acc (T * S))]) = .nx (ENV (some (.int x)) b') (h ++ [.dI (bkP (acc ++ combI w A B x (firsts B)) (T * S))]) := by
    intro acc x t b hx e a
    obtain ⟨ρ', h', e1, b', rfl, rfl⟩ := loopS_pre D.int (forF (CfN (n + 4)) (.n 5) (inner.nth 0).body) (fun pre ρ h1 => ∃ b, ρ = ENV (some (.int x)) b ∧ h1 = h ++ [.dI (bkP (acc ++ combI w A B x pre) (T * S))]) (firsts B) (by
      intro pre y post e1 ρ h1 ⟨b, hρ, hh⟩
      subst hρ hh
      obtain ⟨t1, e2⟩ := flat_pre (fun y => List.replicate (A.count x * B.count y) (two w x y)) e1
      refine ⟨_, _, step (acc ++ combI w A B x pre) x y (t1 ++ t) none b hx (firsts_mem.mp (by rw [e1]; simp)) (by rw [e]; unfold combI; rw [e2]; simp), _, rfl, ?_⟩
      unfold combI
      simp [List.flatMap_append]) (ENV (some (.int x)) b) (h ++ [.dI (bkP acc (T * S))]) ⟨b, rfl, by simp [combI]⟩
    refine ⟨b', ?_⟩
    rw [forF_n]
    simp only [inner, b_put_together, Ss.nth, St.body, ENV] at e1 ⊢
    simp only [Y.Ss.sem, sem_asg, sem_par, sem_asgT, sem_setI, sem_ex, sem_ret, sem_retN, sem_ite, sem_frzV, sem_brk, sem_pass, sem_for, Y.E.sem.eq_1, Y.E.sem.eq_2, Y.E.sem.eq_3, Y.E.sem.eq_4, Y.E.sem.eq_5, Y.E.sem.eq_6, Y.E.sem.eq_7, Y.E.sem.eq_8, Y.E.sem.eq_9, Y.E.sem.eq_10, Y.E.sem.eq_11, Y.E.sem.eq_12, Y.E.sem.eq_13, Y.E.sem.eq_14, Y.E.sem.eq_15, Y.E.sem.eq_16, Y.E.sem.eq_17, Y.E.sem.eq_18, Y.E.sem.eq_19, Y.E.sem.eq_20, Y.E.sem.eq_21, Y.E.sem.eq_22, Y.E.sem.eq_23, Y.E.sem.eq_24, Y.E.sem.eq_25, Y.E.sem.eq_26, Y.E.sem.eq_27, Y.E.sem.eq_28, Y.E.sem.eq_29, Y.E.sem.eq_30, Y.E.sem.eq_31, Y.E.sem.eq_32, Y.E.sem.eq_33, Y.E.sem.eq_34, Y.Es.sem, Y.T.sem, sem_seq, sem_rng1, sem_rng2, sem_enm, sem_zip, sem_lc, Y.Oe.sem, Y.Ts.semAnd, Y.Ts.semOr, Y.Es.semAnd, Y.Es.semOr, CfN_call, CfN_glo]
    simp only [List.set_cons_succ, List.set_cons_zero, List.getElem?_cons_succ, List.getElem?_cons_zero, R.bind_ok, bkP, seq_ok items_bk, R.toS_ok] at e1 ⊢
    rw [e1]
    rfl
  obtain ⟨ρ', h', e1, a', b', rfl, rfl⟩ := loopS_pre D.int (forF (CfN (n + 4)) (.n 4) inner) (fun pre ρ h1 => ∃ a b, ρ = ENV a b ∧ h1 = h ++ [.dI (bkP (pre.flatMap fun x => combI w A B x (firsts B)) (T * S))]) (firsts A) (by
      intro pre x post e1 ρ h1 ⟨a, b, hρ, hh⟩
      subst hρ hh
      obtain ⟨t1, e2⟩ := flat_pre (fun x => combI w A B x (firsts B)) e1
      obtain ⟨b', e3⟩ := inn (pre.flatMap fun x => combI w A B x (firsts B)) x t1 b (firsts_mem.mp (by rw [e1]; simp)) e2 a
      exact ⟨_, _, e3, _, _, rfl, by simp [List.flatMap_append]⟩) (ENV none none) (h ++ [.dI (bkP [] (T * S))]) ⟨none, none, rfl, by simp⟩
  show interp PU (n + 4 + 1) _ _ _ = _
  rw [interp_succ]
  simp only [inner, b_put_together, Ss.nth, St.body, ENV] at e1
  simp only [runF, U, d_put_together, b_put_together, enter]
  simp only [Y.Ss.sem, sem_asg, sem_par, sem_asgT, sem_setI, sem_ex, sem_ret, sem_retN, sem_ite, sem_frzV, sem_brk, sem_pass, sem_for, Y.E.sem.eq_1, Y.E.sem.eq_2, Y.E.sem.eq_3, Y.E.sem.eq_4, Y.E.sem.eq_5, Y.E.sem.eq_6, Y.E.sem.eq_7, Y.E.sem.eq_8, Y.E.sem.eq_9, Y.E.sem.eq_10, Y.E.sem.eq_11, Y.E.sem.eq_12, Y.E.sem.eq_13, Y.E.sem.eq_14, Y.E.sem.eq_15, Y.E.sem.eq_16, Y.E.sem.eq_17, Y.E.sem.eq_18, Y.E.sem.eq_19, Y.E.sem.eq_20, Y.E.sem.eq_21, Y.E.sem.eq_22, Y.E.sem.eq_23, Y.E.sem.eq_24, Y.E.sem.eq_25, Y.E.sem.eq_26, Y.E.sem.eq_27, Y.E.sem.eq_28, Y.E.sem.eq_29, Y.E.sem.eq_30, Y.E.sem.eq_31, Y.E.sem.eq_32, Y.E.sem.eq_33, Y.E.sem.eq_34, Y.Es.sem, Y.T.sem, sem_seq, sem_rng1, sem_rng2, sem_enm, sem_zip, sem_lc, Y.Oe.sem, Y.Ts.semAnd, Y.Ts.semOr, Y.Es.semAnd, Y.Es.semOr, CfN_call, CfN_glo]
  simp only [bkP, items_bk] at e1 ⊢
  rw [show bkF (frF ([] : List Int) (T * S)) [] = [] from rfl] at e1
  simp [e1, seq_ok items_bk, fzF, freeze]
  exact cut_drop ho (rb_fi_bkP _ _)
end Y

set_option linter.all false
set_option maxRecDepth 100000
set_option maxHeartbeats 4000000
namespace Y
/-! ### outcomes, grouped -/
def grpL (A : List Int) : List Int := (firsts A).flatMap fun x => List.replicate (A.count x) x
theorem count_grp (A : List Int) (a : Int) : ∀ ks : List Int, ks.Nodup → (ks.flatMap fun x => List.replicate (A.count x) x).count a = if a ∈ ks then A.count a else 0
  | [], _ => rfl
  | k :: ks, h => by
    rw [List.nodup_cons] at h
    rw [List.flatMap_cons, List.count_append, count_grp A a ks h.2, List.count_replicate]
    by_cases e : a = k
    · subst e; simp [h.1]
    · have e' : ¬ k = a := fun z => e z.symm
      simp [e, e']
theorem grpL_perm (A : List Int) : (grpL A).Perm A := by
  rw [List.perm_iff_count]
  intro a
  unfold grpL
  rw [count_grp A a _ (firsts_nodup A)]
  split
  · rfl
  · rename_i c
    rw [firsts_mem] at c
    rw [List.count_eq_zero_of_not_mem c]
theorem grp_map {β : Type} (A : List Int) (f : Int → β) : ((firsts A).flatMap fun x => List.replicate (A.count x) (f x)) = (grpL A).map f := by
  unfold grpL
  rw [List.map_flatMap]
  simp
theorem grp_map_perm {β : Type} (A : List Int) (f : Int → β) : ((firsts A).flatMap fun x => List.replicate (A.count x) (f x)).Perm (A.map f) := by
  rw [grp_map]
  exact (grpL_perm A).map f
theorem flat_app_perm {α β : Type} (f g : α → List β) : ∀ l : List α, (l.flatMap fun x => f x ++ g x).Perm (l.flatMap f ++ l.flatMap g)
  | [] => .nil
  | x :: l => by
    simp only [List.flatMap_cons]
    have ih := flat_app_perm f g l
    calc f x ++ g x ++ l.flatMap (fun x => f x ++ g x) 
      _ |>.Perm (f x ++ g x ++ (l.flatMap f ++ l.flatMap g)) := ih.append_left _
      _ |>.Perm (f x ++ l.flatMap f ++ (g x ++ l.flatMap g)) := by
        simp only [List.append_assoc]
        refine List.Perm.append_left _ ?_
        rw [← List.append_assoc, ← List.append_assoc]
        exact (List.perm_append_comm).append_right _
theorem flat_perm {α β : Type} {f g : α → List β} : ∀ {l : List α}, (∀ x ∈ l, (f x).Perm (g x)) → (l.flatMap f).Perm (l.flatMap g)
  | [], _ => .nil
  | x :: l, h => by
    simp only [List.flatMap_cons]
    exact (h x (by simp)).append (flat_perm fun y hy => h y (by simp [hy]))
theorem perm_flat {α β : Type} (f : α → List β) {l m : List α} (h : l.Perm m) : (l.flatMap f).Perm (m.flatMap f) := by
  induction h with
  | nil => exact .nil
  | cons x _ ih => simp only [List.flatMap_cons]; exact ih.append_left _
  | swap x y l =>
    simp only [List.flatMap_cons]
    rw [← List.append_assoc, ← List.append_assoc]
    exact (List.perm_append_comm).append_right _
  | trans _ _ i j => exact i.trans j
theorem rep_mul (B : List Int) (t : Int → Int) : ∀ (n : Nat) (ks : List Int), (ks.flatMap fun y => List.replicate (n * B.count y) (t y)).Perm ((List.replicate n (ks.flatMap fun y => List.replicate (B.count y) (t y))).flatten)
  | 0, ks => by simp
  | n + 1, ks => by
    have e : (ks.flatMap fun y => List.replicate ((n + 1) * B.count y) (t y)) = ks.flatMap fun y => List.replicate (B.count y) (t y) ++ List.replicate (n * B.count y) (t y) := by
      congr 1
      funext y
      rw [List.replicate_append_replicate]
      congr 1
      rw [Nat.add_mul]; omega
    rw [e, List.replicate_succ, List.flatten_cons]
    exact (flat_app_perm _ _ ks).trans ((rep_mul B t n ks).append_left _)
def prodL (w : Tw) (A B : List Int) : List Int := A.flatMap fun x => B.map fun y => two w x y
theorem comb_perm (w : Tw) (A B : List Int) : (comb w A B).Perm (prodL w A B) := by
  unfold comb prodL
  have h1 : ∀ x, (combI w A B x (firsts B)).Perm ((List.replicate (A.count x) x).flatMap fun x => B.map fun y => two w x y) := by
    intro x
    unfold combI
    refine (rep_mul B (two w x) (A.count x) (firsts B)).trans ?_
    rw [grp_map, List.flatMap_replicate]
    generalize A.count x = n
    induction n with
    | zero => simp
    | succ n ih =>
      rw [List.replicate_succ, List.replicate_succ, List.flatten_cons, List.flatten_cons]
      exact ((grpL_perm B).map _).append ih
  refine (flat_perm fun x _ => h1 x).trans ?_
  have h2 := perm_flat (fun x => B.map fun y => two w x y) (grpL_perm A)
  unfold grpL at h2
  rw [List.flatMap_assoc] at h2
  exact h2
theorem prodL_len (w : Tw) (B : List Int) : ∀ A : List Int, (prodL w A B).length = A.length * B.length
  | [] => by simp [prodL]
  | x :: A => by
    have := prodL_len w B A
    unfold prodL at this ⊢
    rw [List.flatMap_cons, List.length_append, this, List.length_map, List.length_cons, Nat.add_mul]
    omega
theorem comb_len (w : Tw) (A B : List Int) : (comb w A B).length = A.length * B.length := by rw [(comb_perm w A B).length_eq, prodL_len]
theorem grp_len {β : Type} (A : List Int) (f : Int → β) : ((firsts A).flatMap fun x => List.replicate (A.count x) (f x)).length = A.length := by rw [(grp_map_perm A f).length_eq, List.length_map]
/-- the saying times a number -/
def timL (n : Int) (A : List Int) : List Int := (firsts A).flatMap fun x => List.replicate (A.count x) (x * n)
theorem timL_perm (n : Int) (A : List Int) : (timL n A).Perm (A.map fun x => x * n) := grp_map_perm A _
theorem timL_len (n : Int) (A : List Int) : (timL n A).length = A.length := grp_len A _
theorem comb_mem {w : Tw} {A B : List Int} {z : Int} : z ∈ comb w A B ↔ ∃ x ∈ A, ∃ y ∈ B, z = two w x y := by
  rw [(comb_perm w A B).mem_iff]
  unfold prodL
  simp only [List.mem_flatMap, List.mem_map]
  constructor
  · rintro ⟨x, hx, y, hy, e⟩; exact ⟨x, hx, y, hy, e.symm⟩
  · rintro ⟨x, hx, y, hy, e⟩; exact ⟨x, hx, y, hy, e.symm⟩
theorem timL_mem {n : Int} {A : List Int} {z : Int} : z ∈ timL n A ↔ ∃ x ∈ A, z = x * n := by
  rw [(timL_perm n A).mem_iff, List.mem_map]
  constructor
  · rintro ⟨x, hx, e⟩; exact ⟨x, hx, e.symm⟩
  · rintro ⟨x, hx, e⟩; exact ⟨x, hx, e.symm⟩
theorem nodup_lt : ∀ (n : Nat) (l : List Nat), l.Nodup → (∀ x ∈ l, x < n) → l.length ≤ n
  | 0, l, _, h => by
    cases l with
    | nil => exact Nat.le_refl _
    | cons x r => exact absurd (h x (by simp)) (by omega)
  | n + 1, l, hn, h => by
    by_cases c : n ∈ l
    · have h1 := nodup_lt n (l.erase n) (hn.erase n) fun x hx => by
        have h2 := h x (List.mem_of_mem_erase hx)
        have h3 : x ≠ n := fun z => by
          subst z
          exact (List.Nodup.not_mem_erase hn) hx
        omega
      rw [List.length_erase_of_mem c] at h1
      omega
    · have h1 := nodup_lt n l hn fun x hx => by
        have h2 := h x hx
        have h3 : x ≠ n := fun z => c (z ▸ hx)
        omega
      omega
/-- whole numbers, each once, between bounds, are not many -/
theorem nodup_len (N : Nat) : ∀ l : List Int, l.Nodup → (∀ x ∈ l, -(N : Int) ≤ x ∧ x ≤ N) → l.length ≤ 2 * N + 1 := by
  intro l hn hb
  have h1 : (l.map fun x : Int => (x + N).toNat).Nodup := by
    rw [List.nodup_iff_pairwise_ne, List.pairwise_map]
    refine (List.nodup_iff_pairwise_ne.mp hn).imp_of_mem ?_
    intro a b ha hb' hne e
    have := hb a ha
    have := hb b hb'
    exact hne (by omega)
  have h3 := nodup_lt (2 * N + 1) _ h1 fun y hy => by
    obtain ⟨x, hx, rfl⟩ := List.mem_map.mp hy
    have := hb x hx
    omega
  rw [List.length_map] at h3
  exact h3
end Y

set_option linter.all false
set_option maxRecDepth 100000
set_option maxHeartbeats 4000000
namespace Y
/-! ### one die of the program -/
def facI (x : Nat) : Int := (x : Int) + 1
/-- what a face adds; each face in s ^ k ways; M : what it comes to when thrown again -/
def pdSt (k w s : Nat) (l : Int) (M : List Int) (i : Nat) : List Int :=
  if w = 6 then List.replicate (s ^ k) (if l ≤ facI i then 1 else 0)
  else if (w = 4 ∧ facI i ≤ l) ∨ (w = 5 ∧ facI i = s ∧ 0 < l) then (firsts M).flatMap fun x => List.replicate (M.count x) (x + facI i * (if w = 5 then 1 else 0))
  else List.replicate (s ^ k) (facI i)
def pdF : Nat → Nat → Nat → Int → List Int
  | 0, w, s, l => (List.range s).flatMap (pdSt 0 w s l [0])
  | k + 1, w, s, l => (List.range s).flatMap (pdSt (k + 1) w s l (pdF k (if w = 5 then 5 else 1) s (l - 1)))
def pdM : Nat → Nat → Nat → Int → List Int
  | 0, _, _, _ => [0]
  | k + 1, w, s, l => pdF k (if w = 5 then 5 else 1) s (l - 1)
theorem pdF_eq (k w s : Nat) (l : Int) : pdF k w s l = (List.range s).flatMap (pdSt k w s l (pdM k w s l)) := by cases k <;> rfl
theorem flat_len {α : Type} (f : Nat → List α) (c : Nat) : ∀ n, (∀ i, i < n → (f i).length = c) → ((List.range n).flatMap f).length = n * c
  | 0, _ => by simp
  | n + 1, h => by
    rw [List.range_succ, List.flatMap_append, List.length_append, flat_len f c n (fun i hi => h i (by omega))]
    simp [h n (by omega), Nat.add_mul]
theorem pdSt_len {k w s : Nat} {l : Int} {M : List Int} (hM : M.length = s ^ k) (i : Nat) : (pdSt k w s l M i).length = s ^ k := by
  unfold pdSt
  split
  · simp
  · split
    · rw [grp_len, hM]
    · simp
theorem pdF_len : ∀ (k w s : Nat) (l : Int), (pdF k w s l).length = s ^ (k + 1)
  | 0, w, s, l => by
    rw [pdF, flat_len _ (s ^ 0) s]
    · simp
    · intro i _
      exact pdSt_len rfl i
  | k + 1, w, s, l => by
    rw [pdF, flat_len _ (s ^ (k + 1)) s]
    · rw [Nat.pow_succ s (k + 1), Nat.mul_comm]
    · intro i _
      exact pdSt_len (pdF_len k _ s _) i
theorem rng_faces (s : Nat) : rngD 1 ((s : Int) + 1) = (List.range s).map fun i => D.int (facI i) := by
  unfold rngD facI
  have : ((s : Int) + 1 - 1).toNat = s := by omega
  rw [this]
  refine List.map_congr_left fun i _ => ?_
  rw [Int.add_comm]
theorem fr_1s (s k : Nat) (hs : 0 < s) : fr 1 s = fr ((s ^ k : Nat) : Int) ((s ^ (k + 1) : Nat) : Int) := by
  have h1 : (0 : Int) < ((s ^ (k + 1) : Nat) : Int) := by have := Nat.pow_pos (n := k + 1) hs; omega
  refine fr_cross (by omega) h1 ?_
  rw [Nat.pow_succ]
  simp
theorem prod_1s (c s k : Nat) (hs : 0 < s) : prodf (fr (c : Int) ((s ^ (k + 1) : Nat) : Int)) (1, (s : Int)) = fr (c : Int) ((s ^ (k + 1 + 1) : Nat) : Int) := by
  have h1 : (0 : Int) < ((s ^ (k + 1) : Nat) : Int) := by have := Nat.pow_pos (n := k + 1) hs; omega
  have e : ((1 : Int), (s : Int)) = fr 1 s := by
    unfold fr
    simp
  rw [e, prodf_fr _ _ h1 (by omega), Int.mul_one, Nat.pow_succ s (k + 1), Int.natCast_mul]
/-- what the recursion needs -/
def dOk (k w : Nat) (l : Int) : Prop := (w = 4 → 1 ≤ k) ∧ (w = 5 → l ≤ k)
theorem pow_hb {s k : Nat} (hs : s ≤ 6) (hk : k ≤ 20) : s ^ k < HB := by
  have h1 : s ^ k ≤ 6 ^ k := Nat.pow_le_pow_left hs k
  have h2 : 6 ^ k ≤ 6 ^ 20 := Nat.pow_le_pow_right (by omega) hk
  have h3 : 6 ^ 20 < HB := by decide +kernel
  omega
theorem pair_1s (s : Nat) : frD (1, (s : Int)) = .tup [.int 1, .int s] := rfl
theorem one_fr (s : Nat) : ((1 : Int), (s : Int)) = fr 1 s := by unfold fr; simp
/-- keys are few -/
def Few (A : List Int) : Prop := ∀ x ∈ A, -(10000 : Int) ≤ x ∧ x ≤ 10000
theorem Few.len {A : List Int} (h : Few A) : (firsts A).length < SZ := by
  have := nodup_len 10000 (firsts A) (firsts_nodup A) fun x hx => h x (firsts_mem.mp hx)
  simp only [SZ_eq]; omega
theorem Few.pre {A B : List Int} (h : Few (A ++ B)) : Few A := fun x hx => h x (by simp [hx])
section
variable (w s : Nat) (l : Int) (h : Hs)
def odE (a b c : Option D) : Env := [some (.str (wd w)), some (.int s), some (.int l), some (.ref h.length), a, b, c]
def odB : Ss := (b_one_die.nth 1).body
end
theorem od_add {k w s : Nat} {l : Int} {h : Hs} (ho : Okh h) (hs1 : 1 ≤ s) (hs : s ≤ 6) (hk : k ≤ 3) (hf : Few (pdF k w s l)) (acc : List Int) (x : Int) (c : Nat) (t : List Int) (hc : 0 < c) (e : pdF k w s l = acc ++ List.replicate c x ++ t) (m : Nat) :
    interp PU (m + 4) f_added [.ref h.length, .int x, frD (fr c (s ^ (k + 1) : Nat))] (h ++ [.dI (bkP acc (s ^ (k + 1)))]) = .ok .non (h ++ [.dI (bkP (acc ++ List.replicate c x) (s ^ (k + 1)))]) := by
  have hT : s ^ (k + 1) < HB := pow_hb hs (by omega)
  have hl := congrArg List.length e
  rw [pdF_len] at hl
  simp at hl
  rw [e, List.append_assoc] at hf
  exact run_added m acc (s ^ (k + 1)) x c h ho hc (by omega) (by omega) hT hf.pre.len
theorem int_bl {h : Hs} (p : Prop) [Decidable p] : blt .int h [.bl (decide p)] = .ok (.int (if p then 1 else 0)) h := by
  show R.ok (D.int (if decide p = true then 1 else 0)) _ = _
  simp
theorem int_b {h : Hs} {b : Bool} : blt .int h [.bl b] = .ok (.int (if b = true then 1 else 0)) h := rfl
theorem od_simple {k w s : Nat} {l : Int} {h : Hs} (ho : Okh h) (hw : w < 13) (hs1 : 1 ≤ s) (hs : s ≤ 6) (hk : k ≤ 3) (hf : Few (pdF k w s l)) (m : Nat) (acc : List Int) (i : Nat) (t : List Int) (a b c : Option D)
    (hc : w = 6 ∨ ¬ ((w = 4 ∧ facI i ≤ l) ∨ (w = 5 ∧ facI i = s ∧ 0 < l))) (e : pdF k w s l = acc ++ pdSt k w s l (pdM k w s l) i ++ t) :
    forF (CfN (m + 4)) (.n 4) odB (.int (facI i)) (odE w s l h a b c) (h ++ [.dI (bkP acc (s ^ (k + 1)))]) = .nx (odE w s l h (some (.int (facI i))) b c) (h ++ [.dI (bkP (acc ++ pdSt k w s l (pdM k w s l) i) (s ^ (k + 1)))]) := by
  have hpos : 0 < s ^ k := Nat.pow_pos hs1
  by_cases c6 : w = 6
  · have es : pdSt k w s l (pdM k w s l) i = List.replicate (s ^ k) (if l ≤ facI i then 1 else 0) := by unfold pdSt; rw [if_pos c6]
    rw [es] at e ⊢
    have e1 := od_add ho hs1 hs hk hf acc _ _ t hpos e m
    rw [← fr_1s s k hs1, ← one_fr, pair_1s] at e1
    rw [forF_n]
    simp only [odB, b_one_die, Ss.nth, St.body, odE]
    simp only [Y.Ss.sem, sem_asg, sem_par, sem_asgT, sem_setI, sem_ex, sem_ret, sem_retN, sem_ite, sem_frzV, sem_brk, sem_pass, sem_for, Y.E.sem.eq_1, Y.E.sem.eq_2, Y.E.sem.eq_3, Y.E.sem.eq_4, Y.E.sem.eq_5, Y.E.sem.eq_6, Y.E.sem.eq_7, Y.E.sem.eq_8, Y.E.sem.eq_9, Y.E.sem.eq_10, Y.E.sem.eq_11, Y.E.sem.eq_12, Y.E.sem.eq_13, Y.E.sem.eq_14, Y.E.sem.eq_15, Y.E.sem.eq_16, Y.E.sem.eq_17, Y.E.sem.eq_18, Y.E.sem.eq_19, Y.E.sem.eq_20, Y.E.sem.eq_21, Y.E.sem.eq_22, Y.E.sem.eq_23, Y.E.sem.eq_24, Y.E.sem.eq_25, Y.E.sem.eq_26, Y.E.sem.eq_27, Y.E.sem.eq_28, Y.E.sem.eq_29, Y.E.sem.eq_30, Y.E.sem.eq_31, Y.E.sem.eq_32, Y.E.sem.eq_33, Y.E.sem.eq_34, Y.Es.sem, Y.T.sem, sem_seq, sem_rng1, sem_rng2, sem_enm, sem_zip, sem_lc, Y.Oe.sem, Y.Ts.semAnd, Y.Ts.semOr, Y.Es.semAnd, Y.Es.semOr, CfN_call, CfN_glo]
    subst c6
    generalize interp PU (m + 4) = I at *
    simp [int_bl, e1]
  · have w6 : ¬ wd w = wd 6 := fun z => c6 (by rwa [wd_inj hw (by omega)] at z)
    have cr := hc.resolve_left c6
    have es : pdSt k w s l (pdM k w s l) i = List.replicate (s ^ k) (facI i) := by unfold pdSt; rw [if_neg c6, if_neg cr]
    rw [es] at e ⊢
    have e1 := od_add ho hs1 hs hk hf acc _ _ t hpos e m
    rw [← fr_1s s k hs1, ← one_fr, pair_1s] at e1
    rw [forF_n]
    simp only [odB, b_one_die, Ss.nth, St.body, odE]
    simp only [Y.Ss.sem, sem_asg, sem_par, sem_asgT, sem_setI, sem_ex, sem_ret, sem_retN, sem_ite, sem_frzV, sem_brk, sem_pass, sem_for, Y.E.sem.eq_1, Y.E.sem.eq_2, Y.E.sem.eq_3, Y.E.sem.eq_4, Y.E.sem.eq_5, Y.E.sem.eq_6, Y.E.sem.eq_7, Y.E.sem.eq_8, Y.E.sem.eq_9, Y.E.sem.eq_10, Y.E.sem.eq_11, Y.E.sem.eq_12, Y.E.sem.eq_13, Y.E.sem.eq_14, Y.E.sem.eq_15, Y.E.sem.eq_16, Y.E.sem.eq_17, Y.E.sem.eq_18, Y.E.sem.eq_19, Y.E.sem.eq_20, Y.E.sem.eq_21, Y.E.sem.eq_22, Y.E.sem.eq_23, Y.E.sem.eq_24, Y.E.sem.eq_25, Y.E.sem.eq_26, Y.E.sem.eq_27, Y.E.sem.eq_28, Y.E.sem.eq_29, Y.E.sem.eq_30, Y.E.sem.eq_31, Y.E.sem.eq_32, Y.E.sem.eq_33, Y.E.sem.eq_34, Y.Es.sem, Y.T.sem, sem_seq, sem_rng1, sem_rng2, sem_enm, sem_zip, sem_lc, Y.Oe.sem, Y.Ts.semAnd, Y.Ts.semOr, Y.Es.semAnd, Y.Es.semOr, CfN_call, CfN_glo]
    generalize interp PU (m + 4) = I at *
    by_cases c4 : w = 4
    · have c5 : ¬ w = 5 := by omega
      have cl : ¬ facI i ≤ l := fun z => cr (.inl ⟨c4, z⟩)
      subst c4
      simp [int_bl, e1, cl]
    · by_cases c5 : w = 5
      · subst c5
        by_cases cs : facI i = s
        · have cl : ¬ 0 < l := fun z => cr (.inr ⟨rfl, cs, z⟩)
          rw [cs] at e1 ⊢
          simp [int_bl, e1, cl]
        · simp [int_bl, e1, cs]
      · simp [hw, c4, c5, c6, e1]
theorem od_again {k w s : Nat} {l : Int} {h : Hs} (ho : Okh h) (hw : w < 13) (hs1 : 1 ≤ s) (hs : s ≤ 6) (hk : k + 1 ≤ 3) (hf : Few (pdF (k + 1) w s l)) (m : Nat) (acc : List Int) (i : Nat) (t : List Int) (a b c : Option D)
    (cr : (w = 4 ∧ facI i ≤ l) ∨ (w = 5 ∧ facI i = s ∧ 0 < l)) (e : pdF (k + 1) w s l = acc ++ pdSt (k + 1) w s l (pdM (k + 1) w s l) i ++ t)
    (ih : ∀ h : Hs, Okh h → interp PU (m + 4) f_one_die [.str (wd (if w = 5 then 5 else 1)), .int s, .int (l - 1)] h = .ok (.fi (bkP (pdM (k + 1) w s l) (s ^ (k + 1)))) h) :
    ∃ b' c', forF (CfN (m + 4)) (.n 4) odB (.int (facI i)) (odE w s l h a b c) (h ++ [.dI (bkP acc (s ^ (k + 1 + 1)))]) = .nx (odE w s l h (some (.int (facI i))) b' c') (h ++ [.dI (bkP (acc ++ pdSt (k + 1) w s l (pdM (k + 1) w s l) i) (s ^ (k + 1 + 1)))]) := by
  have hpos : 0 < s ^ (k + 1) := Nat.pow_pos hs1
  have hok : ∀ acc, Okh (h ++ [.dI (bkP acc (s ^ (k + 1 + 1)))]) := fun acc => okh_app ho (rbi_bkP _ _)
  have c6 : ¬ w = 6 := by omega
  have hML : (pdM (k + 1) w s l).length = s ^ (k + 1) := pdF_len k _ s _
  generalize pdM (k + 1) w s l = M at *
  have es : pdSt (k + 1) w s l M i = (firsts M).flatMap fun x => List.replicate (M.count x) (x + facI i * (if w = 5 then 1 else 0)) := by unfold pdSt; rw [if_neg c6, if_pos cr]
  have ih' := ih _ (hok acc)
  have w5 : (decide (wd w = wd 5)) = decide (w = 5) := decide_eq_decide.mpr (by rw [wd_inj hw (by omega)])
  obtain ⟨ρ', h', e1, c', rfl, rfl⟩ := loopS_pre D.int (forF (CfN (m + 4)) (.n 6) (((((odB.nth 0).els).nth 0).body).nth 1).body)
      (fun pre ρ h1 => ∃ c, ρ = odE w s l h (some (.int (facI i))) (some (.fi (bkP M (s ^ (k + 1))))) c ∧ h1 = h ++ [.dI (bkP (acc ++ pre.flatMap fun x => List.replicate (M.count x) (x + facI i * (if w = 5 then 1 else 0))) (s ^ (k + 1 + 1)))]) (firsts M) (by
    intro pre x post e1 ρ h1 ⟨c, hρ, hh⟩
    subst hρ hh
    obtain ⟨t1, e2⟩ := flat_pre (fun x => List.replicate (M.count x) (x + facI i * (if w = 5 then 1 else 0))) e1
    have hx : x ∈ M := firsts_mem.mp (by rw [e1]; simp)
    have e3 : pdF (k + 1) w s l = (acc ++ pre.flatMap fun x => List.replicate (M.count x) (x + facI i * (if w = 5 then 1 else 0))) ++ List.replicate (M.count x) (x + facI i * (if w = 5 then 1 else 0)) ++ (t1 ++ t) := by rw [e, es, e2]; simp
    generalize hacc : (acc ++ pre.flatMap fun x => List.replicate (M.count x) (x + facI i * (if w = 5 then 1 else 0))) = acc' at *
    have a1 := od_add ho hs1 hs hk hf acc' _ _ _ (dget_self hx) e3 m
    have hB : s ^ (k + 1) < HB := pow_hb hs (by omega)
    have a2 := run_product (m + 1) (fr (M.count x) (s ^ (k + 1) : Nat)) (1, (s : Int)) _ (hok acc') (bd_count (Nat.le_of_eq hML) hpos hB x) ⟨by show 1 < HB; decide +kernel, by show (0 : Int) < s; omega, by
      show (s : Int).natAbs < HB
      have : 7 < HB := by decide +kernel
      omega⟩
    rw [prod_1s _ _ _ hs1, pair_1s] at a2
    have i1 : index (h ++ [.dI (bkP acc' (s ^ (k + 1 + 1)))]) (.fi (bkP M (s ^ (k + 1)))) (.int x) = some (frD (fr (M.count x) (s ^ (k + 1) : Nat))) := index_bk hx
    have bm : bop .mul (h ++ [.dI (bkP acc' (s ^ (k + 1 + 1)))]) (.int (facI i)) (.int (if w = 5 then 1 else 0)) = .ok (.int (facI i * (if w = 5 then 1 else 0))) (h ++ [.dI (bkP acc' (s ^ (k + 1 + 1)))]) := bop_mul (.inr (by split <;> decide))
    refine ⟨odE w s l h (some (.int (facI i))) (some (.fi (bkP M (s ^ (k + 1))))) (some (.int x)), h ++ [.dI (bkP (acc' ++ List.replicate (M.count x) (x + facI i * (if w = 5 then 1 else 0))) (s ^ (k + 1 + 1)))], ?_, _, rfl, by simp [← hacc, List.flatMap_append]⟩
    rw [forF_n]
    simp only [odB, b_one_die, Ss.nth, St.body, St.els, odE]
    simp only [Y.Ss.sem, sem_asg, sem_par, sem_asgT, sem_setI, sem_ex, sem_ret, sem_retN, sem_ite, sem_frzV, sem_brk, sem_pass, sem_for, Y.E.sem.eq_1, Y.E.sem.eq_2, Y.E.sem.eq_3, Y.E.sem.eq_4, Y.E.sem.eq_5, Y.E.sem.eq_6, Y.E.sem.eq_7, Y.E.sem.eq_8, Y.E.sem.eq_9, Y.E.sem.eq_10, Y.E.sem.eq_11, Y.E.sem.eq_12, Y.E.sem.eq_13, Y.E.sem.eq_14, Y.E.sem.eq_15, Y.E.sem.eq_16, Y.E.sem.eq_17, Y.E.sem.eq_18, Y.E.sem.eq_19, Y.E.sem.eq_20, Y.E.sem.eq_21, Y.E.sem.eq_22, Y.E.sem.eq_23, Y.E.sem.eq_24, Y.E.sem.eq_25, Y.E.sem.eq_26, Y.E.sem.eq_27, Y.E.sem.eq_28, Y.E.sem.eq_29, Y.E.sem.eq_30, Y.E.sem.eq_31, Y.E.sem.eq_32, Y.E.sem.eq_33, Y.E.sem.eq_34, Y.Es.sem, Y.T.sem, sem_seq, sem_rng1, sem_rng2, sem_enm, sem_zip, sem_lc, Y.Oe.sem, Y.Ts.semAnd, Y.Ts.semOr, Y.Es.semAnd, Y.Es.semOr, CfN_call, CfN_glo]
    generalize interp PU (m + 4) = I at *
    generalize frD (fr (M.count x) (s ^ (k + 1) : Nat)) = q1 at *
    generalize frD (fr (M.count x) (s ^ (k + 1 + 1) : Nat)) = q2 at *
    generalize hu : (if w = 5 then (1 : Int) else 0) = u at *
    simp [-Int.natCast_mul, -wd_inj, w5, int_bl, hu, bm, i1, a2, a1]) (odE w s l h (some (.int (facI i))) (some (.fi (bkP M (s ^ (k + 1))))) c) (h ++ [.dI (bkP acc (s ^ (k + 1 + 1)))]) ⟨c, rfl, by simp⟩
  refine ⟨some (.fi (bkP M (s ^ (k + 1)))), c', ?_⟩
  rw [es]
  rw [forF_n]
  simp only [odB, b_one_die, Ss.nth, St.body, St.els, odE] at e1 ⊢
  simp only [Y.Ss.sem, sem_asg, sem_par, sem_asgT, sem_setI, sem_ex, sem_ret, sem_retN, sem_ite, sem_frzV, sem_brk, sem_pass, sem_for, Y.E.sem.eq_1, Y.E.sem.eq_2, Y.E.sem.eq_3, Y.E.sem.eq_4, Y.E.sem.eq_5, Y.E.sem.eq_6, Y.E.sem.eq_7, Y.E.sem.eq_8, Y.E.sem.eq_9, Y.E.sem.eq_10, Y.E.sem.eq_11, Y.E.sem.eq_12, Y.E.sem.eq_13, Y.E.sem.eq_14, Y.E.sem.eq_15, Y.E.sem.eq_16, Y.E.sem.eq_17, Y.E.sem.eq_18, Y.E.sem.eq_19, Y.E.sem.eq_20, Y.E.sem.eq_21, Y.E.sem.eq_22, Y.E.sem.eq_23, Y.E.sem.eq_24, Y.E.sem.eq_25, Y.E.sem.eq_26, Y.E.sem.eq_27, Y.E.sem.eq_28, Y.E.sem.eq_29, Y.E.sem.eq_30, Y.E.sem.eq_31, Y.E.sem.eq_32, Y.E.sem.eq_33, Y.E.sem.eq_34, Y.Es.sem, Y.T.sem, sem_seq, sem_rng1, sem_rng2, sem_enm, sem_zip, sem_lc, Y.Oe.sem, Y.Ts.semAnd, Y.Ts.semOr, Y.Es.semAnd, Y.Es.semOr, CfN_call, CfN_glo]
  generalize interp PU (m + 4) = I at *
  simp only [bkP] at *
  rcases cr with ⟨c4, cl⟩ | ⟨c5, cs, cl⟩
  · subst c4
    simp at ih'
    simp [cl, int_b, ih', seq_ok items_bk]
    simp at e1
    rw [e1]
    rfl
  · subst c5
    rw [cs] at e1 ⊢
    simp at ih'
    simp [cl, int_b, ih', seq_ok items_bk]
    simp at e1
    rw [e1]
    rfl
theorem od_fin {k w s : Nat} {l : Int} {h : Hs} {n : Nat} (ho : Okh h) (hs : s ≤ 6)
    (hst : ∀ pre i post, List.range s = pre ++ i :: post → ∀ a b c : Option D, ∃ b' c', forF (CfN (n + k + 4)) (.n 4) odB (.int (facI i)) (odE w s l h a b c) (h ++ [.dI (bkP (pre.flatMap (pdSt k w s l (pdM k w s l))) (s ^ (k + 1)))]) = .nx (odE w s l h (some (.int (facI i))) b' c') (h ++ [.dI (bkP (pre.flatMap (pdSt k w s l (pdM k w s l)) ++ pdSt k w s l (pdM k w s l) i) (s ^ (k + 1)))])) :
    interp PU (n + k + 5) f_one_die [.str (wd w), .int s, .int l] h = .ok (.fi (bkP (pdF k w s l) (s ^ (k + 1)))) h := by
  obtain ⟨ρ', h', e1, a', b', c', rfl, rfl⟩ := loopS_pre (fun i => D.int (facI i)) (forF (CfN (n + k + 4)) (.n 4) odB) (fun pre ρ h1 => ∃ a b c, ρ = odE w s l h a b c ∧ h1 = h ++ [.dI (bkP (pre.flatMap (pdSt k w s l (pdM k w s l))) (s ^ (k + 1)))]) (List.range s) (by
    intro pre i post e1 ρ h1 ⟨a, b, c, hρ, hh⟩
    subst hρ hh
    obtain ⟨b', c', e2⟩ := hst pre i post e1 a b c
    exact ⟨_, _, e2, _, _, _, rfl, by simp [List.flatMap_append]⟩) (odE w s l h none none none) (h ++ [.dI (bkP [] (s ^ (k + 1)))]) ⟨none, none, none, rfl, by simp⟩
  rw [← pdF_eq] at e1
  show interp PU (n + k + 4 + 1) _ _ _ = _
  rw [interp_succ]
  generalize hk : n + k + 4 = K at *
  rw [show bkP ([] : List Int) (s ^ (k + 1)) = [] from rfl, ← rng_faces] at e1
  simp only [odB, b_one_die, Ss.nth, St.body, odE] at e1
  simp only [runF, U, d_one_die, b_one_die, enter]
  simp only [Y.Ss.sem, sem_asg, sem_par, sem_asgT, sem_setI, sem_ex, sem_ret, sem_retN, sem_ite, sem_frzV, sem_brk, sem_pass, sem_for, Y.E.sem.eq_1, Y.E.sem.eq_2, Y.E.sem.eq_3, Y.E.sem.eq_4, Y.E.sem.eq_5, Y.E.sem.eq_6, Y.E.sem.eq_7, Y.E.sem.eq_8, Y.E.sem.eq_9, Y.E.sem.eq_10, Y.E.sem.eq_11, Y.E.sem.eq_12, Y.E.sem.eq_13, Y.E.sem.eq_14, Y.E.sem.eq_15, Y.E.sem.eq_16, Y.E.sem.eq_17, Y.E.sem.eq_18, Y.E.sem.eq_19, Y.E.sem.eq_20, Y.E.sem.eq_21, Y.E.sem.eq_22, Y.E.sem.eq_23, Y.E.sem.eq_24, Y.E.sem.eq_25, Y.E.sem.eq_26, Y.E.sem.eq_27, Y.E.sem.eq_28, Y.E.sem.eq_29, Y.E.sem.eq_30, Y.E.sem.eq_31, Y.E.sem.eq_32, Y.E.sem.eq_33, Y.E.sem.eq_34, Y.Es.sem, Y.T.sem, sem_seq, sem_rng1, sem_rng2, sem_enm, sem_zip, sem_lc, Y.Oe.sem, Y.Ts.semAnd, Y.Ts.semOr, Y.Es.semAnd, Y.Es.semOr, CfN_call, CfN_glo]
  have c1 : Sm 1 := sm_of (by omega) (by omega)
  have c2 : Sm ((s : Int) + 1) := sm_of (by omega) (by omega)
  simp [rng2_ok c1 c2]
  rw [e1]
  simp [fzF, freeze]
  exact cut_drop ho (rb_fi_bkP _ _)
theorem run_one_die : ∀ (k w s : Nat) (l : Int) (n : Nat) (h : Hs), Okh h → w < 13 → 1 ≤ s → s ≤ 6 → k ≤ 3 → dOk k w l → (∀ k' w' l', k' ≤ k → Few (pdF k' w' s l')) → interp PU (n + k + 5) f_one_die [.str (wd w), .int s, .int l] h = .ok (.fi (bkP (pdF k w s l) (s ^ (k + 1)))) h := by
  intro k
  induction k with
  | zero =>
    intro w s l n h ho hw hs1 hs hk hd hf
    have hc : ∀ i, w = 6 ∨ ¬ ((w = 4 ∧ facI i ≤ l) ∨ (w = 5 ∧ facI i = s ∧ 0 < l)) := fun i => .inr fun z => by
      rcases z with ⟨c, _⟩ | ⟨c, _, c2⟩
      · have := hd.1 c; omega
      · have := hd.2 c; omega
    refine od_fin (k := 0) ho hs fun pre i post e1 a b c => ?_
    obtain ⟨t1, e2⟩ := flat_pre (pdSt 0 w s l (pdM 0 w s l)) e1
    exact ⟨b, c, od_simple ho hw hs1 hs hk (hf 0 w l (Nat.le_refl _)) n _ i t1 a b c (hc i) (by rw [pdF_eq, e2])⟩
  | succ k IH =>
    intro w s l n h ho hw hs1 hs hk hd hf
    refine od_fin (n := n) ho hs fun pre i post e1 a b c => ?_
    obtain ⟨t1, e2⟩ := flat_pre (pdSt (k + 1) w s l (pdM (k + 1) w s l)) e1
    by_cases cr : (w = 4 ∧ facI i ≤ l) ∨ (w = 5 ∧ facI i = s ∧ 0 < l)
    · refine od_again ho hw hs1 hs hk (hf (k + 1) w l (Nat.le_refl _)) (n + (k + 1)) _ i t1 a b c cr (by rw [pdF_eq, e2]) fun h' ho' => ?_
      have := IH (if w = 5 then 5 else 1) s (l - 1) n h' ho' (by split <;> omega) hs1 hs (by omega) ⟨fun z => by split at z <;> omega, fun z => by
        have c5 : w = 5 := by
          split at z
          · assumption
          · omega
        have := hd.2 c5; omega⟩ fun k' w' l' hk' => hf k' w' l' (by omega)
      rw [show n + k + 5 = n + (k + 1) + 4 by omega] at this
      exact this
    · exact ⟨b, c, od_simple ho hw hs1 hs hk (hf (k + 1) w l (Nat.le_refl _)) (n + (k + 1)) _ i t1 a b c (.inr cr) (by rw [pdF_eq, e2])⟩
end Y

set_option linter.all false
set_option maxRecDepth 100000
set_option maxHeartbeats 4000000
namespace Y
/-! ### kept dice of the program -/
def kpI (R : List (List Int)) (row : List Int) (is : List Nat) : List (List Int) := is.flatMap fun i => List.replicate (ct R row) (sortI (row ++ [facI i]))
def kpR (s : Nat) : Nat → List (List Int)
  | 0 => [[]]
  | t + 1 => (firsts (kpR s t)).flatMap fun row => kpI (kpR s t) row (List.range s)
def kpS (hi : Bool) (m k : Nat) (row : List Int) : Int := if hi = true then (cut row (some ((m : Int) - k)) none).sum else (cut row none (some (k : Int))).sum
def kpO (hi : Bool) (m s k : Nat) : List Int := (firsts (kpR s m)).flatMap fun row => List.replicate (ct (kpR s m) row) (kpS hi m k row)
theorem sumc_firsts {κ : Type} [DecidableEq κ] : ∀ A : List κ, ((firsts A).map fun x => ct A x).sum = A.length := by
  intro A
  have h1 : ∀ (ks : List κ), ks.Nodup → (ks.map fun x => ct A x).sum = A.countP fun a => decide (a ∈ ks) := by
    intro ks hn
    induction ks with
    | nil => simp
    | cons k ks ih =>
      rw [List.nodup_cons] at hn
      rw [List.map_cons, List.sum_cons, ih hn.2]
      clear ih
      simp only [List.mem_cons, Bool.decide_or]
      induction A with
      | nil => rfl
      | cons a A ihA =>
        rw [ct, List.count_cons, List.countP_cons, List.countP_cons]
        rw [ct] at ihA
        by_cases e : a = k
        · subst e
          simp [hn.1] at ihA ⊢; omega
        · simp [e] at ihA ⊢; split <;> omega
  rw [h1 _ (firsts_nodup A)]
  rw [List.countP_eq_length]
  intro a ha
  simpa [firsts_mem] using ha
theorem flat_sum {α β : Type} (f : α → List β) : ∀ l : List α, (l.flatMap f).length = (l.map fun x => (f x).length).sum
  | [] => rfl
  | x :: l => by rw [List.flatMap_cons, List.length_append, flat_sum f l]; rfl
theorem kpI_len (R : List (List Int)) (row : List Int) (s : Nat) : (kpI R row (List.range s)).length = s * ct R row := by
  unfold kpI
  exact flat_len _ _ s fun i _ => List.length_replicate
theorem sum_mul {α : Type} (f : α → Nat) (s : Nat) : ∀ l : List α, (l.map fun x => s * f x).sum = s * (l.map f).sum
  | [] => by simp
  | x :: l => by simp only [List.map_cons, List.sum_cons, sum_mul f s l, Nat.mul_add]
theorem kpR_len (s : Nat) : ∀ t, (kpR s t).length = s ^ t
  | 0 => rfl
  | t + 1 => by
    rw [kpR, flat_sum]
    simp only [kpI_len]
    rw [sum_mul, sumc_firsts, kpR_len s t, Nat.pow_succ, Nat.mul_comm]
theorem kpO_len (hi : Bool) (m s k : Nat) : (kpO hi m s k).length = s ^ m := by
  unfold kpO
  rw [flat_sum]
  simp only [List.length_replicate]
  rw [sumc_firsts, kpR_len]
theorem firsts_len_le {κ : Type} [DecidableEq κ] (A : List κ) : (firsts A).length ≤ A.length := by
  have h1 : ∀ (B ks : List κ), (B.foldl insF ks).length ≤ ks.length + B.length := by
    intro B
    induction B with
    | nil => intro ks; simp
    | cons b B ih =>
      intro ks
      rw [List.foldl_cons, List.length_cons]
      have := ih (insF ks b)
      have h2 : (insF ks b).length ≤ ks.length + 1 := by unfold insF; split <;> simp
      omega
  have := h1 A []
  simpa [firsts] using this
theorem prod_1 (c s T : Nat) (hs : 0 < s) (hT : 0 < T) : prodf (fr (c : Int) (T : Int)) (1, (s : Int)) = fr (c : Int) ((T * s : Nat) : Int) := by
  have e : ((1 : Int), (s : Int)) = fr 1 s := by
    unfold fr
    simp
  rw [e, prodf_fr _ _ (by omega) (by omega), Int.mul_one, Int.natCast_mul]
theorem rng0 (m : Nat) : rngD 0 (m : Int) = (List.range m).map fun i => D.int (i : Nat) := by
  unfold rngD
  rw [Int.sub_zero, Int.toNat_natCast]
  refine List.map_congr_left fun i _ => ?_
  rw [Int.zero_add]
theorem dints_app (a b : List Int) : dints a ++ dints b = dints (a ++ b) := by unfold dints; simp
theorem dints_len (a : List Int) : (dints a).length = a.length := by unfold dints; simp
theorem cat_dints {h : Hs} {row : List Int} {x : Int} (hl : row.length < 1000) : bop .add h (.tup (dints row)) (.tup [.int x]) = .ok (.tup (dints (row ++ [x]))) h := by
  have : (dints row).length + [D.int x].length ≤ SZ := by rw [dints_len]; simp; omega
  simp only [bop, opAdd, if_pos this]
  rw [show [D.int x] = dints [x] from rfl, dints_app]
theorem sorted_dints {h : Hs} {row : List Int} : blt .sorted h [.tup (dints row)] = .ok (.fl (dints (sortI row))) h := by
  simp [blt, sortD, seqOf, intsOf_dints]
theorem sorted_fdints {h : Hs} {row : List Int} : blt .sorted h [.fl (dints row)] = .ok (.fl (dints (sortI row))) h := by
  simp [blt, sortD, seqOf, intsOf_dints]
theorem tuple_fl {h : Hs} {ds : List D} : blt .tuple h [.fl ds] = .ok (.tup ds) h := rfl
theorem sum_dints {h : Hs} {row : List Int} : blt .sum h [.tup (dints row)] = .ok (.int row.sum) h := by
  simp [blt, seqOf, intsOf_dints]
theorem sum_fdints {h : Hs} {row : List Int} : blt .sum h [.fl (dints row)] = .ok (.int row.sum) h := by
  simp [blt, seqOf, intsOf_dints]
theorem cut_map (row : List Int) (lo hi : Option Int) : cut (dints row) lo hi = dints (cut row lo hi) := by
  unfold cut dints
  simp [List.map_take, List.map_drop]
theorem slice_dints {row : List Int} {lo hi : Option Int} : slice (.tup (dints row)) lo hi = some (.tup (dints (cut row lo hi))) := by
  rw [← cut_map]; rfl
theorem slice_fdints {row : List Int} {lo hi : Option Int} : slice (.fl (dints row)) lo hi = some (.fl (dints (cut row lo hi))) := by
  rw [← cut_map]; rfl
theorem sortI_len : ∀ l : List Int, (sortI l).length = l.length := by
  have h1 : ∀ (x : Int) (l : List Int), (insI x l).length = l.length + 1 := by
    intro x l
    induction l with
    | nil => rfl
    | cons y r ih =>
      rw [insI]
      split
      · rfl
      · simp [ih]
  intro l
  induction l with
  | nil => rfl
  | cons x r ih => rw [sortI, h1, ih]; rfl
theorem kpR_row (s : Nat) : ∀ (t : Nat) (row : List Int), row ∈ kpR s t → row.length = t
  | 0, row, h => by
    simp [kpR] at h
    subst h; rfl
  | t + 1, row, h => by
    rw [kpR] at h
    simp only [kpI, List.mem_flatMap, List.mem_replicate] at h
    obtain ⟨r, hr, i, _, _, rfl⟩ := h
    have := kpR_row s t r (firsts_mem.mp hr)
    rw [sortI_len]; simp [this]
theorem gone_len (h : Hs) (t : Nat) : (h ++ List.replicate t Ob.gone).length = h.length + t := by simp
theorem okh_gones {h : Hs} (ho : Okh h) : ∀ t, Okh (h ++ List.replicate t Ob.gone)
  | 0 => by simpa using ho
  | t + 1 => by
    rw [List.replicate_succ', ← List.append_assoc]
    exact okh_gone (okh_gones ho t)
section
variable (hi : Bool) (m s k : Nat)
def kE (a b c d e f g : Option D) : Env := [some (.str (wd (if hi = true then 2 else 3))), some (.int m), some (.int s), some (.int k), a, b, c, d, e, f, g]
def kB : Ss := (b_kept_shares.nth 1).body
end
theorem mem_pos {κ : Type} [DecidableEq κ] {A : List κ} {x : κ} (hx : x ∈ A) : 0 < ct A x := by
  unfold ct
  rw [List.count_pos_iff]
  exact hx
theorem kp_face {hi : Bool} {m s k t : Nat} {h : Hs} (ho : Okh h) (hs1 : 1 ≤ s) (hs : s ≤ 6) (ht : t < 3) (n : Nat) (acc : List (List Int)) (row : List Int) (i : Nat) (tl : List (List Int)) (b e f g : Option D) (hr : row ∈ kpR s t)
    (e0 : kpR s (t + 1) = acc ++ List.replicate (ct (kpR s t) row) (sortI (row ++ [facI i])) ++ tl) :
    forF (CfN (n + 4)) (.n 8) (((kB.nth 1).body).nth 0).body (.int (facI i)) (kE hi m s k (some (.ft (bkP (kpR s t) (s ^ t)))) b (some (.ref h.length)) (some (.tup (dints row))) e f g) (h ++ [.dT (bkP acc (s ^ (t + 1)))]) =
      .nx (kE hi m s k (some (.ft (bkP (kpR s t) (s ^ t)))) b (some (.ref h.length)) (some (.tup (dints row))) (some (.int (facI i))) f g) (h ++ [.dT (bkP (acc ++ List.replicate (ct (kpR s t) row) (sortI (row ++ [facI i]))) (s ^ (t + 1)))]) := by
  have hpos : 0 < s ^ t := Nat.pow_pos hs1
  have hok : Okh (h ++ [.dT (bkP acc (s ^ (t + 1)))]) := okh_app ho (rbt_bkP _ _)
  have hl := congrArg List.length e0
  rw [kpR_len] at hl
  simp at hl
  have hT : s ^ (t + 1) < HB := pow_hb hs (by omega)
  have h216 : s ^ (t + 1) ≤ 6 ^ 20 := by
    have h1 : s ^ (t + 1) ≤ 6 ^ (t + 1) := Nat.pow_le_pow_left hs _
    have h2 : 6 ^ (t + 1) ≤ 6 ^ 20 := Nat.pow_le_pow_right (by omega) (by omega)
    omega
  have h217 : s ^ (t + 1) ≤ 216 := by
    have h1 : s ^ (t + 1) ≤ 6 ^ (t + 1) := Nat.pow_le_pow_left hs _
    have h2 : 6 ^ (t + 1) ≤ 6 ^ 3 := Nat.pow_le_pow_right (by omega) (by omega)
    omega
  have hrl := kpR_row s t row hr
  have a1 := run_addedT n acc (s ^ (t + 1)) (sortI (row ++ [facI i])) (ct (kpR s t) row) h ho (mem_pos hr) (by omega) (by omega) hT (by have := firsts_len_le acc; simp only [SZ_eq]; omega)
  have a2 := run_product (n + 1) (fr (ct (kpR s t) row) (s ^ t : Nat)) (1, (s : Int)) _ hok (bd_count (Nat.le_of_eq (kpR_len s t)) hpos (pow_hb hs (by omega)) row) ⟨by show 1 < HB; decide +kernel, by show (0 : Int) < s; omega, by
      show (s : Int).natAbs < HB
      have : 7 < HB := by decide +kernel
      omega⟩
  rw [prod_1 _ _ _ hs1 hpos, pair_1s, ← Nat.pow_succ] at a2
  have i1 : index (h ++ [.dT (bkP acc (s ^ (t + 1)))]) (.ft (bkP (kpR s t) (s ^ t))) (.tup (dints row)) = some (frD (fr (ct (kpR s t) row) (s ^ t : Nat))) := indexT_bk hr
  rw [forF_n]
  simp only [kB, b_kept_shares, Ss.nth, St.body, kE]
  simp only [Y.Ss.sem, sem_asg, sem_par, sem_asgT, sem_setI, sem_ex, sem_ret, sem_retN, sem_ite, sem_frzV, sem_brk, sem_pass, sem_for, Y.E.sem.eq_1, Y.E.sem.eq_2, Y.E.sem.eq_3, Y.E.sem.eq_4, Y.E.sem.eq_5, Y.E.sem.eq_6, Y.E.sem.eq_7, Y.E.sem.eq_8, Y.E.sem.eq_9, Y.E.sem.eq_10, Y.E.sem.eq_11, Y.E.sem.eq_12, Y.E.sem.eq_13, Y.E.sem.eq_14, Y.E.sem.eq_15, Y.E.sem.eq_16, Y.E.sem.eq_17, Y.E.sem.eq_18, Y.E.sem.eq_19, Y.E.sem.eq_20, Y.E.sem.eq_21, Y.E.sem.eq_22, Y.E.sem.eq_23, Y.E.sem.eq_24, Y.E.sem.eq_25, Y.E.sem.eq_26, Y.E.sem.eq_27, Y.E.sem.eq_28, Y.E.sem.eq_29, Y.E.sem.eq_30, Y.E.sem.eq_31, Y.E.sem.eq_32, Y.E.sem.eq_33, Y.E.sem.eq_34, Y.Es.sem, Y.T.sem, sem_seq, sem_rng1, sem_rng2, sem_enm, sem_zip, sem_lc, Y.Oe.sem, Y.Ts.semAnd, Y.Ts.semOr, Y.Es.semAnd, Y.Es.semOr, CfN_call, CfN_glo]
  generalize interp PU (n + 4) = I at *
  generalize frD (fr (ct (kpR s t) row) (s ^ t : Nat)) = q1 at *
  generalize frD (fr (ct (kpR s t) row) (s ^ (t + 1) : Nat)) = q2 at *
  have c1 := fun h : Hs => cat_dints (h := h) (row := row) (x := facI i) (by omega)
  simp [c1, sorted_dints, tuple_fl, i1, a2, a1]
theorem kp_row {hi : Bool} {m s k t : Nat} {h : Hs} (ho : Okh h) (hs1 : 1 ≤ s) (hs : s ≤ 6) (ht : t < 3) (n : Nat) (acc : List (List Int)) (row : List Int) (tl : List (List Int)) (b d e f g : Option D) (hr : row ∈ kpR s t)
    (e0 : kpR s (t + 1) = acc ++ kpI (kpR s t) row (List.range s) ++ tl) : ∃ e',
    forF (CfN (n + 4)) (.n 7) ((kB.nth 1).body) (.tup (dints row)) (kE hi m s k (some (.ft (bkP (kpR s t) (s ^ t)))) b (some (.ref h.length)) d e f g) (h ++ [.dT (bkP acc (s ^ (t + 1)))]) =
      .nx (kE hi m s k (some (.ft (bkP (kpR s t) (s ^ t)))) b (some (.ref h.length)) (some (.tup (dints row))) e' f g) (h ++ [.dT (bkP (acc ++ kpI (kpR s t) row (List.range s)) (s ^ (t + 1)))]) := by
  obtain ⟨ρ', h', e1, e', rfl, rfl⟩ := loopS_pre (fun i => D.int (facI i)) (forF (CfN (n + 4)) (.n 8) (((kB.nth 1).body).nth 0).body) (fun pre ρ h1 => ∃ e, ρ = kE hi m s k (some (.ft (bkP (kpR s t) (s ^ t)))) b (some (.ref h.length)) (some (.tup (dints row))) e f g ∧ h1 = h ++ [.dT (bkP (acc ++ kpI (kpR s t) row pre) (s ^ (t + 1)))]) (List.range s) (by
    intro pre i post e1 ρ h1 ⟨e, hρ, hh⟩
    subst hρ hh
    obtain ⟨t1, e2⟩ := flat_pre (fun i => List.replicate (ct (kpR s t) row) (sortI (row ++ [facI i]))) e1
    refine ⟨_, _, kp_face ho hs1 hs ht n _ row i (t1 ++ tl) b e f g hr (by rw [e0]; unfold kpI; rw [e2]; simp), _, rfl, ?_⟩
    unfold kpI
    simp [List.flatMap_append]) (kE hi m s k (some (.ft (bkP (kpR s t) (s ^ t)))) b (some (.ref h.length)) (some (.tup (dints row))) e f g) (h ++ [.dT (bkP acc (s ^ (t + 1)))]) ⟨e, rfl, by simp [kpI]⟩
  refine ⟨e', ?_⟩
  rw [← rng_faces] at e1
  rw [forF_n]
  simp only [kB, b_kept_shares, Ss.nth, St.body, kE] at e1 ⊢
  simp only [Y.Ss.sem, sem_asg, sem_par, sem_asgT, sem_setI, sem_ex, sem_ret, sem_retN, sem_ite, sem_frzV, sem_brk, sem_pass, sem_for, Y.E.sem.eq_1, Y.E.sem.eq_2, Y.E.sem.eq_3, Y.E.sem.eq_4, Y.E.sem.eq_5, Y.E.sem.eq_6, Y.E.sem.eq_7, Y.E.sem.eq_8, Y.E.sem.eq_9, Y.E.sem.eq_10, Y.E.sem.eq_11, Y.E.sem.eq_12, Y.E.sem.eq_13, Y.E.sem.eq_14, Y.E.sem.eq_15, Y.E.sem.eq_16, Y.E.sem.eq_17, Y.E.sem.eq_18, Y.E.sem.eq_19, Y.E.sem.eq_20, Y.E.sem.eq_21, Y.E.sem.eq_22, Y.E.sem.eq_23, Y.E.sem.eq_24, Y.E.sem.eq_25, Y.E.sem.eq_26, Y.E.sem.eq_27, Y.E.sem.eq_28, Y.E.sem.eq_29, Y.E.sem.eq_30, Y.E.sem.eq_31, Y.E.sem.eq_32, Y.E.sem.eq_33, Y.E.sem.eq_34, Y.Es.sem, Y.T.sem, sem_seq, sem_rng1, sem_rng2, sem_enm, sem_zip, sem_lc, Y.Oe.sem, Y.Ts.semAnd, Y.Ts.semOr, Y.Es.semAnd, Y.Es.semOr, CfN_call, CfN_glo]
  have c1 : Sm 1 := sm_of (by omega) (by omega)
  have c2 : Sm ((s : Int) + 1) := sm_of (by omega) (by omega)
  simp [rng2_ok c1 c2]
  rw [e1]
  rfl
theorem kp_turn {hi : Bool} {m s k t : Nat} {h : Hs} (ho : Okh h) (hs1 : 1 ≤ s) (hs : s ≤ 6) (ht : t < 3) (n : Nat) (b c d e f g : Option D) (x : D) : ∃ c' d' e',
    forF (CfN (n + 4)) (.n 5) kB x (kE hi m s k (some (.ft (bkP (kpR s t) (s ^ t)))) b c d e f g) h =
      .nx (kE hi m s k (some (.ft (bkP (kpR s (t + 1)) (s ^ (t + 1))))) (some x) c' d' e' f g) (h ++ [.gone]) := by
  obtain ⟨ρ', h', e1, d', e', rfl, rfl⟩ := loopS_pre (fun row => D.tup (dints row)) (forF (CfN (n + 4)) (.n 7) ((kB.nth 1).body)) (fun pre ρ h1 => ∃ d e, ρ = kE hi m s k (some (.ft (bkP (kpR s t) (s ^ t)))) (some x) (some (.ref h.length)) d e f g ∧ h1 = h ++ [.dT (bkP (pre.flatMap fun row => kpI (kpR s t) row (List.range s)) (s ^ (t + 1)))]) (firsts (kpR s t)) (by
    intro pre row post e1 ρ h1 ⟨d, e, hρ, hh⟩
    subst hρ hh
    obtain ⟨t1, e2⟩ := flat_pre (fun row => kpI (kpR s t) row (List.range s)) e1
    obtain ⟨e', e3⟩ := kp_row (hi := hi) (m := m) (k := k) ho hs1 hs ht n _ row t1 (some x) d e f g (firsts_mem.mp (by rw [e1]; simp)) (by rw [kpR]; exact e2)
    exact ⟨_, _, e3, _, _, rfl, by simp [List.flatMap_append]⟩) (kE hi m s k (some (.ft (bkP (kpR s t) (s ^ t)))) (some x) (some (.ref h.length)) d e f g) (h ++ [.dT (bkP [] (s ^ (t + 1)))]) ⟨d, e, rfl, by simp⟩
  refine ⟨some (.ft (bkP (kpR s (t + 1)) (s ^ (t + 1)))), d', e', ?_⟩
  rw [show ((firsts (kpR s t)).flatMap fun row => kpI (kpR s t) row (List.range s)) = kpR s (t + 1) from rfl] at e1
  rw [forF_n]
  simp only [kB, b_kept_shares, Ss.nth, St.body, kE] at e1 ⊢
  simp only [Y.Ss.sem, sem_asg, sem_par, sem_asgT, sem_setI, sem_ex, sem_ret, sem_retN, sem_ite, sem_frzV, sem_brk, sem_pass, sem_for, Y.E.sem.eq_1, Y.E.sem.eq_2, Y.E.sem.eq_3, Y.E.sem.eq_4, Y.E.sem.eq_5, Y.E.sem.eq_6, Y.E.sem.eq_7, Y.E.sem.eq_8, Y.E.sem.eq_9, Y.E.sem.eq_10, Y.E.sem.eq_11, Y.E.sem.eq_12, Y.E.sem.eq_13, Y.E.sem.eq_14, Y.E.sem.eq_15, Y.E.sem.eq_16, Y.E.sem.eq_17, Y.E.sem.eq_18, Y.E.sem.eq_19, Y.E.sem.eq_20, Y.E.sem.eq_21, Y.E.sem.eq_22, Y.E.sem.eq_23, Y.E.sem.eq_24, Y.E.sem.eq_25, Y.E.sem.eq_26, Y.E.sem.eq_27, Y.E.sem.eq_28, Y.E.sem.eq_29, Y.E.sem.eq_30, Y.E.sem.eq_31, Y.E.sem.eq_32, Y.E.sem.eq_33, Y.E.sem.eq_34, Y.Es.sem, Y.T.sem, sem_seq, sem_rng1, sem_rng2, sem_enm, sem_zip, sem_lc, Y.Oe.sem, Y.Ts.semAnd, Y.Ts.semOr, Y.Es.semAnd, Y.Es.semOr, CfN_call, CfN_glo]
  rw [show bkP ([] : List (List Int)) (s ^ (t + 1)) = [] from rfl] at e1
  have it : itemsOf (.ft (bkP (kpR s t) (s ^ t))) = some ((firsts (kpR s t)).map fun r => .tup (dints r)) := itemsT_bk
  simp [seq_ok it]
  rw [e1]
  simp [fzF, freeze]
theorem bk_one {κ : Type} [DecidableEq κ] (x : κ) : bkP [x] 1 = [(x, frD (1, 1))] := by
  have e : firsts [x] = [x] := by simp [firsts, insF]
  have e2 : fr ((ct [x] x : Nat) : Int) ((1 : Nat) : Int) = (1, 1) := by
    have : ct [x] x = 1 := by simp [ct]
    rw [this]; rfl
  unfold bkP bkF
  rw [e, List.map_cons, List.map_nil, frF, e2]
theorem run_kept (n : Nat) (hi : Bool) (m s k : Nat) (h : Hs) (ho : Okh h) (hs1 : 1 ≤ s) (hs : s ≤ 6) (hm : m ≤ 3) (hk : k ≤ m) (hf : Few (kpO hi m s k)) : interp PU (n + 5) f_kept_shares [.str (wd (if hi = true then 2 else 3)), .int m, .int s, .int k] h = .ok (.fi (bkP (kpO hi m s k) (s ^ m))) h := by
  -- the turns
  obtain ⟨ρ1, h1, e1, b, c, d, e, rfl, rfl⟩ := loopS_pre (fun i => D.int (i : Nat)) (forF (CfN (n + 4)) (.n 5) kB) (fun (pre : List Nat) ρ h1 => ∃ b c d e, ρ = kE hi m s k (some (.ft (bkP (kpR s pre.length) (s ^ pre.length)))) b c d e none none ∧ h1 = h ++ List.replicate pre.length .gone) (List.range m) (by
    intro pre i post e1 ρ h1 ⟨b, c, d, e, hρ, hh⟩
    subst hρ hh
    have hlen := congrArg List.length e1
    simp at hlen
    obtain ⟨c', d', e', e3⟩ := kp_turn (hi := hi) (m := m) (k := k) (t := pre.length) (okh_gones ho pre.length) hs1 hs (by omega) n b c d e none none (.int (i : Nat))
    refine ⟨_, _, e3, _, _, _, _, by simp; rfl, ?_⟩
    simp [List.replicate_succ']) (kE hi m s k (some (.ft (bkP (kpR s 0) (s ^ 0)))) none none none none none none) h ⟨none, none, none, none, rfl, by simp⟩
  rw [List.length_range] at e1
  have ho1 := okh_gones ho m
  -- the rows
  obtain ⟨ρ2, h2, e2, d', g', rfl, rfl⟩ := loopS_pre (fun row => D.tup (dints row)) (forF (CfN (n + 4)) (.n 7) ((b_kept_shares.nth 3).body)) (fun pre ρ h1 => ∃ d g, ρ = kE hi m s k (some (.ft (bkP (kpR s m) (s ^ m)))) b c d e (some (.ref (h ++ List.replicate m Ob.gone).length)) g ∧ h1 = (h ++ List.replicate m .gone) ++ [.dI (bkP (pre.flatMap fun row => List.replicate (ct (kpR s m) row) (kpS hi m k row)) (s ^ m))]) (firsts (kpR s m)) (by
    intro pre row post e1 ρ h1 ⟨d, g, hρ, hh⟩
    subst hρ hh
    obtain ⟨t1, e2⟩ := flat_pre (fun row => List.replicate (ct (kpR s m) row) (kpS hi m k row)) e1
    have hr : row ∈ kpR s m := firsts_mem.mp (by rw [e1]; simp)
    have hl := congrArg List.length e2
    rw [show ((firsts (kpR s m)).flatMap fun row => List.replicate (ct (kpR s m) row) (kpS hi m k row)) = kpO hi m s k from rfl] at e2 hl
    rw [kpO_len] at hl
    simp only [List.length_append, List.length_replicate] at hl
    rw [e2, List.append_assoc] at hf
    have e3 : (pre ++ [row]).flatMap (fun row => List.replicate (ct (kpR s m) row) (kpS hi m k row)) = (pre.flatMap fun row => List.replicate (ct (kpR s m) row) (kpS hi m k row)) ++ List.replicate (ct (kpR s m) row) (kpS hi m k row) := by rw [List.flatMap_append]; simp
    rw [e3]
    generalize (pre.flatMap fun row => List.replicate (ct (kpR s m) row) (kpS hi m k row)) = acc at *
    have a1 := run_added n acc (s ^ m) (kpS hi m k row) (ct (kpR s m) row) _ ho1 (mem_pos hr) (by omega) (by omega) (pow_hb hs (by omega)) hf.pre.len
    have i1 : index ((h ++ List.replicate m .gone) ++ [.dI (bkP acc (s ^ m))]) (.ft (bkP (kpR s m) (s ^ m))) (.tup (dints row)) = some (frD (fr (ct (kpR s m) row) (s ^ m : Nat))) := indexT_bk hr
    refine ⟨kE hi m s k (some (.ft (bkP (kpR s m) (s ^ m)))) b c (some (.tup (dints row))) e (some (.ref (h ++ List.replicate m Ob.gone).length)) (some (.tup (dints (if hi = true then cut row (some ((m : Int) - k)) none else cut row none (some (k : Int)))))), _, ?_, _, _, rfl, rfl⟩
    rw [forF_n]
    simp only [b_kept_shares, Ss.nth, St.body, kE]
    simp only [Y.Ss.sem, sem_asg, sem_par, sem_asgT, sem_setI, sem_ex, sem_ret, sem_retN, sem_ite, sem_frzV, sem_brk, sem_pass, sem_for, Y.E.sem.eq_1, Y.E.sem.eq_2, Y.E.sem.eq_3, Y.E.sem.eq_4, Y.E.sem.eq_5, Y.E.sem.eq_6, Y.E.sem.eq_7, Y.E.sem.eq_8, Y.E.sem.eq_9, Y.E.sem.eq_10, Y.E.sem.eq_11, Y.E.sem.eq_12, Y.E.sem.eq_13, Y.E.sem.eq_14, Y.E.sem.eq_15, Y.E.sem.eq_16, Y.E.sem.eq_17, Y.E.sem.eq_18, Y.E.sem.eq_19, Y.E.sem.eq_20, Y.E.sem.eq_21, Y.E.sem.eq_22, Y.E.sem.eq_23, Y.E.sem.eq_24, Y.E.sem.eq_25, Y.E.sem.eq_26, Y.E.sem.eq_27, Y.E.sem.eq_28, Y.E.sem.eq_29, Y.E.sem.eq_30, Y.E.sem.eq_31, Y.E.sem.eq_32, Y.E.sem.eq_33, Y.E.sem.eq_34, Y.Es.sem, Y.T.sem, sem_seq, sem_rng1, sem_rng2, sem_enm, sem_zip, sem_lc, Y.Oe.sem, Y.Ts.semAnd, Y.Ts.semOr, Y.Es.semAnd, Y.Es.semOr, CfN_call, CfN_glo]
    generalize (h ++ List.replicate m .gone) = h' at *
    generalize interp PU (n + 4) = I at *
    generalize frD (fr (ct (kpR s m) row) (s ^ m : Nat)) = q1 at *
    cases hi with
    | true =>
      simp [kpS] at a1 ⊢
      simp [slice_dints, sum_dints, i1, a1]
    | false =>
      simp [kpS] at a1 ⊢
      simp [slice_dints, sum_dints, i1, a1]) (kE hi m s k (some (.ft (bkP (kpR s m) (s ^ m)))) b c d e (some (.ref (h ++ List.replicate m Ob.gone).length)) none) ((h ++ List.replicate m .gone) ++ [.dI (bkP [] (s ^ m))]) ⟨d, none, rfl, by simp⟩
  rw [show ((firsts (kpR s m)).flatMap fun row => List.replicate (ct (kpR s m) row) (kpS hi m k row)) = kpO hi m s k from rfl] at e2
  rw [← rng0] at e1
  rw [show bkP (kpR s 0) (s ^ 0) = [([], frD (1, 1))] from bk_one []] at e1
  rw [show bkP ([] : List Int) (s ^ m) = [] from rfl] at e2
  show interp PU (n + 4 + 1) _ _ _ = _
  rw [interp_succ]
  simp only [runF, U, d_kept_shares, b_kept_shares, enter]
  simp only [Y.Ss.sem, sem_asg, sem_par, sem_asgT, sem_setI, sem_ex, sem_ret, sem_retN, sem_ite, sem_frzV, sem_brk, sem_pass, sem_for, Y.E.sem.eq_1, Y.E.sem.eq_2, Y.E.sem.eq_3, Y.E.sem.eq_4, Y.E.sem.eq_5, Y.E.sem.eq_6, Y.E.sem.eq_7, Y.E.sem.eq_8, Y.E.sem.eq_9, Y.E.sem.eq_10, Y.E.sem.eq_11, Y.E.sem.eq_12, Y.E.sem.eq_13, Y.E.sem.eq_14, Y.E.sem.eq_15, Y.E.sem.eq_16, Y.E.sem.eq_17, Y.E.sem.eq_18, Y.E.sem.eq_19, Y.E.sem.eq_20, Y.E.sem.eq_21, Y.E.sem.eq_22, Y.E.sem.eq_23, Y.E.sem.eq_24, Y.E.sem.eq_25, Y.E.sem.eq_26, Y.E.sem.eq_27, Y.E.sem.eq_28, Y.E.sem.eq_29, Y.E.sem.eq_30, Y.E.sem.eq_31, Y.E.sem.eq_32, Y.E.sem.eq_33, Y.E.sem.eq_34, Y.Es.sem, Y.T.sem, sem_seq, sem_rng1, sem_rng2, sem_enm, sem_zip, sem_lc, Y.Oe.sem, Y.Ts.semAnd, Y.Ts.semOr, Y.Es.semAnd, Y.Es.semOr, CfN_call, CfN_glo]
  simp only [kB, b_kept_shares, Ss.nth, St.body, kE] at e1 e2
  have c1 : Sm (m : Int) := sm_of (by omega) (by omega)
  have it : itemsOf (.ft (bkP (kpR s m) (s ^ m))) = some ((firsts (kpR s m)).map fun r => .tup (dints r)) := itemsT_bk
  rw [show frD (1, 1) = .tup [.int 1, .int 1] from rfl] at e1
  simp [rng1_ok c1]
  rw [e1]
  simp only [List.length_append, List.length_replicate] at e2
  simp [seq_ok it]
  simp at e2
  rw [e2]
  simp [fzF, freeze]
  exact cut_drop ho (rb_fi_bkP _ _)
end Y

set_option linter.all false
set_option maxRecDepth 100000
set_option maxHeartbeats 4000000
namespace Y
/-! ### the law's die -/
def ldW (w s : Nat) (l : Int) (i j k : Nat) : Int :=
  if w = 5 ∧ facI i = s then (if facI j = s ∧ l = 2 then facI i + facI j + facI k else facI i + facI j)
  else if w = 4 ∧ facI i ≤ l then facI j
  else if w = 6 then (if l ≤ facI i then 1 else 0) else facI i
def ldK (w s : Nat) (l : Int) (i j : Nat) (ks : List Nat) : List Int := ks.map fun k => ldW w s l i j k
def ldJ (w s : Nat) (l : Int) (i : Nat) (js : List Nat) : List Int := js.flatMap fun j => ldK w s l i j (List.range s)
def ldO (w s : Nat) (l : Int) : List Int := (List.range s).flatMap fun i => ldJ w s l i (List.range s)
theorem ldO_len (w s : Nat) (l : Int) : (ldO w s l).length = s ^ 3 := by
  unfold ldO
  rw [flat_len _ (s * s) s]
  · rw [Nat.pow_succ, Nat.pow_succ, Nat.pow_one]; exact (Nat.mul_assoc s s s).symm
  · intro i _
    unfold ldJ
    rw [flat_len _ s s]
    intro j _
    unfold ldK
    simp
theorem Few.le {A : List Int} (h : ∀ x ∈ A, 0 ≤ x ∧ x ≤ 10000) : Few A := fun x hx => by have := h x hx; omega
theorem ldO_mem {w s : Nat} {l : Int} (hs : s ≤ 6) {x : Int} (h : x ∈ ldO w s l) : 0 ≤ x ∧ x ≤ 18 := by
  unfold ldO ldJ ldK at h
  simp only [List.mem_flatMap, List.mem_map, List.mem_range] at h
  obtain ⟨i, hi, j, hj, k, hk, rfl⟩ := h
  unfold ldW facI
  repeat' split
  all_goals omega
theorem up_one {h : Hs} {A : List Int} {w : Int} : mth .get (h ++ [.dI (bkL A)]) (.ref h.length) [.int w, .int 0] = .ok (.int (A.count w)) (h ++ [.dI (bkL A)]) := by
  rw [idx_dI, get_bkL]
theorem set_up {ρ : Env} {h : Hs} {A : List Int} {w : Int} {c : Nat} (hc : 0 < c) (hl : (firsts A).length < SZ) : siF ρ (h ++ [.dI (bkL A)]) (.ref h.length) (.int w) (.int ((A.count w : Int) + c)) = .nx ρ (h ++ [.dI (bkL (A ++ List.replicate c w))]) := by
  rw [set_dI (by unfold bkL; rw [bk_len]; exact hl), put_bkL w hc]
theorem set_up1 {ρ : Env} {h : Hs} {A : List Int} {w : Int} (hl : (firsts A).length < SZ) : siF ρ (h ++ [.dI (bkL A)]) (.ref h.length) (.int w) (.int ((A.count w : Int) + 1)) = .nx ρ (h ++ [.dI (bkL (A ++ [w]))]) := set_up (c := 1) (by omega) hl
section
variable (w s : Nat) (l : Int) (h : Hs)
def ldE (a b c d : Option D) : Env := [some (.str (wd w)), some (.int s), some (.int l), some (.ref h.length), some (.int ((s * s * s : Nat) : Int)), a, b, c, d]
def ldB : Ss := (b_l_die.nth 2).body
end
theorem ld_step {w s : Nat} {l : Int} {h : Hs} (hw : w < 13) (C : Cfg) (acc : List Int) (i j k : Nat) (c d : Option D) (hf : (firsts acc).length < SZ) (ho : Okh h) :
    ∃ d', forF C (.n 7) ((((ldB.nth 0).body).nth 0).body) (.int (facI k)) (ldE w s l h (some (.int (facI i))) (some (.int (facI j))) c d) (h ++ [.dI (bkL acc)]) = .nx (ldE w s l h (some (.int (facI i))) (some (.int (facI j))) (some (.int (facI k))) d') (h ++ [.dI (bkL (acc ++ [ldW w s l i j k]))]) := by
  refine ⟨some (.int (ldW w s l i j k)), ?_⟩
  rw [forF_n]
  simp only [ldB, b_l_die, Ss.nth, St.body, ldE]
  simp only [Y.Ss.sem, sem_asg, sem_par, sem_asgT, sem_setI, sem_ex, sem_ret, sem_retN, sem_ite, sem_frzV, sem_brk, sem_pass, sem_for, Y.E.sem.eq_1, Y.E.sem.eq_2, Y.E.sem.eq_3, Y.E.sem.eq_4, Y.E.sem.eq_5, Y.E.sem.eq_6, Y.E.sem.eq_7, Y.E.sem.eq_8, Y.E.sem.eq_9, Y.E.sem.eq_10, Y.E.sem.eq_11, Y.E.sem.eq_12, Y.E.sem.eq_13, Y.E.sem.eq_14, Y.E.sem.eq_15, Y.E.sem.eq_16, Y.E.sem.eq_17, Y.E.sem.eq_18, Y.E.sem.eq_19, Y.E.sem.eq_20, Y.E.sem.eq_21, Y.E.sem.eq_22, Y.E.sem.eq_23, Y.E.sem.eq_24, Y.E.sem.eq_25, Y.E.sem.eq_26, Y.E.sem.eq_27, Y.E.sem.eq_28, Y.E.sem.eq_29, Y.E.sem.eq_30, Y.E.sem.eq_31, Y.E.sem.eq_32, Y.E.sem.eq_33, Y.E.sem.eq_34, Y.Es.sem, Y.T.sem, sem_seq, sem_rng1, sem_rng2, sem_enm, sem_zip, sem_lc, Y.Oe.sem, Y.Ts.semAnd, Y.Ts.semOr, Y.Es.semAnd, Y.Es.semOr, CfN_call, CfN_glo]
  have g := up_one (h := h) (A := acc) (w := ldW w s l i j k)
  have st := fun ρ => set_up1 (ρ := ρ) (h := h) (A := acc) (w := ldW w s l i j k) hf
  by_cases c5 : w = 5
  · subst c5
    by_cases ci : facI i = s
    · by_cases cj : facI j = s
      · by_cases cl : l = 2
        · have e : ldW 5 s l i j k = facI i + facI j + facI k := by unfold ldW; simp [ci, cj, cl]
          rw [e] at g st ⊢
          rw [ci, cj] at g st ⊢
          simp [cl, int_b, mok_dI, g, st]
        · have e : ldW 5 s l i j k = facI i + facI j := by unfold ldW; simp [ci, cj, cl]
          rw [e] at g st ⊢
          rw [ci, cj] at g st ⊢
          simp [cl, int_b, mok_dI, g, st]
      · have e : ldW 5 s l i j k = facI i + facI j := by unfold ldW; simp [ci, cj]
        rw [e] at g st ⊢
        rw [ci] at g st ⊢
        simp [cj, int_b, mok_dI, g, st]
    · have e : ldW 5 s l i j k = facI i := by unfold ldW; simp [ci]
      rw [e] at g st ⊢
      simp [ci, int_b, mok_dI, g, st]
  · by_cases c4 : w = 4
    · subst c4
      by_cases ci : facI i ≤ l
      · have e : ldW 4 s l i j k = facI j := by unfold ldW; simp [ci]
        rw [e] at g st ⊢
        simp [ci, int_b, mok_dI, g, st]
      · have e : ldW 4 s l i j k = facI i := by unfold ldW; simp [ci]
        rw [e] at g st ⊢
        simp [ci, int_b, mok_dI, g, st]
    · by_cases c6 : w = 6
      · subst c6
        have e : ldW 6 s l i j k = if l ≤ facI i then 1 else 0 := by unfold ldW; simp
        rw [e] at g st ⊢
        simp [int_bl, mok_dI, g, st]
      · have e : ldW w s l i j k = facI i := by unfold ldW; simp [c5, c4, c6]
        rw [e] at g st ⊢
        simp [hw, c5, c4, c6, int_bl, mok_dI, g, st]
theorem run_l_die (n w s : Nat) (l : Int) (h : Hs) (ho : Okh h) (hw : w < 13) (hs1 : 1 ≤ s) (hs : s ≤ 6) : interp PU (n + 1) f_l_die [.str (wd w), .int s, .int l] h = .ok (.tup [.fi (bkL (ldO w s l)), .int ((s ^ 3 : Nat) : Int)]) h := by
  have few : ∀ acc t, ldO w s l = acc ++ t → (firsts acc).length < SZ := fun acc t e => by
    have : Few (ldO w s l) := fun x hx => by have := ldO_mem hs hx; omega
    rw [e] at this
    exact this.pre.len
  have c1 : Sm 1 := sm_of (by omega) (by omega)
  have c2 : Sm ((s : Int) + 1) := sm_of (by omega) (by omega)
  have inK : ∀ (acc : List Int) (i j : Nat) (t : List Int) (b c d : Option D), ldO w s l = acc ++ ldK w s l i j (List.range s) ++ t → ∃ c' d', forF (CfN n) (.n 6) (((ldB.nth 0).body)) (.int (facI j)) (ldE w s l h (some (.int (facI i))) b c d) (h ++ [.dI (bkL acc)]) = .nx (ldE w s l h (some (.int (facI i))) (some (.int (facI j))) c' d') (h ++ [.dI (bkL (acc ++ ldK w s l i j (List.range s)))]) := by
    intro acc i j t b c d e
    obtain ⟨ρ', h', e1, c', d', rfl, rfl⟩ := loopS_pre (fun k => D.int (facI k)) (forF (CfN n) (.n 7) ((((ldB.nth 0).body).nth 0).body)) (fun pre ρ h1 => ∃ c d, ρ = ldE w s l h (some (.int (facI i))) (some (.int (facI j))) c d ∧ h1 = h ++ [.dI (bkL (acc ++ ldK w s l i j pre))]) (List.range s) (by
      intro pre k post e1 ρ h1 ⟨c, d, hρ, hh⟩
      subst hρ hh
      obtain ⟨d', e2⟩ := ld_step (w := w) (s := s) (l := l) hw (CfN n) (acc ++ ldK w s l i j pre) i j k c d (few _ (ldW w s l i j k :: ldK w s l i j post ++ t) (by rw [e, e1]; unfold ldK; simp)) ho
      exact ⟨_, _, e2, _, _, rfl, by unfold ldK; simp⟩) (ldE w s l h (some (.int (facI i))) (some (.int (facI j))) c d) (h ++ [.dI (bkL acc)]) ⟨c, d, rfl, by simp [ldK]⟩
    refine ⟨c', d', ?_⟩
    rw [← rng_faces] at e1
    rw [forF_n]
    simp only [ldB, b_l_die, Ss.nth, St.body, ldE] at e1 ⊢
    simp only [Y.Ss.sem, sem_asg, sem_par, sem_asgT, sem_setI, sem_ex, sem_ret, sem_retN, sem_ite, sem_frzV, sem_brk, sem_pass, sem_for, Y.E.sem.eq_1, Y.E.sem.eq_2, Y.E.sem.eq_3, Y.E.sem.eq_4, Y.E.sem.eq_5, Y.E.sem.eq_6, Y.E.sem.eq_7, Y.E.sem.eq_8, Y.E.sem.eq_9, Y.E.sem.eq_10, Y.E.sem.eq_11, Y.E.sem.eq_12, Y.E.sem.eq_13, Y.E.sem.eq_14, Y.E.sem.eq_15, Y.E.sem.eq_16, Y.E.sem.eq_17, Y.E.sem.eq_18, Y.E.sem.eq_19, Y.E.sem.eq_20, Y.E.sem.eq_21, Y.E.sem.eq_22, Y.E.sem.eq_23, Y.E.sem.eq_24, Y.E.sem.eq_25, Y.E.sem.eq_26, Y.E.sem.eq_27, Y.E.sem.eq_28, Y.E.sem.eq_29, Y.E.sem.eq_30, Y.E.sem.eq_31, Y.E.sem.eq_32, Y.E.sem.eq_33, Y.E.sem.eq_34, Y.Es.sem, Y.T.sem, sem_seq, sem_rng1, sem_rng2, sem_enm, sem_zip, sem_lc, Y.Oe.sem, Y.Ts.semAnd, Y.Ts.semOr, Y.Es.semAnd, Y.Es.semOr, CfN_call, CfN_glo]
    simp [rng2_ok c1 c2] at e1 ⊢
    rw [e1]
    rfl
  have inJ : ∀ (acc : List Int) (i : Nat) (t : List Int) (a b c d : Option D), ldO w s l = acc ++ ldJ w s l i (List.range s) ++ t → ∃ b' c' d', forF (CfN n) (.n 5) ldB (.int (facI i)) (ldE w s l h a b c d) (h ++ [.dI (bkL acc)]) = .nx (ldE w s l h (some (.int (facI i))) b' c' d') (h ++ [.dI (bkL (acc ++ ldJ w s l i (List.range s)))]) := by
    intro acc i t a b c d e
    obtain ⟨ρ', h', e1, b', c', d', rfl, rfl⟩ := loopS_pre (fun k => D.int (facI k)) (forF (CfN n) (.n 6) (((ldB.nth 0).body))) (fun pre ρ h1 => ∃ b c d, ρ = ldE w s l h (some (.int (facI i))) b c d ∧ h1 = h ++ [.dI (bkL (acc ++ ldJ w s l i pre))]) (List.range s) (by
      intro pre j post e1 ρ h1 ⟨b, c, d, hρ, hh⟩
      subst hρ hh
      obtain ⟨c', d', e2⟩ := inK (acc ++ ldJ w s l i pre) i j (ldJ w s l i post ++ t) b c d (by rw [e]; rw [show ldJ w s l i (List.range s) = ldJ w s l i (pre ++ j :: post) by rw [e1]]; unfold ldJ; simp)
      exact ⟨_, _, e2, _, _, _, rfl, by unfold ldJ; simp⟩) (ldE w s l h (some (.int (facI i))) b c d) (h ++ [.dI (bkL acc)]) ⟨b, c, d, rfl, by simp [ldJ]⟩
    refine ⟨b', c', d', ?_⟩
    rw [← rng_faces] at e1
    rw [forF_n]
    simp only [ldB, b_l_die, Ss.nth, St.body, ldE] at e1 ⊢
    simp only [Y.Ss.sem, sem_asg, sem_par, sem_asgT, sem_setI, sem_ex, sem_ret, sem_retN, sem_ite, sem_frzV, sem_brk, sem_pass, sem_for, Y.E.sem.eq_1, Y.E.sem.eq_2, Y.E.sem.eq_3, Y.E.sem.eq_4, Y.E.sem.eq_5, Y.E.sem.eq_6, Y.E.sem.eq_7, Y.E.sem.eq_8, Y.E.sem.eq_9, Y.E.sem.eq_10, Y.E.sem.eq_11, Y.E.sem.eq_12, Y.E.sem.eq_13, Y.E.sem.eq_14, Y.E.sem.eq_15, Y.E.sem.eq_16, Y.E.sem.eq_17, Y.E.sem.eq_18, Y.E.sem.eq_19, Y.E.sem.eq_20, Y.E.sem.eq_21, Y.E.sem.eq_22, Y.E.sem.eq_23, Y.E.sem.eq_24, Y.E.sem.eq_25, Y.E.sem.eq_26, Y.E.sem.eq_27, Y.E.sem.eq_28, Y.E.sem.eq_29, Y.E.sem.eq_30, Y.E.sem.eq_31, Y.E.sem.eq_32, Y.E.sem.eq_33, Y.E.sem.eq_34, Y.Es.sem, Y.T.sem, sem_seq, sem_rng1, sem_rng2, sem_enm, sem_zip, sem_lc, Y.Oe.sem, Y.Ts.semAnd, Y.Ts.semOr, Y.Es.semAnd, Y.Es.semOr, CfN_call, CfN_glo]
    simp [rng2_ok c1 c2] at e1 ⊢
    rw [e1]
    rfl
  obtain ⟨ρ', h', e1, a', b', c', d', rfl, rfl⟩ := loopS_pre (fun k => D.int (facI k)) (forF (CfN n) (.n 5) ldB) (fun pre ρ h1 => ∃ a b c d, ρ = ldE w s l h a b c d ∧ h1 = h ++ [.dI (bkL (pre.flatMap fun i => ldJ w s l i (List.range s)))]) (List.range s) (by
      intro pre i post e1 ρ h1 ⟨a, b, c, d, hρ, hh⟩
      subst hρ hh
      obtain ⟨t1, e2⟩ := flat_pre (fun i => ldJ w s l i (List.range s)) e1
      obtain ⟨b', c', d', e3⟩ := inJ (pre.flatMap fun i => ldJ w s l i (List.range s)) i t1 a b c d e2
      exact ⟨_, _, e3, _, _, _, _, rfl, by simp [List.flatMap_append]⟩) (ldE w s l h none none none none) (h ++ [.dI (bkL [])]) ⟨none, none, none, none, rfl, by simp⟩
  rw [← rng_faces] at e1
  rw [show ((List.range s).flatMap fun i => ldJ w s l i (List.range s)) = ldO w s l from rfl] at e1
  rw [show bkL ([] : List Int) = [] from rfl] at e1
  have m1 : ∀ h : Hs, bop .mul h (.int s) (.int s) = .ok (.int ((s : Int) * s)) h := fun h => bop_mul (.inr (by omega))
  have m2 : ∀ h : Hs, bop .mul h (.int ((s : Int) * s)) (.int s) = .ok (.int ((s * s * s : Nat) : Int)) h := fun h => by
    rw [bop_mul (.inr (by omega)), Int.natCast_mul, Int.natCast_mul]
  rw [interp_succ]
  simp only [ldB, b_l_die, Ss.nth, St.body, ldE] at e1
  simp only [runF, U, d_l_die, b_l_die, enter]
  simp only [Y.Ss.sem, sem_asg, sem_par, sem_asgT, sem_setI, sem_ex, sem_ret, sem_retN, sem_ite, sem_frzV, sem_brk, sem_pass, sem_for, Y.E.sem.eq_1, Y.E.sem.eq_2, Y.E.sem.eq_3, Y.E.sem.eq_4, Y.E.sem.eq_5, Y.E.sem.eq_6, Y.E.sem.eq_7, Y.E.sem.eq_8, Y.E.sem.eq_9, Y.E.sem.eq_10, Y.E.sem.eq_11, Y.E.sem.eq_12, Y.E.sem.eq_13, Y.E.sem.eq_14, Y.E.sem.eq_15, Y.E.sem.eq_16, Y.E.sem.eq_17, Y.E.sem.eq_18, Y.E.sem.eq_19, Y.E.sem.eq_20, Y.E.sem.eq_21, Y.E.sem.eq_22, Y.E.sem.eq_23, Y.E.sem.eq_24, Y.E.sem.eq_25, Y.E.sem.eq_26, Y.E.sem.eq_27, Y.E.sem.eq_28, Y.E.sem.eq_29, Y.E.sem.eq_30, Y.E.sem.eq_31, Y.E.sem.eq_32, Y.E.sem.eq_33, Y.E.sem.eq_34, Y.Es.sem, Y.T.sem, sem_seq, sem_rng1, sem_rng2, sem_enm, sem_zip, sem_lc, Y.Oe.sem, Y.Ts.semAnd, Y.Ts.semOr, Y.Es.semAnd, Y.Es.semOr, CfN_call, CfN_glo]
  simp [-Int.natCast_mul, m1, m2, rng2_ok c1 c2] at e1 ⊢
  rw [e1]
  have e3 : s ^ 3 = s * s * s := by rw [Nat.pow_succ, Nat.pow_succ, Nat.pow_one]
  rw [← Int.natCast_pow, e3]
  simp [-Int.natCast_mul, fzF, freeze]
  exact cut_drop ho (by simp [rbi_bkL])
/-! ### the law's kept dice -/
def lkI (s : Nat) (row : List Int) : List (List Int) := (List.range s).map fun i => row ++ [facI i]
def lkR (s : Nat) : Nat → List (List Int)
  | 0 => [[]]
  | t + 1 => (lkR s t).flatMap (lkI s)
def lkO (hi : Bool) (m s k : Nat) : List Int := (lkR s m).map fun row => kpS hi m k (sortI row)
theorem lkR_len (s : Nat) : ∀ t, (lkR s t).length = s ^ t
  | 0 => rfl
  | t + 1 => by
    rw [lkR, flat_sum]
    simp only [lkI, List.length_map, List.length_range]
    rw [Nat.pow_succ, ← lkR_len s t]
    generalize lkR s t = l
    induction l with
    | nil => simp
    | cons x l ih => rw [List.map_cons, List.sum_cons, ih, List.length_cons, Nat.add_mul]; omega
theorem lkR_row (s : Nat) : ∀ (t : Nat) (row : List Int), row ∈ lkR s t → row.length = t
  | 0, row, h => by
    simp [lkR] at h
    subst h; rfl
  | t + 1, row, h => by
    rw [lkR] at h
    simp only [lkI, List.mem_flatMap, List.mem_map] at h
    obtain ⟨r, hr, i, _, rfl⟩ := h
    have := lkR_row s t r hr
    simp [this]
theorem lkO_len (hi : Bool) (m s k : Nat) : (lkO hi m s k).length = s ^ m := by unfold lkO; rw [List.length_map, lkR_len]
theorem loopC_map {α : Type} (enc : α → D) (g : α → D) (F : D → Hs → R (Option D)) (h : Hs) : ∀ (xs : List α) (acc : List D), (∀ x ∈ xs, F (enc x) h = .ok (some (g x)) h) → acc.length + xs.length ≤ SZ → loopC F (xs.map enc) acc h = .ok (acc ++ xs.map g) h
  | [], acc, _, _ => by simp [loopC]
  | x :: xs, acc, hf, hl => by
    simp only [List.length_cons] at hl
    have hlt : acc.length < SZ := by omega
    have := loopC_map enc g F h xs (acc ++ [g x]) (fun y hy => hf y (by simp [hy])) (by simp at hl ⊢; omega)
    rw [List.map_cons, loopC, hf x (by simp)]
    simp only [R.bind_ok, hlt, if_true]
    rw [this]; simp
section
variable (hi : Bool) (m s k : Nat)
def lkE (h : Hs) (a b c d e f g : Option D) : Env := [some (.tup [.str (wd (if hi = true then 2 else 3)), .int m, .int s, .int k]), some (.str (wd (if hi = true then 2 else 3))), some (.int m), some (.int s), some (.int k), a, b, c, d, e, f, g]
def lkB : Ss := (b_l_kept.nth 2).body
end
def flR (R : List (List Int)) : D := .fl (R.map fun row => .fl (dints row))
theorem cat_fdints {h : Hs} {row : List Int} {x : Int} (hl : row.length < 1000) : bop .add h (.fl (dints row)) (.fl [.int x]) = .ok (.fl (dints (row ++ [x]))) h := by
  have : (dints row).length + [D.int x].length ≤ SZ := by rw [dints_len]; simp; omega
  simp only [bop, opAdd, if_pos this]
  rw [show [D.int x] = dints [x] from rfl, dints_app]
theorem ext_ok {h : Hs} {xs ys : List D} (hl : xs.length + ys.length ≤ SZ) : mth .extend (h ++ [.lst xs]) (.ref h.length) [.fl ys] = .ok .non (h ++ [.lst (xs ++ ys)]) := by
  simp only [SZ_eq] at hl
  simp [mth, hl]
theorem mok_ext {h : Hs} {xs : List D} : mok .extend (h ++ [.lst xs]) (.ref h.length) = true := by simp [mok]
theorem lk_turn {hi : Bool} {m s k t : Nat} {h h0 : Hs} (hs1 : 1 ≤ s) (hs : s ≤ 6) (ht : t < 3) (C : Cfg) (b c d e f g : Option D) (x : D) : ∃ c' d',
    forF C (.n 6) lkB x (lkE hi m s k h0 (some (flR (lkR s t))) b c d e f g) h = .nx (lkE hi m s k h0 (some (flR (lkR s (t + 1)))) (some x) c' d' e f g) (h ++ [.gone]) := by
  have h216 : s ^ (t + 1) ≤ 216 := by
    have h1 : s ^ (t + 1) ≤ 6 ^ (t + 1) := Nat.pow_le_pow_left hs _
    have h2 : 6 ^ (t + 1) ≤ 6 ^ 3 := Nat.pow_le_pow_right (by omega) (by omega)
    omega
  have c1 : Sm 1 := sm_of (by omega) (by omega)
  have c2 : Sm ((s : Int) + 1) := sm_of (by omega) (by omega)
  obtain ⟨ρ', h', e1, d', rfl, rfl⟩ := loopS_pre (fun row => D.fl (dints row)) (forF C (.n 8) ((lkB.nth 1).body)) (fun pre ρ h1 => ∃ d, ρ = lkE hi m s k h0 (some (flR (lkR s t))) (some x) (some (.ref h.length)) d e f g ∧ h1 = h ++ [.lst ((pre.flatMap (lkI s)).map fun row => .fl (dints row))]) (lkR s t) (by
    intro pre row post e1 ρ h1 ⟨d, hρ, hh⟩
    subst hρ hh
    have hr := lkR_row s t row (by rw [e1]; simp)
    obtain ⟨t1, e2⟩ := flat_pre (lkI s) e1
    have hl := congrArg List.length e2
    rw [show (lkR s t).flatMap (lkI s) = lkR s (t + 1) from rfl, lkR_len] at hl
    simp only [List.length_append] at hl
    refine ⟨lkE hi m s k h0 (some (flR (lkR s t))) (some x) (some (.ref h.length)) (some (.fl (dints row))) e f g, _, ?_, _, rfl, rfl⟩
    have e3 : (pre ++ [row]).flatMap (lkI s) = pre.flatMap (lkI s) ++ lkI s row := by rw [List.flatMap_append]; simp
    rw [e3, List.map_append]
    generalize pre.flatMap (lkI s) = acc at *
    have ex := ext_ok (h := h) (xs := acc.map fun row => .fl (dints row)) (ys := (lkI s row).map fun row => .fl (dints row)) (by simp; omega)
    have lc := loopC_map (fun i => D.int (facI i)) (fun i => D.fl (dints (row ++ [facI i]))) (lcG (.bin .add (.var 8) (.lst (.cons (.var 11) .nil))) (.n 11) .tt C (lkE hi m s k h0 (some (flR (lkR s t))) (some x) (some (.ref h.length)) (some (.fl (dints row))) e f g)) (h ++ [.lst (acc.map fun row => .fl (dints row))]) (List.range s) [] (by
      intro i _
      simp only [lcG_n, lkE]
      simp only [Y.Ss.sem, sem_asg, sem_par, sem_asgT, sem_setI, sem_ex, sem_ret, sem_retN, sem_ite, sem_frzV, sem_brk, sem_pass, sem_for, Y.E.sem.eq_1, Y.E.sem.eq_2, Y.E.sem.eq_3, Y.E.sem.eq_4, Y.E.sem.eq_5, Y.E.sem.eq_6, Y.E.sem.eq_7, Y.E.sem.eq_8, Y.E.sem.eq_9, Y.E.sem.eq_10, Y.E.sem.eq_11, Y.E.sem.eq_12, Y.E.sem.eq_13, Y.E.sem.eq_14, Y.E.sem.eq_15, Y.E.sem.eq_16, Y.E.sem.eq_17, Y.E.sem.eq_18, Y.E.sem.eq_19, Y.E.sem.eq_20, Y.E.sem.eq_21, Y.E.sem.eq_22, Y.E.sem.eq_23, Y.E.sem.eq_24, Y.E.sem.eq_25, Y.E.sem.eq_26, Y.E.sem.eq_27, Y.E.sem.eq_28, Y.E.sem.eq_29, Y.E.sem.eq_30, Y.E.sem.eq_31, Y.E.sem.eq_32, Y.E.sem.eq_33, Y.E.sem.eq_34, Y.Es.sem, Y.T.sem, sem_seq, sem_rng1, sem_rng2, sem_enm, sem_zip, sem_lc, Y.Oe.sem, Y.Ts.semAnd, Y.Ts.semOr, Y.Es.semAnd, Y.Es.semOr, CfN_call, CfN_glo]
      have cm := cat_fdints (h := h ++ [.lst (acc.map fun row => .fl (dints row))]) (row := row) (x := facI i) (by omega)
      simp [cm]) (by simp; omega)
    rw [← rng_faces] at lc
    rw [forF_n]
    simp only [lkB, b_l_kept, Ss.nth, St.body, lkE] at lc ⊢
    simp only [Y.Ss.sem, sem_asg, sem_par, sem_asgT, sem_setI, sem_ex, sem_ret, sem_retN, sem_ite, sem_frzV, sem_brk, sem_pass, sem_for, Y.E.sem.eq_1, Y.E.sem.eq_2, Y.E.sem.eq_3, Y.E.sem.eq_4, Y.E.sem.eq_5, Y.E.sem.eq_6, Y.E.sem.eq_7, Y.E.sem.eq_8, Y.E.sem.eq_9, Y.E.sem.eq_10, Y.E.sem.eq_11, Y.E.sem.eq_12, Y.E.sem.eq_13, Y.E.sem.eq_14, Y.E.sem.eq_15, Y.E.sem.eq_16, Y.E.sem.eq_17, Y.E.sem.eq_18, Y.E.sem.eq_19, Y.E.sem.eq_20, Y.E.sem.eq_21, Y.E.sem.eq_22, Y.E.sem.eq_23, Y.E.sem.eq_24, Y.E.sem.eq_25, Y.E.sem.eq_26, Y.E.sem.eq_27, Y.E.sem.eq_28, Y.E.sem.eq_29, Y.E.sem.eq_30, Y.E.sem.eq_31, Y.E.sem.eq_32, Y.E.sem.eq_33, Y.E.sem.eq_34, Y.Es.sem, Y.T.sem, sem_seq, sem_rng1, sem_rng2, sem_enm, sem_zip, sem_lc, Y.Oe.sem, Y.Ts.semAnd, Y.Ts.semOr, Y.Es.semAnd, Y.Es.semOr, CfN_call, CfN_glo]
    simp [rng2_ok c1 c2] at lc ⊢
    rw [lc]
    have e4 : ((List.range s).map fun i => D.fl (dints (row ++ [facI i]))) = (lkI s row).map fun row => .fl (dints row) := by unfold lkI; simp
    rw [e4]
    simp [mok_ext, ex]) (lkE hi m s k h0 (some (flR (lkR s t))) (some x) (some (.ref h.length)) d e f g) (h ++ [.lst []]) ⟨d, rfl, by simp⟩
  refine ⟨some (flR (lkR s (t + 1))), d', ?_⟩
  rw [show (lkR s t).flatMap (lkI s) = lkR s (t + 1) from rfl] at e1
  rw [forF_n]
  simp only [lkB, b_l_kept, Ss.nth, St.body, lkE, flR] at e1 ⊢
  simp only [Y.Ss.sem, sem_asg, sem_par, sem_asgT, sem_setI, sem_ex, sem_ret, sem_retN, sem_ite, sem_frzV, sem_brk, sem_pass, sem_for, Y.E.sem.eq_1, Y.E.sem.eq_2, Y.E.sem.eq_3, Y.E.sem.eq_4, Y.E.sem.eq_5, Y.E.sem.eq_6, Y.E.sem.eq_7, Y.E.sem.eq_8, Y.E.sem.eq_9, Y.E.sem.eq_10, Y.E.sem.eq_11, Y.E.sem.eq_12, Y.E.sem.eq_13, Y.E.sem.eq_14, Y.E.sem.eq_15, Y.E.sem.eq_16, Y.E.sem.eq_17, Y.E.sem.eq_18, Y.E.sem.eq_19, Y.E.sem.eq_20, Y.E.sem.eq_21, Y.E.sem.eq_22, Y.E.sem.eq_23, Y.E.sem.eq_24, Y.E.sem.eq_25, Y.E.sem.eq_26, Y.E.sem.eq_27, Y.E.sem.eq_28, Y.E.sem.eq_29, Y.E.sem.eq_30, Y.E.sem.eq_31, Y.E.sem.eq_32, Y.E.sem.eq_33, Y.E.sem.eq_34, Y.Es.sem, Y.T.sem, sem_seq, sem_rng1, sem_rng2, sem_enm, sem_zip, sem_lc, Y.Oe.sem, Y.Ts.semAnd, Y.Ts.semOr, Y.Es.semAnd, Y.Es.semOr, CfN_call, CfN_glo]
  simp
  rw [e1]
  simp [fzF, freeze]
theorem len_flR {h : Hs} {ds : List D} : blt .len h [.fl ds] = .ok (.int ds.length) h := rfl
theorem run_l_kept (n : Nat) (hi : Bool) (m s k : Nat) (h : Hs) (ho : Okh h) (hs1 : 1 ≤ s) (hs : s ≤ 6) (hm : m ≤ 3) (hk : k ≤ m) (hf : Few (lkO hi m s k)) : interp PU (n + 1) f_l_kept [.tup [.str (wd (if hi = true then 2 else 3)), .int m, .int s, .int k]] h = .ok (.tup [.fi (bkL (lkO hi m s k)), .int ((s ^ m : Nat) : Int)]) h := by
  obtain ⟨ρ1, h1, e1, b, c, d, rfl, rfl⟩ := loopS_pre (fun i => D.int (i : Nat)) (forF (CfN n) (.n 6) lkB) (fun (pre : List Nat) ρ h1 => ∃ b c d, ρ = lkE hi m s k h (some (flR (lkR s pre.length))) b c d none none none ∧ h1 = h ++ List.replicate pre.length .gone) (List.range m) (by
    intro pre i post e1 ρ h1 ⟨b, c, d, hρ, hh⟩
    subst hρ hh
    have hlen := congrArg List.length e1
    simp at hlen
    obtain ⟨c', d', e3⟩ := lk_turn (hi := hi) (m := m) (k := k) (t := pre.length) (h := h ++ List.replicate pre.length .gone) (h0 := h) hs1 hs (by omega) (CfN n) b c d none none none (.int (i : Nat))
    refine ⟨_, _, e3, _, _, _, by simp; rfl, ?_⟩
    simp [List.replicate_succ']) (lkE hi m s k h (some (flR (lkR s 0))) none none none none none none) h ⟨none, none, none, rfl, by simp⟩
  rw [List.length_range] at e1
  have ho1 := okh_gones ho m
  obtain ⟨ρ2, h2, e2, d', g', rfl, rfl⟩ := loopS_pre (fun row => D.fl (dints row)) (forF (CfN n) (.n 8) ((b_l_kept.nth 4).body)) (fun pre ρ h1 => ∃ d g, ρ = lkE hi m s k h (some (flR (lkR s m))) b c d (some (.ref (h ++ List.replicate m Ob.gone).length)) g none ∧ h1 = (h ++ List.replicate m .gone) ++ [.dI (bkL (pre.map fun row => kpS hi m k (sortI row)))]) (lkR s m) (by
    intro pre row post e1 ρ h1 ⟨d, g, hρ, hh⟩
    subst hρ hh
    have hr := lkR_row s m row (by rw [e1]; simp)
    have hfl : (firsts (pre.map fun row => kpS hi m k (sortI row))).length < SZ := by
      have e3 : lkO hi m s k = (pre.map fun row => kpS hi m k (sortI row)) ++ (kpS hi m k (sortI row) :: post.map fun row => kpS hi m k (sortI row)) := by unfold lkO; rw [e1]; simp
      rw [e3] at hf
      exact hf.pre.len
    rw [List.map_append, List.map_cons, List.map_nil]
    generalize (pre.map fun row => kpS hi m k (sortI row)) = acc at *
    refine ⟨lkE hi m s k h (some (flR (lkR s m))) b c (some (.fl (dints (sortI row)))) (some (.ref (h ++ List.replicate m Ob.gone).length)) (some (.int (kpS hi m k (sortI row)))) none, _, ?_, _, _, rfl, rfl⟩
    generalize (h ++ List.replicate m .gone) = h' at *
    have g := up_one (h := h') (A := acc) (w := kpS hi m k (sortI row))
    have st := fun ρ => set_up1 (ρ := ρ) (h := h') (A := acc) (w := kpS hi m k (sortI row)) hfl
    rw [forF_n]
    simp only [b_l_kept, Ss.nth, St.body, lkE]
    simp only [Y.Ss.sem, sem_asg, sem_par, sem_asgT, sem_setI, sem_ex, sem_ret, sem_retN, sem_ite, sem_frzV, sem_brk, sem_pass, sem_for, Y.E.sem.eq_1, Y.E.sem.eq_2, Y.E.sem.eq_3, Y.E.sem.eq_4, Y.E.sem.eq_5, Y.E.sem.eq_6, Y.E.sem.eq_7, Y.E.sem.eq_8, Y.E.sem.eq_9, Y.E.sem.eq_10, Y.E.sem.eq_11, Y.E.sem.eq_12, Y.E.sem.eq_13, Y.E.sem.eq_14, Y.E.sem.eq_15, Y.E.sem.eq_16, Y.E.sem.eq_17, Y.E.sem.eq_18, Y.E.sem.eq_19, Y.E.sem.eq_20, Y.E.sem.eq_21, Y.E.sem.eq_22, Y.E.sem.eq_23, Y.E.sem.eq_24, Y.E.sem.eq_25, Y.E.sem.eq_26, Y.E.sem.eq_27, Y.E.sem.eq_28, Y.E.sem.eq_29, Y.E.sem.eq_30, Y.E.sem.eq_31, Y.E.sem.eq_32, Y.E.sem.eq_33, Y.E.sem.eq_34, Y.Es.sem, Y.T.sem, sem_seq, sem_rng1, sem_rng2, sem_enm, sem_zip, sem_lc, Y.Oe.sem, Y.Ts.semAnd, Y.Ts.semOr, Y.Es.semAnd, Y.Es.semOr, CfN_call, CfN_glo]
    have hl2 : (dints (sortI row)).length = m := by rw [dints_len, sortI_len, hr]
    cases hi with
    | true =>
      simp [kpS] at g st ⊢
      simp [sorted_fdints, len_flR, hl2, slice_fdints, sum_fdints, mok_dI, g, st]
    | false =>
      simp [kpS] at g st ⊢
      simp [sorted_fdints, len_flR, hl2, slice_fdints, sum_fdints, mok_dI, g, st]) (lkE hi m s k h (some (flR (lkR s m))) b c d (some (.ref (h ++ List.replicate m Ob.gone).length)) none none) ((h ++ List.replicate m .gone) ++ [.dI (bkL [])]) ⟨d, none, rfl, by simp⟩
  rw [show ((lkR s m).map fun row => kpS hi m k (sortI row)) = lkO hi m s k from rfl] at e2
  rw [← rng0] at e1
  rw [show bkL ([] : List Int) = [] from rfl] at e2
  rw [show flR (lkR s 0) = D.fl [.fl []] from rfl] at e1
  rw [interp_succ]
  simp only [runF, U, d_l_kept, b_l_kept, enter]
  simp only [Y.Ss.sem, sem_asg, sem_par, sem_asgT, sem_setI, sem_ex, sem_ret, sem_retN, sem_ite, sem_frzV, sem_brk, sem_pass, sem_for, Y.E.sem.eq_1, Y.E.sem.eq_2, Y.E.sem.eq_3, Y.E.sem.eq_4, Y.E.sem.eq_5, Y.E.sem.eq_6, Y.E.sem.eq_7, Y.E.sem.eq_8, Y.E.sem.eq_9, Y.E.sem.eq_10, Y.E.sem.eq_11, Y.E.sem.eq_12, Y.E.sem.eq_13, Y.E.sem.eq_14, Y.E.sem.eq_15, Y.E.sem.eq_16, Y.E.sem.eq_17, Y.E.sem.eq_18, Y.E.sem.eq_19, Y.E.sem.eq_20, Y.E.sem.eq_21, Y.E.sem.eq_22, Y.E.sem.eq_23, Y.E.sem.eq_24, Y.E.sem.eq_25, Y.E.sem.eq_26, Y.E.sem.eq_27, Y.E.sem.eq_28, Y.E.sem.eq_29, Y.E.sem.eq_30, Y.E.sem.eq_31, Y.E.sem.eq_32, Y.E.sem.eq_33, Y.E.sem.eq_34, Y.Es.sem, Y.T.sem, sem_seq, sem_rng1, sem_rng2, sem_enm, sem_zip, sem_lc, Y.Oe.sem, Y.Ts.semAnd, Y.Ts.semOr, Y.Es.semAnd, Y.Es.semOr, CfN_call, CfN_glo]
  simp only [lkB, b_l_kept, Ss.nth, St.body, lkE, flR] at e1 e2
  have c1 : Sm (m : Int) := sm_of (by omega) (by omega)
  simp [rng1_ok c1]
  rw [e1]
  simp only [List.length_append, List.length_replicate] at e2
  simp at e2 ⊢
  rw [e2]
  simp [fzF, freeze, len_flR, lkR_len]
  exact cut_drop ho (by simp [rbi_bkL])
/-! ### two books of the law -/
theorem run_l_both (n : Nat) (w : Tw) (A B : List Int) (T S : Nat) (h : Hs) (ho : Okh h) (hA : A.length < HB) (hB : B.length < HB) (hT : T < HB) (hS : S < HB) 
    (hl : (firsts (comb w A B)).length < SZ) : interp PU (n + 2) f_l_both [.str (wd w.n), .tup [.fi (bkL A), .int T], .tup [.fi (bkL B), .int S]] h = .ok (.tup [.fi (bkL (comb w A B)), .int ((T * S : Nat) : Int)]) h := by
  let ENV : Option D → Option D → Option D → Env := fun a b c => [some (.str (wd w.n)), some (.tup [.fi (bkL A), .int T]), some (.tup [.fi (bkL B), .int S]), some (.ref h.length), a, b, c]
  let inner : Ss := (b_l_both.nth 1).body
  have step : ∀ (acc : List Int) (x y : Int) (t : List Int) (b c : Option D), x ∈ A → y ∈ B → comb w A B = acc ++ List.replicate (A.count x * B.count y) (two w x y) ++ t →
      forF (CfN (n + 1)) (.n 5) (inner.nth 0).body (.int y) (ENV (some (.int x)) b c) (h ++ [.dI (bkL acc)]) = .nx (ENV (some (.int x)) (some (.int y)) (some (.int (two w x y)))) (h ++ [.dI (bkL (acc ++ List.replicate (A.count x * B.count y) (two w x y)))]) := by
    intro acc x y t b c hx hy e
    have hok : Okh (h ++ [.dI (bkL acc)]) := okh_app ho (rbi_bkL _)
    have hfl : (firsts acc).length < SZ := by
      have := firsts_le acc (List.replicate (A.count x * B.count y) (two w x y) ++ t)
      rw [← List.append_assoc, ← e] at this
      omega
    have e1 := run_l_two n w x y _ hok
    have i1 : index (h ++ [.dI (bkL acc)]) (.fi (bkL A)) (.int x) = some (.int (A.count x)) := index_bk hx
    have i2 : index (h ++ [.dI (bkL acc)]) (.fi (bkL B)) (.int y) = some (.int (B.count y)) := index_bk hy
    have hA2 : A.count x < HB := by have := List.count_le_length (a := x) (l := A); omega
    have hB2 : B.count y < HB := by have := List.count_le_length (a := y) (l := B); omega
    have bm : bop .mul (h ++ [.dI (bkL acc)]) (.int (A.count x)) (.int (B.count y)) = .ok (.int ((A.count x * B.count y : Nat) : Int)) (h ++ [.dI (bkL acc)]) := by
      rw [bop_mulB (hb_big (by omega)) (hb_big (by omega)), Int.natCast_mul]
    have g := up_one (h := h) (A := acc) (w := two w x y)
    have st := fun ρ => set_up (ρ := ρ) (h := h) (A := acc) (w := two w x y) (Nat.mul_pos (dget_self hx) (dget_self hy)) hfl
    rw [forF_n]
    simp only [inner, b_l_both, Ss.nth, St.body, ENV]
    simp only [Y.Ss.sem, sem_asg, sem_par, sem_asgT, sem_setI, sem_ex, sem_ret, sem_retN, sem_ite, sem_frzV, sem_brk, sem_pass, sem_for, Y.E.sem.eq_1, Y.E.sem.eq_2, Y.E.sem.eq_3, Y.E.sem.eq_4, Y.E.sem.eq_5, Y.E.sem.eq_6, Y.E.sem.eq_7, Y.E.sem.eq_8, Y.E.sem.eq_9, Y.E.sem.eq_10, Y.E.sem.eq_11, Y.E.sem.eq_12, Y.E.sem.eq_13, Y.E.sem.eq_14, Y.E.sem.eq_15, Y.E.sem.eq_16, Y.E.sem.eq_17, Y.E.sem.eq_18, Y.E.sem.eq_19, Y.E.sem.eq_20, Y.E.sem.eq_21, Y.E.sem.eq_22, Y.E.sem.eq_23, Y.E.sem.eq_24, Y.E.sem.eq_25, Y.E.sem.eq_26, Y.E.sem.eq_27, Y.E.sem.eq_28, Y.E.sem.eq_29, Y.E.sem.eq_30, Y.E.sem.eq_31, Y.E.sem.eq_32, Y.E.sem.eq_33, Y.E.sem.eq_34, Y.Es.sem, Y.T.sem, sem_seq, sem_rng1, sem_rng2, sem_enm, sem_zip, sem_lc, Y.Oe.sem, Y.Ts.semAnd, Y.Ts.semOr, Y.Es.semAnd, Y.Es.semOr, CfN_call, CfN_glo]
    generalize interp PU (n + 1) = I at *
    simp [-Int.natCast_mul, i1, i2, e1, bm, mok_dI, g, st]
  have inn : ∀ (acc : List Int) (x : Int) (t : List Int) (a b c : Option D), x ∈ A → comb w A B = acc ++ combI w A B x (firsts B) ++ t → 
      ∃ b' c', forF (CfN (n + 1)) (.n 4) inner (.int x) (ENV a b c) (h ++ [.dI (bkL acc)]) = .nx (ENV (some (.int x)) b' c') (h ++ [.dI (bkL (acc ++ combI w A B x (firsts B)))]) := by
    intro acc x t a b c hx e
    obtain ⟨ρ', h', e1, b', c', rfl, rfl⟩ := loopS_pre D.int (forF (CfN (n + 1)) (.n 5) (inner.nth 0).body) (fun pre ρ h1 => ∃ b c, ρ = ENV (some (.int x)) b c ∧ h1 = h ++ [.dI (bkL (acc ++ combI w A B x pre))]) (firsts B) (by
      intro pre y post e1 ρ h1 ⟨b, c, hρ, hh⟩
      subst hρ hh
      obtain ⟨t1, e2⟩ := flat_pre (fun y => List.replicate (A.count x * B.count y) (two w x y)) e1
      refine ⟨_, _, step (acc ++ combI w A B x pre) x y (t1 ++ t) b c hx (firsts_mem.mp (by rw [e1]; simp)) (by rw [e]; unfold combI; rw [e2]; simp), _, _, rfl, ?_⟩
      unfold combI
      simp [List.flatMap_append]) (ENV (some (.int x)) b c) (h ++ [.dI (bkL acc)]) ⟨b, c, rfl, by simp [combI]⟩
    refine ⟨b', c', ?_⟩
    rw [forF_n]
    simp only [inner, b_l_both, Ss.nth, St.body, ENV] at e1 ⊢
    simp only [Y.Ss.sem, sem_asg, sem_par, sem_asgT, sem_setI, sem_ex, sem_ret, sem_retN, sem_ite, sem_frzV, sem_brk, sem_pass, sem_for, Y.E.sem.eq_1, Y.E.sem.eq_2, Y.E.sem.eq_3, Y.E.sem.eq_4, Y.E.sem.eq_5, Y.E.sem.eq_6, Y.E.sem.eq_7, Y.E.sem.eq_8, Y.E.sem.eq_9, Y.E.sem.eq_10, Y.E.sem.eq_11, Y.E.sem.eq_12, Y.E.sem.eq_13, Y.E.sem.eq_14, Y.E.sem.eq_15, Y.E.sem.eq_16, Y.E.sem.eq_17, Y.E.sem.eq_18, Y.E.sem.eq_19, Y.E.sem.eq_20, Y.E.sem.eq_21, Y.E.sem.eq_22, Y.E.sem.eq_23, Y.E.sem.eq_24, Y.E.sem.eq_25, Y.E.sem.eq_26, Y.E.sem.eq_27, Y.E.sem.eq_28, Y.E.sem.eq_29, Y.E.sem.eq_30, Y.E.sem.eq_31, Y.E.sem.eq_32, Y.E.sem.eq_33, Y.E.sem.eq_34, Y.Es.sem, Y.T.sem, sem_seq, sem_rng1, sem_rng2, sem_enm, sem_zip, sem_lc, Y.Oe.sem, Y.Ts.semAnd, Y.Ts.semOr, Y.Es.semAnd, Y.Es.semOr, CfN_call, CfN_glo]
    have it : itemsOf (.fi (bkL B)) = some ((firsts B).map D.int) := items_bk
    simp [seq_ok it] at e1 ⊢
    rw [e1]
    rfl
  obtain ⟨ρ', h', e1, a', b', c', rfl, rfl⟩ := loopS_pre D.int (forF (CfN (n + 1)) (.n 4) inner) (fun pre ρ h1 => ∃ a b c, ρ = ENV a b c ∧ h1 = h ++ [.dI (bkL (pre.flatMap fun x => combI w A B x (firsts B)))]) (firsts A) (by
      intro pre x post e1 ρ h1 ⟨a, b, c, hρ, hh⟩
      subst hρ hh
      obtain ⟨t1, e2⟩ := flat_pre (fun x => combI w A B x (firsts B)) e1
      obtain ⟨b', c', e3⟩ := inn (pre.flatMap fun x => combI w A B x (firsts B)) x t1 a b c (firsts_mem.mp (by rw [e1]; simp)) e2
      exact ⟨_, _, e3, _, _, _, rfl, by simp [List.flatMap_append]⟩) (ENV none none none) (h ++ [.dI (bkL [])]) ⟨none, none, none, rfl, by simp⟩
  have bm : ∀ h : Hs, bop .mul h (.int T) (.int S) = .ok (.int ((T * S : Nat) : Int)) h := fun h => by
      rw [bop_mulB (hb_big (by omega)) (hb_big (by omega)), Int.natCast_mul]
  show interp PU (n + 1 + 1) _ _ _ = _
  rw [interp_succ]
  simp only [inner, b_l_both, Ss.nth, St.body, ENV] at e1
  simp only [runF, U, d_l_both, b_l_both, enter]
  simp only [Y.Ss.sem, sem_asg, sem_par, sem_asgT, sem_setI, sem_ex, sem_ret, sem_retN, sem_ite, sem_frzV, sem_brk, sem_pass, sem_for, Y.E.sem.eq_1, Y.E.sem.eq_2, Y.E.sem.eq_3, Y.E.sem.eq_4, Y.E.sem.eq_5, Y.E.sem.eq_6, Y.E.sem.eq_7, Y.E.sem.eq_8, Y.E.sem.eq_9, Y.E.sem.eq_10, Y.E.sem.eq_11, Y.E.sem.eq_12, Y.E.sem.eq_13, Y.E.sem.eq_14, Y.E.sem.eq_15, Y.E.sem.eq_16, Y.E.sem.eq_17, Y.E.sem.eq_18, Y.E.sem.eq_19, Y.E.sem.eq_20, Y.E.sem.eq_21, Y.E.sem.eq_22, Y.E.sem.eq_23, Y.E.sem.eq_24, Y.E.sem.eq_25, Y.E.sem.eq_26, Y.E.sem.eq_27, Y.E.sem.eq_28, Y.E.sem.eq_29, Y.E.sem.eq_30, Y.E.sem.eq_31, Y.E.sem.eq_32, Y.E.sem.eq_33, Y.E.sem.eq_34, Y.Es.sem, Y.T.sem, sem_seq, sem_rng1, sem_rng2, sem_enm, sem_zip, sem_lc, Y.Oe.sem, Y.Ts.semAnd, Y.Ts.semOr, Y.Es.semAnd, Y.Es.semOr, CfN_call, CfN_glo]
  rw [show bkL ([] : List Int) = [] from rfl] at e1
  have it : itemsOf (.fi (bkL A)) = some ((firsts A).map D.int) := items_bk
  simp [-Int.natCast_mul, seq_ok it] at e1 ⊢
  rw [e1]
  simp [-Int.natCast_mul, fzF, freeze, bm]
  exact cut_drop ho (by simp [rbi_bkL])
end Y

set_option linter.all false
set_option maxRecDepth 100000
set_option maxHeartbeats 4000000
namespace Y
/-! ### outcomes of a saying -/
def dieN (X : List Int) : Nat → List Int
  | 0 => [0]
  | t + 1 => comb .plus (dieN X t) X
def outs : Sy → List Int
  | .num n => [n]
  | .dice m s => dieN (ldO 1 s.toNat 0) m.toNat
  | .pool w m s l => match w with
    | .high => lkO true m.toNat s.toNat l.toNat
    | .low => lkO false m.toNat s.toNat l.toNat
    | .again => dieN (ldO 4 s.toNat l) m.toNat
    | .burst => dieN (ldO 5 s.toNat l) m.toNat
    | .count => dieN (ldO 6 s.toNat l) m.toNat
  | .times n a => timL n (outs a)
  | .two w a b => comb w (outs a) (outs b)
theorem dieN_len (X : List Int) : ∀ t, (dieN X t).length = X.length ^ t
  | 0 => rfl
  | t + 1 => by rw [dieN, comb_len, dieN_len X t, Nat.pow_succ]
theorem pow_le_216 {s m : Nat} (hs : s ≤ 6) : (s ^ 3) ^ m ≤ 216 ^ m := Nat.pow_le_pow_left (by have : s ^ 3 ≤ 6 ^ 3 := Nat.pow_le_pow_left hs 3; omega) m
theorem pow_le_216' {s m : Nat} (hs1 : 1 ≤ s) (hs : s ≤ 6) : s ^ m ≤ 216 ^ m := Nat.pow_le_pow_left (by omega) m
/-- a saying made as the document says, not too deep, of not too many dice -/
theorem outs_len : ∀ {s : Sy}, Wg s → 0 < (outs s).length ∧ (outs s).length ≤ 216 ^ (lmF s).toNat
  | .num n, _ => by simp [outs, lmF]
  | .dice m s, ⟨h1, h2, h3, h4⟩ => by
    rw [outs, dieN_len, ldO_len]
    exact ⟨Nat.pow_pos (Nat.pow_pos (by omega)), pow_le_216 (by omega)⟩
  | .pool .high m s l, ⟨h1, h2, h3, h4, _⟩ => by
    rw [outs, lkO_len]
    exact ⟨Nat.pow_pos (by omega), pow_le_216' (by omega) (by omega)⟩
  | .pool .low m s l, ⟨h1, h2, h3, h4, _⟩ => by
    rw [outs, lkO_len]
    exact ⟨Nat.pow_pos (by omega), pow_le_216' (by omega) (by omega)⟩
  | .pool .again m s l, ⟨h1, h2, h3, h4, _⟩ => by
    rw [outs, dieN_len, ldO_len]
    exact ⟨Nat.pow_pos (Nat.pow_pos (by omega)), pow_le_216 (by omega)⟩
  | .pool .burst m s l, ⟨h1, h2, h3, h4, _⟩ => by
    rw [outs, dieN_len, ldO_len]
    exact ⟨Nat.pow_pos (Nat.pow_pos (by omega)), pow_le_216 (by omega)⟩
  | .pool .count m s l, ⟨h1, h2, h3, h4, _⟩ => by
    rw [outs, dieN_len, ldO_len]
    exact ⟨Nat.pow_pos (Nat.pow_pos (by omega)), pow_le_216 (by omega)⟩
  | .times n a, ⟨_, _, h⟩ => by
    rw [outs, timL_len]
    exact outs_len h
  | .two w a b, ⟨ha, hb⟩ => by
    rw [outs, comb_len]
    have h1 := outs_len ha
    have h2 := outs_len hb
    refine ⟨Nat.mul_pos h1.1 h2.1, ?_⟩
    rw [lmF, Int.toNat_add (wf_lm ha) (wf_lm hb), Nat.pow_add]
    exact Nat.mul_le_mul h1.2 h2.2
theorem outs_hb {s : Sy} (h : Wg s) (hl : lmF s ≤ 12) : (outs s).length < HB := by
  have h1 := (outs_len h).2
  have h2 : 216 ^ (lmF s).toNat ≤ 216 ^ 12 := Nat.pow_le_pow_right (by omega) (by omega)
  have h3 : 216 ^ 12 < HB := by decide +kernel
  omega
/-! ### bounds -/
def Wi (b : Nat) (A : List Int) : Prop := ∀ x ∈ A, -(b : Int) ≤ x ∧ x ≤ b
theorem Wi.few {b : Nat} {A : List Int} (h : Wi b A) (hb : b ≤ 10000) : Few A := fun x hx => by have := h x hx; omega
theorem wi_comb {w : Tw} {a b : Nat} {A B : List Int} (hA : Wi a A) (hB : Wi b B) (h1 : 1 ≤ a) : Wi (a + b) (comb w A B) := by
  intro z hz
  obtain ⟨x, hx, y, hy, rfl⟩ := comb_mem.mp hz
  have h1 := hA x hx
  have h2 := hB y hy
  cases w <;> simp only [two] <;> (try split) <;> omega
theorem wi_tim {n : Int} {a : Nat} {A : List Int} (hA : Wi a A) (h0 : 0 ≤ n) (h3 : n ≤ 3) : Wi (3 * a) (timL n A) := by
  intro z hz
  obtain ⟨x, hx, rfl⟩ := timL_mem.mp hz
  have h1 := hA x hx
  have cs : n = 0 ∨ n = 1 ∨ n = 2 ∨ n = 3 := by omega
  rcases cs with rfl | rfl | rfl | rfl <;> omega
theorem wi_dieN {X : List Int} (hX : Wi 18 X) : ∀ t, Wi (18 * t + 1) (dieN X t)
  | 0 => fun x hx => by simp [dieN] at hx; subst hx; omega
  | t + 1 => by
    have := wi_comb (w := .plus) (wi_dieN hX t) hX (by omega)
    intro x hx
    have := this x hx
    omega
theorem wi_ldO {w s : Nat} {l : Int} (hs : s ≤ 6) : Wi 18 (ldO w s l) := fun x hx => by have := ldO_mem hs hx; omega
/-! ### what is checked by counting -/
def sameB (A B : List Int) : Bool := decide (firsts A = firsts B) && (firsts A).all fun x => decide (A.count x = B.count x)
theorem sameB_bk {A B : List Int} (h : sameB A B = true) (T : Nat) : bkP A T = bkP B T := by
  unfold sameB at h
  rw [Bool.and_eq_true, decide_eq_true_eq, List.all_eq_true] at h
  unfold bkP bkF
  rw [← h.1]
  refine List.map_congr_left fun x hx => ?_
  have := h.2 x hx
  rw [decide_eq_true_eq] at this
  unfold frF
  rw [this]
theorem sameB_mem {A B : List Int} (h : sameB A B = true) {x : Int} : x ∈ A ↔ x ∈ B := by
  unfold sameB at h
  rw [Bool.and_eq_true, decide_eq_true_eq] at h
  rw [← firsts_mem, h.1, firsts_mem]
def dieChk : Bool := [1, 4, 5, 6].all fun w => (List.range 7).all fun s => (List.range 7).all fun l => (decide (w = 5) && !(decide (1 ≤ l) && decide (l ≤ 2))) || sameB (pdF 2 w s l) (ldO w s l)
theorem dieChk_ok : dieChk = true := by decide +kernel
def keptChk : Bool := [true, false].all fun hi => (List.range 4).all fun m => (List.range 7).all fun s => (List.range 4).all fun k => sameB (kpO hi m s k) (lkO hi m s k) && (lkO hi m s k).all fun x => decide (-18 ≤ x) && decide (x ≤ 18)
theorem keptChk_ok : keptChk = true := by decide +kernel
theorem die_same {w s l : Nat} (hw : w = 1 ∨ w = 4 ∨ w = 5 ∨ w = 6) (hs : s ≤ 6) (hl : l ≤ 6) (h5 : w = 5 → 1 ≤ l ∧ l ≤ 2) : sameB (pdF 2 w s l) (ldO w s l) = true := by
  have h := dieChk_ok
  unfold dieChk at h
  rw [List.all_eq_true] at h
  have h := h w (by simp; omega)
  rw [List.all_eq_true] at h
  have h := h s (by rw [List.mem_range]; omega)
  rw [List.all_eq_true] at h
  have h := h l (by rw [List.mem_range]; omega)
  rw [Bool.or_eq_true] at h
  rcases h with h | h
  · simp at h
    have := h5 h.1
    omega
  · exact h
theorem kept_same {hi : Bool} {m s k : Nat} (hm : m ≤ 3) (hs : s ≤ 6) (hk : k ≤ 3) : sameB (kpO hi m s k) (lkO hi m s k) = true ∧ Wi 18 (lkO hi m s k) := by
  have h := keptChk_ok
  unfold keptChk at h
  rw [List.all_eq_true] at h
  have h := h hi (by cases hi <;> simp)
  rw [List.all_eq_true] at h
  have h := h m (by rw [List.mem_range]; omega)
  rw [List.all_eq_true] at h
  have h := h s (by rw [List.mem_range]; omega)
  rw [List.all_eq_true] at h
  have h := h k (by rw [List.mem_range]; omega)
  rw [Bool.and_eq_true, List.all_eq_true] at h
  refine ⟨h.1, fun x hx => ?_⟩
  have := h.2 x hx
  simpa using this
theorem pdF_mem : ∀ (k : Nat) {w s : Nat} {l x : Int}, s ≤ 6 → x ∈ pdF k w s l → 0 ≤ x ∧ x ≤ 6 * (k + 1)
  | k, w, s, l, x, hs, h => by
    rw [pdF_eq] at h
    simp only [List.mem_flatMap, List.mem_range] at h
    obtain ⟨i, hi, h⟩ := h
    have hM : ∀ y ∈ pdM k w s l, 0 ≤ y ∧ y ≤ 6 * k := by
      cases k with
      | zero => intro y hy; simp [pdM] at hy; subst hy; omega
      | succ k => intro y hy; have := pdF_mem k hs hy; omega
    unfold pdSt at h
    split at h
    · have := List.eq_of_mem_replicate h
      subst this
      split <;> omega
    · split at h
      · simp only [List.mem_flatMap, List.mem_replicate] at h
        obtain ⟨y, hy, _, rfl⟩ := h
        have := hM y (firsts_mem.mp hy)
        unfold facI
        split <;> omega
      · have := List.eq_of_mem_replicate h
        subst this
        unfold facI
        omega
theorem few_pdF {k w s : Nat} {l : Int} (hs : s ≤ 6) (hk : k ≤ 5) : Few (pdF k w s l) := fun x hx => by have := pdF_mem k hs hx; omega
theorem wi_outs : ∀ {s : Sy}, Wg s → Wi (55 * 3 ^ s.dep) (outs s)
  | .num n, ⟨h1, h2⟩ => fun x hx => by simp [outs] at hx; subst hx; simp [Sy.dep]; omega
  | .dice m s, ⟨h1, h2, h3, h4⟩ => fun x hx => by
    have := wi_dieN (wi_ldO (w := 1) (l := 0) (show s.toNat ≤ 6 by omega)) m.toNat x hx
    simp [Sy.dep]; omega
  | .pool .high m s l, ⟨h1, h2, h3, h4, h5, h6⟩ => fun x hx => by
    have := (kept_same (hi := true) (m := m.toNat) (s := s.toNat) (k := l.toNat) (by omega) (by omega) (by omega)).2 x hx
    simp [Sy.dep]; omega
  | .pool .low m s l, ⟨h1, h2, h3, h4, h5, h6⟩ => fun x hx => by
    have := (kept_same (hi := false) (m := m.toNat) (s := s.toNat) (k := l.toNat) (by omega) (by omega) (by omega)).2 x hx
    simp [Sy.dep]; omega
  | .pool .again m s l, ⟨h1, h2, h3, h4, _⟩ => fun x hx => by
    have := wi_dieN (wi_ldO (w := 4) (l := l) (show s.toNat ≤ 6 by omega)) m.toNat x hx
    simp [Sy.dep]; omega
  | .pool .burst m s l, ⟨h1, h2, h3, h4, _⟩ => fun x hx => by
    have := wi_dieN (wi_ldO (w := 5) (l := l) (show s.toNat ≤ 6 by omega)) m.toNat x hx
    simp [Sy.dep]; omega
  | .pool .count m s l, ⟨h1, h2, h3, h4, _⟩ => fun x hx => by
    have := wi_dieN (wi_ldO (w := 6) (l := l) (show s.toNat ≤ 6 by omega)) m.toNat x hx
    simp [Sy.dep]; omega
  | .times n a, ⟨h1, h2, h⟩ => fun x hx => by
    have := wi_tim (wi_outs h) h1 h2 x hx
    simp only [Sy.dep, Nat.pow_succ]
    omega
  | .two w a b, ⟨ha, hb⟩ => fun x hx => by
    have p1 : 3 ^ a.dep ≤ 3 ^ max a.dep b.dep := Nat.pow_le_pow_right (by omega) (by omega)
    have p2 : 3 ^ b.dep ≤ 3 ^ max a.dep b.dep := Nat.pow_le_pow_right (by omega) (by omega)
    have p3 : 0 < 3 ^ a.dep := Nat.pow_pos (by omega)
    have := wi_comb (w := w) (wi_outs ha) (wi_outs hb) (by omega) x hx
    simp only [Sy.dep, Nat.pow_succ]
    omega
theorem few_outs {s : Sy} (h : Wg s) (hd : s.dep ≤ 4) : Few (outs s) := by
  have p1 : 3 ^ s.dep ≤ 3 ^ 4 := Nat.pow_le_pow_right (by omega) hd
  exact (wi_outs h).few (by omega)
end Y

set_option linter.all false
set_option maxRecDepth 100000
set_option maxHeartbeats 4000000
namespace Y
/-! ### book_of -/
theorem bop_addT {h : Hs} {a b : List D} (hl : a.length + b.length ≤ SZ) : bop .add h (.tup a) (.tup b) = .ok (.tup (a ++ b)) h := by simp only [bop, opAdd, if_pos hl]
def boE (v0 : D) (a b c d e f : Option D) : Env := [some v0, a, b, c, d, e, f]
theorem comb_few {A B : List Int} {w : Tw} (h : Few (comb w A B)) : (firsts (comb w A B)).length < SZ := h.len
theorem dieN_few {X : List Int} (hX : Wi 18 X) {t : Nat} (ht : t ≤ 4) : Few (dieN X t) := (wi_dieN hX t).few (by omega)
theorem hb_pow {s m : Nat} (hs : s ≤ 6) (hm : m ≤ 4) : (s ^ 3) ^ m < HB := by
  have h1 : (s ^ 3) ^ m ≤ 216 ^ m := pow_le_216 hs
  have h2 : 216 ^ m ≤ 216 ^ 4 := Nat.pow_le_pow_right (by omega) hm
  have h3 : 216 ^ 4 < HB := by decide +kernel
  omega
def boB : Ss := (((((b_book_of.nth 3).body).nth 2).body))
theorem bo_loop {v0 : D} {a d e f : Option D} (X : List Int) (s m : Nat) (h : Hs) (ho : Okh h) (hs1 : 1 ≤ s) (hs : s ≤ 6) (hm : m ≤ 3) (hX : X.length = s ^ 3) (hW : Wi 18 X) (n : Nat) : ∃ d',
    loopS (forF (CfN (n + 5)) (.n 4) boB) (rngD 0 m) (boE v0 a (some (.fi (bkP X (s ^ 3)))) (some (.fi [(0, .tup [.int 1, .int 1])])) d e f) h = .nx (boE v0 a (some (.fi (bkP X (s ^ 3)))) (some (.fi (bkP (dieN X m) ((s ^ 3) ^ m)))) d' e f) h := by
  have h3 : 0 < s ^ 3 := Nat.pow_pos hs1
  obtain ⟨ρ1, h1, e1, d', rfl, rfl⟩ := loopS_pre (fun i => D.int (i : Nat)) (forF (CfN (n + 5)) (.n 4) boB) (fun (pre : List Nat) ρ h1 => ∃ d, ρ = boE v0 a (some (.fi (bkP X (s ^ 3)))) (some (.fi (bkP (dieN X pre.length) ((s ^ 3) ^ pre.length)))) d e f ∧ h1 = h) (List.range m) (by
    intro pre i post e1 ρ h1 ⟨d, hρ, hh⟩
    subst hρ hh
    have hlen := congrArg List.length e1
    simp at hlen
    have p := run_put n .plus (dieN X pre.length) X ((s ^ 3) ^ pre.length) (s ^ 3) _ ho (by rw [dieN_len, hX]; exact Nat.le_refl _) (by rw [hX]; exact Nat.le_refl _) (hb_pow hs (by omega)) (hb_pow (m := 1) hs (by omega) |> fun z => by simpa using z) (by rw [← Nat.pow_succ]; exact hb_pow hs (by omega)) (Nat.pow_pos h3) h3 (by rw [comb_len, dieN_len, hX]; exact Nat.le_refl _) (dieN_few hW (t := pre.length + 1) (by omega)).len
    refine ⟨boE v0 a (some (.fi (bkP X (s ^ 3)))) (some (.fi (bkP (dieN X (pre.length + 1)) ((s ^ 3) ^ (pre.length + 1))))) (some (.int (i : Nat))) e f, _, ?_, some (.int (i : Nat)), by simp, rfl⟩
    rw [forF_n]
    simp only [boB, b_book_of, Ss.nth, St.body, boE]
    simp only [Y.Ss.sem, sem_asg, sem_par, sem_asgT, sem_setI, sem_ex, sem_ret, sem_retN, sem_ite, sem_frzV, sem_brk, sem_pass, sem_for, Y.E.sem.eq_1, Y.E.sem.eq_2, Y.E.sem.eq_3, Y.E.sem.eq_4, Y.E.sem.eq_5, Y.E.sem.eq_6, Y.E.sem.eq_7, Y.E.sem.eq_8, Y.E.sem.eq_9, Y.E.sem.eq_10, Y.E.sem.eq_11, Y.E.sem.eq_12, Y.E.sem.eq_13, Y.E.sem.eq_14, Y.E.sem.eq_15, Y.E.sem.eq_16, Y.E.sem.eq_17, Y.E.sem.eq_18, Y.E.sem.eq_19, Y.E.sem.eq_20, Y.E.sem.eq_21, Y.E.sem.eq_22, Y.E.sem.eq_23, Y.E.sem.eq_24, Y.E.sem.eq_25, Y.E.sem.eq_26, Y.E.sem.eq_27, Y.E.sem.eq_28, Y.E.sem.eq_29, Y.E.sem.eq_30, Y.E.sem.eq_31, Y.E.sem.eq_32, Y.E.sem.eq_33, Y.E.sem.eq_34, Y.Es.sem, Y.T.sem, sem_seq, sem_rng1, sem_rng2, sem_enm, sem_zip, sem_lc, Y.Oe.sem, Y.Ts.semAnd, Y.Ts.semOr, Y.Es.semAnd, Y.Es.semOr, CfN_call, CfN_glo]
    rw [show (Tw.plus).n = 7 from rfl, ← Nat.pow_succ] at p
    generalize interp PU (n + 5) = I at *
    simp [p]
    rfl) (boE v0 a (some (.fi (bkP X (s ^ 3)))) (some (.fi (bkP (dieN X 0) ((s ^ 3) ^ 0)))) d e f) h ⟨d, rfl, rfl⟩
  rw [List.length_range, ← rng0] at e1
  rw [show bkP (dieN X 0) ((s ^ 3) ^ 0) = [(0, frD (1, 1))] from bk_one 0] at e1
  exact ⟨d', e1⟩
@[simp] theorem in_hl2 {h : Hs} {k : Nat} (hk : k < 13) : cop .isin h (.str (wd k)) (.tup [.str (wd 2), .str (wd 3)]) = .ok (.bl (decide (k = 2 ∨ k = 3))) h := by
  rw [cop_in (by simp)]
  simp [hk, eq_comm]
theorem in_dice {h : Hs} {k : Nat} (hk : k < 13) : cop .isin h (.str (wd k)) (gloV 1) = .ok (.bl (decide (1 ≤ k ∧ k ≤ 6))) h := by
  rw [show gloV 1 = .tup [.str (wd 1), .str (wd 2), .str (wd 3), .str (wd 4), .str (wd 5), .str (wd 6)] from rfl]
  rw [cop_in (by simp)]
  simp [hk]
  rw [Bool.eq_iff_iff]
  simp
  omega
theorem bo_dice (n : Nat) (w m s : Nat) (l : Nat) (h : Hs) (ho : Okh h) (hw : w = 1 ∨ w = 4 ∨ w = 5 ∨ w = 6) (hm : m ≤ 3) (hs1 : 2 ≤ s) (hs : s ≤ 6) (hl : l ≤ 6) (h5 : w = 5 → 1 ≤ l ∧ l ≤ 2) (v0 : List D) (e0 : v0 = if w = 1 then [.str (wd w), .int m, .int s] else [.str (wd w), .int m, .int s, .int l]) (hl1 : w = 1 → l = 0) :
    interp PU (n + 8) f_book_of [.tup v0] h = .ok (.fi (bkP (dieN (ldO w s l) m) ((s ^ 3) ^ m))) h := by
  have hw13 : w < 13 := by omega
  have e1 := run_one_die 2 w s l n h ho hw13 (by omega) hs (by omega) ⟨fun _ => by omega, fun z => by have := h5 z; omega⟩ (fun k' w' l' hk' => few_pdF hs (by omega))
  rw [sameB_bk (die_same hw hs hl h5)] at e1
  obtain ⟨d', e2⟩ := bo_loop (v0 := .tup v0) (a := some (.str (wd w))) (d := none) (e := none) (f := none) (ldO w s l) s m h ho (by omega) hs hm (ldO_len w s l) (wi_ldO hs) (n + 2)
  have c1 : Sm (m : Int) := sm_of (by omega) (by omega)
  have i0 : index h (.tup v0) (.int 0) = some (.str (wd w)) := by subst e0; split <;> simp
  have i1 : index h (.tup v0) (.int 1) = some (.int m) := by subst e0; split <;> simp
  have i2 : index h (.tup v0) (.int 2) = some (.int s) := by subst e0; split <;> simp
  have i3 : index h (.tup (v0 ++ [.int 0])) (.int 3) = some (.int l) := by
    subst e0
    split
    · rename_i c; rw [hl1 c]; simp
    · simp
  have hc : bop .add h (.tup v0) (.tup [.int 0]) = .ok (.tup (v0 ++ [.int 0])) h := bop_addT (by subst e0; split <;> simp)
  show interp PU (n + 7 + 1) _ _ _ = _
  rw [interp_succ]
  rw [show n + 2 + 5 = n + 7 by omega] at e1 e2
  simp only [boB, b_book_of, Ss.nth, St.body, boE] at e2
  simp only [runF, U, d_book_of, b_book_of, enter]
  simp only [Y.Ss.sem, sem_asg, sem_par, sem_asgT, sem_setI, sem_ex, sem_ret, sem_retN, sem_ite, sem_frzV, sem_brk, sem_pass, sem_for, Y.E.sem.eq_1, Y.E.sem.eq_2, Y.E.sem.eq_3, Y.E.sem.eq_4, Y.E.sem.eq_5, Y.E.sem.eq_6, Y.E.sem.eq_7, Y.E.sem.eq_8, Y.E.sem.eq_9, Y.E.sem.eq_10, Y.E.sem.eq_11, Y.E.sem.eq_12, Y.E.sem.eq_13, Y.E.sem.eq_14, Y.E.sem.eq_15, Y.E.sem.eq_16, Y.E.sem.eq_17, Y.E.sem.eq_18, Y.E.sem.eq_19, Y.E.sem.eq_20, Y.E.sem.eq_21, Y.E.sem.eq_22, Y.E.sem.eq_23, Y.E.sem.eq_24, Y.E.sem.eq_25, Y.E.sem.eq_26, Y.E.sem.eq_27, Y.E.sem.eq_28, Y.E.sem.eq_29, Y.E.sem.eq_30, Y.E.sem.eq_31, Y.E.sem.eq_32, Y.E.sem.eq_33, Y.E.sem.eq_34, Y.Es.sem, Y.T.sem, sem_seq, sem_rng1, sem_rng2, sem_enm, sem_zip, sem_lc, Y.Oe.sem, Y.Ts.semAnd, Y.Ts.semOr, Y.Es.semAnd, Y.Es.semOr, CfN_call, CfN_glo]
  have w0 : ¬ w = 0 := by omega
  have w23 : ¬ (w = 2 ∨ w = 3) := by omega
  have w2 : ¬ 2 = w := by omega
  have w3 : ¬ 3 = w := by omega
  have w16 : 1 ≤ w ∧ w ≤ 6 := by omega
  have hA := in_dice (h := h) hw13
  have ho' := ho
  generalize interp PU (n + 7) = I at *
  simp [i0, i1, i2, i3, hc, w0, w2, w3, hA, w16, hw13, e1, rng1_ok c1, e2]
  exact cut_ok ho' (rb_fi_bkP _ _)
theorem toNat_of {m : Int} (h : 0 ≤ m) : ∃ k : Nat, m = k := ⟨m.toNat, by omega⟩
theorem run_book_of : ∀ (s : Sy) (n : Nat) (h : Hs), Okh h → Wg s → s.dep ≤ 4 → lmF s ≤ 12 → interp PU (n + s.dep + 8) f_book_of [s.toD] h = .ok (.fi (bkP (outs s) (outs s).length)) h
  | .num a, n, h, ho, _, _, _ => by
    show interp PU (n + 7 + 1) _ _ _ = _
    rw [interp_succ]
    rw [show bkP (outs (.num a)) (outs (.num a)).length = [(a, frD (1, 1))] from bk_one a]
    simp only [runF, U, d_book_of, b_book_of, enter]
    simp only [Y.Ss.sem, sem_asg, sem_par, sem_asgT, sem_setI, sem_ex, sem_ret, sem_retN, sem_ite, sem_frzV, sem_brk, sem_pass, sem_for, Y.E.sem.eq_1, Y.E.sem.eq_2, Y.E.sem.eq_3, Y.E.sem.eq_4, Y.E.sem.eq_5, Y.E.sem.eq_6, Y.E.sem.eq_7, Y.E.sem.eq_8, Y.E.sem.eq_9, Y.E.sem.eq_10, Y.E.sem.eq_11, Y.E.sem.eq_12, Y.E.sem.eq_13, Y.E.sem.eq_14, Y.E.sem.eq_15, Y.E.sem.eq_16, Y.E.sem.eq_17, Y.E.sem.eq_18, Y.E.sem.eq_19, Y.E.sem.eq_20, Y.E.sem.eq_21, Y.E.sem.eq_22, Y.E.sem.eq_23, Y.E.sem.eq_24, Y.E.sem.eq_25, Y.E.sem.eq_26, Y.E.sem.eq_27, Y.E.sem.eq_28, Y.E.sem.eq_29, Y.E.sem.eq_30, Y.E.sem.eq_31, Y.E.sem.eq_32, Y.E.sem.eq_33, Y.E.sem.eq_34, Y.Es.sem, Y.T.sem, sem_seq, sem_rng1, sem_rng2, sem_enm, sem_zip, sem_lc, Y.Oe.sem, Y.Ts.semAnd, Y.Ts.semOr, Y.Es.semAnd, Y.Es.semOr, CfN_call, CfN_glo]
    simp [Sy.toD, frD]
    exact cut_ok ho rfl
  | .dice m s, n, h, ho, hw, _, _ => by
    obtain ⟨h1, h2, h3, h4⟩ := hw
    obtain ⟨m, rfl⟩ := toNat_of (show 0 ≤ m by omega)
    obtain ⟨s, rfl⟩ := toNat_of (show 0 ≤ s by omega)
    have e := bo_dice n 1 m s 0 h ho (.inl rfl) (by omega) (by omega) (by omega) (by omega) (by omega) _ rfl (by omega)
    rw [outs, dieN_len, ldO_len]
    exact e
  | .pool .high m s l, n, h, ho, ⟨h1, h2, h3, h4, h5, h6⟩, _, _ => by
    obtain ⟨m, rfl⟩ := toNat_of (show 0 ≤ m by omega)
    obtain ⟨s, rfl⟩ := toNat_of (show 0 ≤ s by omega)
    obtain ⟨l, rfl⟩ := toNat_of (show 0 ≤ l by omega)
    obtain ⟨k1, k2⟩ := kept_same (hi := true) (m := m) (s := s) (k := l) (by omega) (by omega) (by omega)
    have e := run_kept (n + 2) true m s l h ho (by omega) (by omega) (by omega) (by omega) (fun x hx => k2.few (by omega) x ((sameB_mem k1).mp hx))
    rw [sameB_bk k1] at e
    rw [outs, lkO_len]
    show interp PU (n + 7 + 1) _ _ _ = _
    rw [interp_succ]
    simp only [runF, U, d_book_of, b_book_of, enter]
    simp only [Y.Ss.sem, sem_asg, sem_par, sem_asgT, sem_setI, sem_ex, sem_ret, sem_retN, sem_ite, sem_frzV, sem_brk, sem_pass, sem_for, Y.E.sem.eq_1, Y.E.sem.eq_2, Y.E.sem.eq_3, Y.E.sem.eq_4, Y.E.sem.eq_5, Y.E.sem.eq_6, Y.E.sem.eq_7, Y.E.sem.eq_8, Y.E.sem.eq_9, Y.E.sem.eq_10, Y.E.sem.eq_11, Y.E.sem.eq_12, Y.E.sem.eq_13, Y.E.sem.eq_14, Y.E.sem.eq_15, Y.E.sem.eq_16, Y.E.sem.eq_17, Y.E.sem.eq_18, Y.E.sem.eq_19, Y.E.sem.eq_20, Y.E.sem.eq_21, Y.E.sem.eq_22, Y.E.sem.eq_23, Y.E.sem.eq_24, Y.E.sem.eq_25, Y.E.sem.eq_26, Y.E.sem.eq_27, Y.E.sem.eq_28, Y.E.sem.eq_29, Y.E.sem.eq_30, Y.E.sem.eq_31, Y.E.sem.eq_32, Y.E.sem.eq_33, Y.E.sem.eq_34, Y.Es.sem, Y.T.sem, sem_seq, sem_rng1, sem_rng2, sem_enm, sem_zip, sem_lc, Y.Oe.sem, Y.Ts.semAnd, Y.Ts.semOr, Y.Es.semAnd, Y.Es.semOr, CfN_call, CfN_glo]
    simp at e
    generalize interp PU (n + 7) = I at *
    simp [Sy.toD, e]
    exact cut_ok ho (rb_fi_bkP _ _)
  | .pool .low m s l, n, h, ho, ⟨h1, h2, h3, h4, h5, h6⟩, _, _ => by
    obtain ⟨m, rfl⟩ := toNat_of (show 0 ≤ m by omega)
    obtain ⟨s, rfl⟩ := toNat_of (show 0 ≤ s by omega)
    obtain ⟨l, rfl⟩ := toNat_of (show 0 ≤ l by omega)
    obtain ⟨k1, k2⟩ := kept_same (hi := false) (m := m) (s := s) (k := l) (by omega) (by omega) (by omega)
    have e := run_kept (n + 2) false m s l h ho (by omega) (by omega) (by omega) (by omega) (fun x hx => k2.few (by omega) x ((sameB_mem k1).mp hx))
    rw [sameB_bk k1] at e
    rw [outs, lkO_len]
    show interp PU (n + 7 + 1) _ _ _ = _
    rw [interp_succ]
    simp only [runF, U, d_book_of, b_book_of, enter]
    simp only [Y.Ss.sem, sem_asg, sem_par, sem_asgT, sem_setI, sem_ex, sem_ret, sem_retN, sem_ite, sem_frzV, sem_brk, sem_pass, sem_for, Y.E.sem.eq_1, Y.E.sem.eq_2, Y.E.sem.eq_3, Y.E.sem.eq_4, Y.E.sem.eq_5, Y.E.sem.eq_6, Y.E.sem.eq_7, Y.E.sem.eq_8, Y.E.sem.eq_9, Y.E.sem.eq_10, Y.E.sem.eq_11, Y.E.sem.eq_12, Y.E.sem.eq_13, Y.E.sem.eq_14, Y.E.sem.eq_15, Y.E.sem.eq_16, Y.E.sem.eq_17, Y.E.sem.eq_18, Y.E.sem.eq_19, Y.E.sem.eq_20, Y.E.sem.eq_21, Y.E.sem.eq_22, Y.E.sem.eq_23, Y.E.sem.eq_24, Y.E.sem.eq_25, Y.E.sem.eq_26, Y.E.sem.eq_27, Y.E.sem.eq_28, Y.E.sem.eq_29, Y.E.sem.eq_30, Y.E.sem.eq_31, Y.E.sem.eq_32, Y.E.sem.eq_33, Y.E.sem.eq_34, Y.Es.sem, Y.T.sem, sem_seq, sem_rng1, sem_rng2, sem_enm, sem_zip, sem_lc, Y.Oe.sem, Y.Ts.semAnd, Y.Ts.semOr, Y.Es.semAnd, Y.Es.semOr, CfN_call, CfN_glo]
    simp at e
    generalize interp PU (n + 7) = I at *
    simp [Sy.toD, e]
    exact cut_ok ho (rb_fi_bkP _ _)
  | .pool .again m s l, n, h, ho, ⟨h1, h2, h3, h4, h5, h6⟩, _, _ => by
    obtain ⟨m, rfl⟩ := toNat_of (show 0 ≤ m by omega)
    obtain ⟨s, rfl⟩ := toNat_of (show 0 ≤ s by omega)
    obtain ⟨l, rfl⟩ := toNat_of (show 0 ≤ l by omega)
    have e := bo_dice n 4 m s l h ho (by omega) (by omega) (by omega) (by omega) (by omega) (by omega) _ rfl (by omega)
    rw [outs, dieN_len, ldO_len]
    exact e
  | .pool .burst m s l, n, h, ho, ⟨h1, h2, h3, h4, h5, h6⟩, _, _ => by
    obtain ⟨m, rfl⟩ := toNat_of (show 0 ≤ m by omega)
    obtain ⟨s, rfl⟩ := toNat_of (show 0 ≤ s by omega)
    obtain ⟨l, rfl⟩ := toNat_of (show 0 ≤ l by omega)
    have e := bo_dice n 5 m s l h ho (by omega) (by omega) (by omega) (by omega) (by omega) (by omega) _ rfl (by omega)
    rw [outs, dieN_len, ldO_len]
    exact e
  | .pool .count m s l, n, h, ho, ⟨h1, h2, h3, h4, h5, h6⟩, _, _ => by
    obtain ⟨m, rfl⟩ := toNat_of (show 0 ≤ m by omega)
    obtain ⟨s, rfl⟩ := toNat_of (show 0 ≤ s by omega)
    obtain ⟨l, rfl⟩ := toNat_of (show 0 ≤ l by omega)
    have e := bo_dice n 6 m s l h ho (by omega) (by omega) (by omega) (by omega) (by omega) (by omega) _ rfl (by omega)
    rw [outs, dieN_len, ldO_len]
    exact e
  | .times a b, n, h, ho, hw, hd, hl => by
    have hwf := hw
    obtain ⟨h1, h2, h3⟩ := hw
    simp only [Sy.dep] at hd
    have ihh := fun h' ho' => run_book_of b n h' ho' h3 (by omega) hl
    have hT := outs_hb h3 hl
    have hT0 := (outs_len h3).1
    have hfew : Few (timL a (outs b)) := few_outs (s := .times a b) hwf (by simp only [Sy.dep]; omega)
    have hlen := timL_len a (outs b)
    show interp PU (n + (b.dep + 1) + 7 + 1) _ _ _ = _
    rw [show n + b.dep + 8 = n + (b.dep + 1) + 7 by omega] at ihh
    let W : List Int := outs b
    obtain ⟨ρ1, h1', e1, d', rfl, rfl⟩ := loopS_pre D.int (forF (CfN (n + (b.dep + 1) + 7)) (.n 6) (((((b_book_of.nth 4).body).nth 2).body))) (fun (pre : List Int) ρ h1 => ∃ d, ρ = boE (.tup [.str (wd 12), .int a, b.toD]) (some (.str (wd 12))) none (some (.ref h.length)) none (some (.fi (bkP W W.length))) d ∧ h1 = h ++ [.dI (bkP (pre.flatMap fun x => List.replicate (W.count x) (x * a)) W.length)]) (firsts W) (by
      intro pre x post e1 ρ h1 ⟨d, hρ, hh⟩
      subst hρ hh
      obtain ⟨t1, e2⟩ := flat_pre (fun x => List.replicate (W.count x) (x * a)) e1
      rw [show ((firsts W).flatMap fun x => List.replicate (W.count x) (x * a)) = timL a W from rfl] at e2
      have hx : x ∈ W := firsts_mem.mp (by rw [e1]; simp)
      have hl2 := congrArg List.length e2
      rw [hlen] at hl2
      simp only [List.length_append, List.length_replicate] at hl2
      rw [show timL a (outs b) = timL a W from rfl, e2, List.append_assoc] at hfew
      have e3 : ((pre ++ [x]).flatMap fun x => List.replicate (W.count x) (x * a)) = (pre.flatMap fun x => List.replicate (W.count x) (x * a)) ++ List.replicate (W.count x) (x * a) := by rw [List.flatMap_append]; simp
      rw [e3]
      generalize (pre.flatMap fun x => List.replicate (W.count x) (x * a)) = acc at *
      have a1 := run_added (n + (b.dep + 1) + 3) acc W.length (x * a) (W.count x) h ho (dget_self hx) (by have : W.length = (outs b).length := rfl; omega) List.count_le_length hT hfew.pre.len
      have i1 : index (h ++ [.dI (bkP acc W.length)]) (.fi (bkP W W.length)) (.int x) = some (frD (fr (W.count x) W.length)) := index_bk hx
      have bm : bop .mul (h ++ [.dI (bkP acc W.length)]) (.int x) (.int a) = .ok (.int (x * a)) (h ++ [.dI (bkP acc W.length)]) := bop_mul (.inr (by omega))
      refine ⟨boE (.tup [.str (wd 12), .int a, b.toD]) (some (.str (wd 12))) none (some (.ref h.length)) none (some (.fi (bkP W W.length))) (some (.int x)), _, ?_, some (.int x), rfl, rfl⟩
      rw [forF_n]
      simp only [b_book_of, Ss.nth, St.body, boE]
      simp only [Y.Ss.sem, sem_asg, sem_par, sem_asgT, sem_setI, sem_ex, sem_ret, sem_retN, sem_ite, sem_frzV, sem_brk, sem_pass, sem_for, Y.E.sem.eq_1, Y.E.sem.eq_2, Y.E.sem.eq_3, Y.E.sem.eq_4, Y.E.sem.eq_5, Y.E.sem.eq_6, Y.E.sem.eq_7, Y.E.sem.eq_8, Y.E.sem.eq_9, Y.E.sem.eq_10, Y.E.sem.eq_11, Y.E.sem.eq_12, Y.E.sem.eq_13, Y.E.sem.eq_14, Y.E.sem.eq_15, Y.E.sem.eq_16, Y.E.sem.eq_17, Y.E.sem.eq_18, Y.E.sem.eq_19, Y.E.sem.eq_20, Y.E.sem.eq_21, Y.E.sem.eq_22, Y.E.sem.eq_23, Y.E.sem.eq_24, Y.E.sem.eq_25, Y.E.sem.eq_26, Y.E.sem.eq_27, Y.E.sem.eq_28, Y.E.sem.eq_29, Y.E.sem.eq_30, Y.E.sem.eq_31, Y.E.sem.eq_32, Y.E.sem.eq_33, Y.E.sem.eq_34, Y.Es.sem, Y.T.sem, sem_seq, sem_rng1, sem_rng2, sem_enm, sem_zip, sem_lc, Y.Oe.sem, Y.Ts.semAnd, Y.Ts.semOr, Y.Es.semAnd, Y.Es.semOr, CfN_call, CfN_glo]
      rw [show n + (b.dep + 1) + 3 + 4 = n + (b.dep + 1) + 7 by omega] at a1
      generalize interp PU (n + (b.dep + 1) + 7) = I at *
      simp [i1, bm, a1]) (boE (.tup [.str (wd 12), .int a, b.toD]) (some (.str (wd 12))) none (some (.ref h.length)) none (some (.fi (bkP W W.length))) none) (h ++ [.dI (bkP [] W.length)]) ⟨none, rfl, by simp⟩
    rw [show ((firsts W).flatMap fun x => List.replicate (W.count x) (x * a)) = timL a W from rfl] at e1
    rw [show bkP ([] : List Int) W.length = [] from rfl] at e1
    have ih := ihh _ (okh_app ho (show (Ob.dI []).rb (h.length + 1) = true from rfl))
    have it : itemsOf (.fi (bkP (outs b) (outs b).length)) = some ((firsts (outs b)).map D.int) := items_bk
    rw [interp_succ]
    simp only [b_book_of, Ss.nth, St.body, boE] at e1
    simp only [runF, U, d_book_of, b_book_of, enter]
    simp only [Y.Ss.sem, sem_asg, sem_par, sem_asgT, sem_setI, sem_ex, sem_ret, sem_retN, sem_ite, sem_frzV, sem_brk, sem_pass, sem_for, Y.E.sem.eq_1, Y.E.sem.eq_2, Y.E.sem.eq_3, Y.E.sem.eq_4, Y.E.sem.eq_5, Y.E.sem.eq_6, Y.E.sem.eq_7, Y.E.sem.eq_8, Y.E.sem.eq_9, Y.E.sem.eq_10, Y.E.sem.eq_11, Y.E.sem.eq_12, Y.E.sem.eq_13, Y.E.sem.eq_14, Y.E.sem.eq_15, Y.E.sem.eq_16, Y.E.sem.eq_17, Y.E.sem.eq_18, Y.E.sem.eq_19, Y.E.sem.eq_20, Y.E.sem.eq_21, Y.E.sem.eq_22, Y.E.sem.eq_23, Y.E.sem.eq_24, Y.E.sem.eq_25, Y.E.sem.eq_26, Y.E.sem.eq_27, Y.E.sem.eq_28, Y.E.sem.eq_29, Y.E.sem.eq_30, Y.E.sem.eq_31, Y.E.sem.eq_32, Y.E.sem.eq_33, Y.E.sem.eq_34, Y.Es.sem, Y.T.sem, sem_seq, sem_rng1, sem_rng2, sem_enm, sem_zip, sem_lc, Y.Oe.sem, Y.Ts.semAnd, Y.Ts.semOr, Y.Es.semAnd, Y.Es.semOr, CfN_call, CfN_glo]
    have hA := in_dice (h := h) (k := 12) (by omega)
    generalize interp PU (n + (b.dep + 1) + 7) = I at *
    simp [Sy.toD, hA, ih, seq_ok it]
    simp only [W] at e1
    rw [e1]
    simp [fzF, freeze]
    rw [outs, timL_len]
    exact cut_drop ho (rb_fi_bkP _ _)
  | .two w a b, n, h, ho, hw, hd, hl => by
    have hwf := hw
    obtain ⟨ha, hb⟩ := hw
    simp only [Sy.dep] at hd
    have la := wf_lm ha
    have lb := wf_lm hb
    simp only [lmF] at hl
    have ea := run_book_of a (n + max a.dep b.dep - a.dep) h ho ha (by omega) (by omega)
    have eb := run_book_of b (n + max a.dep b.dep - b.dep) h ho hb (by omega) (by omega)
    rw [show n + max a.dep b.dep - a.dep + a.dep + 8 = n + max a.dep b.dep + 8 by omega] at ea
    rw [show n + max a.dep b.dep - b.dep + b.dep + 8 = n + max a.dep b.dep + 8 by omega] at eb
    have hTS := outs_hb (s := .two w a b) hwf (by simp only [lmF]; omega)
    rw [outs, comb_len] at hTS
    have ep := run_put (n + max a.dep b.dep + 3) w (outs a) (outs b) _ _ h ho (Nat.le_refl _) (Nat.le_refl _) (outs_hb ha (by omega)) (outs_hb hb (by omega)) hTS (outs_len ha).1 (outs_len hb).1 (by rw [comb_len]; exact Nat.le_refl _) (few_outs (s := .two w a b) hwf (by simp only [Sy.dep]; omega)).len
    rw [show n + max a.dep b.dep + 3 + 5 = n + max a.dep b.dep + 8 by omega] at ep
    show interp PU (n + max a.dep b.dep + 8 + 1) _ _ _ = _
    rw [interp_succ]
    rw [outs, comb_len]
    simp only [runF, U, d_book_of, b_book_of, enter]
    simp only [Y.Ss.sem, sem_asg, sem_par, sem_asgT, sem_setI, sem_ex, sem_ret, sem_retN, sem_ite, sem_frzV, sem_brk, sem_pass, sem_for, Y.E.sem.eq_1, Y.E.sem.eq_2, Y.E.sem.eq_3, Y.E.sem.eq_4, Y.E.sem.eq_5, Y.E.sem.eq_6, Y.E.sem.eq_7, Y.E.sem.eq_8, Y.E.sem.eq_9, Y.E.sem.eq_10, Y.E.sem.eq_11, Y.E.sem.eq_12, Y.E.sem.eq_13, Y.E.sem.eq_14, Y.E.sem.eq_15, Y.E.sem.eq_16, Y.E.sem.eq_17, Y.E.sem.eq_18, Y.E.sem.eq_19, Y.E.sem.eq_20, Y.E.sem.eq_21, Y.E.sem.eq_22, Y.E.sem.eq_23, Y.E.sem.eq_24, Y.E.sem.eq_25, Y.E.sem.eq_26, Y.E.sem.eq_27, Y.E.sem.eq_28, Y.E.sem.eq_29, Y.E.sem.eq_30, Y.E.sem.eq_31, Y.E.sem.eq_32, Y.E.sem.eq_33, Y.E.sem.eq_34, Y.Es.sem, Y.T.sem, sem_seq, sem_rng1, sem_rng2, sem_enm, sem_zip, sem_lc, Y.Oe.sem, Y.Ts.semAnd, Y.Ts.semOr, Y.Es.semAnd, Y.Es.semOr, CfN_call, CfN_glo]
    have hA := in_dice (h := h) (Tw.lt w)
    have h7 : ¬ (1 ≤ w.n ∧ w.n ≤ 6) := by cases w <;> simp
    generalize interp PU (n + max a.dep b.dep + 8) = I at *
    simp [Sy.toD, hA, h7, ea, eb, ep]
    exact cut_ok ho (rb_fi_bkP _ _)
end Y

set_option linter.all false
set_option maxRecDepth 100000
set_option maxHeartbeats 4000000
namespace Y
/-! ### the law's book -/
def lbE (v0 : D) (a b c d e f g h : Option D) : Env := [some v0, a, b, c, d, e, f, g, h]
def lbB : Ss := (((((b_l_book.nth 3).body).nth 2).body))
theorem lb_one (x : Int) : bkL [x] = [(x, .int 1)] := by
  have e : firsts [x] = [x] := by simp [firsts, insF]
  unfold bkL bkF
  rw [e, List.map_cons, List.map_nil]
  simp [ctF, ct]
theorem lb_loop {v0 : D} {a f g j : Option D} (X : List Int) (s m : Nat) (h : Hs) (ho : Okh h) (hs1 : 1 ≤ s) (hs : s ≤ 6) (hm : m ≤ 3) (hX : X.length = s ^ 3) (hW : Wi 18 X) (n : Nat) : ∃ f',
    loopS (forF (CfN (n + 2)) (.n 6) lbB) (rngD 0 m) (lbE v0 a (some (.fi (bkL X))) (some (.int (s ^ 3 : Nat))) (some (.fi [(0, .int 1)])) (some (.int 1)) f g j) h = .nx (lbE v0 a (some (.fi (bkL X))) (some (.int (s ^ 3 : Nat))) (some (.fi (bkL (dieN X m)))) (some (.int ((s ^ 3) ^ m : Nat))) f' g j) h := by
  have h3 : 0 < s ^ 3 := Nat.pow_pos hs1
  obtain ⟨ρ1, h1, e1, d', rfl, rfl⟩ := loopS_pre (fun i => D.int (i : Nat)) (forF (CfN (n + 2)) (.n 6) lbB) (fun (pre : List Nat) ρ h1 => ∃ f, ρ = lbE v0 a (some (.fi (bkL X))) (some (.int (s ^ 3 : Nat))) (some (.fi (bkL (dieN X pre.length)))) (some (.int ((s ^ 3) ^ pre.length : Nat))) f g j ∧ h1 = h) (List.range m) (by
    intro pre i post e1 ρ h1 ⟨d, hρ, hh⟩
    subst hρ hh
    have hlen := congrArg List.length e1
    simp at hlen
    have p := run_l_both n .plus (dieN X pre.length) X ((s ^ 3) ^ pre.length) (s ^ 3) _ ho (by rw [dieN_len, hX]; exact hb_pow hs (by omega)) (by rw [hX]; exact (hb_pow (m := 1) hs (by omega) |> fun z => by simpa using z)) (hb_pow hs (by omega)) (hb_pow (m := 1) hs (by omega) |> fun z => by simpa using z) (dieN_few hW (t := pre.length + 1) (by omega)).len
    refine ⟨lbE v0 a (some (.fi (bkL X))) (some (.int (s ^ 3 : Nat))) (some (.fi (bkL (dieN X (pre.length + 1))))) (some (.int ((s ^ 3) ^ (pre.length + 1) : Nat))) (some (.int (i : Nat))) g j, _, ?_, some (.int (i : Nat)), by simp, rfl⟩
    rw [forF_n]
    simp only [lbB, b_l_book, Ss.nth, St.body, lbE]
    simp only [Y.Ss.sem, sem_asg, sem_par, sem_asgT, sem_setI, sem_ex, sem_ret, sem_retN, sem_ite, sem_frzV, sem_brk, sem_pass, sem_for, Y.E.sem.eq_1, Y.E.sem.eq_2, Y.E.sem.eq_3, Y.E.sem.eq_4, Y.E.sem.eq_5, Y.E.sem.eq_6, Y.E.sem.eq_7, Y.E.sem.eq_8, Y.E.sem.eq_9, Y.E.sem.eq_10, Y.E.sem.eq_11, Y.E.sem.eq_12, Y.E.sem.eq_13, Y.E.sem.eq_14, Y.E.sem.eq_15, Y.E.sem.eq_16, Y.E.sem.eq_17, Y.E.sem.eq_18, Y.E.sem.eq_19, Y.E.sem.eq_20, Y.E.sem.eq_21, Y.E.sem.eq_22, Y.E.sem.eq_23, Y.E.sem.eq_24, Y.E.sem.eq_25, Y.E.sem.eq_26, Y.E.sem.eq_27, Y.E.sem.eq_28, Y.E.sem.eq_29, Y.E.sem.eq_30, Y.E.sem.eq_31, Y.E.sem.eq_32, Y.E.sem.eq_33, Y.E.sem.eq_34, Y.Es.sem, Y.T.sem, sem_seq, sem_rng1, sem_rng2, sem_enm, sem_zip, sem_lc, Y.Oe.sem, Y.Ts.semAnd, Y.Ts.semOr, Y.Es.semAnd, Y.Es.semOr, CfN_call, CfN_glo]
    rw [show (Tw.plus).n = 7 from rfl, ← Nat.pow_succ] at p
    generalize interp PU (n + 2) = I at *
    generalize (((s ^ 3) ^ pre.length : Nat) : Int) = q1 at *
    generalize (((s ^ 3) ^ (pre.length + 1) : Nat) : Int) = q2 at *
    generalize ((s ^ 3 : Nat) : Int) = q3 at *
    simp [p]
    rfl) (lbE v0 a (some (.fi (bkL X))) (some (.int (s ^ 3 : Nat))) (some (.fi (bkL (dieN X 0)))) (some (.int ((s ^ 3) ^ 0 : Nat))) f g j) h ⟨f, rfl, rfl⟩
  rw [List.length_range, ← rng0] at e1
  rw [show bkL (dieN X 0) = [(0, .int 1)] from lb_one 0] at e1
  exact ⟨d', e1⟩
theorem in_ld {h : Hs} {k : Nat} (hk : k < 13) : cop .isin h (.str (wd k)) (.tup [.str (wd 1), .str (wd 4), .str (wd 5), .str (wd 6)]) = .ok (.bl (decide (k = 1 ∨ k = 4 ∨ k = 5 ∨ k = 6))) h := by
  rw [cop_in (by simp)]
  simp [hk]
  rw [Bool.eq_iff_iff]
  simp
  omega
theorem lb_dice (n : Nat) (w m s : Nat) (l : Nat) (h : Hs) (ho : Okh h) (hw : w = 1 ∨ w = 4 ∨ w = 5 ∨ w = 6) (hm : m ≤ 3) (hs1 : 2 ≤ s) (hs : s ≤ 6) (v0 : List D) (e0 : v0 = if w = 1 then [.str (wd w), .int m, .int s] else [.str (wd w), .int m, .int s, .int l]) (hl1 : w = 1 → l = 0) :
    interp PU (n + 3) f_l_book [.tup v0] h = .ok (.tup [.fi (bkL (dieN (ldO w s l) m)), .int ((s ^ 3) ^ m : Nat)]) h := by
  have hw13 : w < 13 := by omega
  have e1 := run_l_die (n + 1) w s l h ho hw13 (by omega) hs
  obtain ⟨d', e2⟩ := lb_loop (v0 := .tup v0) (a := some (.str (wd w))) (f := none) (g := none) (j := none) (ldO w s l) s m h ho (by omega) hs hm (ldO_len w s l) (wi_ldO hs) n
  have c1 : Sm (m : Int) := sm_of (by omega) (by omega)
  have i0 : index h (.tup v0) (.int 0) = some (.str (wd w)) := by subst e0; split <;> simp
  have i1 : index h (.tup v0) (.int 1) = some (.int m) := by subst e0; split <;> simp
  have i2 : index h (.tup v0) (.int 2) = some (.int s) := by subst e0; split <;> simp
  have i3 : index h (.tup (v0 ++ [.int 0])) (.int 3) = some (.int l) := by
    subst e0
    split
    · rename_i c; rw [hl1 c]; simp
    · simp
  have hc : bop .add h (.tup v0) (.tup [.int 0]) = .ok (.tup (v0 ++ [.int 0])) h := bop_addT (by subst e0; split <;> simp)
  show interp PU (n + 2 + 1) _ _ _ = _
  rw [interp_succ]
  rw [show n + 1 + 1 = n + 2 by omega] at e1
  simp only [lbB, b_l_book, Ss.nth, St.body, lbE] at e2
  simp only [runF, U, d_l_book, b_l_book, enter]
  simp only [Y.Ss.sem, sem_asg, sem_par, sem_asgT, sem_setI, sem_ex, sem_ret, sem_retN, sem_ite, sem_frzV, sem_brk, sem_pass, sem_for, Y.E.sem.eq_1, Y.E.sem.eq_2, Y.E.sem.eq_3, Y.E.sem.eq_4, Y.E.sem.eq_5, Y.E.sem.eq_6, Y.E.sem.eq_7, Y.E.sem.eq_8, Y.E.sem.eq_9, Y.E.sem.eq_10, Y.E.sem.eq_11, Y.E.sem.eq_12, Y.E.sem.eq_13, Y.E.sem.eq_14, Y.E.sem.eq_15, Y.E.sem.eq_16, Y.E.sem.eq_17, Y.E.sem.eq_18, Y.E.sem.eq_19, Y.E.sem.eq_20, Y.E.sem.eq_21, Y.E.sem.eq_22, Y.E.sem.eq_23, Y.E.sem.eq_24, Y.E.sem.eq_25, Y.E.sem.eq_26, Y.E.sem.eq_27, Y.E.sem.eq_28, Y.E.sem.eq_29, Y.E.sem.eq_30, Y.E.sem.eq_31, Y.E.sem.eq_32, Y.E.sem.eq_33, Y.E.sem.eq_34, Y.Es.sem, Y.T.sem, sem_seq, sem_rng1, sem_rng2, sem_enm, sem_zip, sem_lc, Y.Oe.sem, Y.Ts.semAnd, Y.Ts.semOr, Y.Es.semAnd, Y.Es.semOr, CfN_call, CfN_glo]
  have w0 : ¬ w = 0 := by omega
  have w2 : ¬ 2 = w := by omega
  have w3 : ¬ 3 = w := by omega
  have hA := in_ld (h := h) hw13
  have ho' := ho
  generalize interp PU (n + 2) = I at *
  generalize (((s ^ 3) ^ m : Nat) : Int) = q2 at *
  generalize ((s ^ 3 : Nat) : Int) = q3 at *
  simp [i0, i1, i2, i3, hc, w0, w2, w3, hA, hw, hw13, e1, rng1_ok c1, e2]
  exact cut_ok ho' (by simp [rbi_bkL])
theorem run_l_book : ∀ (s : Sy) (n : Nat) (h : Hs), Okh h → Wg s → s.dep ≤ 4 → lmF s ≤ 12 → interp PU (n + s.dep + 3) f_l_book [s.toD] h = .ok (.tup [.fi (bkL (outs s)), .int (outs s).length]) h
  | .num a, n, h, ho, _, _, _ => by
    show interp PU (n + 2 + 1) _ _ _ = _
    rw [interp_succ]
    rw [show bkL (outs (.num a)) = [(a, .int 1)] from lb_one a]
    simp only [runF, U, d_l_book, b_l_book, enter]
    simp only [Y.Ss.sem, sem_asg, sem_par, sem_asgT, sem_setI, sem_ex, sem_ret, sem_retN, sem_ite, sem_frzV, sem_brk, sem_pass, sem_for, Y.E.sem.eq_1, Y.E.sem.eq_2, Y.E.sem.eq_3, Y.E.sem.eq_4, Y.E.sem.eq_5, Y.E.sem.eq_6, Y.E.sem.eq_7, Y.E.sem.eq_8, Y.E.sem.eq_9, Y.E.sem.eq_10, Y.E.sem.eq_11, Y.E.sem.eq_12, Y.E.sem.eq_13, Y.E.sem.eq_14, Y.E.sem.eq_15, Y.E.sem.eq_16, Y.E.sem.eq_17, Y.E.sem.eq_18, Y.E.sem.eq_19, Y.E.sem.eq_20, Y.E.sem.eq_21, Y.E.sem.eq_22, Y.E.sem.eq_23, Y.E.sem.eq_24, Y.E.sem.eq_25, Y.E.sem.eq_26, Y.E.sem.eq_27, Y.E.sem.eq_28, Y.E.sem.eq_29, Y.E.sem.eq_30, Y.E.sem.eq_31, Y.E.sem.eq_32, Y.E.sem.eq_33, Y.E.sem.eq_34, Y.Es.sem, Y.T.sem, sem_seq, sem_rng1, sem_rng2, sem_enm, sem_zip, sem_lc, Y.Oe.sem, Y.Ts.semAnd, Y.Ts.semOr, Y.Es.semAnd, Y.Es.semOr, CfN_call, CfN_glo]
    simp [Sy.toD, outs]
    exact cut_ok ho rfl
  | .dice m s, n, h, ho, hw, _, _ => by
    obtain ⟨h1, h2, h3, h4⟩ := hw
    obtain ⟨m, rfl⟩ := toNat_of (show 0 ≤ m by omega)
    obtain ⟨s, rfl⟩ := toNat_of (show 0 ≤ s by omega)
    have e := lb_dice n 1 m s 0 h ho (.inl rfl) (by omega) (by omega) (by omega) _ rfl (by omega)
    rw [outs, dieN_len, ldO_len]
    exact e
  | .pool .high m s l, n, h, ho, ⟨h1, h2, h3, h4, h5, h6⟩, _, _ => by
    obtain ⟨m, rfl⟩ := toNat_of (show 0 ≤ m by omega)
    obtain ⟨s, rfl⟩ := toNat_of (show 0 ≤ s by omega)
    obtain ⟨l, rfl⟩ := toNat_of (show 0 ≤ l by omega)
    obtain ⟨k1, k2⟩ := kept_same (hi := true) (m := m) (s := s) (k := l) (by omega) (by omega) (by omega)
    have e := run_l_kept (n + 1) true m s l h ho (by omega) (by omega) (by omega) (by omega) (k2.few (by omega))
    rw [outs, lkO_len]
    show interp PU (n + 2 + 1) _ _ _ = _
    rw [interp_succ]
    simp only [runF, U, d_l_book, b_l_book, enter]
    simp only [Y.Ss.sem, sem_asg, sem_par, sem_asgT, sem_setI, sem_ex, sem_ret, sem_retN, sem_ite, sem_frzV, sem_brk, sem_pass, sem_for, Y.E.sem.eq_1, Y.E.sem.eq_2, Y.E.sem.eq_3, Y.E.sem.eq_4, Y.E.sem.eq_5, Y.E.sem.eq_6, Y.E.sem.eq_7, Y.E.sem.eq_8, Y.E.sem.eq_9, Y.E.sem.eq_10, Y.E.sem.eq_11, Y.E.sem.eq_12, Y.E.sem.eq_13, Y.E.sem.eq_14, Y.E.sem.eq_15, Y.E.sem.eq_16, Y.E.sem.eq_17, Y.E.sem.eq_18, Y.E.sem.eq_19, Y.E.sem.eq_20, Y.E.sem.eq_21, Y.E.sem.eq_22, Y.E.sem.eq_23, Y.E.sem.eq_24, Y.E.sem.eq_25, Y.E.sem.eq_26, Y.E.sem.eq_27, Y.E.sem.eq_28, Y.E.sem.eq_29, Y.E.sem.eq_30, Y.E.sem.eq_31, Y.E.sem.eq_32, Y.E.sem.eq_33, Y.E.sem.eq_34, Y.Es.sem, Y.T.sem, sem_seq, sem_rng1, sem_rng2, sem_enm, sem_zip, sem_lc, Y.Oe.sem, Y.Ts.semAnd, Y.Ts.semOr, Y.Es.semAnd, Y.Es.semOr, CfN_call, CfN_glo]
    rw [show n + 1 + 1 = n + 2 by omega] at e
    simp only [Int.toNat_natCast] at e ⊢
    generalize ((s ^ m : Nat) : Int) = q at *
    generalize interp PU (n + 2) = I at *
    simp [Sy.toD] at e ⊢
    simp [e]
    exact cut_ok ho (by simp [rbi_bkL])
  | .pool .low m s l, n, h, ho, ⟨h1, h2, h3, h4, h5, h6⟩, _, _ => by
    obtain ⟨m, rfl⟩ := toNat_of (show 0 ≤ m by omega)
    obtain ⟨s, rfl⟩ := toNat_of (show 0 ≤ s by omega)
    obtain ⟨l, rfl⟩ := toNat_of (show 0 ≤ l by omega)
    obtain ⟨k1, k2⟩ := kept_same (hi := false) (m := m) (s := s) (k := l) (by omega) (by omega) (by omega)
    have e := run_l_kept (n + 1) false m s l h ho (by omega) (by omega) (by omega) (by omega) (k2.few (by omega))
    rw [outs, lkO_len]
    show interp PU (n + 2 + 1) _ _ _ = _
    rw [interp_succ]
    simp only [runF, U, d_l_book, b_l_book, enter]
    simp only [Y.Ss.sem, sem_asg, sem_par, sem_asgT, sem_setI, sem_ex, sem_ret, sem_retN, sem_ite, sem_frzV, sem_brk, sem_pass, sem_for, Y.E.sem.eq_1, Y.E.sem.eq_2, Y.E.sem.eq_3, Y.E.sem.eq_4, Y.E.sem.eq_5, Y.E.sem.eq_6, Y.E.sem.eq_7, Y.E.sem.eq_8, Y.E.sem.eq_9, Y.E.sem.eq_10, Y.E.sem.eq_11, Y.E.sem.eq_12, Y.E.sem.eq_13, Y.E.sem.eq_14, Y.E.sem.eq_15, Y.E.sem.eq_16, Y.E.sem.eq_17, Y.E.sem.eq_18, Y.E.sem.eq_19, Y.E.sem.eq_20, Y.E.sem.eq_21, Y.E.sem.eq_22, Y.E.sem.eq_23, Y.E.sem.eq_24, Y.E.sem.eq_25, Y.E.sem.eq_26, Y.E.sem.eq_27, Y.E.sem.eq_28, Y.E.sem.eq_29, Y.E.sem.eq_30, Y.E.sem.eq_31, Y.E.sem.eq_32, Y.E.sem.eq_33, Y.E.sem.eq_34, Y.Es.sem, Y.T.sem, sem_seq, sem_rng1, sem_rng2, sem_enm, sem_zip, sem_lc, Y.Oe.sem, Y.Ts.semAnd, Y.Ts.semOr, Y.Es.semAnd, Y.Es.semOr, CfN_call, CfN_glo]
    rw [show n + 1 + 1 = n + 2 by omega] at e
    simp only [Int.toNat_natCast] at e ⊢
    generalize ((s ^ m : Nat) : Int) = q at *
    generalize interp PU (n + 2) = I at *
    simp [Sy.toD] at e ⊢
    simp [e]
    exact cut_ok ho (by simp [rbi_bkL])
  | .pool .again m s l, n, h, ho, ⟨h1, h2, h3, h4, h5, h6⟩, _, _ => by
    obtain ⟨m, rfl⟩ := toNat_of (show 0 ≤ m by omega)
    obtain ⟨s, rfl⟩ := toNat_of (show 0 ≤ s by omega)
    obtain ⟨l, rfl⟩ := toNat_of (show 0 ≤ l by omega)
    have e := lb_dice n 4 m s l h ho (by omega) (by omega) (by omega) (by omega) _ rfl (by omega)
    rw [outs, dieN_len, ldO_len]
    exact e
  | .pool .burst m s l, n, h, ho, ⟨h1, h2, h3, h4, h5, h6⟩, _, _ => by
    obtain ⟨m, rfl⟩ := toNat_of (show 0 ≤ m by omega)
    obtain ⟨s, rfl⟩ := toNat_of (show 0 ≤ s by omega)
    obtain ⟨l, rfl⟩ := toNat_of (show 0 ≤ l by omega)
    have e := lb_dice n 5 m s l h ho (by omega) (by omega) (by omega) (by omega) _ rfl (by omega)
    rw [outs, dieN_len, ldO_len]
    exact e
  | .pool .count m s l, n, h, ho, ⟨h1, h2, h3, h4, h5, h6⟩, _, _ => by
    obtain ⟨m, rfl⟩ := toNat_of (show 0 ≤ m by omega)
    obtain ⟨s, rfl⟩ := toNat_of (show 0 ≤ s by omega)
    obtain ⟨l, rfl⟩ := toNat_of (show 0 ≤ l by omega)
    have e := lb_dice n 6 m s l h ho (by omega) (by omega) (by omega) (by omega) _ rfl (by omega)
    rw [outs, dieN_len, ldO_len]
    exact e
  | .times a b, n, h, ho, hw, hd, hl => by
    have hwf := hw
    obtain ⟨h1, h2, h3⟩ := hw
    simp only [Sy.dep] at hd
    have ih := run_l_book b n h ho h3 (by omega) hl
    have hfew : Few (timL a (outs b)) := few_outs (s := .times a b) hwf (by simp only [Sy.dep]; omega)
    show interp PU (n + (b.dep + 1) + 2 + 1) _ _ _ = _
    rw [show n + b.dep + 3 = n + (b.dep + 1) + 2 by omega] at ih
    generalize hW : outs b = W at *
    obtain ⟨ρ1, h1', e1, d', rfl, rfl⟩ := loopS_pre D.int (forF (CfN (n + (b.dep + 1) + 2)) (.n 8) (((((b_l_book.nth 4).body).nth 2).body))) (fun (pre : List Int) ρ h1 => ∃ d, ρ = lbE (.tup [.str (wd 12), .int a, b.toD]) (some (.str (wd 12))) none none (some (.ref h.length)) (some (.int W.length)) none (some (.fi (bkL W))) d ∧ h1 = h ++ [.dI (bkL (pre.flatMap fun x => List.replicate (W.count x) (x * a)))]) (firsts W) (by
      intro pre x post e1 ρ h1 ⟨d, hρ, hh⟩
      subst hρ hh
      obtain ⟨t1, e2⟩ := flat_pre (fun x => List.replicate (W.count x) (x * a)) e1
      rw [show ((firsts W).flatMap fun x => List.replicate (W.count x) (x * a)) = timL a W from rfl] at e2
      have hx : x ∈ W := firsts_mem.mp (by rw [e1]; simp)
      rw [e2, List.append_assoc] at hfew
      have e3 : ((pre ++ [x]).flatMap fun x => List.replicate (W.count x) (x * a)) = (pre.flatMap fun x => List.replicate (W.count x) (x * a)) ++ List.replicate (W.count x) (x * a) := by rw [List.flatMap_append]; simp
      rw [e3]
      generalize (pre.flatMap fun x => List.replicate (W.count x) (x * a)) = acc at *
      have i1 : index (h ++ [.dI (bkL acc)]) (.fi (bkL W)) (.int x) = some (.int (W.count x)) := index_bk hx
      have bm : bop .mul (h ++ [.dI (bkL acc)]) (.int x) (.int a) = .ok (.int (x * a)) (h ++ [.dI (bkL acc)]) := bop_mul (.inr (by omega))
      have g := up_one (h := h) (A := acc) (w := x * a)
      have st := fun ρ => set_up (ρ := ρ) (h := h) (A := acc) (w := x * a) (dget_self hx) hfew.pre.len
      refine ⟨lbE (.tup [.str (wd 12), .int a, b.toD]) (some (.str (wd 12))) none none (some (.ref h.length)) (some (.int W.length)) none (some (.fi (bkL W))) (some (.int x)), _, ?_, some (.int x), rfl, rfl⟩
      rw [forF_n]
      simp only [b_l_book, Ss.nth, St.body, lbE]
      simp only [Y.Ss.sem, sem_asg, sem_par, sem_asgT, sem_setI, sem_ex, sem_ret, sem_retN, sem_ite, sem_frzV, sem_brk, sem_pass, sem_for, Y.E.sem.eq_1, Y.E.sem.eq_2, Y.E.sem.eq_3, Y.E.sem.eq_4, Y.E.sem.eq_5, Y.E.sem.eq_6, Y.E.sem.eq_7, Y.E.sem.eq_8, Y.E.sem.eq_9, Y.E.sem.eq_10, Y.E.sem.eq_11, Y.E.sem.eq_12, Y.E.sem.eq_13, Y.E.sem.eq_14, Y.E.sem.eq_15, Y.E.sem.eq_16, Y.E.sem.eq_17, Y.E.sem.eq_18, Y.E.sem.eq_19, Y.E.sem.eq_20, Y.E.sem.eq_21, Y.E.sem.eq_22, Y.E.sem.eq_23, Y.E.sem.eq_24, Y.E.sem.eq_25, Y.E.sem.eq_26, Y.E.sem.eq_27, Y.E.sem.eq_28, Y.E.sem.eq_29, Y.E.sem.eq_30, Y.E.sem.eq_31, Y.E.sem.eq_32, Y.E.sem.eq_33, Y.E.sem.eq_34, Y.Es.sem, Y.T.sem, sem_seq, sem_rng1, sem_rng2, sem_enm, sem_zip, sem_lc, Y.Oe.sem, Y.Ts.semAnd, Y.Ts.semOr, Y.Es.semAnd, Y.Es.semOr, CfN_call, CfN_glo]
      simp [i1, bm, mok_dI, g, st]) (lbE (.tup [.str (wd 12), .int a, b.toD]) (some (.str (wd 12))) none none (some (.ref h.length)) (some (.int W.length)) none (some (.fi (bkL W))) none) (h ++ [.dI (bkL [])]) ⟨none, rfl, by simp⟩
    rw [show ((firsts W).flatMap fun x => List.replicate (W.count x) (x * a)) = timL a W from rfl] at e1
    rw [show bkL ([] : List Int) = [] from rfl] at e1
    have it : itemsOf (.fi (bkL W)) = some ((firsts W).map D.int) := items_bk
    rw [interp_succ]
    simp only [b_l_book, Ss.nth, St.body, lbE] at e1
    simp only [runF, U, d_l_book, b_l_book, enter]
    simp only [Y.Ss.sem, sem_asg, sem_par, sem_asgT, sem_setI, sem_ex, sem_ret, sem_retN, sem_ite, sem_frzV, sem_brk, sem_pass, sem_for, Y.E.sem.eq_1, Y.E.sem.eq_2, Y.E.sem.eq_3, Y.E.sem.eq_4, Y.E.sem.eq_5, Y.E.sem.eq_6, Y.E.sem.eq_7, Y.E.sem.eq_8, Y.E.sem.eq_9, Y.E.sem.eq_10, Y.E.sem.eq_11, Y.E.sem.eq_12, Y.E.sem.eq_13, Y.E.sem.eq_14, Y.E.sem.eq_15, Y.E.sem.eq_16, Y.E.sem.eq_17, Y.E.sem.eq_18, Y.E.sem.eq_19, Y.E.sem.eq_20, Y.E.sem.eq_21, Y.E.sem.eq_22, Y.E.sem.eq_23, Y.E.sem.eq_24, Y.E.sem.eq_25, Y.E.sem.eq_26, Y.E.sem.eq_27, Y.E.sem.eq_28, Y.E.sem.eq_29, Y.E.sem.eq_30, Y.E.sem.eq_31, Y.E.sem.eq_32, Y.E.sem.eq_33, Y.E.sem.eq_34, Y.Es.sem, Y.T.sem, sem_seq, sem_rng1, sem_rng2, sem_enm, sem_zip, sem_lc, Y.Oe.sem, Y.Ts.semAnd, Y.Ts.semOr, Y.Es.semAnd, Y.Es.semOr, CfN_call, CfN_glo]
    have hA := in_ld (h := h) (k := 12) (by omega)
    generalize interp PU (n + (b.dep + 1) + 2) = I at *
    simp [Sy.toD, hA, ih, seq_ok it]
    rw [e1]
    simp [fzF, freeze]
    rw [outs, timL_len, hW]
    exact cut_drop ho (by simp [rbi_bkL])
  | .two w a b, n, h, ho, hw, hd, hl => by
    have hwf := hw
    obtain ⟨ha, hb⟩ := hw
    simp only [Sy.dep] at hd
    have la := wf_lm ha
    have lb := wf_lm hb
    simp only [lmF] at hl
    have ea := run_l_book a (n + max a.dep b.dep - a.dep) h ho ha (by omega) (by omega)
    have eb := run_l_book b (n + max a.dep b.dep - b.dep) h ho hb (by omega) (by omega)
    rw [show n + max a.dep b.dep - a.dep + a.dep + 3 = n + max a.dep b.dep + 3 by omega] at ea
    rw [show n + max a.dep b.dep - b.dep + b.dep + 3 = n + max a.dep b.dep + 3 by omega] at eb
    have ep := run_l_both (n + max a.dep b.dep + 1) w (outs a) (outs b) _ _ h ho (outs_hb ha (by omega)) (outs_hb hb (by omega)) (outs_hb ha (by omega)) (outs_hb hb (by omega)) (few_outs (s := .two w a b) hwf (by simp only [Sy.dep]; omega)).len
    rw [show n + max a.dep b.dep + 1 + 2 = n + max a.dep b.dep + 3 by omega] at ep
    show interp PU (n + max a.dep b.dep + 3 + 1) _ _ _ = _
    rw [interp_succ]
    rw [outs, comb_len]
    simp only [runF, U, d_l_book, b_l_book, enter]
    simp only [Y.Ss.sem, sem_asg, sem_par, sem_asgT, sem_setI, sem_ex, sem_ret, sem_retN, sem_ite, sem_frzV, sem_brk, sem_pass, sem_for, Y.E.sem.eq_1, Y.E.sem.eq_2, Y.E.sem.eq_3, Y.E.sem.eq_4, Y.E.sem.eq_5, Y.E.sem.eq_6, Y.E.sem.eq_7, Y.E.sem.eq_8, Y.E.sem.eq_9, Y.E.sem.eq_10, Y.E.sem.eq_11, Y.E.sem.eq_12, Y.E.sem.eq_13, Y.E.sem.eq_14, Y.E.sem.eq_15, Y.E.sem.eq_16, Y.E.sem.eq_17, Y.E.sem.eq_18, Y.E.sem.eq_19, Y.E.sem.eq_20, Y.E.sem.eq_21, Y.E.sem.eq_22, Y.E.sem.eq_23, Y.E.sem.eq_24, Y.E.sem.eq_25, Y.E.sem.eq_26, Y.E.sem.eq_27, Y.E.sem.eq_28, Y.E.sem.eq_29, Y.E.sem.eq_30, Y.E.sem.eq_31, Y.E.sem.eq_32, Y.E.sem.eq_33, Y.E.sem.eq_34, Y.Es.sem, Y.T.sem, sem_seq, sem_rng1, sem_rng2, sem_enm, sem_zip, sem_lc, Y.Oe.sem, Y.Ts.semAnd, Y.Ts.semOr, Y.Es.semAnd, Y.Es.semOr, CfN_call, CfN_glo]
    have hA := in_ld (h := h) (Tw.lt w)
    have h7 : ¬ (w.n = 1 ∨ w.n = 4 ∨ w.n = 5 ∨ w.n = 6) := by cases w <;> simp
    generalize interp PU (n + max a.dep b.dep + 3) = I at *
    simp [-Int.natCast_mul, Sy.toD, hA, h7, ea, eb, ep]
    exact cut_ok ho (by simp [rbi_bkL])
/-! ### shares -/
theorem sortD_bk {h : Hs} {F : Int → D} {A : List Int} : blt .sorted h [.fi (bkF F A)] = .ok (.fl (dints (sortI (firsts A)))) h := by
  have : (bkF F A).map (·.1) = firsts A := by
    unfold bkF
    rw [List.map_map]
    exact List.map_id _
  simp [blt, sortD, this]
theorem insI_mem {x y : Int} : ∀ l : List Int, y ∈ insI x l ↔ y = x ∨ y ∈ l
  | [] => by simp [insI]
  | z :: r => by
    rw [insI]
    split
    · simp
    · rw [List.mem_cons, insI_mem r, List.mem_cons]
      constructor
      · rintro (h | h | h)
        · exact .inr (.inl h)
        · exact .inl h
        · exact .inr (.inr h)
      · rintro (h | h | h)
        · exact .inr (.inl h)
        · exact .inl h
        · exact .inr (.inr h)
theorem sortI_mem {y : Int} : ∀ l : List Int, y ∈ sortI l ↔ y ∈ l
  | [] => by simp [sortI]
  | z :: r => by rw [sortI, insI_mem, sortI_mem r, List.mem_cons]
/-- the worths, rising -/
def wor (A : List Int) : List Int := sortI (firsts A)
theorem wor_mem {A : List Int} {x : Int} : x ∈ wor A ↔ x ∈ A := by unfold wor; rw [sortI_mem, firsts_mem]
def rowD (T : Nat) (A : List Int) (x : Int) : D := .tup [.int x, frD (fr (A.count x) T)]
def shaD (A : List Int) : D := .tup ((wor A).map (rowD A.length A))
theorem wor_len (A : List Int) : (wor A).length = (firsts A).length := sortI_len _
theorem sharesLc {C : Cfg} {v : D} {h : Hs} (A : List Int) (T : Nat) (hl : (firsts A).length < SZ) : loopC (lcG (.tup (.cons (.var 2) (.cons (.idx (.var 1) (.var 2)) .nil))) (.n 2) .tt C [some v, some (.fi (bkP A T)), none]) (dints (wor A)) [] h = .ok ((wor A).map (rowD T A)) h := by
  have := loopC_map D.int (rowD T A) (lcG (.tup (.cons (.var 2) (.cons (.idx (.var 1) (.var 2)) .nil))) (.n 2) .tt C [some v, some (.fi (bkP A T)), none]) h (wor A) [] (fun x hx => by
    have i1 : index h (.fi (bkP A T)) (.int x) = some (frD (fr (A.count x) T)) := index_bk (wor_mem.mp hx)
    simp only [lcG_n]
    simp only [Y.Ss.sem, sem_asg, sem_par, sem_asgT, sem_setI, sem_ex, sem_ret, sem_retN, sem_ite, sem_frzV, sem_brk, sem_pass, sem_for, Y.E.sem.eq_1, Y.E.sem.eq_2, Y.E.sem.eq_3, Y.E.sem.eq_4, Y.E.sem.eq_5, Y.E.sem.eq_6, Y.E.sem.eq_7, Y.E.sem.eq_8, Y.E.sem.eq_9, Y.E.sem.eq_10, Y.E.sem.eq_11, Y.E.sem.eq_12, Y.E.sem.eq_13, Y.E.sem.eq_14, Y.E.sem.eq_15, Y.E.sem.eq_16, Y.E.sem.eq_17, Y.E.sem.eq_18, Y.E.sem.eq_19, Y.E.sem.eq_20, Y.E.sem.eq_21, Y.E.sem.eq_22, Y.E.sem.eq_23, Y.E.sem.eq_24, Y.E.sem.eq_25, Y.E.sem.eq_26, Y.E.sem.eq_27, Y.E.sem.eq_28, Y.E.sem.eq_29, Y.E.sem.eq_30, Y.E.sem.eq_31, Y.E.sem.eq_32, Y.E.sem.eq_33, Y.E.sem.eq_34, Y.Es.sem, Y.T.sem, sem_seq, sem_rng1, sem_rng2, sem_enm, sem_zip, sem_lc, Y.Oe.sem, Y.Ts.semAnd, Y.Ts.semOr, Y.Es.semAnd, Y.Es.semOr, CfN_call, CfN_glo]
    simp [i1, rowD]) (by rw [wor_len]; simp only [List.length_nil]; omega)
  exact this
theorem run_shares (s : Sy) (n : Nat) (h : Hs) (ho : Okh h) (hw : Wg s) (hd : s.dep ≤ 4) (hl : lmF s ≤ 12) : interp PU (n + s.dep + 9) f_shares [s.toD] h = .ok (shaD (outs s)) h := by
  have e := run_book_of s n h ho hw hd hl
  have lc := sharesLc (C := CfN (n + s.dep + 8)) (v := s.toD) (h := h) (outs s) (outs s).length (few_outs hw hd).len
  have so : blt .sorted h [.fi (bkP (outs s) (outs s).length)] = .ok (.fl (dints (wor (outs s)))) h := sortD_bk
  show interp PU (n + s.dep + 8 + 1) _ _ _ = _
  rw [interp_succ]
  simp only [runF, U, d_shares, b_shares, enter]
  simp only [Y.Ss.sem, sem_asg, sem_par, sem_asgT, sem_setI, sem_ex, sem_ret, sem_retN, sem_ite, sem_frzV, sem_brk, sem_pass, sem_for, Y.E.sem.eq_1, Y.E.sem.eq_2, Y.E.sem.eq_3, Y.E.sem.eq_4, Y.E.sem.eq_5, Y.E.sem.eq_6, Y.E.sem.eq_7, Y.E.sem.eq_8, Y.E.sem.eq_9, Y.E.sem.eq_10, Y.E.sem.eq_11, Y.E.sem.eq_12, Y.E.sem.eq_13, Y.E.sem.eq_14, Y.E.sem.eq_15, Y.E.sem.eq_16, Y.E.sem.eq_17, Y.E.sem.eq_18, Y.E.sem.eq_19, Y.E.sem.eq_20, Y.E.sem.eq_21, Y.E.sem.eq_22, Y.E.sem.eq_23, Y.E.sem.eq_24, Y.E.sem.eq_25, Y.E.sem.eq_26, Y.E.sem.eq_27, Y.E.sem.eq_28, Y.E.sem.eq_29, Y.E.sem.eq_30, Y.E.sem.eq_31, Y.E.sem.eq_32, Y.E.sem.eq_33, Y.E.sem.eq_34, Y.Es.sem, Y.T.sem, sem_seq, sem_rng1, sem_rng2, sem_enm, sem_zip, sem_lc, Y.Oe.sem, Y.Ts.semAnd, Y.Ts.semOr, Y.Es.semAnd, Y.Es.semOr, CfN_call, CfN_glo]
  generalize interp PU (n + s.dep + 8) = I at *
  simp [e, so]
  rw [lc]
  simp [tuple_fl]
  refine cut_ok ho ?_
  have : ∀ l : List Int, D.rbs h.length (l.map (rowD (outs s).length (outs s))) = true := by
    intro l
    induction l with
    | nil => rfl
    | cons x l ih => simp [ih, rowD]
  exact this _
end Y

set_option linter.all false
set_option maxRecDepth 100000
set_option maxHeartbeats 4000000
namespace Y
mutual
def D.eqb : D → D → Bool
  | .non, .non => true
  | .bl a, .bl b => decide (a = b)
  | .int i, .int j => decide (i = j)
  | .str a, .str b => decide (a = b)
  | .tup a, .tup b => D.eqbs a b
  | .fl a, .fl b => D.eqbs a b
  | _, _ => false
def D.eqbs : List D → List D → Bool
  | [], [] => true
  | a :: r, b :: t => D.eqb a b && D.eqbs r t
  | _, _ => false
end
mutual
theorem D.eqb_eq : ∀ a b : D, D.eqb a b = true → a = b
  | .non, b, h => by cases b <;> first | rfl | cases h
  | .bl a, b, h => by cases b <;> first | (simp [D.eqb] at h; rw [h]) | cases h
  | .int a, b, h => by cases b <;> first | (simp [D.eqb] at h; rw [h]) | cases h
  | .str a, b, h => by cases b <;> first | (simp [D.eqb] at h; rw [h]) | cases h
  | .tup a, b, h => by cases b <;> first | (simp only [D.eqb] at h; rw [D.eqbs_eq a _ h]) | cases h
  | .fl a, b, h => by cases b <;> first | (simp only [D.eqb] at h; rw [D.eqbs_eq a _ h]) | cases h
  | .fi a, b, h => by cases b <;> cases h
  | .ft a, b, h => by cases b <;> cases h
  | .fs a, b, h => by cases b <;> cases h
  | .ref a, b, h => by cases b <;> cases h
  | .exc a, b, h => by cases b <;> cases h
  | .scr a, b, h => by cases b <;> cases h
theorem D.eqbs_eq : ∀ a b : List D, D.eqbs a b = true → a = b
  | [], [], _ => rfl
  | a :: r, b :: t, h => by
    rw [D.eqbs, Bool.and_eq_true] at h
    rw [D.eqb_eq a b h.1, D.eqbs_eq r t h.2]
  | [], b :: t, h => by cases h
  | a :: r, [], h => by cases h
end
/-- a run ends so, and leaves nothing -/
def R.isOk (r : R D) (d : D) : Bool := match r with
  | .ok x [] => D.eqb x d
  | _ => false
theorem R.of_isOk {r : R D} {d : D} (h : r.isOk d = true) : r = .ok d [] := by
  unfold R.isOk at h
  split at h
  · rw [D.eqb_eq _ _ h]
  · cases h
/-! ### the same is the same -/
mutual
theorem eqv_refl : ∀ (n : Nat) (d : D), d.okn n = true → D.eqv d d = true
  | _, .non, _ => rfl
  | _, .bl b, _ => by simp
  | _, .int i, _ => by simp
  | _, .str s, _ => by simp
  | 0, .tup ds, h => by simp [D.okn] at h
  | n + 1, .tup ds, h => by rw [D.okn] at h; simp only [eqv_tup]; exact eqvs_refl n ds h
  | 0, .fl ds, h => by simp [D.okn] at h
  | n + 1, .fl ds, h => by rw [D.okn] at h; show D.eqvs ds ds = true; exact eqvs_refl n ds h
  | n, .fi _, h => by cases n <;> simp [D.okn] at h
  | n, .ft _, h => by cases n <;> simp [D.okn] at h
  | n, .fs _, h => by cases n <;> simp [D.okn] at h
  | n, .ref _, h => by cases n <;> simp [D.okn] at h
  | n, .exc _, h => by cases n <;> simp [D.okn] at h
  | n, .scr _, h => by cases n <;> simp [D.okn] at h
theorem eqvs_refl : ∀ (n : Nat) (d : List D), D.oksn n d = true → D.eqvs d d = true
  | _, [], _ => rfl
  | n, a :: r, h => by
    rw [oksn_cons, Bool.and_eq_true] at h
    rw [eqvs_cc, eqv_refl n a h.1, eqvs_refl n r h.2]; rfl
end
@[simp] theorem deref_fl {h : Hs} {d : List D} : deref h (.fl d) = .fl d := rfl
theorem cop_ne_self {h : Hs} {d : D} (hd : deref h d = d) (ho : d.ok = true) : cop .ne h d d = .ok (.bl false) h := by
  rw [cop_ne (by rw [hd]; exact ho) (by rw [hd]; exact ho), hd, eqv_refl 60 d ho]; rfl
theorem cop_eq_self {h : Hs} {d : D} (hd : deref h d = d) (ho : d.ok = true) : cop .eq h d d = .ok (.bl true) h := by
  rw [cop_eq (by rw [hd]; exact ho) (by rw [hd]; exact ho), hd, eqv_refl 60 d ho]
end Y

set_option linter.all false
set_option maxRecDepth 100000
set_option maxHeartbeats 4000000
namespace Y
/-! ### one statement after the other -/
section
variable {C : Cfg} {ρ ρ' : Env} {h h' : Hs} {ss : Ss}
theorem st_asg {i : Nat} {e : E} {d : D} (he : E.sem C e ρ h = .ok d h') : Ss.sem C (.cons (.asg i e) ss) ρ h = Ss.sem C ss (ρ.set i (some d)) h' := by
  rw [Ss.sem, sem_asg, he]; rfl
theorem st_asg2 {i j : Nat} {e : E} {x y : D} (he : E.sem C e ρ h = .ok (.tup [x, y]) h') : Ss.sem C (.cons (.asgT [i, j] e) ss) ρ h = Ss.sem C ss ((ρ.set i (some x)).set j (some y)) h' := by
  rw [Ss.sem, sem_asgT, he]; rfl
theorem st_asg3 {i j k : Nat} {e : E} {x y z : D} (he : E.sem C e ρ h = .ok (.tup [x, y, z]) h') : Ss.sem C (.cons (.asgT [i, j, k] e) ss) ρ h = Ss.sem C ss (((ρ.set i (some x)).set j (some y)).set k (some z)) h' := by
  rw [Ss.sem, sem_asgT, he]; rfl
theorem st_ret {e : E} {d : D} (he : E.sem C e ρ h = .ok d h') : Ss.sem C (.cons (.ret e) ss) ρ h = .rt d h' := by
  rw [Ss.sem, sem_ret, he]; rfl
theorem st_ex {e : E} {d : D} (he : E.sem C e ρ h = .ok d h') : Ss.sem C (.cons (.ex e) ss) ρ h = Ss.sem C ss ρ h' := by
  rw [Ss.sem, sem_ex, he]; rfl
theorem st_skip {t : T} {a : Ss} (he : T.sem C t ρ h = .ok false h') : Ss.sem C (.cons (.ite t a .nil) ss) ρ h = Ss.sem C ss ρ h' := by
  rw [Ss.sem, sem_ite, he]
  simp [Ss.sem]
theorem st_iteT {t : T} {a b : Ss} (he : T.sem C t ρ h = .ok true h') : Ss.sem C (.cons (.ite t a b) ss) ρ h = (Ss.sem C a ρ h').andThen fun ρ h => Ss.sem C ss ρ h := by
  rw [Ss.sem, sem_ite, he]
  simp
theorem st_iteF {t : T} {a b : Ss} (he : T.sem C t ρ h = .ok false h') : Ss.sem C (.cons (.ite t a b) ss) ρ h = (Ss.sem C b ρ h').andThen fun ρ h => Ss.sem C ss ρ h := by
  rw [Ss.sem, sem_ite, he]
  simp
theorem st_for {tg : Tg} {it : It} {b : Ss} {ds : List D} {h1 : Hs} (he : It.sem C it ρ h = .ok ds h1) (hl : loopS (forF C tg b) ds ρ h1 = .nx ρ' h') : Ss.sem C (.cons (.for_ tg it b) ss) ρ h = Ss.sem C ss ρ' h' := by
  rw [Ss.sem, sem_for, he, R.toS_ok, hl]; rfl
theorem st_nil : Ss.sem C .nil ρ h = .nx ρ h := by rw [Ss.sem]
end
/-- a law whose body ends in True -/
theorem law_end {n f : Nat} {ds : List D} {F : Fd} (hF : U f = F) (hp : ds.length = F.pars) (ht : F.tr = true) {h' : Hs} (e : Ss.sem (CfN n) F.body (enter F.names ds) [] = .rt (.bl true) h') : interp PU (n + 1) f ds [] = .ok (.bl true) [] := by
  rw [interp_succ, hF, runF, if_pos hp, e, ht, toR_rt]
  rfl
end Y

set_option linter.all false
set_option maxRecDepth 100000
set_option maxHeartbeats 4000000
namespace Y
theorem rbs_rowD {k : Nat} (T : Nat) (A : List Int) : ∀ l : List Int, D.rbs k (l.map (rowD T A)) = true
  | [] => rfl
  | x :: l => by simp [rbs_rowD T A l, rowD]
@[simp] theorem rb_shaD {k : Nat} (A : List Int) : D.rb k (shaD A) = true := rbs_rowD _ _ _
theorem run_l_shares (s : Sy) (n : Nat) (h : Hs) (ho : Okh h) (hw : Wg s) (hd : s.dep ≤ 4) (hl : lmF s ≤ 12) : interp PU (n + s.dep + 4) f_l_shares [s.toD] h = .ok (shaD (outs s)) h := by
  have e := run_l_book s n h ho hw hd hl
  have hT0 := (outs_len hw).1
  have hT := hb_big (outs_hb hw hl)
  have so : blt .sorted h [.fi (bkL (outs s))] = .ok (.fl (dints (wor (outs s)))) h := sortD_bk
  show interp PU (n + s.dep + 3 + 1) _ _ _ = _
  have lc := loopC_map D.int (rowD (outs s).length (outs s)) (lcG (.tup (.cons (.var 3) (.cons (.call f_l_fraction (.cons (.idx (.var 1) (.var 3)) (.cons (.var 2) .nil))) .nil))) (.n 3) .tt (CfN (n + s.dep + 3)) [some s.toD, some (.fi (bkL (outs s))), some (.int (outs s).length), none]) h (wor (outs s)) [] (fun x hx => by
    have i1 : index h (.fi (bkL (outs s))) (.int x) = some (.int ((outs s).count x)) := index_bk (wor_mem.mp hx)
    have e1 := run_l_fraction (n + s.dep + 1) ((outs s).count x) (outs s).length h ho (by omega) (by rw [Int.natAbs_natCast]; exact hT)
    simp only [lcG_n]
    simp only [Y.Ss.sem, sem_asg, sem_par, sem_asgT, sem_setI, sem_ex, sem_ret, sem_retN, sem_ite, sem_frzV, sem_brk, sem_pass, sem_for, Y.E.sem.eq_1, Y.E.sem.eq_2, Y.E.sem.eq_3, Y.E.sem.eq_4, Y.E.sem.eq_5, Y.E.sem.eq_6, Y.E.sem.eq_7, Y.E.sem.eq_8, Y.E.sem.eq_9, Y.E.sem.eq_10, Y.E.sem.eq_11, Y.E.sem.eq_12, Y.E.sem.eq_13, Y.E.sem.eq_14, Y.E.sem.eq_15, Y.E.sem.eq_16, Y.E.sem.eq_17, Y.E.sem.eq_18, Y.E.sem.eq_19, Y.E.sem.eq_20, Y.E.sem.eq_21, Y.E.sem.eq_22, Y.E.sem.eq_23, Y.E.sem.eq_24, Y.E.sem.eq_25, Y.E.sem.eq_26, Y.E.sem.eq_27, Y.E.sem.eq_28, Y.E.sem.eq_29, Y.E.sem.eq_30, Y.E.sem.eq_31, Y.E.sem.eq_32, Y.E.sem.eq_33, Y.E.sem.eq_34, Y.Es.sem, Y.T.sem, sem_seq, sem_rng1, sem_rng2, sem_enm, sem_zip, sem_lc, Y.Oe.sem, Y.Ts.semAnd, Y.Ts.semOr, Y.Es.semAnd, Y.Es.semOr, CfN_call, CfN_glo]
    rw [show n + s.dep + 1 + 2 = n + s.dep + 3 by omega] at e1
    generalize interp PU (n + s.dep + 3) = I at *
    simp [i1, e1, rowD]) (by rw [wor_len]; have := (few_outs hw hd).len; simp only [List.length_nil]; omega)
  rw [interp_succ]
  simp only [runF, U, d_l_shares, b_l_shares, enter]
  simp only [Y.Ss.sem, sem_asg, sem_par, sem_asgT, sem_setI, sem_ex, sem_ret, sem_retN, sem_ite, sem_frzV, sem_brk, sem_pass, sem_for, Y.E.sem.eq_1, Y.E.sem.eq_2, Y.E.sem.eq_3, Y.E.sem.eq_4, Y.E.sem.eq_5, Y.E.sem.eq_6, Y.E.sem.eq_7, Y.E.sem.eq_8, Y.E.sem.eq_9, Y.E.sem.eq_10, Y.E.sem.eq_11, Y.E.sem.eq_12, Y.E.sem.eq_13, Y.E.sem.eq_14, Y.E.sem.eq_15, Y.E.sem.eq_16, Y.E.sem.eq_17, Y.E.sem.eq_18, Y.E.sem.eq_19, Y.E.sem.eq_20, Y.E.sem.eq_21, Y.E.sem.eq_22, Y.E.sem.eq_23, Y.E.sem.eq_24, Y.E.sem.eq_25, Y.E.sem.eq_26, Y.E.sem.eq_27, Y.E.sem.eq_28, Y.E.sem.eq_29, Y.E.sem.eq_30, Y.E.sem.eq_31, Y.E.sem.eq_32, Y.E.sem.eq_33, Y.E.sem.eq_34, Y.Es.sem, Y.T.sem, sem_seq, sem_rng1, sem_rng2, sem_enm, sem_zip, sem_lc, Y.Oe.sem, Y.Ts.semAnd, Y.Ts.semOr, Y.Es.semAnd, Y.Es.semOr, CfN_call, CfN_glo]
  generalize hI : interp PU (n + s.dep + 3) = I at *
  simp [e, so]
  unfold dints
  rw [lc]
  simp [tuple_fl]
  exact cut_ok ho (rb_shaD _)
theorem run_share_of (s : Sy) (w : Int) (n : Nat) (h : Hs) (ho : Okh h) (hw : Wg s) (hd : s.dep ≤ 4) (hl : lmF s ≤ 12) : interp PU (n + s.dep + 9) f_share_of [s.toD, .int w] h = .ok (frD (fr ((outs s).count w) (outs s).length)) h := by
  have e := run_book_of s n h ho hw hd hl
  have hT0 := (outs_len hw).1
  have g := get_bkP (A := outs s) hT0 w
  have g2 : mth .get h (.fi (bkP (outs s) (outs s).length)) [.int w, .tup [.int 0, .int 1]] = .ok (frD (fr ((outs s).count w) (outs s).length)) h := by
    rw [← g]; rfl
  have mk : mok .get h (.fi (bkP (outs s) (outs s).length)) = true := rfl
  show interp PU (n + s.dep + 8 + 1) _ _ _ = _
  rw [interp_succ]
  simp only [runF, U, d_share_of, b_share_of, enter]
  simp only [Y.Ss.sem, sem_asg, sem_par, sem_asgT, sem_setI, sem_ex, sem_ret, sem_retN, sem_ite, sem_frzV, sem_brk, sem_pass, sem_for, Y.E.sem.eq_1, Y.E.sem.eq_2, Y.E.sem.eq_3, Y.E.sem.eq_4, Y.E.sem.eq_5, Y.E.sem.eq_6, Y.E.sem.eq_7, Y.E.sem.eq_8, Y.E.sem.eq_9, Y.E.sem.eq_10, Y.E.sem.eq_11, Y.E.sem.eq_12, Y.E.sem.eq_13, Y.E.sem.eq_14, Y.E.sem.eq_15, Y.E.sem.eq_16, Y.E.sem.eq_17, Y.E.sem.eq_18, Y.E.sem.eq_19, Y.E.sem.eq_20, Y.E.sem.eq_21, Y.E.sem.eq_22, Y.E.sem.eq_23, Y.E.sem.eq_24, Y.E.sem.eq_25, Y.E.sem.eq_26, Y.E.sem.eq_27, Y.E.sem.eq_28, Y.E.sem.eq_29, Y.E.sem.eq_30, Y.E.sem.eq_31, Y.E.sem.eq_32, Y.E.sem.eq_33, Y.E.sem.eq_34, Y.Es.sem, Y.T.sem, sem_seq, sem_rng1, sem_rng2, sem_enm, sem_zip, sem_lc, Y.Oe.sem, Y.Ts.semAnd, Y.Ts.semOr, Y.Es.semAnd, Y.Es.semOr, CfN_call, CfN_glo]
  generalize interp PU (n + s.dep + 8) = I at *
  simp [e, mk, g2]
  exact cut_ok ho rb_frD
/-! ### sums over worths -/
theorem grpK_perm {K A : List Int} (hn : K.Nodup) (hm : ∀ x, x ∈ K ↔ x ∈ A) : (K.flatMap fun x => List.replicate (A.count x) x).Perm A := by
  rw [List.perm_iff_count]
  intro a
  rw [count_grp A a _ hn]
  split
  · rfl
  · rename_i c
    rw [hm] at c
    rw [List.count_eq_zero_of_not_mem c]
theorem insI_pm (x : Int) : ∀ l : List Int, (insI x l).Perm (x :: l)
  | [] => .refl _
  | y :: r => by
    rw [insI]
    split
    · exact .refl _
    · exact ((insI_pm x r).cons y).trans (.swap x y r)
theorem sortI_pm : ∀ l : List Int, (sortI l).Perm l
  | [] => .nil
  | x :: r => by rw [sortI]; exact (insI_pm x _).trans ((sortI_pm r).cons x)
theorem wor_nodup (A : List Int) : (wor A).Nodup := (sortI_pm _).nodup_iff.mpr (firsts_nodup A)
/-- how many of the outcomes are so -/
def cntK (p : Int → Bool) (A K : List Int) : Nat := ((K.filter p).map fun x => A.count x).sum
theorem cntK_grp (p : Int → Bool) (A : List Int) : ∀ K : List Int, cntK p A K = (K.flatMap fun x => List.replicate (A.count x) x).countP p
  | [] => rfl
  | k :: K => by
    have ih := cntK_grp p A K
    unfold cntK at ih ⊢
    rw [List.flatMap_cons, List.countP_append, ← ih, List.filter_cons, List.countP_replicate]
    split <;> simp
theorem cntK_all (p : Int → Bool) {A K : List Int} (hn : K.Nodup) (hm : ∀ x, x ∈ K ↔ x ∈ A) : cntK p A K = A.countP p := by
  rw [cntK_grp, (grpK_perm hn hm).countP_eq]
theorem cntK_app (p : Int → Bool) (A K L : List Int) : cntK p A (K ++ L) = cntK p A K + cntK p A L := by
  unfold cntK
  rw [List.filter_append, List.map_append, List.sum_append]
theorem cntK_le (p : Int → Bool) {A K L M : List Int} (e : M = K ++ L) (hn : M.Nodup) (hm : ∀ x, x ∈ M ↔ x ∈ A) : cntK p A K ≤ A.length := by
  have h1 := cntK_all p hn hm
  rw [e, cntK_app] at h1
  have := List.countP_le_length (p := p) (l := A)
  omega
/-- worth or greater -/
def geC (A : List Int) (w : Int) : Nat := A.countP fun x => decide (w ≤ x)
theorem run_share_from (A : List Int) (w : Int) (n : Nat) (h : Hs) (ho : Okh h) (hT0 : 0 < A.length) (hT : A.length < HB) : interp PU (n + 4) f_share_from [shaD A, .int w] h = .ok (frD (fr (geC A w) A.length)) h := by
  let E5 : Option D → Option D → Option D → Env := fun a b c => [some (shaD A), some (.int w), a, b, c]
  obtain ⟨ρ1, h1, e1, b, c, rfl, rfl⟩ := loopS_pre (rowD A.length A) (forF (CfN (n + 3)) (.t [3, 4]) (b_share_from.nth 1).body) (fun pre ρ h1 => ∃ b c, ρ = E5 (some (frD (fr (cntK (fun x => decide (w ≤ x)) A pre) A.length))) b c ∧ h1 = h) (wor A) (by
    intro pre x post e1 ρ h1 ⟨b, c, hρ, hh⟩
    subst hρ hh
    have hle := cntK_le (fun x => decide (w ≤ x)) e1 (wor_nodup A) (fun x => wor_mem)
    have e2 := run_sum_of n (fr (cntK (fun x => decide (w ≤ x)) A pre) A.length) (fr (A.count x) A.length) h1 ho (bd_fr (by omega) (by omega) (by omega)) (bd_count (Nat.le_refl _) hT0 hT x)
    rw [sumf_same _ _ (by omega), ← Int.natCast_add] at e2
    have ea : cntK (fun x => decide (w ≤ x)) A (pre ++ [x]) = cntK (fun x => decide (w ≤ x)) A pre + (if w ≤ x then A.count x else 0) := by
      rw [cntK_app]
      unfold cntK
      by_cases c : w ≤ x <;> simp [c]
    refine ⟨E5 (some (frD (fr (cntK (fun x => decide (w ≤ x)) A (pre ++ [x])) A.length))) (some (.int x)) (some (frD (fr (A.count x) A.length))), h1, ?_, _, _, rfl, rfl⟩
    rw [ea]
    rw [rowD, forF_2]
    simp only [b_share_from, Ss.nth, St.body, E5]
    simp only [Y.Ss.sem, sem_asg, sem_par, sem_asgT, sem_setI, sem_ex, sem_ret, sem_retN, sem_ite, sem_frzV, sem_brk, sem_pass, sem_for, Y.E.sem.eq_1, Y.E.sem.eq_2, Y.E.sem.eq_3, Y.E.sem.eq_4, Y.E.sem.eq_5, Y.E.sem.eq_6, Y.E.sem.eq_7, Y.E.sem.eq_8, Y.E.sem.eq_9, Y.E.sem.eq_10, Y.E.sem.eq_11, Y.E.sem.eq_12, Y.E.sem.eq_13, Y.E.sem.eq_14, Y.E.sem.eq_15, Y.E.sem.eq_16, Y.E.sem.eq_17, Y.E.sem.eq_18, Y.E.sem.eq_19, Y.E.sem.eq_20, Y.E.sem.eq_21, Y.E.sem.eq_22, Y.E.sem.eq_23, Y.E.sem.eq_24, Y.E.sem.eq_25, Y.E.sem.eq_26, Y.E.sem.eq_27, Y.E.sem.eq_28, Y.E.sem.eq_29, Y.E.sem.eq_30, Y.E.sem.eq_31, Y.E.sem.eq_32, Y.E.sem.eq_33, Y.E.sem.eq_34, Y.Es.sem, Y.T.sem, sem_seq, sem_rng1, sem_rng2, sem_enm, sem_zip, sem_lc, Y.Oe.sem, Y.Ts.semAnd, Y.Ts.semOr, Y.Es.semAnd, Y.Es.semOr, CfN_call, CfN_glo]
    generalize interp PU (n + 3) = I at *
    by_cases c : w ≤ x
    · simp only [c, if_true]
      generalize frD (fr (cntK (fun x => decide (w ≤ x)) A pre) A.length) = q1 at *
      generalize frD (fr (A.count x) A.length) = q2 at *
      generalize frD (fr ((cntK (fun x => decide (w ≤ x)) A pre + A.count x : Nat) : Int) A.length) = q3 at *
      simp [c, e2]
    · simp [c]) (E5 (some (frD (0, 1))) none none) h ⟨none, none, by rw [show cntK (fun x => decide (w ≤ x)) A [] = 0 from rfl, show ((0 : Nat) : Int) = 0 from rfl, fr_0 (by omega)], rfl⟩
  rw [cntK_all _ (wor_nodup A) (fun x => wor_mem)] at e1
  show interp PU (n + 3 + 1) _ _ _ = _
  rw [interp_succ]
  simp only [b_share_from, Ss.nth, St.body, E5] at e1
  simp only [runF, U, d_share_from, b_share_from, enter]
  simp only [Y.Ss.sem, sem_asg, sem_par, sem_asgT, sem_setI, sem_ex, sem_ret, sem_retN, sem_ite, sem_frzV, sem_brk, sem_pass, sem_for, Y.E.sem.eq_1, Y.E.sem.eq_2, Y.E.sem.eq_3, Y.E.sem.eq_4, Y.E.sem.eq_5, Y.E.sem.eq_6, Y.E.sem.eq_7, Y.E.sem.eq_8, Y.E.sem.eq_9, Y.E.sem.eq_10, Y.E.sem.eq_11, Y.E.sem.eq_12, Y.E.sem.eq_13, Y.E.sem.eq_14, Y.E.sem.eq_15, Y.E.sem.eq_16, Y.E.sem.eq_17, Y.E.sem.eq_18, Y.E.sem.eq_19, Y.E.sem.eq_20, Y.E.sem.eq_21, Y.E.sem.eq_22, Y.E.sem.eq_23, Y.E.sem.eq_24, Y.E.sem.eq_25, Y.E.sem.eq_26, Y.E.sem.eq_27, Y.E.sem.eq_28, Y.E.sem.eq_29, Y.E.sem.eq_30, Y.E.sem.eq_31, Y.E.sem.eq_32, Y.E.sem.eq_33, Y.E.sem.eq_34, Y.Es.sem, Y.T.sem, sem_seq, sem_rng1, sem_rng2, sem_enm, sem_zip, sem_lc, Y.Oe.sem, Y.Ts.semAnd, Y.Ts.semOr, Y.Es.semAnd, Y.Es.semOr, CfN_call, CfN_glo]
  rw [show frD (0, 1) = .tup [.int 0, .int 1] from rfl, show shaD A = .tup ((wor A).map (rowD A.length A)) from rfl] at e1
  simp [shaD]
  rw [e1]
  simp
  exact cut_ok ho rb_frD
theorem run_at_least (s : Sy) (w : Int) (n : Nat) (h : Hs) (ho : Okh h) (hw : Wg s) (hd : s.dep ≤ 4) (hl : lmF s ≤ 12) : interp PU (n + s.dep + 10) f_at_least [s.toD, .int w] h = .ok (frD (fr (geC (outs s) w) (outs s).length)) h := by
  have e := run_shares s n h ho hw hd hl
  have e2 := run_share_from (outs s) w (n + s.dep + 5) h ho (outs_len hw).1 (outs_hb hw hl)
  show interp PU (n + s.dep + 9 + 1) _ _ _ = _
  rw [interp_succ]
  simp only [runF, U, d_at_least, b_at_least, enter]
  simp only [Y.Ss.sem, sem_asg, sem_par, sem_asgT, sem_setI, sem_ex, sem_ret, sem_retN, sem_ite, sem_frzV, sem_brk, sem_pass, sem_for, Y.E.sem.eq_1, Y.E.sem.eq_2, Y.E.sem.eq_3, Y.E.sem.eq_4, Y.E.sem.eq_5, Y.E.sem.eq_6, Y.E.sem.eq_7, Y.E.sem.eq_8, Y.E.sem.eq_9, Y.E.sem.eq_10, Y.E.sem.eq_11, Y.E.sem.eq_12, Y.E.sem.eq_13, Y.E.sem.eq_14, Y.E.sem.eq_15, Y.E.sem.eq_16, Y.E.sem.eq_17, Y.E.sem.eq_18, Y.E.sem.eq_19, Y.E.sem.eq_20, Y.E.sem.eq_21, Y.E.sem.eq_22, Y.E.sem.eq_23, Y.E.sem.eq_24, Y.E.sem.eq_25, Y.E.sem.eq_26, Y.E.sem.eq_27, Y.E.sem.eq_28, Y.E.sem.eq_29, Y.E.sem.eq_30, Y.E.sem.eq_31, Y.E.sem.eq_32, Y.E.sem.eq_33, Y.E.sem.eq_34, Y.Es.sem, Y.T.sem, sem_seq, sem_rng1, sem_rng2, sem_enm, sem_zip, sem_lc, Y.Oe.sem, Y.Ts.semAnd, Y.Ts.semOr, Y.Es.semAnd, Y.Es.semOr, CfN_call, CfN_glo]
  rw [show n + s.dep + 5 + 4 = n + s.dep + 9 by omega] at e2
  generalize interp PU (n + s.dep + 9) = I at *
  simp [e, e2]
  exact cut_ok ho rb_frD
/-! ### shares as data -/
theorem sdn_frD {k : Nat} (p : Int × Int) : sdn (k + 1) (frD p) = true := by cases k <;> simp [frD, sdn, sdsn]
theorem sdn_row {k T : Nat} {A : List Int} {x : Int} : sdn (k + 2) (rowD T A x) = true := by
  have := sdn_frD (k := k) (fr (A.count x) T)
  simp [rowD, sdn, sdsn, this]
theorem sdn_sha {k : Nat} {A : List Int} (hl : (firsts A).length < SZ) : sdn (k + 3) (shaD A) = true := by
  unfold shaD
  rw [sdn, Bool.and_eq_true, decide_eq_true_eq, List.length_map, wor_len]
  refine ⟨by omega, ?_⟩
  generalize wor A = l
  induction l with
  | nil => simp [sdsn]
  | cons x l ih =>
    rw [List.map_cons, sdsn, ih, sdn_row]; rfl
theorem okn_frD {k : Nat} (p : Int × Int) : D.okn (k + 1) (frD p) = true := by simp [frD]
theorem okn_row {k T : Nat} {A : List Int} {x : Int} : D.okn (k + 2) (rowD T A x) = true := by simp [rowD, okn_frD]
theorem okn_sha {k : Nat} {A : List Int} : D.okn (k + 3) (shaD A) = true := by
  unfold shaD
  rw [okn_tup]
  generalize wor A = l
  induction l with
  | nil => simp
  | cons x l ih => rw [List.map_cons, oksn_cons, ih, okn_row]; rfl
@[simp] theorem deref_sha {h : Hs} {A : List Int} : deref h (shaD A) = shaD A := rfl
@[simp] theorem deref_frD {h : Hs} {p : Int × Int} : deref h (frD p) = frD p := rfl
end Y

set_option linter.all false
set_option maxRecDepth 100000
set_option maxHeartbeats 4000000
namespace Y
/-! ### at the level of a law -/
section
variable {s : Sy} {h : Hs} (ho : Okh h) (hw : Wg s) (hd : s.dep ≤ 4) (hl : lmF s ≤ 12)
theorem shares99 (ho : Okh h) (hw : Wg s) (hd : s.dep ≤ 4) (hl : lmF s ≤ 12) : interp PU 99 f_shares [s.toD] h = .ok (shaD (outs s)) h := by
  have := run_shares s (90 - s.dep) h ho hw hd hl
  rwa [show 90 - s.dep + s.dep + 9 = 99 by omega] at this
theorem lshares99 (ho : Okh h) (hw : Wg s) (hd : s.dep ≤ 4) (hl : lmF s ≤ 12) : interp PU 99 f_l_shares [s.toD] h = .ok (shaD (outs s)) h := by
  have := run_l_shares s (95 - s.dep) h ho hw hd hl
  rwa [show 95 - s.dep + s.dep + 4 = 99 by omega] at this
theorem lbook99 (ho : Okh h) (hw : Wg s) (hd : s.dep ≤ 4) (hl : lmF s ≤ 12) : interp PU 99 f_l_book [s.toD] h = .ok (.tup [.fi (bkL (outs s)), .int (outs s).length]) h := by
  have := run_l_book s (96 - s.dep) h ho hw hd hl
  rwa [show 96 - s.dep + s.dep + 3 = 99 by omega] at this
theorem shareof99 (w : Int) (ho : Okh h) (hw : Wg s) (hd : s.dep ≤ 4) (hl : lmF s ≤ 12) : interp PU 99 f_share_of [s.toD, .int w] h = .ok (frD (fr ((outs s).count w) (outs s).length)) h := by
  have := run_share_of s w (90 - s.dep) h ho hw hd hl
  rwa [show 90 - s.dep + s.dep + 9 = 99 by omega] at this
theorem atleast99 (w : Int) (ho : Okh h) (hw : Wg s) (hd : s.dep ≤ 4) (hl : lmF s ≤ 12) : interp PU 99 f_at_least [s.toD, .int w] h = .ok (frD (fr (geC (outs s) w) (outs s).length)) h := by
  have := run_at_least s w (89 - s.dep) h ho hw hd hl
  rwa [show 89 - s.dep + s.dep + 10 = 99 by omega] at this
theorem same99 {d : D} (ho : Okh h) (hs : sdn 10 d = true) : interp PU 99 f_l_same [d, d] h = .ok (.bl true) h := run_l_same 10 d 88 h ho hs
theorem cell99 {ns : List Int} {k : Int} (ho : Okh h) (hk : 0 ≤ k) : interp PU 99 f_l_cell [.scr ns, .int k] h = .ok (.int (cellF ns k)) h := run_l_cell 98 ns k h ho hk
theorem mix99 {c p m : Int} (ho : Okh h) (hp : 0 < p) (hp2 : p < 18446744073709551616) (hm : 0 < m) : interp PU 99 f_l_mix [.int c, .int p, .int m] h = .ok (.int (mixI c p m)) h := run_mix 98 c p m h ho hp hp2 hm
theorem say99 {c m : Int} (ho : Okh h) (hm : 0 ≤ m) : interp PU 99 f_l_saying [.int c, .int 3, .int m] h = .ok (lsayF 3 c m).toD h := run_l_saying 2 90 c m h ho hm
theorem say99_2 {c m : Int} (ho : Okh h) (hm : 0 ≤ m) : interp PU 99 f_l_saying [.int c, .int 2, .int m] h = .ok (lsayF 2 c m).toD h := run_l_saying 1 92 c m h ho hm
theorem lfrac99 {a b : Int} (ho : Okh h) (hb : 0 < b) (hB : b.natAbs < BIG) : interp PU 99 f_l_fraction [.int a, .int b] h = .ok (frD (fr a b)) h := run_l_fraction 97 a b h ho hb hB
end
theorem loopC_filter {α : Type} (enc : α → D) (p : α → Bool) (g : α → D) (F : D → Hs → R (Option D)) (h : Hs) : ∀ (xs : List α) (acc : List D), (∀ x ∈ xs, F (enc x) h = .ok (if p x = true then some (g x) else none) h) → acc.length + xs.length ≤ SZ → loopC F (xs.map enc) acc h = .ok (acc ++ (xs.filter p).map g) h
  | [], acc, _, _ => by simp [loopC]
  | x :: xs, acc, hf, hl => by
    simp only [List.length_cons] at hl
    have hlt : acc.length < SZ := by omega
    rw [List.map_cons, loopC, hf x (by simp)]
    by_cases c : p x = true
    · have := loopC_filter enc p g F h xs (acc ++ [g x]) (fun y hy => hf y (by simp [hy])) (by simp at hl ⊢; omega)
      simp only [c, if_true, R.bind_ok, hlt]
      rw [this, List.filter_cons, if_pos c]; simp
    · have := loopC_filter enc p g F h xs acc (fun y hy => hf y (by simp [hy])) (by omega)
      simp only [c, if_false, R.bind_ok, Bool.false_eq_true]
      rw [this, List.filter_cons, if_neg c]
theorem sum_cast {α : Type} (f : α → Nat) : ∀ l : List α, (l.map fun x => ((f x : Nat) : Int)).sum = (((l.map f).sum : Nat) : Int)
  | [] => rfl
  | x :: l => by rw [List.map_cons, List.sum_cons, List.map_cons, List.sum_cons, Int.natCast_add, sum_cast f l]
theorem sum_ints {α : Type} {h : Hs} (f : α → Int) (l : List α) : blt .sum h [.fl (l.map fun x => D.int (f x))] = .ok (.int (l.map f).sum) h := by
  have e : (l.map fun x => D.int (f x)) = dints (l.map f) := by unfold dints; rw [List.map_map]; rfl
  rw [e, sum_fdints]
/-- a book's ways with what is asked, summed -/
theorem lc_sumP {C : Cfg} {A : List Int} {elt : E} {i : Nat} {t : T} {ρ : Env} {h : Hs} (p : Int → Bool) (K : List Int) (hl : K.length < SZ)
    (ht : ∀ x ∈ K, T.sem C t ((ρ.set i none).set i (some (.int x))) h = .ok (p x) h) (he : ∀ x ∈ K, E.sem C elt ((ρ.set i none).set i (some (.int x))) h = .ok (.int (A.count x)) h) :
    loopC (lcG elt (.n i) t C ρ) (K.map D.int) [] h = .ok ((K.filter p).map fun x => D.int ((A.count x : Nat) : Int)) h := by
  have := loopC_filter D.int p (fun x => D.int ((A.count x : Nat) : Int)) (lcG elt (.n i) t C ρ) h K [] (fun x hx => by
    rw [lcG_n, ht x hx]
    simp only [R.bind_ok]
    cases p x
    · rfl
    · rw [if_pos rfl, he x hx]; rfl) (by simp only [List.length_nil]; omega)
  exact this
theorem sum_cnt {h : Hs} {A K : List Int} {p : Int → Bool} : blt .sum h [.fl ((K.filter p).map fun x => D.int ((A.count x : Nat) : Int))] = .ok (.int (cntK p A K)) h := by
  rw [sum_ints, sum_cast]; rfl
theorem get_fi {h : Hs} {A : List Int} {w : Int} : mth .get h (.fi (bkL A)) [.int w, .int 0] = .ok (.int (A.count w)) h := by
  rw [← get_bkL]; rfl
@[simp] theorem mok_fi {h : Hs} {kvs : List (Int × D)} : mok .get h (.fi kvs) = true := rfl
/-- the drawn saying -/
theorem drawn (c : Int) : Wg (lsayF 3 c 6) ∧ (lsayF 3 c 6).dep ≤ 4 ∧ lmF (lsayF 3 c 6) ≤ 12 := by
  obtain ⟨a, b, d⟩ := wf_lsay 3 c 6 (by omega)
  exact ⟨a, by omega, by omega⟩
theorem wor_ne {A : List Int} (h : 0 < A.length) : ∃ a b r t, wor A = a :: r ∧ wor A = t ++ [b] := by
  have : wor A ≠ [] := by
    intro e
    cases A with
    | nil => simp at h
    | cons x A =>
      have : x ∈ wor (x :: A) := wor_mem.mpr (by simp)
      rw [e] at this
      cases this
  obtain ⟨a, r, e1⟩ := List.exists_cons_of_ne_nil this
  exact ⟨a, (wor A).getLast this, r, (wor A).dropLast, e1, (List.dropLast_concat_getLast this).symm⟩
theorem ix_last {h : Hs} {l : List D} {d : D} : index h (.tup (l ++ [d])) (.int (-1)) = some d := by
  have e : ixN (l.length + 1) (-1) = some l.length := by
    unfold ixN
    rw [if_neg (by omega), if_pos (by omega)]
    congr 1
    omega
  simp [index, atI, e]
theorem okh0 : Okh [] := rfl
end Y

set_option linter.all false
set_option maxRecDepth 100000
set_option maxHeartbeats 4000000
namespace Y
/-! ### sorted -/
theorem insI_srt (x : Int) : ∀ l : List Int, l.Pairwise (· ≤ ·) → (insI x l).Pairwise (· ≤ ·)
  | [], _ => by simp [insI]
  | y :: r, h => by
    rw [insI]
    rw [List.pairwise_cons] at h
    split
    · rename_i c
      rw [List.pairwise_cons, List.pairwise_cons]
      refine ⟨fun z hz => ?_, h⟩
      rcases List.mem_cons.mp hz with rfl | hz
      · exact c
      · exact Int.le_trans c (h.1 z hz)
    · rename_i c
      rw [List.pairwise_cons]
      refine ⟨fun z hz => ?_, insI_srt x r h.2⟩
      rcases (insI_mem r).mp hz with rfl | hz
      · omega
      · exact h.1 z hz
theorem sortI_srt : ∀ l : List Int, (sortI l).Pairwise (· ≤ ·)
  | [] => .nil
  | x :: r => by rw [sortI]; exact insI_srt x _ (sortI_srt r)
theorem wor_sorted (A : List Int) : (wor A).Pairwise (· < ·) := by
  have h1 : (wor A).Pairwise (· ≤ ·) := sortI_srt _
  have h2 := List.nodup_iff_pairwise_ne.mp (wor_nodup A)
  exact (h1.and h2).imp fun ⟨a, b⟩ => by omega
/-! ### sums -/
theorem perm_sum {l m : List Int} (h : l.Perm m) : l.sum = m.sum := by
  induction h with
  | nil => rfl
  | cons x _ ih => rw [List.sum_cons, List.sum_cons, ih]
  | swap x y l => simp only [List.sum_cons]; omega
  | trans _ _ i j => exact i.trans j
theorem rep_sum (f : Int → Int) (x : Int) : ∀ n : Nat, ((List.replicate n x).map f).sum = f x * n
  | 0 => by simp
  | n + 1 => by rw [List.replicate_succ, List.map_cons, List.sum_cons, rep_sum f x n, Int.natCast_add, Int.mul_add]; omega
/-- worths with their ways, summed -/
def sumK (f : Int → Int) (A K : List Int) : Int := (K.map fun x => f x * (A.count x : Nat)).sum
theorem sumK_grp (f : Int → Int) (A : List Int) : ∀ K : List Int, sumK f A K = ((K.flatMap fun x => List.replicate (A.count x) x).map f).sum
  | [] => rfl
  | k :: K => by
    have ih := sumK_grp f A K
    unfold sumK at ih ⊢
    rw [List.flatMap_cons, List.map_append, List.sum_append, ← ih, rep_sum]
    rfl
theorem sumK_all (f : Int → Int) {A K : List Int} (hn : K.Nodup) (hm : ∀ x, x ∈ K ↔ x ∈ A) : sumK f A K = (A.map f).sum := by
  rw [sumK_grp]
  exact perm_sum ((grpK_perm hn hm).map f)
theorem sumK_app (f : Int → Int) (A K L : List Int) : sumK f A (K ++ L) = sumK f A K + sumK f A L := by
  unfold sumK
  rw [List.map_append, List.sum_append]
theorem sumK_le {f : Int → Int} {A : List Int} {b : Nat} : ∀ K : List Int, (∀ x ∈ K, (f x).natAbs ≤ b) → (sumK f A K).natAbs ≤ b * cntK (fun _ => true) A K
  | [], _ => by simp [sumK, cntK]
  | k :: K, h => by
    have ih := sumK_le (f := f) (A := A) K fun x hx => h x (by simp [hx])
    have e1 : sumK f A (k :: K) = f k * (A.count k : Nat) + sumK f A K := rfl
    have e2 : cntK (fun _ => true) A (k :: K) = A.count k + cntK (fun _ => true) A K := by unfold cntK; simp
    rw [e1, e2, Nat.mul_add]
    have h1 : (f k * (A.count k : Nat)).natAbs ≤ b * A.count k := by
      rw [Int.natAbs_mul, Int.natAbs_natCast]
      exact Nat.mul_le_mul_right _ (h k (by simp))
    have h2 := Int.natAbs_add_le (f k * (A.count k : Nat)) (sumK f A K)
    omega
/-! ### mean -/
theorem run_mean (s : Sy) (n : Nat) (h : Hs) (ho : Okh h) (hw : Wg s) (hd : s.dep ≤ 4) (hl : lmF s ≤ 12) : interp PU (n + s.dep + 10) f_mean [s.toD] h = .ok (frD (fr (outs s).sum (outs s).length)) h := by
  have e := run_shares s n h ho hw hd hl
  have hT0 := (outs_len hw).1
  have hT1 := (outs_len hw).2
  have hT := outs_hb hw hl
  have hTT : 10000 * (outs s).length < HB := by
    have h2 : 216 ^ (lmF s).toNat ≤ 216 ^ 12 := Nat.pow_le_pow_right (by omega) (by omega)
    have h3 : 10000 * 216 ^ 12 < HB := by decide +kernel
    omega
  have hfew := few_outs hw hd
  generalize outs s = A at *
  let E5 : Option D → Option D → Option D → Env := fun a b c => [some s.toD, a, b, c]
  obtain ⟨ρ1, h1, e1, b, c, rfl, rfl⟩ := loopS_pre (rowD A.length A) (forF (CfN (n + s.dep + 9)) (.t [2, 3]) (b_mean.nth 1).body) (fun pre ρ h1 => ∃ b c, ρ = E5 (some (frD (fr (sumK id A pre) A.length))) b c ∧ h1 = h) (wor A) (by
    intro pre x post e1 ρ h1 ⟨b, c, hρ, hh⟩
    subst hρ hh
    have hx := hfew x (wor_mem.mp (by rw [e1]; simp))
    have hle := cntK_le (fun _ => true) e1 (wor_nodup A) (fun x => wor_mem)
    have hb := sumK_le (f := id) (A := A) (b := 10000) pre (fun y hy => by have := hfew y (wor_mem.mp (by rw [e1]; simp [hy])); simp only [id]; omega)
    have hb2 : (sumK id A pre).natAbs < HB := by
      have : 10000 * cntK (fun _ => true) A pre ≤ 10000 * A.length := Nat.mul_le_mul_left _ hle
      omega
    have hc : (x * (A.count x : Nat)).natAbs < HB := by
      rw [Int.natAbs_mul, Int.natAbs_natCast]
      have : x.natAbs * A.count x ≤ 10000 * A.length := Nat.mul_le_mul (by omega) List.count_le_length
      omega
    have h20 : 20000 < HB := by decide +kernel
    have e0 := run_fraction (n + s.dep + 7) x 1 h1 ho (by omega) (by decide +kernel)
    have e3 := run_product (n + s.dep + 6) (fr x 1) (fr (A.count x) A.length) h1 ho (bd_fr (by omega) (by omega) (by decide +kernel)) (bd_count (Nat.le_refl _) hT0 hT x)
    rw [prodf_fr _ _ (by omega) (by omega), Int.one_mul] at e3
    have e2 := run_sum_of (n + s.dep + 6) (fr (sumK id A pre) A.length) (fr (x * (A.count x : Nat)) A.length) h1 ho (bd_fr (by omega) hb2 (by omega)) (bd_fr (by omega) hc (by omega))
    rw [sumf_same _ _ (by omega)] at e2
    have ea : sumK id A (pre ++ [x]) = sumK id A pre + x * (A.count x : Nat) := by
      rw [sumK_app]
      unfold sumK
      simp
    refine ⟨E5 (some (frD (fr (sumK id A (pre ++ [x])) A.length))) (some (.int x)) (some (frD (fr (A.count x) A.length))), h1, ?_, _, _, rfl, rfl⟩
    rw [ea]
    rw [rowD, forF_2]
    simp only [b_mean, Ss.nth, St.body, E5]
    simp only [Y.Ss.sem, sem_asg, sem_par, sem_asgT, sem_setI, sem_ex, sem_ret, sem_retN, sem_ite, sem_frzV, sem_brk, sem_pass, sem_for, Y.E.sem.eq_1, Y.E.sem.eq_2, Y.E.sem.eq_3, Y.E.sem.eq_4, Y.E.sem.eq_5, Y.E.sem.eq_6, Y.E.sem.eq_7, Y.E.sem.eq_8, Y.E.sem.eq_9, Y.E.sem.eq_10, Y.E.sem.eq_11, Y.E.sem.eq_12, Y.E.sem.eq_13, Y.E.sem.eq_14, Y.E.sem.eq_15, Y.E.sem.eq_16, Y.E.sem.eq_17, Y.E.sem.eq_18, Y.E.sem.eq_19, Y.E.sem.eq_20, Y.E.sem.eq_21, Y.E.sem.eq_22, Y.E.sem.eq_23, Y.E.sem.eq_24, Y.E.sem.eq_25, Y.E.sem.eq_26, Y.E.sem.eq_27, Y.E.sem.eq_28, Y.E.sem.eq_29, Y.E.sem.eq_30, Y.E.sem.eq_31, Y.E.sem.eq_32, Y.E.sem.eq_33, Y.E.sem.eq_34, Y.Es.sem, Y.T.sem, sem_seq, sem_rng1, sem_rng2, sem_enm, sem_zip, sem_lc, Y.Oe.sem, Y.Ts.semAnd, Y.Ts.semOr, Y.Es.semAnd, Y.Es.semOr, CfN_call, CfN_glo]
    rw [show n + s.dep + 7 + 2 = n + s.dep + 9 by omega] at e0
    rw [show n + s.dep + 6 + 3 = n + s.dep + 9 by omega] at e2 e3
    generalize interp PU (n + s.dep + 9) = I at *
    generalize frD (fr (sumK id A pre) A.length) = q1 at *
    generalize frD (fr (sumK id A pre + x * (A.count x : Nat)) A.length) = q4 at *
    generalize frD (fr (A.count x) A.length) = q2 at *
    generalize frD (fr (x * (A.count x : Nat)) A.length) = q3 at *
    simp [e0, e2, e3]) (E5 (some (frD (0, 1))) none none) h ⟨none, none, by rw [show sumK id A [] = 0 from rfl, fr_0 (by omega)], rfl⟩
  rw [sumK_all _ (wor_nodup A) (fun x => wor_mem), List.map_id] at e1
  show interp PU (n + s.dep + 9 + 1) _ _ _ = _
  rw [interp_succ]
  simp only [b_mean, Ss.nth, St.body, E5] at e1
  simp only [runF, U, d_mean, b_mean, enter]
  simp only [Y.Ss.sem, sem_asg, sem_par, sem_asgT, sem_setI, sem_ex, sem_ret, sem_retN, sem_ite, sem_frzV, sem_brk, sem_pass, sem_for, Y.E.sem.eq_1, Y.E.sem.eq_2, Y.E.sem.eq_3, Y.E.sem.eq_4, Y.E.sem.eq_5, Y.E.sem.eq_6, Y.E.sem.eq_7, Y.E.sem.eq_8, Y.E.sem.eq_9, Y.E.sem.eq_10, Y.E.sem.eq_11, Y.E.sem.eq_12, Y.E.sem.eq_13, Y.E.sem.eq_14, Y.E.sem.eq_15, Y.E.sem.eq_16, Y.E.sem.eq_17, Y.E.sem.eq_18, Y.E.sem.eq_19, Y.E.sem.eq_20, Y.E.sem.eq_21, Y.E.sem.eq_22, Y.E.sem.eq_23, Y.E.sem.eq_24, Y.E.sem.eq_25, Y.E.sem.eq_26, Y.E.sem.eq_27, Y.E.sem.eq_28, Y.E.sem.eq_29, Y.E.sem.eq_30, Y.E.sem.eq_31, Y.E.sem.eq_32, Y.E.sem.eq_33, Y.E.sem.eq_34, Y.Es.sem, Y.T.sem, sem_seq, sem_rng1, sem_rng2, sem_enm, sem_zip, sem_lc, Y.Oe.sem, Y.Ts.semAnd, Y.Ts.semOr, Y.Es.semAnd, Y.Es.semOr, CfN_call, CfN_glo]
  rw [show frD (0, 1) = .tup [.int 0, .int 1] from rfl] at e1
  generalize hI : interp PU (n + s.dep + 9) = I at *
  simp [e, shaD]
  rw [e1]
  simp
  exact cut_ok ho rb_frD
theorem rb_dints {k : Nat} (l : List Int) : D.rb k (.tup (dints l)) = true := by
  show D.rbs k (dints l) = true
  unfold dints
  induction l with
  | nil => rfl
  | cons x l ih => simp only [List.map_cons, rbs_cons, ih]; rfl
/-! ### likeliest -/
theorem fr_lt (a b : Int) {T S : Int} (hT : 0 < T) (hS : 0 < S) : (fr a T).1 * (fr b S).2 < (fr b S).1 * (fr a T).2 ↔ a * S < b * T := by
  obtain ⟨g, g0, e1, e2, e3⟩ := fr_parts a hT
  obtain ⟨k, k0, f1, f2, f3⟩ := fr_parts b hS
  generalize fr a T = p at *
  generalize fr b S = q at *
  rw [e1, e2, f1, f2]
  have h1 : g * p.1 * (k * q.2) = (g * k) * (p.1 * q.2) := by grind
  have h2 : k * q.1 * (g * p.2) = (g * k) * (q.1 * p.2) := by grind
  rw [h1, h2]
  constructor
  · intro h; exact Int.mul_lt_mul_of_pos_left h (Int.mul_pos g0 k0)
  · intro h; exact Int.lt_of_mul_lt_mul_left h (Int.le_of_lt (Int.mul_pos g0 k0))
theorem fr_ltN (a b : Nat) {T : Nat} (hT : 0 < T) : (decide ((fr a T).1 * (fr b T).2 < (fr b T).1 * (fr a T).2)) = decide (a < b) := by
  rw [decide_eq_decide, fr_lt _ _ (by omega) (by omega)]
  constructor
  · intro h
    have := Int.lt_of_mul_lt_mul_right h (by omega)
    omega
  · intro h
    exact Int.mul_lt_mul_of_pos_right (by omega) (by omega)
def bls (l : List Bool) : List D := l.map D.bl
theorem blsOf_bls : ∀ l : List Bool, blsOf (bls l) = some l
  | [] => rfl
  | b :: l => by
    have := blsOf_bls l
    unfold bls at this ⊢
    simp [blsOf, this]
theorem any_bls {h : Hs} (l : List Bool) : blt .any h [.fl (bls l)] = .ok (.bl (l.any id)) h := by simp [blt, blsOf_bls]
theorem all_bls {h : Hs} (l : List Bool) : blt .all h [.fl (bls l)] = .ok (.bl (l.all id)) h := by simp [blt, blsOf_bls]
def likF (A : List Int) : List Int := (wor A).filter fun x => !(wor A).any fun y => decide (A.count x < A.count y)
theorem run_likeliest (s : Sy) (n : Nat) (h : Hs) (ho : Okh h) (hw : Wg s) (hd : s.dep ≤ 4) (hl : lmF s ≤ 12) : interp PU (n + s.dep + 10) f_likeliest [s.toD] h = .ok (.tup (dints (likF (outs s)))) h := by
  have e := run_shares s n h ho hw hd hl
  have hT0 := (outs_len hw).1
  have hT := outs_hb hw hl
  have hfew := (few_outs hw hd).len
  generalize outs s = A at *
  have hwl : (wor A).length ≤ SZ := by rw [wor_len]; omega
  have it : shaD A = .tup ((wor A).map (rowD A.length A)) := rfl
  have l1 : ∀ x : Int, loopC (lcG (.call f_is_less (.cons (.var 3) (.cons (.var 5) .nil))) (.t [4, 5]) .tt (CfN (n + s.dep + 9)) [some s.toD, some (shaD A), some (.int x), some (frD (fr (A.count x) A.length)), none, none]) ((wor A).map (rowD A.length A)) [] h = .ok (bls ((wor A).map fun y => decide (A.count x < A.count y))) h := by
    intro x
    have := loopC_map (rowD A.length A) (fun y => D.bl (decide (A.count x < A.count y))) (lcG (.call f_is_less (.cons (.var 3) (.cons (.var 5) .nil))) (.t [4, 5]) .tt (CfN (n + s.dep + 9)) [some s.toD, some (shaD A), some (.int x), some (frD (fr (A.count x) A.length)), none, none]) h (wor A) [] (by
      intro y hy
      have e1 := run_is_less (n + s.dep + 8) (fr (A.count x) A.length) (fr (A.count y) A.length) h ho (bd_count (Nat.le_refl _) hT0 hT x) (bd_count (Nat.le_refl _) hT0 hT y)
      rw [fr_ltN _ _ hT0] at e1
      rw [rowD, lcG_2]
      simp only [Y.Ss.sem, sem_asg, sem_par, sem_asgT, sem_setI, sem_ex, sem_ret, sem_retN, sem_ite, sem_frzV, sem_brk, sem_pass, sem_for, Y.E.sem.eq_1, Y.E.sem.eq_2, Y.E.sem.eq_3, Y.E.sem.eq_4, Y.E.sem.eq_5, Y.E.sem.eq_6, Y.E.sem.eq_7, Y.E.sem.eq_8, Y.E.sem.eq_9, Y.E.sem.eq_10, Y.E.sem.eq_11, Y.E.sem.eq_12, Y.E.sem.eq_13, Y.E.sem.eq_14, Y.E.sem.eq_15, Y.E.sem.eq_16, Y.E.sem.eq_17, Y.E.sem.eq_18, Y.E.sem.eq_19, Y.E.sem.eq_20, Y.E.sem.eq_21, Y.E.sem.eq_22, Y.E.sem.eq_23, Y.E.sem.eq_24, Y.E.sem.eq_25, Y.E.sem.eq_26, Y.E.sem.eq_27, Y.E.sem.eq_28, Y.E.sem.eq_29, Y.E.sem.eq_30, Y.E.sem.eq_31, Y.E.sem.eq_32, Y.E.sem.eq_33, Y.E.sem.eq_34, Y.Es.sem, Y.T.sem, sem_seq, sem_rng1, sem_rng2, sem_enm, sem_zip, sem_lc, Y.Oe.sem, Y.Ts.semAnd, Y.Ts.semOr, Y.Es.semAnd, Y.Es.semOr, CfN_call, CfN_glo]
      rw [show n + s.dep + 8 + 1 = n + s.dep + 9 by omega] at e1
      generalize interp PU (n + s.dep + 9) = I at *
      simp [e1]) (by simpa using hwl)
    rw [this]
    unfold bls
    simp
  have l2 := loopC_filter (rowD A.length A) (fun x => !(wor A).any fun y => decide (A.count x < A.count y)) D.int (lcG (.var 2) (.t [2, 3]) (.not (.tru (.blt .any (.cons (.lc (.call f_is_less (.cons (.var 3) (.cons (.var 5) .nil))) (.t [4, 5]) (.seq (.var 1)) .tt) .nil)))) (CfN (n + s.dep + 9)) [some s.toD, some (shaD A), none, none, none, none]) h (wor A) [] (by
      intro x hx
      have l1' := l1 x
      have a1 : blt .any h [.fl (bls ((wor A).map fun y => decide (A.count x < A.count y)))] = .ok (.bl ((wor A).any fun y => decide (A.count x < A.count y))) h := by
        rw [any_bls, List.any_map]; rfl
      rw [rowD, lcG_2]
      simp only [Y.Ss.sem, sem_asg, sem_par, sem_asgT, sem_setI, sem_ex, sem_ret, sem_retN, sem_ite, sem_frzV, sem_brk, sem_pass, sem_for, Y.E.sem.eq_1, Y.E.sem.eq_2, Y.E.sem.eq_3, Y.E.sem.eq_4, Y.E.sem.eq_5, Y.E.sem.eq_6, Y.E.sem.eq_7, Y.E.sem.eq_8, Y.E.sem.eq_9, Y.E.sem.eq_10, Y.E.sem.eq_11, Y.E.sem.eq_12, Y.E.sem.eq_13, Y.E.sem.eq_14, Y.E.sem.eq_15, Y.E.sem.eq_16, Y.E.sem.eq_17, Y.E.sem.eq_18, Y.E.sem.eq_19, Y.E.sem.eq_20, Y.E.sem.eq_21, Y.E.sem.eq_22, Y.E.sem.eq_23, Y.E.sem.eq_24, Y.E.sem.eq_25, Y.E.sem.eq_26, Y.E.sem.eq_27, Y.E.sem.eq_28, Y.E.sem.eq_29, Y.E.sem.eq_30, Y.E.sem.eq_31, Y.E.sem.eq_32, Y.E.sem.eq_33, Y.E.sem.eq_34, Y.Es.sem, Y.T.sem, sem_seq, sem_rng1, sem_rng2, sem_enm, sem_zip, sem_lc, Y.Oe.sem, Y.Ts.semAnd, Y.Ts.semOr, Y.Es.semAnd, Y.Es.semOr, CfN_call, CfN_glo]
      rw [it] at l1' ⊢
      generalize ((wor A).any fun y => decide (A.count x < A.count y)) = b at *
      generalize bls ((wor A).map fun y => decide (A.count x < A.count y)) = q at *
      simp
      rw [l1']
      cases b <;> simp [a1]) (by simpa using hwl)
  show interp PU (n + s.dep + 9 + 1) _ _ _ = _
  rw [interp_succ]
  simp only [runF, U, d_likeliest, b_likeliest, enter]
  simp only [Y.Ss.sem, sem_asg, sem_par, sem_asgT, sem_setI, sem_ex, sem_ret, sem_retN, sem_ite, sem_frzV, sem_brk, sem_pass, sem_for, Y.E.sem.eq_1, Y.E.sem.eq_2, Y.E.sem.eq_3, Y.E.sem.eq_4, Y.E.sem.eq_5, Y.E.sem.eq_6, Y.E.sem.eq_7, Y.E.sem.eq_8, Y.E.sem.eq_9, Y.E.sem.eq_10, Y.E.sem.eq_11, Y.E.sem.eq_12, Y.E.sem.eq_13, Y.E.sem.eq_14, Y.E.sem.eq_15, Y.E.sem.eq_16, Y.E.sem.eq_17, Y.E.sem.eq_18, Y.E.sem.eq_19, Y.E.sem.eq_20, Y.E.sem.eq_21, Y.E.sem.eq_22, Y.E.sem.eq_23, Y.E.sem.eq_24, Y.E.sem.eq_25, Y.E.sem.eq_26, Y.E.sem.eq_27, Y.E.sem.eq_28, Y.E.sem.eq_29, Y.E.sem.eq_30, Y.E.sem.eq_31, Y.E.sem.eq_32, Y.E.sem.eq_33, Y.E.sem.eq_34, Y.Es.sem, Y.T.sem, sem_seq, sem_rng1, sem_rng2, sem_enm, sem_zip, sem_lc, Y.Oe.sem, Y.Ts.semAnd, Y.Ts.semOr, Y.Es.semAnd, Y.Es.semOr, CfN_call, CfN_glo]
  generalize hI : interp PU (n + s.dep + 9) = I at *
  simp [e]
  rw [it] at l2 ⊢
  simp
  rw [l2]
  simp [tuple_fl]
  exact cut_ok ho (rb_dints _)
end Y

set_option linter.all false
set_option maxRecDepth 100000
set_option maxHeartbeats 4000000
namespace Y
theorem loopS_ret {α : Type} (enc : α → D) (f : D → Env → Hs → RS) (I : List α → Env → Hs → Prop) (pre : List α) (x : α) (post : List α) {d : D} {h0 : Hs}
    (hs : ∀ p1 y p2, pre = p1 ++ y :: p2 → ∀ ρ h, I p1 ρ h → ∃ ρ' h', f (enc y) ρ h = .nx ρ' h' ∧ I (p1 ++ [y]) ρ' h') (hx : ∀ ρ h, I pre ρ h → f (enc x) ρ h = .rt d h0) :
    ∀ (ρ : Env) (h : Hs), I [] ρ h → loopS f ((pre ++ x :: post).map enc) ρ h = .rt d h0 := by
  have key : ∀ (p2 p1 : List α), pre = p1 ++ p2 → ∀ ρ h, I p1 ρ h → loopS f ((p2 ++ x :: post).map enc) ρ h = .rt d h0 := by
    intro p2
    induction p2 with
    | nil =>
      intro p1 e ρ h hi
      rw [List.append_nil] at e
      subst e
      rw [List.nil_append, List.map_cons, loopS, hx ρ h hi]
    | cons y p2 ih =>
      intro p1 e ρ h hi
      obtain ⟨ρ1, h1, e1, i1⟩ := hs p1 y p2 e ρ h hi
      rw [List.cons_append, List.map_cons, loopS, e1]
      exact ih (p1 ++ [y]) (by simp [e]) ρ1 h1 i1
  intro ρ h hi
  exact key pre [] rfl ρ h hi
/-! ### middle -/
def leC (A : List Int) (w : Int) : Nat := A.countP fun x => decide (x ≤ w)
def midQ (A : List Int) (x : Int) : Bool := decide (A.length ≤ 2 * leC A x)
def midF (A : List Int) : Int := ((wor A).find? (midQ A)).getD 0
theorem cum_le {A pre post : List Int} {x : Int} (e : wor A = pre ++ x :: post) : cntK (fun _ => true) A (pre ++ [x]) = leC A x := by
  have hs := wor_sorted A
  have h1 := cntK_all (fun y => decide (y ≤ x)) (wor_nodup A) (fun x => wor_mem)
  unfold leC
  rw [← h1, e]
  rw [e, List.pairwise_append, List.pairwise_cons] at hs
  obtain ⟨s1, ⟨s2, s3⟩, s4⟩ := hs
  have f1 : (pre ++ x :: post).filter (fun y => decide (y ≤ x)) = pre ++ [x] := by
    rw [List.filter_append, List.filter_cons]
    have a1 : pre.filter (fun y => decide (y ≤ x)) = pre := by
      rw [List.filter_eq_self]
      intro y hy
      have := s4 y hy x (by simp)
      simp; omega
    have a2 : post.filter (fun y => decide (y ≤ x)) = [] := by
      rw [List.filter_eq_nil_iff]
      intro y hy
      have := s2 y hy
      simp; omega
    rw [a1, a2]; simp
  unfold cntK
  rw [f1, List.filter_eq_self.mpr (fun _ _ => rfl)]
theorem mid_split {A : List Int} (h : 0 < A.length) : ∃ pre post, wor A = pre ++ midF A :: post ∧ midQ A (midF A) = true ∧ ∀ y ∈ pre, midQ A y = false := by
  obtain ⟨a, b, r, t, e1, e2⟩ := wor_ne h
  have hs := wor_sorted A
  have hb : midQ A b = true := by
    unfold midQ leC
    have : A.countP (fun x => decide (x ≤ b)) = A.length := by
      rw [List.countP_eq_length]
      intro x hx
      have hx2 : x ∈ wor A := wor_mem.mpr hx
      rw [e2] at hx2 hs
      rw [List.pairwise_append] at hs
      rcases List.mem_append.mp hx2 with hx2 | hx2
      · have := hs.2.2 x hx2 b (by simp)
        simp; omega
      · simp at hx2; simp [hx2]
    rw [this]
    simp; omega
  have hsome : ((wor A).find? (midQ A)).isSome = true := by
    rw [List.find?_isSome]
    exact ⟨b, by rw [e2]; simp, hb⟩
  obtain ⟨m, hm⟩ := Option.isSome_iff_exists.mp hsome
  have e3 : midF A = m := by unfold midF; rw [hm]; rfl
  rw [e3]
  obtain ⟨q, pre, post, e4, h5⟩ := List.find?_eq_some_iff_append.mp hm
  exact ⟨pre, post, e4, q, fun y hy => by have := h5 y hy; simpa using this⟩
theorem midF_mem {A : List Int} (h : 0 < A.length) : midF A ∈ A := by
  obtain ⟨pre, post, e, _, _⟩ := mid_split h
  exact wor_mem.mp (by rw [e]; simp)
theorem run_middle (s : Sy) (n : Nat) (h : Hs) (ho : Okh h) (hw : Wg s) (hd : s.dep ≤ 4) (hl : lmF s ≤ 12) : interp PU (n + s.dep + 10) f_middle [s.toD] h = .ok (.int (midF (outs s))) h := by
  have e := run_shares s n h ho hw hd hl
  have hT0 := (outs_len hw).1
  have hT := outs_hb hw hl
  generalize outs s = A at *
  obtain ⟨pre, post, ew, hm, hp⟩ := mid_split hT0
  let E5 : Option D → Option D → Option D → Env := fun a b c => [some s.toD, a, b, c]
  have step : ∀ (p1 : List Int) (x : Int) (p2 : List Int) (b c : Option D), wor A = p1 ++ x :: p2 → forF (CfN (n + s.dep + 9)) (.t [2, 3]) (b_middle.nth 1).body (rowD A.length A x) (E5 (some (frD (fr (cntK (fun _ => true) A p1) A.length))) b c) h =
      if midQ A x = true then .rt (.int x) h else .nx (E5 (some (frD (fr (cntK (fun _ => true) A (p1 ++ [x])) A.length))) (some (.int x)) (some (frD (fr (A.count x) A.length)))) h := by
    intro p1 x p2 b c e1
    have hle := cntK_le (fun _ => true) e1 (wor_nodup A) (fun x => wor_mem)
    have hle2 := cntK_le (fun _ => true) (K := p1 ++ [x]) (L := p2) (by rw [e1]; simp) (wor_nodup A) (fun x => wor_mem)
    have e2 := run_sum_of (n + s.dep + 6) (fr (cntK (fun _ => true) A p1) A.length) (fr (A.count x) A.length) h ho (bd_fr (by omega) (by omega) (by omega)) (bd_count (Nat.le_refl _) hT0 hT x)
    rw [sumf_same _ _ (by omega), ← Int.natCast_add] at e2
    have ea : cntK (fun _ => true) A (p1 ++ [x]) = cntK (fun _ => true) A p1 + A.count x := by
      rw [cntK_app]
      unfold cntK
      simp
    rw [← ea] at e2
    have h3 : Bd HB (fr 1 2) := ⟨by decide +kernel, by decide, by decide +kernel⟩
    rw [cum_le e1] at hle2
    have e3 := run_is_less (n + s.dep + 8) (fr (leC A x : Nat) A.length) (fr 1 2) h ho (bd_fr (by omega) (by omega) (by omega)) h3
    rw [decide_eq_decide.mpr (fr_lt _ 1 (T := A.length) (S := 2) (by omega) (by omega))] at e3
    have e4 : decide ((leC A x : Int) * 2 < 1 * (A.length : Int)) = !midQ A x := by
      unfold midQ
      rw [← decide_not, decide_eq_decide]
      omega
    rw [e4] at e3
    rw [cum_le e1] at e2 ⊢
    rw [show frD (fr 1 2) = .tup [.int 1, .int 2] from rfl] at e3
    rw [rowD, forF_2]
    simp only [b_middle, Ss.nth, St.body, E5]
    simp only [Y.Ss.sem, sem_asg, sem_par, sem_asgT, sem_setI, sem_ex, sem_ret, sem_retN, sem_ite, sem_frzV, sem_brk, sem_pass, sem_for, Y.E.sem.eq_1, Y.E.sem.eq_2, Y.E.sem.eq_3, Y.E.sem.eq_4, Y.E.sem.eq_5, Y.E.sem.eq_6, Y.E.sem.eq_7, Y.E.sem.eq_8, Y.E.sem.eq_9, Y.E.sem.eq_10, Y.E.sem.eq_11, Y.E.sem.eq_12, Y.E.sem.eq_13, Y.E.sem.eq_14, Y.E.sem.eq_15, Y.E.sem.eq_16, Y.E.sem.eq_17, Y.E.sem.eq_18, Y.E.sem.eq_19, Y.E.sem.eq_20, Y.E.sem.eq_21, Y.E.sem.eq_22, Y.E.sem.eq_23, Y.E.sem.eq_24, Y.E.sem.eq_25, Y.E.sem.eq_26, Y.E.sem.eq_27, Y.E.sem.eq_28, Y.E.sem.eq_29, Y.E.sem.eq_30, Y.E.sem.eq_31, Y.E.sem.eq_32, Y.E.sem.eq_33, Y.E.sem.eq_34, Y.Es.sem, Y.T.sem, sem_seq, sem_rng1, sem_rng2, sem_enm, sem_zip, sem_lc, Y.Oe.sem, Y.Ts.semAnd, Y.Ts.semOr, Y.Es.semAnd, Y.Es.semOr, CfN_call, CfN_glo]
    rw [show n + s.dep + 8 + 1 = n + s.dep + 9 by omega] at e3
    rw [show n + s.dep + 6 + 3 = n + s.dep + 9 by omega] at e2
    generalize interp PU (n + s.dep + 9) = I at *
    generalize frD (fr (cntK (fun _ => true) A p1) A.length) = q1 at *
    generalize frD (fr (leC A x : Nat) A.length) = q4 at *
    generalize frD (fr (A.count x) A.length) = q2 at *
    cases hq : midQ A x <;> simp [hq, e2, e3] at e3 ⊢ <;> simp [hq, e2, e3]
  have e1 := loopS_ret (rowD A.length A) (forF (CfN (n + s.dep + 9)) (.t [2, 3]) (b_middle.nth 1).body) (fun p1 ρ h1 => ∃ b c, ρ = E5 (some (frD (fr (cntK (fun _ => true) A p1) A.length))) b c ∧ h1 = h) pre (midF A) post (d := .int (midF A)) (h0 := h) (by
    intro p1 y p2 e1 ρ h1 ⟨b, c, hρ, hh⟩
    subst hρ hh
    have := step p1 y (p2 ++ midF A :: post) b c (by rw [ew, e1]; simp)
    rw [hp y (by rw [e1]; simp)] at this
    exact ⟨_, _, this, _, _, rfl, rfl⟩) (by
    intro ρ h1 ⟨b, c, hρ, hh⟩
    subst hρ hh
    have := step pre (midF A) post b c ew
    rw [hm] at this
    exact this) (E5 (some (frD (0, 1))) none none) h ⟨none, none, by rw [show cntK (fun _ => true) A [] = 0 from rfl, show ((0 : Nat) : Int) = 0 from rfl, fr_0 (by omega)], rfl⟩
  rw [← ew] at e1
  show interp PU (n + s.dep + 9 + 1) _ _ _ = _
  rw [interp_succ]
  simp only [b_middle, Ss.nth, St.body, E5] at e1
  simp only [runF, U, d_middle, b_middle, enter]
  simp only [Y.Ss.sem, sem_asg, sem_par, sem_asgT, sem_setI, sem_ex, sem_ret, sem_retN, sem_ite, sem_frzV, sem_brk, sem_pass, sem_for, Y.E.sem.eq_1, Y.E.sem.eq_2, Y.E.sem.eq_3, Y.E.sem.eq_4, Y.E.sem.eq_5, Y.E.sem.eq_6, Y.E.sem.eq_7, Y.E.sem.eq_8, Y.E.sem.eq_9, Y.E.sem.eq_10, Y.E.sem.eq_11, Y.E.sem.eq_12, Y.E.sem.eq_13, Y.E.sem.eq_14, Y.E.sem.eq_15, Y.E.sem.eq_16, Y.E.sem.eq_17, Y.E.sem.eq_18, Y.E.sem.eq_19, Y.E.sem.eq_20, Y.E.sem.eq_21, Y.E.sem.eq_22, Y.E.sem.eq_23, Y.E.sem.eq_24, Y.E.sem.eq_25, Y.E.sem.eq_26, Y.E.sem.eq_27, Y.E.sem.eq_28, Y.E.sem.eq_29, Y.E.sem.eq_30, Y.E.sem.eq_31, Y.E.sem.eq_32, Y.E.sem.eq_33, Y.E.sem.eq_34, Y.Es.sem, Y.T.sem, sem_seq, sem_rng1, sem_rng2, sem_enm, sem_zip, sem_lc, Y.Oe.sem, Y.Ts.semAnd, Y.Ts.semOr, Y.Es.semAnd, Y.Es.semOr, CfN_call, CfN_glo]
  rw [show frD (0, 1) = .tup [.int 0, .int 1] from rfl] at e1
  generalize hI : interp PU (n + s.dep + 9) = I at *
  simp [e, shaD]
  rw [e1]
  simp
  exact cut_ok ho rfl
end Y

set_option linter.all false
set_option maxRecDepth 100000
set_option maxHeartbeats 4000000
namespace Y
/-! ### fractions compared -/
theorem eqv_frD (p q : Int × Int) : D.eqv (frD p) (frD q) = decide (p = q) := by
  obtain ⟨a, b⟩ := p
  obtain ⟨c, d⟩ := q
  simp [frD, Prod.ext_iff]
theorem cop_eq_fr {h : Hs} (p q : Int × Int) : cop .eq h (frD p) (frD q) = .ok (.bl (decide (p = q))) h := by
  rw [cop_eq (by rw [deref_frD]; exact okn_frD (k := 59) p) (by rw [deref_frD]; exact okn_frD (k := 59) q), deref_frD, deref_frD, eqv_frD]
theorem cop_ne_fr {h : Hs} (p q : Int × Int) : cop .ne h (frD p) (frD q) = .ok (.bl (!decide (p = q))) h := by
  rw [cop_ne (by rw [deref_frD]; exact okn_frD (k := 59) p) (by rw [deref_frD]; exact okn_frD (k := 59) q), deref_frD, deref_frD, eqv_frD]
theorem cop_ne_fr0 {h : Hs} {p q : Int × Int} (e : p = q) : cop .ne h (frD p) (frD q) = .ok (.bl false) h := by
  rw [cop_ne_fr, e]; simp
@[simp] theorem ix_fr0 {h : Hs} {p : Int × Int} : index h (frD p) (.int 0) = some (.int p.1) := by simp [frD]
@[simp] theorem ix_fr1 {h : Hs} {p : Int × Int} : index h (frD p) (.int 1) = some (.int p.2) := by simp [frD]
theorem fr_pos {c T : Nat} (hc : 0 < c) (hT : 0 < T) : fr c T ≠ (0, 1) := by
  intro e
  rw [← fr_01] at e
  have := fr_inv (a := c) (b := T) (c := 0) (d := 1) (by omega) (by omega) e
  omega
theorem run_l_sum (n : Nat) (p q : Int × Int) (b : Int) (h : Hs) (ho : Okh h) (hp : Bd HB p) (hq : Bd HB q) (hb : b = 1 ∨ b = -1) : interp PU (n + 3) f_l_sum [frD p, frD q, .int b] h = .ok (frD (fr (p.1 * q.2 + b * q.1 * p.2) (p.2 * q.2))) h := by
  have e := run_l_fraction n (p.1 * q.2 + b * q.1 * p.2) (p.2 * q.2) h ho (Int.mul_pos hp.2.1 hq.2.1) (by rw [Int.natAbs_mul]; exact hb_sq hp.2.2 hq.2.2)
  have m1 : bop .mul h (.int p.1) (.int q.2) = .ok (.int (p.1 * q.2)) h := bop_mulB (hb_big hp.1) (hb_big hq.2.2)
  have m0 : bop .mul h (.int b) (.int q.1) = .ok (.int (b * q.1)) h := bop_mul (.inl (by rcases hb with rfl | rfl <;> decide))
  have m2 : bop .mul h (.int (b * q.1)) (.int p.2) = .ok (.int (b * q.1 * p.2)) h := bop_mulB (by rw [Int.natAbs_mul]; rcases hb with rfl | rfl <;> simp <;> exact hb_big hq.1) (hb_big hp.2.2)
  have m3 : bop .mul h (.int p.2) (.int q.2) = .ok (.int (p.2 * q.2)) h := bop_mulB (hb_big hp.2.2) (hb_big hq.2.2)
  show interp PU (n + 2 + 1) _ _ _ = _
  rw [interp_succ]
  simp only [runF, U, d_l_sum, b_l_sum, enter]
  simp only [Y.Ss.sem, sem_asg, sem_par, sem_asgT, sem_setI, sem_ex, sem_ret, sem_retN, sem_ite, sem_frzV, sem_brk, sem_pass, sem_for, Y.E.sem.eq_1, Y.E.sem.eq_2, Y.E.sem.eq_3, Y.E.sem.eq_4, Y.E.sem.eq_5, Y.E.sem.eq_6, Y.E.sem.eq_7, Y.E.sem.eq_8, Y.E.sem.eq_9, Y.E.sem.eq_10, Y.E.sem.eq_11, Y.E.sem.eq_12, Y.E.sem.eq_13, Y.E.sem.eq_14, Y.E.sem.eq_15, Y.E.sem.eq_16, Y.E.sem.eq_17, Y.E.sem.eq_18, Y.E.sem.eq_19, Y.E.sem.eq_20, Y.E.sem.eq_21, Y.E.sem.eq_22, Y.E.sem.eq_23, Y.E.sem.eq_24, Y.E.sem.eq_25, Y.E.sem.eq_26, Y.E.sem.eq_27, Y.E.sem.eq_28, Y.E.sem.eq_29, Y.E.sem.eq_30, Y.E.sem.eq_31, Y.E.sem.eq_32, Y.E.sem.eq_33, Y.E.sem.eq_34, Y.Es.sem, Y.T.sem, sem_seq, sem_rng1, sem_rng2, sem_enm, sem_zip, sem_lc, Y.Oe.sem, Y.Ts.semAnd, Y.Ts.semOr, Y.Es.semAnd, Y.Es.semOr, CfN_call, CfN_glo]
  generalize interp PU (n + 2) = I at *
  simp [m0, m1, m2, m3, e]
  exact cut_ok ho rb_frD
/-! ### sums of outcomes -/
theorem sum_map_add (f g : Int → Int) : ∀ l : List Int, (l.map fun x => f x + g x).sum = (l.map f).sum + (l.map g).sum
  | [] => rfl
  | x :: l => by simp only [List.map_cons, List.sum_cons, sum_map_add f g l]; omega
theorem sum_map_const (c : Int) : ∀ l : List Int, (l.map fun _ => c).sum = l.length * c
  | [] => by simp
  | x :: l => by rw [List.map_cons, List.sum_cons, sum_map_const c l, List.length_cons, Int.natCast_add, Int.add_mul]; omega
theorem sum_map_mul (c : Int) : ∀ l : List Int, (l.map fun x => x * c).sum = l.sum * c
  | [] => by simp
  | x :: l => by rw [List.map_cons, List.sum_cons, sum_map_mul c l, List.sum_cons, Int.add_mul]
theorem sum_map_mul' (c : Int) (f : Int → Int) : ∀ l : List Int, (l.map fun x => c * f x).sum = c * (l.map f).sum
  | [] => by simp
  | x :: l => by rw [List.map_cons, List.sum_cons, sum_map_mul' c f l, List.map_cons, List.sum_cons, Int.mul_add]
theorem prod_sum (g : Int → Int → Int) (B : List Int) : ∀ A : List Int, (A.flatMap fun x => B.map fun y => g x y).sum = (A.map fun x => (B.map fun y => g x y).sum).sum
  | [] => rfl
  | x :: A => by rw [List.flatMap_cons, List.sum_append, prod_sum g B A, List.map_cons, List.sum_cons]
theorem comb_sum (w : Tw) (A B : List Int) : (comb w A B).sum = (A.map fun x => (B.map fun y => two w x y).sum).sum := by
  rw [perm_sum (comb_perm w A B)]
  exact prod_sum _ B A
theorem comb_plus (A B : List Int) : (comb .plus A B).sum = A.sum * B.length + B.sum * A.length := by
  rw [comb_sum]
  have h1 : ∀ x : Int, (B.map fun y => two .plus x y).sum = x * B.length + B.sum := fun x => by
    show (B.map fun y => x + y).sum = _
    rw [sum_map_add (fun _ => x) (fun y => y), sum_map_const, List.map_id']
    rw [Int.mul_comm]
  simp only [h1]
  rw [sum_map_add (fun x => x * B.length) (fun _ => B.sum), sum_map_mul, sum_map_const]
  rw [Int.mul_comm B.sum]
theorem comb_less (A B : List Int) : (comb .less A B).sum = A.sum * B.length + -1 * B.sum * A.length := by
  rw [comb_sum]
  have h1 : ∀ x : Int, (B.map fun y => two .less x y).sum = x * B.length + -1 * B.sum := fun x => by
    show (B.map fun y => x - y).sum = _
    have e : (fun y : Int => x - y) = fun y => x + -1 * y := by funext y; omega
    rw [e, sum_map_add (fun _ => x) (fun y => -1 * y), sum_map_const, sum_map_mul' (-1) (fun y => y), List.map_id']
    rw [Int.mul_comm]
  simp only [h1]
  rw [sum_map_add (fun x => x * B.length) (fun _ => -1 * B.sum), sum_map_mul, sum_map_const]
  rw [Int.mul_comm (-1 * B.sum)]
theorem comb_ml (A B : List Int) : (comb .most A B).sum + (comb .least A B).sum = (comb .plus A B).sum := by
  rw [comb_sum, comb_sum, comb_sum, ← sum_map_add]
  congr 2
  funext x
  rw [← sum_map_add]
  congr 2
  funext y
  simp only [two]
  split <;> split <;> omega
theorem tim_sum (n : Int) (A : List Int) : (timL n A).sum = A.sum * n := by
  rw [perm_sum (timL_perm n A), sum_map_mul]
theorem sum_01 : ∀ l : List Int, (∀ x ∈ l, x = 0 ∨ x = 1) → l.sum = (geC l 1 : Nat)
  | [], _ => rfl
  | x :: l, h => by
    have ih := sum_01 l fun y hy => h y (by simp [hy])
    unfold geC at ih ⊢
    rw [List.sum_cons, ih, List.countP_cons]
    rcases h x (by simp) with rfl | rfl
    · simp
    · simp; omega
theorem beats_01 {A B : List Int} : ∀ x ∈ comb .beats A B, x = 0 ∨ x = 1 := by
  intro z hz
  obtain ⟨x, hx, y, hy, rfl⟩ := comb_mem.mp hz
  simp only [two]
  split
  · exact .inr rfl
  · exact .inl rfl
/-! ### sums of several dice -/
def dSum (X : List Int) : Nat → Int
  | 0 => 0
  | t + 1 => dSum X t * X.length + X.sum * (X.length ^ t : Nat)
theorem dieN_sum (X : List Int) : ∀ t, (dieN X t).sum = dSum X t
  | 0 => rfl
  | t + 1 => by rw [dieN, comb_plus, dieN_sum X t, dieN_len]; rfl
def allChk : Bool := (List.range 4).all fun m => (List.range 7).all fun s => decide ((lkO true m s m).sum * (((s ^ 3) ^ m : Nat) : Int) = dSum (ldO 1 s 0) m * ((s ^ m : Nat) : Int))
theorem allChk_ok : allChk = true := by decide +kernel
theorem all_same {m s : Nat} (hm : m ≤ 3) (hs1 : 1 ≤ s) (hs : s ≤ 6) : fr (lkO true m s m).sum (s ^ m : Nat) = fr (dieN (ldO 1 s 0) m).sum (((s ^ 3) ^ m : Nat) : Int) := by
  have h := allChk_ok
  unfold allChk at h
  rw [List.all_eq_true] at h
  have h := h m (by rw [List.mem_range]; omega)
  rw [List.all_eq_true] at h
  have h := h s (by rw [List.mem_range]; omega)
  have h := of_decide_eq_true h
  rw [dieN_sum]
  have p1 : 0 < s ^ m := Nat.pow_pos hs1
  have p2 : 0 < (s ^ 3) ^ m := Nat.pow_pos (Nat.pow_pos hs1)
  exact fr_cross (by omega) (by omega) h
end Y

set_option linter.all false
set_option maxRecDepth 100000
set_option maxHeartbeats 4000000
namespace Y
def odN (i : Int) : Int := if i = 0 then 0 else if i = 1 then 0 else if i = 2 then 1 else 9
def oddS (c : Int) : Sy → Sy
  | .two w a b => if c % 2 = 0 then .two w (.num (odN (mixI c 9833 4))) b else .two w a (.num (odN (mixI c 9833 4)))
  | s => s
def oddW (w : Int) (s : Sy) : Sy := if w < 2 then .times w s else if w = 2 then .two .plus (.num 0) s else if w = 3 then .two .less s (.num 0) else s
def loddF (c : Int) : Sy := oddW (mixI c 9829 6) (oddS c (lsayF 2 c 3))
theorem ix_od {h : Hs} {i : Int} (h0 : 0 ≤ i) (h5 : i < 4) : index h (.tup [.int 0, .int 0, .int 1, .int 9]) (.int i) = some (.int (odN i)) := by
  have cs : i = 0 ∨ i = 1 ∨ i = 2 ∨ i = 3 := by omega
  rcases cs with e | e | e | e <;> subst e <;> rfl
theorem odN_wf (i : Int) : 0 ≤ odN i ∧ odN i ≤ 9 := by unfold odN; repeat' split
                                                       all_goals omega
theorem wf_odd (c : Int) : Wg (loddF c) ∧ (loddF c).dep ≤ 3 := by
  obtain ⟨a, _, b⟩ := wf_lsay 2 c 3 (by omega)
  have k : Wg (oddS c (lsayF 2 c 3)) ∧ (oddS c (lsayF 2 c 3)).dep ≤ 2 := by
    generalize lsayF 2 c 3 = s at *
    cases s with
    | two w x y =>
      simp only [oddS]
      simp only [Sy.dep] at b
      split
      · exact ⟨⟨odN_wf _, a.2⟩, by simp only [Sy.dep]; omega⟩
      · exact ⟨⟨a.1, odN_wf _⟩, by simp only [Sy.dep]; omega⟩
    | _ => exact ⟨a, b⟩
  have w0 := mix_lo c 9829 (m := 6) (by omega)
  unfold loddF
  generalize oddS c (lsayF 2 c 3) = s at *
  unfold oddW
  split
  · exact ⟨⟨w0, by omega, k.1⟩, by simp only [Sy.dep]; omega⟩
  split
  · exact ⟨⟨⟨Int.le_refl _, by omega⟩, k.1⟩, by simp only [Sy.dep]; omega⟩
  split
  · exact ⟨⟨k.1, ⟨Int.le_refl _, by omega⟩⟩, by simp only [Sy.dep]; omega⟩
  · exact ⟨k.1, by omega⟩
theorem slice_lo {a b c : D} : slice (.tup [a, b, c]) none (some 1) = some (.tup [a]) ∧ slice (.tup [a, b, c]) none (some 2) = some (.tup [a, b]) ∧ slice (.tup [a, b, c]) (some 2) none = some (.tup [c]) ∧ slice (.tup [a, b, c]) (some 3) none = some (.tup []) := ⟨rfl, rfl, rfl, rfl⟩
theorem bop_add_tup {h : Hs} {a b : List D} (hl : a.length + b.length ≤ SZ) : bop .add h (.tup a) (.tup b) = .ok (.tup (a ++ b)) h := by simp only [bop, opAdd, if_pos hl]
@[simp] theorem in_2_2 (h : Hs) (w : Tw) : cop .isin h (.str (wd w.n)) (.tup [.str (wd 7), .str (wd 8), .str (wd 9), .str (wd 10), .str (wd 11)]) = .ok (.bl true) h := by cases w <;> simp
@[simp] theorem in_2_p (h : Hs) (w : Pw) : cop .isin h (.str (wd w.n)) (.tup [.str (wd 7), .str (wd 8), .str (wd 9), .str (wd 10), .str (wd 11)]) = .ok (.bl false) h := by simp
theorem fin_odd {h : Hs} {w : Int} (ho : Okh h) (s : Sy) {q : Sy} (e : q = oddW w s) : cutR true h.length (.ok (oddW w s).toD h) = .ok q.toD h := by
  subst e; exact cut_ok ho (rb_toD _)
theorem run_l_odd_b (n : Nat) (c : Int) (h : Hs) (ho : Okh h) : interp PU (n + 8) f_l_odd_b [.int c] h = .ok (loddF c).toD h := by
  have es := run_l_saying 1 n c 3 h ho (by omega)
  have mw := run_mix (n + 6) c 9829 6 h ho (by omega) (by omega) (by omega)
  have mn := run_mix (n + 6) c 9833 4 h ho (by omega) (by omega) (by omega)
  have iod := ix_od (h := h) (mix_lo c 9833 (m := 4) (by omega)) (mix_hi c 9833 (m := 4) (by omega))
  have bm : bop .mod h (.int c) (.int 2) = .ok (.int (c % 2)) h := bop_mod (by omega)
  show interp PU (n + 7 + 1) _ _ _ = _
  rw [interp_succ]
  simp only [runF, U, d_l_odd_b, b_l_odd_b, enter, Ss.sem, St.sem, E.sem, Es.sem, T.sem, It.sem, Oe.sem, Ts.semAnd, Ts.semOr, Es.semAnd, Es.semOr]
  unfold loddF
  simp at es mw mn

  generalize mixI c 9829 6 = w at *
  generalize hs : lsayF 2 c 3 = s at *
  cases s with
  | num a =>
    simp [es, mw, Sy.toD, oddS, oddW]
    by_cases w2 : w < 2
    · simp [w2, Sy.toD]; (refine cut_ok ho ?_; simp)
    by_cases w3 : w = 2
    · simp [w2, w3, Sy.toD]; (refine cut_ok ho ?_; simp)
    by_cases w4 : w = 3
    · simp [w2, w3, w4, Sy.toD]; (refine cut_ok ho ?_; simp)
    · simp [w2, w3, w4, Sy.toD]; (refine cut_ok ho ?_; simp)
  | dice a b =>
    simp [es, mw, Sy.toD, oddS, oddW]
    by_cases w2 : w < 2
    · simp [w2, Sy.toD]; (refine cut_ok ho ?_; simp)
    by_cases w3 : w = 2
    · simp [w2, w3, Sy.toD]; (refine cut_ok ho ?_; simp)
    by_cases w4 : w = 3
    · simp [w2, w3, w4, Sy.toD]; (refine cut_ok ho ?_; simp)
    · simp [w2, w3, w4, Sy.toD]; (refine cut_ok ho ?_; simp)
  | pool p a b d =>
    simp [es, mw, Sy.toD, oddS, oddW]
    by_cases w2 : w < 2
    · simp [w2, Sy.toD]; (refine cut_ok ho ?_; simp)
    by_cases w3 : w = 2
    · simp [w2, w3, Sy.toD]; (refine cut_ok ho ?_; simp)
    by_cases w4 : w = 3
    · simp [w2, w3, w4, Sy.toD]; (refine cut_ok ho ?_; simp)
    · simp [w2, w3, w4, Sy.toD]; (refine cut_ok ho ?_; simp)
  | times a b =>
    simp [es, mw, Sy.toD, oddS, oddW]
    by_cases w2 : w < 2
    · simp [w2, Sy.toD]; (refine cut_ok ho ?_; simp)
    by_cases w3 : w = 2
    · simp [w2, w3, Sy.toD]; (refine cut_ok ho ?_; simp)
    by_cases w4 : w = 3
    · simp [w2, w3, w4, Sy.toD]; (refine cut_ok ho ?_; simp)
    · simp [w2, w3, w4, Sy.toD]; (refine cut_ok ho ?_; simp)
  | two p a b =>
    have pt : (p = Tw.plus ∨ p = Tw.less ∨ p = Tw.most ∨ p = Tw.least ∨ p = Tw.beats) := by cases p <;> simp
    by_cases ev : c % 2 = 0
    · simp [es, mw, mn, bm, ev, pt, iod, Sy.toD, oddS, oddW, slice_lo, bop_add_tup]
      by_cases w2 : w < 2
      · simp [w2, Sy.toD]; (refine cut_ok ho ?_; simp)
      by_cases w3 : w = 2
      · simp [w2, w3, Sy.toD]; (refine cut_ok ho ?_; simp)
      by_cases w4 : w = 3
      · simp [w2, w3, w4, Sy.toD]; (refine cut_ok ho ?_; simp)
      · simp [w2, w3, w4, Sy.toD]; (refine cut_ok ho ?_; simp)
    · have od : c % 2 = 1 := by omega
      simp [es, mw, mn, bm, od, pt, iod, Sy.toD, oddS, oddW, slice_lo, bop_add_tup]
      by_cases w2 : w < 2
      · simp [w2, Sy.toD]; (refine cut_ok ho ?_; simp)
      by_cases w3 : w = 2
      · simp [w2, w3, Sy.toD]; (refine cut_ok ho ?_; simp)
      by_cases w4 : w = 3
      · simp [w2, w3, w4, Sy.toD]; (refine cut_ok ho ?_; simp)
      · simp [w2, w3, w4, Sy.toD]; (refine cut_ok ho ?_; simp)
end Y

set_option linter.all false
set_option maxRecDepth 100000
set_option maxHeartbeats 4000000
namespace Y
/-! ### is_saying of a saying -/
@[simp] theorem isi_int_int {i : Int} : isi .int (.int i) = some true := rfl
theorem run_is_whole (n : Nat) (x a b : Int) (h : Hs) (ho : Okh h) : interp PU (n + 1) f_is_whole [.int x, .int a, .int b] h = .ok (.bl (decide (a ≤ x) && decide (x ≤ b))) h := by
  rw [interp_succ]
  simp only [runF, U, d_is_whole, b_is_whole, enter]
  simp only [Y.Ss.sem, sem_asg, sem_par, sem_asgT, sem_setI, sem_ex, sem_ret, sem_retN, sem_ite, sem_frzV, sem_brk, sem_pass, sem_for, Y.E.sem.eq_1, Y.E.sem.eq_2, Y.E.sem.eq_3, Y.E.sem.eq_4, Y.E.sem.eq_5, Y.E.sem.eq_6, Y.E.sem.eq_7, Y.E.sem.eq_8, Y.E.sem.eq_9, Y.E.sem.eq_10, Y.E.sem.eq_11, Y.E.sem.eq_12, Y.E.sem.eq_13, Y.E.sem.eq_14, Y.E.sem.eq_15, Y.E.sem.eq_16, Y.E.sem.eq_17, Y.E.sem.eq_18, Y.E.sem.eq_19, Y.E.sem.eq_20, Y.E.sem.eq_21, Y.E.sem.eq_22, Y.E.sem.eq_23, Y.E.sem.eq_24, Y.E.sem.eq_25, Y.E.sem.eq_26, Y.E.sem.eq_27, Y.E.sem.eq_28, Y.E.sem.eq_29, Y.E.sem.eq_30, Y.E.sem.eq_31, Y.E.sem.eq_32, Y.E.sem.eq_33, Y.E.sem.eq_34, Y.Es.sem, Y.T.sem, sem_seq, sem_rng1, sem_rng2, sem_enm, sem_zip, sem_lc, Y.Oe.sem, Y.Ts.semAnd, Y.Ts.semOr, Y.Es.semAnd, Y.Es.semOr, CfN_call, CfN_glo]
  by_cases c1 : a ≤ x <;> by_cases c2 : x ≤ b <;> simp [c1, c2] <;> exact cut_ok ho rfl
theorem run_is_last (n : Nat) (w : Pw) (m s l : Int) (h : Hs) (ho : Okh h) (hw : Wg (.pool w m s l)) : interp PU (n + 2) f_is_last [.str (wd w.n), .int m, .int s, .int l] h = .ok (.bl true) h := by
  obtain ⟨h1, h2, h3, h4, h5⟩ := hw
  have e := fun a b => run_is_whole n l a b h ho
  show interp PU (n + 1 + 1) _ _ _ = _
  rw [interp_succ]
  simp only [runF, U, d_is_last, b_is_last, enter]
  simp only [Y.Ss.sem, sem_asg, sem_par, sem_asgT, sem_setI, sem_ex, sem_ret, sem_retN, sem_ite, sem_frzV, sem_brk, sem_pass, sem_for, Y.E.sem.eq_1, Y.E.sem.eq_2, Y.E.sem.eq_3, Y.E.sem.eq_4, Y.E.sem.eq_5, Y.E.sem.eq_6, Y.E.sem.eq_7, Y.E.sem.eq_8, Y.E.sem.eq_9, Y.E.sem.eq_10, Y.E.sem.eq_11, Y.E.sem.eq_12, Y.E.sem.eq_13, Y.E.sem.eq_14, Y.E.sem.eq_15, Y.E.sem.eq_16, Y.E.sem.eq_17, Y.E.sem.eq_18, Y.E.sem.eq_19, Y.E.sem.eq_20, Y.E.sem.eq_21, Y.E.sem.eq_22, Y.E.sem.eq_23, Y.E.sem.eq_24, Y.E.sem.eq_25, Y.E.sem.eq_26, Y.E.sem.eq_27, Y.E.sem.eq_28, Y.E.sem.eq_29, Y.E.sem.eq_30, Y.E.sem.eq_31, Y.E.sem.eq_32, Y.E.sem.eq_33, Y.E.sem.eq_34, Y.Es.sem, Y.T.sem, sem_seq, sem_rng1, sem_rng2, sem_enm, sem_zip, sem_lc, Y.Oe.sem, Y.Ts.semAnd, Y.Ts.semOr, Y.Es.semAnd, Y.Es.semOr, CfN_call, CfN_glo]
  generalize interp PU (n + 1) = I at *
  cases w with
  | high => simp [e, h5.1, h5.2]; exact cut_ok ho rfl
  | low => simp [e, h5.1, h5.2]; exact cut_ok ho rfl
  | again => simp [e, h5.1, h5.2]; exact cut_ok ho rfl
  | burst => simp [e, h5.1, h5.2]; exact cut_ok ho rfl
  | count => simp [e, h5.1, h5.2]; exact cut_ok ho rfl
theorem run_is_dice_d (n : Nat) (m s : Int) (h : Hs) (ho : Okh h) (hw : Wg (.dice m s)) : interp PU (n + 3) f_is_dice [(Sy.dice m s).toD] h = .ok (.bl true) h := by
  obtain ⟨h1, h2, h3, h4⟩ := hw
  have e := fun x a b => run_is_whole (n + 1) x a b h ho
  show interp PU (n + 2 + 1) _ _ _ = _
  rw [interp_succ]
  simp only [runF, U, d_is_dice, b_is_dice, enter]
  simp only [Y.Ss.sem, sem_asg, sem_par, sem_asgT, sem_setI, sem_ex, sem_ret, sem_retN, sem_ite, sem_frzV, sem_brk, sem_pass, sem_for, Y.E.sem.eq_1, Y.E.sem.eq_2, Y.E.sem.eq_3, Y.E.sem.eq_4, Y.E.sem.eq_5, Y.E.sem.eq_6, Y.E.sem.eq_7, Y.E.sem.eq_8, Y.E.sem.eq_9, Y.E.sem.eq_10, Y.E.sem.eq_11, Y.E.sem.eq_12, Y.E.sem.eq_13, Y.E.sem.eq_14, Y.E.sem.eq_15, Y.E.sem.eq_16, Y.E.sem.eq_17, Y.E.sem.eq_18, Y.E.sem.eq_19, Y.E.sem.eq_20, Y.E.sem.eq_21, Y.E.sem.eq_22, Y.E.sem.eq_23, Y.E.sem.eq_24, Y.E.sem.eq_25, Y.E.sem.eq_26, Y.E.sem.eq_27, Y.E.sem.eq_28, Y.E.sem.eq_29, Y.E.sem.eq_30, Y.E.sem.eq_31, Y.E.sem.eq_32, Y.E.sem.eq_33, Y.E.sem.eq_34, Y.Es.sem, Y.T.sem, sem_seq, sem_rng1, sem_rng2, sem_enm, sem_zip, sem_lc, Y.Oe.sem, Y.Ts.semAnd, Y.Ts.semOr, Y.Es.semAnd, Y.Es.semOr, CfN_call, CfN_glo]
  rw [show n + 1 + 1 = n + 2 by omega] at e
  generalize interp PU (n + 2) = I at *
  simp [Sy.toD, int_b, e, h1, h2, h3, h4]
  exact cut_ok ho rfl
theorem run_is_dice_p (n : Nat) (w : Pw) (m s l : Int) (h : Hs) (ho : Okh h) (hw : Wg (.pool w m s l)) : interp PU (n + 3) f_is_dice [(Sy.pool w m s l).toD] h = .ok (.bl true) h := by
  have el := run_is_last n w m s l h ho hw
  obtain ⟨h1, h2, h3, h4, h5⟩ := hw
  have e := fun x a b => run_is_whole (n + 1) x a b h ho
  show interp PU (n + 2 + 1) _ _ _ = _
  rw [interp_succ]
  simp only [runF, U, d_is_dice, b_is_dice, enter]
  simp only [Y.Ss.sem, sem_asg, sem_par, sem_asgT, sem_setI, sem_ex, sem_ret, sem_retN, sem_ite, sem_frzV, sem_brk, sem_pass, sem_for, Y.E.sem.eq_1, Y.E.sem.eq_2, Y.E.sem.eq_3, Y.E.sem.eq_4, Y.E.sem.eq_5, Y.E.sem.eq_6, Y.E.sem.eq_7, Y.E.sem.eq_8, Y.E.sem.eq_9, Y.E.sem.eq_10, Y.E.sem.eq_11, Y.E.sem.eq_12, Y.E.sem.eq_13, Y.E.sem.eq_14, Y.E.sem.eq_15, Y.E.sem.eq_16, Y.E.sem.eq_17, Y.E.sem.eq_18, Y.E.sem.eq_19, Y.E.sem.eq_20, Y.E.sem.eq_21, Y.E.sem.eq_22, Y.E.sem.eq_23, Y.E.sem.eq_24, Y.E.sem.eq_25, Y.E.sem.eq_26, Y.E.sem.eq_27, Y.E.sem.eq_28, Y.E.sem.eq_29, Y.E.sem.eq_30, Y.E.sem.eq_31, Y.E.sem.eq_32, Y.E.sem.eq_33, Y.E.sem.eq_34, Y.Es.sem, Y.T.sem, sem_seq, sem_rng1, sem_rng2, sem_enm, sem_zip, sem_lc, Y.Oe.sem, Y.Ts.semAnd, Y.Ts.semOr, Y.Es.semAnd, Y.Es.semOr, CfN_call, CfN_glo]
  rw [show n + 1 + 1 = n + 2 by omega] at e
  generalize interp PU (n + 2) = I at *
  simp [Sy.toD, int_b, e, el, h1, h2, h3, h4]
  exact cut_ok ho rfl
@[simp] theorem isi_str_str {x : S} : isi .str (.str x) = some true := rfl
@[simp] theorem isi_str_wd {k : Nat} : isi .str (.str (wd k)) = some true := rfl
theorem glo0 {h : Hs} {k : Nat} (hk : k < 13) : cop .isin h (.str (wd k)) (gloV 0) = .ok (.bl (decide (7 ≤ k ∧ k ≤ 11))) h := by
  rw [show gloV 0 = .tup [.str (wd 7), .str (wd 8), .str (wd 9), .str (wd 10), .str (wd 11)] from rfl]
  rw [cop_in (by simp)]
  simp [hk]
  rw [Bool.eq_iff_iff]
  simp
  omega
theorem run_is_in : ∀ (s : Sy) (n d : Nat) (h : Hs), Okh h → Wg s → s.dep < d → interp PU (n + s.dep + 4) f_is_saying_in [s.toD, .int d] h = .ok (.bl true) h
  | .num a, n, d, h, ho, hw, hd => by
    have e := run_is_whole (n + 2) a 0 9 h ho
    have d0 : ¬ ((d : Nat) : Int) = 0 := by omega
    show interp PU (n + 3 + 1) _ _ _ = _
    rw [interp_succ]
    simp only [runF, U, d_is_saying_in, b_is_saying_in, enter]
    simp only [Y.Ss.sem, sem_asg, sem_par, sem_asgT, sem_setI, sem_ex, sem_ret, sem_retN, sem_ite, sem_frzV, sem_brk, sem_pass, sem_for, Y.E.sem.eq_1, Y.E.sem.eq_2, Y.E.sem.eq_3, Y.E.sem.eq_4, Y.E.sem.eq_5, Y.E.sem.eq_6, Y.E.sem.eq_7, Y.E.sem.eq_8, Y.E.sem.eq_9, Y.E.sem.eq_10, Y.E.sem.eq_11, Y.E.sem.eq_12, Y.E.sem.eq_13, Y.E.sem.eq_14, Y.E.sem.eq_15, Y.E.sem.eq_16, Y.E.sem.eq_17, Y.E.sem.eq_18, Y.E.sem.eq_19, Y.E.sem.eq_20, Y.E.sem.eq_21, Y.E.sem.eq_22, Y.E.sem.eq_23, Y.E.sem.eq_24, Y.E.sem.eq_25, Y.E.sem.eq_26, Y.E.sem.eq_27, Y.E.sem.eq_28, Y.E.sem.eq_29, Y.E.sem.eq_30, Y.E.sem.eq_31, Y.E.sem.eq_32, Y.E.sem.eq_33, Y.E.sem.eq_34, Y.Es.sem, Y.T.sem, sem_seq, sem_rng1, sem_rng2, sem_enm, sem_zip, sem_lc, Y.Oe.sem, Y.Ts.semAnd, Y.Ts.semOr, Y.Es.semAnd, Y.Es.semOr, CfN_call, CfN_glo]
    rw [show n + 2 + 1 = n + 3 by omega] at e
    generalize interp PU (n + 3) = I at *
    have d0' : ¬ d = 0 := by omega
    simp [Sy.toD, e, hw.1, hw.2, d0']
    exact cut_ok ho rfl
  | .dice m s, n, d, h, ho, hw, hd => by
    have e := run_is_dice_d n m s h ho hw
    have d0' : ¬ d = 0 := by omega
    have g := in_dice (h := h) (k := 1) (by omega)
    show interp PU (n + 3 + 1) _ _ _ = _
    rw [interp_succ]
    simp only [runF, U, d_is_saying_in, b_is_saying_in, enter]
    simp only [Y.Ss.sem, sem_asg, sem_par, sem_asgT, sem_setI, sem_ex, sem_ret, sem_retN, sem_ite, sem_frzV, sem_brk, sem_pass, sem_for, Y.E.sem.eq_1, Y.E.sem.eq_2, Y.E.sem.eq_3, Y.E.sem.eq_4, Y.E.sem.eq_5, Y.E.sem.eq_6, Y.E.sem.eq_7, Y.E.sem.eq_8, Y.E.sem.eq_9, Y.E.sem.eq_10, Y.E.sem.eq_11, Y.E.sem.eq_12, Y.E.sem.eq_13, Y.E.sem.eq_14, Y.E.sem.eq_15, Y.E.sem.eq_16, Y.E.sem.eq_17, Y.E.sem.eq_18, Y.E.sem.eq_19, Y.E.sem.eq_20, Y.E.sem.eq_21, Y.E.sem.eq_22, Y.E.sem.eq_23, Y.E.sem.eq_24, Y.E.sem.eq_25, Y.E.sem.eq_26, Y.E.sem.eq_27, Y.E.sem.eq_28, Y.E.sem.eq_29, Y.E.sem.eq_30, Y.E.sem.eq_31, Y.E.sem.eq_32, Y.E.sem.eq_33, Y.E.sem.eq_34, Y.Es.sem, Y.T.sem, sem_seq, sem_rng1, sem_rng2, sem_enm, sem_zip, sem_lc, Y.Oe.sem, Y.Ts.semAnd, Y.Ts.semOr, Y.Es.semAnd, Y.Es.semOr, CfN_call, CfN_glo]
    generalize interp PU (n + 3) = I at *
    simp [Sy.toD] at e ⊢
    simp [e, d0', g]
    exact cut_ok ho rfl
  | .pool w m s l, n, d, h, ho, hw, hd => by
    have e := run_is_dice_p n w m s l h ho hw
    have d0' : ¬ d = 0 := by omega
    have g := in_dice (h := h) (Pw.lt w)
    have g2 : (1 ≤ w.n ∧ w.n ≤ 6) := by cases w <;> simp
    show interp PU (n + 3 + 1) _ _ _ = _
    rw [interp_succ]
    simp only [runF, U, d_is_saying_in, b_is_saying_in, enter]
    simp only [Y.Ss.sem, sem_asg, sem_par, sem_asgT, sem_setI, sem_ex, sem_ret, sem_retN, sem_ite, sem_frzV, sem_brk, sem_pass, sem_for, Y.E.sem.eq_1, Y.E.sem.eq_2, Y.E.sem.eq_3, Y.E.sem.eq_4, Y.E.sem.eq_5, Y.E.sem.eq_6, Y.E.sem.eq_7, Y.E.sem.eq_8, Y.E.sem.eq_9, Y.E.sem.eq_10, Y.E.sem.eq_11, Y.E.sem.eq_12, Y.E.sem.eq_13, Y.E.sem.eq_14, Y.E.sem.eq_15, Y.E.sem.eq_16, Y.E.sem.eq_17, Y.E.sem.eq_18, Y.E.sem.eq_19, Y.E.sem.eq_20, Y.E.sem.eq_21, Y.E.sem.eq_22, Y.E.sem.eq_23, Y.E.sem.eq_24, Y.E.sem.eq_25, Y.E.sem.eq_26, Y.E.sem.eq_27, Y.E.sem.eq_28, Y.E.sem.eq_29, Y.E.sem.eq_30, Y.E.sem.eq_31, Y.E.sem.eq_32, Y.E.sem.eq_33, Y.E.sem.eq_34, Y.Es.sem, Y.T.sem, sem_seq, sem_rng1, sem_rng2, sem_enm, sem_zip, sem_lc, Y.Oe.sem, Y.Ts.semAnd, Y.Ts.semOr, Y.Es.semAnd, Y.Es.semOr, CfN_call, CfN_glo]
    generalize interp PU (n + 3) = I at *
    simp [Sy.toD] at e ⊢
    simp [e, d0', g, g2]
    exact cut_ok ho rfl
  | .times a b, n, d, h, ho, hw, hd => by
    obtain ⟨h1, h2, h3⟩ := hw
    simp only [Sy.dep] at hd
    have e := run_is_whole (n + b.dep + 3) a 0 3 h ho
    have e2 := run_is_in b n (d - 1) h ho h3 (by omega)
    rw [show ((d - 1 : Nat) : Int) = (d : Int) - 1 by omega] at e2
    have d0' : ¬ d = 0 := by omega
    have g := in_dice (h := h) (k := 12) (by omega)
    show interp PU (n + b.dep + 4 + 1) _ _ _ = _
    rw [interp_succ]
    simp only [runF, U, d_is_saying_in, b_is_saying_in, enter]
    simp only [Y.Ss.sem, sem_asg, sem_par, sem_asgT, sem_setI, sem_ex, sem_ret, sem_retN, sem_ite, sem_frzV, sem_brk, sem_pass, sem_for, Y.E.sem.eq_1, Y.E.sem.eq_2, Y.E.sem.eq_3, Y.E.sem.eq_4, Y.E.sem.eq_5, Y.E.sem.eq_6, Y.E.sem.eq_7, Y.E.sem.eq_8, Y.E.sem.eq_9, Y.E.sem.eq_10, Y.E.sem.eq_11, Y.E.sem.eq_12, Y.E.sem.eq_13, Y.E.sem.eq_14, Y.E.sem.eq_15, Y.E.sem.eq_16, Y.E.sem.eq_17, Y.E.sem.eq_18, Y.E.sem.eq_19, Y.E.sem.eq_20, Y.E.sem.eq_21, Y.E.sem.eq_22, Y.E.sem.eq_23, Y.E.sem.eq_24, Y.E.sem.eq_25, Y.E.sem.eq_26, Y.E.sem.eq_27, Y.E.sem.eq_28, Y.E.sem.eq_29, Y.E.sem.eq_30, Y.E.sem.eq_31, Y.E.sem.eq_32, Y.E.sem.eq_33, Y.E.sem.eq_34, Y.Es.sem, Y.T.sem, sem_seq, sem_rng1, sem_rng2, sem_enm, sem_zip, sem_lc, Y.Oe.sem, Y.Ts.semAnd, Y.Ts.semOr, Y.Es.semAnd, Y.Es.semOr, CfN_call, CfN_glo]
    rw [show n + b.dep + 3 + 1 = n + b.dep + 4 by omega] at e
    generalize interp PU (n + b.dep + 4) = I at *
    simp [Sy.toD, e, e2, d0', g, h1, h2]
    exact cut_ok ho rfl
  | .two w a b, n, d, h, ho, hw, hd => by
    simp only [Sy.dep] at hd
    have ea := run_is_in a (n + max a.dep b.dep - a.dep) (d - 1) h ho hw.1 (by omega)
    have eb := run_is_in b (n + max a.dep b.dep - b.dep) (d - 1) h ho hw.2 (by omega)
    rw [show n + max a.dep b.dep - a.dep + a.dep + 4 = n + max a.dep b.dep + 4 by omega] at ea
    rw [show n + max a.dep b.dep - b.dep + b.dep + 4 = n + max a.dep b.dep + 4 by omega] at eb
    rw [show ((d - 1 : Nat) : Int) = (d : Int) - 1 by omega] at ea eb
    have d0' : ¬ d = 0 := by omega
    have g := in_dice (h := h) (Tw.lt w)
    have g2 : ¬ (1 ≤ w.n ∧ w.n ≤ 6) := by cases w <;> simp
    have g0 := glo0 (h := h) (Tw.lt w)
    have g3 : (7 ≤ w.n ∧ w.n ≤ 11) := by cases w <;> simp
    have al : blt .all h [.fl [.bl true, .bl true]] = .ok (.bl true) h := rfl
    show interp PU (n + max a.dep b.dep + 4 + 1) _ _ _ = _
    rw [interp_succ]
    simp only [runF, U, d_is_saying_in, b_is_saying_in, enter]
    simp only [Y.Ss.sem, sem_asg, sem_par, sem_asgT, sem_setI, sem_ex, sem_ret, sem_retN, sem_ite, sem_frzV, sem_brk, sem_pass, sem_for, Y.E.sem.eq_1, Y.E.sem.eq_2, Y.E.sem.eq_3, Y.E.sem.eq_4, Y.E.sem.eq_5, Y.E.sem.eq_6, Y.E.sem.eq_7, Y.E.sem.eq_8, Y.E.sem.eq_9, Y.E.sem.eq_10, Y.E.sem.eq_11, Y.E.sem.eq_12, Y.E.sem.eq_13, Y.E.sem.eq_14, Y.E.sem.eq_15, Y.E.sem.eq_16, Y.E.sem.eq_17, Y.E.sem.eq_18, Y.E.sem.eq_19, Y.E.sem.eq_20, Y.E.sem.eq_21, Y.E.sem.eq_22, Y.E.sem.eq_23, Y.E.sem.eq_24, Y.E.sem.eq_25, Y.E.sem.eq_26, Y.E.sem.eq_27, Y.E.sem.eq_28, Y.E.sem.eq_29, Y.E.sem.eq_30, Y.E.sem.eq_31, Y.E.sem.eq_32, Y.E.sem.eq_33, Y.E.sem.eq_34, Y.Es.sem, Y.T.sem, sem_seq, sem_rng1, sem_rng2, sem_enm, sem_zip, sem_lc, Y.Oe.sem, Y.Ts.semAnd, Y.Ts.semOr, Y.Es.semAnd, Y.Es.semOr, CfN_call, CfN_glo]
    simp [Sy.toD, d0', g, g2, g0, g3, slice_1_3, loopC]
    simp only [Y.Ss.sem, sem_asg, sem_par, sem_asgT, sem_setI, sem_ex, sem_ret, sem_retN, sem_ite, sem_frzV, sem_brk, sem_pass, sem_for, Y.E.sem.eq_1, Y.E.sem.eq_2, Y.E.sem.eq_3, Y.E.sem.eq_4, Y.E.sem.eq_5, Y.E.sem.eq_6, Y.E.sem.eq_7, Y.E.sem.eq_8, Y.E.sem.eq_9, Y.E.sem.eq_10, Y.E.sem.eq_11, Y.E.sem.eq_12, Y.E.sem.eq_13, Y.E.sem.eq_14, Y.E.sem.eq_15, Y.E.sem.eq_16, Y.E.sem.eq_17, Y.E.sem.eq_18, Y.E.sem.eq_19, Y.E.sem.eq_20, Y.E.sem.eq_21, Y.E.sem.eq_22, Y.E.sem.eq_23, Y.E.sem.eq_24, Y.E.sem.eq_25, Y.E.sem.eq_26, Y.E.sem.eq_27, Y.E.sem.eq_28, Y.E.sem.eq_29, Y.E.sem.eq_30, Y.E.sem.eq_31, Y.E.sem.eq_32, Y.E.sem.eq_33, Y.E.sem.eq_34, Y.Es.sem, Y.T.sem, sem_seq, sem_rng1, sem_rng2, sem_enm, sem_zip, sem_lc, Y.Oe.sem, Y.Ts.semAnd, Y.Ts.semOr, Y.Es.semAnd, Y.Es.semOr, CfN_call, CfN_glo]
    generalize interp PU (n + max a.dep b.dep + 4) = I at *
    simp [ea, eb, al]
    exact cut_ok ho rfl
theorem run_dice_in : ∀ (s : Sy) (n : Nat) (h : Hs), Okh h → interp PU (n + s.dep + 1) f_dice_in [s.toD] h = .ok (.int (lmF s)) h
  | .num a, n, h, ho => by
    have g := in_dice (h := h) (k := 0) (by omega)
    show interp PU (n + 1) _ _ _ = _
    rw [interp_succ]
    simp only [runF, U, d_dice_in, b_dice_in, enter]
    simp only [Y.Ss.sem, sem_asg, sem_par, sem_asgT, sem_setI, sem_ex, sem_ret, sem_retN, sem_ite, sem_frzV, sem_brk, sem_pass, sem_for, Y.E.sem.eq_1, Y.E.sem.eq_2, Y.E.sem.eq_3, Y.E.sem.eq_4, Y.E.sem.eq_5, Y.E.sem.eq_6, Y.E.sem.eq_7, Y.E.sem.eq_8, Y.E.sem.eq_9, Y.E.sem.eq_10, Y.E.sem.eq_11, Y.E.sem.eq_12, Y.E.sem.eq_13, Y.E.sem.eq_14, Y.E.sem.eq_15, Y.E.sem.eq_16, Y.E.sem.eq_17, Y.E.sem.eq_18, Y.E.sem.eq_19, Y.E.sem.eq_20, Y.E.sem.eq_21, Y.E.sem.eq_22, Y.E.sem.eq_23, Y.E.sem.eq_24, Y.E.sem.eq_25, Y.E.sem.eq_26, Y.E.sem.eq_27, Y.E.sem.eq_28, Y.E.sem.eq_29, Y.E.sem.eq_30, Y.E.sem.eq_31, Y.E.sem.eq_32, Y.E.sem.eq_33, Y.E.sem.eq_34, Y.Es.sem, Y.T.sem, sem_seq, sem_rng1, sem_rng2, sem_enm, sem_zip, sem_lc, Y.Oe.sem, Y.Ts.semAnd, Y.Ts.semOr, Y.Es.semAnd, Y.Es.semOr, CfN_call, CfN_glo]
    have s0 : slice (.tup [.str (wd 0), .int a]) (some 1) none = some (.tup [.int a]) := rfl
    have s1 : blt .sum h [.fl []] = .ok (.int 0) h := rfl
    simp [Sy.toD, lmF, g, s0, loopC, s1]
    exact cut_ok ho rfl
  | .dice a b, n, h, ho => by
    have g := in_dice (h := h) (k := 1) (by omega)
    show interp PU (n + 1) _ _ _ = _
    rw [interp_succ]
    simp only [runF, U, d_dice_in, b_dice_in, enter]
    simp only [Y.Ss.sem, sem_asg, sem_par, sem_asgT, sem_setI, sem_ex, sem_ret, sem_retN, sem_ite, sem_frzV, sem_brk, sem_pass, sem_for, Y.E.sem.eq_1, Y.E.sem.eq_2, Y.E.sem.eq_3, Y.E.sem.eq_4, Y.E.sem.eq_5, Y.E.sem.eq_6, Y.E.sem.eq_7, Y.E.sem.eq_8, Y.E.sem.eq_9, Y.E.sem.eq_10, Y.E.sem.eq_11, Y.E.sem.eq_12, Y.E.sem.eq_13, Y.E.sem.eq_14, Y.E.sem.eq_15, Y.E.sem.eq_16, Y.E.sem.eq_17, Y.E.sem.eq_18, Y.E.sem.eq_19, Y.E.sem.eq_20, Y.E.sem.eq_21, Y.E.sem.eq_22, Y.E.sem.eq_23, Y.E.sem.eq_24, Y.E.sem.eq_25, Y.E.sem.eq_26, Y.E.sem.eq_27, Y.E.sem.eq_28, Y.E.sem.eq_29, Y.E.sem.eq_30, Y.E.sem.eq_31, Y.E.sem.eq_32, Y.E.sem.eq_33, Y.E.sem.eq_34, Y.Es.sem, Y.T.sem, sem_seq, sem_rng1, sem_rng2, sem_enm, sem_zip, sem_lc, Y.Oe.sem, Y.Ts.semAnd, Y.Ts.semOr, Y.Es.semAnd, Y.Es.semOr, CfN_call, CfN_glo]
    simp [Sy.toD, lmF, g]
    exact cut_ok ho rfl
  | .pool w a b c, n, h, ho => by
    have g := in_dice (h := h) (Pw.lt w)
    have g2 : (1 ≤ w.n ∧ w.n ≤ 6) := by cases w <;> simp
    show interp PU (n + 1) _ _ _ = _
    rw [interp_succ]
    simp only [runF, U, d_dice_in, b_dice_in, enter]
    simp only [Y.Ss.sem, sem_asg, sem_par, sem_asgT, sem_setI, sem_ex, sem_ret, sem_retN, sem_ite, sem_frzV, sem_brk, sem_pass, sem_for, Y.E.sem.eq_1, Y.E.sem.eq_2, Y.E.sem.eq_3, Y.E.sem.eq_4, Y.E.sem.eq_5, Y.E.sem.eq_6, Y.E.sem.eq_7, Y.E.sem.eq_8, Y.E.sem.eq_9, Y.E.sem.eq_10, Y.E.sem.eq_11, Y.E.sem.eq_12, Y.E.sem.eq_13, Y.E.sem.eq_14, Y.E.sem.eq_15, Y.E.sem.eq_16, Y.E.sem.eq_17, Y.E.sem.eq_18, Y.E.sem.eq_19, Y.E.sem.eq_20, Y.E.sem.eq_21, Y.E.sem.eq_22, Y.E.sem.eq_23, Y.E.sem.eq_24, Y.E.sem.eq_25, Y.E.sem.eq_26, Y.E.sem.eq_27, Y.E.sem.eq_28, Y.E.sem.eq_29, Y.E.sem.eq_30, Y.E.sem.eq_31, Y.E.sem.eq_32, Y.E.sem.eq_33, Y.E.sem.eq_34, Y.Es.sem, Y.T.sem, sem_seq, sem_rng1, sem_rng2, sem_enm, sem_zip, sem_lc, Y.Oe.sem, Y.Ts.semAnd, Y.Ts.semOr, Y.Es.semAnd, Y.Es.semOr, CfN_call, CfN_glo]
    simp [Sy.toD, lmF, g, g2]
    exact cut_ok ho rfl
  | .times a b, n, h, ho => by
    have e0 := run_dice_in b n h ho
    have g := in_dice (h := h) (k := 12) (by omega)
    show interp PU (n + b.dep + 1 + 1) _ _ _ = _
    rw [interp_succ]
    simp only [runF, U, d_dice_in, b_dice_in, enter]
    simp only [Y.Ss.sem, sem_asg, sem_par, sem_asgT, sem_setI, sem_ex, sem_ret, sem_retN, sem_ite, sem_frzV, sem_brk, sem_pass, sem_for, Y.E.sem.eq_1, Y.E.sem.eq_2, Y.E.sem.eq_3, Y.E.sem.eq_4, Y.E.sem.eq_5, Y.E.sem.eq_6, Y.E.sem.eq_7, Y.E.sem.eq_8, Y.E.sem.eq_9, Y.E.sem.eq_10, Y.E.sem.eq_11, Y.E.sem.eq_12, Y.E.sem.eq_13, Y.E.sem.eq_14, Y.E.sem.eq_15, Y.E.sem.eq_16, Y.E.sem.eq_17, Y.E.sem.eq_18, Y.E.sem.eq_19, Y.E.sem.eq_20, Y.E.sem.eq_21, Y.E.sem.eq_22, Y.E.sem.eq_23, Y.E.sem.eq_24, Y.E.sem.eq_25, Y.E.sem.eq_26, Y.E.sem.eq_27, Y.E.sem.eq_28, Y.E.sem.eq_29, Y.E.sem.eq_30, Y.E.sem.eq_31, Y.E.sem.eq_32, Y.E.sem.eq_33, Y.E.sem.eq_34, Y.Es.sem, Y.T.sem, sem_seq, sem_rng1, sem_rng2, sem_enm, sem_zip, sem_lc, Y.Oe.sem, Y.Ts.semAnd, Y.Ts.semOr, Y.Es.semAnd, Y.Es.semOr, CfN_call, CfN_glo]
    simp [Sy.toD, lmF, g, slice_1_3, loopC]
    simp only [Y.Ss.sem, sem_asg, sem_par, sem_asgT, sem_setI, sem_ex, sem_ret, sem_retN, sem_ite, sem_frzV, sem_brk, sem_pass, sem_for, Y.E.sem.eq_1, Y.E.sem.eq_2, Y.E.sem.eq_3, Y.E.sem.eq_4, Y.E.sem.eq_5, Y.E.sem.eq_6, Y.E.sem.eq_7, Y.E.sem.eq_8, Y.E.sem.eq_9, Y.E.sem.eq_10, Y.E.sem.eq_11, Y.E.sem.eq_12, Y.E.sem.eq_13, Y.E.sem.eq_14, Y.E.sem.eq_15, Y.E.sem.eq_16, Y.E.sem.eq_17, Y.E.sem.eq_18, Y.E.sem.eq_19, Y.E.sem.eq_20, Y.E.sem.eq_21, Y.E.sem.eq_22, Y.E.sem.eq_23, Y.E.sem.eq_24, Y.E.sem.eq_25, Y.E.sem.eq_26, Y.E.sem.eq_27, Y.E.sem.eq_28, Y.E.sem.eq_29, Y.E.sem.eq_30, Y.E.sem.eq_31, Y.E.sem.eq_32, Y.E.sem.eq_33, Y.E.sem.eq_34, Y.Es.sem, Y.T.sem, sem_seq, sem_rng1, sem_rng2, sem_enm, sem_zip, sem_lc, Y.Oe.sem, Y.Ts.semAnd, Y.Ts.semOr, Y.Es.semAnd, Y.Es.semOr, CfN_call, CfN_glo]
    generalize interp PU (n + b.dep + 1) = I at *
    simp [e0, blt_sum1]
    exact cut_ok ho rfl
  | .two w a b, n, h, ho => by
    have ea := run_dice_in a (n + max a.dep b.dep - a.dep) h ho
    have eb := run_dice_in b (n + max a.dep b.dep - b.dep) h ho
    rw [show n + max a.dep b.dep - a.dep + a.dep + 1 = n + max a.dep b.dep + 1 by omega] at ea
    rw [show n + max a.dep b.dep - b.dep + b.dep + 1 = n + max a.dep b.dep + 1 by omega] at eb
    have g := in_dice (h := h) (Tw.lt w)
    have g2 : ¬ (1 ≤ w.n ∧ w.n ≤ 6) := by cases w <;> simp
    show interp PU (n + max a.dep b.dep + 1 + 1) _ _ _ = _
    rw [interp_succ]
    simp only [runF, U, d_dice_in, b_dice_in, enter]
    simp only [Y.Ss.sem, sem_asg, sem_par, sem_asgT, sem_setI, sem_ex, sem_ret, sem_retN, sem_ite, sem_frzV, sem_brk, sem_pass, sem_for, Y.E.sem.eq_1, Y.E.sem.eq_2, Y.E.sem.eq_3, Y.E.sem.eq_4, Y.E.sem.eq_5, Y.E.sem.eq_6, Y.E.sem.eq_7, Y.E.sem.eq_8, Y.E.sem.eq_9, Y.E.sem.eq_10, Y.E.sem.eq_11, Y.E.sem.eq_12, Y.E.sem.eq_13, Y.E.sem.eq_14, Y.E.sem.eq_15, Y.E.sem.eq_16, Y.E.sem.eq_17, Y.E.sem.eq_18, Y.E.sem.eq_19, Y.E.sem.eq_20, Y.E.sem.eq_21, Y.E.sem.eq_22, Y.E.sem.eq_23, Y.E.sem.eq_24, Y.E.sem.eq_25, Y.E.sem.eq_26, Y.E.sem.eq_27, Y.E.sem.eq_28, Y.E.sem.eq_29, Y.E.sem.eq_30, Y.E.sem.eq_31, Y.E.sem.eq_32, Y.E.sem.eq_33, Y.E.sem.eq_34, Y.Es.sem, Y.T.sem, sem_seq, sem_rng1, sem_rng2, sem_enm, sem_zip, sem_lc, Y.Oe.sem, Y.Ts.semAnd, Y.Ts.semOr, Y.Es.semAnd, Y.Es.semOr, CfN_call, CfN_glo]
    simp [Sy.toD, lmF, g, g2, slice_1_3, loopC]
    simp only [Y.Ss.sem, sem_asg, sem_par, sem_asgT, sem_setI, sem_ex, sem_ret, sem_retN, sem_ite, sem_frzV, sem_brk, sem_pass, sem_for, Y.E.sem.eq_1, Y.E.sem.eq_2, Y.E.sem.eq_3, Y.E.sem.eq_4, Y.E.sem.eq_5, Y.E.sem.eq_6, Y.E.sem.eq_7, Y.E.sem.eq_8, Y.E.sem.eq_9, Y.E.sem.eq_10, Y.E.sem.eq_11, Y.E.sem.eq_12, Y.E.sem.eq_13, Y.E.sem.eq_14, Y.E.sem.eq_15, Y.E.sem.eq_16, Y.E.sem.eq_17, Y.E.sem.eq_18, Y.E.sem.eq_19, Y.E.sem.eq_20, Y.E.sem.eq_21, Y.E.sem.eq_22, Y.E.sem.eq_23, Y.E.sem.eq_24, Y.E.sem.eq_25, Y.E.sem.eq_26, Y.E.sem.eq_27, Y.E.sem.eq_28, Y.E.sem.eq_29, Y.E.sem.eq_30, Y.E.sem.eq_31, Y.E.sem.eq_32, Y.E.sem.eq_33, Y.E.sem.eq_34, Y.Es.sem, Y.T.sem, sem_seq, sem_rng1, sem_rng2, sem_enm, sem_zip, sem_lc, Y.Oe.sem, Y.Ts.semAnd, Y.Ts.semOr, Y.Es.semAnd, Y.Es.semOr, CfN_call, CfN_glo]
    generalize interp PU (n + max a.dep b.dep + 1) = I at *
    simp [ea, eb, blt_sum2]
    exact cut_ok ho rfl
theorem run_is_saying (s : Sy) (n : Nat) (h : Hs) (ho : Okh h) (hw : Wg s) (hd : s.dep < 3) (hl : lmF s ≤ 6) : interp PU (n + 8) f_is_saying [s.toD] h = .ok (.bl true) h := by
  have e1 := run_is_in s (n + 3 - s.dep) 3 h ho hw hd
  have e2 := run_dice_in s (n + 6 - s.dep) h ho
  rw [show n + 3 - s.dep + s.dep + 4 = n + 7 by omega] at e1
  rw [show n + 6 - s.dep + s.dep + 1 = n + 7 by omega] at e2
  show interp PU (n + 7 + 1) _ _ _ = _
  rw [interp_succ]
  simp only [runF, U, d_is_saying, b_is_saying, enter]
  simp only [Y.Ss.sem, sem_asg, sem_par, sem_asgT, sem_setI, sem_ex, sem_ret, sem_retN, sem_ite, sem_frzV, sem_brk, sem_pass, sem_for, Y.E.sem.eq_1, Y.E.sem.eq_2, Y.E.sem.eq_3, Y.E.sem.eq_4, Y.E.sem.eq_5, Y.E.sem.eq_6, Y.E.sem.eq_7, Y.E.sem.eq_8, Y.E.sem.eq_9, Y.E.sem.eq_10, Y.E.sem.eq_11, Y.E.sem.eq_12, Y.E.sem.eq_13, Y.E.sem.eq_14, Y.E.sem.eq_15, Y.E.sem.eq_16, Y.E.sem.eq_17, Y.E.sem.eq_18, Y.E.sem.eq_19, Y.E.sem.eq_20, Y.E.sem.eq_21, Y.E.sem.eq_22, Y.E.sem.eq_23, Y.E.sem.eq_24, Y.E.sem.eq_25, Y.E.sem.eq_26, Y.E.sem.eq_27, Y.E.sem.eq_28, Y.E.sem.eq_29, Y.E.sem.eq_30, Y.E.sem.eq_31, Y.E.sem.eq_32, Y.E.sem.eq_33, Y.E.sem.eq_34, Y.Es.sem, Y.T.sem, sem_seq, sem_rng1, sem_rng2, sem_enm, sem_zip, sem_lc, Y.Oe.sem, Y.Ts.semAnd, Y.Ts.semOr, Y.Es.semAnd, Y.Es.semOr, CfN_call, CfN_glo]
  generalize interp PU (n + 7) = I at *
  have e1' : I f_is_saying_in [s.toD, .int 3] h = .ok (.bl true) h := e1
  have g3 : gloV 3 = .int 6 := rfl
  have g2 : gloV 2 = .int 3 := rfl
  simp [g2, g3, e1', e2, hl]
  exact cut_ok ho rfl
/-! ### the text -/
def fig (i : Int) : Nat := 48 + i.toNat
def signF : Pw → Nat
  | .high => 104
  | .low => 108
  | .again => 114
  | .burst => 120
  | .count => 99
def br1 : Sy → Bool
  | .two .plus _ _ => true
  | .two .less _ _ => true
  | _ => false
def br2 : Sy → Bool
  | .two .plus _ _ => true
  | .two .less _ _ => true
  | .times _ _ => true
  | _ => false
def brk (b : Bool) (t : S) : S := if b = true then [40] ++ t ++ [41] else t
def wrF : Sy → S
  | .num n => [fig n]
  | .dice m s => [fig m] ++ [100] ++ [fig s]
  | .pool w m s l => [fig m] ++ [100] ++ [fig s] ++ [signF w] ++ [fig l]
  | .times n a => [fig n] ++ [32, 42, 32] ++ brk (br2 a) (wrF a)
  | .two .plus a b => wrF a ++ [32, 43, 32] ++ brk (br1 b) (wrF b)
  | .two .less a b => wrF a ++ [32, 45, 32] ++ brk (br1 b) (wrF b)
  | .two .most a b => [109, 97, 120] ++ [40] ++ wrF a ++ [44, 32] ++ wrF b ++ [41]
  | .two .least a b => [109, 105, 110] ++ [40] ++ wrF a ++ [44, 32] ++ wrF b ++ [41]
  | .two .beats a b => wd 11 ++ [40] ++ wrF a ++ [44, 32] ++ wrF b ++ [41]
theorem brk_len (b : Bool) (t : S) : t.length ≤ (brk b t).length ∧ (brk b t).length ≤ t.length + 2 := by
  unfold brk
  split <;> simp <;> omega
theorem wrF_len : ∀ s : Sy, (wrF s).length + 20 ≤ 30 * 3 ^ s.dep
  | .num n => by simp [wrF, Sy.dep]
  | .dice m s => by simp [wrF, Sy.dep]
  | .pool w m s l => by simp [wrF, Sy.dep]
  | .times n a => by
    have h1 := wrF_len a
    have h2 := (brk_len (br2 a) (wrF a)).2
    simp only [wrF, Sy.dep, List.length_append, List.length_cons, List.length_nil, Nat.pow_succ]
    omega
  | .two w a b => by
    have h1 := wrF_len a
    have h2 := wrF_len b
    have h3 := (brk_len (br1 b) (wrF b)).2
    have p1 : 3 ^ a.dep ≤ 3 ^ max a.dep b.dep := Nat.pow_le_pow_right (by omega) (by omega)
    have p2 : 3 ^ b.dep ≤ 3 ^ max a.dep b.dep := Nat.pow_le_pow_right (by omega) (by omega)
    have e5 : (wd 11).length = 5 := rfl
    cases w <;> simp only [wrF, Sy.dep, List.length_append, List.length_cons, List.length_nil, Nat.pow_succ, e5] <;> omega
theorem wrF_le {s : Sy} (hd : s.dep ≤ 4) : (wrF s).length ≤ 2430 := by
  have h1 := wrF_len s
  have p1 : 3 ^ s.dep ≤ 3 ^ 4 := Nat.pow_le_pow_right (by omega) hd
  omega
theorem str_fig {h : Hs} {i : Int} (h0 : 0 ≤ i) (h9 : i ≤ 9) : blt .str h [.int i] = .ok (.str [fig i]) h := by
  show (if 0 ≤ i ∧ i < 10 then R.ok (D.str [48 + i.toNat]) h else .bad) = _
  rw [if_pos ⟨h0, by omega⟩]
  rfl
theorem cat_str {h : Hs} {a b : S} (hl : a.length + b.length ≤ SZ) : bop .add h (.str a) (.str b) = .ok (.str (a ++ b)) h := by simp only [bop, opAdd, if_pos hl]

theorem glo8 {h : Hs} {k : Nat} (hk : k < 13) : cop .isin h (.str (wd k)) (gloV 8) = .ok (.bl (decide (k = 7 ∨ k = 8))) h := by
  have : ∀ j : Fin 13, (dget [(wd 7, D.str [32, 43, 32]), (wd 8, D.str [32, 45, 32])] (wd j.val)).isSome = decide (j.val = 7 ∨ j.val = 8) := by decide +kernel
  have e := this ⟨k, hk⟩
  show (match (some (dget [(wd 7, D.str [32, 43, 32]), (wd 8, D.str [32, 45, 32])] (wd k)).isSome : Option Bool) with
    | some k => R.ok (D.bl k) h
    | none => .bad) = _
  rw [e]
theorem glo7 {h : Hs} {k : Nat} (hk : k < 13) : cop .isin h (.str (wd k)) (gloV 7) = .ok (.bl (decide (9 ≤ k ∧ k ≤ 11))) h := by
  have : ∀ j : Fin 13, (dget [(wd 9, D.str [109, 97, 120]), (wd 10, D.str [109, 105, 110]), (wd 11, D.str (wd 11))] (wd j.val)).isSome = decide (9 ≤ j.val ∧ j.val ≤ 11) := by decide +kernel
  have e := this ⟨k, hk⟩
  show (match (some (dget [(wd 9, D.str [109, 97, 120]), (wd 10, D.str [109, 105, 110]), (wd 11, D.str (wd 11))] (wd k)).isSome : Option Bool) with
    | some k => R.ok (D.bl k) h
    | none => .bad) = _
  rw [e]
theorem glo8x {h : Hs} : index h (gloV 8) (.str (wd 7)) = some (.str [32, 43, 32]) ∧ index h (gloV 8) (.str (wd 8)) = some (.str [32, 45, 32]) := ⟨rfl, rfl⟩
theorem glo7x {h : Hs} : index h (gloV 7) (.str (wd 9)) = some (.str [109, 97, 120]) ∧ index h (gloV 7) (.str (wd 10)) = some (.str [109, 105, 110]) ∧ index h (gloV 7) (.str (wd 11)) = some (.str (wd 11)) := ⟨rfl, rfl, rfl⟩
theorem glo6x {h : Hs} (w : Pw) : index h (gloV 6) (.str (wd w.n)) = some (.str [signF w]) := by cases w <;> rfl
theorem in_b2 {h : Hs} {k : Nat} (hk : k < 13) : cop .isin h (.str (wd k)) (.tup [.str (wd 7), .str (wd 8), .str (wd 12)]) = .ok (.bl (decide (k = 7 ∨ k = 8 ∨ k = 12))) h := by
  rw [cop_in (by simp)]
  simp [hk]
  rw [Bool.eq_iff_iff]
  simp
  omega
theorem in_b1 {h : Hs} {k : Nat} (hk : k < 13) : cop .isin h (.str (wd k)) (.tup [.str (wd 7), .str (wd 8)]) = .ok (.bl (decide (k = 7 ∨ k = 8))) h := by
  rw [cop_in (by simp)]
  simp [hk]
  rw [Bool.eq_iff_iff]
  simp
  omega
theorem br1_hd (s : Sy) : decide (s.hd = 7 ∨ s.hd = 8) = br1 s := by
  cases s with
  | two w a b => cases w <;> simp [br1, Sy.hd]
  | pool w a b c => cases w <;> simp [br1, Sy.hd]
  | _ => simp [br1, Sy.hd]
theorem br2_hd (s : Sy) : decide (s.hd = 7 ∨ s.hd = 8 ∨ s.hd = 12) = br2 s := by
  cases s with
  | two w a b => cases w <;> simp [br2, Sy.hd]
  | pool w a b c => cases w <;> simp [br2, Sy.hd]
  | _ => simp [br2, Sy.hd]
@[simp] theorem rb_strF {k : Nat} {s : S} : D.rb k (.str s) = true := rfl
theorem run_brackets (n : Nat) (s : Sy) (p : List D) (b : Bool) (h : Hs) (ho : Okh h) (hd : s.dep ≤ 4) (hp : cop .isin h (.str (wd s.hd)) (.tup p) = .ok (.bl b) h) (e : interp PU n f_written [s.toD] h = .ok (.str (wrF s)) h) : interp PU (n + 1) f_in_brackets [s.toD, .tup p] h = .ok (.str (brk b (wrF s))) h := by
  have hl := wrF_le hd
  have c1 : bop .add h (.str [40]) (.str (wrF s)) = .ok (.str ([40] ++ wrF s)) h := cat_str (by simp; omega)
  have c2 : bop .add h (.str ([40] ++ wrF s)) (.str [41]) = .ok (.str ([40] ++ wrF s ++ [41])) h := cat_str (by simp; omega)
  rw [interp_succ]
  simp only [runF, U, d_in_brackets, b_in_brackets, enter]
  simp only [Y.Ss.sem, sem_asg, sem_par, sem_asgT, sem_setI, sem_ex, sem_ret, sem_retN, sem_ite, sem_frzV, sem_brk, sem_pass, sem_for, Y.E.sem.eq_1, Y.E.sem.eq_2, Y.E.sem.eq_3, Y.E.sem.eq_4, Y.E.sem.eq_5, Y.E.sem.eq_6, Y.E.sem.eq_7, Y.E.sem.eq_8, Y.E.sem.eq_9, Y.E.sem.eq_10, Y.E.sem.eq_11, Y.E.sem.eq_12, Y.E.sem.eq_13, Y.E.sem.eq_14, Y.E.sem.eq_15, Y.E.sem.eq_16, Y.E.sem.eq_17, Y.E.sem.eq_18, Y.E.sem.eq_19, Y.E.sem.eq_20, Y.E.sem.eq_21, Y.E.sem.eq_22, Y.E.sem.eq_23, Y.E.sem.eq_24, Y.E.sem.eq_25, Y.E.sem.eq_26, Y.E.sem.eq_27, Y.E.sem.eq_28, Y.E.sem.eq_29, Y.E.sem.eq_30, Y.E.sem.eq_31, Y.E.sem.eq_32, Y.E.sem.eq_33, Y.E.sem.eq_34, Y.Es.sem, Y.T.sem, sem_seq, sem_rng1, sem_rng2, sem_enm, sem_zip, sem_lc, Y.Oe.sem, Y.Ts.semAnd, Y.Ts.semOr, Y.Es.semAnd, Y.Es.semOr, CfN_call, CfN_glo]
  generalize interp PU n = I at *
  unfold brk
  simp only [List.cons_append, List.nil_append] at c1 c2
  cases b
  · simp [hp, e]; exact cut_ok ho rfl
  · simp [hp, e, c1, c2]; exact cut_ok ho rfl
theorem run_written : ∀ (s : Sy) (n : Nat) (h : Hs), Okh h → Wg s → s.dep ≤ 4 → interp PU (n + 2 * s.dep + 1) f_written [s.toD] h = .ok (.str (wrF s)) h
  | .num a, n, h, ho, hw, hd => by
    have f := str_fig (h := h) hw.1 hw.2
    show interp PU (n + 1) _ _ _ = _
    rw [interp_succ]
    simp only [runF, U, d_written, b_written, enter]
    simp only [Y.Ss.sem, sem_asg, sem_par, sem_asgT, sem_setI, sem_ex, sem_ret, sem_retN, sem_ite, sem_frzV, sem_brk, sem_pass, sem_for, Y.E.sem.eq_1, Y.E.sem.eq_2, Y.E.sem.eq_3, Y.E.sem.eq_4, Y.E.sem.eq_5, Y.E.sem.eq_6, Y.E.sem.eq_7, Y.E.sem.eq_8, Y.E.sem.eq_9, Y.E.sem.eq_10, Y.E.sem.eq_11, Y.E.sem.eq_12, Y.E.sem.eq_13, Y.E.sem.eq_14, Y.E.sem.eq_15, Y.E.sem.eq_16, Y.E.sem.eq_17, Y.E.sem.eq_18, Y.E.sem.eq_19, Y.E.sem.eq_20, Y.E.sem.eq_21, Y.E.sem.eq_22, Y.E.sem.eq_23, Y.E.sem.eq_24, Y.E.sem.eq_25, Y.E.sem.eq_26, Y.E.sem.eq_27, Y.E.sem.eq_28, Y.E.sem.eq_29, Y.E.sem.eq_30, Y.E.sem.eq_31, Y.E.sem.eq_32, Y.E.sem.eq_33, Y.E.sem.eq_34, Y.Es.sem, Y.T.sem, sem_seq, sem_rng1, sem_rng2, sem_enm, sem_zip, sem_lc, Y.Oe.sem, Y.Ts.semAnd, Y.Ts.semOr, Y.Es.semAnd, Y.Es.semOr, CfN_call, CfN_glo]
    simp [Sy.toD, f, wrF]
    exact cut_ok ho rfl
  | .dice m s, n, h, ho, ⟨h1, h2, h3, h4⟩, hd => by
    have f1 := str_fig (h := h) (i := m) (by omega) (by omega)
    have f2 := str_fig (h := h) (i := s) (by omega) (by omega)
    have g8 := glo8 (h := h) (k := 1) (by omega)
    have g7 := glo7 (h := h) (k := 1) (by omega)
    have c1 : bop .add h (.str [fig m]) (.str [100]) = .ok (.str [fig m, 100]) h := cat_str (by simp)
    have c2 : bop .add h (.str [fig m, 100]) (.str [fig s]) = .ok (.str [fig m, 100, fig s]) h := cat_str (by simp)
    show interp PU (n + 1) _ _ _ = _
    rw [interp_succ]
    simp only [runF, U, d_written, b_written, enter]
    simp only [Y.Ss.sem, sem_asg, sem_par, sem_asgT, sem_setI, sem_ex, sem_ret, sem_retN, sem_ite, sem_frzV, sem_brk, sem_pass, sem_for, Y.E.sem.eq_1, Y.E.sem.eq_2, Y.E.sem.eq_3, Y.E.sem.eq_4, Y.E.sem.eq_5, Y.E.sem.eq_6, Y.E.sem.eq_7, Y.E.sem.eq_8, Y.E.sem.eq_9, Y.E.sem.eq_10, Y.E.sem.eq_11, Y.E.sem.eq_12, Y.E.sem.eq_13, Y.E.sem.eq_14, Y.E.sem.eq_15, Y.E.sem.eq_16, Y.E.sem.eq_17, Y.E.sem.eq_18, Y.E.sem.eq_19, Y.E.sem.eq_20, Y.E.sem.eq_21, Y.E.sem.eq_22, Y.E.sem.eq_23, Y.E.sem.eq_24, Y.E.sem.eq_25, Y.E.sem.eq_26, Y.E.sem.eq_27, Y.E.sem.eq_28, Y.E.sem.eq_29, Y.E.sem.eq_30, Y.E.sem.eq_31, Y.E.sem.eq_32, Y.E.sem.eq_33, Y.E.sem.eq_34, Y.Es.sem, Y.T.sem, sem_seq, sem_rng1, sem_rng2, sem_enm, sem_zip, sem_lc, Y.Oe.sem, Y.Ts.semAnd, Y.Ts.semOr, Y.Es.semAnd, Y.Es.semOr, CfN_call, CfN_glo]
    simp [Sy.toD, f1, f2, wrF, g8, g7, c1, c2]
    exact cut_ok ho rfl
  | .pool w m s l, n, h, ho, ⟨h1, h2, h3, h4, h5⟩, hd => by
    have hl : 0 ≤ l ∧ l ≤ 9 := by cases w <;> simp at h5 <;> omega
    have f1 := str_fig (h := h) (i := m) (by omega) (by omega)
    have f2 := str_fig (h := h) (i := s) (by omega) (by omega)
    have f3 := str_fig (h := h) (i := l) hl.1 hl.2
    have g8 := glo8 (h := h) (Pw.lt w)
    have g7 := glo7 (h := h) (Pw.lt w)
    have g6 := glo6x (h := h) w
    have n8 : ¬ (w.n = 7 ∨ w.n = 8) := by cases w <;> simp
    have n7 : ¬ (9 ≤ w.n ∧ w.n ≤ 11) := by cases w <;> simp
    have c1 : bop .add h (.str [fig m]) (.str [100]) = .ok (.str [fig m, 100]) h := cat_str (by simp)
    have c2 : bop .add h (.str [fig m, 100]) (.str [fig s]) = .ok (.str [fig m, 100, fig s]) h := cat_str (by simp)
    have c3 : bop .add h (.str [fig m, 100, fig s]) (.str [signF w]) = .ok (.str [fig m, 100, fig s, signF w]) h := cat_str (by simp)
    have c4 : bop .add h (.str [fig m, 100, fig s, signF w]) (.str [fig l]) = .ok (.str [fig m, 100, fig s, signF w, fig l]) h := cat_str (by simp)
    show interp PU (n + 1) _ _ _ = _
    rw [interp_succ]
    simp only [runF, U, d_written, b_written, enter]
    simp only [Y.Ss.sem, sem_asg, sem_par, sem_asgT, sem_setI, sem_ex, sem_ret, sem_retN, sem_ite, sem_frzV, sem_brk, sem_pass, sem_for, Y.E.sem.eq_1, Y.E.sem.eq_2, Y.E.sem.eq_3, Y.E.sem.eq_4, Y.E.sem.eq_5, Y.E.sem.eq_6, Y.E.sem.eq_7, Y.E.sem.eq_8, Y.E.sem.eq_9, Y.E.sem.eq_10, Y.E.sem.eq_11, Y.E.sem.eq_12, Y.E.sem.eq_13, Y.E.sem.eq_14, Y.E.sem.eq_15, Y.E.sem.eq_16, Y.E.sem.eq_17, Y.E.sem.eq_18, Y.E.sem.eq_19, Y.E.sem.eq_20, Y.E.sem.eq_21, Y.E.sem.eq_22, Y.E.sem.eq_23, Y.E.sem.eq_24, Y.E.sem.eq_25, Y.E.sem.eq_26, Y.E.sem.eq_27, Y.E.sem.eq_28, Y.E.sem.eq_29, Y.E.sem.eq_30, Y.E.sem.eq_31, Y.E.sem.eq_32, Y.E.sem.eq_33, Y.E.sem.eq_34, Y.Es.sem, Y.T.sem, sem_seq, sem_rng1, sem_rng2, sem_enm, sem_zip, sem_lc, Y.Oe.sem, Y.Ts.semAnd, Y.Ts.semOr, Y.Es.semAnd, Y.Es.semOr, CfN_call, CfN_glo]
    simp [Sy.toD, f1, f2, f3, wrF, g8, g7, g6, n8, n7, c1, c2, c3, c4]
    exact cut_ok ho rfl
  | .times a b, n, h, ho, ⟨h1, h2, h3⟩, hd => by
    simp only [Sy.dep] at hd
    have hl := wrF_le (s := b) (by omega)
    have hb := (brk_len (br2 b) (wrF b)).2
    have f1 := str_fig (h := h) (i := a) h1 (by omega)
    have e0 := run_written b n h ho h3 (by omega)
    have e1 := run_brackets (n + 2 * b.dep + 1) b [.str (wd 7), .str (wd 8), .str (wd 12)] (br2 b) h ho (by omega) (by rw [in_b2 (hd_lt b), br2_hd]) e0
    have c1 : bop .add h (.str [fig a]) (.str [32, 42, 32]) = .ok (.str [fig a, 32, 42, 32]) h := cat_str (by simp)
    have c2 : bop .add h (.str [fig a, 32, 42, 32]) (.str (brk (br2 b) (wrF b))) = .ok (.str ([fig a, 32, 42, 32] ++ brk (br2 b) (wrF b))) h := cat_str (by simp; omega)
    show interp PU (n + 2 * b.dep + 1 + 1 + 1) _ _ _ = _
    rw [interp_succ]
    simp only [runF, U, d_written, b_written, enter]
    simp only [Y.Ss.sem, sem_asg, sem_par, sem_asgT, sem_setI, sem_ex, sem_ret, sem_retN, sem_ite, sem_frzV, sem_brk, sem_pass, sem_for, Y.E.sem.eq_1, Y.E.sem.eq_2, Y.E.sem.eq_3, Y.E.sem.eq_4, Y.E.sem.eq_5, Y.E.sem.eq_6, Y.E.sem.eq_7, Y.E.sem.eq_8, Y.E.sem.eq_9, Y.E.sem.eq_10, Y.E.sem.eq_11, Y.E.sem.eq_12, Y.E.sem.eq_13, Y.E.sem.eq_14, Y.E.sem.eq_15, Y.E.sem.eq_16, Y.E.sem.eq_17, Y.E.sem.eq_18, Y.E.sem.eq_19, Y.E.sem.eq_20, Y.E.sem.eq_21, Y.E.sem.eq_22, Y.E.sem.eq_23, Y.E.sem.eq_24, Y.E.sem.eq_25, Y.E.sem.eq_26, Y.E.sem.eq_27, Y.E.sem.eq_28, Y.E.sem.eq_29, Y.E.sem.eq_30, Y.E.sem.eq_31, Y.E.sem.eq_32, Y.E.sem.eq_33, Y.E.sem.eq_34, Y.Es.sem, Y.T.sem, sem_seq, sem_rng1, sem_rng2, sem_enm, sem_zip, sem_lc, Y.Oe.sem, Y.Ts.semAnd, Y.Ts.semOr, Y.Es.semAnd, Y.Es.semOr, CfN_call, CfN_glo]
    generalize interp PU (n + 2 * b.dep + 1 + 1) = I at *
    simp only [List.cons_append, List.nil_append] at c2
    simp [Sy.toD, f1, wrF, c1, e1, c2]
    exact cut_ok ho rfl
  | .two w a b, n, h, ho, ⟨h1, h2⟩, hd => by
    simp only [Sy.dep] at hd
    have la := wrF_le (s := a) (by omega)
    have lb := wrF_le (s := b) (by omega)
    have hb := (brk_len (br1 b) (wrF b)).2
    have ea := run_written a (n + 2 * max a.dep b.dep - 2 * a.dep + 1) h ho h1 (by omega)
    have eb := run_written b (n + 2 * max a.dep b.dep - 2 * b.dep + 1) h ho h2 (by omega)
    have eb0 := run_written b (n + 2 * max a.dep b.dep - 2 * b.dep) h ho h2 (by omega)
    rw [show n + 2 * max a.dep b.dep - 2 * a.dep + 1 + 2 * a.dep + 1 = n + 2 * max a.dep b.dep + 2 by omega] at ea
    rw [show n + 2 * max a.dep b.dep - 2 * b.dep + 1 + 2 * b.dep + 1 = n + 2 * max a.dep b.dep + 2 by omega] at eb
    rw [show n + 2 * max a.dep b.dep - 2 * b.dep + 2 * b.dep + 1 = n + 2 * max a.dep b.dep + 1 by omega] at eb0
    have ebr := run_brackets (n + 2 * max a.dep b.dep + 1) b [.str (wd 7), .str (wd 8)] (br1 b) h ho (by omega) (by rw [in_b1 (hd_lt b), br1_hd]) eb0
    show interp PU (n + 2 * (max a.dep b.dep + 1) + 1) _ _ _ = _
    rw [show n + 2 * (max a.dep b.dep + 1) + 1 = n + 2 * max a.dep b.dep + 2 + 1 by omega]
    rw [interp_succ]
    simp only [runF, U, d_written, b_written, enter]
    simp only [Y.Ss.sem, sem_asg, sem_par, sem_asgT, sem_setI, sem_ex, sem_ret, sem_retN, sem_ite, sem_frzV, sem_brk, sem_pass, sem_for, Y.E.sem.eq_1, Y.E.sem.eq_2, Y.E.sem.eq_3, Y.E.sem.eq_4, Y.E.sem.eq_5, Y.E.sem.eq_6, Y.E.sem.eq_7, Y.E.sem.eq_8, Y.E.sem.eq_9, Y.E.sem.eq_10, Y.E.sem.eq_11, Y.E.sem.eq_12, Y.E.sem.eq_13, Y.E.sem.eq_14, Y.E.sem.eq_15, Y.E.sem.eq_16, Y.E.sem.eq_17, Y.E.sem.eq_18, Y.E.sem.eq_19, Y.E.sem.eq_20, Y.E.sem.eq_21, Y.E.sem.eq_22, Y.E.sem.eq_23, Y.E.sem.eq_24, Y.E.sem.eq_25, Y.E.sem.eq_26, Y.E.sem.eq_27, Y.E.sem.eq_28, Y.E.sem.eq_29, Y.E.sem.eq_30, Y.E.sem.eq_31, Y.E.sem.eq_32, Y.E.sem.eq_33, Y.E.sem.eq_34, Y.Es.sem, Y.T.sem, sem_seq, sem_rng1, sem_rng2, sem_enm, sem_zip, sem_lc, Y.Oe.sem, Y.Ts.semAnd, Y.Ts.semOr, Y.Es.semAnd, Y.Es.semOr, CfN_call, CfN_glo]
    rw [show n + 2 * max a.dep b.dep + 1 + 1 = n + 2 * max a.dep b.dep + 2 by omega] at ebr
    generalize interp PU (n + 2 * max a.dep b.dep + 2) = I at *
    generalize hta : wrF a = ta at *
    generalize hbb : brk (br1 b) (wrF b) = tb at *
    generalize htb : wrF b = tb2 at *
    have k1 : ∀ x y : S, x.length ≤ 5000 → y.length ≤ 5000 → bop .add h (.str x) (.str y) = .ok (.str (x ++ y)) h := fun x y h1 h2 => cat_str (by simp; omega)
    cases w with
    | plus =>
      have g8 := glo8 (h := h) (k := 7) (by omega)
      have g7 := glo7 (h := h) (k := 7) (by omega)
      simp [Sy.toD, wrF, ea, ebr, g8, glo8x, hta, hbb, htb]
      rw [k1 _ _ (by omega) (by simp)]
      simp
      rw [ebr]
      simp
      rw [k1 _ _ (by simp; omega) (by omega)]
      simp
      exact cut_ok ho rfl
    | less =>
      have g8 := glo8 (h := h) (k := 8) (by omega)
      have g7 := glo7 (h := h) (k := 8) (by omega)
      simp [Sy.toD, wrF, ea, ebr, g8, glo8x, hta, hbb, htb]
      rw [k1 _ _ (by omega) (by simp)]
      simp
      rw [ebr]
      simp
      rw [k1 _ _ (by simp; omega) (by omega)]
      simp
      exact cut_ok ho rfl
    | most =>
      have g8 := glo8 (h := h) (k := 9) (by omega)
      have g7 := glo7 (h := h) (k := 9) (by omega)
      simp [Sy.toD, wrF, ea, eb, g8, g7, glo7x, hta, htb]
      rw [k1 _ _ (by simp) (by simp)]
      simp
      rw [ea]
      simp
      rw [k1 _ _ (by simp) (by omega)]
      simp
      rw [k1 _ _ (by simp; omega) (by simp)]
      simp
      rw [eb]
      simp
      rw [k1 _ _ (by simp; omega) (by omega)]
      simp
      rw [k1 _ _ (by simp; omega) (by simp)]
      simp
      exact cut_ok ho rfl
    | least =>
      have g8 := glo8 (h := h) (k := 10) (by omega)
      have g7 := glo7 (h := h) (k := 10) (by omega)
      simp [Sy.toD, wrF, ea, eb, g8, g7, glo7x, hta, htb]
      rw [k1 _ _ (by simp) (by simp)]
      simp
      rw [ea]
      simp
      rw [k1 _ _ (by simp) (by omega)]
      simp
      rw [k1 _ _ (by simp; omega) (by simp)]
      simp
      rw [eb]
      simp
      rw [k1 _ _ (by simp; omega) (by omega)]
      simp
      rw [k1 _ _ (by simp; omega) (by simp)]
      simp
      exact cut_ok ho rfl
    | beats =>
      have g8 := glo8 (h := h) (k := 11) (by omega)
      have g7 := glo7 (h := h) (k := 11) (by omega)
      have e11 : wd 11 = [98, 101, 97, 116, 115] := rfl
      simp [Sy.toD, wrF, ea, eb, g8, g7, glo7x, hta, htb]
      rw [k1 _ _ (by simp [e11]) (by simp)]
      simp
      rw [ea]
      simp
      rw [k1 _ _ (by simp [e11]) (by omega)]
      simp
      rw [k1 _ _ (by simp [e11]; omega) (by simp)]
      simp
      rw [eb]
      simp
      rw [k1 _ _ (by simp [e11]; omega) (by omega)]
      simp
      rw [k1 _ _ (by simp [e11]; omega) (by simp)]
      simp
      exact cut_ok ho rfl
end Y

set_option linter.all false
set_option maxRecDepth 100000
set_option maxHeartbeats 4000000
namespace Y
/-! ### the same distribution -/
def esum (f : Int → Int) (A : List Int) : Int := (A.map f).sum
def Eqd (A B : List Int) : Prop := ∀ f : Int → Int, esum f A * B.length = esum f B * A.length
theorem Eqd.refl (A : List Int) : Eqd A A := fun f => rfl
theorem esum_perm {A B : List Int} (h : A.Perm B) (f : Int → Int) : esum f A = esum f B := perm_sum (h.map f)
theorem Eqd.perm {A B : List Int} (h : A.Perm B) : Eqd A B := fun f => by rw [esum_perm h f, h.length_eq]
theorem Eqd.symm {A B : List Int} (h : Eqd A B) : Eqd B A := fun f => (h f).symm
theorem Eqd.trans {A B C : List Int} (hB : 0 < B.length) (h1 : Eqd A B) (h2 : Eqd B C) : Eqd A C := fun f => by
  have e1 := h1 f
  have e2 := h2 f
  have hb : (B.length : Int) ≠ 0 := by omega
  refine Int.eq_of_mul_eq_mul_right hb ?_
  grind
theorem esum_comb (f : Int → Int) (w : Tw) (A B : List Int) : esum f (comb w A B) = esum (fun x => esum (fun y => f (two w x y)) B) A := by
  rw [esum_perm (comb_perm w A B)]
  unfold prodL esum
  rw [List.map_flatMap]
  have : (A.flatMap fun x => (B.map fun y => two w x y).map f) = A.flatMap fun x => B.map fun y => f (two w x y) := by
    congr 1
    funext x
    rw [List.map_map]
    rfl
  rw [this]
  exact prod_sum _ B A
theorem esum_mul (c : Int) (f : Int → Int) : ∀ A : List Int, esum (fun x => f x * c) A = esum f A * c
  | [] => by simp [esum]
  | x :: A => by
    have := esum_mul c f A
    unfold esum at this ⊢
    rw [List.map_cons, List.sum_cons, this, List.map_cons, List.sum_cons, Int.add_mul]
theorem Eqd.comb {w : Tw} {A B C D : List Int} (h1 : Eqd A C) (h2 : Eqd B D) : Eqd (comb w A B) (Y.comb w C D) := fun f => by
  rw [esum_comb, esum_comb, comb_len, comb_len, Int.natCast_mul, Int.natCast_mul]
  have e2 : ∀ x, esum (fun y => f (two w x y)) B * D.length = esum (fun y => f (two w x y)) D * B.length := fun x => h2 _
  have e1 := h1 (fun x => esum (fun y => f (two w x y)) D)
  have e3 : esum (fun x => esum (fun y => f (two w x y)) B) A * (D.length : Int) = esum (fun x => esum (fun y => f (two w x y)) D) A * (B.length : Int) := by
    rw [← esum_mul, ← esum_mul]
    congr 1
    funext x
    exact e2 x
  grind
theorem esum_tim (f : Int → Int) (n : Int) (A : List Int) : esum f (timL n A) = esum (fun x => f (x * n)) A := by
  rw [esum_perm (timL_perm n A)]
  unfold esum
  rw [List.map_map]
  rfl
theorem Eqd.tim {n : Int} {A B : List Int} (h : Eqd A B) : Eqd (timL n A) (timL n B) := fun f => by
  rw [esum_tim, esum_tim, timL_len, timL_len]
  exact h _
theorem esum_one (f : Int → Int) (x : Int) : esum f [x] = f x := by simp [esum]
theorem esum_const (c : Int) (A : List Int) : esum (fun _ => c) A = A.length * c := sum_map_const c A
/-- an indicator -/
theorem esum_count (x : Int) : ∀ A : List Int, esum (fun y => if y = x then 1 else 0) A = (A.count x : Nat)
  | [] => rfl
  | a :: A => by
    have := esum_count x A
    unfold esum at this ⊢
    rw [List.map_cons, List.sum_cons, this, List.count_cons]
    by_cases e : a = x
    · subst e; simp; omega
    · simp [e]
theorem Eqd.count {A B : List Int} (h : Eqd A B) (x : Int) : A.count x * B.length = B.count x * A.length := by
  have := h (fun y => if y = x then 1 else 0)
  rw [esum_count, esum_count, ← Int.natCast_mul, ← Int.natCast_mul] at this
  omega
theorem pairwise_ext : ∀ {l m : List Int}, l.Pairwise (· < ·) → m.Pairwise (· < ·) → (∀ x, x ∈ l ↔ x ∈ m) → l = m
  | [], [], _, _, _ => rfl
  | [], b :: m, _, _, h => absurd ((h b).mpr (by simp)) (by simp)
  | a :: l, [], _, _, h => absurd ((h a).mp (by simp)) (by simp)
  | a :: l, b :: m, hl, hm, h => by
    rw [List.pairwise_cons] at hl hm
    have e : a = b := by
      have h1 := (h a).mp (by simp)
      have h2 := (h b).mpr (by simp)
      rcases List.mem_cons.mp h1 with e | h1
      · exact e
      · rcases List.mem_cons.mp h2 with e | h2
        · exact e.symm
        · have := hl.1 b h2
          have := hm.1 a h1
          omega
    subst e
    rw [pairwise_ext hl.2 hm.2 fun x => ?_]
    have := h x
    simp only [List.mem_cons] at this
    constructor
    · intro hx
      have h1 := hl.1 x hx
      rcases this.mp (.inr hx) with e | h2
      · omega
      · exact h2
    · intro hx
      have h1 := hm.1 x hx
      rcases this.mpr (.inr hx) with e | h2
      · omega
      · exact h2
theorem Eqd.sha {A B : List Int} (hA : 0 < A.length) (hB : 0 < B.length) (h : Eqd A B) : shaD A = shaD B := by
  have hc := h.count
  have hm : ∀ x, x ∈ A ↔ x ∈ B := fun x => by
    rw [← List.count_pos_iff, ← List.count_pos_iff]
    have := hc x
    constructor
    · intro h1
      have h2 : 0 < A.count x * B.length := Nat.mul_pos h1 hB
      rw [this] at h2
      exact Nat.pos_of_mul_pos_right h2
    · intro h1
      have h2 : 0 < B.count x * A.length := Nat.mul_pos h1 hA
      rw [← this] at h2
      exact Nat.pos_of_mul_pos_right h2
  have hw : wor A = wor B := pairwise_ext (wor_sorted A) (wor_sorted B) fun x => by rw [wor_mem, wor_mem]; exact hm x
  unfold shaD
  rw [hw]
  congr 1
  refine List.map_congr_left fun x _ => ?_
  unfold rowD
  have : fr (A.count x : Nat) A.length = fr (B.count x : Nat) B.length := fr_cross (by omega) (by omega) (by
    rw [← Int.natCast_mul, ← Int.natCast_mul, hc x])
  rw [this]
/-! ### all kept -/
def prB (A B : List Int) : Bool := (firsts A).all (fun x => decide (A.count x * B.length = B.count x * A.length)) && (firsts B).all fun x => decide (x ∈ firsts A)
theorem prB_eqd {A B : List Int} (h : prB A B = true) : Eqd A B := fun f => by
  unfold prB at h
  rw [Bool.and_eq_true, List.all_eq_true, List.all_eq_true] at h
  obtain ⟨h1, h2⟩ := h
  have e1 := sumK_all f (firsts_nodup A) (fun x => firsts_mem (A := A))
  have e2 : sumK f B (firsts A) = (B.map f).sum := by
    have e3 := sumK_all f (A := B) (firsts_nodup B) (fun x => firsts_mem)
    rw [← e3]
    -- the worths of A beyond those of B have no ways in B
    have e4 : ∀ K : List Int, K.Nodup → (∀ x ∈ B, x ∈ K) → sumK f B K = (B.map f).sum := by
      intro K hn hK
      rw [← sumK_all f (A := B) (K := K.filter fun x => decide (x ∈ B)) (hn.filter _) (fun x => by
        rw [List.mem_filter]
        constructor
        · intro h; simpa using h.2
        · intro h; exact ⟨hK x h, by simpa using h⟩)]
      clear hn hK
      unfold sumK
      induction K with
      | nil => rfl
      | cons k K ih =>
        rw [List.map_cons, List.sum_cons, ih, List.filter_cons]
        by_cases c : k ∈ B
        · simp [c]
        · simp [c, List.count_eq_zero_of_not_mem c]
    rw [e4 (firsts A) (firsts_nodup A) (fun x hx => by simpa using h2 x (firsts_mem.mpr hx))]
    exact e3.symm
  unfold esum
  rw [← e1, ← e2]
  unfold sumK
  have key : ∀ K : List Int, (∀ x ∈ K, A.count x * B.length = B.count x * A.length) → (K.map fun x => f x * (A.count x : Nat)).sum * (B.length : Int) = (K.map fun x => f x * (B.count x : Nat)).sum * (A.length : Int) := by
    intro K hK
    induction K with
    | nil => simp
    | cons k K ih =>
      have i1 := ih fun x hx => hK x (by simp [hx])
      have i2 := hK k (by simp)
      have i3 : ((A.count k : Nat) : Int) * (B.length : Int) = ((B.count k : Nat) : Int) * (A.length : Int) := by rw [← Int.natCast_mul, ← Int.natCast_mul, i2]
      simp only [List.map_cons, List.sum_cons, Int.add_mul]
      rw [i1, Int.mul_assoc, i3, Int.mul_assoc]
  exact key (firsts A) fun x hx => by simpa using h1 x hx
def facL (s : Nat) : List Int := (List.range s).map facI
def alkChk : Bool := ((List.range 7).all fun s => prB (ldO 1 s 0) (facL s)) && [true, false].all fun hi => (List.range 4).all fun m => (List.range 7).all fun s => prB (lkO hi m s m) (dieN (facL s) m)
theorem alkChk_ok : alkChk = true := by decide +kernel
theorem Eqd.dieN {X Z : List Int} (h : Eqd X Z) : ∀ t, Eqd (dieN X t) (Y.dieN Z t)
  | 0 => Eqd.refl _
  | t + 1 => Eqd.comb (Eqd.dieN h t) h
theorem all_kept (hi : Bool) {m s : Nat} (hm : m ≤ 3) (hs1 : 1 ≤ s) (hs : s ≤ 6) : Eqd (lkO hi m s m) (dieN (ldO 1 s 0) m) := by
  have h := alkChk_ok
  unfold alkChk at h
  rw [Bool.and_eq_true, List.all_eq_true, List.all_eq_true] at h
  obtain ⟨h1, h2⟩ := h
  have h1 := prB_eqd (h1 s (by rw [List.mem_range]; omega))
  have h2 := h2 hi (by cases hi <;> simp)
  rw [List.all_eq_true] at h2
  have h2 := h2 m (by rw [List.mem_range]; omega)
  rw [List.all_eq_true] at h2
  have h2 := prB_eqd (h2 s (by rw [List.mem_range]; omega))
  refine h2.trans ?_ (h1.symm.dieN m)
  rw [dieN_len]
  exact Nat.pow_pos (by unfold facL; simp; omega)
/-! ### simpler -/
theorem wg_ofNumbers {s : Sy} (h : Wg s) : Wg (ofNumbers s) := by
  unfold ofNumbers
  split
  · split
    · rename_i c; exact c
    · exact h
  · split
    · rename_i c; exact c
    · exact h
  · exact h
theorem wg_ofNothing {s : Sy} (h : Wg s) : Wg (ofNothing s) := by
  cases s with
  | two w a b =>
    simp only [ofNothing]
    split
    · exact h.2
    · split
      · exact h.1
      · exact h
  | times n a =>
    simp only [ofNothing]
    split
    · exact h.2.2
    · split
      · exact ⟨Int.le_refl _, by omega⟩
      · exact h
  | _ => exact h
theorem wg_simpF : ∀ {s : Sy}, Wg s → Wg (simpF s)
  | .num n, h => h
  | .dice _ _, h => h
  | .pool w m s l, h => by
    unfold simpF
    split
    · obtain ⟨h1, h2, h3, h4, _⟩ := h
      exact ⟨h1, h2, h3, h4⟩
    · exact h
  | .times n a, h => wg_ofNothing (wg_ofNumbers ⟨h.1, h.2.1, wg_simpF h.2.2⟩)
  | .two w a b, h => wg_ofNothing (wg_ofNumbers ⟨wg_simpF h.1, wg_simpF h.2⟩)
theorem eqd_ofNumbers (s : Sy) : Eqd (outs (ofNumbers s)) (outs s) := by
  unfold ofNumbers
  split
  · rename_i w a b
    split
    · intro f
      rw [show outs (.two w (.num a) (.num b)) = comb w [a] [b] from rfl, esum_comb, comb_len]
      simp [outs, esum]
    · exact .refl _
  · rename_i n a
    split
    · intro f
      rw [show outs (.times n (.num a)) = timL n [a] from rfl, esum_tim, timL_len]
      simp [outs, esum, Int.mul_comm]
    · exact .refl _
  · exact .refl _
theorem eqd_ofNothing (s : Sy) : Eqd (outs (ofNothing s)) (outs s) := by
  cases s with
  | two w a b =>
    simp only [ofNothing]
    split
    · rename_i c
      obtain ⟨rfl, rfl⟩ := c
      intro f
      rw [show outs (.two .plus (.num 0) b) = comb .plus [0] (outs b) from rfl, esum_comb, comb_len]
      simp [esum, two]
    · split
      · rename_i c
        obtain ⟨c1, rfl⟩ := c
        intro f
        rw [show outs (.two w a (.num 0)) = comb w (outs a) [0] from rfl, esum_comb, comb_len]
        rcases c1 with rfl | rfl <;> simp [esum, two]
      · exact .refl _
  | times n a =>
    simp only [ofNothing]
    split
    · rename_i c
      subst c
      intro f
      rw [show outs (.times 1 a) = timL 1 (outs a) from rfl, esum_tim, timL_len]
      simp [esum]
    · split
      · rename_i c
        subst c
        intro f
        rw [show outs (.times 0 a) = timL 0 (outs a) from rfl, esum_tim, timL_len]
        have : esum (fun x => f (x * 0)) (outs a) = (outs a).length * f 0 := by
          have e : (fun x : Int => f (x * 0)) = fun _ => f 0 := by funext x; simp
          rw [e, esum_const]
        rw [this]
        simp [outs, esum, Int.mul_comm]
      · exact .refl _
  | _ => exact .refl _
theorem eqd_simpF : ∀ {s : Sy}, Wg s → Eqd (outs (simpF s)) (outs s)
  | .num n, _ => .refl _
  | .dice _ _, _ => .refl _
  | .pool w m s l, h => by
    unfold simpF
    split
    · rename_i c
      obtain ⟨c1, rfl⟩ := c
      obtain ⟨h1, h2, h3, h4, h5⟩ := h
      have e := fun hi => (all_kept hi (m := m.toNat) (s := s.toNat) (by omega) (by omega) (by omega)).symm
      rcases c1 with rfl | rfl
      · exact e true
      · exact e false
    · exact .refl _
  | .times n a, h => by
    have ha := wg_simpF h.2.2
    have h1 : Wg (.times n (simpF a)) := ⟨h.1, h.2.1, ha⟩
    refine (eqd_ofNothing _).trans (outs_len (wg_ofNumbers h1)).1 ?_
    refine (eqd_ofNumbers _).trans (outs_len h1).1 ?_
    exact (eqd_simpF h.2.2).tim
  | .two w a b, h => by
    have h1 : Wg (.two w (simpF a) (simpF b)) := ⟨wg_simpF h.1, wg_simpF h.2⟩
    refine (eqd_ofNothing _).trans (outs_len (wg_ofNumbers h1)).1 ?_
    refine (eqd_ofNumbers _).trans (outs_len h1).1 ?_
    exact (eqd_simpF h.1).comb (eqd_simpF h.2)
/-! ### no more dice -/
theorem lm_ofNumbers {s : Sy} (h : Wg s) : lmF (ofNumbers s) ≤ lmF s := by
  unfold ofNumbers
  split
  · split
    · simp [lmF]
    · exact Int.le_refl _
  · split
    · simp [lmF]
    · exact Int.le_refl _
  · exact Int.le_refl _
theorem lm_ofNothing {s : Sy} (h : Wg s) : lmF (ofNothing s) ≤ lmF s := by
  cases s with
  | two w a b =>
    have h1 := wf_lm h.1
    have h2 := wf_lm h.2
    simp only [ofNothing]
    split
    · simp only [lmF]; omega
    · split
      · simp only [lmF]; omega
      · exact Int.le_refl _
  | times n a =>
    have h1 := wf_lm h.2.2
    simp only [ofNothing]
    split
    · exact Int.le_refl _
    · split
      · simp only [lmF]; omega
      · exact Int.le_refl _
  | _ => exact Int.le_refl _
theorem lm_simpF : ∀ {s : Sy}, Wg s → lmF (simpF s) ≤ lmF s
  | .num n, _ => Int.le_refl _
  | .dice _ _, _ => Int.le_refl _
  | .pool w m s l, h => by
    unfold simpF
    split <;> exact Int.le_refl _
  | .times n a, h => by
    have h1 : Wg (.times n (simpF a)) := ⟨h.1, h.2.1, wg_simpF h.2.2⟩
    have i1 := lm_ofNothing (wg_ofNumbers h1)
    have i2 := lm_ofNumbers h1
    have i3 := lm_simpF h.2.2
    simp only [simpF, lmF] at *
    omega
  | .two w a b, h => by
    have h1 : Wg (.two w (simpF a) (simpF b)) := ⟨wg_simpF h.1, wg_simpF h.2⟩
    have i1 := lm_ofNothing (wg_ofNumbers h1)
    have i2 := lm_ofNumbers h1
    have i3 := lm_simpF h.1
    have i4 := lm_simpF h.2
    simp only [simpF, lmF] at *
    omega
/-! ### made simpler once -/
/-- as simple as it can be -/
def Nf : Sy → Prop
  | .num _ => True
  | .dice _ _ => True
  | .pool w m _ l => ¬ ((w = .high ∨ w = .low) ∧ m = l)
  | .times n a => Nf a ∧ ofNothing (ofNumbers (.times n a)) = .times n a
  | .two w a b => Nf a ∧ Nf b ∧ ofNothing (ofNumbers (.two w a b)) = .two w a b
theorem nf_same : ∀ {s : Sy}, Nf s → simpF s = s
  | .num n, _ => rfl
  | .dice _ _, _ => rfl
  | .pool w m s l, h => by unfold simpF; rw [if_neg h]
  | .times n a, h => by rw [simpF, nf_same h.1, h.2]
  | .two w a b, h => by rw [simpF, nf_same h.1, nf_same h.2.1, h.2.2]
theorem nf_step {s : Sy} (ht : (∃ n a, s = .times n a ∧ Nf a) ∨ ∃ w a b, s = .two w a b ∧ Nf a ∧ Nf b) : Nf (ofNothing (ofNumbers s)) := by
  rcases ht with ⟨n, a, rfl, ha⟩ | ⟨w, a, b, rfl, ha, hb⟩
  · by_cases c : ∃ m, a = .num m ∧ 0 ≤ n * m ∧ n * m ≤ 9
    · obtain ⟨m, rfl, c1⟩ := c
      simp [ofNumbers, c1, ofNothing, Nf]
    · have e : ofNumbers (.times n a) = .times n a := by
        cases a with
        | num m =>
          simp only [ofNumbers]
          rw [if_neg fun z => c ⟨m, rfl, z⟩]
        | _ => rfl
      by_cases c1 : n = 1
      · rw [e]; simp [ofNothing, c1]; exact ha
      · by_cases c0 : n = 0
        · rw [e]; simp [ofNothing, c0, Nf]
        · have e2 : ofNothing (.times n a) = .times n a := by simp [ofNothing, c0, c1]
          rw [e, e2]
          exact ⟨ha, by rw [e, e2]⟩
  · by_cases c : ∃ x y, a = .num x ∧ b = .num y ∧ 0 ≤ two w x y ∧ two w x y ≤ 9
    · obtain ⟨x, y, rfl, rfl, c1⟩ := c
      simp [ofNumbers, c1, ofNothing, Nf]
    · have e : ofNumbers (.two w a b) = .two w a b := by
        cases a with
        | num x =>
          cases b with
          | num y =>
            simp only [ofNumbers]
            rw [if_neg fun z => c ⟨x, y, rfl, rfl, z⟩]
          | _ => rfl
        | _ => rfl
      by_cases c1 : w = .plus ∧ a = .num 0
      · rw [e]; simp only [ofNothing]; rw [if_pos c1]; exact hb
      · by_cases c2 : (w = .plus ∨ w = .less) ∧ b = .num 0
        · rw [e]; simp only [ofNothing]; rw [if_neg c1, if_pos c2]; exact ha
        · have e2 : ofNothing (.two w a b) = .two w a b := by simp only [ofNothing]; rw [if_neg c1, if_neg c2]
          rw [e, e2]
          exact ⟨ha, hb, by rw [e, e2]⟩
theorem nf_simpF : ∀ s : Sy, Nf (simpF s)
  | .num n => trivial
  | .dice _ _ => trivial
  | .pool w m s l => by
    unfold simpF
    split
    · trivial
    · assumption
  | .times n a => nf_step (.inl ⟨n, _, rfl, nf_simpF a⟩)
  | .two w a b => nf_step (.inr ⟨w, _, _, rfl, nf_simpF a, nf_simpF b⟩)
theorem simp_idem (s : Sy) : simpF (simpF s) = simpF s := nf_same (nf_simpF s)
/-! ### a text no longer -/
def lw (s : Sy) : Nat := (wrF s).length
def l1 (s : Sy) : Nat := lw s + if br1 s = true then 2 else 0
def l2 (s : Sy) : Nat := lw s + if br2 s = true then 2 else 0
theorem brk_l (b : Bool) (t : S) : (brk b t).length = t.length + if b = true then 2 else 0 := by
  unfold brk
  split <;> simp
theorem lw_times (n : Int) (a : Sy) : lw (.times n a) = 4 + l2 a := by
  unfold l2 lw
  simp [wrF, brk_l]
  omega
theorem lw_two (w : Tw) (a b : Sy) : lw (.two w a b) = match w with
    | .plus => lw a + 3 + l1 b
    | .less => lw a + 3 + l1 b
    | .most => lw a + 7 + lw b
    | .least => lw a + 7 + lw b
    | .beats => lw a + 9 + lw b := by
  unfold l1 lw
  have e11 : wd 11 = [98, 101, 97, 116, 115] := rfl
  cases w <;> simp [wrF, brk_l, e11] <;> omega
theorem lw_pos : ∀ s : Sy, 1 ≤ lw s
  | .num _ => by simp [lw, wrF]
  | .dice _ _ => by simp [lw, wrF]
  | .pool _ _ _ _ => by simp [lw, wrF]
  | .times n a => by rw [lw_times]; omega
  | .two w a b => by
    rw [lw_two]
    cases w <;> simp <;> omega
theorem l1_le (s : Sy) : lw s ≤ l1 s ∧ l1 s ≤ l2 s ∧ l2 s ≤ lw s + 2 := by
  unfold l1 l2
  refine ⟨by omega, ?_, by split <;> omega⟩
  cases s with
  | two w a b => cases w <;> simp [br1, br2]
  | times n a => simp [br1, br2]
  | _ => simp [br1, br2]
/-- all three lengths are no greater -/
def Lle (s t : Sy) : Prop := lw s ≤ lw t ∧ l1 s ≤ l1 t ∧ l2 s ≤ l2 t
theorem Lle.refl (s : Sy) : Lle s s := ⟨Nat.le_refl _, Nat.le_refl _, Nat.le_refl _⟩
theorem Lle.trans {s t u : Sy} (h1 : Lle s t) (h2 : Lle t u) : Lle s u := ⟨Nat.le_trans h1.1 h2.1, Nat.le_trans h1.2.1 h2.2.1, Nat.le_trans h1.2.2 h2.2.2⟩
theorem lle_of {s t : Sy} (h : lw s + 2 ≤ lw t) : Lle s t := by
  have h1 := l1_le s
  have h2 := l1_le t
  exact ⟨by omega, by omega, by omega⟩
theorem lle_num {n : Int} (t : Sy) : Lle (.num n) t := by
  have h1 := l1_le t
  have h2 := lw_pos t
  have e1 : lw (.num n) = 1 := by simp [lw, wrF]
  have e2 : l1 (.num n) = 1 := by simp [l1, e1, br1]
  have e3 : l2 (.num n) = 1 := by simp [l2, e1, br2]
  exact ⟨by omega, by omega, by omega⟩
theorem lle_ofNumbers (s : Sy) : Lle (ofNumbers s) s := by
  unfold ofNumbers
  split
  · split
    · exact lle_num _
    · exact .refl _
  · split
    · exact lle_num _
    · exact .refl _
  · exact .refl _
theorem lle_ofNothing (s : Sy) : Lle (ofNothing s) s := by
  cases s with
  | two w a b =>
    have ha := lw_pos a
    have hb := lw_pos b
    have ha1 := l1_le a
    have hb1 := l1_le b
    simp only [ofNothing]
    split
    · rename_i c
      obtain ⟨rfl, rfl⟩ := c
      refine lle_of ?_
      rw [lw_two]
      simp; omega
    · split
      · rename_i c
        obtain ⟨c1, rfl⟩ := c
        refine lle_of ?_
        rw [lw_two]
        rcases c1 with rfl | rfl <;> simp <;> omega
      · exact .refl _
  | times n a =>
    have ha := lw_pos a
    have ha1 := l1_le a
    simp only [ofNothing]
    split
    · refine lle_of ?_
      rw [lw_times]
      omega
    · split
      · exact lle_num _
      · exact .refl _
  | _ => exact .refl _
theorem lle_simpF : ∀ s : Sy, Lle (simpF s) s
  | .num n => .refl _
  | .dice _ _ => .refl _
  | .pool w m s l => by
    unfold simpF
    split
    · refine lle_of ?_
      simp [lw, wrF]
    · exact .refl _
  | .times n a => by
    have h := lle_simpF a
    refine (lle_ofNothing _).trans ((lle_ofNumbers _).trans ?_)
    have e : lw (.times n (simpF a)) ≤ lw (.times n a) := by
      rw [lw_times, lw_times]
      have := h.2.2
      omega
    refine ⟨e, ?_, ?_⟩
    · exact Nat.add_le_add_right e _
    · exact Nat.add_le_add_right e _
  | .two w a b => by
    have ha := lle_simpF a
    have hb := lle_simpF b
    refine (lle_ofNothing _).trans ((lle_ofNumbers _).trans ?_)
    have e : lw (.two w (simpF a) (simpF b)) ≤ lw (.two w a b) := by
      rw [lw_two, lw_two]
      have h1 := ha.1
      have h2 := hb.1
      have h3 := hb.2.1
      cases w <;> simp <;> omega
    refine ⟨e, ?_, ?_⟩
    · cases w <;> exact Nat.add_le_add_right e _
    · cases w <;> exact Nat.add_le_add_right e _
end Y

set_option linter.all false
set_option maxRecDepth 100000
set_option maxHeartbeats 4000000
namespace Y
theorem ldice_kd (c m : Int) : (∃ k s, ldiceF c m = .dice k s) ∨ ∃ w k s l, ldiceF c m = .pool w k s l := by
  unfold ldiceF
  dsimp only
  split
  · exact .inl ⟨_, _, rfl⟩
  · right
    repeat' split
    all_goals exact ⟨_, _, _, _, rfl⟩
theorem dep_lsay : ∀ (d : Nat) (c m : Int), (lsayF (d + 1) c m).dep ≤ d
  | 0, c, m => by
    rw [lsayF]
    split
    · exact Nat.le_refl _
    · rw [if_pos (.inr rfl)]
      rcases ldice_kd (c + 1) m with ⟨_, _, e⟩ | ⟨_, _, _, _, e⟩ <;> rw [e] <;> exact Nat.le_refl _
  | d + 1, c, m => by
    rw [lsayF]
    split
    · exact Nat.zero_le _
    · split
      · rcases ldice_kd (c + 1) m with ⟨_, _, e⟩ | ⟨_, _, _, _, e⟩ <;> rw [e] <;> exact Nat.zero_le _
      · have h1 := dep_lsay d (c + 2) m
        have h2 := dep_lsay d (c + 3) m
        have h3 := dep_lsay d (c + 5) (m - lmF (lsayF (d + 1) (c + 3) m))
        split
        · simp only [Sy.dep]; omega
        · split <;> simp only [Sy.dep] <;> omega
theorem dep_lodd (c : Int) : (loddF c).dep ≤ 2 := by
  have h := dep_lsay 1 c 3
  have k : (oddS c (lsayF 2 c 3)).dep ≤ 1 := by
    generalize lsayF 2 c 3 = s at *
    cases s with
    | two w x y =>
      simp only [oddS]
      simp only [Sy.dep] at h
      split <;> simp only [Sy.dep] <;> omega
    | _ => exact h
  unfold loddF
  generalize oddS c (lsayF 2 c 3) = s at *
  unfold oddW
  split
  · simp only [Sy.dep]; omega
  split
  · simp only [Sy.dep]; omega
  split
  · simp only [Sy.dep]; omega
  · omega
theorem lm_lodd (c : Int) : lmF (loddF c) ≤ 6 := by
  obtain ⟨hw, h, _⟩ := wf_lsay 2 c 3 (by omega)
  have k : lmF (oddS c (lsayF 2 c 3)) ≤ 3 := by
    generalize lsayF 2 c 3 = s at *
    cases s with
    | two w x y =>
      have h1 := wf_lm hw.1
      have h2 := wf_lm hw.2
      simp only [oddS]
      simp only [lmF] at h
      split <;> simp only [lmF] <;> omega
    | _ => exact h
  unfold loddF
  generalize oddS c (lsayF 2 c 3) = s at *
  unfold oddW
  split
  · simp only [lmF]; omega
  split
  · simp only [lmF]; omega
  split
  · simp only [lmF]; omega
  · omega
def pick15 (k c : Int) : Sy := if k % 2 = 0 then loddF c else lsayF 3 c 6
theorem ok_pick (k c : Int) : Wg (pick15 k c) ∧ (pick15 k c).dep ≤ 2 ∧ lmF (pick15 k c) ≤ 6 := by
  unfold pick15
  split
  · exact ⟨(wf_odd c).1, dep_lodd c, lm_lodd c⟩
  · obtain ⟨a, b, _⟩ := wf_lsay 3 c 6 (by omega)
    exact ⟨a, dep_lsay 2 c 6, b⟩
def P15 (ns : List Int) (ρ : Env) : Prop := ∃ a b c d, ρ = [some (.scr ns), a, b, c, d]
def b15O : Ss := (b_law15.nth 0).body
@[simp] theorem len_str {h : Hs} {s : S} (hl : s.length ≤ SZ) : blt .len h [.str s] = .ok (.int s.length) h := by
  show one h ((lenOf h (.str s)).map _) = _
  simp only [lenOf, if_pos hl]
  rfl
theorem m15_body (ns : List Int) (i : Nat) (ρ : Env) (hρ : P15 ns ρ) : ∃ ρ', forF (CfN 99) (.n 1) b15O (.int (i : Nat)) ρ [] = .nx ρ' [] ∧ P15 ns ρ' := by
  obtain ⟨a, b, c, d, rfl⟩ := hρ
  have h9 : 0 ≤ (i : Int) % 9 := Int.emod_nonneg _ (by omega)
  have ec := cell99 (ns := ns) (k := (i : Int) % 9) okh0 h9
  have b9 : bop .mod [] (.int (i : Nat)) (.int 9) = .ok (.int ((i : Int) % 9)) [] := bop_mod (by omega)
  have b2 : bop .mod [] (.int (i : Nat)) (.int 2) = .ok (.int ((i : Int) % 2)) [] := bop_mod (by omega)
  have b31 : bop .mul [] (.int 31) (.int (i : Nat)) = .ok (.int (31 * (i : Nat))) [] := bop_mul (.inl (by decide))
  have eo : interp PU 99 f_l_odd_b [.int (cellF ns ((i : Int) % 9) + 31 * i)] [] = .ok (loddF (cellF ns ((i : Int) % 9) + 31 * i)).toD [] := run_l_odd_b 91 _ [] okh0
  have es := say99 (c := cellF ns ((i : Int) % 9) + 31 * i) (m := 6) okh0 (by omega)
  obtain ⟨hw, hd, hl⟩ := ok_pick i (cellF ns ((i : Int) % 9) + 31 * i)
  have hp : pick15 i (cellF ns ((i : Int) % 9) + 31 * i) = if (i : Int) % 2 = 0 then loddF (cellF ns ((i : Int) % 9) + 31 * i) else lsayF 3 (cellF ns ((i : Int) % 9) + 31 * i) 6 := rfl
  generalize hC : cellF ns ((i : Int) % 9) + 31 * (i : Int) = C at *
  generalize pick15 i C = s at *
  have wt := wg_simpF hw
  have dt := dep_simpF s
  have lt := lm_simpF hw
  have e1 : interp PU 99 f_simple [s.toD] [] = .ok (simpF s).toD [] := by
    have := run_simple s (96 - s.dep) [] okh0 (by omega) (wf_tm hw)
    rwa [show 96 - s.dep + s.dep + 3 = 99 by omega] at this
  have e2 : interp PU 99 f_simple [(simpF s).toD] [] = .ok (simpF s).toD [] := by
    have := run_simple (simpF s) (96 - (simpF s).dep) [] okh0 (by omega) (wf_tm wt)
    rw [simp_idem] at this
    rwa [show 96 - (simpF s).dep + (simpF s).dep + 3 = 99 by omega] at this
  have e3 : interp PU 99 f_is_simple [(simpF s).toD] [] = .ok (.bl true) [] := by
    have := run_is_simple (95 - (simpF s).dep) (simpF s) [] okh0 (by omega) (wf_tm wt)
    rw [simp_idem] at this
    simp only [decide_true] at this
    rwa [show 95 - (simpF s).dep + (simpF s).dep + 4 = 99 by omega] at this
  have e4 : interp PU 99 f_is_saying [(simpF s).toD] [] = .ok (.bl true) [] := run_is_saying (simpF s) 91 [] okh0 wt (by omega) (by omega)
  have e5 := shares99 okh0 hw (by omega) (by omega)
  have e6 := shares99 okh0 wt (by omega) (by omega)
  rw [Eqd.sha (outs_len wt).1 (outs_len hw).1 (eqd_simpF hw)] at e6
  have e7 : interp PU 99 f_dice_in [s.toD] [] = .ok (.int (lmF s)) [] := by
    have := run_dice_in s (98 - s.dep) [] okh0
    rwa [show 98 - s.dep + s.dep + 1 = 99 by omega] at this
  have e8 : interp PU 99 f_dice_in [(simpF s).toD] [] = .ok (.int (lmF (simpF s))) [] := by
    have := run_dice_in (simpF s) (98 - (simpF s).dep) [] okh0
    rwa [show 98 - (simpF s).dep + (simpF s).dep + 1 = 99 by omega] at this
  have e9 : interp PU 99 f_written [s.toD] [] = .ok (.str (wrF s)) [] := by
    have := run_written s (98 - 2 * s.dep) [] okh0 hw (by omega)
    rwa [show 98 - 2 * s.dep + 2 * s.dep + 1 = 99 by omega] at this
  have e10 : interp PU 99 f_written [(simpF s).toD] [] = .ok (.str (wrF (simpF s))) [] := by
    have := run_written (simpF s) (98 - 2 * (simpF s).dep) [] okh0 wt (by omega)
    rwa [show 98 - 2 * (simpF s).dep + 2 * (simpF s).dep + 1 = 99 by omega] at this
  have n1 := len_str (h := []) (s := wrF s) (by have := wrF_le (s := s) (by omega); simp only [SZ_eq]; omega)
  have n2 := len_str (h := []) (s := wrF (simpF s)) (by have := wrF_le (s := simpF s) (by omega); simp only [SZ_eq]; omega)
  have le := (lle_simpF s).1
  unfold lw at le
  have nle : ¬ (wrF s).length < (wrF (simpF s)).length := by omega
  have nlm : ¬ lmF s < lmF (simpF s) := by omega
  have q1 := cop_ne_self (h := []) (d := shaD (outs s)) rfl (okn_sha (k := 57))
  have q2 := cop_ne_toD (h := []) (a := simpF s) (b := simpF s) (by omega) (by omega)
  simp only [decide_true] at q2
  have hx : (if (i : Int) % 2 = 0 then interp PU 99 f_l_odd_b [.int C] [] else interp PU 99 f_l_saying [.int C, .int 3, .int 6] []) = .ok s.toD [] := by
    rw [eo, es, hp]
    split <;> rfl
  refine ⟨[some (.scr ns), some (.int (i : Nat)), some (.int C), some s.toD, some (simpF s).toD], ?_, ⟨_, _, _, _, rfl⟩⟩
  rw [forF_n]
  simp only [b15O, b_law15, Ss.nth, St.body]
  rw [st_asg (d := .int C) (h' := []) (by
    simp only [Y.Ss.sem, sem_asg, sem_par, sem_asgT, sem_setI, sem_ex, sem_ret, sem_retN, sem_ite, sem_frzV, sem_brk, sem_pass, sem_for, Y.E.sem.eq_1, Y.E.sem.eq_2, Y.E.sem.eq_3, Y.E.sem.eq_4, Y.E.sem.eq_5, Y.E.sem.eq_6, Y.E.sem.eq_7, Y.E.sem.eq_8, Y.E.sem.eq_9, Y.E.sem.eq_10, Y.E.sem.eq_11, Y.E.sem.eq_12, Y.E.sem.eq_13, Y.E.sem.eq_14, Y.E.sem.eq_15, Y.E.sem.eq_16, Y.E.sem.eq_17, Y.E.sem.eq_18, Y.E.sem.eq_19, Y.E.sem.eq_20, Y.E.sem.eq_21, Y.E.sem.eq_22, Y.E.sem.eq_23, Y.E.sem.eq_24, Y.E.sem.eq_25, Y.E.sem.eq_26, Y.E.sem.eq_27, Y.E.sem.eq_28, Y.E.sem.eq_29, Y.E.sem.eq_30, Y.E.sem.eq_31, Y.E.sem.eq_32, Y.E.sem.eq_33, Y.E.sem.eq_34, Y.Es.sem, Y.T.sem, sem_seq, sem_rng1, sem_rng2, sem_enm, sem_zip, sem_lc, Y.Oe.sem, Y.Ts.semAnd, Y.Ts.semOr, Y.Es.semAnd, Y.Es.semOr, CfN_call, CfN_glo]
    generalize interp PU 99 = I at *
    simp [b9, ec, b31, hC])]
  rw [st_asg (d := s.toD) (h' := []) (by
    simp only [Y.Ss.sem, sem_asg, sem_par, sem_asgT, sem_setI, sem_ex, sem_ret, sem_retN, sem_ite, sem_frzV, sem_brk, sem_pass, sem_for, Y.E.sem.eq_1, Y.E.sem.eq_2, Y.E.sem.eq_3, Y.E.sem.eq_4, Y.E.sem.eq_5, Y.E.sem.eq_6, Y.E.sem.eq_7, Y.E.sem.eq_8, Y.E.sem.eq_9, Y.E.sem.eq_10, Y.E.sem.eq_11, Y.E.sem.eq_12, Y.E.sem.eq_13, Y.E.sem.eq_14, Y.E.sem.eq_15, Y.E.sem.eq_16, Y.E.sem.eq_17, Y.E.sem.eq_18, Y.E.sem.eq_19, Y.E.sem.eq_20, Y.E.sem.eq_21, Y.E.sem.eq_22, Y.E.sem.eq_23, Y.E.sem.eq_24, Y.E.sem.eq_25, Y.E.sem.eq_26, Y.E.sem.eq_27, Y.E.sem.eq_28, Y.E.sem.eq_29, Y.E.sem.eq_30, Y.E.sem.eq_31, Y.E.sem.eq_32, Y.E.sem.eq_33, Y.E.sem.eq_34, Y.Es.sem, Y.T.sem, sem_seq, sem_rng1, sem_rng2, sem_enm, sem_zip, sem_lc, Y.Oe.sem, Y.Ts.semAnd, Y.Ts.semOr, Y.Es.semAnd, Y.Es.semOr, CfN_call, CfN_glo]
    generalize interp PU 99 = I at *
    simp [b2, hx])]
  rw [st_asg (d := (simpF s).toD) (h' := []) (by
    simp only [Y.Ss.sem, sem_asg, sem_par, sem_asgT, sem_setI, sem_ex, sem_ret, sem_retN, sem_ite, sem_frzV, sem_brk, sem_pass, sem_for, Y.E.sem.eq_1, Y.E.sem.eq_2, Y.E.sem.eq_3, Y.E.sem.eq_4, Y.E.sem.eq_5, Y.E.sem.eq_6, Y.E.sem.eq_7, Y.E.sem.eq_8, Y.E.sem.eq_9, Y.E.sem.eq_10, Y.E.sem.eq_11, Y.E.sem.eq_12, Y.E.sem.eq_13, Y.E.sem.eq_14, Y.E.sem.eq_15, Y.E.sem.eq_16, Y.E.sem.eq_17, Y.E.sem.eq_18, Y.E.sem.eq_19, Y.E.sem.eq_20, Y.E.sem.eq_21, Y.E.sem.eq_22, Y.E.sem.eq_23, Y.E.sem.eq_24, Y.E.sem.eq_25, Y.E.sem.eq_26, Y.E.sem.eq_27, Y.E.sem.eq_28, Y.E.sem.eq_29, Y.E.sem.eq_30, Y.E.sem.eq_31, Y.E.sem.eq_32, Y.E.sem.eq_33, Y.E.sem.eq_34, Y.Es.sem, Y.T.sem, sem_seq, sem_rng1, sem_rng2, sem_enm, sem_zip, sem_lc, Y.Oe.sem, Y.Ts.semAnd, Y.Ts.semOr, Y.Es.semAnd, Y.Es.semOr, CfN_call, CfN_glo]
    generalize interp PU 99 = I at *
    simp [e1])]
  simp only [List.set_cons_succ, List.set_cons_zero]
  rw [st_skip (h' := []) (by
    simp only [Y.Ss.sem, sem_asg, sem_par, sem_asgT, sem_setI, sem_ex, sem_ret, sem_retN, sem_ite, sem_frzV, sem_brk, sem_pass, sem_for, Y.E.sem.eq_1, Y.E.sem.eq_2, Y.E.sem.eq_3, Y.E.sem.eq_4, Y.E.sem.eq_5, Y.E.sem.eq_6, Y.E.sem.eq_7, Y.E.sem.eq_8, Y.E.sem.eq_9, Y.E.sem.eq_10, Y.E.sem.eq_11, Y.E.sem.eq_12, Y.E.sem.eq_13, Y.E.sem.eq_14, Y.E.sem.eq_15, Y.E.sem.eq_16, Y.E.sem.eq_17, Y.E.sem.eq_18, Y.E.sem.eq_19, Y.E.sem.eq_20, Y.E.sem.eq_21, Y.E.sem.eq_22, Y.E.sem.eq_23, Y.E.sem.eq_24, Y.E.sem.eq_25, Y.E.sem.eq_26, Y.E.sem.eq_27, Y.E.sem.eq_28, Y.E.sem.eq_29, Y.E.sem.eq_30, Y.E.sem.eq_31, Y.E.sem.eq_32, Y.E.sem.eq_33, Y.E.sem.eq_34, Y.Es.sem, Y.T.sem, sem_seq, sem_rng1, sem_rng2, sem_enm, sem_zip, sem_lc, Y.Oe.sem, Y.Ts.semAnd, Y.Ts.semOr, Y.Es.semAnd, Y.Es.semOr, CfN_call, CfN_glo]
    generalize interp PU 99 = I at *
    simp [e4]
    rw [e6]
    simp [e5, q1, e7, e8, nlm])]
  rw [st_skip (h' := []) (by
    simp only [Y.Ss.sem, sem_asg, sem_par, sem_asgT, sem_setI, sem_ex, sem_ret, sem_retN, sem_ite, sem_frzV, sem_brk, sem_pass, sem_for, Y.E.sem.eq_1, Y.E.sem.eq_2, Y.E.sem.eq_3, Y.E.sem.eq_4, Y.E.sem.eq_5, Y.E.sem.eq_6, Y.E.sem.eq_7, Y.E.sem.eq_8, Y.E.sem.eq_9, Y.E.sem.eq_10, Y.E.sem.eq_11, Y.E.sem.eq_12, Y.E.sem.eq_13, Y.E.sem.eq_14, Y.E.sem.eq_15, Y.E.sem.eq_16, Y.E.sem.eq_17, Y.E.sem.eq_18, Y.E.sem.eq_19, Y.E.sem.eq_20, Y.E.sem.eq_21, Y.E.sem.eq_22, Y.E.sem.eq_23, Y.E.sem.eq_24, Y.E.sem.eq_25, Y.E.sem.eq_26, Y.E.sem.eq_27, Y.E.sem.eq_28, Y.E.sem.eq_29, Y.E.sem.eq_30, Y.E.sem.eq_31, Y.E.sem.eq_32, Y.E.sem.eq_33, Y.E.sem.eq_34, Y.Es.sem, Y.T.sem, sem_seq, sem_rng1, sem_rng2, sem_enm, sem_zip, sem_lc, Y.Oe.sem, Y.Ts.semAnd, Y.Ts.semOr, Y.Es.semAnd, Y.Es.semOr, CfN_call, CfN_glo]
    generalize interp PU 99 = I at *
    simp
    rw [e10]
    simp [e9, n1, n2, nle, e3, e2, q2])]
  rw [st_nil]
theorem math15 (ns : List Int) (hl : ns.length ≤ 63) : ∃ h', interp PU 100 f_law15 [.scr ns] [] = .ok (.bl true) h' := by
  refine ⟨[], ?_⟩
  obtain ⟨ρ', h', e1, ⟨a', b', c', d', rfl⟩, rfl⟩ := loopS_pre (fun i => D.int (i : Nat)) (forF (CfN 99) (.n 1) b15O) (fun pre ρ h1 => P15 ns ρ ∧ h1 = []) (List.range 12) (by
    intro pre i post e1 ρ h1 ⟨hρ, hh⟩
    subst hh
    obtain ⟨ρ', e2, p⟩ := m15_body ns i ρ hρ
    exact ⟨_, _, e2, p, rfl⟩) [some (.scr ns), none, none, none, none] [] ⟨⟨_, _, _, _, rfl⟩, rfl⟩
  refine law_end (n := 99) (h' := []) rfl rfl rfl ?_
  show Ss.sem (CfN 99) b_law15 [some (.scr ns), none, none, none, none] [] = _
  rw [← rng0] at e1
  simp only [b15O, b_law15, Ss.nth, St.body] at e1 ⊢
  rw [st_for (ds := rngD 0 12) (h1 := []) (by
    simp only [Y.Ss.sem, sem_asg, sem_par, sem_asgT, sem_setI, sem_ex, sem_ret, sem_retN, sem_ite, sem_frzV, sem_brk, sem_pass, sem_for, Y.E.sem.eq_1, Y.E.sem.eq_2, Y.E.sem.eq_3, Y.E.sem.eq_4, Y.E.sem.eq_5, Y.E.sem.eq_6, Y.E.sem.eq_7, Y.E.sem.eq_8, Y.E.sem.eq_9, Y.E.sem.eq_10, Y.E.sem.eq_11, Y.E.sem.eq_12, Y.E.sem.eq_13, Y.E.sem.eq_14, Y.E.sem.eq_15, Y.E.sem.eq_16, Y.E.sem.eq_17, Y.E.sem.eq_18, Y.E.sem.eq_19, Y.E.sem.eq_20, Y.E.sem.eq_21, Y.E.sem.eq_22, Y.E.sem.eq_23, Y.E.sem.eq_24, Y.E.sem.eq_25, Y.E.sem.eq_26, Y.E.sem.eq_27, Y.E.sem.eq_28, Y.E.sem.eq_29, Y.E.sem.eq_30, Y.E.sem.eq_31, Y.E.sem.eq_32, Y.E.sem.eq_33, Y.E.sem.eq_34, Y.Es.sem, Y.T.sem, sem_seq, sem_rng1, sem_rng2, sem_enm, sem_zip, sem_lc, Y.Oe.sem, Y.Ts.semAnd, Y.Ts.semOr, Y.Es.semAnd, Y.Es.semOr, CfN_call, CfN_glo]
    simp [rng1_ok (sm_of (n := 12) (by omega) (by omega))]) e1]
  rw [st_ret (d := .bl true) (h' := []) (by
    simp only [Y.Ss.sem, sem_asg, sem_par, sem_asgT, sem_setI, sem_ex, sem_ret, sem_retN, sem_ite, sem_frzV, sem_brk, sem_pass, sem_for, Y.E.sem.eq_1, Y.E.sem.eq_2, Y.E.sem.eq_3, Y.E.sem.eq_4, Y.E.sem.eq_5, Y.E.sem.eq_6, Y.E.sem.eq_7, Y.E.sem.eq_8, Y.E.sem.eq_9, Y.E.sem.eq_10, Y.E.sem.eq_11, Y.E.sem.eq_12, Y.E.sem.eq_13, Y.E.sem.eq_14, Y.E.sem.eq_15, Y.E.sem.eq_16, Y.E.sem.eq_17, Y.E.sem.eq_18, Y.E.sem.eq_19, Y.E.sem.eq_20, Y.E.sem.eq_21, Y.E.sem.eq_22, Y.E.sem.eq_23, Y.E.sem.eq_24, Y.E.sem.eq_25, Y.E.sem.eq_26, Y.E.sem.eq_27, Y.E.sem.eq_28, Y.E.sem.eq_29, Y.E.sem.eq_30, Y.E.sem.eq_31, Y.E.sem.eq_32, Y.E.sem.eq_33, Y.E.sem.eq_34, Y.Es.sem, Y.T.sem, sem_seq, sem_rng1, sem_rng2, sem_enm, sem_zip, sem_lc, Y.Oe.sem, Y.Ts.semAnd, Y.Ts.semOr, Y.Es.semAnd, Y.Es.semOr, CfN_call, CfN_glo])]
end Y

namespace Y
namespace Lk15
open PySem PySem.Spec PyProof.Rows L2
def tp (i : Nat) : Stmt := PySem.Challenge.pw_diespeech_k15_whole_simpler.main.body.getD i (.Pass ⟨0, 0, 0, 0⟩)
def fns : List (Str × Nat) := [("is_whole", f_is_whole), ("is_last", f_is_last), ("is_dice", f_is_dice), ("is_saying_in", f_is_saying_in), ("dice_in", f_dice_in), ("is_saying", f_is_saying), ("divisor", f_divisor), ("fraction", f_fraction), ("sum_of", f_sum_of), ("product", f_product), ("added", f_added), ("put_together", f_put_together), ("of_two", f_of_two), ("one_die", f_one_die), ("kept_shares", f_kept_shares), ("book_of", f_book_of), ("shares", f_shares), ("of_numbers", f_of_numbers), ("of_nothing", f_of_nothing), ("simple", f_simple), ("is_simple", f_is_simple), ("in_brackets", f_in_brackets), ("written", f_written), ("_law_cell", f_l_cell), ("_law_mix", f_l_mix), ("_law_dice", f_l_dice), ("_law_many", f_l_many), ("_law_saying", f_l_saying), ("_law_odd", f_l_odd_b), ("law", f_law15)]
def gls : List (Str × Nat) := [("TWO", 0), ("DICE", 1), ("DEEPEST", 2), ("MOST_DICE", 3), ("SIGNS", 6), ("CALLS", 7), ("SUMS", 8), ("NOTHING", 9)]
def bls : List Str := ["abs", "all", "bool", "int", "isinstance", "len", "max", "min", "range", "sorted", "str", "sum", "tuple"]
theorem ck0 : chkSs ⟨["thing", "low", "high"], fns, gls, bls⟩ (defScope (tp 5)) (PU.fd f_is_whole).body (defBody (tp 5)) = true := by decide +kernel
theorem sc0 : FnScope ["thing", "low", "high"] ["thing", "low", "high"] (defScope (tp 5)) := ⟨rfl, rfl, rfl, by decide +kernel, rfl, by decide +kernel, by decide +kernel⟩
theorem ck1 : chkSs ⟨["word", "many", "sides", "last"], fns, gls, bls⟩ (defScope (tp 6)) (PU.fd f_is_last).body (defBody (tp 6)) = true := by decide +kernel
theorem sc1 : FnScope ["word", "many", "sides", "last"] ["word", "many", "sides", "last"] (defScope (tp 6)) := ⟨rfl, rfl, rfl, by decide +kernel, rfl, by decide +kernel, by decide +kernel⟩
theorem ck2 : chkSs ⟨["thing"], fns, gls, bls⟩ (defScope (tp 7)) (PU.fd f_is_dice).body (defBody (tp 7)) = true := by decide +kernel
theorem sc2 : FnScope ["thing"] ["thing"] (defScope (tp 7)) := ⟨rfl, rfl, rfl, by decide +kernel, rfl, by decide +kernel, by decide +kernel⟩
theorem ck3 : chkSs ⟨["thing", "deep", "part"], fns, gls, bls⟩ (defScope (tp 8)) (PU.fd f_is_saying_in).body (defBody (tp 8)) = true := by decide +kernel
theorem sc3 : FnScope ["thing", "deep", "part"] ["thing", "deep"] (defScope (tp 8)) := ⟨rfl, rfl, rfl, by decide +kernel, rfl, by decide +kernel, by decide +kernel⟩
theorem ck4 : chkSs ⟨["saying", "part"], fns, gls, bls⟩ (defScope (tp 9)) (PU.fd f_dice_in).body (defBody (tp 9)) = true := by decide +kernel
theorem sc4 : FnScope ["saying", "part"] ["saying"] (defScope (tp 9)) := ⟨rfl, rfl, rfl, by decide +kernel, rfl, by decide +kernel, by decide +kernel⟩
theorem ck5 : chkSs ⟨["thing"], fns, gls, bls⟩ (defScope (tp 10)) (PU.fd f_is_saying).body (defBody (tp 10)) = true := by decide +kernel
theorem sc5 : FnScope ["thing"] ["thing"] (defScope (tp 10)) := ⟨rfl, rfl, rfl, by decide +kernel, rfl, by decide +kernel, by decide +kernel⟩
theorem ck6 : chkSs ⟨["one", "other"], fns, gls, bls⟩ (defScope (tp 12)) (PU.fd f_divisor).body (defBody (tp 12)) = true := by decide +kernel
theorem sc6 : FnScope ["one", "other"] ["one", "other"] (defScope (tp 12)) := ⟨rfl, rfl, rfl, by decide +kernel, rfl, by decide +kernel, by decide +kernel⟩
theorem ck7 : chkSs ⟨["upper", "lower", "by"], fns, gls, bls⟩ (defScope (tp 13)) (PU.fd f_fraction).body (defBody (tp 13)) = true := by decide +kernel
theorem sc7 : FnScope ["upper", "lower", "by"] ["upper", "lower"] (defScope (tp 13)) := ⟨rfl, rfl, rfl, by decide +kernel, rfl, by decide +kernel, by decide +kernel⟩
theorem ck8 : chkSs ⟨["one", "other"], fns, gls, bls⟩ (defScope (tp 14)) (PU.fd f_sum_of).body (defBody (tp 14)) = true := by decide +kernel
theorem sc8 : FnScope ["one", "other"] ["one", "other"] (defScope (tp 14)) := ⟨rfl, rfl, rfl, by decide +kernel, rfl, by decide +kernel, by decide +kernel⟩
theorem ck9 : chkSs ⟨["one", "other"], fns, gls, bls⟩ (defScope (tp 15)) (PU.fd f_product).body (defBody (tp 15)) = true := by decide +kernel
theorem sc9 : FnScope ["one", "other"] ["one", "other"] (defScope (tp 15)) := ⟨rfl, rfl, rfl, by decide +kernel, rfl, by decide +kernel, by decide +kernel⟩
theorem ck10 : chkSs ⟨["book", "worth", "share"], fns, gls, bls⟩ (defScope (tp 17)) (PU.fd f_added).body (defBody (tp 17)) = true := by decide +kernel
theorem sc10 : FnScope ["book", "worth", "share"] ["book", "worth", "share"] (defScope (tp 17)) := ⟨rfl, rfl, rfl, by decide +kernel, rfl, by decide +kernel, by decide +kernel⟩
theorem ck11 : chkSs ⟨["one", "other", "word", "found", "mine", "yours"], fns, gls, bls⟩ (defScope (tp 18)) (PU.fd f_put_together).body (defBody (tp 18)) = true := by decide +kernel
theorem sc11 : FnScope ["one", "other", "word", "found", "mine", "yours"] ["one", "other", "word"] (defScope (tp 18)) := ⟨rfl, rfl, rfl, by decide +kernel, rfl, by decide +kernel, by decide +kernel⟩
theorem ck12 : chkSs ⟨["word", "mine", "yours"], fns, gls, bls⟩ (defScope (tp 19)) (PU.fd f_of_two).body (defBody (tp 19)) = true := by decide +kernel
theorem sc12 : FnScope ["word", "mine", "yours"] ["word", "mine", "yours"] (defScope (tp 19)) := ⟨rfl, rfl, rfl, by decide +kernel, rfl, by decide +kernel, by decide +kernel⟩
theorem ck13 : chkSs ⟨["word", "sides", "last", "found", "face", "more", "worth"], fns, gls, bls⟩ (defScope (tp 20)) (PU.fd f_one_die).body (defBody (tp 20)) = true := by decide +kernel
theorem sc13 : FnScope ["word", "sides", "last", "found", "face", "more", "worth"] ["word", "sides", "last"] (defScope (tp 20)) := ⟨rfl, rfl, rfl, by decide +kernel, rfl, by decide +kernel, by decide +kernel⟩
theorem ck14 : chkSs ⟨["word", "many", "sides", "kept", "rows", "turn", "longer", "row", "face", "found", "some"], fns, gls, bls⟩ (defScope (tp 21)) (PU.fd f_kept_shares).body (defBody (tp 21)) = true := by decide +kernel
theorem sc14 : FnScope ["word", "many", "sides", "kept", "rows", "turn", "longer", "row", "face", "found", "some"] ["word", "many", "sides", "kept"] (defScope (tp 21)) := ⟨rfl, rfl, rfl, by decide +kernel, rfl, by decide +kernel, by decide +kernel⟩
theorem ck15 : chkSs ⟨["saying", "word", "die", "found", "turn", "book", "worth"], fns, gls, bls⟩ (defScope (tp 22)) (PU.fd f_book_of).body (defBody (tp 22)) = true := by decide +kernel
theorem sc15 : FnScope ["saying", "word", "die", "found", "turn", "book", "worth"] ["saying"] (defScope (tp 22)) := ⟨rfl, rfl, rfl, by decide +kernel, rfl, by decide +kernel, by decide +kernel⟩
theorem ck16 : chkSs ⟨["saying", "book", "worth"], fns, gls, bls⟩ (defScope (tp 23)) (PU.fd f_shares).body (defBody (tp 23)) = true := by decide +kernel
theorem sc16 : FnScope ["saying", "book", "worth"] ["saying"] (defScope (tp 23)) := ⟨rfl, rfl, rfl, by decide +kernel, rfl, by decide +kernel, by decide +kernel⟩
theorem ck17 : chkSs ⟨["saying", "worth"], fns, gls, bls⟩ (defScope (tp 26)) (PU.fd f_of_numbers).body (defBody (tp 26)) = true := by decide +kernel
theorem sc17 : FnScope ["saying", "worth"] ["saying"] (defScope (tp 26)) := ⟨rfl, rfl, rfl, by decide +kernel, rfl, by decide +kernel, by decide +kernel⟩
theorem ck18 : chkSs ⟨["saying", "word"], fns, gls, bls⟩ (defScope (tp 27)) (PU.fd f_of_nothing).body (defBody (tp 27)) = true := by decide +kernel
theorem sc18 : FnScope ["saying", "word"] ["saying"] (defScope (tp 27)) := ⟨rfl, rfl, rfl, by decide +kernel, rfl, by decide +kernel, by decide +kernel⟩
theorem ck19 : chkSs ⟨["saying", "word"], fns, gls, bls⟩ (defScope (tp 28)) (PU.fd f_simple).body (defBody (tp 28)) = true := by decide +kernel
theorem sc19 : FnScope ["saying", "word"] ["saying"] (defScope (tp 28)) := ⟨rfl, rfl, rfl, by decide +kernel, rfl, by decide +kernel, by decide +kernel⟩
theorem ck20 : chkSs ⟨["saying"], fns, gls, bls⟩ (defScope (tp 29)) (PU.fd f_is_simple).body (defBody (tp 29)) = true := by decide +kernel
theorem sc20 : FnScope ["saying"] ["saying"] (defScope (tp 29)) := ⟨rfl, rfl, rfl, by decide +kernel, rfl, by decide +kernel, by decide +kernel⟩
theorem ck21 : chkSs ⟨["saying", "words"], fns, gls, bls⟩ (defScope (tp 34)) (PU.fd f_in_brackets).body (defBody (tp 34)) = true := by decide +kernel
theorem sc21 : FnScope ["saying", "words"] ["saying", "words"] (defScope (tp 34)) := ⟨rfl, rfl, rfl, by decide +kernel, rfl, by decide +kernel, by decide +kernel⟩
theorem ck22 : chkSs ⟨["saying", "word", "found"], fns, gls, bls⟩ (defScope (tp 35)) (PU.fd f_written).body (defBody (tp 35)) = true := by decide +kernel
theorem sc22 : FnScope ["saying", "word", "found"] ["saying"] (defScope (tp 35)) := ⟨rfl, rfl, rfl, by decide +kernel, rfl, by decide +kernel, by decide +kernel⟩
theorem ck23 : chkSs ⟨["_law_script", "_law_k"], fns, gls, bls⟩ (defScope (tp 37)) (PU.fd f_l_cell).body (defBody (tp 37)) = true := by decide +kernel
theorem sc23 : FnScope ["_law_script", "_law_k"] ["_law_script", "_law_k"] (defScope (tp 37)) := ⟨rfl, rfl, rfl, by decide +kernel, rfl, by decide +kernel, by decide +kernel⟩
theorem ck24 : chkSs ⟨["_law_cell_here", "_law_prime", "_law_many_here", "_law_blend"], fns, gls, bls⟩ (defScope (tp 38)) (PU.fd f_l_mix).body (defBody (tp 38)) = true := by decide +kernel
theorem sc24 : FnScope ["_law_cell_here", "_law_prime", "_law_many_here", "_law_blend"] ["_law_cell_here", "_law_prime", "_law_many_here"] (defScope (tp 38)) := ⟨rfl, rfl, rfl, by decide +kernel, rfl, by decide +kernel, by decide +kernel⟩
theorem ck25 : chkSs ⟨["_law_cell_here", "_law_most", "_law_word", "_law_many_here", "_law_sides", "_law_low", "_law_high"], fns, gls, bls⟩ (defScope (tp 39)) (PU.fd f_l_dice).body (defBody (tp 39)) = true := by decide +kernel
theorem sc25 : FnScope ["_law_cell_here", "_law_most", "_law_word", "_law_many_here", "_law_sides", "_law_low", "_law_high"] ["_law_cell_here", "_law_most"] (defScope (tp 39)) := ⟨rfl, rfl, rfl, by decide +kernel, rfl, by decide +kernel, by decide +kernel⟩
theorem ck26 : chkSs ⟨["_law_saying_here", "_law_part"], fns, gls, bls⟩ (defScope (tp 40)) (PU.fd f_l_many).body (defBody (tp 40)) = true := by decide +kernel
theorem sc26 : FnScope ["_law_saying_here", "_law_part"] ["_law_saying_here"] (defScope (tp 40)) := ⟨rfl, rfl, rfl, by decide +kernel, rfl, by decide +kernel, by decide +kernel⟩
theorem ck27 : chkSs ⟨["_law_cell_here", "_law_deep", "_law_most", "_law_way", "_law_one", "_law_other"], fns, gls, bls⟩ (defScope (tp 41)) (PU.fd f_l_saying).body (defBody (tp 41)) = true := by decide +kernel
theorem sc27 : FnScope ["_law_cell_here", "_law_deep", "_law_most", "_law_way", "_law_one", "_law_other"] ["_law_cell_here", "_law_deep", "_law_most"] (defScope (tp 41)) := ⟨rfl, rfl, rfl, by decide +kernel, rfl, by decide +kernel, by decide +kernel⟩
theorem ck28 : chkSs ⟨["_law_cell_here", "_law_saying_here", "_law_at", "_law_number", "_law_way"], fns, gls, bls⟩ (defScope (tp 42)) (PU.fd f_l_odd_b).body (defBody (tp 42)) = true := by decide +kernel
theorem sc28 : FnScope ["_law_cell_here", "_law_saying_here", "_law_at", "_law_number", "_law_way"] ["_law_cell_here"] (defScope (tp 42)) := ⟨rfl, rfl, rfl, by decide +kernel, rfl, by decide +kernel, by decide +kernel⟩
theorem ck29 : chkSs ⟨["_law_script", "_law_k", "_law_cell_here", "_law_saying_here", "_law_told"], fns, gls, bls⟩ (defScope (tp 43)) (PU.fd f_law15).body (defBody (tp 43)) = true := by decide +kernel
theorem sc29 : FnScope ["_law_script", "_law_k", "_law_cell_here", "_law_saying_here", "_law_told"] ["_law_script"] (defScope (tp 43)) := ⟨rfl, rfl, rfl, by decide +kernel, rfl, by decide +kernel, by decide +kernel⟩
def Gv (K : PySem.W.Frag) (w : World) : Gm := ⟨K, w, fun _ => 0, fun _ => .none⟩
theorem all_mk {P : Program} {w : World} {K : PySem.W.Frag} {h : Heap} {mg : Str → Option Value} {fa : Addr}
    {a0 : Addr} {od0 an0 : Option Addr} {sl0 : Array (Option Value)} {oc0 kV0 dc0 pm0 cd0 ct0 : Value}
    {a1 : Addr} {od1 an1 : Option Addr} {sl1 : Array (Option Value)} {oc1 kV1 dc1 pm1 cd1 ct1 : Value}
    {a2 : Addr} {od2 an2 : Option Addr} {sl2 : Array (Option Value)} {oc2 kV2 dc2 pm2 cd2 ct2 : Value}
    {a3 : Addr} {od3 an3 : Option Addr} {sl3 : Array (Option Value)} {oc3 kV3 dc3 pm3 cd3 ct3 : Value}
    {a4 : Addr} {od4 an4 : Option Addr} {sl4 : Array (Option Value)} {oc4 kV4 dc4 pm4 cd4 ct4 : Value}
    {a5 : Addr} {od5 an5 : Option Addr} {sl5 : Array (Option Value)} {oc5 kV5 dc5 pm5 cd5 ct5 : Value}
    {a6 : Addr} {od6 an6 : Option Addr} {sl6 : Array (Option Value)} {oc6 kV6 dc6 pm6 cd6 ct6 : Value}
    {a7 : Addr} {od7 an7 : Option Addr} {sl7 : Array (Option Value)} {oc7 kV7 dc7 pm7 cd7 ct7 : Value}
    {a8 : Addr} {od8 an8 : Option Addr} {sl8 : Array (Option Value)} {oc8 kV8 dc8 pm8 cd8 ct8 : Value}
    {a9 : Addr} {od9 an9 : Option Addr} {sl9 : Array (Option Value)} {oc9 kV9 dc9 pm9 cd9 ct9 : Value}
    {a10 : Addr} {od10 an10 : Option Addr} {sl10 : Array (Option Value)} {oc10 kV10 dc10 pm10 cd10 ct10 : Value}
    {a11 : Addr} {od11 an11 : Option Addr} {sl11 : Array (Option Value)} {oc11 kV11 dc11 pm11 cd11 ct11 : Value}
    {a12 : Addr} {od12 an12 : Option Addr} {sl12 : Array (Option Value)} {oc12 kV12 dc12 pm12 cd12 ct12 : Value}
    {a13 : Addr} {od13 an13 : Option Addr} {sl13 : Array (Option Value)} {oc13 kV13 dc13 pm13 cd13 ct13 : Value}
    {a14 : Addr} {od14 an14 : Option Addr} {sl14 : Array (Option Value)} {oc14 kV14 dc14 pm14 cd14 ct14 : Value}
    {a15 : Addr} {od15 an15 : Option Addr} {sl15 : Array (Option Value)} {oc15 kV15 dc15 pm15 cd15 ct15 : Value}
    {a16 : Addr} {od16 an16 : Option Addr} {sl16 : Array (Option Value)} {oc16 kV16 dc16 pm16 cd16 ct16 : Value}
    {a17 : Addr} {od17 an17 : Option Addr} {sl17 : Array (Option Value)} {oc17 kV17 dc17 pm17 cd17 ct17 : Value}
    {a18 : Addr} {od18 an18 : Option Addr} {sl18 : Array (Option Value)} {oc18 kV18 dc18 pm18 cd18 ct18 : Value}
    {a19 : Addr} {od19 an19 : Option Addr} {sl19 : Array (Option Value)} {oc19 kV19 dc19 pm19 cd19 ct19 : Value}
    {a20 : Addr} {od20 an20 : Option Addr} {sl20 : Array (Option Value)} {oc20 kV20 dc20 pm20 cd20 ct20 : Value}
    {a21 : Addr} {od21 an21 : Option Addr} {sl21 : Array (Option Value)} {oc21 kV21 dc21 pm21 cd21 ct21 : Value}
    {a22 : Addr} {od22 an22 : Option Addr} {sl22 : Array (Option Value)} {oc22 kV22 dc22 pm22 cd22 ct22 : Value}
    {a23 : Addr} {od23 an23 : Option Addr} {sl23 : Array (Option Value)} {oc23 kV23 dc23 pm23 cd23 ct23 : Value}
    {a24 : Addr} {od24 an24 : Option Addr} {sl24 : Array (Option Value)} {oc24 kV24 dc24 pm24 cd24 ct24 : Value}
    {a25 : Addr} {od25 an25 : Option Addr} {sl25 : Array (Option Value)} {oc25 kV25 dc25 pm25 cd25 ct25 : Value}
    {a26 : Addr} {od26 an26 : Option Addr} {sl26 : Array (Option Value)} {oc26 kV26 dc26 pm26 cd26 ct26 : Value}
    {a27 : Addr} {od27 an27 : Option Addr} {sl27 : Array (Option Value)} {oc27 kV27 dc27 pm27 cd27 ct27 : Value}
    {a28 : Addr} {od28 an28 : Option Addr} {sl28 : Array (Option Value)} {oc28 kV28 dc28 pm28 cd28 ct28 : Value}
    {a29 : Addr} {od29 an29 : Option Addr} {sl29 : Array (Option Value)} {oc29 kV29 dc29 pm29 cd29 ct29 : Value}
    {ga0 : Addr} {gd0 : Option Addr} {gn0 : Nat} {gs0 : Array (Option Value)} {gt0_0 : Tok} {gt0_1 : Tok} {gt0_2 : Tok} {gt0_3 : Tok} {gt0_4 : Tok}
    {ga1 : Addr} {gd1 : Option Addr} {gn1 : Nat} {gs1 : Array (Option Value)} {gt1_0 : Tok} {gt1_1 : Tok} {gt1_2 : Tok} {gt1_3 : Tok} {gt1_4 : Tok} {gt1_5 : Tok}
    {gt2 : Tok}
    {gt3 : Tok}
    {ga4 : Addr} {ge4 : Array DictEntry} {gn4 : Nat}
    {ga5 : Addr} {ge5 : Array DictEntry} {gn5 : Nat}
    {ga6 : Addr} {ge6 : Array DictEntry} {gn6 : Nat}
    {ga7 : Addr} {gd7 : Option Addr} {gn7 : Nat} {gs7 : Array (Option Value)} {gt7_0 : Tok} {gt7_1 : Tok}
    (X : K.In h) (Gs : h.Ns mainGlobals mg) (hfa : mg "law" = some (.ref fa))
    (n0 : PySem.W.nsIn K mainGlobals "is_whole" = some (some (.ref a0)))
    (l0 : K.lookup a0 = some ⟨oc0, od0, .func (PySem.W.fnOf "is_whole" "is_whole" (defArgs (tp 5)) (defBody (tp 5)) (defScope (tp 5)) .none kV0 dc0 pm0 an0 cd0 ct0), sl0⟩)
    (c0 : PySem.W.codeIn K cd0 "is_whole" = true) (k0 : PySem.W.keepIn K (.ref a0) = true)
    (n1 : PySem.W.nsIn K mainGlobals "is_last" = some (some (.ref a1)))
    (l1 : K.lookup a1 = some ⟨oc1, od1, .func (PySem.W.fnOf "is_last" "is_last" (defArgs (tp 6)) (defBody (tp 6)) (defScope (tp 6)) .none kV1 dc1 pm1 an1 cd1 ct1), sl1⟩)
    (c1 : PySem.W.codeIn K cd1 "is_last" = true) (k1 : PySem.W.keepIn K (.ref a1) = true)
    (n2 : PySem.W.nsIn K mainGlobals "is_dice" = some (some (.ref a2)))
    (l2 : K.lookup a2 = some ⟨oc2, od2, .func (PySem.W.fnOf "is_dice" "is_dice" (defArgs (tp 7)) (defBody (tp 7)) (defScope (tp 7)) .none kV2 dc2 pm2 an2 cd2 ct2), sl2⟩)
    (c2 : PySem.W.codeIn K cd2 "is_dice" = true) (k2 : PySem.W.keepIn K (.ref a2) = true)
    (n3 : PySem.W.nsIn K mainGlobals "is_saying_in" = some (some (.ref a3)))
    (l3 : K.lookup a3 = some ⟨oc3, od3, .func (PySem.W.fnOf "is_saying_in" "is_saying_in" (defArgs (tp 8)) (defBody (tp 8)) (defScope (tp 8)) .none kV3 dc3 pm3 an3 cd3 ct3), sl3⟩)
    (c3 : PySem.W.codeIn K cd3 "is_saying_in" = true) (k3 : PySem.W.keepIn K (.ref a3) = true)
    (n4 : PySem.W.nsIn K mainGlobals "dice_in" = some (some (.ref a4)))
    (l4 : K.lookup a4 = some ⟨oc4, od4, .func (PySem.W.fnOf "dice_in" "dice_in" (defArgs (tp 9)) (defBody (tp 9)) (defScope (tp 9)) .none kV4 dc4 pm4 an4 cd4 ct4), sl4⟩)
    (c4 : PySem.W.codeIn K cd4 "dice_in" = true) (k4 : PySem.W.keepIn K (.ref a4) = true)
    (n5 : PySem.W.nsIn K mainGlobals "is_saying" = some (some (.ref a5)))
    (l5 : K.lookup a5 = some ⟨oc5, od5, .func (PySem.W.fnOf "is_saying" "is_saying" (defArgs (tp 10)) (defBody (tp 10)) (defScope (tp 10)) .none kV5 dc5 pm5 an5 cd5 ct5), sl5⟩)
    (c5 : PySem.W.codeIn K cd5 "is_saying" = true) (k5 : PySem.W.keepIn K (.ref a5) = true)
    (n6 : PySem.W.nsIn K mainGlobals "divisor" = some (some (.ref a6)))
    (l6 : K.lookup a6 = some ⟨oc6, od6, .func (PySem.W.fnOf "divisor" "divisor" (defArgs (tp 12)) (defBody (tp 12)) (defScope (tp 12)) .none kV6 dc6 pm6 an6 cd6 ct6), sl6⟩)
    (c6 : PySem.W.codeIn K cd6 "divisor" = true) (k6 : PySem.W.keepIn K (.ref a6) = true)
    (n7 : PySem.W.nsIn K mainGlobals "fraction" = some (some (.ref a7)))
    (l7 : K.lookup a7 = some ⟨oc7, od7, .func (PySem.W.fnOf "fraction" "fraction" (defArgs (tp 13)) (defBody (tp 13)) (defScope (tp 13)) .none kV7 dc7 pm7 an7 cd7 ct7), sl7⟩)
    (c7 : PySem.W.codeIn K cd7 "fraction" = true) (k7 : PySem.W.keepIn K (.ref a7) = true)
    (n8 : PySem.W.nsIn K mainGlobals "sum_of" = some (some (.ref a8)))
    (l8 : K.lookup a8 = some ⟨oc8, od8, .func (PySem.W.fnOf "sum_of" "sum_of" (defArgs (tp 14)) (defBody (tp 14)) (defScope (tp 14)) .none kV8 dc8 pm8 an8 cd8 ct8), sl8⟩)
    (c8 : PySem.W.codeIn K cd8 "sum_of" = true) (k8 : PySem.W.keepIn K (.ref a8) = true)
    (n9 : PySem.W.nsIn K mainGlobals "product" = some (some (.ref a9)))
    (l9 : K.lookup a9 = some ⟨oc9, od9, .func (PySem.W.fnOf "product" "product" (defArgs (tp 15)) (defBody (tp 15)) (defScope (tp 15)) .none kV9 dc9 pm9 an9 cd9 ct9), sl9⟩)
    (c9 : PySem.W.codeIn K cd9 "product" = true) (k9 : PySem.W.keepIn K (.ref a9) = true)
    (n10 : PySem.W.nsIn K mainGlobals "added" = some (some (.ref a10)))
    (l10 : K.lookup a10 = some ⟨oc10, od10, .func (PySem.W.fnOf "added" "added" (defArgs (tp 17)) (defBody (tp 17)) (defScope (tp 17)) .none kV10 dc10 pm10 an10 cd10 ct10), sl10⟩)
    (c10 : PySem.W.codeIn K cd10 "added" = true) (k10 : PySem.W.keepIn K (.ref a10) = true)
    (n11 : PySem.W.nsIn K mainGlobals "put_together" = some (some (.ref a11)))
    (l11 : K.lookup a11 = some ⟨oc11, od11, .func (PySem.W.fnOf "put_together" "put_together" (defArgs (tp 18)) (defBody (tp 18)) (defScope (tp 18)) .none kV11 dc11 pm11 an11 cd11 ct11), sl11⟩)
    (c11 : PySem.W.codeIn K cd11 "put_together" = true) (k11 : PySem.W.keepIn K (.ref a11) = true)
    (n12 : PySem.W.nsIn K mainGlobals "of_two" = some (some (.ref a12)))
    (l12 : K.lookup a12 = some ⟨oc12, od12, .func (PySem.W.fnOf "of_two" "of_two" (defArgs (tp 19)) (defBody (tp 19)) (defScope (tp 19)) .none kV12 dc12 pm12 an12 cd12 ct12), sl12⟩)
    (c12 : PySem.W.codeIn K cd12 "of_two" = true) (k12 : PySem.W.keepIn K (.ref a12) = true)
    (n13 : PySem.W.nsIn K mainGlobals "one_die" = some (some (.ref a13)))
    (l13 : K.lookup a13 = some ⟨oc13, od13, .func (PySem.W.fnOf "one_die" "one_die" (defArgs (tp 20)) (defBody (tp 20)) (defScope (tp 20)) .none kV13 dc13 pm13 an13 cd13 ct13), sl13⟩)
    (c13 : PySem.W.codeIn K cd13 "one_die" = true) (k13 : PySem.W.keepIn K (.ref a13) = true)
    (n14 : PySem.W.nsIn K mainGlobals "kept_shares" = some (some (.ref a14)))
    (l14 : K.lookup a14 = some ⟨oc14, od14, .func (PySem.W.fnOf "kept_shares" "kept_shares" (defArgs (tp 21)) (defBody (tp 21)) (defScope (tp 21)) .none kV14 dc14 pm14 an14 cd14 ct14), sl14⟩)
    (c14 : PySem.W.codeIn K cd14 "kept_shares" = true) (k14 : PySem.W.keepIn K (.ref a14) = true)
    (n15 : PySem.W.nsIn K mainGlobals "book_of" = some (some (.ref a15)))
    (l15 : K.lookup a15 = some ⟨oc15, od15, .func (PySem.W.fnOf "book_of" "book_of" (defArgs (tp 22)) (defBody (tp 22)) (defScope (tp 22)) .none kV15 dc15 pm15 an15 cd15 ct15), sl15⟩)
    (c15 : PySem.W.codeIn K cd15 "book_of" = true) (k15 : PySem.W.keepIn K (.ref a15) = true)
    (n16 : PySem.W.nsIn K mainGlobals "shares" = some (some (.ref a16)))
    (l16 : K.lookup a16 = some ⟨oc16, od16, .func (PySem.W.fnOf "shares" "shares" (defArgs (tp 23)) (defBody (tp 23)) (defScope (tp 23)) .none kV16 dc16 pm16 an16 cd16 ct16), sl16⟩)
    (c16 : PySem.W.codeIn K cd16 "shares" = true) (k16 : PySem.W.keepIn K (.ref a16) = true)
    (n17 : PySem.W.nsIn K mainGlobals "of_numbers" = some (some (.ref a17)))
    (l17 : K.lookup a17 = some ⟨oc17, od17, .func (PySem.W.fnOf "of_numbers" "of_numbers" (defArgs (tp 26)) (defBody (tp 26)) (defScope (tp 26)) .none kV17 dc17 pm17 an17 cd17 ct17), sl17⟩)
    (c17 : PySem.W.codeIn K cd17 "of_numbers" = true) (k17 : PySem.W.keepIn K (.ref a17) = true)
    (n18 : PySem.W.nsIn K mainGlobals "of_nothing" = some (some (.ref a18)))
    (l18 : K.lookup a18 = some ⟨oc18, od18, .func (PySem.W.fnOf "of_nothing" "of_nothing" (defArgs (tp 27)) (defBody (tp 27)) (defScope (tp 27)) .none kV18 dc18 pm18 an18 cd18 ct18), sl18⟩)
    (c18 : PySem.W.codeIn K cd18 "of_nothing" = true) (k18 : PySem.W.keepIn K (.ref a18) = true)
    (n19 : PySem.W.nsIn K mainGlobals "simple" = some (some (.ref a19)))
    (l19 : K.lookup a19 = some ⟨oc19, od19, .func (PySem.W.fnOf "simple" "simple" (defArgs (tp 28)) (defBody (tp 28)) (defScope (tp 28)) .none kV19 dc19 pm19 an19 cd19 ct19), sl19⟩)
    (c19 : PySem.W.codeIn K cd19 "simple" = true) (k19 : PySem.W.keepIn K (.ref a19) = true)
    (n20 : PySem.W.nsIn K mainGlobals "is_simple" = some (some (.ref a20)))
    (l20 : K.lookup a20 = some ⟨oc20, od20, .func (PySem.W.fnOf "is_simple" "is_simple" (defArgs (tp 29)) (defBody (tp 29)) (defScope (tp 29)) .none kV20 dc20 pm20 an20 cd20 ct20), sl20⟩)
    (c20 : PySem.W.codeIn K cd20 "is_simple" = true) (k20 : PySem.W.keepIn K (.ref a20) = true)
    (n21 : PySem.W.nsIn K mainGlobals "in_brackets" = some (some (.ref a21)))
    (l21 : K.lookup a21 = some ⟨oc21, od21, .func (PySem.W.fnOf "in_brackets" "in_brackets" (defArgs (tp 34)) (defBody (tp 34)) (defScope (tp 34)) .none kV21 dc21 pm21 an21 cd21 ct21), sl21⟩)
    (c21 : PySem.W.codeIn K cd21 "in_brackets" = true) (k21 : PySem.W.keepIn K (.ref a21) = true)
    (n22 : PySem.W.nsIn K mainGlobals "written" = some (some (.ref a22)))
    (l22 : K.lookup a22 = some ⟨oc22, od22, .func (PySem.W.fnOf "written" "written" (defArgs (tp 35)) (defBody (tp 35)) (defScope (tp 35)) .none kV22 dc22 pm22 an22 cd22 ct22), sl22⟩)
    (c22 : PySem.W.codeIn K cd22 "written" = true) (k22 : PySem.W.keepIn K (.ref a22) = true)
    (n23 : PySem.W.nsIn K mainGlobals "_law_cell" = some (some (.ref a23)))
    (l23 : K.lookup a23 = some ⟨oc23, od23, .func (PySem.W.fnOf "_law_cell" "_law_cell" (defArgs (tp 37)) (defBody (tp 37)) (defScope (tp 37)) .none kV23 dc23 pm23 an23 cd23 ct23), sl23⟩)
    (c23 : PySem.W.codeIn K cd23 "_law_cell" = true) (k23 : PySem.W.keepIn K (.ref a23) = true)
    (n24 : PySem.W.nsIn K mainGlobals "_law_mix" = some (some (.ref a24)))
    (l24 : K.lookup a24 = some ⟨oc24, od24, .func (PySem.W.fnOf "_law_mix" "_law_mix" (defArgs (tp 38)) (defBody (tp 38)) (defScope (tp 38)) .none kV24 dc24 pm24 an24 cd24 ct24), sl24⟩)
    (c24 : PySem.W.codeIn K cd24 "_law_mix" = true) (k24 : PySem.W.keepIn K (.ref a24) = true)
    (n25 : PySem.W.nsIn K mainGlobals "_law_dice" = some (some (.ref a25)))
    (l25 : K.lookup a25 = some ⟨oc25, od25, .func (PySem.W.fnOf "_law_dice" "_law_dice" (defArgs (tp 39)) (defBody (tp 39)) (defScope (tp 39)) .none kV25 dc25 pm25 an25 cd25 ct25), sl25⟩)
    (c25 : PySem.W.codeIn K cd25 "_law_dice" = true) (k25 : PySem.W.keepIn K (.ref a25) = true)
    (n26 : PySem.W.nsIn K mainGlobals "_law_many" = some (some (.ref a26)))
    (l26 : K.lookup a26 = some ⟨oc26, od26, .func (PySem.W.fnOf "_law_many" "_law_many" (defArgs (tp 40)) (defBody (tp 40)) (defScope (tp 40)) .none kV26 dc26 pm26 an26 cd26 ct26), sl26⟩)
    (c26 : PySem.W.codeIn K cd26 "_law_many" = true) (k26 : PySem.W.keepIn K (.ref a26) = true)
    (n27 : PySem.W.nsIn K mainGlobals "_law_saying" = some (some (.ref a27)))
    (l27 : K.lookup a27 = some ⟨oc27, od27, .func (PySem.W.fnOf "_law_saying" "_law_saying" (defArgs (tp 41)) (defBody (tp 41)) (defScope (tp 41)) .none kV27 dc27 pm27 an27 cd27 ct27), sl27⟩)
    (c27 : PySem.W.codeIn K cd27 "_law_saying" = true) (k27 : PySem.W.keepIn K (.ref a27) = true)
    (n28 : PySem.W.nsIn K mainGlobals "_law_odd" = some (some (.ref a28)))
    (l28 : K.lookup a28 = some ⟨oc28, od28, .func (PySem.W.fnOf "_law_odd" "_law_odd" (defArgs (tp 42)) (defBody (tp 42)) (defScope (tp 42)) .none kV28 dc28 pm28 an28 cd28 ct28), sl28⟩)
    (c28 : PySem.W.codeIn K cd28 "_law_odd" = true) (k28 : PySem.W.keepIn K (.ref a28) = true)
    (n29 : PySem.W.nsIn K mainGlobals "law" = some (some (.ref a29)))
    (l29 : K.lookup a29 = some ⟨oc29, od29, .func (PySem.W.fnOf "law" "law" (defArgs (tp 43)) (defBody (tp 43)) (defScope (tp 43)) .none kV29 dc29 pm29 an29 cd29 ct29), sl29⟩)
    (c29 : PySem.W.codeIn K cd29 "law" = true) (k29 : PySem.W.keepIn K (.ref a29) = true)
    (z0 : PySem.W.nsIn K mainGlobals "abs" = some none)
    (z1 : PySem.W.nsIn K mainGlobals "all" = some none)
    (z2 : PySem.W.nsIn K mainGlobals "bool" = some none)
    (z3 : PySem.W.nsIn K mainGlobals "int" = some none)
    (z4 : PySem.W.nsIn K mainGlobals "isinstance" = some none)
    (z5 : PySem.W.nsIn K mainGlobals "len" = some none)
    (z6 : PySem.W.nsIn K mainGlobals "max" = some none)
    (z7 : PySem.W.nsIn K mainGlobals "min" = some none)
    (z8 : PySem.W.nsIn K mainGlobals "range" = some none)
    (z9 : PySem.W.nsIn K mainGlobals "sorted" = some none)
    (z10 : PySem.W.nsIn K mainGlobals "str" = some none)
    (z11 : PySem.W.nsIn K mainGlobals "sum" = some none)
    (z12 : PySem.W.nsIn K mainGlobals "tuple" = some none)
    (g0 : PySem.W.nsIn K mainGlobals "TWO" = some (some (.ref ga0)))
    (q0 : K.lookup ga0 = some ⟨.type "tuple", gd0, .seq #[.str "plus" gt0_0, .str "less" gt0_1, .str "most" gt0_2, .str "least" gt0_3, .str "beats" gt0_4] gn0, gs0⟩)
    (g1 : PySem.W.nsIn K mainGlobals "DICE" = some (some (.ref ga1)))
    (q1 : K.lookup ga1 = some ⟨.type "tuple", gd1, .seq #[.str "dice" gt1_0, .str "high" gt1_1, .str "low" gt1_2, .str "again" gt1_3, .str "burst" gt1_4, .str "count" gt1_5] gn1, gs1⟩)
    (g2 : PySem.W.nsIn K mainGlobals "DEEPEST" = some (some (.int 3 gt2)))
    (g3 : PySem.W.nsIn K mainGlobals "MOST_DICE" = some (some (.int 6 gt3)))
    (g4 : PySem.W.nsIn K mainGlobals "SIGNS" = some (some (.ref ga4)))
    (q4 : K.lookup ga4 = some ⟨.type "dict", none, .dict ge4 gn4, #[]⟩)
    (kl4 : PySem.W.KeysLit w.params ge4.toList)
    (pr4 : Paired (fun (e : DictEntry) (kv : S × S) => (∃ t, e.key = Value.str (toStr kv.1) t) ∧ ∃ t, e.val = Value.str (toStr kv.2) t) ge4.toList [((wd 2), [104]), ((wd 3), [108]), ((wd 4), [114]), ((wd 5), [120]), ((wd 6), [99])])
    (lo4 : (ga4 == sysModules) = false)
    (g5 : PySem.W.nsIn K mainGlobals "CALLS" = some (some (.ref ga5)))
    (q5 : K.lookup ga5 = some ⟨.type "dict", none, .dict ge5 gn5, #[]⟩)
    (kl5 : PySem.W.KeysLit w.params ge5.toList)
    (pr5 : Paired (fun (e : DictEntry) (kv : S × S) => (∃ t, e.key = Value.str (toStr kv.1) t) ∧ ∃ t, e.val = Value.str (toStr kv.2) t) ge5.toList [((wd 9), [109, 97, 120]), ((wd 10), [109, 105, 110]), ((wd 11), (wd 11))])
    (lo5 : (ga5 == sysModules) = false)
    (g6 : PySem.W.nsIn K mainGlobals "SUMS" = some (some (.ref ga6)))
    (q6 : K.lookup ga6 = some ⟨.type "dict", none, .dict ge6 gn6, #[]⟩)
    (kl6 : PySem.W.KeysLit w.params ge6.toList)
    (pr6 : Paired (fun (e : DictEntry) (kv : S × S) => (∃ t, e.key = Value.str (toStr kv.1) t) ∧ ∃ t, e.val = Value.str (toStr kv.2) t) ge6.toList [((wd 7), [32, 43, 32]), ((wd 8), [32, 45, 32])])
    (lo6 : (ga6 == sysModules) = false)
    (g7 : PySem.W.nsIn K mainGlobals "NOTHING" = some (some (.ref ga7)))
    (q7 : K.lookup ga7 = some ⟨.type "tuple", gd7, .seq #[.str "number" gt7_0, .int 0 gt7_1] gn7, gs7⟩) :
    ∃ fd : FuncData, (∀ (s : Shared) (v : Value), BindsTo s fd ⟨[v], []⟩ [("_law_script", v)]) ∧ ∀ base : Heap, K.In base → base.Ns mainGlobals mg → FnOk P w K mg base (L2.CX P w) 100 fa fd ["_law_script"] (spF (Gv K w) (interp PU 100 f_law15)) := by
  have e := hfa.symm.trans (PySem.W.mg_of X Gs n29)
  cases e
  have F0 := fun_mk (st := (tp 5)) l0 c0 k0
  have b0 := F0.binds (ps := ["thing", "low", "high"]) fun _ _ _ _ _ _ us hl => match us, hl with | [_, _, _], _ => rfl
  have F1 := fun_mk (st := (tp 6)) l1 c1 k1
  have b1 := F1.binds (ps := ["word", "many", "sides", "last"]) fun _ _ _ _ _ _ us hl => match us, hl with | [_, _, _, _], _ => rfl
  have F2 := fun_mk (st := (tp 7)) l2 c2 k2
  have b2 := F2.binds (ps := ["thing"]) fun _ _ _ _ _ _ us hl => match us, hl with | [_], _ => rfl
  have F3 := fun_mk (st := (tp 8)) l3 c3 k3
  have b3 := F3.binds (ps := ["thing", "deep"]) fun _ _ _ _ _ _ us hl => match us, hl with | [_, _], _ => rfl
  have F4 := fun_mk (st := (tp 9)) l4 c4 k4
  have b4 := F4.binds (ps := ["saying"]) fun _ _ _ _ _ _ us hl => match us, hl with | [_], _ => rfl
  have F5 := fun_mk (st := (tp 10)) l5 c5 k5
  have b5 := F5.binds (ps := ["thing"]) fun _ _ _ _ _ _ us hl => match us, hl with | [_], _ => rfl
  have F6 := fun_mk (st := (tp 12)) l6 c6 k6
  have b6 := F6.binds (ps := ["one", "other"]) fun _ _ _ _ _ _ us hl => match us, hl with | [_, _], _ => rfl
  have F7 := fun_mk (st := (tp 13)) l7 c7 k7
  have b7 := F7.binds (ps := ["upper", "lower"]) fun _ _ _ _ _ _ us hl => match us, hl with | [_, _], _ => rfl
  have F8 := fun_mk (st := (tp 14)) l8 c8 k8
  have b8 := F8.binds (ps := ["one", "other"]) fun _ _ _ _ _ _ us hl => match us, hl with | [_, _], _ => rfl
  have F9 := fun_mk (st := (tp 15)) l9 c9 k9
  have b9 := F9.binds (ps := ["one", "other"]) fun _ _ _ _ _ _ us hl => match us, hl with | [_, _], _ => rfl
  have F10 := fun_mk (st := (tp 17)) l10 c10 k10
  have b10 := F10.binds (ps := ["book", "worth", "share"]) fun _ _ _ _ _ _ us hl => match us, hl with | [_, _, _], _ => rfl
  have F11 := fun_mk (st := (tp 18)) l11 c11 k11
  have b11 := F11.binds (ps := ["one", "other", "word"]) fun _ _ _ _ _ _ us hl => match us, hl with | [_, _, _], _ => rfl
  have F12 := fun_mk (st := (tp 19)) l12 c12 k12
  have b12 := F12.binds (ps := ["word", "mine", "yours"]) fun _ _ _ _ _ _ us hl => match us, hl with | [_, _, _], _ => rfl
  have F13 := fun_mk (st := (tp 20)) l13 c13 k13
  have b13 := F13.binds (ps := ["word", "sides", "last"]) fun _ _ _ _ _ _ us hl => match us, hl with | [_, _, _], _ => rfl
  have F14 := fun_mk (st := (tp 21)) l14 c14 k14
  have b14 := F14.binds (ps := ["word", "many", "sides", "kept"]) fun _ _ _ _ _ _ us hl => match us, hl with | [_, _, _, _], _ => rfl
  have F15 := fun_mk (st := (tp 22)) l15 c15 k15
  have b15 := F15.binds (ps := ["saying"]) fun _ _ _ _ _ _ us hl => match us, hl with | [_], _ => rfl
  have F16 := fun_mk (st := (tp 23)) l16 c16 k16
  have b16 := F16.binds (ps := ["saying"]) fun _ _ _ _ _ _ us hl => match us, hl with | [_], _ => rfl
  have F17 := fun_mk (st := (tp 26)) l17 c17 k17
  have b17 := F17.binds (ps := ["saying"]) fun _ _ _ _ _ _ us hl => match us, hl with | [_], _ => rfl
  have F18 := fun_mk (st := (tp 27)) l18 c18 k18
  have b18 := F18.binds (ps := ["saying"]) fun _ _ _ _ _ _ us hl => match us, hl with | [_], _ => rfl
  have F19 := fun_mk (st := (tp 28)) l19 c19 k19
  have b19 := F19.binds (ps := ["saying"]) fun _ _ _ _ _ _ us hl => match us, hl with | [_], _ => rfl
  have F20 := fun_mk (st := (tp 29)) l20 c20 k20
  have b20 := F20.binds (ps := ["saying"]) fun _ _ _ _ _ _ us hl => match us, hl with | [_], _ => rfl
  have F21 := fun_mk (st := (tp 34)) l21 c21 k21
  have b21 := F21.binds (ps := ["saying", "words"]) fun _ _ _ _ _ _ us hl => match us, hl with | [_, _], _ => rfl
  have F22 := fun_mk (st := (tp 35)) l22 c22 k22
  have b22 := F22.binds (ps := ["saying"]) fun _ _ _ _ _ _ us hl => match us, hl with | [_], _ => rfl
  have F23 := fun_mk (st := (tp 37)) l23 c23 k23
  have b23 := F23.binds (ps := ["_law_script", "_law_k"]) fun _ _ _ _ _ _ us hl => match us, hl with | [_, _], _ => rfl
  have F24 := fun_mk (st := (tp 38)) l24 c24 k24
  have b24 := F24.binds (ps := ["_law_cell_here", "_law_prime", "_law_many_here"]) fun _ _ _ _ _ _ us hl => match us, hl with | [_, _, _], _ => rfl
  have F25 := fun_mk (st := (tp 39)) l25 c25 k25
  have b25 := F25.binds (ps := ["_law_cell_here", "_law_most"]) fun _ _ _ _ _ _ us hl => match us, hl with | [_, _], _ => rfl
  have F26 := fun_mk (st := (tp 40)) l26 c26 k26
  have b26 := F26.binds (ps := ["_law_saying_here"]) fun _ _ _ _ _ _ us hl => match us, hl with | [_], _ => rfl
  have F27 := fun_mk (st := (tp 41)) l27 c27 k27
  have b27 := F27.binds (ps := ["_law_cell_here", "_law_deep", "_law_most"]) fun _ _ _ _ _ _ us hl => match us, hl with | [_, _, _], _ => rfl
  have F28 := fun_mk (st := (tp 42)) l28 c28 k28
  have b28 := F28.binds (ps := ["_law_cell_here"]) fun _ _ _ _ _ _ us hl => match us, hl with | [_], _ => rfl
  have F29 := fun_mk (st := (tp 43)) l29 c29 k29
  have b29 := F29.binds (ps := ["_law_script"]) fun _ _ _ _ _ _ us hl => match us, hl with | [_], _ => rfl
  have hd : ∀ d ∈ ([⟨f_is_whole, "is_whole", a0, tp 5, PySem.W.fnOf "is_whole" "is_whole" (defArgs (tp 5)) (defBody (tp 5)) (defScope (tp 5)) .none kV0 dc0 pm0 an0 cd0 ct0, ["thing", "low", "high"], ["thing", "low", "high"]⟩, ⟨f_is_last, "is_last", a1, tp 6, PySem.W.fnOf "is_last" "is_last" (defArgs (tp 6)) (defBody (tp 6)) (defScope (tp 6)) .none kV1 dc1 pm1 an1 cd1 ct1, ["word", "many", "sides", "last"], ["word", "many", "sides", "last"]⟩, ⟨f_is_dice, "is_dice", a2, tp 7, PySem.W.fnOf "is_dice" "is_dice" (defArgs (tp 7)) (defBody (tp 7)) (defScope (tp 7)) .none kV2 dc2 pm2 an2 cd2 ct2, ["thing"], ["thing"]⟩, ⟨f_is_saying_in, "is_saying_in", a3, tp 8, PySem.W.fnOf "is_saying_in" "is_saying_in" (defArgs (tp 8)) (defBody (tp 8)) (defScope (tp 8)) .none kV3 dc3 pm3 an3 cd3 ct3, ["thing", "deep", "part"], ["thing", "deep"]⟩, ⟨f_dice_in, "dice_in", a4, tp 9, PySem.W.fnOf "dice_in" "dice_in" (defArgs (tp 9)) (defBody (tp 9)) (defScope (tp 9)) .none kV4 dc4 pm4 an4 cd4 ct4, ["saying", "part"], ["saying"]⟩, ⟨f_is_saying, "is_saying", a5, tp 10, PySem.W.fnOf "is_saying" "is_saying" (defArgs (tp 10)) (defBody (tp 10)) (defScope (tp 10)) .none kV5 dc5 pm5 an5 cd5 ct5, ["thing"], ["thing"]⟩, ⟨f_divisor, "divisor", a6, tp 12, PySem.W.fnOf "divisor" "divisor" (defArgs (tp 12)) (defBody (tp 12)) (defScope (tp 12)) .none kV6 dc6 pm6 an6 cd6 ct6, ["one", "other"], ["one", "other"]⟩, ⟨f_fraction, "fraction", a7, tp 13, PySem.W.fnOf "fraction" "fraction" (defArgs (tp 13)) (defBody (tp 13)) (defScope (tp 13)) .none kV7 dc7 pm7 an7 cd7 ct7, ["upper", "lower", "by"], ["upper", "lower"]⟩, ⟨f_sum_of, "sum_of", a8, tp 14, PySem.W.fnOf "sum_of" "sum_of" (defArgs (tp 14)) (defBody (tp 14)) (defScope (tp 14)) .none kV8 dc8 pm8 an8 cd8 ct8, ["one", "other"], ["one", "other"]⟩, ⟨f_product, "product", a9, tp 15, PySem.W.fnOf "product" "product" (defArgs (tp 15)) (defBody (tp 15)) (defScope (tp 15)) .none kV9 dc9 pm9 an9 cd9 ct9, ["one", "other"], ["one", "other"]⟩, ⟨f_added, "added", a10, tp 17, PySem.W.fnOf "added" "added" (defArgs (tp 17)) (defBody (tp 17)) (defScope (tp 17)) .none kV10 dc10 pm10 an10 cd10 ct10, ["book", "worth", "share"], ["book", "worth", "share"]⟩, ⟨f_put_together, "put_together", a11, tp 18, PySem.W.fnOf "put_together" "put_together" (defArgs (tp 18)) (defBody (tp 18)) (defScope (tp 18)) .none kV11 dc11 pm11 an11 cd11 ct11, ["one", "other", "word", "found", "mine", "yours"], ["one", "other", "word"]⟩, ⟨f_of_two, "of_two", a12, tp 19, PySem.W.fnOf "of_two" "of_two" (defArgs (tp 19)) (defBody (tp 19)) (defScope (tp 19)) .none kV12 dc12 pm12 an12 cd12 ct12, ["word", "mine", "yours"], ["word", "mine", "yours"]⟩, ⟨f_one_die, "one_die", a13, tp 20, PySem.W.fnOf "one_die" "one_die" (defArgs (tp 20)) (defBody (tp 20)) (defScope (tp 20)) .none kV13 dc13 pm13 an13 cd13 ct13, ["word", "sides", "last", "found", "face", "more", "worth"], ["word", "sides", "last"]⟩, ⟨f_kept_shares, "kept_shares", a14, tp 21, PySem.W.fnOf "kept_shares" "kept_shares" (defArgs (tp 21)) (defBody (tp 21)) (defScope (tp 21)) .none kV14 dc14 pm14 an14 cd14 ct14, ["word", "many", "sides", "kept", "rows", "turn", "longer", "row", "face", "found", "some"], ["word", "many", "sides", "kept"]⟩, ⟨f_book_of, "book_of", a15, tp 22, PySem.W.fnOf "book_of" "book_of" (defArgs (tp 22)) (defBody (tp 22)) (defScope (tp 22)) .none kV15 dc15 pm15 an15 cd15 ct15, ["saying", "word", "die", "found", "turn", "book", "worth"], ["saying"]⟩, ⟨f_shares, "shares", a16, tp 23, PySem.W.fnOf "shares" "shares" (defArgs (tp 23)) (defBody (tp 23)) (defScope (tp 23)) .none kV16 dc16 pm16 an16 cd16 ct16, ["saying", "book", "worth"], ["saying"]⟩, ⟨f_of_numbers, "of_numbers", a17, tp 26, PySem.W.fnOf "of_numbers" "of_numbers" (defArgs (tp 26)) (defBody (tp 26)) (defScope (tp 26)) .none kV17 dc17 pm17 an17 cd17 ct17, ["saying", "worth"], ["saying"]⟩, ⟨f_of_nothing, "of_nothing", a18, tp 27, PySem.W.fnOf "of_nothing" "of_nothing" (defArgs (tp 27)) (defBody (tp 27)) (defScope (tp 27)) .none kV18 dc18 pm18 an18 cd18 ct18, ["saying", "word"], ["saying"]⟩, ⟨f_simple, "simple", a19, tp 28, PySem.W.fnOf "simple" "simple" (defArgs (tp 28)) (defBody (tp 28)) (defScope (tp 28)) .none kV19 dc19 pm19 an19 cd19 ct19, ["saying", "word"], ["saying"]⟩, ⟨f_is_simple, "is_simple", a20, tp 29, PySem.W.fnOf "is_simple" "is_simple" (defArgs (tp 29)) (defBody (tp 29)) (defScope (tp 29)) .none kV20 dc20 pm20 an20 cd20 ct20, ["saying"], ["saying"]⟩, ⟨f_in_brackets, "in_brackets", a21, tp 34, PySem.W.fnOf "in_brackets" "in_brackets" (defArgs (tp 34)) (defBody (tp 34)) (defScope (tp 34)) .none kV21 dc21 pm21 an21 cd21 ct21, ["saying", "words"], ["saying", "words"]⟩, ⟨f_written, "written", a22, tp 35, PySem.W.fnOf "written" "written" (defArgs (tp 35)) (defBody (tp 35)) (defScope (tp 35)) .none kV22 dc22 pm22 an22 cd22 ct22, ["saying", "word", "found"], ["saying"]⟩, ⟨f_l_cell, "_law_cell", a23, tp 37, PySem.W.fnOf "_law_cell" "_law_cell" (defArgs (tp 37)) (defBody (tp 37)) (defScope (tp 37)) .none kV23 dc23 pm23 an23 cd23 ct23, ["_law_script", "_law_k"], ["_law_script", "_law_k"]⟩, ⟨f_l_mix, "_law_mix", a24, tp 38, PySem.W.fnOf "_law_mix" "_law_mix" (defArgs (tp 38)) (defBody (tp 38)) (defScope (tp 38)) .none kV24 dc24 pm24 an24 cd24 ct24, ["_law_cell_here", "_law_prime", "_law_many_here", "_law_blend"], ["_law_cell_here", "_law_prime", "_law_many_here"]⟩, ⟨f_l_dice, "_law_dice", a25, tp 39, PySem.W.fnOf "_law_dice" "_law_dice" (defArgs (tp 39)) (defBody (tp 39)) (defScope (tp 39)) .none kV25 dc25 pm25 an25 cd25 ct25, ["_law_cell_here", "_law_most", "_law_word", "_law_many_here", "_law_sides", "_law_low", "_law_high"], ["_law_cell_here", "_law_most"]⟩, ⟨f_l_many, "_law_many", a26, tp 40, PySem.W.fnOf "_law_many" "_law_many" (defArgs (tp 40)) (defBody (tp 40)) (defScope (tp 40)) .none kV26 dc26 pm26 an26 cd26 ct26, ["_law_saying_here", "_law_part"], ["_law_saying_here"]⟩, ⟨f_l_saying, "_law_saying", a27, tp 41, PySem.W.fnOf "_law_saying" "_law_saying" (defArgs (tp 41)) (defBody (tp 41)) (defScope (tp 41)) .none kV27 dc27 pm27 an27 cd27 ct27, ["_law_cell_here", "_law_deep", "_law_most", "_law_way", "_law_one", "_law_other"], ["_law_cell_here", "_law_deep", "_law_most"]⟩, ⟨f_l_odd_b, "_law_odd", a28, tp 42, PySem.W.fnOf "_law_odd" "_law_odd" (defArgs (tp 42)) (defBody (tp 42)) (defScope (tp 42)) .none kV28 dc28 pm28 an28 cd28 ct28, ["_law_cell_here", "_law_saying_here", "_law_at", "_law_number", "_law_way"], ["_law_cell_here"]⟩, ⟨f_law15, "law", fa, tp 43, PySem.W.fnOf "law" "law" (defArgs (tp 43)) (defBody (tp 43)) (defScope (tp 43)) .none kV29 dc29 pm29 an29 cd29 ct29, ["_law_script", "_law_k", "_law_cell_here", "_law_saying_here", "_law_told"], ["_law_script"]⟩] : List Df), DefOk PU (([⟨f_is_whole, "is_whole", a0, tp 5, PySem.W.fnOf "is_whole" "is_whole" (defArgs (tp 5)) (defBody (tp 5)) (defScope (tp 5)) .none kV0 dc0 pm0 an0 cd0 ct0, ["thing", "low", "high"], ["thing", "low", "high"]⟩, ⟨f_is_last, "is_last", a1, tp 6, PySem.W.fnOf "is_last" "is_last" (defArgs (tp 6)) (defBody (tp 6)) (defScope (tp 6)) .none kV1 dc1 pm1 an1 cd1 ct1, ["word", "many", "sides", "last"], ["word", "many", "sides", "last"]⟩, ⟨f_is_dice, "is_dice", a2, tp 7, PySem.W.fnOf "is_dice" "is_dice" (defArgs (tp 7)) (defBody (tp 7)) (defScope (tp 7)) .none kV2 dc2 pm2 an2 cd2 ct2, ["thing"], ["thing"]⟩, ⟨f_is_saying_in, "is_saying_in", a3, tp 8, PySem.W.fnOf "is_saying_in" "is_saying_in" (defArgs (tp 8)) (defBody (tp 8)) (defScope (tp 8)) .none kV3 dc3 pm3 an3 cd3 ct3, ["thing", "deep", "part"], ["thing", "deep"]⟩, ⟨f_dice_in, "dice_in", a4, tp 9, PySem.W.fnOf "dice_in" "dice_in" (defArgs (tp 9)) (defBody (tp 9)) (defScope (tp 9)) .none kV4 dc4 pm4 an4 cd4 ct4, ["saying", "part"], ["saying"]⟩, ⟨f_is_saying, "is_saying", a5, tp 10, PySem.W.fnOf "is_saying" "is_saying" (defArgs (tp 10)) (defBody (tp 10)) (defScope (tp 10)) .none kV5 dc5 pm5 an5 cd5 ct5, ["thing"], ["thing"]⟩, ⟨f_divisor, "divisor", a6, tp 12, PySem.W.fnOf "divisor" "divisor" (defArgs (tp 12)) (defBody (tp 12)) (defScope (tp 12)) .none kV6 dc6 pm6 an6 cd6 ct6, ["one", "other"], ["one", "other"]⟩, ⟨f_fraction, "fraction", a7, tp 13, PySem.W.fnOf "fraction" "fraction" (defArgs (tp 13)) (defBody (tp 13)) (defScope (tp 13)) .none kV7 dc7 pm7 an7 cd7 ct7, ["upper", "lower", "by"], ["upper", "lower"]⟩, ⟨f_sum_of, "sum_of", a8, tp 14, PySem.W.fnOf "sum_of" "sum_of" (defArgs (tp 14)) (defBody (tp 14)) (defScope (tp 14)) .none kV8 dc8 pm8 an8 cd8 ct8, ["one", "other"], ["one", "other"]⟩, ⟨f_product, "product", a9, tp 15, PySem.W.fnOf "product" "product" (defArgs (tp 15)) (defBody (tp 15)) (defScope (tp 15)) .none kV9 dc9 pm9 an9 cd9 ct9, ["one", "other"], ["one", "other"]⟩, ⟨f_added, "added", a10, tp 17, PySem.W.fnOf "added" "added" (defArgs (tp 17)) (defBody (tp 17)) (defScope (tp 17)) .none kV10 dc10 pm10 an10 cd10 ct10, ["book", "worth", "share"], ["book", "worth", "share"]⟩, ⟨f_put_together, "put_together", a11, tp 18, PySem.W.fnOf "put_together" "put_together" (defArgs (tp 18)) (defBody (tp 18)) (defScope (tp 18)) .none kV11 dc11 pm11 an11 cd11 ct11, ["one", "other", "word", "found", "mine", "yours"], ["one", "other", "word"]⟩, ⟨f_of_two, "of_two", a12, tp 19, PySem.W.fnOf "of_two" "of_two" (defArgs (tp 19)) (defBody (tp 19)) (defScope (tp 19)) .none kV12 dc12 pm12 an12 cd12 ct12, ["word", "mine", "yours"], ["word", "mine", "yours"]⟩, ⟨f_one_die, "one_die", a13, tp 20, PySem.W.fnOf "one_die" "one_die" (defArgs (tp 20)) (defBody (tp 20)) (defScope (tp 20)) .none kV13 dc13 pm13 an13 cd13 ct13, ["word", "sides", "last", "found", "face", "more", "worth"], ["word", "sides", "last"]⟩, ⟨f_kept_shares, "kept_shares", a14, tp 21, PySem.W.fnOf "kept_shares" "kept_shares" (defArgs (tp 21)) (defBody (tp 21)) (defScope (tp 21)) .none kV14 dc14 pm14 an14 cd14 ct14, ["word", "many", "sides", "kept", "rows", "turn", "longer", "row", "face", "found", "some"], ["word", "many", "sides", "kept"]⟩, ⟨f_book_of, "book_of", a15, tp 22, PySem.W.fnOf "book_of" "book_of" (defArgs (tp 22)) (defBody (tp 22)) (defScope (tp 22)) .none kV15 dc15 pm15 an15 cd15 ct15, ["saying", "word", "die", "found", "turn", "book", "worth"], ["saying"]⟩, ⟨f_shares, "shares", a16, tp 23, PySem.W.fnOf "shares" "shares" (defArgs (tp 23)) (defBody (tp 23)) (defScope (tp 23)) .none kV16 dc16 pm16 an16 cd16 ct16, ["saying", "book", "worth"], ["saying"]⟩, ⟨f_of_numbers, "of_numbers", a17, tp 26, PySem.W.fnOf "of_numbers" "of_numbers" (defArgs (tp 26)) (defBody (tp 26)) (defScope (tp 26)) .none kV17 dc17 pm17 an17 cd17 ct17, ["saying", "worth"], ["saying"]⟩, ⟨f_of_nothing, "of_nothing", a18, tp 27, PySem.W.fnOf "of_nothing" "of_nothing" (defArgs (tp 27)) (defBody (tp 27)) (defScope (tp 27)) .none kV18 dc18 pm18 an18 cd18 ct18, ["saying", "word"], ["saying"]⟩, ⟨f_simple, "simple", a19, tp 28, PySem.W.fnOf "simple" "simple" (defArgs (tp 28)) (defBody (tp 28)) (defScope (tp 28)) .none kV19 dc19 pm19 an19 cd19 ct19, ["saying", "word"], ["saying"]⟩, ⟨f_is_simple, "is_simple", a20, tp 29, PySem.W.fnOf "is_simple" "is_simple" (defArgs (tp 29)) (defBody (tp 29)) (defScope (tp 29)) .none kV20 dc20 pm20 an20 cd20 ct20, ["saying"], ["saying"]⟩, ⟨f_in_brackets, "in_brackets", a21, tp 34, PySem.W.fnOf "in_brackets" "in_brackets" (defArgs (tp 34)) (defBody (tp 34)) (defScope (tp 34)) .none kV21 dc21 pm21 an21 cd21 ct21, ["saying", "words"], ["saying", "words"]⟩, ⟨f_written, "written", a22, tp 35, PySem.W.fnOf "written" "written" (defArgs (tp 35)) (defBody (tp 35)) (defScope (tp 35)) .none kV22 dc22 pm22 an22 cd22 ct22, ["saying", "word", "found"], ["saying"]⟩, ⟨f_l_cell, "_law_cell", a23, tp 37, PySem.W.fnOf "_law_cell" "_law_cell" (defArgs (tp 37)) (defBody (tp 37)) (defScope (tp 37)) .none kV23 dc23 pm23 an23 cd23 ct23, ["_law_script", "_law_k"], ["_law_script", "_law_k"]⟩, ⟨f_l_mix, "_law_mix", a24, tp 38, PySem.W.fnOf "_law_mix" "_law_mix" (defArgs (tp 38)) (defBody (tp 38)) (defScope (tp 38)) .none kV24 dc24 pm24 an24 cd24 ct24, ["_law_cell_here", "_law_prime", "_law_many_here", "_law_blend"], ["_law_cell_here", "_law_prime", "_law_many_here"]⟩, ⟨f_l_dice, "_law_dice", a25, tp 39, PySem.W.fnOf "_law_dice" "_law_dice" (defArgs (tp 39)) (defBody (tp 39)) (defScope (tp 39)) .none kV25 dc25 pm25 an25 cd25 ct25, ["_law_cell_here", "_law_most", "_law_word", "_law_many_here", "_law_sides", "_law_low", "_law_high"], ["_law_cell_here", "_law_most"]⟩, ⟨f_l_many, "_law_many", a26, tp 40, PySem.W.fnOf "_law_many" "_law_many" (defArgs (tp 40)) (defBody (tp 40)) (defScope (tp 40)) .none kV26 dc26 pm26 an26 cd26 ct26, ["_law_saying_here", "_law_part"], ["_law_saying_here"]⟩, ⟨f_l_saying, "_law_saying", a27, tp 41, PySem.W.fnOf "_law_saying" "_law_saying" (defArgs (tp 41)) (defBody (tp 41)) (defScope (tp 41)) .none kV27 dc27 pm27 an27 cd27 ct27, ["_law_cell_here", "_law_deep", "_law_most", "_law_way", "_law_one", "_law_other"], ["_law_cell_here", "_law_deep", "_law_most"]⟩, ⟨f_l_odd_b, "_law_odd", a28, tp 42, PySem.W.fnOf "_law_odd" "_law_odd" (defArgs (tp 42)) (defBody (tp 42)) (defScope (tp 42)) .none kV28 dc28 pm28 an28 cd28 ct28, ["_law_cell_here", "_law_saying_here", "_law_at", "_law_number", "_law_way"], ["_law_cell_here"]⟩, ⟨f_law15, "law", fa, tp 43, PySem.W.fnOf "law" "law" (defArgs (tp 43)) (defBody (tp 43)) (defScope (tp 43)) .none kV29 dc29 pm29 an29 cd29 ct29, ["_law_script", "_law_k", "_law_cell_here", "_law_saying_here", "_law_told"], ["_law_script"]⟩] : List Df).map fun d => (d.nm, d.f)) gls bls K mg d := by
    intro d hm
    simp only [List.mem_cons, List.not_mem_nil, or_false] at hm
    rcases hm with rfl | rfl | rfl | rfl | rfl | rfl | rfl | rfl | rfl | rfl | rfl | rfl | rfl | rfl | rfl | rfl | rfl | rfl | rfl | rfl | rfl | rfl | rfl | rfl | rfl | rfl | rfl | rfl | rfl | rfl
    · exact ⟨F0, sc0, PySem.W.mg_of X Gs n0, b0, ck0, rfl, rfl⟩
    · exact ⟨F1, sc1, PySem.W.mg_of X Gs n1, b1, ck1, rfl, rfl⟩
    · exact ⟨F2, sc2, PySem.W.mg_of X Gs n2, b2, ck2, rfl, rfl⟩
    · exact ⟨F3, sc3, PySem.W.mg_of X Gs n3, b3, ck3, rfl, rfl⟩
    · exact ⟨F4, sc4, PySem.W.mg_of X Gs n4, b4, ck4, rfl, rfl⟩
    · exact ⟨F5, sc5, PySem.W.mg_of X Gs n5, b5, ck5, rfl, rfl⟩
    · exact ⟨F6, sc6, PySem.W.mg_of X Gs n6, b6, ck6, rfl, rfl⟩
    · exact ⟨F7, sc7, PySem.W.mg_of X Gs n7, b7, ck7, rfl, rfl⟩
    · exact ⟨F8, sc8, PySem.W.mg_of X Gs n8, b8, ck8, rfl, rfl⟩
    · exact ⟨F9, sc9, PySem.W.mg_of X Gs n9, b9, ck9, rfl, rfl⟩
    · exact ⟨F10, sc10, PySem.W.mg_of X Gs n10, b10, ck10, rfl, rfl⟩
    · exact ⟨F11, sc11, PySem.W.mg_of X Gs n11, b11, ck11, rfl, rfl⟩
    · exact ⟨F12, sc12, PySem.W.mg_of X Gs n12, b12, ck12, rfl, rfl⟩
    · exact ⟨F13, sc13, PySem.W.mg_of X Gs n13, b13, ck13, rfl, rfl⟩
    · exact ⟨F14, sc14, PySem.W.mg_of X Gs n14, b14, ck14, rfl, rfl⟩
    · exact ⟨F15, sc15, PySem.W.mg_of X Gs n15, b15, ck15, rfl, rfl⟩
    · exact ⟨F16, sc16, PySem.W.mg_of X Gs n16, b16, ck16, rfl, rfl⟩
    · exact ⟨F17, sc17, PySem.W.mg_of X Gs n17, b17, ck17, rfl, rfl⟩
    · exact ⟨F18, sc18, PySem.W.mg_of X Gs n18, b18, ck18, rfl, rfl⟩
    · exact ⟨F19, sc19, PySem.W.mg_of X Gs n19, b19, ck19, rfl, rfl⟩
    · exact ⟨F20, sc20, PySem.W.mg_of X Gs n20, b20, ck20, rfl, rfl⟩
    · exact ⟨F21, sc21, PySem.W.mg_of X Gs n21, b21, ck21, rfl, rfl⟩
    · exact ⟨F22, sc22, PySem.W.mg_of X Gs n22, b22, ck22, rfl, rfl⟩
    · exact ⟨F23, sc23, PySem.W.mg_of X Gs n23, b23, ck23, rfl, rfl⟩
    · exact ⟨F24, sc24, PySem.W.mg_of X Gs n24, b24, ck24, rfl, rfl⟩
    · exact ⟨F25, sc25, PySem.W.mg_of X Gs n25, b25, ck25, rfl, rfl⟩
    · exact ⟨F26, sc26, PySem.W.mg_of X Gs n26, b26, ck26, rfl, rfl⟩
    · exact ⟨F27, sc27, PySem.W.mg_of X Gs n27, b27, ck27, rfl, rfl⟩
    · exact ⟨F28, sc28, PySem.W.mg_of X Gs n28, b28, ck28, rfl, rfl⟩
    · exact ⟨F29, sc29, PySem.W.mg_of X Gs n29, b29, ck29, rfl, rfl⟩
  have bl : ∀ x, bls.contains x = true → mg x = none := by
    intro x hx
    unfold bls at hx
    simp only [List.contains_cons, List.contains_nil, Bool.or_eq_true, Bool.or_false, beq_iff_eq] at hx
    rcases hx with rfl | rfl | rfl | rfl | rfl | rfl | rfl | rfl | rfl | rfl | rfl | rfl | rfl
    · exact PySem.W.mg_none_of X Gs z0
    · exact PySem.W.mg_none_of X Gs z1
    · exact PySem.W.mg_none_of X Gs z2
    · exact PySem.W.mg_none_of X Gs z3
    · exact PySem.W.mg_none_of X Gs z4
    · exact PySem.W.mg_none_of X Gs z5
    · exact PySem.W.mg_none_of X Gs z6
    · exact PySem.W.mg_none_of X Gs z7
    · exact PySem.W.mg_none_of X Gs z8
    · exact PySem.W.mg_none_of X Gs z9
    · exact PySem.W.mg_none_of X Gs z10
    · exact PySem.W.mg_none_of X Gs z11
    · exact PySem.W.mg_none_of X Gs z12
  have gl : ∀ x g, gls.lookup x = some g → ∃ v u, mg x = some u ∧ RelV v u ∧ ∀ π m H, Rep (Gv K w) π m H v (PU.glo g) := by
    intro x g hx
    unfold gls at hx
    rw [List.lookup_cons] at hx
    split at hx
    · rename_i ex
      cases hx
      cases eq_of_beq ex
      exact ⟨.ref ga0, _, PySem.W.mg_of X Gs g0, rfl, fun _ _ _ => .ktup (xs := [V.str (toStr (wd 7)), V.str (toStr (wd 8)), V.str (toStr (wd 9)), V.str (toStr (wd 10)), V.str (toStr (wd 11))]) ⟨_, _, _, q0, rfl, rfl, by rw [sizeLine_eq]; show 5 ≤ 16777216; decide, (.cons ⟨_, rfl⟩ (.cons ⟨_, rfl⟩ (.cons ⟨_, rfl⟩ (.cons ⟨_, rfl⟩ (.cons ⟨_, rfl⟩ .nil)))))⟩ (.cons (.str _) (.cons (.str _) (.cons (.str _) (.cons (.str _) (.cons (.str _) .nil))))) rfl⟩
    rw [List.lookup_cons] at hx
    split at hx
    · rename_i ex
      cases hx
      cases eq_of_beq ex
      exact ⟨.ref ga1, _, PySem.W.mg_of X Gs g1, rfl, fun _ _ _ => .ktup (xs := [V.str (toStr (wd 1)), V.str (toStr (wd 2)), V.str (toStr (wd 3)), V.str (toStr (wd 4)), V.str (toStr (wd 5)), V.str (toStr (wd 6))]) ⟨_, _, _, q1, rfl, rfl, by rw [sizeLine_eq]; show 6 ≤ 16777216; decide, (.cons ⟨_, rfl⟩ (.cons ⟨_, rfl⟩ (.cons ⟨_, rfl⟩ (.cons ⟨_, rfl⟩ (.cons ⟨_, rfl⟩ (.cons ⟨_, rfl⟩ .nil))))))⟩ (.cons (.str _) (.cons (.str _) (.cons (.str _) (.cons (.str _) (.cons (.str _) (.cons (.str _) .nil)))))) rfl⟩
    rw [List.lookup_cons] at hx
    split at hx
    · rename_i ex
      cases hx
      cases eq_of_beq ex
      exact ⟨.int 3, _, PySem.W.mg_of X Gs g2, ⟨_, rfl⟩, fun _ _ _ => .int _⟩
    rw [List.lookup_cons] at hx
    split at hx
    · rename_i ex
      cases hx
      cases eq_of_beq ex
      exact ⟨.int 6, _, PySem.W.mg_of X Gs g3, ⟨_, rfl⟩, fun _ _ _ => .int _⟩
    rw [List.lookup_cons] at hx
    split at hx
    · rename_i ex
      cases hx
      cases eq_of_beq ex
      exact ⟨.ref ga4, _, PySem.W.mg_of X Gs g4, rfl, fun _ _ _ => Rep.fk (kvs := [((wd 2), [104]), ((wd 3), [108]), ((wd 4), [114]), ((wd 5), [120]), ((wd 6), [99])]) (kd_of q4 kl4 lo4 pr4)⟩
    rw [List.lookup_cons] at hx
    split at hx
    · rename_i ex
      cases hx
      cases eq_of_beq ex
      exact ⟨.ref ga5, _, PySem.W.mg_of X Gs g5, rfl, fun _ _ _ => Rep.fk (kvs := [((wd 9), [109, 97, 120]), ((wd 10), [109, 105, 110]), ((wd 11), (wd 11))]) (kd_of q5 kl5 lo5 pr5)⟩
    rw [List.lookup_cons] at hx
    split at hx
    · rename_i ex
      cases hx
      cases eq_of_beq ex
      exact ⟨.ref ga6, _, PySem.W.mg_of X Gs g6, rfl, fun _ _ _ => Rep.fk (kvs := [((wd 7), [32, 43, 32]), ((wd 8), [32, 45, 32])]) (kd_of q6 kl6 lo6 pr6)⟩
    rw [List.lookup_cons] at hx
    split at hx
    · rename_i ex
      cases hx
      cases eq_of_beq ex
      exact ⟨.ref ga7, _, PySem.W.mg_of X Gs g7, rfl, fun _ _ _ => .ktup (xs := [V.str (toStr (wd 0)), V.int 0]) ⟨_, _, _, q7, rfl, rfl, by rw [sizeLine_eq]; show 2 ≤ 16777216; decide, (.cons ⟨_, rfl⟩ (.cons ⟨_, rfl⟩ .nil))⟩ (.cons (.str _) (.cons (.int _) .nil)) rfl⟩
    cases hx
  have A := fun base => all_ok (P := PU) (G := Gv K w) (base := base) (prog := P) _ rfl rfl bl gl hd 100 _ (List.mem_cons_of_mem _ (List.mem_cons_of_mem _ (List.mem_cons_of_mem _ (List.mem_cons_of_mem _ (List.mem_cons_of_mem _ (List.mem_cons_of_mem _ (List.mem_cons_of_mem _ (List.mem_cons_of_mem _ (List.mem_cons_of_mem _ (List.mem_cons_of_mem _ (List.mem_cons_of_mem _ (List.mem_cons_of_mem _ (List.mem_cons_of_mem _ (List.mem_cons_of_mem _ (List.mem_cons_of_mem _ (List.mem_cons_of_mem _ (List.mem_cons_of_mem _ (List.mem_cons_of_mem _ (List.mem_cons_of_mem _ (List.mem_cons_of_mem _ (List.mem_cons_of_mem _ (List.mem_cons_of_mem _ (List.mem_cons_of_mem _ (List.mem_cons_of_mem _ (List.mem_cons_of_mem _ (List.mem_cons_of_mem _ (List.mem_cons_of_mem _ (List.mem_cons_of_mem _ (List.mem_cons_of_mem _ (List.mem_cons_self))))))))))))))))))))))))))))))
  exact ⟨_, fun s v => .of_eq rfl, fun base _ _ => A base⟩
theorem walk {l : PySem.W.OpenLaw} {q : Program} {loose : List Str} {XP : (Str → Option Value) → Heap → Prop} {YP : World → Heap → Prop} {d : DefRec} {K : Params → PySem.W.Frag} (hn : l.most = some 63) (hdf : d.params.defaults = [])
    (hY : ∀ (w : World) (h : Heap), YP w h → (K w.params).In h)
    (F : ∀ (w : World) (mg : Str → Option Value) (fa : Addr) (h : Heap), (K w.params).In h → h.Ns mainGlobals mg → mg d.name = some (.ref fa) →
      ∃ fd : FuncData, (∀ (s : Shared) (u : Value), BindsTo s fd ⟨[u], []⟩ [("_law_script", u)]) ∧ ∀ base : Heap, (K w.params).In base → base.Ns mainGlobals mg → FnOk l.prog w (K w.params) mg base (L2.CX l.prog w) 100 fa fd ["_law_script"] (spF (Gv (K w.params) w) (interp PU 100 f_law15))) :
    PySem.W.WalkO q loose XP YP l.row.toRowW d [] (fun f vs => PySem.call f vs) :=
  L2.walk_of (n := 63) (k := 100) (x := "_law_script") (CX := fun w => L2.CX l.prog w) (sp := fun w => spF (Gv (K w.params) w) (interp PU 100 f_law15)) hn (by decide) hdf ⟨rfl, by decide, by decide⟩ hY F
    (fun w H a ns hl ho hs => law_sp (G := Gv (K w.params) w) rfl ho hs (Y.math15 ns hl)) fun w H s e s' z => by
      obtain ⟨_, _, _, _, _, _, _, _, _, _, _, _, q⟩ := z
      exact q
end Lk15
end Y
open PySem PySem.W PyProof.Rows
set_option maxRecDepth 100000 in
set_option maxHeartbeats 0 in
theorem PySem.Challenge.cw_diespeech_k15_whole_simpler_holds : PySem.Challenge.rw_diespeech_k15_whole_simpler.Holds := by
  w_on; o_law; k_head; (case hw => w_witness2)
  k_fill
  refine Y.Lk15.walk (l := PySem.Challenge.rw_diespeech_k15_whole_simpler) rfl rfl (fun w h Y => PySem.W.kIn_of Y) ?F
  case F =>
    intro w mg fa h KX G hmg
    refine' Y.Lk15.all_mk KX G hmg ?yn0 ?yl0 ?yc0 ?yk0 ?yn1 ?yl1 ?yc1 ?yk1 ?yn2 ?yl2 ?yc2 ?yk2 ?yn3 ?yl3 ?yc3 ?yk3 ?yn4 ?yl4 ?yc4 ?yk4 ?yn5 ?yl5 ?yc5 ?yk5 ?yn6 ?yl6 ?yc6 ?yk6 ?yn7 ?yl7 ?yc7 ?yk7 ?yn8 ?yl8 ?yc8 ?yk8 ?yn9 ?yl9 ?yc9 ?yk9 ?yn10 ?yl10 ?yc10 ?yk10 ?yn11 ?yl11 ?yc11 ?yk11 ?yn12 ?yl12 ?yc12 ?yk12 ?yn13 ?yl13 ?yc13 ?yk13 ?yn14 ?yl14 ?yc14 ?yk14 ?yn15 ?yl15 ?yc15 ?yk15 ?yn16 ?yl16 ?yc16 ?yk16 ?yn17 ?yl17 ?yc17 ?yk17 ?yn18 ?yl18 ?yc18 ?yk18 ?yn19 ?yl19 ?yc19 ?yk19 ?yn20 ?yl20 ?yc20 ?yk20 ?yn21 ?yl21 ?yc21 ?yk21 ?yn22 ?yl22 ?yc22 ?yk22 ?yn23 ?yl23 ?yc23 ?yk23 ?yn24 ?yl24 ?yc24 ?yk24 ?yn25 ?yl25 ?yc25 ?yk25 ?yn26 ?yl26 ?yc26 ?yk26 ?yn27 ?yl27 ?yc27 ?yk27 ?yn28 ?yl28 ?yc28 ?yk28 ?yn29 ?yl29 ?yc29 ?yk29 ?yz0 ?yz1 ?yz2 ?yz3 ?yz4 ?yz5 ?yz6 ?yz7 ?yz8 ?yz9 ?yz10 ?yz11 ?yz12 ?yg0 ?yq0 ?yg1 ?yq1 ?yg2 ?yg3 ?yg4 ?yq4 ?ykl4 ?ypr4 ?ylo4 ?yg5 ?yq5 ?ykl5 ?ypr5 ?ylo5 ?yg6 ?yq6 ?ykl6 ?ypr6 ?ylo6 ?yg7 ?yq7
    (case yn0 => k_is)
    (case yl0 => k_is)
    (case yc0 => k_is)
    (case yk0 => k_is)
    (case yn1 => k_is)
    (case yl1 => k_is)
    (case yc1 => k_is)
    (case yk1 => k_is)
    (case yn2 => k_is)
    (case yl2 => k_is)
    (case yc2 => k_is)
    (case yk2 => k_is)
    (case yn3 => k_is)
    (case yl3 => k_is)
    (case yc3 => k_is)
    (case yk3 => k_is)
    (case yn4 => k_is)
    (case yl4 => k_is)
    (case yc4 => k_is)
    (case yk4 => k_is)
    (case yn5 => k_is)
    (case yl5 => k_is)
    (case yc5 => k_is)
    (case yk5 => k_is)
    (case yn6 => k_is)
    (case yl6 => k_is)
    (case yc6 => k_is)
    (case yk6 => k_is)
    (case yn7 => k_is)
    (case yl7 => k_is)
    (case yc7 => k_is)
    (case yk7 => k_is)
    (case yn8 => k_is)
    (case yl8 => k_is)
    (case yc8 => k_is)
    (case yk8 => k_is)
    (case yn9 => k_is)
    (case yl9 => k_is)
    (case yc9 => k_is)
    (case yk9 => k_is)
    (case yn10 => k_is)
    (case yl10 => k_is)
    (case yc10 => k_is)
    (case yk10 => k_is)
    (case yn11 => k_is)
    (case yl11 => k_is)
    (case yc11 => k_is)
    (case yk11 => k_is)
    (case yn12 => k_is)
    (case yl12 => k_is)
    (case yc12 => k_is)
    (case yk12 => k_is)
    (case yn13 => k_is)
    (case yl13 => k_is)
    (case yc13 => k_is)
    (case yk13 => k_is)
    (case yn14 => k_is)
    (case yl14 => k_is)
    (case yc14 => k_is)
    (case yk14 => k_is)
    (case yn15 => k_is)
    (case yl15 => k_is)
    (case yc15 => k_is)
    (case yk15 => k_is)
    (case yn16 => k_is)
    (case yl16 => k_is)
    (case yc16 => k_is)
    (case yk16 => k_is)
    (case yn17 => k_is)
    (case yl17 => k_is)
    (case yc17 => k_is)
    (case yk17 => k_is)
    (case yn18 => k_is)
    (case yl18 => k_is)
    (case yc18 => k_is)
    (case yk18 => k_is)
    (case yn19 => k_is)
    (case yl19 => k_is)
    (case yc19 => k_is)
    (case yk19 => k_is)
    (case yn20 => k_is)
    (case yl20 => k_is)
    (case yc20 => k_is)
    (case yk20 => k_is)
    (case yn21 => k_is)
    (case yl21 => k_is)
    (case yc21 => k_is)
    (case yk21 => k_is)
    (case yn22 => k_is)
    (case yl22 => k_is)
    (case yc22 => k_is)
    (case yk22 => k_is)
    (case yn23 => k_is)
    (case yl23 => k_is)
    (case yc23 => k_is)
    (case yk23 => k_is)
    (case yn24 => k_is)
    (case yl24 => k_is)
    (case yc24 => k_is)
    (case yk24 => k_is)
    (case yn25 => k_is)
    (case yl25 => k_is)
    (case yc25 => k_is)
    (case yk25 => k_is)
    (case yn26 => k_is)
    (case yl26 => k_is)
    (case yc26 => k_is)
    (case yk26 => k_is)
    (case yn27 => k_is)
    (case yl27 => k_is)
    (case yc27 => k_is)
    (case yk27 => k_is)
    (case yn28 => k_is)
    (case yl28 => k_is)
    (case yc28 => k_is)
    (case yk28 => k_is)
    (case yn29 => k_is)
    (case yl29 => k_is)
    (case yc29 => k_is)
    (case yk29 => k_is)
    (case yz0 => k_is)
    (case yz1 => k_is)
    (case yz2 => k_is)
    (case yz3 => k_is)
    (case yz4 => k_is)
    (case yz5 => k_is)
    (case yz6 => k_is)
    (case yz7 => k_is)
    (case yz8 => k_is)
    (case yz9 => k_is)
    (case yz10 => k_is)
    (case yz11 => k_is)
    (case yz12 => k_is)
    (case yg0 => k_is)
    (case yq0 => k_is)
    (case yg1 => k_is)
    (case yq1 => k_is)
    (case yg2 => k_is)
    (case yg3 => k_is)
    (case yg4 => k_is)
    (case yq4 => k_is)
    (case ykl4 => exact ⟨⟨_, _, rfl, rfl⟩, ⟨_, _, rfl, rfl⟩, ⟨_, _, rfl, rfl⟩, ⟨_, _, rfl, rfl⟩, ⟨_, _, rfl, rfl⟩, trivial⟩)
    (case ypr4 => exact (.cons ⟨⟨_, rfl⟩, _, rfl⟩ (.cons ⟨⟨_, rfl⟩, _, rfl⟩ (.cons ⟨⟨_, rfl⟩, _, rfl⟩ (.cons ⟨⟨_, rfl⟩, _, rfl⟩ (.cons ⟨⟨_, rfl⟩, _, rfl⟩ .nil))))))
    (case ylo4 => rfl)
    (case yg5 => k_is)
    (case yq5 => k_is)
    (case ykl5 => exact ⟨⟨_, _, rfl, rfl⟩, ⟨_, _, rfl, rfl⟩, ⟨_, _, rfl, rfl⟩, trivial⟩)
    (case ypr5 => exact (.cons ⟨⟨_, rfl⟩, _, rfl⟩ (.cons ⟨⟨_, rfl⟩, _, rfl⟩ (.cons ⟨⟨_, rfl⟩, _, rfl⟩ .nil))))
    (case ylo5 => rfl)
    (case yg6 => k_is)
    (case yq6 => k_is)
    (case ykl6 => exact ⟨⟨_, _, rfl, rfl⟩, ⟨_, _, rfl, rfl⟩, trivial⟩)
    (case ypr6 => exact (.cons ⟨⟨_, rfl⟩, _, rfl⟩ (.cons ⟨⟨_, rfl⟩, _, rfl⟩ .nil)))
    (case ylo6 => rfl)
    (case yg7 => k_is)
    (case yq7 => k_is)


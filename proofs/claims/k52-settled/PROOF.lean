import PyProof.Rows.All
import Wide.All
import OpenK.AllK
import Wide.FinOn
import HandS.ForMost
import HandS.Wide
import HandS.TupAny
import HandS.TupMul
import HandS.Deep
import HandS.IsInst
import HandS.Exc
import HandS.WordsExc
import HandS.Flow
import HandS.Small
import HandS.DictTup
import HandS.SetFor
import HandS.TupSets
import KE.SortData
import KE.DataCmp
import HandS.ExcOwn
import KE.GoesEnum
import HandS.CallSlots
import HandS.HeadEnd
import HandS.Defaults
import HandS.Style
import HandS.Zip
import HandS.ExcIs
import HandS.HeadHook4
import KE.GoesZip
import KE.GoesMore
import HandS.TupLen
import KE.KDictCopyH
import KE.KDictOf
import KE.KDictZip
import KE.KDictItemsList
import HandS.ExcValue
import HandS.Head0
import HandS.Head1
import HandS.Head2
import HandS.HeadHook1
import HandS.HeadHook2
import HandS.HeadHook3
import PySem.Challenge.RW_meadshares_k52_whole_settled_at_last
set_option Elab.async false
set_option linter.all false
set_option maxRecDepth 100000
set_option maxHeartbeats 8000000
-- MsCore
/-! The deep embedding: data, values, store, syntax, the interpreter. -/
namespace MS
open PySem

abbrev D := PyData

structure Exc where
  cls : Nat
  args : List D

inductive Val where
  | d (x : D)
  | ref (n : Nat)
  | fn (i : Nat)
  | scr (ns : List Int)
  | exn (e : Exc)

inductive Ob where
  | lst (xs : List Val)
  | dct (kvs : List (List Int × Val))

abbrev Sto := List (Option Ob)
abbrev Env := List (Option Val)

inductive R (α : Type) where
  | stuck
  | ok (a : α) (S : Sto)
  | exc (e : Exc) (S : Sto)

def R.bind {α β : Type} : R α → (α → Sto → R β) → R β
  | .stuck, _ => .stuck
  | .ok a S, f => f a S
  | .exc e S, _ => .exc e S
@[simp] theorem R.bind_ok {α β : Type} (a : α) (S : Sto) (f : α → Sto → R β) : (R.ok a S).bind f = f a S := rfl
@[simp] theorem R.bind_stuck {α β : Type} (f : α → Sto → R β) : (R.stuck : R α).bind f = .stuck := rfl
@[simp] theorem R.bind_exc {α β : Type} (e : Exc) (S : Sto) (f : α → Sto → R β) : (R.exc e S : R α).bind f = .exc e S := rfl

def R.ofO {α : Type} (o : Option α) (S : Sto) : R α := match o with
  | some a => .ok a S
  | none => .stuck
@[simp] theorem R.ofO_some {α : Type} (a : α) (S : Sto) : R.ofO (some a) S = .ok a S := rfl
@[simp] theorem R.ofO_none {α : Type} (S : Sto) : R.ofO (none : Option α) S = .stuck := rfl

/-- the end of a statement -/
inductive RS where
  | stuck
  | nx (env : Env) (S : Sto)
  | ret (v : Val) (S : Sto)
  | brk (env : Env) (S : Sto)
  | cnt (env : Env) (S : Sto)
  | exc (e : Exc) (env : Env) (S : Sto)

def RS.ofR {α : Type} (env : Env) : R α → (α → Sto → RS) → RS
  | .stuck, _ => .stuck
  | .ok a S, f => f a S
  | .exc e S, _ => .exc e env S
@[simp] theorem RS.ofR_ok {α : Type} (env : Env) (a : α) (S : Sto) (f : α → Sto → RS) : RS.ofR env (R.ok a S) f = f a S := rfl
@[simp] theorem RS.ofR_stuck {α : Type} (env : Env) (f : α → Sto → RS) : RS.ofR env (R.stuck : R α) f = .stuck := rfl
@[simp] theorem RS.ofR_exc {α : Type} (env : Env) (e : Exc) (S : Sto) (f : α → Sto → RS) : RS.ofR env (R.exc e S : R α) f = .exc e env S := rfl
def RS.seq : RS → (Env → Sto → RS) → RS
  | .nx env S, f => f env S
  | r, _ => r
@[simp] theorem RS.seq_nx (env : Env) (S : Sto) (f : Env → Sto → RS) : (RS.nx env S).seq f = f env S := rfl
@[simp] theorem RS.seq_stuck (f : Env → Sto → RS) : (RS.stuck).seq f = .stuck := rfl
@[simp] theorem RS.seq_ret (v : Val) (S : Sto) (f : Env → Sto → RS) : (RS.ret v S).seq f = .ret v S := rfl
@[simp] theorem RS.seq_brk (env : Env) (S : Sto) (f : Env → Sto → RS) : (RS.brk env S).seq f = .brk env S := rfl
@[simp] theorem RS.seq_cnt (env : Env) (S : Sto) (f : Env → Sto → RS) : (RS.cnt env S).seq f = .cnt env S := rfl
@[simp] theorem RS.seq_exc (e : Exc) (env : Env) (S : Sto) (f : Env → Sto → RS) : (RS.exc e env S).seq f = .exc e env S := rfl

/-! ### data -/
/-- the items of a list or tuple datum all pure -/
def pureVs : List Val → Option (List D)
  | [] => some []
  | .d x :: r => (pureVs r).map (x :: ·)
  | _ :: _ => none
@[simp] theorem pureVs_map (xs : List D) : pureVs (xs.map Val.d) = some xs := by
  induction xs with
  | nil => rfl
  | cons x r ih => simp [pureVs, ih]

def stGet (S : Sto) (n : Nat) : Option Ob := (S[n]?).join

/-- a value as a datum, read through the store -/
def view (S : Sto) : Val → Option D
  | .d x => some x
  | .ref n => match stGet S n with
    | some (.lst vs) => (pureVs vs).map .list
    | _ => none
  | _ => none
@[simp] theorem view_d (S : Sto) (x : D) : view S (.d x) = some x := rfl

def sLine : Nat := 16777216

def truthD : D → Option Bool
  | .none => some false
  | .bool b => some b
  | .int i => some (i != 0)
  | .str x => if x.length ≤ sLine then some (x.length != 0) else none
  | .list xs => some (!xs.isEmpty)
  | .tuple xs => some (!xs.isEmpty)
  | .dict _ => none

inductive BOp where
  | add | sub | mul | fdiv | mod | pow
  deriving DecidableEq
inductive COp where
  | lt | le | gt | ge | eq | ne | isin | notin | iss | isnot
  deriving DecidableEq
inductive Ty where
  | int | bool | tuple | list | str | dict
  deriving DecidableEq
inductive Bi where
  | len | all | any | sum | int | tuple | list | sorted | dict | abs | str | repr | min | max
  deriving DecidableEq

def mulOk (i j : Int) : Bool := decide (-18446744073709551616 < i ∧ i < 18446744073709551616) || decide (-18446744073709551616 < j ∧ j < 18446744073709551616)

def binD : BOp → D → D → Option D
  | .add, .int a, .int b => some (.int (a + b))
  | .add, .list xs, .list ys => if xs.length + ys.length ≤ sLine then some (.list (xs ++ ys)) else none
  | .add, .tuple xs, .tuple ys => if xs.length + ys.length ≤ sLine then some (.tuple (xs ++ ys)) else none
  | .add, .str x, .str y => if x.length + y.length ≤ sLine then some (.str (x ++ y)) else none
  | .sub, .int a, .int b => some (.int (a - b))
  | .mul, .int a, .int b => if mulOk a b then some (.int (a * b)) else none
  | .mul, .tuple xs, .int k => if 0 ≤ k ∧ k ≤ 1000 ∧ xs.length ≤ 1000 then some (.tuple (List.replicate k.toNat xs).flatten) else none
  | .mul, .list xs, .int k => if 0 ≤ k ∧ k ≤ 1000 ∧ xs.length ≤ 1000 then some (.list (List.replicate k.toNat xs).flatten) else none
  | .mul, .str x, .int k => if 0 ≤ k ∧ k ≤ 1000 ∧ x.length ≤ 1000 then some (.str ⟨(List.replicate k.toNat x.cps.toList).flatten.toArray⟩) else none
  | .fdiv, .int a, .int b => if 0 < b ∧ b < 2147483648 then some (.int (a / b)) else none
  | .mod, .int a, .int b => if 0 < b then some (.int (a % b)) else none
  | .pow, .int a, .int b => if 0 ≤ b ∧ b ≤ 1000000 ∧ a.natAbs < 18446744073709551616 then some (.int (a ^ b.toNat)) else none
  | _, _, _ => none

/-- == of two data without dicts inside, one of them at most 64 deep -/
def eqOk (a b : D) : Bool := a.canLay0 && b.canLay0 && (decide (a.depth ≤ 64) || decide (b.depth ≤ 64))
/-- == with the lengths alone -/
def eqE : D → D → Option Bool
  | .list xs, .list ys => if xs.length = ys.length then (if xs.isEmpty then some true else none) else some false
  | .tuple xs, .tuple [] => some xs.isEmpty
  | _, _ => none
def eqD (a b : D) : Option Bool := if eqOk a b then some (PyData.eqv a b) else eqE a b
def inOk (a : D) (xs : List D) : Bool := SeqAt.shaped a && PyData.canLayAll0 xs
def inD (a : D) (xs : List D) : Option Bool := if inOk a xs then some (xs.any fun z => PyData.eqv z a) else none

def isNoneD : D → Bool
  | .none => true
  | _ => false

/-- < of two tuples that are alike -/
def ltOk (a b : D) : Bool := PySem.W.alike a b && (decide (a.depth ≤ 64) || decide (b.depth ≤ 64))
def ltD (a b : D) : Option Bool := if ltOk a b then some (PySem.W.dataLt a b) else none

def cmpD : COp → D → D → Option Bool
  | .lt, .int a, .int b => some (decide (a < b))
  | .le, .int a, .int b => some (decide (a ≤ b))
  | .gt, .int a, .int b => some (decide (b < a))
  | .ge, .int a, .int b => some (decide (b ≤ a))
  | .lt, .tuple xs, .tuple ys => ltD (.tuple xs) (.tuple ys)
  | .eq, .str a, .str b => some (decide (a = b))
  | .ne, .str a, .str b => some (!decide (a = b))
  | .eq, a, b => eqD a b
  | .ne, a, b => (eqD a b).map (!·)
  | .isin, a, .list xs => inD a xs
  | .notin, a, .list xs => (inD a xs).map (!·)
  | .isin, a, .tuple xs => inD a xs
  | .notin, a, .tuple xs => (inD a xs).map (!·)
  | .iss, a, .none => some (isNoneD a)
  | .isnot, a, .none => some (!isNoneD a)
  | _, _, _ => none

def isTy : Ty → D → Bool
  | .int, .int _ => true
  | .int, .bool _ => true
  | .bool, .bool _ => true
  | .tuple, .tuple _ => true
  | .list, .list _ => true
  | .str, .str _ => true
  | .dict, .dict _ => true
  | _, _ => false

/-- the place that an index of any sign means -/
def ixOf (n : Nat) (i : Int) : Option Nat := if 0 ≤ i then (if i < n then some i.toNat else none) else if -(n : Int) ≤ i then some (i + n).toNat else none
def atD {α : Type} (xs : List α) (i : Int) : Option α := (ixOf xs.length i).bind fun j => xs[j]?
def sIx (n d : Nat) : Option Int → Nat
  | none => d
  | some v => if v < 0 then (v + (n : Int)).toNat else min v.toNat n
def cut {α : Type} (xs : List α) (lo hi : Option Int) : List α := (xs.drop (sIx xs.length 0 lo)).take (sIx xs.length xs.length hi - sIx xs.length 0 lo)

def ixD : D → D → Option D
  | .list xs, .int i => atD xs i
  | .tuple xs, .int i => atD xs i
  | .str x, .int i => if x.length ≤ sLine then (atD x.cps.toList i).map fun c => .str ⟨#[c]⟩ else none
  | _, _ => none
def slD : D → Option Int → Option Int → Option D
  | .list xs, lo, hi => some (.list (cut xs lo hi))
  | .tuple xs, lo, hi => some (.tuple (cut xs lo hi))
  | .str x, lo, hi => if x.length ≤ sLine then some (.str ⟨(cut x.cps.toList lo hi).toArray⟩) else none
  | _, _, _ => none

def allB : List D → Option (List Bool)
  | [] => some []
  | .bool b :: r => (allB r).map (b :: ·)
  | _ :: _ => none
@[simp] theorem allB_map (bs : List Bool) : allB (bs.map PyData.bool) = some bs := by
  induction bs with
  | nil => rfl
  | cons x r ih => simp [allB, ih]
def allI : List D → Option (List Int)
  | [] => some []
  | .int b :: r => (allI r).map (b :: ·)
  | _ :: _ => none
@[simp] theorem allI_map (bs : List Int) : allI (bs.map PyData.int) = some bs := by
  induction bs with
  | nil => rfl
  | cons x r ih => simp [allI, ih]
/-- a list of pairs whose keys are ints -/
def allPairs : List D → Option (List (Int × D))
  | [] => some []
  | .tuple [.int k, x] :: r => (allPairs r).map ((k, x) :: ·)
  | _ :: _ => none

def lenD : D → Option Nat
  | .list xs => some xs.length
  | .tuple xs => some xs.length
  | .str x => if x.length ≤ sLine then some x.length else none
  | _ => none

/-- what can be shown -/
def reprOk (x : D) : Bool := x.showable && decide (x.depth ≤ 60) && decide (x.shown.length ≤ sLine)
def maxI : List Int → Option Int
  | [] => none
  | n :: ns => some (ns.foldl (fun a b => if a < b then b else a) n)
def minI : List Int → Option Int
  | [] => none
  | n :: ns => some (ns.foldl (fun a b => if b < a then b else a) n)
def biD : Bi → D → Option D
  | .len, x => (lenD x).map fun n => .int n
  | .all, .list xs => (allB xs).map fun bs => .bool (bs.all id)
  | .any, .list xs => (allB xs).map fun bs => .bool (bs.any id)
  | .sum, .list xs => (allI xs).map fun ns => .int ns.sum
  | .int, .int i => some (.int i)
  | .int, .bool b => some (.int (if b then 1 else 0))
  | .tuple, .list xs => some (.tuple xs)
  | .tuple, .tuple xs => some (.tuple xs)
  | .list, .list xs => some (.list xs)
  | .list, .tuple xs => some (.list xs)
  | .abs, .int i => some (.int (if i < 0 then -i else i))
  | .repr, x => if reprOk x then some (.str x.shown) else none
  | .max, .list xs => (allI xs).bind fun ns => (maxI ns).map fun n => .int n
  | .min, .list xs => (allI xs).bind fun ns => (minI ns).map fun n => .int n
  | _, _ => none

/-! ### sorting -/
/-- into its place, once -/
def insI (x : Int) : List Int → List Int
  | [] => [x]
  | y :: r => if x < y then x :: y :: r else if x = y then y :: r else y :: insI x r
def srtI (ns : List Int) : List Int := ns.foldr insI []
/-- pairs of ints, small ones -/
def isPr : D → Option (Int × Int)
  | .tuple [.int a, .int b] => if 0 ≤ a ∧ a < 64 ∧ 0 ≤ b ∧ b < 64 then some (a, b) else none
  | _ => none
def prD (p : Int × Int) : D := .tuple [.int p.1, .int p.2]
def prLt (p q : Int × Int) : Bool := decide (p.1 < q.1) || (decide (p.1 = q.1) && decide (p.2 < q.2))
/-- into its place, once -/
def insP (x : Int × Int) : List (Int × Int) → List (Int × Int)
  | [] => [x]
  | y :: r => if prLt x y then x :: y :: r else if x = y then y :: r else y :: insP x r
def srtP (ns : List (Int × Int)) : List (Int × Int) := ns.foldr insP []
def isTup1 : D → Bool
  | .tuple (_ :: _) => true
  | _ => false
def isOther : D → Bool
  | .tuple _ => false
  | .none => false
  | _ => true
def isTup : D → Bool
  | .tuple _ => true
  | _ => false
/-- tuples, the first one empty -/
def fstE : List D → Bool
  | .tuple [] :: r => r.all isTup
  | _ => false
def sortOk (xs : List D) : Bool := (xs.all fun a => xs.all fun b => PySem.W.alike a b) && (xs.all isTup1 || xs.all isOther || fstE xs) && decide (xs.length ≤ sLine) && xs.all fun a => decide (a.depth ≤ 60)
def sortD (xs : List D) : List D := xs.mergeSort (PySem.W.dataLe false id)
/-- sorted(xs), sorted(set(xs)) -/
def sortX (st : Bool) (xs : List D) : Option (List D) := match st with
  | false => if sortOk xs then some (sortD xs) else none
  | true => (allI xs).bind fun ns => if ns.length < 64 then some ((srtI ns).map PyData.int) else none

/-! ### syntax -/
mutual
inductive Tg where
  | name (i : Nat)
  | tup (ts : Tgs)
inductive Tgs where
  | nil
  | cons (t : Tg) (ts : Tgs)
end

/-- further operations: by their arguments' values -/
inductive XOp where
  | lzip
  deriving DecidableEq
mutual
inductive E where
  | var (i : Nat)
  | glob (g : Nat)
  | none
  | bool (b : Bool)
  | int (i : Int)
  | str (s : Str)
  | tup (es : Es)
  | lst (es : Es)
  | lstN (es : Es)
  | bin (o : BOp) (a b : E)
  | neg (a : E)
  | not (a : E)
  | bools (isAnd : Bool) (es : Es)
  | cmp (o : COp) (a b : E)
  | chain (o p : COp) (a b c : E)
  | ife (c a b : E)
  | ix (a i : E)
  | sl (a : E) (lo hi : Oe)
  | call (f : Nat) (es : Es)
  | bi (b : Bi) (a : E)
  | isi (a : E) (tys : List Ty)
  | lenSet (a : E)
  | dictOf (a : E)
  | dict1 (k v : E)
  | dict0
  | comp (own : List Nat) (tg : Tg) (it : It) (cs : Es) (elt : E)
  | fz (a : E)
  | isx (i : Nat) (yes no : List Nat) (d : Option Nat)
  | callP (f : Nat) (es : Es)
  | mm (isMax : Bool) (a b : E)
  | srt (st nw : Bool) (a : E)
  | dctN
  | newc (a : E)
  | rev (a : E)
  | srtP (a : E)
  | callL (fs : List Nat) (i : E) (es : Es)
  | dget (a k : E)
  | dgetZ (a k z : E)
  | din (neg : Bool) (k a : E)
  | dlen (a : E)
  | dcpy (a : E)
  | getI (a k z : E)
  | dict2 (a b c d : E)
  | xop (k : XOp) (a : E) (es : Es)
inductive Es where
  | nil
  | cons (e : E) (es : Es)
inductive Oe where
  | no
  | yes (e : E)
inductive It where
  | over (e : E)
  | range1 (e : E)
  | range2 (a b : E)
  | enum (e : E)
  | zip (a b : E)
  | items (e : E)
end

mutual
inductive St where
  | set (i : Nat) (e : E)
  | setc (i : Nat) (e : E)
  | unp (ts : Tgs) (e : E)
  | par (ts : List Nat) (es : Es)
  | setix (a i e : E)
  | setk (a : E) (ks : Es) (e : E)
  | setd (a k e : E)
  | st2 (a i b j : E) (es : Es)
  | expr (e : E)
  | app (a e : E)
  | ext (a e : E)
  | ifs (c : E) (t f : Sts)
  | fors (tg : Tg) (it : It) (b : Sts)
  | whil (n : Nat) (c : E) (b : Sts)
  | ret (e : E)
  | pass
  | brk
  | cnt
  | never
  | raise (c : Nat) (m : Str)
  | tri (b : Sts) (i : Nat) (yes no : List Nat) (d : Nat) (h : Sts)
inductive Sts where
  | nil
  | cons (s : St) (ss : Sts)
end

/-! ### the interpreter -/
abbrev Runner := Nat → List Val → Sto → R Val

def litI (G : List D) (g : Nat) : Option D := G[g]?

def truthV (S : Sto) (v : Val) : Option Bool := (view S v).bind truthD

def Val.plain : Val → Option Val
  | .exn _ => Option.none
  | v => some v
def Val.exc : Val → Option Exc
  | .exn e => some e
  | _ => Option.none
def lookE (env : Env) (i : Nat) : Option Val := ((env[i]?).join).bind Val.plain
/-- the slot of a caught exception -/
def lookX (env : Env) (i : Nat) : Option Exc := ((env[i]?).join).bind Val.exc
def noExn (env : Env) : Bool := env.all fun o => match o with | some (.exn _) => false | _ => true
def allO {α : Type} : List (Option α) → Option (List α)
  | [] => some []
  | some x :: r => (allO r).map (x :: ·)
  | Option.none :: _ => Option.none
/-- a value with all lists below it, read through the store -/
def deepV (S : Sto) : Nat → Val → Option D
  | _, .d x => some x
  | k + 1, .ref n => match stGet S n with
    | some (.lst vs) => (allO (vs.map (deepV S k))).map .list
    | _ => Option.none
  | _, _ => Option.none
def immB : D → Bool
  | .none => true
  | .bool _ => true
  | .int _ => true
  | .str _ => true
  | _ => false

def lenV (S : Sto) : Val → Option Nat
  | .scr ns => some ns.length
  | .ref n => match stGet S n with
    | some (.lst vs) => some vs.length
    | _ => Option.none
  | v => (view S v).bind lenD

def biV (S : Sto) (b : Bi) (v : Val) : Option D := match b, v with
  | .len, v => (lenV S v).map fun n => .int n
  | b, v => (view S v).bind (biD b)

def ixV (S : Sto) (v : Val) (i : D) : Option Val := match v, i with
  | .scr ns, .int i => (atD ns i).map fun n => .d (.int n)
  | .ref n, .int i => match stGet S n with
    | some (.lst vs) => atD vs i
    | _ => Option.none
  | .d x, i => (ixD x i).map .d
  | _, _ => Option.none

def slV (S : Sto) (v : Val) (lo hi : Option Int) : Option D := match v with
  | .scr ns => some (.list ((cut ns lo hi).map PyData.int))
  | v => (view S v).bind fun x => slD x lo hi

def isTyV (S : Sto) (tys : List Ty) (v : Val) : Option Bool := (view S v).map fun x => tys.any fun t => isTy t x

/-- what a for or a comprehension walks, and the store's lists that stand locked meanwhile -/
def itemsV (S : Sto) : Val → Option (List Val × List Nat)
  | .scr ns => some (ns.map (fun n => .d (.int n)), [])
  | .d (.list xs) => some (xs.map Val.d, [])
  | .d (.tuple xs) => some (xs.map Val.d, [])
  | .ref n => match stGet S n with
    | some (.lst vs) => some (vs, [n])
    | _ => Option.none
  | _ => Option.none

def pureItems (S : Sto) (v : Val) : Option (List D × List Nat) := (itemsV S v).bind fun p => (pureVs p.1).map fun xs => (xs, p.2)

def enumD (xs : List D) : List Val := (xs.zipIdx).map fun p => .d (.tuple [.int p.2, p.1])
def zipD (xs ys : List D) : List Val := (xs.zip ys).map fun p => .d (.tuple [p.1, p.2])

/-- two lists, or two tuples, of data -/
def zipV (S : Sto) (x y : Val) : Option (List Val × List Nat) := match x, y with
  | .d (.list xs), .d (.list ys) => some (zipD xs ys, [])
  | .d (.tuple xs), .d (.tuple ys) => some (zipD xs ys, [])
  | .d (.list xs), .d (.tuple ys) => some (zipD xs ys, [])
  | _, _ => none

/-- locked lists stand aside, and come back -/
def lockS (S : Sto) (l : List Nat) : Sto := l.foldl (fun S n => S.set n none) S
def unlockS (S0 S : Sto) (l : List Nat) : Sto := l.foldl (fun S n => S.set n ((S0[n]?).join)) S

def rangeVs (a b : Int) : List Val := (List.range (b - a).toNat).map fun (k : Nat) => .d (.int (a + k))

mutual
def setTg : Tg → Val → Env → Option Env
  | .name i, v, env => some (env.set i (some v))
  | .tup ts, .d (.tuple xs), env => setTgs ts xs env
  | _, _, _ => Option.none
def setTgs : Tgs → List D → Env → Option Env
  | .nil, [], env => some env
  | .cons t ts, x :: xs, env => (setTg t (.d x) env).bind fun env1 => setTgs ts xs env1
  | _, _, _ => Option.none
end

def wipeE (env : Env) : List Nat → Env
  | [] => env
  | v :: vs => (wipeE env vs).set v Option.none

def compL (f : Val → Sto → R (Option D)) : List Val → Sto → R (List D)
  | [], S => .ok [] S
  | x :: xs, S => (f x S).bind fun o S1 => (compL f xs S1).bind fun r S2 => .ok (match o with | some y => y :: r | Option.none => r) S2

/-- an exception out of a comprehension is not followed -/
def R.noexc {α : Type} : R α → R α
  | .exc _ _ => .stuck
  | r => r
@[simp] theorem R.noexc_ok {α : Type} (a : α) (S : Sto) : (R.ok a S).noexc = .ok a S := rfl
@[simp] theorem R.noexc_stuck {α : Type} : (R.stuck : R α).noexc = .stuck := rfl
@[simp] theorem R.noexc_exc {α : Type} (e : Exc) (S : Sto) : (R.exc e S : R α).noexc = .stuck := rfl

def firstStep (acc : List Int) (x : Int) : List Int := if acc.any (· == x) then acc else acc ++ [x]
def firsts (ns : List Int) : List Int := ns.foldl firstStep []
def isKeyI (k : Int) : D → Bool
  | .int j => j == k
  | _ => false
def putI (acc : List (D × D)) (kv : Int × D) : List (D × D) := if acc.any (fun p => isKeyI kv.1 p.1) then acc.map (fun p => if isKeyI kv.1 p.1 then (p.1, kv.2) else p) else acc ++ [(.int kv.1, kv.2)]
def mergeI (kvs : List (Int × D)) : List (D × D) := kvs.foldl putI []

/-- a list of the store becomes a datum: whoever else holds it loses it -/
def fzV (v : Val) (S : Sto) : R Val := match v with
  | .d x => .ok (.d x) S
  | .ref n => match stGet S n with
    | some (.lst vs) => match pureVs vs with
      | some ds => .ok (.d (.list ds)) (S.set n Option.none)
      | Option.none => .stuck
    | _ => .stuck
  | _ => .stuck

/-- a dict's own place for a key, or its end -/
def putD (es : List (List Int × Val)) (k : List Int) (v : Val) : List (List Int × Val) :=
  if (es.any fun p => decide (p.1 = k)) = true then es.map (fun p => if p.1 = k then (p.1, v) else p) else es ++ [(k, v)]
def itemD : List Int × Val → Option D
  | (k, .d x) => some (.tuple [.tuple (k.map PyData.int), x])
  | _ => Option.none
/-- the pairs of a dict; the dict is not asked again -/
def itemsDV (S : Sto) (v : Val) : R (List Val × List Nat) := match v with
  | .ref n => match stGet S n with
    | some (.dct es) => match allO (es.map itemD) with
      | some ds => .ok (ds.map Val.d, []) (S.set n Option.none)
      | Option.none => .stuck
    | _ => .stuck
  | _ => .stuck
def srtV (st nw : Bool) (S : Sto) (x : Val) : R Val := match view S x with
  | some (.list xs) => match sortX st xs with
    | some ys => if nw then .ok (.ref S.length) (S ++ [some (.lst (ys.map Val.d))]) else .ok (.d (.list ys)) S
    | Option.none => .stuck
  | some (.tuple xs) => match st with
    | false => match sortX false xs with
      | some ys => if nw then .ok (.ref S.length) (S ++ [some (.lst (ys.map Val.d))]) else .ok (.d (.list ys)) S
      | Option.none => .stuck
    | true => .stuck
  | _ => .stuck
/-- a list just made, as one of the store -/
def newV (v : Val) (S : Sto) : R Val := match v with
  | .d (.list ys) => .ok (.ref S.length) (S ++ [some (.lst (ys.map Val.d))])
  | _ => .stuck
/-- a call that sees the values as data and leaves the store -/
def callPV (C : Runner) (f : Nat) (vs : List Val) (S : Sto) : R Val := match allO (vs.map (deepV S 3)) with
  | some ds => match C f (ds.map Val.d) [] with
    | .ok (.d x) _ => if immB x then .ok (.d x) S else .stuck
    | _ => .stuck
  | Option.none => .stuck

/-- a key of a dict of the store -/
def keyV : Val → Option (List Int)
  | .d (.tuple ds) => allI ds
  | _ => Option.none
/-- a dict of the store -/
def dctV (S : Sto) : Val → Option (List (List Int × Val))
  | .ref n => match stGet S n with
    | some (.dct es) => some es
    | _ => Option.none
  | _ => Option.none
def lookD (es : List (List Int × Val)) (ks : List Int) : Option Val := (es.find? fun p => decide (p.1 = ks)).map (·.2)
/-- keys whose hashes are known to be apart -/
def smallK : List Int → Bool
  | [a, b] => decide (0 ≤ a) && decide (a < 8) && (decide (0 ≤ b) && decide (b < 8))
  | _ => false
def dcpyV (S : Sto) (x : Val) : R Val := match dctV S x with
  | some es => if es.all (fun p => smallK p.1) && decide (es.length ≤ 64) then .ok (.ref S.length) (S ++ [some (.dct es)]) else .stuck
  | Option.none => .stuck
/-- dicts as data, their keys ints -/
def lookI (es : List (D × D)) (k : Int) : Option D := (es.find? fun p => isKeyI k p.1).map (·.2)
def isDic : Val → Bool
  | .d (.dict _) => true
  | _ => false
def getIV (x y w : Val) : Option Val := match x, y, w with
  | .d (.dict es), .d (.int i), .d z => some (.d ((lookI es i).getD z))
  | _, _, _ => Option.none
def dict2V (x y z w : Val) : Option Val := match x, y, z, w with
  | .d (.int i), .d u, .d (.int j), .d g => some (.d (.dict (mergeI [(i, u), (j, g)])))
  | _, _, _, _ => Option.none
/-- sorted(set(xs)), xs a list of pairs -/
def srtPV (S : Sto) (x : Val) : R Val := match view S x with
  | some (.list xs) => match allO (xs.map isPr) with
    | some ps => if ps.length < 64 then .ok (.d (.list ((srtP ps).map prD))) S else .stuck
    | Option.none => .stuck
  | _ => .stuck
/-- list(zip(x, y)) -/
def lzV (x y : Val) : Option Val := match x, y with
  | .d (.list xs), .d (.list ys) => some (.d (.list ((xs.zip ys).map fun p => .tuple [p.1, p.2])))
  | .d (.tuple xs), .d (.tuple ys) => some (.d (.list ((xs.zip ys).map fun p => .tuple [p.1, p.2])))
  | _, _ => Option.none
/-- what is asked of the first value before the others are taken -/
def xopPre (k : XOp) (S : Sto) (x : Val) : Bool := match k with
  | .lzip => true
def xopV (k : XOp) (x : Val) (vs : List Val) (S : Sto) : R Val := match k, vs with
  | .lzip, [y] => .ofO (lzV x y) S
  | _, _ => .stuck
/-- one def out of a list -/
def pickF (fs : List Nat) : Val → Option Nat
  | .d (.int j) => atD fs j
  | _ => Option.none
def revV : Val → Option Val
  | .d (.tuple xs) => some (.d (.tuple xs.reverse))
  | _ => Option.none

section
variable (G : List D) (C : Runner)
mutual
def evE : E → Env → Sto → R Val
  | .var i, env, S => .ofO (lookE env i) S
  | .glob g, _, S => .ofO ((litI G g).map Val.d) S
  | .none, _, S => .ok (.d .none) S
  | .bool b, _, S => .ok (.d (.bool b)) S
  | .int i, _, S => .ok (.d (.int i)) S
  | .str s, _, S => .ok (.d (.str s)) S
  | .tup es, env, S => (evEs es env S).bind fun vs S1 => .ofO ((pureVs vs).map fun xs => .d (.tuple xs)) S1
  | .lst es, env, S => (evEs es env S).bind fun vs S1 => .ofO ((pureVs vs).map fun xs => .d (.list xs)) S1
  | .lstN es, env, S => (evEs es env S).bind fun vs S1 => .ok (.ref S1.length) (S1 ++ [some (.lst vs)])
  | .bin o a b, env, S => (evE a env S).bind fun x S1 => (evE b env S1).bind fun y S2 =>
      .ofO (((view S2 x).bind fun x => (view S2 y).bind fun y => binD o x y).map Val.d) S2
  | .neg a, env, S => (evE a env S).bind fun x S1 => .ofO (match x with | .d (.int i) => some (.d (.int (-i))) | _ => Option.none) S1
  | .not a, env, S => (evE a env S).bind fun v S1 => (R.ofO (truthV S1 v) S1).bind fun b S2 => .ok (.d (.bool (!b))) S2
  | .bools k es, env, S => evB k es env S
  | .cmp o a b, env, S => (evE a env S).bind fun x S1 => (evE b env S1).bind fun y S2 =>
      .ofO (((view S2 x).bind fun x => (view S2 y).bind fun y => cmpD o x y).map fun b => .d (.bool b)) S2
  | .chain o p a b c, env, S => (evE a env S).bind fun x S1 => (evE b env S1).bind fun y S2 =>
      (R.ofO ((view S2 x).bind fun x => (view S2 y).bind fun y => cmpD o x y) S2).bind fun k S3 =>
        if k then (evE c env S3).bind fun z S4 => .ofO (((view S4 y).bind fun y => (view S4 z).bind fun z => cmpD p y z).map fun b => .d (.bool b)) S4 else .ok (.d (.bool false)) S3
  | .ife c a b, env, S => (evE c env S).bind fun v S0 => (R.ofO (truthV S0 v) S0).bind fun k S1 => if k then evE a env S1 else evE b env S1
  | .ix a i, env, S => (evE a env S).bind fun x S1 => (evE i env S1).bind fun y S2 => .ofO (match y with | .d (.int i) => ixV S2 x (.int i) | _ => Option.none) S2
  | .sl a lo hi, env, S => (evE a env S).bind fun x S1 => (evO lo env S1).bind fun l S2 => (evO hi env S2).bind fun h S3 => .ofO ((slV S3 x l h).map Val.d) S3
  | .call f es, env, S => (evEs es env S).bind fun vs S1 => C f vs S1
  | .bi b a, env, S => (evE a env S).bind fun x S1 => .ofO ((biV S1 b x).map Val.d) S1
  | .isi a tys, env, S => (evE a env S).bind fun x S1 => .ofO ((isTyV S1 tys x).map fun b => .d (.bool b)) S1
  | .lenSet a, env, S => (evE a env S).bind fun x S1 => .ofO (match view S1 x with | some (.list xs) => (allI xs).bind fun ns => if ns.length ≤ 4000 then some (.d (.int (firsts ns).length)) else Option.none | _ => Option.none) S1
  | .dictOf a, env, S => (evE a env S).bind fun x S1 => .ofO (match view S1 x with | some (.list xs) => (allPairs xs).map fun kvs => .d (.dict (mergeI kvs)) | _ => Option.none) S1
  | .dict1 k v, env, S => (evE k env S).bind fun x S1 => (evE v env S1).bind fun y S2 => .ofO (match x, y with | .d (.int i), .d z => some (.d (.dict [(.int i, z)])) | _, _ => Option.none) S2
  | .dict0, _, S => .ok (.d (.dict [])) S
  | .comp own tg it cs elt, env, S => (evI it env S).bind fun p S1 =>
      (compL (fun x S => match setTg tg x (wipeE env own) with
        | some e2 => ((evCs cs e2 S).bind fun k S1 => if k then (evE elt e2 S1).bind fun y S2 => .ofO ((match y with | .d y => some (some y) | _ => Option.none)) S2 else .ok Option.none S1).noexc
        | Option.none => .stuck) p.1 (lockS S1 p.2)).bind fun ys S2 => .ok (.d (.list ys)) (unlockS S1 S2 p.2)
  | .fz a, env, S => (evE a env S).bind fun v S1 => fzV v S1
  | .isx i yes no _, env, S => .ofO ((lookX env i).bind fun e => if yes.contains e.cls then some (.d (.bool true)) else if no.contains e.cls then some (.d (.bool false)) else Option.none) S
  | .callP f es, env, S => (evEs es env S).bind fun vs S1 => callPV C f vs S1
  | .mm k a b, env, S => (evE a env S).bind fun x S1 => (evE b env S1).bind fun y S2 =>
      .ofO (match x, y with | .d (.int i), .d (.int j) => some (.d (.int (if k then (if j > i then j else i) else (if j < i then j else i)))) | _, _ => Option.none) S2
  | .srt st nw a, env, S => (evE a env S).bind fun x S1 => srtV st nw S1 x
  | .dctN, _, S => .ok (.ref S.length) (S ++ [some (.dct [])])
  | .newc a, env, S => (evE a env S).bind fun v S1 => newV v S1
  | .rev a, env, S => (evE a env S).bind fun v S1 => .ofO (revV v) S1
  | .srtP a, env, S => (evE a env S).bind fun v S1 => srtPV S1 v
  | .dget a k, env, S => (evE a env S).bind fun x S1 => (evE k env S1).bind fun y S2 => .ofO ((dctV S2 x).bind fun es => (keyV y).bind fun ks => lookD es ks) S2
  | .dgetZ a k z, env, S => (evE a env S).bind fun x S1 => if (dctV S1 x).isSome then (evE k env S1).bind fun y S2 => (evE z env S2).bind fun w S3 => .ofO ((dctV S3 x).bind fun es => (keyV y).map fun ks => (lookD es ks).getD w) S3 else .stuck
  | .din neg k a, env, S => (evE k env S).bind fun y S1 => (evE a env S1).bind fun x S2 => .ofO ((dctV S2 x).bind fun es => (keyV y).map fun ks => .d (.bool (if neg then !(lookD es ks).isSome else (lookD es ks).isSome))) S2
  | .dlen a, env, S => (evE a env S).bind fun x S1 => .ofO ((dctV S1 x).map fun es => .d (.int es.length)) S1
  | .dcpy a, env, S => (evE a env S).bind fun x S1 => dcpyV S1 x
  | .getI a k z, env, S => (evE a env S).bind fun x S1 => if isDic x then (evE k env S1).bind fun y S2 => (evE z env S2).bind fun w S3 => .ofO (getIV x y w) S3 else .stuck
  | .dict2 a b c d, env, S => (evE a env S).bind fun x S1 => (evE b env S1).bind fun y S2 => (evE c env S2).bind fun z S3 => (evE d env S3).bind fun w S4 => .ofO (dict2V x y z w) S4
  | .xop k a es, env, S => (evE a env S).bind fun x S1 => if xopPre k S1 x then (evEs es env S1).bind fun vs S2 => xopV k x vs S2 else .stuck
  | .callL fs i es, env, S => (evE i env S).bind fun y S1 => match pickF fs y with | some f => (evEs es env S1).bind fun vs S2 => C f vs S2 | Option.none => .stuck
/-- and, or: values -/
def evB (k : Bool) : Es → Env → Sto → R Val
  | .nil, _, _ => .stuck
  | .cons e .nil, env, S => evE e env S
  | .cons e es, env, S => (evE e env S).bind fun v S1 => (R.ofO (truthV S1 v) S1).bind fun b S2 => if b = k then evB k es env S2 else .ok v S2
/-- the ifs of a comprehension -/
def evCs : Es → Env → Sto → R Bool
  | .nil, _, S => .ok true S
  | .cons e .nil, env, S => (evE e env S).bind fun v S1 => .ofO (truthV S1 v) S1
  | _, _, _ => .stuck
def evEs : Es → Env → Sto → R (List Val)
  | .nil, _, S => .ok [] S
  | .cons e es, env, S => (evE e env S).bind fun v S1 => (evEs es env S1).bind fun vs S2 => .ok (v :: vs) S2
def evO : Oe → Env → Sto → R (Option Int)
  | .no, _, S => .ok Option.none S
  | .yes e, env, S => (evE e env S).bind fun v S1 => .ofO (match v with | .d (.int i) => some (some i) | _ => Option.none) S1
def evI : It → Env → Sto → R (List Val × List Nat)
  | .over e, env, S => (evE e env S).bind fun v S1 => .ofO (itemsV S1 v) S1
  | .range1 e, env, S => (evE e env S).bind fun v S1 => .ofO (match v with | .d (.int n) => if n ≤ 16777216 ∧ -16777216 ≤ n then some (rangeVs 0 n, []) else Option.none | _ => Option.none) S1
  | .range2 a b, env, S => (evE a env S).bind fun x S1 => (evE b env S1).bind fun y S2 =>
      .ofO (match x, y with | .d (.int i), .d (.int j) => if -8388608 ≤ i ∧ i ≤ 8388608 ∧ -8388608 ≤ j ∧ j ≤ 8388608 then some (rangeVs i j, []) else Option.none | _, _ => Option.none) S2
  | .enum e, env, S => (evE e env S).bind fun v S1 => .ofO ((pureItems S1 v).map fun p => (enumD p.1, p.2)) S1
  | .zip a b, env, S => (evE a env S).bind fun x S1 => (evE b env S1).bind fun y S2 =>
      .ofO (zipV S2 x y) S2
  | .items e, env, S => (evE e env S).bind fun v S1 => itemsDV S1 v
end

/-- a test -/
def evT (e : E) (env : Env) (S : Sto) : R Bool := (evE G C e env S).bind fun v S1 => .ofO (truthV S1 v) S1

def forL (f : Val → Env → Sto → RS) : List Val → Env → Sto → RS
  | [], env, S => .nx env S
  | x :: xs, env, S => match f x env S with
    | .nx env1 S1 => forL f xs env1 S1
    | .cnt env1 S1 => forL f xs env1 S1
    | .brk env1 S1 => .nx env1 S1
    | r => r
def whileL (c : Env → Sto → R Bool) (f : Env → Sto → RS) : Nat → Env → Sto → RS
  | 0, _, _ => .stuck
  | n + 1, env, S => RS.ofR env (c env S) fun b S1 => if b then (match f env S1 with
      | .nx env2 S2 => whileL c f n env2 S2
      | .cnt env2 S2 => whileL c f n env2 S2
      | .brk env2 S2 => .nx env2 S2
      | r => r) else .nx env S1

def RS.relock (S0 : Sto) (l : List Nat) : RS → RS
  | .nx env S => .nx env (unlockS S0 S l)
  | .ret v S => .ret v (unlockS S0 S l)
  | .exc e env S => .exc e env (unlockS S0 S l)
  | .brk env S => .brk env (unlockS S0 S l)
  | .cnt env S => .cnt env (unlockS S0 S l)
  | .stuck => .stuck

def isLst (S : Sto) : Val → Bool
  | .ref n => match stGet S n with
    | some (.lst _) => true
    | _ => false
  | _ => false
def appV (env : Env) (x v : Val) (S : Sto) : RS := match x with
  | .ref n => match stGet S n with
    | some (.lst vs) => if vs.length < sLine then .nx env (S.set n (some (.lst (vs ++ [v])))) else .stuck
    | _ => .stuck
  | _ => .stuck
def extV (env : Env) (x v : Val) (S : Sto) : RS := match x, view S v with
  | .ref n, some (.list ys) => match stGet S n with
    | some (.lst vs) => if vs.length + ys.length ≤ sLine then .nx env (S.set n (some (.lst (vs ++ ys.map Val.d)))) else .stuck
    | _ => .stuck
  | _, _ => .stuck
def sixV (env : Env) (x y v : Val) (S : Sto) : RS := match x, y with
  | .ref n, .d (.int j) => match stGet S n with
    | some (.lst vs) => match ixOf vs.length j with
      | some k => .nx env (S.set n (some (.lst (vs.set k v))))
      | Option.none => .stuck
    | _ => .stuck
  | _, _ => .stuck
def setkV (env : Env) (x : Val) (kv : List Val) (v : Val) (S : Sto) : RS := match x, (pureVs kv).bind allI with
  | .ref n, some ks => match stGet S n with
    | some (.dct es) => if es.length < sLine ∧ ks.length ≤ 1000 then .nx env (S.set n (some (.dct (putD es ks v)))) else .stuck
    | _ => .stuck
  | _, _ => .stuck
def setdV (env : Env) (x y v : Val) (S : Sto) : RS := match x, keyV y with
  | .ref n, some ks => match stGet S n with
    | some (.dct es) => if es.length < sLine ∧ ks.length ≤ 1000 then .nx env (S.set n (some (.dct (putD es ks v)))) else .stuck
    | _ => .stuck
  | _, _ => .stuck
/-- the end of an except suite -/
def sufS (i : Nat) : RS → RS
  | .nx env S => if noExn (env.set i Option.none) then .nx (env.set i Option.none) S else .stuck
  | .ret v S => .ret v S
  | _ => .stuck
def triS (b h : Env → Sto → RS) (i : Nat) (yes no : List Nat) (env : Env) (S : Sto) : RS := match b env S with
  | .exc e env1 S1 => if noExn env1 && e.args.isEmpty then (if yes.contains e.cls then sufS i (h (env1.set i (some (.exn e))) S1) else if no.contains e.cls then .exc e env1 S1 else .stuck) else .stuck
  | r => r
mutual
def exS : St → Env → Sto → RS
  | .set i e, env, S => .ofR env (evE G C e env S) fun v S1 => .nx (env.set i (some v)) S1
  | .setc i e, env, S => .ofR env (evE G C e env S) fun v S1 => .nx (env.set i (some v)) S1
  | .unp ts e, env, S => .ofR env (evE G C e env S) fun v S1 => match setTg (.tup ts) v env with
      | some env1 => .nx env1 S1
      | Option.none => .stuck
  | .par ts es, env, S => .ofR env (evEs G C es env S) fun vs S1 => if vs.length = ts.length then .nx ((ts.zip vs).foldl (fun env p => env.set p.1 (some p.2)) env) S1 else .stuck
  | .setix a i e, env, S => .ofR env (evE G C e env S) fun v S1 => .ofR env (evE G C a env S1) fun x S2 => .ofR env (evE G C i env S2) fun y S3 => sixV env x y v S3
  | .st2 a i b j es, env, S => .ofR env (evEs G C es env S) fun vs S1 => match vs with
    | [v, w] => .ofR env (evE G C a env S1) fun x S2 => .ofR env (evE G C i env S2) fun y S3 => (sixV env x y v S3).seq fun env S4 =>
        .ofR env (evE G C b env S4) fun x S5 => .ofR env (evE G C j env S5) fun y S6 => sixV env x y w S6
    | _ => .stuck
  | .setk a ks e, env, S => .ofR env (evE G C e env S) fun v S1 => .ofR env (evE G C a env S1) fun x S2 => .ofR env (evEs G C ks env S2) fun kv S3 => setkV env x kv v S3
  | .setd a k e, env, S => .ofR env (evE G C e env S) fun v S1 => .ofR env (evE G C a env S1) fun x S2 => .ofR env (evE G C k env S2) fun y S3 => setdV env x y v S3
  | .expr e, env, S => .ofR env (evE G C e env S) fun _ S1 => .nx env S1
  | .app a e, env, S => .ofR env (evE G C a env S) fun x S1 => if isLst S1 x then .ofR env (evE G C e env S1) fun v S2 => appV env x v S2 else .stuck
  | .ext a e, env, S => .ofR env (evE G C a env S) fun x S1 => if isLst S1 x then .ofR env (evE G C e env S1) fun v S2 => extV env x v S2 else .stuck
  | .ifs c t f, env, S => .ofR env (evT G C c env S) fun b S1 => if b then exSs t env S1 else exSs f env S1
  | .fors tg it b, env, S => .ofR env (evI G C it env S) fun p S1 =>
      (forL (fun x env S => match setTg tg x env with
        | some env1 => exSs b env1 S
        | Option.none => .stuck) p.1 env (lockS S1 p.2)).relock S1 p.2
  | .whil n c b, env, S => whileL (fun env S => evT G C c env S) (fun env S => exSs b env S) n env S
  | .ret e, env, S => .ofR env (evE G C e env S) fun v S1 => .ret v S1
  | .pass, env, S => .nx env S
  | .brk, env, S => .brk env S
  | .cnt, env, S => .cnt env S
  | .never, _, _ => .stuck
  | .raise c _, env, S => .exc ⟨c, []⟩ env S
  | .tri b i yes no _ h, env, S => triS (fun env S => exSs b env S) (fun env S => exSs h env S) i yes no env S
def exSs : Sts → Env → Sto → RS
  | .nil, env, S => .nx env S
  | .cons s ss, env, S => (exS s env S).seq fun env1 S1 => exSs ss env1 S1
end
end

structure Fn where
  params : Nat
  slots : Nat
  body : Sts

/-- the references of a store's object lie below n -/
def Val.below (n : Nat) : Val → Bool
  | .ref m => decide (m < n)
  | _ => true
def Ob.below (n : Nat) : Ob → Bool
  | .lst vs => vs.all (Val.below n)
  | .dct kvs => kvs.all fun p => p.2.below n
def belowS (n : Nat) (S : Sto) : Bool := S.all fun o => match o with | some o => o.below n | Option.none => true
/-- behind a call: what the callee made and did not hand back is forgotten -/
def cutS (n : Nat) (v : Val) (S : Sto) : Sto := match v with
  | .ref _ => S
  | _ => if belowS n (S.take n) then S.take n else S

def finish (n : Nat) : RS → R Val
  | .nx _ S => .ok (.d .none) (cutS n (.d .none) S)
  | .ret v S => .ok v (cutS n v S)
  | .exc e _ S => .exc e S
  | _ => .stuck

def run (G : List D) (P : Nat → Fn) : Nat → Runner
  | 0, _, _, _ => .stuck
  | k + 1, i, vs, S => if vs.length = (P i).params then
      finish S.length (exSs G (run G P k) (P i).body (vs.map some ++ List.replicate ((P i).slots - vs.length) Option.none) S)
    else .stuck
end MS

-- MsSim
/-! Representation of data in the abstract heap; the simulation relation; readings. -/
namespace MS
open PySem PySem.Spec PyProof.Rows L2

/-! ### data in the frozen part -/
def kD : Key → D
  | .inl i => .int i
  | .inr x => .str x
mutual
inductive Rep (K : PySem.W.Frag) (F : Hp) : V → D → Prop
  | non : Rep K F .non .none
  | bl (b : Bool) : Rep K F (.bl b) (.bool b)
  | int (i : Int) : Rep K F (.int i) (.int i)
  | str (x : Str) : Rep K F (.str x) (.str x)
  | lst {a : Addr} {xs : List V} {ds : List D} : F a = some (.lst xs) → Reps K F xs ds → Rep K F (.ref a) (.list ds)
  | tup {a : Addr} {xs : List V} {ds : List D} : F a = some (.tup xs) → Reps K F xs ds → Rep K F (.ref a) (.tuple ds)
  | dct {a : Addr} {ks : List Key} {xs : List V} {ds : List D} : F a = some (.dK (ks.zip xs)) → ks.length = xs.length → Reps K F xs ds → Rep K F (.ref a) (.dict ((ks.map kD).zip ds))
inductive Reps (K : PySem.W.Frag) (F : Hp) : List V → List D → Prop
  | nil : Reps K F [] []
  | cons {x : V} {xs : List V} {d : D} {ds : List D} : Rep K F x d → Reps K F xs ds → Reps K F (x :: xs) (d :: ds)
end

theorem SqT.mono {K : PySem.W.Frag} {F F' : Hp} (s : Same F F') {a : Addr} {xs : List V} (h : SqT K F a xs) : SqT K F' a xs := by
  rcases h with (h | ⟨o, h⟩) | h
  · exact .inl (.inl (s _ _ h))
  · exact .inl (.inr ⟨o, s _ _ h⟩)
  · exact .inr h
mutual
theorem Rep.mono {K : PySem.W.Frag} {F F' : Hp} (s : Same F F') : ∀ {x : V} {d : D}, Rep K F x d → Rep K F' x d
  | _, _, .non => .non
  | _, _, .bl b => .bl b
  | _, _, .int i => .int i
  | _, _, .str x => .str x
  | _, _, .lst h r => .lst (s _ _ h) (Reps.mono s r)
  | _, _, .tup h r => .tup (s _ _ h) (Reps.mono s r)
  | _, _, .dct h l r => .dct (s _ _ h) l (Reps.mono s r)
theorem Reps.mono {K : PySem.W.Frag} {F F' : Hp} (s : Same F F') : ∀ {x : List V} {d : List D}, Reps K F x d → Reps K F' x d
  | _, _, .nil => .nil
  | _, _, .cons h r => .cons (Rep.mono s h) (Reps.mono s r)
end
section
variable {K : PySem.W.Frag} {F : Hp}
theorem Reps.length : ∀ {xs : List V} {ds : List D}, Reps K F xs ds → xs.length = ds.length
  | _, _, .nil => rfl
  | _, _, .cons _ r => by simp [Reps.length r]
theorem Reps.append : ∀ {xs ys : List V} {ds es : List D}, Reps K F xs ds → Reps K F ys es → Reps K F (xs ++ ys) (ds ++ es)
  | _, _, _, _, .nil, s => s
  | _, _, _, _, .cons h r, s => .cons h (Reps.append r s)
theorem Reps.take : ∀ {xs : List V} {ds : List D} (n : Nat), Reps K F xs ds → Reps K F (xs.take n) (ds.take n)
  | _, _, 0, _ => by simp; exact .nil
  | _, _, n + 1, .nil => .nil
  | _, _, n + 1, .cons h r => .cons h (Reps.take n r)
theorem Reps.drop : ∀ {xs : List V} {ds : List D} (n : Nat), Reps K F xs ds → Reps K F (xs.drop n) (ds.drop n)
  | _, _, 0, r => r
  | _, _, n + 1, .nil => .nil
  | _, _, n + 1, .cons h r => Reps.drop n r
theorem Reps.get : ∀ {xs : List V} {ds : List D} {i : Nat} {d : D}, Reps K F xs ds → ds[i]? = some d → ∃ x, xs[i]? = some x ∧ Rep K F x d
  | _, _, _, _, .nil, e => by simp at e
  | _, _, 0, _, .cons h _, e => by simp at e; subst e; exact ⟨_, rfl, h⟩
  | _, _, i + 1, d, .cons _ t, e => by
    obtain ⟨x, h1, h2⟩ := Reps.get (i := i) (d := d) t (by simpa using e)
    exact ⟨x, by simpa using h1, h2⟩
theorem Reps.getV : ∀ {xs : List V} {ds : List D} {i : Nat} {x : V}, Reps K F xs ds → xs[i]? = some x → ∃ d, ds[i]? = some d ∧ Rep K F x d
  | _, _, _, _, .nil, e => by simp at e
  | _, _, 0, _, .cons h _, e => by simp at e; subst e; exact ⟨_, rfl, h⟩
  | _, _, i + 1, x, .cons _ t, e => by
    obtain ⟨d, h1, h2⟩ := Reps.getV (i := i) (x := x) t (by simpa using e)
    exact ⟨d, by simpa using h1, h2⟩
theorem Reps.rep_flat {xs : List V} {ds : List D} (r : Reps K F xs ds) : ∀ k : Nat, Reps K F (List.replicate k xs).flatten (List.replicate k ds).flatten
  | 0 => .nil
  | k + 1 => by
    rw [List.replicate_succ, List.replicate_succ, List.flatten_cons, List.flatten_cons]
    exact r.append (Reps.rep_flat r k)
theorem Reps.ints : ∀ {xs : List V} {ns : List Int}, Reps K F xs (ns.map PyData.int) → xs = ns.map V.int
  | _, [], h => by cases h; rfl
  | _, n :: ns, h => by
    cases h with
    | cons h r => cases h; rw [Reps.ints r]; rfl
theorem Reps.of_ints : ∀ (ns : List Int), Reps K F (ns.map V.int) (ns.map PyData.int)
  | [] => .nil
  | n :: ns => .cons (.int n) (Reps.of_ints ns)
theorem Reps.bools : ∀ {xs : List V} {ns : List Bool}, Reps K F xs (ns.map PyData.bool) → xs = ns.map V.bl
  | _, [], h => by cases h; rfl
  | _, n :: ns, h => by
    cases h with
    | cons h r => cases h; rw [Reps.bools r]; rfl
end

/-! ### values -/
/-- where the defs stand -/
abbrev FA := Nat → Addr
/-- the place of a caught exception -/
def exI : Nat := 1000000
/-- the place of its class -/
def exC : Nat := 1000001
def RepV (K : PySem.W.Frag) (fa : FA) (F : Hp) (ρ : Nat → Addr) (n : Nat) : V → Val → Prop
  | x, .d d => Rep K F x d
  | x, .ref m => m < n ∧ x = .ref (ρ m)
  | x, .fn i => i < exI ∧ x = .ref (fa i)
  | x, .scr ns => ∃ a, x = .ref a ∧ SqL K F a (ns.map V.int)
  | _, .exn _ => False
abbrev RepVs (K : PySem.W.Frag) (fa : FA) (F : Hp) (ρ : Nat → Addr) (n : Nat) : List V → List Val → Prop := Paired (RepV K fa F ρ n)
section
variable {K : PySem.W.Frag} {fa : FA} {F F' : Hp} {ρ ρ' : Nat → Addr} {n n' : Nat}
theorem RepV.mono (s : Same F F') (hr : ∀ m, m < n → ρ' m = ρ m) (hn : n ≤ n') : ∀ {x : V} {v : Val}, RepV K fa F ρ n x v → RepV K fa F' ρ' n' x v
  | _, .d _, h => Rep.mono s h
  | _, .ref m, ⟨h1, h2⟩ => ⟨Nat.lt_of_lt_of_le h1 hn, by rw [hr m h1]; exact h2⟩
  | _, .fn _, h => h
  | _, .scr _, ⟨a, h1, h2⟩ => ⟨a, h1, s.seq h2⟩
  | _, .exn _, h => h
theorem RepVs.mono (s : Same F F') (hr : ∀ m, m < n → ρ' m = ρ m) (hn : n ≤ n') {xs : List V} {vs : List Val} (h : RepVs K fa F ρ n xs vs) : RepVs K fa F' ρ' n' xs vs :=
  Paired.mapP h fun _ _ r => r.mono s hr hn
theorem RepVs.pure : ∀ {xs : List V} {vs : List Val} {ds : List D}, RepVs K fa F ρ n xs vs → pureVs vs = some ds → Reps K F xs ds
  | _, [], ds, .nil, e => by simp [pureVs] at e; subst e; exact .nil
  | _, .d x :: vs, ds, .cons h r, e => by
    simp only [pureVs] at e
    cases q : pureVs vs with
    | none => rw [q] at e; cases e
    | some es =>
      rw [q] at e
      simp at e
      subst e
      exact .cons h (RepVs.pure r q)
  | _, .ref _ :: _, _, .cons _ _, e => by simp [pureVs] at e
  | _, .fn _ :: _, _, .cons _ _, e => by simp [pureVs] at e
  | _, .scr _ :: _, _, .cons _ _, e => by simp [pureVs] at e
  | _, .exn _ :: _, _, .cons _ _, e => by simp [pureVs] at e
theorem RepVs.of_pure : ∀ {xs : List V} {ds : List D}, Reps K F xs ds → RepVs K fa F ρ n xs (ds.map Val.d)
  | _, _, .nil => .nil
  | _, _, .cons h r => .cons h (RepVs.of_pure r)
theorem RepVs.length {xs : List V} {vs : List Val} (h : RepVs K fa F ρ n xs vs) : xs.length = vs.length := Paired.length h
theorem RepVs.get : ∀ {xs : List V} {vs : List Val} {i : Nat} {v : Val}, RepVs K fa F ρ n xs vs → vs[i]? = some v → ∃ x, xs[i]? = some x ∧ RepV K fa F ρ n x v
  | _, _, _, _, .nil, e => by simp at e
  | _, _, 0, _, .cons h _, e => by simp at e; subst e; exact ⟨_, rfl, h⟩
  | _, _, i + 1, v, .cons _ t, e => by
    obtain ⟨x, h1, h2⟩ := RepVs.get (i := i) (v := v) t (by simpa using e)
    exact ⟨x, by simpa using h1, h2⟩
theorem RepVs.getV : ∀ {xs : List V} {vs : List Val} {i : Nat} {x : V}, RepVs K fa F ρ n xs vs → xs[i]? = some x → ∃ v, vs[i]? = some v ∧ RepV K fa F ρ n x v
  | _, _, _, _, .nil, e => by simp at e
  | _, _, 0, _, .cons h _, e => by simp at e; subst e; exact ⟨_, rfl, h⟩
  | _, _, i + 1, v, .cons _ t, e => by
    obtain ⟨x, h1, h2⟩ := RepVs.getV (i := i) (x := v) t (by simpa using e)
    exact ⟨x, by simpa using h1, h2⟩
theorem RepVs.append : ∀ {xs ys : List V} {vs ws : List Val}, RepVs K fa F ρ n xs vs → RepVs K fa F ρ n ys ws → RepVs K fa F ρ n (xs ++ ys) (vs ++ ws)
  | _, _, _, _, .nil, s => s
  | _, _, _, _, .cons h r, s => .cons h (RepVs.append r s)
theorem RepVs.set {x : V} {v : Val} (h : RepV K fa F ρ n x v) : ∀ {xs : List V} {vs : List Val} (i : Nat), RepVs K fa F ρ n xs vs → RepVs K fa F ρ n (xs.set i x) (vs.set i v)
  | _, _, _, .nil => .nil
  | _, _, 0, .cons _ t => .cons h t
  | _, _, i + 1, .cons q t => .cons q (RepVs.set h i t)
end

/-! ### the store -/
inductive RepO (K : PySem.W.Frag) (fa : FA) (F : Hp) (ρ : Nat → Addr) (n : Nat) : HO → Ob → Prop
  | lst {xs : List V} {vs : List Val} : RepVs K fa F ρ n xs vs → RepO K fa F ρ n (.lst xs) (.lst vs)
  | dct {kvs : List (List Key × V)} {es : List (List Int × Val)} : Paired (fun p q => p.1 = q.1.map Sum.inl ∧ RepV K fa F ρ n p.2 q.2) kvs es → RepO K fa F ρ n (.dT kvs) (.dct es)
theorem RepO.mono {K : PySem.W.Frag} {fa : FA} {F F' : Hp} {ρ ρ' : Nat → Addr} {n n' : Nat} (s : Same F F') (hr : ∀ m, m < n → ρ' m = ρ m) (hn : n ≤ n') {h : HO} {o : Ob} (r : RepO K fa F ρ n h o) : RepO K fa F' ρ' n' h o := by
  cases r with
  | lst r => exact .lst (RepVs.mono s hr hn r)
  | dct r => exact .dct (Paired.mapP r fun _ _ z => ⟨z.1, z.2.mono s hr hn⟩)
theorem RepO.notTup {K : PySem.W.Frag} {fa : FA} {F : Hp} {ρ : Nat → Addr} {n : Nat} {xs : List V} {o : Ob} (r : RepO K fa F ρ n (.tup xs) o) : False := nomatch r

structure Sim (K : PySem.W.Frag) (fa : FA) (F H : Hp) (ρ : Nat → Addr) (S : Sto) : Prop where
  sub : Same F H
  off : ∀ n o, stGet S n = some o → F (ρ n) = none
  obj : ∀ n o, stGet S n = some o → ∃ h, H (ρ n) = some h ∧ RepO K fa F ρ S.length h o
  inj : ∀ n m o u, stGet S n = some o → stGet S m = some u → ρ n = ρ m → n = m

/-- what a piece of code may do to the heap and the store -/
structure Ext (F H : Hp) (ρ : Nat → Addr) (S : Sto) (F' H' : Hp) (ρ' : Nat → Addr) (S' : Sto) : Prop where
  fz : Same F F'
  rho : ∀ n, n < S.length → ρ' n = ρ n
  len : S.length ≤ S'.length
  frame : ∀ a o, H a = some o → (∀ n u, stGet S n = some u → a ≠ ρ n) → H' a = some o
  there : ∀ a o, H a = some o → ∃ o', H' a = some o'
  new : ∀ n u, stGet S' n = some u → (n < S.length ∧ ∃ u', stGet S n = some u') ∨ (S.length ≤ n ∧ H (ρ' n) = none)
  fnew : ∀ a o, F' a = some o → F a ≠ none ∨ H a = none ∨ (∃ n u, stGet S n = some u ∧ a = ρ n) ∨ ∃ xs, H a = some (.tup xs)

theorem stGet_lt {S : Sto} {n : Nat} {o : Ob} (h : stGet S n = some o) : n < S.length := by
  unfold stGet at h
  cases q : S[n]? with
  | none => rw [q] at h; cases h
  | some x => exact (List.getElem?_eq_some_iff.mp q).1
theorem Ext.refl (F H : Hp) (ρ : Nat → Addr) (S : Sto) : Ext F H ρ S F H ρ S :=
  ⟨Same.refl _, fun _ _ => rfl, Nat.le_refl _, fun _ _ h _ => h, fun _ o h => ⟨o, h⟩, fun n u h => .inl ⟨stGet_lt h, u, h⟩, fun a o h => .inl (by rw [h]; intro z; cases z)⟩
theorem Ext.trans {F H : Hp} {ρ : Nat → Addr} {S : Sto} {F1 H1 : Hp} {ρ1 : Nat → Addr} {S1 : Sto} {F2 H2 : Hp} {ρ2 : Nat → Addr} {S2 : Sto}
    (a : Ext F H ρ S F1 H1 ρ1 S1) (b : Ext F1 H1 ρ1 S1 F2 H2 ρ2 S2) : Ext F H ρ S F2 H2 ρ2 S2 where
  fz := a.fz.trans b.fz
  rho := fun n hn => (b.rho n (Nat.lt_of_lt_of_le hn a.len)).trans (a.rho n hn)
  len := Nat.le_trans a.len b.len
  frame := fun x o h hx => b.frame x o (a.frame x o h hx) fun n u hu e => by
    rcases a.new n u hu with ⟨h1, u', h2⟩ | ⟨h1, h2⟩
    · exact hx n u' h2 (by rw [e, a.rho n h1])
    · rw [← e, h] at h2; cases h2
  there := fun x o h => by
    obtain ⟨o', h'⟩ := a.there x o h
    exact b.there x o' h'
  new := fun n u hu => by
    rcases b.new n u hu with ⟨h1, u', h2⟩ | ⟨h1, h2⟩
    · rcases a.new n u' h2 with ⟨h3, q⟩ | ⟨h3, h4⟩
      · exact .inl ⟨h3, q⟩
      · exact .inr ⟨h3, by rw [b.rho n h1]; exact h4⟩
    · refine .inr ⟨Nat.le_trans a.len h1, ?_⟩
      cases q : H (ρ2 n) with
      | none => rfl
      | some o =>
        obtain ⟨o', h'⟩ := a.there _ _ q
        rw [h2] at h'; cases h'
  fnew := fun x o h => by
    rcases b.fnew x o h with h1 | h1 | ⟨n, u, h1, h2⟩ | ⟨xs, h1⟩
    · cases q : F1 x with
      | none => exact absurd q h1
      | some y => exact a.fnew x y q
    · refine .inr (.inl ?_)
      cases q : H x with
      | none => rfl
      | some y =>
        obtain ⟨o', h'⟩ := a.there _ _ q
        rw [h1] at h'; cases h'
    · rcases a.new n u h1 with ⟨h3, u', h4⟩ | ⟨h3, h4⟩
      · exact .inr (.inr (.inl ⟨n, u', h4, by rw [h2, a.rho n h3]⟩))
      · exact .inr (.inl (by rw [h2]; exact h4))
    · cases q : H x with
      | none => exact .inr (.inl rfl)
      | some y =>
        by_cases z : ∃ n u, stGet S n = some u ∧ x = ρ n
        · exact .inr (.inr (.inl z))
        · have := a.frame x y q fun n u hu e => z ⟨n, u, hu, e⟩
          rw [h1] at this
          cases this
          exact .inr (.inr (.inr ⟨xs, rfl⟩))

/-! ### slots -/
structure EnvRep (K : PySem.W.Frag) (fa : FA) (F : Hp) (ρ : Nat → Addr) (n : Nat) (env : Env) (σ : L2.St) : Prop where
  len : env.length = σ.length
  look : ∀ i v, lookE env i = some v → ∃ x, σ[i]? = some (some x) ∧ RepV K fa F ρ n x v
  exn : ∀ i e, lookX env i = some e → σ[i]? = some (some (.ref (fa exI))) ∧ e.cls < exI ∧ fa e.cls = fa exC
section
variable {K : PySem.W.Frag} {fa : FA} {F F' : Hp} {ρ ρ' : Nat → Addr} {n n' : Nat} {env : Env} {σ : L2.St}
theorem EnvRep.mono (s : Same F F') (hr : ∀ m, m < n → ρ' m = ρ m) (hn : n ≤ n') (h : EnvRep K fa F ρ n env σ) : EnvRep K fa F' ρ' n' env σ :=
  ⟨h.len, fun i v e => let ⟨x, h1, h2⟩ := h.look i v e; ⟨x, h1, h2.mono s hr hn⟩, h.exn⟩
theorem joinSet (env : Env) (i j : Nat) (o : Option Val) : ((env.set i o)[j]?).join = if i = j ∧ i < env.length then o else (env[j]?).join := by
  rw [List.getElem?_set]
  by_cases h : i = j
  · subst h
    by_cases h2 : i < env.length
    · simp [h2]
    · simp [h2]
  · simp [h]
theorem lookE_set (env : Env) (i j : Nat) (o : Option Val) : lookE (env.set i o) j = if i = j ∧ i < env.length then o.bind Val.plain else lookE env j := by
  unfold lookE
  rw [joinSet]
  split <;> rfl
theorem lookX_set (env : Env) (i j : Nat) (o : Option Val) : lookX (env.set i o) j = if i = j ∧ i < env.length then o.bind Val.exc else lookX env j := by
  unfold lookX
  rw [joinSet]
  split <;> rfl
theorem plain_some {v w : Val} (h : v.plain = some w) : w = v ∧ v.exc = none := by cases v <;> simp [Val.plain, Val.exc] at h ⊢ <;> exact h.symm
theorem RepV.plain {x : V} {v : Val} (r : RepV K fa F ρ n x v) : v.plain = some v ∧ v.exc = none := by
  cases v with
  | exn _ => exact r.elim
  | _ => exact ⟨rfl, rfl⟩
theorem EnvRep.put {x : V} {o : Option Val} (h : EnvRep K fa F ρ n env σ) (i : Nat) (ox : Option V) (r1 : ∀ v, o.bind Val.plain = some v → ∃ x, ox = some x ∧ RepV K fa F ρ n x v) (r2 : ∀ e, o.bind Val.exc = some e → ox = some (.ref (fa exI)) ∧ e.cls < exI ∧ fa e.cls = fa exC) : EnvRep K fa F ρ n (env.set i o) (σ.set i ox) := by
  have ne : ∀ j : Nat, ¬ (i = j ∧ i < env.length) → j < σ.length → (σ.set i ox)[j]? = σ[j]? := fun j q hj => by
    by_cases hij : i = j
    · subst hij
      exact absurd ⟨rfl, by rw [h.len]; exact hj⟩ q
    · rw [List.getElem?_set_ne hij]
  refine ⟨by simp [h.len], fun j w e => ?_, fun j w e => ?_⟩
  · rw [lookE_set] at e
    split at e
    · rename_i q
      obtain ⟨rfl, q2⟩ := q
      obtain ⟨x, e1, r⟩ := r1 w e
      exact ⟨x, by rw [List.getElem?_set_self (by rw [← h.len]; exact q2), e1], r⟩
    · rename_i q
      obtain ⟨y, h1, h2⟩ := h.look j w e
      exact ⟨y, by rw [ne j q (List.getElem?_eq_some_iff.mp h1).1]; exact h1, h2⟩
  · rw [lookX_set] at e
    split at e
    · rename_i q
      obtain ⟨rfl, q2⟩ := q
      obtain ⟨z1, z2⟩ := r2 w e
      exact ⟨by rw [List.getElem?_set_self (by rw [← h.len]; exact q2), z1], z2⟩
    · rename_i q
      obtain ⟨h1, h2⟩ := h.exn j w e
      exact ⟨by rw [ne j q (List.getElem?_eq_some_iff.mp h1).1]; exact h1, h2⟩
theorem EnvRep.set {x : V} {v : Val} (h : EnvRep K fa F ρ n env σ) (r : RepV K fa F ρ n x v) (i : Nat) : EnvRep K fa F ρ n (env.set i (some v)) (σ.set i (some x)) := by
  obtain ⟨p1, p2⟩ := r.plain
  refine h.put (x := x) i (some x) (fun w e => ?_) (fun e q => ?_)
  · simp only [Option.bind_some, p1] at e; cases e; exact ⟨x, rfl, r⟩
  · simp only [Option.bind_some, p2] at q; cases q
theorem EnvRep.unset (h : EnvRep K fa F ρ n env σ) (i : Nat) : EnvRep K fa F ρ n (env.set i none) (σ.set i none) :=
  h.put (x := .non) i none (fun w e => by cases e) (fun e q => by cases q)
theorem EnvRep.wipe (h : EnvRep K fa F ρ n env σ) : ∀ vs : List Nat, EnvRep K fa F ρ n (wipeE env vs) (wipe σ vs)
  | [] => h
  | v :: vs => by
    unfold wipeE L2.wipe
    exact (EnvRep.wipe h vs).unset v
end

/-! ### results -/
/-- how an exception is told: its class and its own dict's address -/
def RepX (fa : FA) (H : Hp) (c : Value) (d : Option Addr) (e : Exc) : Prop :=
  c = .ref (fa e.cls) ∧ ((e.args = [] ∧ d = none) ∨ ∃ a b dd, e.args = [.int a, .int b] ∧ d = some dd ∧ H dd = some (.xd [("many", .int a), ("most", .int b)]))

def Post {α β : Type} (K : PySem.W.Frag) (fa : FA) (W : WX) (rep : Hp → (Nat → Addr) → Nat → β → α → Prop) (F H : Hp) (ρ : Nat → Addr) (S : Sto) (σ : L2.St) (r : R α) (Q : β → Hp → Prop) : Prop :=
  match r with
  | .stuck => False
  | .ok v S' => ∀ x F' H' ρ', Sim K fa F' H' ρ' S' → Ext F H ρ S F' H' ρ' S' → rep F' ρ' S'.length x v → Q x H'
  | .exc e S' => ∀ c d F' H' ρ', Sim K fa F' H' ρ' S' → Ext F H ρ S F' H' ρ' S' → RepX fa H' c d e → W c d σ H'
section
variable {α β γ δ : Type} {K : PySem.W.Frag} {fa : FA} {W : WX} {rep : Hp → (Nat → Addr) → Nat → β → α → Prop} {rep2 : Hp → (Nat → Addr) → Nat → δ → γ → Prop} {F H F1 H1 : Hp} {ρ ρ1 : Nat → Addr} {S S1 : Sto} {σ : L2.St}
theorem Post.shift {r : R α} {Q : β → Hp → Prop} (x : Ext F H ρ S F1 H1 ρ1 S1) (h : Post K fa W rep F H ρ S σ r Q) : Post K fa W rep F1 H1 ρ1 S1 σ r Q := by
  cases r with
  | stuck => exact h
  | ok v S' => exact fun y F' H' ρ' s e q => h y F' H' ρ' s (x.trans e) q
  | exc e S' => exact fun c d F' H' ρ' s e q => h c d F' H' ρ' s (x.trans e) q
theorem Post.bind {r : R α} {f : α → Sto → R γ} {Q : δ → Hp → Prop} {Q1 : β → Hp → Prop} (h : Post K fa W rep2 F H ρ S σ (r.bind f) Q)
    (k : ∀ v S1 x F1 H1 ρ1, Sim K fa F1 H1 ρ1 S1 → Ext F H ρ S F1 H1 ρ1 S1 → rep F1 ρ1 S1.length x v → Post K fa W rep2 F1 H1 ρ1 S1 σ (f v S1) Q → Q1 x H1) : Post K fa W rep F H ρ S σ r Q1 := by
  cases r with
  | stuck => exact h
  | ok v S' => exact fun x F' H' ρ' s e q => k v S' x F' H' ρ' s e q (Post.shift e h)
  | exc e S' => exact h
theorem Post.ofO {o : Option α} {Q : β → Hp → Prop} (h : Post K fa W rep F H ρ S σ (R.ofO o S) Q) : ∃ v, o = some v ∧ ∀ x F' H' ρ', Sim K fa F' H' ρ' S → Ext F H ρ S F' H' ρ' S → rep F' ρ' S.length x v → Q x H' := by
  cases o with
  | none => exact h.elim
  | some v => exact ⟨v, rfl, h⟩
theorem Post.imp {r : R α} {Q Q' : β → Hp → Prop} (h : Post K fa W rep F H ρ S σ r Q) (k : ∀ x H', Q x H' → Q' x H') : Post K fa W rep F H ρ S σ r Q' := by
  cases r with
  | stuck => exact h
  | ok v S' => exact fun y F' H' ρ' s e q => k _ _ (h y F' H' ρ' s e q)
  | exc e S' => exact h
end

abbrev M (α : Type) := Env → Sto → R α
/-- the reading of an expression by its meaning -/
def rdG {α β : Type} (K : PySem.W.Frag) (fa : FA) (W : WX) (rep : Hp → (Nat → Addr) → Nat → β → α → Prop) (m : M α) : L2.St → Hp → (β → Hp → Prop) → Prop := fun σ H Q =>
  ∃ env S F ρ, Sim K fa F H ρ S ∧ EnvRep K fa F ρ S.length env σ ∧ Post K fa W rep F H ρ S σ (m env S) Q
def repB : Hp → (Nat → Addr) → Nat → Bool → Bool → Prop := fun _ _ _ a b => a = b
abbrev rdE (K : PySem.W.Frag) (fa : FA) (W : WX) (m : M Val) : TE := rdG K fa W (RepV K fa) m
abbrev rdT (K : PySem.W.Frag) (fa : FA) (W : WX) (m : M Bool) : TT := rdG K fa W repB m
abbrev rdA (K : PySem.W.Frag) (fa : FA) (W : WX) (m : M (List Val)) : TA := rdG K fa W (RepVs K fa) m

/-- one after another: the first one's reading from the whole's -/
theorem rdG.bind {α β γ δ : Type} {K : PySem.W.Frag} {fa : FA} {W : WX} {rep : Hp → (Nat → Addr) → Nat → β → α → Prop} {rep2 : Hp → (Nat → Addr) → Nat → δ → γ → Prop} {σ : L2.St} {H : Hp}
    {m : M α} {f : Env → α → Sto → R γ} {Q : δ → Hp → Prop} {Q1 : β → Hp → Prop} (h : rdG K fa W rep2 (fun env S => (m env S).bind (f env)) σ H Q)
    (k : ∀ env v S1 x F1 H1 ρ1, Sim K fa F1 H1 ρ1 S1 → EnvRep K fa F1 ρ1 S1.length env σ → rep F1 ρ1 S1.length x v → Post K fa W rep2 F1 H1 ρ1 S1 σ (f env v S1) Q → Q1 x H1) : rdG K fa W rep m σ H Q1 := by
  obtain ⟨env, S, F, ρ, s, e, p⟩ := h
  exact ⟨env, S, F, ρ, s, e, p.bind fun v S1 x F1 H1 ρ1 s1 x1 r1 p1 => k env v S1 x F1 H1 ρ1 s1 (e.mono x1.fz x1.rho x1.len) r1 p1⟩
theorem rdG.mk {α β : Type} {K : PySem.W.Frag} {fa : FA} {W : WX} {rep : Hp → (Nat → Addr) → Nat → β → α → Prop} {m : M α} {σ : L2.St} {H : Hp} {Q : β → Hp → Prop} {env : Env} {S : Sto} {F : Hp} {ρ : Nat → Addr}
    (s : Sim K fa F H ρ S) (e : EnvRep K fa F ρ S.length env σ) (p : Post K fa W rep F H ρ S σ (m env S) Q) : rdG K fa W rep m σ H Q := ⟨env, S, F, ρ, s, e, p⟩

theorem PE.imp {X : Cx} {e : Expr} {t t' : TE} (h : PE X e t) (k : ∀ σ H Q, t' σ H Q → t σ H Q) : PE X e t' := ⟨fun pins s σ H Q I q => h.run pins s σ H Q I (k σ H Q q)⟩
theorem PT.imp {X : Cx} {e : Expr} {t t' : TT} (h : PT X e t) (k : ∀ σ H Q, t' σ H Q → t σ H Q) : PT X e t' := ⟨fun pins s σ H Q I q => h.run pins s σ H Q I (k σ H Q q)⟩
theorem PW.imp {X : Cx} {e : Expr} {t t' : TT} (h : PW X e t) (k : ∀ σ H Q, t' σ H Q → t σ H Q) : PW X e t' := ⟨fun wh pins s σ H Q I q => h.run wh pins s σ H Q I (k σ H Q q)⟩
theorem PA.imp {X : Cx} {e : List Expr} {t t' : TA} (h : PA X e t) (k : ∀ σ H Q, t' σ H Q → t σ H Q) : PA X e t' := ⟨fun pos pins s σ H Q I q => h.run pos pins s σ H Q I (k σ H Q q)⟩
theorem PS.imp {X : Cx} {e : Stmt} {t t' : TS} (h : PS X e t) (k : ∀ D σ H, t' D σ H → t D σ H) : PS X e t' := ⟨fun pins s σ H D I q => h.run pins s σ H D I (k D σ H q)⟩
theorem PSs.imp {X : Cx} {e : List Stmt} {t t' : TS} (h : PSs X e t) (k : ∀ D σ H, t' D σ H → t D σ H) : PSs X e t' := ⟨fun pins s σ H D I q => h.run pins s σ H D I (k D σ H q)⟩

/-- a fresh object joins the frozen part -/
theorem Sim.grow {K : PySem.W.Frag} {fa : FA} {F H : Hp} {ρ : Nat → Addr} {S : Sto} {p : Addr} {o : HO} (s : Sim K fa F H ρ S) (hp : H p = none) : Sim K fa (upd F p o) (upd H p o) ρ S ∧ Ext F H ρ S (upd F p o) (upd H p o) ρ S ∧ Same F (upd F p o) := by
  have fF : F p = none := s.sub.free hp
  have sF : Same F (upd F p o) := fun a u h => by rw [upd_ne (ne_of_none h fF)]; exact h
  have sH : Same H (upd H p o) := fun a u h => by rw [upd_ne (ne_of_none h hp)]; exact h
  have np : ∀ n u, stGet S n = some u → ρ n ≠ p := fun n u h => by
    obtain ⟨x, hx, _⟩ := s.obj n u h
    exact ne_of_none hx hp
  refine ⟨⟨fun a u h => ?_, fun n u h => ?_, fun n u h => ?_, s.inj⟩, ⟨sF, fun _ _ => rfl, Nat.le_refl _, fun a u h _ => sH a u h, fun a u h => ⟨u, sH a u h⟩, fun n u h => .inl ⟨stGet_lt h, u, h⟩, fun a u h => ?_⟩, sF⟩
  · by_cases e : a = p
    · subst e; rw [upd_same] at h ⊢; exact h
    · rw [upd_ne e] at h ⊢; exact s.sub a u h
  · rw [upd_ne (np n u h)]; exact s.off n u h
  · obtain ⟨x, hx, r⟩ := s.obj n u h
    exact ⟨x, by rw [upd_ne (np n u h)]; exact hx, r.mono sF (fun _ _ => rfl) (Nat.le_refl _)⟩
  · by_cases e : a = p
    · subst e; exact .inr (.inl hp)
    · rw [upd_ne e] at h; exact .inl (by rw [h]; intro z; cases z)
end MS

-- MsRep
namespace MS
open PySem PySem.Spec PyProof.Rows L2
theorem tuple_mul_same (l : Addr) (items : Array Value) (n : Nat) (dd : Option Addr) (sl : Array (Option Value)) (x : Int) (u : Tok) (c0 : (decide (x < -(2 ^ 63)) || decide (x ≥ 2 ^ 63)) = false) (c1 : (items.isEmpty || x == 1) = true) :
    Meets (Builtin.«tuple.__mul__» ⟨[.ref l, .int x u], []⟩) (fun _ R s => s.heap.get? l = some { cls := .type "tuple", dict := dd, data := .seq items n, slots := sl } ∧
      R (.ok (.ret (Value.ref l))) s) :=
  .of_wp fun prog w A R s h => by
    obtain ⟨hp, g, d, tk, os⟩ := s
    obtain ⟨hl, h⟩ := h
    have f1 := AutoSeq1.idx_int
    wp_walk using wpAny_loadPart' hl
    repeat (first
      | (refine wpAny_ite_false (decide_eq_false (by rw [c0]; exact Bool.false_ne_true)) ?_; wp_walk using wpAny_loadPart' hl)
      | (refine wpAny_ite_true (decide_eq_true c1) ?_; wp_walk using wpAny_loadPart' hl))
    exact ⟨_, rfl, h⟩
theorem tuple_mul_none (l : Addr) (items : Array Value) (n : Nat) (dd : Option Addr) (sl : Array (Option Value)) (x : Int) (u : Tok) (c0 : (decide (x < -(2 ^ 63)) || decide (x ≥ 2 ^ 63)) = false) (c1 : (items.isEmpty || x == 1) = false) (c2 : (decide (x ≤ 0) || items.isEmpty) = true) :
    Meets (Builtin.«tuple.__mul__» ⟨[.ref l, .int x u], []⟩) (fun _ R s => s.heap.get? l = some { cls := .type "tuple", dict := dd, data := .seq items n, slots := sl } ∧
      R (.ok (.ret (Value.ref s.heap.objs.size))) { s with heap := s.heap.push { cls := Value.type "tuple", data := Data.seq #[] }, toks := s.toks }) :=
  .of_wp fun prog w A R s h => by
    obtain ⟨hp, g, d, tk, os⟩ := s
    obtain ⟨hl, h⟩ := h
    have f1 := AutoSeq1.idx_int
    wp_walk using wpAny_loadPart' hl
    repeat (first
      | (refine wpAny_ite_false (decide_eq_false (by rw [c0]; exact Bool.false_ne_true)) ?_; wp_walk using wpAny_loadPart' hl)
      | (refine wpAny_ite_false (decide_eq_false (by rw [c1]; exact Bool.false_ne_true)) ?_; wp_walk using wpAny_loadPart' hl)
      | (refine wpAny_ite_true (decide_eq_true c2) ?_; wp_walk using wpAny_loadPart' hl)
      | (refine wpAny_ite_false (decide_eq_false (by decide)) ?_; wp_walk using wpAny_loadPart' hl))
    exact ⟨_, rfl, h⟩
section
variable {X : Cx}
/-- tuple * int of any small size -/
theorem op_repAny : OpR X (binaryOp .Mult) (fun x y H Q => ∃ l k xs, x = .ref l ∧ y = .int k ∧ SqT X.K H l xs ∧ 0 ≤ k ∧ k ≤ 1000 ∧ xs.length ≤ 1000 ∧
    (xs = [] ∨ k = 1 → Q (.ref l) H) ∧ ∀ p, H p = none → Q (.ref p) (upd H p (.tup (List.replicate k.toNat xs).flatten))) := by
  intro pins s σ H x y v u Q I rx ry ⟨l, k, xs, e1, e2, hT, h1, h2, hz, q1, q2⟩
  subst e1 e2
  by_cases hb : xs ≠ [] ∧ 2 ≤ k
  · exact op_repT pins s σ H _ _ v u Q I rx ry ⟨l, k, xs, rfl, rfl, hT, hb.1, hb.2, h2, hz, q2⟩
  cases rx
  obtain ⟨t, rfl⟩ := ry
  obtain ⟨its, r, ⟨⟨cls, dd, data, sl⟩, ho, hc, n, hd⟩, hs⟩ := I.tuple hT
  simp only at hc hd
  subst hc hd
  have hle : its.length = xs.length := r.length.symm
  have c0 : (decide (k < -(2 ^ 63)) || decide (k ≥ 2 ^ 63)) = false := by
    rw [decide_eq_false (by omega), decide_eq_false (by omega)] <;> rfl
  by_cases hb2 : xs = [] ∨ k = 1
  · have c1 : (its.toArray.isEmpty || k == 1) = true := by
      rcases hb2 with z | z
      · subst z
        cases its with
        | nil => rfl
        | cons _ _ => simp at hle
      · subst z; simp
    refine wpAny_binaryOp_repeat_ref (T := "tuple") (U := "int") (by decide) ⟨_, ho, rfl⟩ (fun s' => typeIs_int s' k t) noFill_tuple_mul F.fills_int_mul F.slot_int_rmul repeat_tuple F.slot_int_index.lookup
      (call_meets F.slot_int_rmul (typeIs_int s k t) F.entry_int_rmul (F.args_int_rmul_2 _ _) (int_rmul_tuple k t l its.toArray n dd sl)
        ⟨ho, rfl, ⟨_, ho, rfl⟩, call_meets F.slot_tuple_mul ⟨_, ho, rfl⟩ F.entry_tuple_mul (F.args_tuple_mul_2 _ _) (tuple_mul_same l its.toArray n dd sl k t c0 c1) ⟨ho, ?_⟩⟩)
    exact ⟨.ref l, H, I, rfl, q1 hb2⟩
  · have hk : k = 0 := by
      have := not_or.mp hb2
      have h3 : ¬ (2 ≤ k) := fun z => hb ⟨this.1, z⟩
      have h4 := this.2
      omega
    have hne : xs ≠ [] := fun z => hb2 (.inl z)
    have hi : its.toArray.isEmpty = false := by
      cases its with
      | nil => exact absurd (List.eq_nil_of_length_eq_zero hle.symm) hne
      | cons a b => rfl
    have c1 : (its.toArray.isEmpty || k == 1) = false := by rw [hi, hk]; rfl
    have c2 : (decide (k ≤ 0) || its.toArray.isEmpty) = true := by rw [hk]; rfl
    refine wpAny_binaryOp_repeat_ref (T := "tuple") (U := "int") (by decide) ⟨_, ho, rfl⟩ (fun s' => typeIs_int s' k t) noFill_tuple_mul F.fills_int_mul F.slot_int_rmul repeat_tuple F.slot_int_index.lookup
      (call_meets F.slot_int_rmul (typeIs_int s k t) F.entry_int_rmul (F.args_int_rmul_2 _ _) (int_rmul_tuple k t l its.toArray n dd sl)
        ⟨ho, rfl, ⟨_, ho, rfl⟩, call_meets F.slot_tuple_mul ⟨_, ho, rfl⟩ F.entry_tuple_mul (F.args_tuple_mul_2 _ _) (tuple_mul_none l its.toArray n dd sl k t c0 c1 c2) ⟨ho, ?_⟩⟩)
    have q3 := q2 _ (I.hok.fresh (Nat.le_refl _))
    have e0 : (List.replicate k.toNat xs).flatten = [] := by rw [hk]; rfl
    rw [e0] at q3
    refine ⟨.ref s.heap.objs.size, _, I.laid (t' := s.toks) (o := .tup []) (fun b ob q => Heap.get?_push_of_some _ q) (Nat.le_refl _) ?_, rfl, q3⟩
    exact ⟨Nat.zero_le _, [], .nil, IsTup.new _ _⟩
theorem rep_cps (z : Str) (k : Nat) : (List.replicate k z.cps).foldl (· ++ ·) #[] = ((List.replicate k z.cps.toList).flatten).toArray := by
  have g : ∀ (k : Nat) (acc : Array Nat), (List.replicate k z.cps).foldl (· ++ ·) acc = acc ++ ((List.replicate k z.cps.toList).flatten).toArray := by
    intro k
    induction k with
    | zero => intro acc; simp
    | succ k ih => intro acc; rw [List.replicate_succ, List.foldl_cons, ih, List.replicate_succ, List.flatten_cons]; apply Array.ext'; simp
  rw [g]; simp
theorem op_repStr : OpR X (binaryOp .Mult) (fun x y H Q => ∃ z k, x = .str z ∧ y = .int k ∧ 0 ≤ k ∧ k ≤ 1000 ∧ z.length ≤ 1000 ∧ Q (.str ⟨(List.replicate k.toNat z.cps.toList).flatten.toArray⟩) H) := by
  intro pins s σ H x y v u Q I rx ry ⟨z, k, e1, e2, h1, h2, hz, q⟩
  subst e1 e2
  obtain ⟨t, rfl⟩ := rx
  obtain ⟨t', rfl⟩ := ry
  have hzl : z.length = z.cps.size := rfl
  have hmul : z.length * k.toNat ≤ 1000 * 1000 := Nat.mul_le_mul hz (Int.toNat_le.mpr h2)
  refine PySem.P.mul_str (by rw [decide_eq_false (by omega), decide_eq_false (by omega)] <;> rfl) (fun hk _ => ?_) (fun hk _ => ?_) ?_
  · have h3 : (1 : Int) ≤ k := by omega
    have h4 : (9223372036854775807 : Int) / 1000 ≤ (2 ^ 63 - 1) / k := by
      refine Int.le_ediv_of_mul_le (by omega) ?_
      have : (9223372036854775807 : Int) / 1000 = 9223372036854775 := by decide
      rw [this]
      have : (9223372036854775 : Int) * k ≤ 9223372036854775 * 1000 := Int.mul_le_mul_of_nonneg_left h2 (by decide)
      omega
    have h5 : (9223372036854775807 : Int) / 1000 = 9223372036854775 := by decide
    omega
  · unfold Builtin.Str.tooLong
    rw [sizeLine_eq]
    exact decide_eq_false (by omega)
  · by_cases hk : k < 1
    · rw [if_pos hk]
      have : k = 0 := by omega
      subst this
      exact ⟨by decide, .str _, H, I.tok _, ⟨_, rfl⟩, q⟩
    · rw [if_neg hk]
      by_cases hc : (k == 1 || z.length == 0) = true
      · rw [if_pos hc]
        refine ⟨.str z, H, I, ⟨_, rfl⟩, ?_⟩
        have e : (⟨(List.replicate k.toNat z.cps.toList).flatten.toArray⟩ : Str) = z := by
          rcases (Bool.or_eq_true _ _).mp hc with c | c
          · have : k = 1 := by simpa using c
            subst this
            simp
          · have : z.cps.size = 0 := by simpa [hzl] using c
            have e0 : z.cps = #[] := Array.eq_empty_of_size_eq_zero this
            cases z with
            | mk cps => simp at e0; subst e0; simp
        rw [e] at q
        exact q
      · rw [if_neg hc, rep_cps]
        refine ⟨?_, .str _, H, I.tok _, ⟨_, rfl⟩, q⟩
        show _ ≤ _
        simp [Str.length]
        rw [sizeLine_eq]
        rw [hzl] at hmul
        rw [Nat.mul_comm]
        omega
end
end MS

-- MsOps
/-! Operators by values. -/
namespace MS
open PySem PySem.Spec PyProof.Rows L2

/-! ### reading a value as a datum -/
inductive VRep (K : PySem.W.Frag) (F H : Hp) : V → D → Prop
  | p {x : V} {d : D} : Rep K F x d → VRep K F H x d
  | r {a : Addr} {xs : List V} {ds : List D} : H a = some (.lst xs) → Reps K F xs ds → VRep K F H (.ref a) (.list ds)
/-- nothing, or a fresh frozen object, with a tuple that was there -/
def Grow (F H F' H' : Hp) : Prop := (F' = F ∧ H' = H) ∨ (∃ p o, H p = none ∧ F' = upd F p o ∧ H' = upd H p o) ∨ ∃ p o a xs, H p = none ∧ H a = some (.tup xs) ∧ F' = upd (upd F a (.tup xs)) p o ∧ H' = upd H p o
theorem Sim.take {K : PySem.W.Frag} {fa : FA} {F H : Hp} {ρ : Nat → Addr} {S : Sto} {a : Addr} {xs : List V} (s : Sim K fa F H ρ S) (ha : H a = some (.tup xs)) : Sim K fa (upd F a (.tup xs)) H ρ S ∧ Ext F H ρ S (upd F a (.tup xs)) H ρ S := by
  have np : ∀ n u, stGet S n = some u → ρ n ≠ a := fun n u h e => by
    obtain ⟨x, hx, r⟩ := s.obj n u h
    rw [e, ha] at hx
    cases hx
    exact r.notTup
  have sF : Same F (upd F a (.tup xs)) := fun b u h => by
    by_cases e : b = a
    · subst e
      have := s.sub _ _ h
      rw [ha] at this
      cases this
      exact upd_same
    · rw [upd_ne e]; exact h
  refine ⟨⟨fun b u h => ?_, fun n u h => ?_, fun n u h => ?_, s.inj⟩, ⟨sF, fun _ _ => rfl, Nat.le_refl _, fun a u h _ => h, fun a u h => ⟨u, h⟩, fun n u h => .inl ⟨stGet_lt h, u, h⟩, fun b u h => ?_⟩⟩
  · by_cases e : b = a
    · subst e; rw [upd_same] at h; cases h; exact ha
    · rw [upd_ne e] at h; exact s.sub b u h
  · rw [upd_ne (np n u h)]; exact s.off n u h
  · obtain ⟨x, hx, r⟩ := s.obj n u h
    exact ⟨x, hx, r.mono sF (fun _ _ => rfl) (Nat.le_refl _)⟩
  · by_cases e : b = a
    · subst e; exact .inr (.inr (.inr ⟨xs, ha⟩))
    · rw [upd_ne e] at h; exact .inl (by rw [h]; intro z; cases z)
section
variable {K : PySem.W.Frag} {fa : FA} {F H F' H' : Hp} {ρ : Nat → Addr} {S : Sto}
theorem Sim.of_grow (s : Sim K fa F H ρ S) (g : Grow F H F' H') : Sim K fa F' H' ρ S ∧ Ext F H ρ S F' H' ρ S := by
  rcases g with ⟨rfl, rfl⟩ | ⟨p, o, hp, rfl, rfl⟩ | ⟨p, o, a, xs, hp, ha, rfl, rfl⟩
  · exact ⟨s, Ext.refl ..⟩
  · exact ⟨(s.grow hp).1, (s.grow hp).2.1⟩
  · obtain ⟨s1, x1⟩ := s.take ha
    exact ⟨(s1.grow hp).1, x1.trans (s1.grow hp).2.1⟩
theorem Sim.view (s : Sim K fa F H ρ S) {x : V} {v : Val} {d : D} (r : RepV K fa F ρ S.length x v) (e : view S v = some d) : VRep K F H x d := by
  cases v with
  | d y => simp [MS.view] at e; subst e; exact .p r
  | fn i => simp [MS.view] at e
  | exn _ => exact (show False from r).elim
  | scr ns => simp [MS.view] at e
  | ref n =>
    obtain ⟨h1, rfl⟩ := r
    simp only [MS.view] at e
    cases q : stGet S n with
    | none => rw [q] at e; cases e
    | some o =>
      rw [q] at e
      cases o with
      | dct kvs => cases e
      | lst vs =>
        obtain ⟨ho, h2, r⟩ := s.obj n _ q
        cases r with
        | lst r =>
          simp only at e
          cases q2 : pureVs vs with
          | none => rw [q2] at e; cases e
          | some ds =>
            rw [q2] at e
            simp at e
            subst e
            exact .r h2 (RepVs.pure r q2)
theorem VRep.list {x : V} {ds : List D} (sub : Same F H) (h : VRep K F H x (.list ds)) : ∃ a xs, x = .ref a ∧ H a = some (.lst xs) ∧ Reps K F xs ds := by
  cases h with
  | p h => cases h with
    | lst h r => exact ⟨_, _, rfl, sub _ _ h, r⟩
  | r h r => exact ⟨_, _, rfl, h, r⟩
theorem VRep.tuple {x : V} {ds : List D} (sub : Same F H) (h : VRep K F H x (.tuple ds)) : ∃ a xs, x = .ref a ∧ SqT K H a xs ∧ F a = some (.tup xs) ∧ Reps K F xs ds := by
  cases h with
  | p h => cases h with
    | tup h r => exact ⟨_, _, rfl, SqT.of (sub _ _ h), h, r⟩
theorem VRep.int {x : V} {i : Int} (h : VRep K F H x (.int i)) : x = .int i := by
  cases h with
  | p h => cases h; rfl
theorem VRep.str {x : V} {i : Str} (h : VRep K F H x (.str i)) : x = .str i := by
  cases h with
  | p h => cases h; rfl
theorem VRep.bl {x : V} {i : Bool} (h : VRep K F H x (.bool i)) : x = .bl i := by
  cases h with
  | p h => cases h; rfl
theorem VRep.non {x : V} (h : VRep K F H x .none) : x = .non := by
  cases h with
  | p h => cases h; rfl
theorem VRep.dict {x : V} {kvs : List (D × D)} (sub : Same F H) (h : VRep K F H x (.dict kvs)) : ∃ (a : Addr) (ks : List Key) (xs : List V) (ds : List D), x = .ref a ∧ H a = some (.dK (ks.zip xs)) ∧ ks.length = xs.length ∧ Reps K F xs ds ∧ kvs = (ks.map kD).zip ds := by
  cases h with
  | p h => cases h with
    | dct h l r => exact ⟨_, _, _, _, rfl, sub _ _ h, l, r, rfl⟩
end

/-- a fresh tuple, a fresh list -/
theorem fresh_tup {K : PySem.W.Frag} {F H : Hp} {xs : List V} {ds : List D} {Q : VK} (sub : Same F H) (r : Reps K F xs ds) (q : ∀ z F' H', Grow F H F' H' → Rep K F' z (.tuple ds) → Q z H') {p : Addr} (hp : H p = none) : Q (.ref p) (upd H p (.tup xs)) := by
  have sF : Same F (upd F p (.tup xs)) := fun a u h => by rw [upd_ne (ne_of_none h (sub.free hp))]; exact h
  exact q _ _ _ (.inr (.inl ⟨p, _, hp, rfl, rfl⟩)) (.tup upd_same (r.mono sF))
theorem fresh_lst {K : PySem.W.Frag} {F H : Hp} {xs : List V} {ds : List D} {Q : VK} (sub : Same F H) (r : Reps K F xs ds) (q : ∀ z F' H', Grow F H F' H' → Rep K F' z (.list ds) → Q z H') {p : Addr} (hp : H p = none) : Q (.ref p) (upd H p (.lst xs)) := by
  have sF : Same F (upd F p (.lst xs)) := fun a u h => by rw [upd_ne (ne_of_none h (sub.free hp))]; exact h
  exact q _ _ _ (.inr (.inl ⟨p, _, hp, rfl, rfl⟩)) (.lst upd_same (r.mono sF))

def opOf : BOp → Operator
  | .add => .Add
  | .sub => .Sub
  | .mul => .Mult
  | .fdiv => .FloorDiv
  | .mod => .Mod
  | .pow => .Pow
def rBin (K : PySem.W.Frag) (o : BOp) : R2 := fun x y H Q => ∃ F a b c, Same F H ∧ VRep K F H x a ∧ VRep K F H y b ∧ binD o a b = some c ∧ ∀ z F' H', Grow F H F' H' → Rep K F' z c → Q z H'

theorem sLine_eq : sLine = sizeLine := by rw [sizeLine_eq]; rfl
theorem mulOk_C {i j : Int} (h : mulOk i j = true) : CMul i j := by
  unfold mulOk at h
  unfold CMul
  rcases Bool.or_eq_true _ _ ▸ h with h | h
  · have := of_decide_eq_true h; left; omega
  · have := of_decide_eq_true h; right; omega
section
variable {X : Cx}
theorem op_bin (o : BOp) : OpR X (binaryOp (opOf o)) (rBin X.K o) := by
  intro pins s σ H x y v u Q I rx ry ⟨F, a, b, c, sub, ha, hb, e, q⟩
  have qs : ∀ z, Rep X.K F z c → Q z H := fun z r => q z F H (.inl ⟨rfl, rfl⟩) r
  unfold binD at e
  split at e
  · cases e
    cases ha.int; cases hb.int
    exact op_add pins s σ H _ _ v u Q I rx ry ⟨_, _, rfl, rfl, qs _ (.int _)⟩
  · split at e
    · rename_i hz
      cases e
      obtain ⟨l, xs', rfl, h1, r1⟩ := ha.list sub
      obtain ⟨m, ys', rfl, h2, r2⟩ := hb.list sub
      rw [sLine_eq, ← r1.length, ← r2.length] at hz
      exact op_cat pins s σ H _ _ v u Q I rx ry ⟨_, _, _, _, rfl, rfl, h1, h2, hz, fun p hp => fresh_lst sub (r1.append r2) q hp⟩
    · cases e
  · split at e
    · rename_i hz
      cases e
      obtain ⟨l, xs', rfl, h1, h1F, r1⟩ := ha.tuple sub
      obtain ⟨m, ys', rfl, h2, h2F, r2⟩ := hb.tuple sub
      rw [sLine_eq, ← r1.length, ← r2.length] at hz
      refine op_catA pins s σ H _ _ v u Q I rx ry ⟨_, _, _, _, rfl, rfl, h1, h2, hz, fun z => ?_, fun _ z => ?_, fun _ _ p hp => fresh_tup sub (r1.append r2) q hp⟩
      · subst z; cases r1; exact qs _ (.tup h2F r2)
      · subst z; cases r2; rw [List.append_nil] at qs; exact qs _ (.tup h1F r1)
    · cases e
  · split at e
    · rename_i hz
      cases e
      cases ha.str; cases hb.str
      rw [sLine_eq] at hz
      exact op_add_str pins s σ H _ _ v u Q I rx ry ⟨_, _, rfl, rfl, hz, qs _ (.str _)⟩
    · cases e
  · cases e
    cases ha.int; cases hb.int
    exact op_sub pins s σ H _ _ v u Q I rx ry ⟨_, _, rfl, rfl, qs _ (.int _)⟩
  · split at e
    · rename_i hz
      cases e
      cases ha.int; cases hb.int
      exact op_mul pins s σ H _ _ v u Q I rx ry ⟨_, _, rfl, rfl, mulOk_C hz, qs _ (.int _)⟩
    · cases e
  · split at e
    · rename_i hz
      cases e
      obtain ⟨l, xs', rfl, h1, h1F, r1⟩ := ha.tuple sub
      cases hb.int
      rw [← r1.length] at hz
      refine op_repAny pins s σ H _ _ v u Q I rx ry ⟨_, _, _, rfl, rfl, h1, hz.1, hz.2.1, hz.2.2, fun z => ?_, fun p hp => fresh_tup sub (r1.rep_flat _) q hp⟩
      rcases z with z | z
      · subst z
        cases r1
        have e0 : ∀ n : Nat, (List.replicate n ([] : List D)).flatten = [] := fun n => by simp
        rw [e0] at qs
        exact qs _ (.tup h1F .nil)
      · subst z
        exact qs _ (by simpa using Rep.tup h1F r1)
    · cases e
  · split at e
    · rename_i hz
      cases e
      obtain ⟨l, xs', rfl, h1, r1⟩ := ha.list sub
      cases hb.int
      rw [← r1.length] at hz
      refine op_rep pins s σ H _ _ v u Q I rx ry ⟨_, _, _, rfl, rfl, h1, by omega, by omega, ?_, fun p hp => fresh_lst sub (r1.rep_flat _) q hp⟩
      rw [sizeLine_eq]
      exact Nat.le_trans (Nat.mul_le_mul hz.2.2 (Int.toNat_le.mpr hz.2.1)) (by decide)
    · cases e
  · split at e
    · rename_i hz
      cases e
      cases ha.str; cases hb.int
      exact op_repStr pins s σ H _ _ v u Q I rx ry ⟨_, _, rfl, rfl, hz.1, hz.2.1, hz.2.2, qs _ (.str _)⟩
    · cases e
  · split at e
    · rename_i hz
      cases e
      cases ha.int; cases hb.int
      refine op_fdivW pins s σ H _ _ v u Q I rx ry ⟨_, _, rfl, rfl, wide_div (b := 31) hz.1 ?_ (by decide) (by decide), qs _ (.int _)⟩
      have := hz.2
      omega
    · cases e
  · split at e
    · rename_i hz
      cases e
      cases ha.int; cases hb.int
      exact op_mod pins s σ H _ _ v u Q I rx ry ⟨_, _, rfl, rfl, hz, qs _ (.int _)⟩
    · cases e
  · split at e
    · rename_i hz
      cases e
      cases ha.int; cases hb.int
      refine op_pow pins s σ H _ _ v u Q I rx ry ⟨_, _, rfl, rfl, ⟨hz.1, hz.2.1, ?_⟩, qs _ (.int _)⟩
      have := hz.2.2
      omega
    · cases e
  · cases e

theorem cpart {h : Heap} {a : Addr} {ks : List Key} {xs : List V} {vs : List (Key × Value)} {es : List DictEntry} {prog : Program} {w : World} (hl : ks.length = xs.length) (kv : KV (ks.zip xs) vs) (ps : Pairs (mixKind prog w) es vs) :
    (∃ as, ReadsAll h (es.map (·.key)) (ks.map kD) as) ∧ Vals xs (es.map (·.val)) := by
  induction ks generalizing xs vs es with
  | nil =>
    cases xs with
    | cons _ _ => simp at hl
    | nil =>
      cases kv
      cases ps
      exact ⟨⟨_, .nil⟩, .nil⟩
  | cons k ks ih =>
    cases xs with
    | nil => simp at hl
    | cons x xs =>
      cases kv with
      | cons r kv =>
        cases ps with
        | cons hk hv ps =>
          obtain ⟨⟨as, r1⟩, r2⟩ := ih (by simpa using hl) kv ps
          refine ⟨?_, .cons (by show L2.RelV x _; dsimp only; rw [hv]; exact r.2) r2⟩
          rw [← r.1] at hk
          rcases keyIs_shape hk with ⟨i, t, rfl, e⟩ | ⟨y, t, rfl, e⟩
          · exact ⟨_, ReadsAll.cons (by dsimp only; rw [e]; exact Reads.int i t) r1⟩
          · exact ⟨_, ReadsAll.cons (by dsimp only; rw [e]; exact Reads.str y t) r1⟩
mutual
theorem Rep.reads {pins : List (Addr × Obj)} {σ : L2.St} {F H : Hp} {s : Shared} (I : Inv X pins σ H s) (sub : Same F H) : ∀ {x : V} {d : D}, Rep X.K F x d → ∀ u : Value, RelV x u → ∃ as, Reads s.heap u d as
  | _, _, .non, _, r => by cases r; exact ⟨_, Reads.none⟩
  | _, _, .bl b, _, r => by cases r; exact ⟨_, Reads.bool b⟩
  | _, _, .int i, _, r => by obtain ⟨t, rfl⟩ := r; exact ⟨_, Reads.int i t⟩
  | _, _, .str x, _, r => by obtain ⟨t, rfl⟩ := r; exact ⟨_, Reads.str x t⟩
  | _, _, .lst h q, _, r => by
    cases r
    obtain ⟨its, rv, ⟨o, n, ho, hc, _, hd⟩, _⟩ := I.list (SqL.of (sub _ _ h))
    obtain ⟨as, hr⟩ := Reps.reads I sub q its rv
    exact ⟨_, Reads.list ho hc hd hr⟩
  | _, _, .tup h q, _, r => by
    cases r
    obtain ⟨its, rv, ⟨o, ho, hc, n, hd⟩, _⟩ := I.tuple (SqT.of (sub _ _ h))
    obtain ⟨as, hr⟩ := Reps.reads I sub q its rv
    exact ⟨_, Reads.tuple ho hc hd hr⟩
  | _, _, .dct h l q, _, r => by
    cases r
    obtain ⟨_, _, vs, kv, o, es, ep, ho, ⟨hc, _⟩, hd, _, ps, _⟩ := I.hok _ _ (sub _ _ h)
    obtain ⟨⟨as, r1⟩, rv⟩ := cpart (h := s.heap) (a := 0) l kv ps
    obtain ⟨bs, hr⟩ := Reps.reads I sub q _ rv
    have hlen := q.length
    exact ⟨_, Reads.dict ho hc hd (by rw [List.map_fst_zip (by rw [List.length_map]; omega)]; exact r1) (by rw [List.map_snd_zip (by rw [List.length_map]; omega)]; exact hr)⟩
theorem Reps.reads {pins : List (Addr × Obj)} {σ : L2.St} {F H : Hp} {s : Shared} (I : Inv X pins σ H s) (sub : Same F H) : ∀ {xs : List V} {ds : List D}, Reps X.K F xs ds → ∀ us : List Value, Vals xs us → ∃ as, ReadsAll s.heap us ds as
  | _, _, .nil, _, r => by cases r; exact ⟨_, ReadsAll.nil⟩
  | _, _, .cons h q, _, r => by
    cases r with
    | cons r1 r2 =>
      obtain ⟨as, q1⟩ := Rep.reads I sub h _ r1
      obtain ⟨bs, q2⟩ := Reps.reads I sub q _ r2
      exact ⟨_, ReadsAll.cons q1 q2⟩
end
theorem VRep.reads {pins : List (Addr × Obj)} {σ : L2.St} {F H : Hp} {s : Shared} (I : Inv X pins σ H s) (sub : Same F H) {x : V} {d : D} (h : VRep X.K F H x d) {u : Value} (r : RelV x u) : ∃ as, Reads s.heap u d as := by
  cases h with
  | p h => exact Rep.reads I sub h u r
  | r h q =>
    cases r
    obtain ⟨its, rv, ⟨o, n, ho, hc, _, hd⟩, _⟩ := I.list (SqL.of h)
    obtain ⟨as, hr⟩ := Reps.reads I sub q its rv
    exact ⟨_, Reads.list ho hc hd hr⟩

/-! ### comparisons -/
def cmpOf : COp → CmpOp
  | .lt => .Lt
  | .le => .LtE
  | .gt => .Gt
  | .ge => .GtE
  | .eq => .Eq
  | .ne => .NotEq
  | .isin => .In
  | .notin => .NotIn
  | .iss => .Is
  | .isnot => .IsNot
def rCmp (K : PySem.W.Frag) (o : COp) : R2 := fun x y H Q => ∃ F a b c, Same F H ∧ VRep K F H x a ∧ VRep K F H y b ∧ cmpD o a b = some c ∧ Q (.bl c) H
theorem eqOk_units {a b : D} {n m : Nat} (h : eqOk a b = true) (hu : n + 64 < m) : a.canLay0 = true ∧ b.canLay0 = true ∧ n + min a.depth b.depth < m := by
  unfold eqOk at h
  simp only [Bool.and_eq_true, Bool.or_eq_true, decide_eq_true_eq] at h
  obtain ⟨⟨h1, h2⟩, h3⟩ := h
  exact ⟨h1, h2, by omega⟩
theorem inOk_units {a : D} {xs : List D} {n m : Nat} (h : inOk a xs = true) (hu : n + 65 < m) : a.canLay0 = true ∧ PyData.canLayAll0 xs = true ∧ n + 1 + min (PyData.depthAll xs) a.depth < m := by
  unfold inOk at h
  rw [Bool.and_eq_true] at h
  have := SeqAt.depth_of_shaped h.1
  exact ⟨SeqAt.canLay_of_shaped h.1, h.2, by omega⟩
theorem eqD_some {a b : D} {c : Bool} (h : eqD a b = some c) : (eqOk a b = true ∧ c = PyData.eqv a b) ∨ eqE a b = some c := by
  unfold eqD at h
  split at h
  · cases h; exact .inl ⟨by assumption, rfl⟩
  · exact .inr h
theorem eqE_rc {da db : D} {c : Bool} {A : Around} {s : Shared} {a b : Value} {as bs : List Addr} (ra : Reads s.heap a da as) (rb : Reads s.heap b db bs) (h : eqE da db = some c) (hu : A.units < cLine) : SeqAt.RcAt A s a b c ∧ SeqAt.RcNeAt A s a b (!c) := by
  unfold eqE at h
  split at h
  · rename_i xs ys
    cases ra with
    | @list l o vs n _ as₁ h1 h2 h3 h4 =>
    cases rb with
    | @list l' o' vs' n' _ bs₁ k1 k2 k3 k4 =>
    have hl : s.heap.IsList l vs := ⟨_, h1, h2, _, h3⟩
    have hl' : s.heap.IsList l' vs' := ⟨_, k1, k2, _, k3⟩
    have n1 : vs.size = xs.length := by simpa using SeqAt.ReadsAll.length _ _ _ h4
    have n2 : vs'.size = ys.length := by simpa using SeqAt.ReadsAll.length _ _ _ k4
    split at h
    · split at h
      · rename_i e1 e2
        cases h
        have e3 : xs.length = 0 := by simpa using e2
        have hz : vs.size = 0 := by omega
        have he : ∀ j (j1 : j < vs.size) (j2 : j < vs'.size), SeqAt.EqAt A.in1 s vs[j] vs'[j] ((fun _ => true) j) := fun j j1 _ => by omega
        have r1 := SeqAt.RcAt.lists hl hl' (by omega) hu he
        have r2 := SeqAt.RcNeAt.lists hl hl' (by omega) hu he
        simpa [hz] using And.intro r1 r2
      · cases h
    · rename_i e1
      cases h
      have hz : (vs.size != vs'.size) = true := by simp; omega
      exact ⟨SeqAt.RcAt.lists_lengths hl hl' hz hu, SeqAt.RcNeAt.lists_lengths hl hl' hz hu⟩
  · rename_i xs
    cases ra with
    | @tuple l o vs n _ as₁ h1 h2 h3 h4 =>
    cases rb with
    | @tuple l' o' vs' n' _ bs₁ k1 k2 k3 k4 =>
    have hl : s.heap.IsTuple l vs := ⟨_, h1, h2, _, h3⟩
    have hl' : s.heap.IsTuple l' vs' := ⟨_, k1, k2, _, k3⟩
    have n1 : vs.size = xs.length := by simpa using SeqAt.ReadsAll.length _ _ _ h4
    have n2 : vs'.size = 0 := by simpa using SeqAt.ReadsAll.length _ _ _ k4
    have he : ∀ j (j1 : j < vs.size) (j2 : j < vs'.size), SeqAt.EqAt A.in1 s vs[j] vs'[j] ((fun _ => true) j) := fun j _ j2 => by omega
    have r1 := SeqAt.RcAt.tuples hl hl' hu he
    have r2 := SeqAt.RcNeAt.tuples hl hl' hu he
    have hc : c = (vs.size == vs'.size) := by
      cases h
      rw [n1, n2]
      cases xs <;> simp
    rw [hc]
    simpa [n2] using And.intro r1 r2
  · cases h
theorem inD_some {a : D} {xs : List D} {c : Bool} (h : inD a xs = some c) : inOk a xs = true ∧ c = (xs.any fun z => PyData.eqv z a) := by
  unfold inD at h
  split at h
  · cases h; exact ⟨by assumption, rfl⟩
  · cases h
theorem ltD_some {a b : D} {c : Bool} (h : ltD a b = some c) {n m : Nat} (hu : n + 64 < m) : PySem.W.alike a b = true ∧ n + min a.depth b.depth < m ∧ c = PySem.W.dataLt a b := by
  unfold ltD at h
  split at h
  · rename_i z
    cases h
    unfold ltOk at z
    simp only [Bool.and_eq_true, Bool.or_eq_true, decide_eq_true_eq] at z
    exact ⟨z.1, by omega, rfl⟩
  · cases h
theorem op_cmp (o : COp) (hu : X.A.units + 65 < cLine) : OpR X (compareOp (cmpOf o)) (rCmp X.K o) := by
  intro pins s σ H x y v u Q I rx ry ⟨F, a, b, c, sub, ha, hb, e, q⟩
  have fin : EP X pins σ Q (.bool c) s := ⟨.bl c, H, I, rfl, q⟩
  unfold cmpD at e
  split at e
  · cases e
    cases ha.int; cases hb.int
    exact op_lt pins s σ H _ _ v u Q I rx ry ⟨_, _, rfl, rfl, q⟩
  · cases e
    cases ha.int; cases hb.int
    exact op_le pins s σ H _ _ v u Q I rx ry ⟨_, _, rfl, rfl, q⟩
  · cases e
    cases ha.int; cases hb.int
    exact op_gt pins s σ H _ _ v u Q I rx ry ⟨_, _, rfl, rfl, q⟩
  · cases e
    cases ha.int; cases hb.int
    exact op_ge pins s σ H _ _ v u Q I rx ry ⟨_, _, rfl, rfl, q⟩
  · obtain ⟨c1, c2, rfl⟩ := ltD_some e (n := X.A.units) (m := cLine) (by omega)
    obtain ⟨as, r1⟩ := ha.reads I sub rx
    obtain ⟨bs, r2⟩ := hb.reads I sub ry
    exact PySem.W.lt_data r1 r2 c1 (fun z => nomatch z) c2 fin
  · cases e
    cases ha.str; cases hb.str
    refine op_eq pins s σ H _ _ v u Q I rx ry ⟨rfl, ?_⟩
    rename_i a b
    have : decide (V.str a = V.str b) = decide (a = b) := decide_eq_decide.mpr ⟨fun z => by cases z; rfl, fun z => by rw [z]⟩
    rw [this]; exact q
  · cases e
    cases ha.str; cases hb.str
    refine op_ne pins s σ H _ _ v u Q I rx ry ⟨rfl, ?_⟩
    rename_i a b
    have : decide (V.str a = V.str b) = decide (a = b) := decide_eq_decide.mpr ⟨fun z => by cases z; rfl, fun z => by rw [z]⟩
    rw [this]; exact q
  · obtain ⟨as, r1⟩ := ha.reads I sub rx
    obtain ⟨bs, r2⟩ := hb.reads I sub ry
    rcases eqD_some e with ⟨h1, rfl⟩ | h1
    · obtain ⟨c1, c2, c3⟩ := eqOk_units h1 (Nat.lt_of_succ_lt hu)
      exact SeqAt.compareEq_reads r1 r2 c1 c2 c3 fin
    · exact (eqE_rc r1 r2 h1 (by omega)).1 _ _ _ _ fin
  · cases q0 : eqD a b with
    | none => rw [q0] at e; cases e
    | some c0 =>
      rw [q0] at e
      cases e
      obtain ⟨as, r1⟩ := ha.reads I sub rx
      obtain ⟨bs, r2⟩ := hb.reads I sub ry
      rcases eqD_some q0 with ⟨h1, rfl⟩ | h1
      · obtain ⟨c1, c2, c3⟩ := eqOk_units h1 (Nat.lt_of_succ_lt hu)
        exact SeqAt.compareNe_reads r1 r2 c1 c2 c3 fin
      · exact (eqE_rc r1 r2 h1 (by omega)).2 _ _ _ _ fin
  · obtain ⟨h1, rfl⟩ := inD_some e
    obtain ⟨c1, c2, c3⟩ := inOk_units h1 hu
    obtain ⟨as, r1⟩ := ha.reads I sub rx
    obtain ⟨bs, r2⟩ := hb.reads I sub ry
    exact SeqAt.in_list_reads r2 r1 c2 c1 c3 fin
  · rename_i xs
    cases q0 : inD a xs with
    | none => rw [q0] at e; cases e
    | some c0 =>
      rw [q0] at e
      cases e
      obtain ⟨h1, rfl⟩ := inD_some q0
      obtain ⟨c1, c2, c3⟩ := inOk_units h1 hu
      obtain ⟨as, r1⟩ := ha.reads I sub rx
      obtain ⟨bs, r2⟩ := hb.reads I sub ry
      exact SeqAt.notIn_list_reads r2 r1 c2 c1 c3 fin
  · obtain ⟨h1, rfl⟩ := inD_some e
    obtain ⟨c1, c2, c3⟩ := inOk_units h1 hu
    obtain ⟨as, r1⟩ := ha.reads I sub rx
    obtain ⟨bs, r2⟩ := hb.reads I sub ry
    exact SeqAt.in_tuple_reads r2 r1 c2 c1 c3 fin
  · rename_i xs
    cases q0 : inD a xs with
    | none => rw [q0] at e; cases e
    | some c0 =>
      rw [q0] at e
      cases e
      obtain ⟨h1, rfl⟩ := inD_some q0
      obtain ⟨c1, c2, c3⟩ := inOk_units h1 hu
      obtain ⟨as, r1⟩ := ha.reads I sub rx
      obtain ⟨bs, r2⟩ := hb.reads I sub ry
      exact SeqAt.notIn_tuple_reads r2 r1 c2 c1 c3 fin
  · cases e
    cases hb.non
    refine op_isN pins s σ H _ _ v u Q I rx ry ⟨rfl, ?_⟩
    have e0 : decide (x = .non) = isNoneD a := by
      cases ha with
      | p ha => cases ha <;> simp [isNoneD]
      | r _ _ => simp [isNoneD]
    rw [e0]; exact q
  · cases e
    cases hb.non
    refine op_notN pins s σ H _ _ v u Q I rx ry ⟨rfl, ?_⟩
    have e0 : (!decide (x = .non)) = !isNoneD a := by
      cases ha with
      | p ha => cases ha <;> simp [isNoneD]
      | r _ _ => simp [isNoneD]
    rw [e0]; exact q
  · cases e
end
end MS

-- MsShow
/-! How data with dicts are shown. -/
namespace MS
open PySem PySem.Spec PyProof.Rows L2
/-- no dict among these is the table of modules -/
def NoSys (h : Heap) (as : List Addr) : Prop := ∀ a, a ∈ as → ∀ o es n, h.get? a = some o → o.data = .dict es n → (a == sysModules) = false
theorem NoSys.nil {h : Heap} : NoSys h [] := fun _ z => nomatch z
theorem NoSys.app {h : Heap} {l r : List Addr} (x : NoSys h l) (y : NoSys h r) : NoSys h (l ++ r) := fun a z => (List.mem_append.mp z).elim (x a) (y a)
theorem NoSys.left {h : Heap} {l r : List Addr} (x : NoSys h (l ++ r)) : NoSys h l := fun a z => x a (List.mem_append_left _ z)
theorem NoSys.right {h : Heap} {l r : List Addr} (x : NoSys h (l ++ r)) : NoSys h r := fun a z => x a (List.mem_append_right _ z)
theorem NoSys.tail {h : Heap} {b : Addr} {l : List Addr} (x : NoSys h (b :: l)) : NoSys h l := fun a z => x a (List.mem_cons_of_mem _ z)
section
variable {prog : Program} {w : World} {hp : Heap}
mutual
theorem rk_of : ∀ {v : Value} {d : PyData} {as : List Addr}, Reads hp v d as → d.showable = true → NoSys hp as → d.shown.length ≤ sizeLine → ∃ bs, ReadAtMost hp d.depth bs ∧ ReprK prog w bs hp d.depth v d.shown
  | _, _, _, .none, _, _, _ => ⟨[], (fun _ z => nomatch z), by rw [PyData.shown]; exact .of_is ReprIs.none _ _ _⟩
  | _, _, _, .bool b, _, _, _ => ⟨[], (fun _ z => nomatch z), by rw [PyData.shown]; exact .of_is (ReprIs.bool b) _ _ _⟩
  | _, _, _, .int i t, q, _, _ => ⟨[], (fun _ z => nomatch z), by rw [PyData.shown]; exact .of_is (ReprIs.int t (by simpa [PyData.showable] using q)) _ _ _⟩
  | _, _, _, .str x t, _, _, z => ⟨[], (fun _ z => nomatch z), by rw [PyData.shown]; exact .of_is (ReprIs.str x t (by simpa only [PyData.shown] using z)) _ _ _⟩
  | _, _, _, .list (a := a) (vs := vs) (xs := xs) g1 g2 g3 g4, q, ns, z => by
    have z' : (listText (PyData.shownAll xs)).length ≤ sizeLine := by rw [PyData.shown] at z; exact z
    obtain ⟨bs, p1, p2⟩ := rks_of g4 (by simpa [PyData.showable] using q) ns.tail fun t m => Nat.le_trans (listText_mem_le m) z'
    have rd : Reads hp (.ref a) (.list xs) _ := .list g1 g2 g3 g4
    have nm : a ∉ bs := not_mem_of_deeper rd (by rw [PyData.depth]; omega) p1
    refine ⟨a :: bs, ReadAtMost.cons rd (by rw [PyData.depth]; omega) p1, ?_⟩
    rw [PyData.depth, PyData.shown]
    obtain ⟨l⟩ := vs
    cases l with
    | nil =>
      have g5 : ReadsAll hp [] xs _ := g4
      cases g5
      rw [PyData.shownAll, listText_nil]
      exact ReprK.listEmpty g1 g2 g3
    | cons y l => exact ReprK.list g1 g2 g3 nm (by simpa using p2.length_eq) (fun i y e => p2.item i y (by simpa using e))
  | _, _, _, .tuple (a := a) (xs := xs) g1 g2 g3 g4, q, ns, z => by
    have z' : (tupleText (PyData.shownAll xs)).length ≤ sizeLine := by rw [PyData.shown] at z; exact z
    obtain ⟨bs, p1, p2⟩ := rks_of g4 (by simpa [PyData.showable] using q) ns fun t m => Nat.le_trans (tupleText_mem_le m) z'
    have rd : Reads hp (.ref a) (.tuple xs) _ := .tuple g1 g2 g3 g4
    have nm : a ∉ bs := not_mem_of_deeper rd (by rw [PyData.depth]; omega) p1
    refine ⟨a :: bs, ReadAtMost.cons rd (by rw [PyData.depth]; omega) p1, ?_⟩
    rw [PyData.depth, PyData.shown]
    exact ReprK.tuple g1 g2 g3 nm p2
  | _, _, _, .dict (a := a) (es := es) (kvs := kvs) g1 g2 g3 g4 g5, q, ns, z => by
    have z' : (dictText (PyData.shownKv kvs)).length ≤ sizeLine := by rw [PyData.shown] at z; exact z
    obtain ⟨q1, q2⟩ := PyData.showableKv_split kvs (by simpa [PyData.showable] using q)
    have nt := ns.tail
    obtain ⟨b1, p1, k1⟩ := rks_of g4 q1 nt.left fun t m => let ⟨p, i1, i2⟩ := PyData.shownKv_key_le kvs t m; Nat.le_trans i2 (Nat.le_trans (dictText_mem_le i1) z')
    obtain ⟨b2, p2, k2⟩ := rks_of g5 q2 nt.right fun t m => let ⟨p, i1, i2⟩ := PyData.shownKv_val_le kvs t m; Nat.le_trans i2 (Nat.le_trans (dictText_mem_le i1) z')
    have rd : Reads hp (.ref a) (.dict kvs) _ := .dict g1 g2 g3 g4 g5
    have pb := (p1.mono (PyData.depthAll_keys_le kvs)).append (p2.mono (PyData.depthAll_vals_le kvs))
    have nm : a ∉ b1 ++ b2 := not_mem_of_deeper rd (by rw [PyData.depth]; omega) pb
    refine ⟨a :: (b1 ++ b2), ReadAtMost.cons rd (by rw [PyData.depth]; omega) pb, ?_⟩
    rw [PyData.depth, PyData.shown, PyData.shownKv_eq]
    exact ReprK.dict g1 g2 g3 (ns a (List.mem_cons_self ..) _ _ _ g1 g3) nm (ReprEntriesK.of_two es.toList _ _
      (k1.more_le (fun b m => List.mem_append_left _ m) (PyData.depthAll_keys_le kvs)) (k2.more_le (fun b m => List.mem_append_right _ m) (PyData.depthAll_vals_le kvs)))
theorem rks_of : ∀ {vs : List Value} {ds : List PyData} {as : List Addr}, ReadsAll hp vs ds as → PyData.showableAll ds = true → NoSys hp as → (∀ t ∈ PyData.shownAll ds, t.length ≤ sizeLine) →
    ∃ bs, ReadAtMost hp (PyData.depthAll ds) bs ∧ ReprAllK prog w bs hp (PyData.depthAll ds) vs (PyData.shownAll ds)
  | _, _, _, .nil, _, _, _ => ⟨[], (fun _ z => nomatch z), by rw [PyData.shownAll]; exact .nil⟩
  | _, _, _, .cons (d := d) (ds := ds) r rs, q, ns, z => by
    have q' : d.showable = true ∧ PyData.showableAll ds = true := by simpa [PyData.showableAll] using q
    obtain ⟨b1, p1, k1⟩ := rk_of r q'.1 ns.left (z _ (by rw [PyData.shownAll]; exact List.mem_cons_self ..))
    obtain ⟨b2, p2, k2⟩ := rks_of rs q'.2 ns.right fun t m => z t (by rw [PyData.shownAll]; exact List.mem_cons_of_mem _ m)
    refine ⟨b1 ++ b2, ?_, ?_⟩
    · intro b m
      rw [PyData.depthAll]
      rcases List.mem_append.mp m with m | m
      · obtain ⟨d', as', r', e'⟩ := p1 b m
        exact ⟨d', as', r', Nat.le_trans e' (Nat.le_max_left _ _)⟩
      · obtain ⟨d', as', r', e'⟩ := p2 b m
        exact ⟨d', as', r', Nat.le_trans e' (Nat.le_max_right _ _)⟩
    · rw [PyData.depthAll, PyData.shownAll]
      exact .cons ((k1.more fun b m => List.mem_append_left _ m).level_le (Nat.le_max_left _ _)) (k2.more_le (fun b m => List.mem_append_right _ m) (Nat.le_max_right _ _))
end
theorem shows_of {a : Addr} {d : PyData} {as : List Addr} (r : Reads hp (.ref a) d as) (q : d.showable = true) (ns : NoSys hp as) (z : d.shown.length ≤ sizeLine) : ∃ T idr, ShowsBy prog w hp a d T idr := by
  cases r with
  | list g1 g2 g3 g4 =>
    rename_i o vs n xs bs0
    have z' : (listText (PyData.shownAll xs)).length ≤ sizeLine := by rw [PyData.shown] at z; exact z
    obtain ⟨bs, p1, p2⟩ := rks_of (prog := prog) (w := w) g4 (by simpa [PyData.showable] using q) ns.tail fun t m => Nat.le_trans (listText_mem_le m) z'
    have nm : a ∉ bs := not_mem_of_deeper (.list g1 g2 g3 g4) (by rw [PyData.depth]; omega) p1
    refine ⟨"list", "list.__repr__", F.slot_list_repr.toG, F.slot_list_str, F.slot_list_format, fun s k0 => ⟨o, k0 _ _ g1, g2⟩, fun A E s Q hg hu k0 hQ => ?_⟩
    rw [PyData.depth] at hu
    rw [PyData.shown] at hQ
    obtain ⟨l⟩ := vs
    cases l with
    | nil =>
      have g5 : ReadsAll hp [] xs _ := g4
      cases g5
      rw [PyData.shownAll, listText_nil] at hQ
      exact call_list_repr_empty ⟨o, k0 _ _ g1, g2⟩ (k0 _ _ g1) g3 (hQ s.heap _ _ fun _ _ e => e)
    | cons x l =>
      exact call_list_reprK g1 g2 g3 nm (by simpa using p2.length_eq) (fun i y e => p2.item i y (by simpa using e)) hg (fun b _ => Clear.nil b) hu k0 hQ z'
  | tuple g1 g2 g3 g4 =>
    rename_i o vs n xs
    have z' : (tupleText (PyData.shownAll xs)).length ≤ sizeLine := by rw [PyData.shown] at z; exact z
    obtain ⟨bs, p1, p2⟩ := rks_of (prog := prog) (w := w) g4 (by simpa [PyData.showable] using q) ns fun t m => Nat.le_trans (tupleText_mem_le m) z'
    have nm : a ∉ bs := not_mem_of_deeper (.tuple g1 g2 g3 g4) (by rw [PyData.depth]; omega) p1
    refine ⟨"tuple", "tuple.__repr__", F.slot_tuple_repr, F.slot_tuple_str, F.slot_tuple_format, fun s k0 => ⟨o, k0 _ _ g1, g2⟩, fun A E s Q hg hu k0 hQ => ?_⟩
    rw [PyData.depth] at hu
    rw [PyData.shown] at hQ
    exact call_tuple_reprK g1 g2 g3 nm p2 hg (fun b _ => Clear.nil b) hu k0 hQ z'
  | dict g1 g2 g3 g4 g5 =>
    rename_i o es n kvs as1 bs1
    have z' : (dictText (PyData.shownKv kvs)).length ≤ sizeLine := by rw [PyData.shown] at z; exact z
    obtain ⟨q1, q2⟩ := PyData.showableKv_split kvs (by simpa [PyData.showable] using q)
    have nt := ns.tail
    obtain ⟨b1, p1, k1⟩ := rks_of (prog := prog) (w := w) g4 q1 nt.left fun t m => let ⟨p, i1, i2⟩ := PyData.shownKv_key_le kvs t m; Nat.le_trans i2 (Nat.le_trans (dictText_mem_le i1) z')
    obtain ⟨b2, p2, k2⟩ := rks_of (prog := prog) (w := w) g5 q2 nt.right fun t m => let ⟨p, i1, i2⟩ := PyData.shownKv_val_le kvs t m; Nat.le_trans i2 (Nat.le_trans (dictText_mem_le i1) z')
    have pb := (p1.mono (PyData.depthAll_keys_le kvs)).append (p2.mono (PyData.depthAll_vals_le kvs))
    have nm : a ∉ b1 ++ b2 := not_mem_of_deeper (.dict g1 g2 g3 g4 g5) (by rw [PyData.depth]; omega) pb
    refine ⟨"dict", "dict.__repr__", F.slot_dict_repr, F.slot_dict_str, F.slot_dict_format, fun s k0 => ⟨o, k0 _ _ g1, g2⟩, fun A E s Q hg hu k0 hQ => ?_⟩
    rw [PyData.depth] at hu
    rw [PyData.shown, PyData.shownKv_eq] at hQ
    exact call_dict_reprK g1 g2 g3 (ns a (List.mem_cons_self ..) _ _ _ g1 g3) nm (ReprEntriesK.of_two es.toList _ _
      (k1.more_le (fun b m => List.mem_append_left _ m) (PyData.depthAll_keys_le kvs)) (k2.more_le (fun b m => List.mem_append_right _ m) (PyData.depthAll_vals_le kvs))) hg (fun b _ => Clear.nil b) hu k0 hQ (by rw [← PyData.shownKv_eq]; exact z')
/-- repr of whatever reads as a datum -/
theorem repr_any {A : Around} {E : Value → Shared → Prop} {s : Shared} {Q : Value → Shared → Prop} {u : Value} {d : PyData} {as : List Addr} (r : Reads s.heap u d as) (q : d.showable = true) (ns : NoSys s.heap as) (z : d.shown.length ≤ sizeLine)
    (hg : A.guards = some []) (hu : A.units + (d.depth + 1) < cLine) (hQ : ∀ h' t tk, (∀ b o, s.heap.get? b = some o → h'.get? b = some o) → Q (.str d.shown t) { s with heap := h', toks := tk }) : wpAny (model prog w) A (call (.builtin "repr") [u]) Q E s := by
  have rf : ∀ a, u = .ref a → wpAny (model prog w) A (call (.builtin "repr") [u]) Q E s := fun a ea => by
    subst ea
    obtain ⟨T, idr, S⟩ := shows_of (prog := prog) (w := w) r q ns z
    exact call_repr_slot (by omega) (S.typeIs s fun _ _ e => e) S.slotRepr (S.call A.in1 E s _ hg (by show A.units + 1 + d.depth < cLine; omega) (fun _ _ e => e) fun h' t tk k => ⟨_, _, rfl, hQ h' t tk k⟩)
  cases r with
  | none =>
    rw [PyData.shown] at hQ
    exact PySem.P.repr_of_none (hQ s.heap _ _ fun _ _ e => e)
  | bool b =>
    rw [PyData.shown] at hQ
    exact PySem.P.repr_of_bool (hQ s.heap _ _ fun _ _ e => e)
  | int i t =>
    rw [PyData.shown] at hQ
    exact PySem.P.repr_of_int (by simpa [PyData.showable] using q) (hQ s.heap _ _ fun _ _ e => e)
  | str x t =>
    rw [PyData.shown] at hQ z
    exact PySem.P.repr_of_str (hQ s.heap _ _ fun _ _ e => e) z
  | list _ _ _ _ => exact rf _ rfl
  | tuple _ _ _ _ => exact rf _ rfl
  | dict _ _ _ _ _ => exact rf _ rfl
end
theorem keys_none {h : Heap} : ∀ {ks : List Key} {us : List Value} {as : List Addr}, ReadsAll h us (ks.map kD) as → as = []
  | [], _, _, r => by cases r; rfl
  | k :: ks, _, _, r => by
    cases r with
    | cons r1 r2 =>
      rw [keys_none r2]
      cases k with
      | inl i => cases r1; rfl
      | inr x => cases r1; rfl
section
variable {X : Cx}
mutual
theorem Rep.readsN {pins : List (Addr × Obj)} {σ : L2.St} {F H : Hp} {s : Shared} (I : Inv X pins σ H s) (sub : Same F H) : ∀ {x : V} {d : D}, Rep X.K F x d → ∀ u : Value, RelV x u → ∃ as, Reads s.heap u d as ∧ NoSys s.heap as
  | _, _, .non, _, r => by cases r; exact ⟨_, Reads.none, .nil⟩
  | _, _, .bl b, _, r => by cases r; exact ⟨_, Reads.bool b, .nil⟩
  | _, _, .int i, _, r => by obtain ⟨t, rfl⟩ := r; exact ⟨_, Reads.int i t, .nil⟩
  | _, _, .str x, _, r => by obtain ⟨t, rfl⟩ := r; exact ⟨_, Reads.str x t, .nil⟩
  | _, _, .lst h q, _, r => by
    cases r
    obtain ⟨its, rv, ⟨o, n, ho, hc, _, hd⟩, _⟩ := I.list (SqL.of (sub _ _ h))
    obtain ⟨as, hr, hn⟩ := Reps.readsN I sub q its rv
    refine ⟨_, Reads.list ho hc hd hr, fun a m o' es k e1 e2 => ?_⟩
    rcases List.mem_cons.mp m with e | m
    · subst e
      rw [ho] at e1
      cases e1
      rw [hd] at e2
      cases e2
    · exact hn a m o' es k e1 e2
  | _, _, .tup h q, _, r => by
    cases r
    obtain ⟨its, rv, ⟨o, ho, hc, n, hd⟩, _⟩ := I.tuple (SqT.of (sub _ _ h))
    obtain ⟨as, hr, hn⟩ := Reps.readsN I sub q its rv
    exact ⟨_, Reads.tuple ho hc hd hr, hn⟩
  | _, _, .dct h l q, _, r => by
    cases r
    obtain ⟨_, hsys, vs, kv, o, es, ep, ho, ⟨hc, _⟩, hd, _, ps, _⟩ := I.hok _ _ (sub _ _ h)
    obtain ⟨⟨as, r1⟩, rv⟩ := cpart (h := s.heap) (a := 0) l kv ps
    obtain ⟨bs, hr, hn⟩ := Reps.readsN I sub q _ rv
    have hlen := q.length
    refine ⟨_, Reads.dict ho hc hd (by rw [List.map_fst_zip (by rw [List.length_map]; omega)]; exact r1) (by rw [List.map_snd_zip (by rw [List.length_map]; omega)]; exact hr), fun a m o' es k e1 e2 => ?_⟩
    have e0 := keys_none r1
    subst e0
    rcases List.mem_cons.mp m with e | m
    · subst e; exact hsys
    · exact hn a m o' es k e1 e2
theorem Reps.readsN {pins : List (Addr × Obj)} {σ : L2.St} {F H : Hp} {s : Shared} (I : Inv X pins σ H s) (sub : Same F H) : ∀ {xs : List V} {ds : List D}, Reps X.K F xs ds → ∀ us : List Value, Vals xs us → ∃ as, ReadsAll s.heap us ds as ∧ NoSys s.heap as
  | _, _, .nil, _, r => by cases r; exact ⟨_, ReadsAll.nil, .nil⟩
  | _, _, .cons h q, _, r => by
    cases r with
    | cons r1 r2 =>
      obtain ⟨as, q1, n1⟩ := Rep.readsN I sub h _ r1
      obtain ⟨bs, q2, n2⟩ := Reps.readsN I sub q _ r2
      exact ⟨_, ReadsAll.cons q1 q2, n1.app n2⟩
end
theorem VRep.readsN {pins : List (Addr × Obj)} {σ : L2.St} {F H : Hp} {s : Shared} (I : Inv X pins σ H s) (sub : Same F H) {x : V} {d : D} (h : VRep X.K F H x d) {u : Value} (r : RelV x u) : ∃ as, Reads s.heap u d as ∧ NoSys s.heap as := by
  cases h with
  | p h => exact Rep.readsN I sub h u r
  | r h q =>
    cases r
    obtain ⟨its, rv, ⟨o, n, ho, hc, _, hd⟩, _⟩ := I.list (SqL.of h)
    obtain ⟨as, hr, hn⟩ := Reps.readsN I sub q its rv
    refine ⟨_, Reads.list ho hc hd hr, fun a m o' es k e1 e2 => ?_⟩
    rcases List.mem_cons.mp m with e | m
    · subst e
      rw [ho] at e1
      cases e1
      rw [hd] at e2
      cases e2
    · exact hn a m o' es k e1 e2
end
end MS

-- MsBi
/-! Built-ins, subscripts, slices, truth, isinstance, by values. -/
namespace MS
open PySem PySem.Spec PyProof.Rows L2

section
variable {K : PySem.W.Frag} {F H : Hp}
theorem tru_of {x : V} {d : D} {k : Bool} (sub : Same F H) (h : VRep K F H x d) (e : truthD d = some k) : TruV K x H k := by
  cases d with
  | none => cases h.non; cases e; rfl
  | bool b => cases h.bl; cases e; rfl
  | int i => cases h.int; cases e; rfl
  | str y =>
    cases h.str
    simp only [truthD] at e
    split at e
    · rename_i hz
      cases e
      refine ⟨by rw [← sLine_eq]; exact hz, ?_⟩
      rw [Bool.eq_iff_iff]; simp
    · cases e
  | list ds =>
    obtain ⟨a, xs, rfl, h1, r⟩ := h.list sub
    cases e
    refine .inl ⟨xs, SqL.of h1, ?_⟩
    cases r <;> rfl
  | tuple ds =>
    obtain ⟨a, xs, rfl, h1, _, r⟩ := h.tuple sub
    cases e
    refine .inr (.inl ⟨xs, h1, ?_⟩)
    cases r <;> rfl
  | dict kvs => cases e
theorem allB_some : ∀ {ds : List D} {bs : List Bool}, allB ds = some bs → ds = bs.map PyData.bool
  | [], bs, e => by simp [allB] at e; subst e; rfl
  | .bool b :: r, bs, e => by
    simp only [allB] at e
    cases q : allB r with
    | none => rw [q] at e; cases e
    | some cs => rw [q] at e; simp at e; subst e; rw [allB_some q]; rfl
  | .none :: _, _, e => by simp [allB] at e
  | .int _ :: _, _, e => by simp [allB] at e
  | .str _ :: _, _, e => by simp [allB] at e
  | .list _ :: _, _, e => by simp [allB] at e
  | .tuple _ :: _, _, e => by simp [allB] at e
  | .dict _ :: _, _, e => by simp [allB] at e
theorem allI_some : ∀ {ds : List D} {bs : List Int}, allI ds = some bs → ds = bs.map PyData.int
  | [], bs, e => by simp [allI] at e; subst e; rfl
  | .int b :: r, bs, e => by
    simp only [allI] at e
    cases q : allI r with
    | none => rw [q] at e; cases e
    | some cs => rw [q] at e; simp at e; subst e; rw [allI_some q]; rfl
  | .none :: _, _, e => by simp [allI] at e
  | .bool _ :: _, _, e => by simp [allI] at e
  | .str _ :: _, _, e => by simp [allI] at e
  | .list _ :: _, _, e => by simp [allI] at e
  | .tuple _ :: _, _, e => by simp [allI] at e
  | .dict _ :: _, _, e => by simp [allI] at e
end

/-! ### built-in functions of one argument -/
def biName : Bi → Str
  | .len => "len" | .all => "all" | .any => "any" | .sum => "sum" | .int => "int" | .tuple => "tuple" | .list => "list" | .sorted => "sorted" | .dict => "dict" | .abs => "abs" | .str => "str" | .repr => "repr" | .min => "min" | .max => "max"
def biVal : Bi → Value
  | .len => .builtin "len" | .all => .builtin "all" | .any => .builtin "any" | .sum => .builtin "sum" | .int => .type "int" | .tuple => .type "tuple" | .list => .type "list" | .sorted => .builtin "sorted" | .dict => .type "dict" | .abs => .builtin "abs"
  | .str => .type "str" | .repr => .builtin "repr" | .min => .builtin "min" | .max => .builtin "max"
def rBi (K : PySem.W.Frag) (b : Bi) : List V → Hp → VK → Prop := fun vs H Q => ∃ F x a c, vs = [x] ∧ Same F H ∧ VRep K F H x a ∧ biD b a = some c ∧ ∀ z F' H', Grow F H F' H' → Rep K F' z c → Q z H'
theorem bi_boot (b : Bi) : bootBuiltins (biName b) = some (biVal b) := by
  cases b <;> decide +kernel
section
variable {X : Cx}
theorem fold_max : ∀ (ns : List Int) (n : Int), (ns.foldl (fun a b => if a < b then b else a) n = n ∨ ns.foldl (fun a b => if a < b then b else a) n ∈ ns) ∧ n ≤ ns.foldl (fun a b => if a < b then b else a) n ∧ ∀ y ∈ ns, y ≤ ns.foldl (fun a b => if a < b then b else a) n
  | [], n => by simp
  | m :: ns, n => by
    rw [List.foldl_cons]
    obtain ⟨h1, h2, h3⟩ := fold_max ns (if n < m then m else n)
    generalize ns.foldl (fun a b => if a < b then b else a) (if n < m then m else n) = r at h1 h2 h3
    refine ⟨?_, ?_, fun y hy => ?_⟩
    · rcases h1 with h1 | h1
      · split at h1
        · exact .inr (by rw [h1]; simp)
        · exact .inl h1
      · exact .inr (by simp [h1])
    · split at h2 <;> omega
    · rcases List.mem_cons.mp hy with rfl | hy
      · split at h2 <;> omega
      · exact h3 y hy
theorem fold_min : ∀ (ns : List Int) (n : Int), (ns.foldl (fun a b => if b < a then b else a) n = n ∨ ns.foldl (fun a b => if b < a then b else a) n ∈ ns) ∧ ns.foldl (fun a b => if b < a then b else a) n ≤ n ∧ ∀ y ∈ ns, ns.foldl (fun a b => if b < a then b else a) n ≤ y
  | [], n => by simp
  | m :: ns, n => by
    rw [List.foldl_cons]
    obtain ⟨h1, h2, h3⟩ := fold_min ns (if m < n then m else n)
    generalize ns.foldl (fun a b => if b < a then b else a) (if m < n then m else n) = r at h1 h2 h3
    refine ⟨?_, ?_, fun y hy => ?_⟩
    · rcases h1 with h1 | h1
      · split at h1
        · exact .inr (by rw [h1]; simp)
        · exact .inl h1
      · exact .inr (by simp [h1])
    · split at h2 <;> omega
    · rcases List.mem_cons.mp hy with rfl | hy
      · split at h2 <;> omega
      · exact h3 y hy
theorem maxI_ok {ns : List Int} {n : Int} (h : maxI ns = some n) : 0 < ns.length ∧ n ∈ ns ∧ ∀ y ∈ ns, y ≤ n := by
  cases ns with
  | nil => cases h
  | cons m ns =>
    cases h
    obtain ⟨h1, h2, h3⟩ := fold_max ns m
    refine ⟨by simp, ?_, fun y hy => ?_⟩
    · rcases h1 with h1 | h1
      · rw [h1]; simp
      · exact List.mem_cons_of_mem _ h1
    · rcases List.mem_cons.mp hy with rfl | hy
      · exact h2
      · exact h3 y hy
theorem minI_ok {ns : List Int} {n : Int} (h : minI ns = some n) : 0 < ns.length ∧ n ∈ ns ∧ ∀ y ∈ ns, n ≤ y := by
  cases ns with
  | nil => cases h
  | cons m ns =>
    cases h
    obtain ⟨h1, h2, h3⟩ := fold_min ns m
    refine ⟨by simp, ?_, fun y hy => ?_⟩
    · rcases h1 with h1 | h1
      · rw [h1]; simp
      · exact List.mem_cons_of_mem _ h1
    · rcases List.mem_cons.mp hy with rfl | hy
      · exact h2
      · exact h3 y hy
theorem call_bi (b : Bi) (hc : X.calm = true) (hgu : b = .repr → X.A.guards = some [] ∧ X.A.units + 65 < cLine) : CallR X (biVal b) (rBi X.K b) := by
  intro pins s σ H vs us Q I r ⟨F, x, a, c, e0, sub, ha, e, q⟩
  subst e0
  have qs : ∀ z, Rep X.K F z c → Q z H := fun z r => q z F H (.inl ⟨rfl, rfl⟩) r
  unfold biD at e
  split at e
  · cases q0 : lenD a with
    | none => rw [q0] at e; cases e
    | some n =>
      rw [q0] at e
      cases e
      refine call_len pins s σ H _ us Q I r ⟨x, n, rfl, ?_, qs _ (.int _)⟩
      unfold lenD at q0
      split at q0
      · cases q0
        obtain ⟨l, xs', rfl, h1, r1⟩ := ha.list sub
        exact .inl ⟨_, SqL.of h1, r1.length.symm⟩
      · cases q0
        obtain ⟨l, xs', rfl, h1, _, r1⟩ := ha.tuple sub
        exact .inr ⟨_, h1, r1.length.symm⟩
      · split at q0
        · cases q0
          cases ha.str
          exact ⟨by rw [← sLine_eq]; assumption, rfl⟩
        · cases q0
      · cases q0
  · rename_i xs
    cases q0 : allB xs with
    | none => rw [q0] at e; cases e
    | some bs =>
      rw [q0] at e
      cases e
      rw [allB_some q0] at ha
      obtain ⟨l, xs', rfl, h1, r1⟩ := ha.list sub
      rw [r1.bools] at h1
      exact cr_all hc pins s σ H _ us Q I r ⟨_, bs, rfl, SqL.of h1, qs _ (.bl _)⟩
  · rename_i xs
    cases q0 : allB xs with
    | none => rw [q0] at e; cases e
    | some bs =>
      rw [q0] at e
      cases e
      rw [allB_some q0] at ha
      obtain ⟨l, xs', rfl, h1, r1⟩ := ha.list sub
      rw [r1.bools] at h1
      exact cr_any hc pins s σ H _ us Q I r ⟨_, bs, rfl, SqL.of h1, qs _ (.bl _)⟩
  · rename_i xs
    cases q0 : allI xs with
    | none => rw [q0] at e; cases e
    | some bs =>
      rw [q0] at e
      cases e
      rw [allI_some q0] at ha
      obtain ⟨l, xs', rfl, h1, r1⟩ := ha.list sub
      rw [r1.ints] at h1
      exact cr_sum hc pins s σ H _ us Q I r ⟨_, bs, rfl, SqL.of h1, qs _ (.int _)⟩
  · cases e
    cases ha.int
    exact call_int1 pins s σ H _ us Q I r (.inl ⟨_, rfl, qs _ (.int _)⟩)
  · cases e
    cases ha.bl
    exact call_int1 pins s σ H _ us Q I r (.inr ⟨_, rfl, qs _ (.int _)⟩)
  · cases e
    obtain ⟨l, xs', rfl, h1, r1⟩ := ha.list sub
    exact call_tuple_of pins s σ H _ us Q I r ⟨_, _, rfl, .inl ⟨SqL.of h1, fun p hp => fresh_tup sub r1 q hp⟩⟩
  · cases e
    obtain ⟨l, xs', rfl, h1, h1F, r1⟩ := ha.tuple sub
    exact call_tuple_of pins s σ H _ us Q I r ⟨_, _, rfl, .inr ⟨h1, qs _ (.tup h1F r1)⟩⟩
  · cases e
    obtain ⟨l, xs', rfl, h1, r1⟩ := ha.list sub
    exact call_list_of pins s σ H _ us Q I r ⟨_, _, rfl, .inl (SqL.of h1), fun p hp => fresh_lst sub r1 q hp⟩
  · cases e
    obtain ⟨l, xs', rfl, h1, h1F, r1⟩ := ha.tuple sub
    exact call_list_of pins s σ H _ us Q I r ⟨_, _, rfl, .inr h1, fun p hp => fresh_lst sub r1 q hp⟩
  · cases e
    cases ha.int
    exact call_abs pins s σ H _ us Q I r ⟨_, rfl, qs _ (.int _)⟩
  · split at e
    · rename_i ok
      cases e
      obtain ⟨hg1, hg2⟩ := hgu rfl
      unfold reprOk at ok
      simp only [Bool.and_eq_true, decide_eq_true_eq] at ok
      obtain ⟨⟨o2, o4⟩, o5⟩ := ok
      cases r with
      | cons rx rn =>
        cases rn
        obtain ⟨as, hr, hns⟩ := ha.readsN I sub rx
        exact repr_any hr o2 hns (by rw [← sLine_eq]; exact o5) hg1 (by omega) (fun h' tk1 tk hk => ⟨.str _, H, I.kept (t' := tk) hk, ⟨_, rfl⟩, qs _ (.str _)⟩)
    · cases e
  · rename_i xs
    cases q0 : allI xs with
    | none => rw [q0] at e; cases e
    | some ns =>
      rw [q0, Option.bind_some] at e
      cases q1 : maxI ns with
      | none => rw [q1] at e; cases e
      | some n =>
        rw [q1] at e
        cases e
        rw [allI_some q0] at ha
        obtain ⟨l, xs', rfl, h1, r1⟩ := ha.list sub
        rw [r1.ints] at h1
        obtain ⟨m1, m2, m3⟩ := maxI_ok q1
        refine cr_max hc pins s σ H _ us Q I r ⟨_, ns, rfl, SqL.of h1, m1, fun m g1 g2 => ?_⟩
        have : m = n := Int.le_antisymm (m3 m g1) (g2 n m2)
        rw [this]; exact qs _ (.int _)
  · rename_i xs
    cases q0 : allI xs with
    | none => rw [q0] at e; cases e
    | some ns =>
      rw [q0, Option.bind_some] at e
      cases q1 : minI ns with
      | none => rw [q1] at e; cases e
      | some n =>
        rw [q1] at e
        cases e
        rw [allI_some q0] at ha
        obtain ⟨l, xs', rfl, h1, r1⟩ := ha.list sub
        rw [r1.ints] at h1
        obtain ⟨m1, m2, m3⟩ := minI_ok q1
        refine cr_min hc pins s σ H _ us Q I r ⟨_, ns, rfl, SqL.of h1, m1, fun m g1 g2 => ?_⟩
        have : m = n := Int.le_antisymm (g2 n m2) (m3 m g1)
        rw [this]; exact qs _ (.int _)
  · cases e
/-- len of the script -/
theorem call_lenS : CallR X (.builtin "len") (fun vs H Q => ∃ (a : Addr) (xs : List V), vs = [.ref a] ∧ SqL X.K H a xs ∧ Q (.int xs.length) H) := by
  intro pins s σ H vs us Q I r ⟨a, xs, e0, h, q⟩
  subst e0
  exact call_len_seq pins s σ H _ us Q I r ⟨a, _, rfl, .inl h, q⟩

/-! ### subscripts -/
theorem ixOf_eq (n : Nat) (i : Int) : ixOf n i = ixN n i := rfl
theorem atD_rep {K : PySem.W.Frag} {F : Hp} {xs : List V} {ds : List D} {i : Int} {d : D} (r : Reps K F xs ds) (e : atD ds i = some d) : ∃ x, atI xs i = some x ∧ Rep K F x d := by
  unfold atD at e
  unfold atI
  rw [r.length, ← ixOf_eq]
  cases q : ixOf ds.length i with
  | none => rw [q] at e; cases e
  | some j =>
    rw [q] at e
    exact r.get e
theorem atD_repV {K : PySem.W.Frag} {fa : FA} {F : Hp} {ρ : Nat → Addr} {n : Nat} {xs : List V} {ds : List Val} {i : Int} {d : Val} (r : RepVs K fa F ρ n xs ds) (e : atD ds i = some d) : ∃ x, atI xs i = some x ∧ RepV K fa F ρ n x d := by
  unfold atD at e
  unfold atI
  rw [r.length, ← ixOf_eq]
  cases q : ixOf ds.length i with
  | none => rw [q] at e; cases e
  | some j =>
    rw [q] at e
    exact r.get e
theorem atD_ints {ns : List Int} {i n : Int} (e : atD ns i = some n) : atI (ns.map V.int) i = some (.int n) := by
  unfold atD at e
  unfold atI
  rw [List.length_map, ← ixOf_eq]
  cases q : ixOf ns.length i with
  | none => rw [q] at e; cases e
  | some j =>
    rw [q] at e
    have e' : ns[j]? = some n := e
    show (ns.map V.int)[j]? = _
    rw [List.getElem?_map, e']; rfl
def rIxV (K : PySem.W.Frag) (fa : FA) : R2 := fun x y H Q => ∃ F ρ S v i w, Sim K fa F H ρ S ∧ RepV K fa F ρ S.length x v ∧ y = .int i ∧ ixV S v (.int i) = some w ∧ ∀ z, RepV K fa F ρ S.length z w → Q z H
theorem ix_V (fa : FA) : IxR X (rIxV X.K fa) := by
  intro value slice pins s σ H x y v u Q I rx ry ⟨F, ρ, S, vv, i, w, sim, r, e0, e, q⟩ hs
  subst e0
  have go : rIx X.K x (.int i) H Q := by
    cases vv with
    | fn _ => simp [ixV] at e
    | exn _ => exact (show False from r).elim
    | scr ns =>
      obtain ⟨a, rfl, h⟩ := r
      simp only [ixV] at e
      cases q0 : atD ns i with
      | none => rw [q0] at e; cases e
      | some n =>
        rw [q0] at e
        cases e
        exact .inl ⟨a, _, i, _, rfl, rfl, sim.sub.seq h, atD_ints q0, q _ (.int _)⟩
    | ref n =>
      obtain ⟨h1, rfl⟩ := r
      simp only [ixV] at e
      cases q0 : stGet S n with
      | none => rw [q0] at e; cases e
      | some o =>
        rw [q0] at e
        cases o with
        | dct _ => cases e
        | lst vs =>
          obtain ⟨ho, h2, r2⟩ := sim.obj n _ q0
          cases r2 with
          | lst r2 =>
            obtain ⟨z, hz, rz⟩ := atD_repV r2 e
            exact .inl ⟨_, _, i, _, rfl, rfl, SqL.of h2, hz, q _ rz⟩
    | d d =>
      simp only [ixV] at e
      cases q0 : ixD d (.int i) with
      | none => rw [q0] at e; cases e
      | some c =>
        rw [q0] at e
        cases e
        have r' : VRep X.K F H x d := .p r
        unfold ixD at q0
        split at q0
        · rename_i h
          injection h with h; subst h
          obtain ⟨l, xs', rfl, h1, r1⟩ := r'.list sim.sub
          obtain ⟨z, hz, rz⟩ := atD_rep r1 q0
          exact .inl ⟨_, _, _, _, rfl, rfl, SqL.of h1, hz, q _ rz⟩
        · rename_i h
          injection h with h; subst h
          obtain ⟨l, xs', rfl, h1, _, r1⟩ := r'.tuple sim.sub
          obtain ⟨z, hz, rz⟩ := atD_rep r1 q0
          exact .inr (.inl ⟨_, _, _, _, rfl, rfl, h1, hz, q _ rz⟩)
        · rename_i z j h
          injection h with h; subst h
          split at q0
          · rename_i hl
            cases r'.str
            cases q1 : atD z.cps.toList i with
            | none => rw [q1] at q0; cases q0
            | some cc =>
              rw [q1] at q0
              cases q0
              exact .inr (.inr ⟨z, i, cc, rfl, rfl, by rw [← sLine_eq]; exact hl, q1, q _ (.str _)⟩)
          · cases q0
        · cases q0
  exact ix_seq value slice pins s σ H x (.int i) v u Q I rx ry go hs

/-! ### slices -/
theorem sIx_eq (n d : Nat) (o : Option Int) : sIx n d o = HT.sIx n d o := by cases o <;> rfl
theorem cut_rep {K : PySem.W.Frag} {F : Hp} {xs : List V} {ds : List D} (r : Reps K F xs ds) (lo hi : Option Int) : Reps K F (cutV xs lo hi) (cut ds lo hi) := by
  unfold cutV cut
  rw [r.length, sIx_eq, sIx_eq]
  exact (r.drop _).take _
theorem cut_ints (ns : List Int) (lo hi : Option Int) : cutV (ns.map V.int) lo hi = (cut ns lo hi).map V.int := by
  unfold cutV cut
  rw [List.length_map, sIx_eq, sIx_eq, ← List.map_drop, ← List.map_take]
def rSlV (K : PySem.W.Frag) (fa : FA) : V → Option Int → Option Int → Hp → VK → Prop := fun x lo hi H Q => ∃ F ρ S v c, Sim K fa F H ρ S ∧ RepV K fa F ρ S.length x v ∧ slV S v lo hi = some c ∧ ∀ z F' H', Grow F H F' H' → Rep K F' z c → Q z H'
theorem sl_V (fa : FA) : SlR X (rSlV X.K fa) := by
  intro pins s σ H x v vl vu lo hi sl Q I rx hs pl pu ⟨F, ρ, S, vv, c, sim, r, e, q⟩
  have qs : ∀ z, Rep X.K F z c → Q z H := fun z r => q z F H (.inl ⟨rfl, rfl⟩) r
  cases hv : vv with
  | scr ns =>
    subst hv
    obtain ⟨a, rfl, h⟩ := r
    simp only [slV] at e
    cases e
    refine sl_list pins s σ H _ v vl vu lo hi sl Q I rx hs pl pu ⟨a, _, rfl, sim.sub.seq h, fun p hp => ?_⟩
    rw [cut_ints]
    exact fresh_lst sim.sub (Reps.of_ints _) q hp
  | _ =>
    all_goals
      have e' : ((view S vv).bind fun x => slD x lo hi) = some c := by rw [hv] at e ⊢; exact e
      cases q0 : view S vv with
      | none => rw [q0] at e'; cases e'
      | some d =>
        rw [q0] at e'
        have e2 : slD d lo hi = some c := e'
        have r' := sim.view r q0
        unfold slD at e2
        split at e2
        · cases e2
          obtain ⟨l, xs', rfl, h1, r1⟩ := r'.list sim.sub
          exact sl_list pins s σ H _ v vl vu lo hi sl Q I rx hs pl pu ⟨_, _, rfl, SqL.of h1, fun p hp => fresh_lst sim.sub (cut_rep r1 _ _) q hp⟩
        · cases e2
          obtain ⟨l, xs', rfl, h1, h1F, r1⟩ := r'.tuple sim.sub
          refine sl_tupA pins s σ H _ v vl vu lo hi sl Q I rx hs pl pu ⟨_, _, rfl, h1, fun hw => ?_, fun _ p hp => fresh_tup sim.sub (cut_rep r1 _ _) q hp⟩
          have ew : cut _ lo hi = _ := show cut (_ : List D) lo hi = _ from by
            unfold cut
            rw [sIx_eq, sIx_eq, ← r1.length, hw.1, hw.2, List.drop_zero, r1.length, Nat.sub_zero, List.take_length]
          rw [ew] at qs
          exact qs _ (.tup h1F r1)
        · split at e2
          · rename_i hl
            cases e2
            cases r'.str
            refine sl_str pins s σ H _ v vl vu lo hi sl Q I rx hs pl pu ⟨_, rfl, by rw [← sLine_eq]; exact hl, ?_⟩
            refine qs _ ?_
            exact .str _
          · cases e2
        · cases e2

/-! ### isinstance -/
def tyV1 : Ty → V
  | .int => .ty "int" | .bool => .ty "bool" | .tuple => .ty "tuple" | .list => .ty "list" | .str => .ty "str" | .dict => .ty "dict"
def tyN : Ty → String
  | .int => "int" | .bool => "bool" | .tuple => "tuple" | .list => "list" | .str => "str" | .dict => "dict"
def dTy : D → String
  | .none => "NoneType" | .bool _ => "bool" | .int _ => "int" | .str _ => "str" | .list _ => "list" | .tuple _ => "tuple" | .dict _ => "dict"
theorem tyx_of {K : PySem.W.Frag} {F H : Hp} {x : V} {d : D} (sub : Same F H) (h : VRep K F H x d) : TyX K H x (.type (dTy d)) := by
  cases d with
  | none => cases h.non; exact .base .non
  | bool b => cases h.bl; exact .base (.bl _)
  | int i => cases h.int; exact .base (.int _)
  | str y => cases h.str; exact .base (.str _)
  | list ds =>
    obtain ⟨a, xs, rfl, h1, r⟩ := h.list sub
    exact .base (.lst h1)
  | tuple ds =>
    obtain ⟨a, xs, rfl, h1, _, r⟩ := h.tuple sub
    rcases h1 with (h1 | ⟨o, h1⟩) | ⟨o, its, n, h1, h2, _⟩
    · exact .base (.tup h1)
    · exact .fTuple h1
    · exact .kTuple h1 h2
  | dict kvs =>
    obtain ⟨a, ks, xs, ds, rfl, h1, _⟩ := h.dict sub
    exact .base (.dK h1)
theorem kit_D (K : PySem.W.Frag) (t : Ty) (d : D) : PySem.W.kitOne K (.type (dTy d)) (.type (tyN t)) = some (isTy t d) := by
  cases t <;> cases d <;> (simp only [dTy, tyN, isTy]; exact kit_ty (by decide +kernel))
end
end MS

-- MsExpr
/-! Expressions: one lemma a construct. -/
namespace MS
open PySem PySem.Spec PyProof.Rows L2

/-! ### what the check asks of the syntax -/
def noStar : Expr → Bool
  | .Starred .. => false
  | _ => true
theorem starEach_cons {e : Expr} (h : noStar e = true) (es : List Expr) (env : PySem.Env) : starEach (e :: es) env = (false, eval e env) :: starEach es env := by
  cases e <;> first | rfl | (simp [noStar] at h)
theorem starEach_plain : ∀ (es : List Expr) (env : PySem.Env) (pos : Pos), es.all noStar = true → (backTo pos (starEach es env)).any (·.1) = false
  | [], _, _, _ => rfl
  | e :: es, env, pos, h => by
    rw [List.all_cons, Bool.and_eq_true] at h
    rw [starEach_cons h.1]
    have := starEach_plain es env pos h.2
    unfold backTo at this ⊢
    rw [List.map_cons, List.any_cons, this]; rfl
/-- heads at which a test is the value's truth -/
def plainTest : Expr → Bool
  | .UnaryOp .Not _ _ => false
  | .BoolOp .. => false
  | .IfExp .. => false
  | .Compare .. => false
  | _ => true
theorem plainTest_ok {e : Expr} (h : plainTest e = true) (env : PySem.Env) (whole : Sem Value) : isTrue e env whole = (do let v ← whole; standAt e.pos; holding [v] (truthy v)) := by
  cases e with
  | UnaryOp op x p => cases op <;> first | rfl | (simp [plainTest] at h)
  | BoolOp _ _ _ => simp [plainTest] at h
  | IfExp _ _ _ _ => simp [plainTest] at h
  | Compare _ _ _ _ => simp [plainTest] at h
  | _ => rfl
def noSlice : Expr → Bool
  | .Slice .. => false
  | _ => true
theorem noSlice_ok {e : Expr} (h : noSlice e = true) : PlainIx e := fun o i => by
  cases e <;> first | rfl | (simp [noSlice] at h)
def noSet : Expr → Bool
  | .Set .. => false
  | _ => true
theorem noSet_ok {e : Expr} (h : noSet e = true) (op : CmpOp) : behindInMarks op e = false := by
  cases e <;> first | rfl | (simp [noSet] at h)
theorem noSet_iter {e : Expr} (h : noSet e = true) (env : PySem.Env) (x : Value) : foldedSetIterable e env x = pure x := by
  cases e <;> first | rfl | (simp [noSet] at h)
def noComp : Expr → Bool
  | .ListComp .. | .SetComp .. | .DictComp .. => false
  | _ => true
theorem noComp_ok {e : Expr} (h : noComp e = true) (t : Option Expr) (n : Nat) (env : PySem.Env) : swapsWith e t n env = pure false := by
  cases e <;> first | rfl | (simp [noComp] at h)

/-! ### the judgements -/
structure SimE (fa : FA) (X : Cx) (pe : Expr) (m : M Val) : Prop where
  run : ∀ W, Takes X W → PE X pe (rdE X.K fa W m)
structure SimT (fa : FA) (X : Cx) (pe : Expr) (m : M Bool) : Prop where
  run : ∀ W, Takes X W → PT X pe (rdT X.K fa W m)
structure SimA (fa : FA) (X : Cx) (pes : List Expr) (m : M (List Val)) : Prop where
  run : ∀ W, Takes X W → PA X pes (rdA X.K fa W m)

def tru (m : M Val) : M Bool := fun env S => (m env S).bind fun v S1 => .ofO (truthV S1 v) S1
section
variable {fa : FA} {X : Cx} {pe a b c : Expr} {m ma mb mc : M Val} {pos : Pos}
theorem truV_of {F H : Hp} {ρ : Nat → Addr} {S : Sto} {x : V} {v : Val} {k : Bool} (s : Sim X.K fa F H ρ S) (r : RepV X.K fa F ρ S.length x v) (e : truthV S v = some k) : TruV X.K x H k := by
  unfold truthV at e
  cases q : view S v with
  | none => rw [q] at e; cases e
  | some d =>
    rw [q] at e
    exact tru_of s.sub (s.view r q) e
theorem SimT.of_E (h : SimE fa X pe m) (hp : plainTest pe = true) : SimT fa X pe (tru m) := by
  refine ⟨fun W tk => PT.imp (pt_truth (h.run W tk) (plainTest_ok hp X.env)) fun σ H Q q => ?_⟩
  refine q.bind (rep := RepV X.K fa) fun env v S1 x F1 H1 ρ1 s1 e1 r1 p1 => ?_
  obtain ⟨k, ek, q2⟩ := p1.ofO
  exact ⟨k, truV_of s1 r1 ek, q2 k F1 H1 ρ1 s1 (Ext.refl ..) rfl⟩

theorem sm_var {i : Nat} {x : Str} (hN : X.N[i]? = some x) (hv : Vis X.env.scope x) (hd : (x == ("__debug__" : Str)) = false) (hcd : (x == ("__classdict__" : Str)) = false) : SimE fa X (.Name x pos) (fun env S => .ofO (lookE env i) S) := by
  refine ⟨fun W tk => PE.imp (pe_var hN hv hd hcd) fun σ H Q q => ?_⟩
  obtain ⟨env, S, F, ρ, s, e, p⟩ := q
  obtain ⟨v, ev, q2⟩ := p.ofO
  obtain ⟨z, hz, r⟩ := e.look i v ev
  exact ⟨z, hz, q2 z F H ρ s (Ext.refl ..) r⟩
/-- a constant -/
theorem sm_const {v : V} {d : D} (h : PE X pe (tC v)) (r : Rep X.K (fun _ => none) v d) : SimE fa X pe (fun _ S => .ok (.d d) S) := by
  refine ⟨fun W tk => PE.imp h fun σ H Q q => ?_⟩
  obtain ⟨env, S, F, ρ, s, e, p⟩ := q
  exact p v F H ρ s (Ext.refl ..) (Rep.mono (fun _ _ z => by cases z) r)

/-- two operands, then an operation by values -/
theorem rd_op2 {r : R2} {W : WX} {f : Sto → Val → Val → Option Val} {σ : L2.St} {H : Hp} {Q : VK}
    (hr : ∀ F H ρ S x y v u w, Sim X.K fa F H ρ S → RepV X.K fa F ρ S.length x v → RepV X.K fa F ρ S.length y u → f S v u = some w → (∀ z F' H', Sim X.K fa F' H' ρ S → Ext F H ρ S F' H' ρ S → RepV X.K fa F' ρ S.length z w → Q z H') → r x y H Q)
    (q : rdE X.K fa W (fun env S => (ma env S).bind fun x S1 => (mb env S1).bind fun y S2 => .ofO (f S2 x y) S2) σ H Q) : tOp r (rdE X.K fa W ma) (rdE X.K fa W mb) σ H Q := by
  refine q.bind (rep := RepV X.K fa) fun env v S1 x F1 H1 ρ1 s1 e1 r1 p1 => ?_
  refine rdG.mk s1 e1 (p1.bind fun u S2 y F2 H2 ρ2 s2 x2 r2 p2 => ?_)
  obtain ⟨w, ew, q2⟩ := p2.ofO
  exact hr F2 H2 ρ2 S2 x y v u w s2 (r1.mono x2.fz x2.rho x2.len) r2 ew fun z F' H' s' x' r' => q2 z F' H' ρ2 s' x' r'

def binV (o : BOp) (S : Sto) (x y : Val) : Option Val := ((view S x).bind fun x => (view S y).bind fun y => binD o x y).map Val.d
theorem sm_bin {o : BOp} (ha : SimE fa X a ma) (hb : SimE fa X b mb) : SimE fa X (.BinOp a (opOf o) b pos) (fun env S => (ma env S).bind fun x S1 => (mb env S1).bind fun y S2 => .ofO (binV o S2 x y) S2) := by
  refine ⟨fun W tk => PE.imp (pe_op (op_bin o) (ha.run W tk) (hb.run W tk)) fun σ H Q q => rd_op2 (fun F H ρ S x y v u w s r1 r2 e k => ?_) q⟩
  unfold binV at e
  cases q1 : view S v with
  | none => rw [q1] at e; cases e
  | some d1 =>
    cases q2 : view S u with
    | none => rw [q1, q2] at e; cases e
    | some d2 =>
      rw [q1, q2] at e
      cases q3 : binD o d1 d2 with
      | none => simp [q3] at e
      | some c =>
        simp [q3] at e
        subst e
        exact ⟨F, d1, d2, c, s.sub, s.view r1 q1, s.view r2 q2, q3, fun z F' H' g r => k z F' H' (s.of_grow g).1 (s.of_grow g).2 r⟩
def cmpV (o : COp) (S : Sto) (x y : Val) : Option Bool := (view S x).bind fun x => (view S y).bind fun y => cmpD o x y
theorem cmpV_r {o : COp} {F H : Hp} {ρ : Nat → Addr} {S : Sto} {x y : V} {v u : Val} {c : Bool} {Q : VK} (s : Sim X.K fa F H ρ S) (r1 : RepV X.K fa F ρ S.length x v) (r2 : RepV X.K fa F ρ S.length y u) (e : cmpV o S v u = some c) (q : Q (.bl c) H) : rCmp X.K o x y H Q := by
  unfold cmpV at e
  cases q1 : view S v with
  | none => rw [q1] at e; cases e
  | some d1 =>
    cases q2 : view S u with
    | none => rw [q1, q2] at e; cases e
    | some d2 =>
      rw [q1, q2] at e
      exact ⟨F, d1, d2, c, s.sub, s.view r1 q1, s.view r2 q2, e, q⟩
def mcmp (o : COp) (ma mb : M Val) : M Val := fun env S => (ma env S).bind fun x S1 => (mb env S1).bind fun y S2 => .ofO ((cmpV o S2 x y).map fun b => .d (.bool b)) S2
theorem rd_cmp {o : COp} {W : WX} {σ : L2.St} {H : Hp} {Q : VK} (q : rdE X.K fa W (mcmp o ma mb) σ H Q) : tOp (rCmp X.K o) (rdE X.K fa W ma) (rdE X.K fa W mb) σ H Q := by
  refine rd_op2 (f := fun S x y => (cmpV o S x y).map fun b => .d (.bool b)) (fun F H ρ S x y v u w s r1 r2 e k => ?_) q
  cases q1 : cmpV o S v u with
  | none => rw [q1] at e; cases e
  | some c =>
    rw [q1] at e
    cases e
    exact cmpV_r s r1 r2 q1 (k _ F H s (Ext.refl ..) (.bl c))
theorem sm_cmp {o : COp} (ha : SimE fa X a ma) (hb : SimE fa X b mb) (hu : X.A.units + 65 < cLine) (hm : noSet b = true) : SimE fa X (.Compare a [cmpOf o] [b] pos) (mcmp o ma mb) :=
  ⟨fun W tk => PE.imp (pe_cmpR (op_cmp o hu) (ha.run W tk) (hb.run W tk) (noSet_ok hm _)) fun σ H Q q => rd_cmp q⟩
/-- a test's reading from the value's, where the value is a bool -/
theorem rd_tru_bool {W : WX} {σ : L2.St} {H : Hp} {Q : Bool → Hp → Prop} (hb : ∀ env S v S', m env S = .ok v S' → ∃ k, v = .d (.bool k)) (q : rdT X.K fa W (tru m) σ H Q) : rdE X.K fa W m σ H (fun x H' => ∃ k, x = .bl k ∧ Q k H') := by
  obtain ⟨env, S, F, ρ, s, e, p⟩ := q
  refine ⟨env, S, F, ρ, s, e, ?_⟩
  unfold tru at p
  cases q : m env S with
  | stuck => rw [q] at p; exact p
  | exc e S' => rw [q] at p; exact p
  | ok v S' =>
    rw [q] at p
    obtain ⟨k, rfl⟩ := hb _ _ _ _ q
    intro x F' H' ρ' s' x' r'
    cases (show Rep X.K F' x (.bool k) from r')
    exact ⟨k, rfl, p k F' H' ρ' s' x' rfl⟩
theorem mcmp_bool {o : COp} : ∀ env S v S', mcmp o ma mb env S = .ok v S' → ∃ k, v = .d (.bool k) := by
  intro env S v S' h
  unfold mcmp at h
  cases q1 : ma env S with
  | stuck => rw [q1] at h; cases h
  | exc _ _ => rw [q1] at h; cases h
  | ok x S1 =>
    rw [q1, R.bind_ok] at h
    cases q2 : mb env S1 with
    | stuck => rw [q2] at h; cases h
    | exc _ _ => rw [q2] at h; cases h
    | ok y S2 =>
      rw [q2, R.bind_ok] at h
      cases q3 : cmpV o S2 x y with
      | none => rw [q3] at h; cases h
      | some k => rw [q3] at h; cases h; exact ⟨k, rfl⟩
theorem st_cmp {o : COp} (ha : SimE fa X a ma) (hb : SimE fa X b mb) (hu : X.A.units + 65 < cLine) (hm : noSet b = true) : SimT fa X (.Compare a [cmpOf o] [b] pos) (tru (mcmp o ma mb)) :=
  ⟨fun W tk => PT.imp (pt_cmpR (op_cmp o hu) (ha.run W tk) (hb.run W tk) (noSet_ok hm _)) fun σ H Q q => rd_cmp (rd_tru_bool mcmp_bool q)⟩
/-- a op b op' c -/
def mchain (o p : COp) (ma mb mc : M Val) : M Val := fun env S => (ma env S).bind fun x S1 => (mb env S1).bind fun y S2 =>
  (R.ofO (cmpV o S2 x y) S2).bind fun k S3 => if k then (mc env S3).bind fun z S4 => .ofO ((cmpV p S4 y z).map fun b => .d (.bool b)) S4 else .ok (.d (.bool false)) S3
theorem mchain_bool {o p : COp} : ∀ env S v S', mchain o p ma mb mc env S = .ok v S' → ∃ k, v = .d (.bool k) := by
  intro env S v S' h
  unfold mchain at h
  cases q1 : ma env S with
  | stuck => rw [q1] at h; cases h
  | exc _ _ => rw [q1] at h; cases h
  | ok x S1 =>
    rw [q1, R.bind_ok] at h
    cases q2 : mb env S1 with
    | stuck => rw [q2] at h; cases h
    | exc _ _ => rw [q2] at h; cases h
    | ok y S2 =>
      rw [q2, R.bind_ok] at h
      cases q3 : cmpV o S2 x y with
      | none => rw [q3] at h; cases h
      | some k =>
        rw [q3] at h
        simp only [R.ofO_some, R.bind_ok] at h
        cases k with
        | false => simp at h; exact ⟨false, h.1.symm⟩
        | true =>
          simp only [if_true] at h
          cases q4 : mc env S2 with
          | stuck => rw [q4] at h; cases h
          | exc _ _ => rw [q4] at h; cases h
          | ok z S4 =>
            rw [q4, R.bind_ok] at h
            cases q5 : cmpV p S4 y z with
            | none => rw [q5] at h; cases h
            | some k2 => rw [q5] at h; cases h; exact ⟨k2, rfl⟩
theorem rd_chain {o p : COp} {W : WX} {σ : L2.St} {H : Hp} {Q : VK} (q : rdE X.K fa W (mchain o p ma mb mc) σ H Q) : tChain (rCmp X.K o) (rCmp X.K p) (rdE X.K fa W ma) (rdE X.K fa W mb) (rdE X.K fa W mc) σ H Q := by
  refine q.bind (rep := RepV X.K fa) fun env v S1 x F1 H1 ρ1 s1 e1 r1 p1 => ?_
  refine rdG.mk s1 e1 (p1.bind fun u S2 y F2 H2 ρ2 s2 x2 r2 p2 => ?_)
  cases q1 : cmpV o S2 v u with
  | none => rw [q1] at p2; exact p2.elim
  | some k =>
    rw [q1] at p2
    have r1' := r1.mono x2.fz x2.rho x2.len
    refine cmpV_r s2 r1' r2 q1 ⟨k, rfl, ?_⟩
    simp only [R.ofO_some, R.bind_ok] at p2
    cases k with
    | false =>
      rw [if_neg Bool.false_ne_true]
      exact p2 _ F2 H2 ρ2 s2 (Ext.refl ..) (.bl false)
    | true =>
      rw [if_pos rfl]
      simp only [if_true] at p2
      refine rdG.mk s2 (e1.mono x2.fz x2.rho x2.len) (p2.bind fun z S4 w F4 H4 ρ4 s4 x4 r4 p4 => ?_)
      obtain ⟨c, ec, q5⟩ := p4.ofO
      cases q6 : cmpV p S4 u z with
      | none => rw [q6] at ec; cases ec
      | some c2 =>
        rw [q6] at ec
        cases ec
        exact cmpV_r s4 (r2.mono x4.fz x4.rho x4.len) r4 q6 (q5 _ F4 H4 ρ4 s4 (Ext.refl ..) (.bl c2))
theorem lastM {op op' : CmpOp} (hm : noSet c = true) : lastMarks [op, op'] [b, c] = false := noSet_ok hm _
theorem sm_chain {o p : COp} (ha : SimE fa X a ma) (hb : SimE fa X b mb) (hc : SimE fa X c mc) (hu : X.A.units + 65 < cLine) (hm : noSet c = true) : SimE fa X (.Compare a [cmpOf o, cmpOf p] [b, c] pos) (mchain o p ma mb mc) :=
  ⟨fun W tk => PE.imp (pe_chain (op_cmp o hu) (op_cmp p hu) (ha.run W tk) (hb.run W tk) (hc.run W tk) (lastM hm)) fun σ H Q q => rd_chain q⟩
theorem st_chain {o p : COp} (ha : SimE fa X a ma) (hb : SimE fa X b mb) (hc : SimE fa X c mc) (hu : X.A.units + 65 < cLine) (hm : noSet c = true) : SimT fa X (.Compare a [cmpOf o, cmpOf p] [b, c] pos) (tru (mchain o p ma mb mc)) :=
  ⟨fun W tk => PT.imp (pt_chain (op_cmp o hu) (op_cmp p hu) (ha.run W tk) (hb.run W tk) (hc.run W tk) (lastM hm)) fun σ H Q q => rd_chain (rd_tru_bool mchain_bool q)⟩

/-! ### not, and, or, if -/
def mnot (m : M Val) : M Val := fun env S => (m env S).bind fun v S1 => (R.ofO (truthV S1 v) S1).bind fun b S2 => .ok (.d (.bool (!b))) S2
theorem sm_not (h : SimE fa X a ma) : SimE fa X (.UnaryOp .Not a pos) (mnot ma) := by
  refine ⟨fun W tk => PE.imp (pe_notT (h.run W tk)) fun σ H Q q => ?_⟩
  refine q.bind (rep := RepV X.K fa) fun env v S1 x F1 H1 ρ1 s1 e1 r1 p1 => ?_
  cases q1 : truthV S1 v with
  | none => rw [q1] at p1; exact p1.elim
  | some k =>
    rw [q1] at p1
    exact ⟨k, truV_of s1 r1 q1, p1 _ F1 H1 ρ1 s1 (Ext.refl ..) (.bl _)⟩
theorem st_not (h : SimT fa X a (tru ma)) : SimT fa X (.UnaryOp .Not a pos) (tru (mnot ma)) := by
  refine ⟨fun W tk => PT.imp (pt_not (h.run W tk)) fun σ H Q q => ?_⟩
  obtain ⟨env, S, F, ρ, s, e, p⟩ := q
  refine ⟨env, S, F, ρ, s, e, ?_⟩
  unfold tru mnot at p
  unfold tru
  cases q : ma env S with
  | stuck => rw [q] at p; exact p
  | exc e S' => rw [q] at p; exact p
  | ok v S' =>
    rw [q] at p
    simp only [R.bind_ok] at p ⊢
    cases q1 : truthV S' v with
    | none => rw [q1] at p; exact p
    | some k =>
      rw [q1] at p
      exact fun x F' H' ρ' s' x' r' => by
        cases (show x = k from r')
        exact p _ F' H' ρ' s' x' rfl
def boolOf (k : Bool) : BoolOp := if k then .And else .Or
def mbool (k : Bool) (ma mb : M Val) : M Val := fun env S => (ma env S).bind fun v S1 => (R.ofO (truthV S1 v) S1).bind fun b S2 => if b = k then mb env S2 else .ok v S2
theorem sm_bools {k : Bool} {rest : List Expr} (ha : SimE fa X a ma) (hb : SimE fa X (.BoolOp (boolOf k) (b :: rest) pos) mb) : SimE fa X (.BoolOp (boolOf k) (a :: b :: rest) pos) (mbool k ma mb) := by
  have key : ∀ W σ H Q, rdE X.K fa W (mbool k ma mb) σ H Q → rdE X.K fa W ma σ H fun x H1 => ∃ t, TruV X.K x H1 t ∧ if t = k then rdE X.K fa W mb σ H1 Q else Q x H1 := by
    intro W σ H Q q
    refine q.bind (rep := RepV X.K fa) fun env v S1 x F1 H1 ρ1 s1 e1 r1 p1 => ?_
    cases q1 : truthV S1 v with
    | none => rw [q1] at p1; exact p1.elim
    | some t =>
      rw [q1] at p1
      simp only [R.ofO_some, R.bind_ok] at p1
      refine ⟨t, truV_of s1 r1 q1, ?_⟩
      split
      · rename_i h; rw [if_pos h] at p1; exact rdG.mk s1 e1 p1
      · rename_i h; rw [if_neg h] at p1; exact p1 _ F1 H1 ρ1 s1 (Ext.refl ..) r1
  cases k with
  | true =>
    refine ⟨fun W tk => PE.imp (pe_andT (ha.run W tk) (hb.run W tk)) fun σ H Q q => ?_⟩
    exact key W σ H Q q
  | false =>
    refine ⟨fun W tk => PE.imp (pe_orT (ha.run W tk) (hb.run W tk)) fun σ H Q q => ?_⟩
    obtain ⟨env, S, F, ρ, s, e, p⟩ := key W σ H Q q
    refine ⟨env, S, F, ρ, s, e, p.imp ?_⟩
    rintro x H' ⟨t, ht, q⟩
    refine ⟨t, ht, ?_⟩
    cases t with
    | true => simpa using q
    | false => simpa using q
theorem sm_bool1 {k : Bool} (ha : SimE fa X a ma) : SimE fa X (.BoolOp (boolOf k) [a] pos) ma := ⟨fun W tk => pe_one (ha.run W tk)⟩
structure SimW (fa : FA) (X : Cx) (pe : Expr) (m : M Bool) : Prop where
  run : ∀ W, Takes X W → PW X pe (rdT X.K fa W m)
theorem SimW.t {m : M Bool} (h : SimW fa X pe m) : SimT fa X pe m := ⟨fun W tk => (h.run W tk).pt⟩
theorem st_bool1 {k : Bool} (ha : SimT fa X a (tru ma)) : SimW fa X (.BoolOp (boolOf k) [a] pos) (tru ma) := by
  cases k with
  | true => exact ⟨fun W tk => pw_and1 (ha.run W tk)⟩
  | false => exact ⟨fun W tk => pw_or1 (ha.run W tk)⟩
theorem st_bools {k : Bool} {rest : List Expr} (ha : SimT fa X a (tru ma)) (hb : SimW fa X (.BoolOp (boolOf k) (b :: rest) pos) (tru mb)) : SimW fa X (.BoolOp (boolOf k) (a :: b :: rest) pos) (tru (mbool k ma mb)) := by
  have key : ∀ W σ H Q, rdT X.K fa W (tru (mbool k ma mb)) σ H Q → rdT X.K fa W (tru ma) σ H fun t H1 => if t = k then rdT X.K fa W (tru mb) σ H1 Q else Q t H1 := by
    intro W σ H Q q
    obtain ⟨env, S, F, ρ, s, e, p⟩ := q
    refine ⟨env, S, F, ρ, s, e, ?_⟩
    unfold tru mbool at p
    unfold tru
    cases q : ma env S with
    | stuck => rw [q] at p; exact p
    | exc e S' => rw [q] at p; exact p
    | ok v S' =>
      rw [q] at p
      simp only [R.bind_ok] at p ⊢
      cases q1 : truthV S' v with
      | none => rw [q1] at p; exact p
      | some t =>
        rw [q1] at p
        simp only [R.ofO_some, R.bind_ok] at p
        intro x F' H' ρ' s' x' r'
        cases (show x = t from r')
        split
        · rename_i h
          rw [if_pos h] at p
          exact rdG.mk (m := fun env S => (mb env S).bind fun v S1 => .ofO (truthV S1 v) S1) s' (e.mono x'.fz x'.rho x'.len) (Post.shift x' p)
        · rename_i h
          rw [if_neg h] at p
          simp only [R.bind_ok, q1] at p
          exact p _ F' H' ρ' s' x' rfl
  cases k with
  | true =>
    refine ⟨fun W tk => PW.imp (pw_and (ha.run W tk) (hb.run W tk)) fun σ H Q q => ?_⟩
    obtain ⟨env, S, F, ρ, s, e, p⟩ := key W σ H Q q
    refine ⟨env, S, F, ρ, s, e, p.imp ?_⟩
    intro t H' q
    cases t with
    | true => exact q
    | false => simpa using q
  | false =>
    refine ⟨fun W tk => PW.imp (pw_or (ha.run W tk) (hb.run W tk)) fun σ H Q q => ?_⟩
    obtain ⟨env, S, F, ρ, s, e, p⟩ := key W σ H Q q
    refine ⟨env, S, F, ρ, s, e, p.imp ?_⟩
    intro t H' q
    cases t with
    | true => simpa using q
    | false => simpa using q
def mife (mt : M Val) (ma mb : M Val) : M Val := fun env S => (mt env S).bind fun v S0 => (R.ofO (truthV S0 v) S0).bind fun k S1 => if k then ma env S1 else mb env S1
theorem sm_ife {mt : M Val} (hc : SimT fa X c (tru mt)) (ha : SimE fa X a ma) (hb : SimE fa X b mb) : SimE fa X (.IfExp c a b pos) (mife mt ma mb) := by
  refine ⟨fun W tk => PE.imp (pe_ifExp (hc.run W tk) (ha.run W tk) (hb.run W tk)) fun σ H Q q => ?_⟩
  obtain ⟨env, S, F, ρ, s, e, p⟩ := q
  refine ⟨env, S, F, ρ, s, e, ?_⟩
  unfold mife at p
  unfold tru
  cases q : mt env S with
  | stuck => rw [q] at p; exact p
  | exc e S' => rw [q] at p; exact p
  | ok v S' =>
    rw [q] at p
    simp only [R.bind_ok] at p ⊢
    cases q1 : truthV S' v with
    | none => rw [q1] at p; exact p
    | some t =>
      rw [q1] at p
      simp only [R.ofO_some, R.bind_ok] at p
      intro x F' H' ρ' s' x' r'
      cases (show x = t from r')
      cases t with
      | true => exact rdG.mk s' (e.mono x'.fz x'.rho x'.len) (Post.shift x' p)
      | false => exact rdG.mk s' (e.mono x'.fz x'.rho x'.len) (Post.shift x' p)

/-! ### argument lists, displays -/
def mnil : M (List Val) := fun _ S => .ok [] S
def mcons (m : M Val) (ms : M (List Val)) : M (List Val) := fun env S => (m env S).bind fun v S1 => (ms env S1).bind fun vs S2 => .ok (v :: vs) S2
theorem sa_nil : SimA fa X [] mnil := by
  refine ⟨fun W tk => PA.imp pa_nil fun σ H Q q => ?_⟩
  obtain ⟨env, S, F, ρ, s, e, p⟩ := q
  exact p [] F H ρ s (Ext.refl ..) .nil
theorem sa_cons {es : List Expr} {ms : M (List Val)} (h : SimE fa X a ma) (hs : SimA fa X es ms) (hn : noStar a = true) : SimA fa X (a :: es) (mcons ma ms) := by
  refine ⟨fun W tk => PA.imp (pa_cons (h.run W tk) (hs.run W tk) (starEach_cons hn _ _)) fun σ H Q q => ?_⟩
  refine q.bind (rep := RepV X.K fa) fun env v S1 x F1 H1 ρ1 s1 e1 r1 p1 => ?_
  refine rdG.mk s1 e1 (p1.bind fun vs S2 xs F2 H2 ρ2 s2 x2 r2 p2 => ?_)
  exact p2 (x :: xs) F2 H2 ρ2 s2 (Ext.refl ..) (.cons (r1.mono x2.fz x2.rho x2.len) r2)
/-- fewer than so many -/
theorem sm_tup {es : List Expr} {ms : M (List Val)} {k : Nat} (h : SimA fa X es ms) (hl : ∀ env S vs S', ms env S = .ok vs S' → vs.length ≤ sLine) : SimE fa X (.Tuple es k pos) (fun env S => (ms env S).bind fun vs S1 => .ofO ((pureVs vs).map fun xs => .d (.tuple xs)) S1) := by
  refine ⟨fun W tk => PE.imp (pe_tup (h.run W tk)) fun σ H Q q => ?_⟩
  obtain ⟨env, S, F, ρ, s, e, p⟩ := q
  refine ⟨env, S, F, ρ, s, e, ?_⟩
  dsimp only at p
  have hl' := hl env S
  cases q0 : ms env S with
  | stuck => rw [q0] at p; exact p
  | exc e S' => rw [q0] at p; exact p
  | ok vs S1 =>
    rw [q0] at p
    intro xs F1 H1 ρ1 s1 x1 r1
    refine ⟨by rw [r1.length, ← sLine_eq]; exact hl' _ _ q0, fun a ha => ?_⟩
    obtain ⟨w, ew, q2⟩ := (Post.shift x1 p).ofO
    cases q3 : pureVs vs with
    | none => rw [q3] at ew; cases ew
    | some ds =>
      rw [q3] at ew
      cases ew
      exact fresh_tup s1.sub (r1.pure q3) (fun z F' H' g r => q2 z F' H' ρ1 (s1.of_grow g).1 (s1.of_grow g).2 r) ha
theorem sm_lst {es : List Expr} {ms : M (List Val)} (h : SimA fa X es ms) (hl : ∀ env S vs S', ms env S = .ok vs S' → vs.length ≤ sLine) : SimE fa X (.List es pos) (fun env S => (ms env S).bind fun vs S1 => .ofO ((pureVs vs).map fun xs => .d (.list xs)) S1) := by
  refine ⟨fun W tk => PE.imp (pe_lst (h.run W tk)) fun σ H Q q => ?_⟩
  obtain ⟨env, S, F, ρ, s, e, p⟩ := q
  refine ⟨env, S, F, ρ, s, e, ?_⟩
  dsimp only at p
  have hl' := hl env S
  cases q0 : ms env S with
  | stuck => rw [q0] at p; exact p
  | exc e S' => rw [q0] at p; exact p
  | ok vs S1 =>
    rw [q0] at p
    intro xs F1 H1 ρ1 s1 x1 r1
    refine ⟨by rw [r1.length, ← sLine_eq]; exact hl' _ _ q0, fun a ha => ?_⟩
    obtain ⟨w, ew, q2⟩ := (Post.shift x1 p).ofO
    cases q3 : pureVs vs with
    | none => rw [q3] at ew; cases ew
    | some ds =>
      rw [q3] at ew
      cases ew
      exact fresh_lst s1.sub (r1.pure q3) (fun z F' H' g r => q2 z F' H' ρ1 (s1.of_grow g).1 (s1.of_grow g).2 r) ha
/-- a new object of the store -/
theorem Sim.alloc {F H : Hp} {ρ : Nat → Addr} {S : Sto} {p : Addr} {h : HO} {o : Ob} (s : Sim X.K fa F H ρ S) (hp : H p = none) (r : RepO X.K fa F ρ S.length h o) :
    ∃ ρ', ρ' S.length = p ∧ Sim X.K fa F (upd H p h) ρ' (S ++ [some o]) ∧ Ext F H ρ S F (upd H p h) ρ' (S ++ [some o]) := by
  refine ⟨fun n => if n = S.length then p else ρ n, by simp, ?_⟩
  have hr : ∀ n, n < S.length → (if n = S.length then p else ρ n) = ρ n := fun n hn => if_neg (Nat.ne_of_lt hn)
  have gl : ∀ n u, stGet (S ++ [some o]) n = some u → (n < S.length ∧ stGet S n = some u) ∨ (n = S.length ∧ u = o) := fun n u hu => by
    unfold stGet at hu ⊢
    by_cases hn : n < S.length
    · rw [List.getElem?_append_left hn] at hu; exact .inl ⟨hn, hu⟩
    · rw [List.getElem?_append_right (Nat.not_lt.mp hn)] at hu
      by_cases h0 : n - S.length = 0
      · rw [h0] at hu; simp at hu; exact .inr ⟨by omega, hu.symm⟩
      · rw [List.getElem?_eq_none (by simp; omega)] at hu; cases hu
  have np : ∀ n u, stGet S n = some u → ρ n ≠ p := fun n u hu => by
    obtain ⟨x, hx, _⟩ := s.obj n u hu
    exact ne_of_none hx hp
  have sH : Same H (upd H p h) := fun a u hu => by rw [upd_ne (ne_of_none hu hp)]; exact hu
  have le : S.length ≤ (S ++ [some o]).length := by simp
  refine ⟨⟨s.sub.trans sH, fun n u hu => ?_, fun n u hu => ?_, fun n m u w hu hw he => ?_⟩, ⟨Same.refl _, hr, le, fun a u hu _ => sH a u hu, fun a u hu => ⟨u, sH a u hu⟩, fun n u hu => ?_, fun a u hu => .inl (by rw [hu]; intro z; cases z)⟩⟩
  · rcases gl n u hu with ⟨hn, q⟩ | ⟨rfl, rfl⟩
    · rw [hr n hn]; exact s.off n u q
    · rw [if_pos rfl]; exact s.sub.free hp
  · rcases gl n u hu with ⟨hn, q⟩ | ⟨rfl, rfl⟩
    · obtain ⟨x, hx, rx⟩ := s.obj n u q
      refine ⟨x, ?_, rx.mono (Same.refl _) hr le⟩
      rw [hr n hn, upd_ne (np n u q)]; exact hx
    · refine ⟨h, ?_, r.mono (Same.refl _) hr le⟩
      rw [if_pos rfl, upd_same]
  · rcases gl n u hu with ⟨hn, q⟩ | ⟨rfl, rfl⟩ <;> rcases gl m w hw with ⟨hm, q'⟩ | ⟨rfl, rfl⟩
    · rw [hr n hn, hr m hm] at he; exact s.inj n m u w q q' he
    · rw [hr n hn, if_pos rfl] at he; exact absurd he (np n u q)
    · rw [hr m hm, if_pos rfl] at he; exact absurd he.symm (np m w q')
    · rfl
  · rcases gl n u hu with ⟨hn, q⟩ | ⟨rfl, rfl⟩
    · exact .inl ⟨hn, u, q⟩
    · exact .inr ⟨Nat.le_refl _, by rw [if_pos rfl]; exact hp⟩
theorem sm_lstN {es : List Expr} {ms : M (List Val)} (h : SimA fa X es ms) (hl : ∀ env S vs S', ms env S = .ok vs S' → vs.length ≤ sLine) : SimE fa X (.List es pos) (fun env S => (ms env S).bind fun vs S1 => .ok (.ref S1.length) (S1 ++ [some (.lst vs)])) := by
  refine ⟨fun W tk => PE.imp (pe_lst (h.run W tk)) fun σ H Q q => ?_⟩
  obtain ⟨env, S, F, ρ, s, e, p⟩ := q
  refine ⟨env, S, F, ρ, s, e, ?_⟩
  dsimp only at p
  have hl' := hl env S
  cases q0 : ms env S with
  | stuck => rw [q0] at p; exact p
  | exc e S' => rw [q0] at p; exact p
  | ok vs S1 =>
    rw [q0] at p
    intro xs F1 H1 ρ1 s1 x1 r1
    refine ⟨by rw [r1.length, ← sLine_eq]; exact hl' _ _ q0, fun a ha => ?_⟩
    obtain ⟨ρ2, e2, s2, x2⟩ := s1.alloc ha (.lst r1)
    exact (Post.shift x1 p) _ F1 _ ρ2 s2 x2 ⟨by simp, by rw [e2]⟩
/-! ### subscripts, slices -/
theorem sm_ix (ha : SimE fa X a ma) (hb : SimE fa X b mb) (hs : noSlice b = true) : SimE fa X (.Subscript a b pos) (fun env S => (ma env S).bind fun x S1 => (mb env S1).bind fun y S2 => .ofO (match y with | .d (.int i) => ixV S2 x (.int i) | _ => none) S2) := by
  refine ⟨fun W tk => PE.imp (pe_ix (ix_V fa) (ha.run W tk) (hb.run W tk) (noSlice_ok hs)) fun σ H Q q => rd_op2 (f := fun S x y => match y with | .d (.int i) => ixV S x (.int i) | _ => none) (fun F H ρ S x y v u w s r1 r2 e k => ?_) q⟩
  cases u with
  | d u =>
    cases u with
    | int i =>
      cases (show Rep X.K F y (.int i) from r2)
      exact ⟨F, ρ, S, v, i, w, s, r1, rfl, e, fun z r => k z F H s (Ext.refl ..) r⟩
    | _ => cases e
  | _ => cases e
end
structure SimO (fa : FA) (X : Cx) (pe : Option Expr) (m : M (Option Int)) : Prop where
  run : ∀ W, Takes X W → PO X pe (rdG X.K fa W (fun _ _ _ a b => a = b) m)
section
variable {fa : FA} {X : Cx} {pe a b c : Expr} {m ma mb mc : M Val} {pos : Pos}
theorem PO.imp {e : Option Expr} {t t' : TO} (h : PO X e t) (k : ∀ σ H Q, t' σ H Q → t σ H Q) : PO X e t' := ⟨fun pins s σ H Q I q => h.run pins s σ H Q I (k σ H Q q)⟩
theorem so_no : SimO fa X none (fun _ S => .ok none S) := by
  refine ⟨fun W tk => PO.imp po_none fun σ H Q q => ?_⟩
  obtain ⟨env, S, F, ρ, s, e, p⟩ := q
  exact p none F H ρ s (Ext.refl ..) rfl
theorem so_yes (h : SimE fa X a ma) : SimO fa X (some a) (fun env S => (ma env S).bind fun v S1 => .ofO (match v with | .d (.int i) => some (some i) | _ => none) S1) := by
  refine ⟨fun W tk => PO.imp (po_some (h.run W tk)) fun σ H Q q => ?_⟩
  refine q.bind (rep := RepV X.K fa) fun env v S1 x F1 H1 ρ1 s1 e1 r1 p1 => ?_
  obtain ⟨w, ew, q2⟩ := p1.ofO
  cases v with
  | d u =>
    cases u with
    | int i =>
      cases (show Rep X.K F1 x (.int i) from r1)
      cases ew
      exact ⟨i, rfl, q2 _ F1 H1 ρ1 s1 (Ext.refl ..) rfl⟩
    | _ => cases ew
  | _ => cases ew
theorem sm_sl {lo hi : Option Expr} {ml mh : M (Option Int)} {p2 : Pos} (ha : SimE fa X a ma) (hl : SimO fa X lo ml) (hh : SimO fa X hi mh) :
    SimE fa X (.Subscript a (.Slice lo hi none p2) pos) (fun env S => (ma env S).bind fun x S1 => (ml env S1).bind fun l S2 => (mh env S2).bind fun h S3 => .ofO ((slV S3 x l h).map Val.d) S3) := by
  refine ⟨fun W tk => PE.imp (pe_slice (sl_V fa) (ha.run W tk) (hl.run W tk) (hh.run W tk)) fun σ H Q q => ?_⟩
  refine q.bind (rep := RepV X.K fa) fun env v S1 x F1 H1 ρ1 s1 e1 r1 p1 => ?_
  refine rdG.mk s1 e1 (p1.bind fun l S2 l' F2 H2 ρ2 s2 x2 r2 p2 => ?_)
  refine rdG.mk s2 (e1.mono x2.fz x2.rho x2.len) (p2.bind fun h S3 h' F3 H3 ρ3 s3 x3 r3 p3 => ?_)
  cases r2; cases r3
  obtain ⟨w, ew, q2⟩ := p3.ofO
  cases q3 : slV S3 v l h with
  | none => rw [q3] at ew; cases ew
  | some c =>
    rw [q3] at ew
    cases ew
    have x23 := x2.trans x3
    exact ⟨F3, ρ3, S3, v, c, s3, r1.mono x23.fz x23.rho x23.len, q3, fun z F' H' g r => q2 z F' H' ρ3 (s3.of_grow g).1 (s3.of_grow g).2 r⟩
theorem sm_neg (ha : SimE fa X a ma) : SimE fa X (.UnaryOp .USub a pos) (fun env S => (ma env S).bind fun x S1 => .ofO (match x with | .d (.int i) => some (.d (.int (-i))) | _ => none) S1) := by
  refine ⟨fun W tk => PE.imp (pe_un un_neg (ha.run W tk)) fun σ H Q q => ?_⟩
  refine q.bind (rep := RepV X.K fa) fun env v S1 x F1 H1 ρ1 s1 e1 r1 p1 => ?_
  obtain ⟨w, ew, q2⟩ := p1.ofO
  cases v with
  | d u =>
    cases u with
    | int i =>
      cases (show Rep X.K F1 x (.int i) from r1)
      cases ew
      exact ⟨i, rfl, q2 _ F1 H1 ρ1 s1 (Ext.refl ..) (.int _)⟩
    | _ => cases ew
  | _ => cases ew
/-! ### calls of built-ins -/
theorem pe_bi1 (b : Bi) {p : Pos} {r : List V → Hp → VK → Prop} {ta : TA} (hr : CallR X (biVal b) r) (hg : Gl X (biName b)) (hm : X.mg (biName b) = none) (ha : PA X [a] ta) (hn : noStar a = true) : PE X (.Call (.Name (biName b) p) [a] [] pos) (tCB r ta) := by
  have h1 : starEach [a] X.env = (false, eval a X.env) :: starEach [] X.env := starEach_cons hn _ _
  cases b <;> first
    | exact pe_callB hr hg hm (bi_boot _) ha (by decide) (by decide) h1 rfl
    | exact pe_callTy hr hg hm (bi_boot _) ha (by decide) (by decide) h1 rfl
def mbi (b : Bi) (ma : M Val) : M Val := fun env S => (ma env S).bind fun x S1 => .ofO ((biV S1 b x).map Val.d) S1
theorem sm_bi (b : Bi) {p : Pos} (hc : X.calm = true) (hgu : b = .repr → X.A.guards = some [] ∧ X.A.units + 65 < cLine) (hg : Gl X (biName b)) (hm : X.mg (biName b) = none) (ha : SimE fa X a ma) (hn : noStar a = true) : SimE fa X (.Call (.Name (biName b) p) [a] [] pos) (mbi b ma) := by
  have hs : CallR X (biVal b) (fun vs H Q => rBi X.K b vs H Q ∨ (b = .len ∧ ∃ (a : Addr) (xs : List V), vs = [.ref a] ∧ SqL X.K H a xs ∧ Q (.int xs.length) H)) := by
    intro pins s σ H vs us Q I r h
    rcases h with h | ⟨rfl, h⟩
    · exact call_bi b hc hgu pins s σ H vs us Q I r h
    · exact call_lenS pins s σ H vs us Q I r h
  refine ⟨fun W tk => PE.imp (pe_bi1 b hs hg hm ((sa_cons ha sa_nil hn).run W tk) hn) fun σ H Q q => ?_⟩
  obtain ⟨env, S, F, ρ, s, e, p⟩ := q
  refine ⟨env, S, F, ρ, s, e, ?_⟩
  unfold mbi at p
  unfold mcons mnil
  cases q0 : ma env S with
  | stuck => rw [q0] at p; exact p
  | exc e S' => rw [q0] at p; exact p
  | ok v S1 =>
    rw [q0] at p
    simp only [R.bind_ok] at p ⊢
    intro xs F1 H1 ρ1 s1 x1 r1
    obtain ⟨w, ew, q2⟩ := (Post.shift x1 p).ofO
    cases r1 with
    | cons r1 rn =>
      cases rn
      rename_i x
      cases q3 : biV S1 b v with
      | none => rw [q3] at ew; cases ew
      | some c =>
        rw [q3] at ew
        cases ew
        have view_case : ((view S1 v).bind (biD b)) = some c → rBi X.K b [x] H1 Q := fun h => by
          cases q4 : view S1 v with
          | none => rw [q4] at h; cases h
          | some d =>
            rw [q4] at h
            exact ⟨F1, x, d, c, rfl, s1.sub, s1.view r1 q4, h, fun z F' H' g r => q2 z F' H' ρ1 (s1.of_grow g).1 (s1.of_grow g).2 r⟩
        by_cases hb : b = .len
        · subst hb
          simp only [biV] at q3
          cases v with
          | exn _ => exact (show False from r1).elim
          | scr ns =>
            obtain ⟨a, rfl, h⟩ := r1
            simp [lenV] at q3
            subst q3
            refine .inr ⟨rfl, a, _, rfl, s1.sub.seq h, ?_⟩
            rw [List.length_map]
            exact q2 _ F1 H1 ρ1 s1 (Ext.refl ..) (.int _)
          | d y =>
            refine .inl (view_case ?_)
            simp only [lenV, view_d, Option.bind_some] at q3 ⊢
            simpa [biD] using q3
          | fn i => simp [lenV, view] at q3
          | ref n =>
            obtain ⟨h1, rfl⟩ := r1
            simp only [lenV] at q3
            cases q5 : stGet S1 n with
            | none => rw [q5] at q3; cases q3
            | some o =>
              rw [q5] at q3
              cases o with
              | dct _ => cases q3
              | lst vs =>
                cases q3
                obtain ⟨ho, h2, r2⟩ := s1.obj n _ q5
                cases r2 with
                | lst r2 =>
                  refine .inr ⟨rfl, _, _, rfl, SqL.of h2, ?_⟩
                  rw [r2.length]
                  exact q2 _ F1 H1 ρ1 s1 (Ext.refl ..) (.int _)
        · refine .inl (view_case ?_)
          unfold biV at q3
          split at q3
          · exact absurd rfl hb
          · exact q3
end
end MS

-- MsRev
/-! A tuple the other way round: t[::-1]. -/
namespace MS
open PySem PySem.Spec PyProof.Rows L2
section
variable {prog : Program} {w : World} {A : Around} {E : Value → Shared → Prop} {s : Shared}
theorem adj_rev (n : Nat) : Builtin.Slice.sliceAdjust none none (-1) (n : Int) = ((n : Int) - 1, -1) := by
  simp [Builtin.Slice.sliceAdjust]
theorem plc_rev (n : Nat) : Builtin.Slice.slicePlaces ((n : Int) - 1) (-1) (-1) = n := by
  unfold Builtin.Slice.slicePlaces
  by_cases h : (n : Int) - 1 > -1
  · simp only [show ¬ ((-1 : Int) > 0) by decide, if_false, h, if_true]
    have : ((n : Int) - 1 - -1 - 1) / (- -1) + 1 = n := by
      rw [show (- -1 : Int) = 1 by decide, Int.ediv_one]; omega
    rw [this]; simp
  · have : n = 0 := by omega
    subst this
    simp
theorem pick_rev (xs : Array Value) : ((List.range xs.size).filterMap fun (m : Nat) => xs[(((xs.size : Int) - 1) + (m : Int) * (-1)).toNat]?).toArray = xs.toList.reverse.toArray := by
  congr 1
  obtain ⟨l⟩ := xs
  show (List.range l.length).filterMap (fun (m : Nat) => (l.toArray)[(((l.length : Int) - 1) + (m : Int) * (-1)).toNat]?) = l.reverse
  apply List.ext_getElem?
  intro i
  have e : (List.range l.length).filterMap (fun (m : Nat) => (l.toArray)[(((l.length : Int) - 1) + (m : Int) * (-1)).toNat]?) = (List.range l.length).filterMap fun m => l.reverse[m]? := by
    have fc : ∀ {α β : Type} {f g : α → Option β} (r : List α), (∀ x ∈ r, f x = g x) → r.filterMap f = r.filterMap g := by
      intro α β f g r h
      induction r with
      | nil => rfl
      | cons a r ih => rw [List.filterMap_cons, List.filterMap_cons, h a (by simp), ih fun x hx => h x (by simp [hx])]
    refine fc _ fun m hm => ?_
    have hm := List.mem_range.mp hm
    rw [List.getElem?_reverse hm, List.getElem?_toArray]
    congr 1
    omega
  rw [e]
  have e2 : (List.range l.length).filterMap (fun m => l.reverse[m]?) = l.reverse := by
    have : ∀ (r : List Value), (List.range r.length).filterMap (fun m => r[m]?) = r := by
      intro r
      induction r with
      | nil => rfl
      | cons a r ih =>
        rw [List.length_cons, List.range_succ_eq_map, List.filterMap_cons]
        simp only [List.getElem?_cons_zero, List.filterMap_map]
        congr 1
    have h := this l.reverse
    rw [List.length_reverse] at h
    exact h
  rw [e2]
theorem getItem_tup_rev {t sl : Addr} {items : Array Value} {vl vu vs : Value} {Q : Value → Shared → Prop} (ht : IsTup s.heap t items) (hs : s.heap.IsSliceOf sl vl vu vs) (pl : IsPart vl none) (pu : IsPart vu none) (ps : IsPart vs (some (-1)))
    (h : Q (.ref s.heap.objs.size) { s with heap := s.heap.push { cls := .type "tuple", data := .seq items.toList.reverse.toArray } })
    (hz : items.size ≤ sizeLine) : wpAny (model prog w) A (getItem (.ref t) (.ref sl)) Q E s := by
  have fit : sizeOk (.seq items.toList.reverse.toArray) := by
    show items.toList.reverse.toArray.size ≤ sizeLine
    rw [List.size_toArray, List.length_reverse, Array.length_toList]; exact hz
  obtain ⟨os, hos, hcs, hds⟩ := id hs
  have tS : s.TypeIs (.ref sl) "slice" := ⟨os, hos, hcs⟩
  unfold getItem
  try with_reducible refine wpAny_holding ?_
  first | refine wpAny_bind (wpAny_pure ?_) | skip
  refine wpAny_bind (wpAny_sequenceKey ht.typeIs (by decide) ?_)
  refine wpAny_bind (wpAny_callSpecial?_slot (name := Str.ofString "__getitem__") ht.typeIs PyProof.Rows.slot_tuple_getitem (wpAny_call_entry PyProof.Rows.slot_tuple_getitem ht.typeIs PyProof.Rows.entry_tuple_getitem ?_ (PyProof.Rows.args_tuple_getitem _ _)))
  show wpAny _ _ (Builtin.Tuple.tupleItemsOf (.ref t) >>= _) _ _ s
  refine wpAny_bind (tupleItemsOf_ ht (wpAny_bind (wpAny_typeOf tS ?_)))
  rw [if_pos (by decide)]
  have ap : ∀ {A : Around} {R : Int × Int × Nat → Shared → Prop}, R ((items.size : Int) - 1, -1, items.size) s → wpAny (model prog w) A (Builtin.Slice.sliceApplied (.ref sl) (pure (items.size : Int))) R E s := fun {A} {R} hR => by
    unfold Builtin.Slice.sliceApplied Builtin.Slice.sliceFields
    refine wpAny_bind (wpAny_bind (wpAny_field hos hds (x := vl) rfl (wpAny_bind (wpAny_field hos hds (x := vu) rfl (wpAny_bind (wpAny_field hos hds (x := vs) rfl (wpAny_pure ?_)))))))
    refine wpAny_bind (HT.slicePart_ ps ?_)
    show wpAny _ _ (if ((-1 : Int) == 0) = true then _ else _) _ _ s
    rw [if_neg (by decide)]
    refine wpAny_bind (HT.slicePart_ pl (wpAny_bind (HT.slicePart_ pu (wpAny_bind (wpAny_pure ?_)))))
    show wpAny _ _ (match Builtin.Slice.sliceAdjust none none (-1) (items.size : Int) with | (lo, hi) => pure (lo, (-1 : Int), Builtin.Slice.slicePlaces lo hi (-1))) _ _ s
    rw [adj_rev]
    show wpAny _ _ (pure ((items.size : Int) - 1, (-1 : Int), Builtin.Slice.slicePlaces ((items.size : Int) - 1) (-1) (-1))) _ _ s
    rw [plc_rev]
    exact wpAny_pure hR
  refine wpAny_bind (ap ?_)
  show wpAny _ _ (if ((((items.size : Int) - 1) == 0 && (-1 : Int) == 1 && items.size == items.size) = true) then _ else _) _ _ s
  rw [if_neg (by simp), pick_rev]
  first
    | exact wpAny_bind (m := Builtin.Tuple.tupleExact _) (wpAny_newObj_type (wpAny_pure ⟨_, rfl, wpAny_pure h⟩) fit)
    | exact wpAny_bind (m := Builtin.Tuple.tupleExact _) (wpAny_newObj_type (wpAny_bind (wpAny_pure (wpAny_pure ⟨_, rfl, wpAny_pure h⟩))) fit)
    | exact wpAny_bind (wpAny_bind (m := Builtin.Tuple.tupleExact _) (wpAny_newObj_type (wpAny_pure (wpAny_pure ⟨_, rfl, wpAny_pure h⟩)) fit))
    | exact wpAny_bind (wpAny_bind (m := Builtin.Tuple.tupleExact _) (wpAny_newObj_type (wpAny_pure ⟨_, rfl, wpAny_pure h⟩) fit))
end
section
variable {X : Cx} {fa : FA} {a : Expr} {ma : M Val} {pos : Pos}
def tRevT (K : PySem.W.Frag) (te : TE) : TE := fun σ H Q => te σ H fun x H1 => ∃ b xs, x = .ref b ∧ SqT K H1 b xs ∧ ∀ p, H1 p = none → Q (.ref p) (upd H1 p (.tup xs.reverse))
theorem pe_revT {te : TE} {k : Nat} {p1 p2 p3 : Pos} (he : PE X a te) : PE X (.Subscript a (.Slice none none (some (.UnaryOp .USub (.Constant (.int 1) k p1) p2)) p3) pos) (tRevT X.K te) := by
  refine ⟨fun pins s σ H Q I h => ?_⟩
  refine Subscript_ (thn (he.run pins s σ H _ I h) fun v s1 ⟨x, H1, I1, r1, b, xs, ex, hx, q⟩ => ?_)
  subst ex
  cases r1
  have st : PO X (some (.UnaryOp .USub (.Constant (.int 1) k p1) p2)) (tPart (tUn (rU fun i => .int (-i)) (tC (.int 1)))) := po_some (pe_un un_neg pe_int)
  refine wpAny_Slice (thn (po_none.run pins s1 σ H1 (fun o G => o = none ∧ G = H1) I1 ⟨rfl, rfl⟩) fun vl s2 ⟨l, H2, I2, pl, el, e2⟩ => ?_)
  subst el e2
  refine thn (po_none.run pins s2 σ H2 (fun o G => o = none ∧ G = H2) I2 ⟨rfl, rfl⟩) fun vu s3 ⟨u, H3, I3, pu, eu, e3⟩ => ?_
  subst eu e3
  refine thn (st.run pins s3 σ H3 (fun o G => o = some (-1) ∧ G = H3) I3 ⟨1, rfl, -1, rfl, rfl, rfl⟩) fun vs s4 ⟨o, H4, I4, ps, eo, e4⟩ => ?_
  subst eo e4
  have I5 : Inv X pins σ H4 { s4 with heap := s4.heap.push { cls := .type "slice", data := .fields #[vl, vu, vs] } } := I4.kept (t' := s4.toks) fun b ob q => Heap.get?_push_of_some _ q
  obtain ⟨its, r, ht, hz⟩ := I5.tuple hx
  have hl := r.length
  show wpAny (model X.prog X.w) X.A (subscriptTail a (.Slice none none (some (.UnaryOp .USub (.Constant (.int 1) k p1) p2)) p3) (.ref b) (.ref s4.heap.objs.size)) (EP X pins σ Q) X.xe { s4 with heap := s4.heap.push { cls := .type "slice", data := .fields #[vl, vu, vs] } }
  refine tail_any (ops := [.ref b, .ref s4.heap.objs.size]) ht.typeIs PyProof.Rows.slot_tuple_getitem.lookup ?_ (by with_unfolding_all rfl)
  refine getItem_tup_rev ht (Heap.IsSliceOf.new _ vl vu vs) pl pu ps ?_ (by rw [List.size_toArray]; omega)
  refine ⟨.ref _, _, I5.laid (t' := s4.toks) (o := .tup xs.reverse) (fun b ob q => Heap.get?_push_of_some _ q) (Nat.le_refl _) ?_, rfl, q _ (I5.hok.fresh (Nat.le_refl _))⟩
  exact ⟨by rw [List.length_reverse]; exact hz, its.reverse, r.reverse, ⟨_, Heap.get?_push_size _ rfl, rfl, _, rfl⟩⟩
theorem Reps.reverse {K : PySem.W.Frag} {F : Hp} : ∀ {xs : List V} {ds : List D}, Reps K F xs ds → Reps K F xs.reverse ds.reverse
  | _, _, .nil => .nil
  | _, _, .cons h r => by
    rw [List.reverse_cons, List.reverse_cons]
    exact (Reps.reverse r).append (.cons h .nil)
theorem sm_rev {k : Nat} {p1 p2 p3 : Pos} (ha : SimE fa X a ma) : SimE fa X (.Subscript a (.Slice none none (some (.UnaryOp .USub (.Constant (.int 1) k p1) p2)) p3) pos) (fun env S => (ma env S).bind fun v S1 => .ofO (revV v) S1) := by
  refine ⟨fun W tk => PE.imp (pe_revT (ha.run W tk)) fun σ H Q q => ?_⟩
  refine q.bind (rep := RepV X.K fa) fun env v S1 x F1 H1 ρ1 s1 e1 r1 p => ?_
  cases v with
  | d d =>
    cases d with
    | tuple ds =>
      cases (show Rep X.K F1 x (.tuple ds) from r1) with
      | tup h rr =>
        refine ⟨_, _, rfl, SqT.of (s1.sub _ _ h), fun p' hp => ?_⟩
        obtain ⟨s2, x2, sF⟩ := s1.grow (o := .tup _) hp
        exact p _ _ _ ρ1 s2 x2 (Rep.tup upd_same (rr.reverse.mono sF))
    | _ => exact p.elim
  | _ => exact p.elim
/-- list(xs), a list of the store -/
theorem sm_listN {ma : M Val} {a : Expr} {p : Pos} (hg : Gl X "list") (hm : X.mg "list" = none) (ha : SimE fa X a ma) (hn : noStar a = true) :
    SimE fa X (.Call (.Name "list" p) [a] [] pos) (fun env S => (mbi .list ma env S).bind fun v S1 => newV v S1) := by
  refine ⟨fun W tk => PE.imp (pe_bi1 .list call_list_of hg hm ((sa_cons ha sa_nil hn).run W tk) hn) fun σ H Q q => ?_⟩
  obtain ⟨env, S, F, ρ, s, e, p⟩ := q
  refine ⟨env, S, F, ρ, s, e, ?_⟩
  unfold mbi at p
  dsimp only at p
  unfold mcons mnil
  cases q0 : ma env S with
  | stuck => rw [q0] at p; exact p
  | exc e S' => rw [q0] at p; exact p
  | ok v S1 =>
    rw [q0] at p
    simp only [R.bind_ok] at p ⊢
    intro xs F1 H1 ρ1 s1 x1 r1
    cases r1 with
    | cons r1 rn =>
      cases rn
      have p := Post.shift x1 p
      cases q3 : biV S1 .list v with
      | none => rw [q3] at p; exact p.elim
      | some c =>
        rw [q3] at p
        simp only [Option.map_some, R.ofO_some, R.bind_ok] at p
        have q3' : (view S1 v).bind (biD .list) = some c := by simpa [biV] using q3
        cases q4 : view S1 v with
        | none => rw [q4] at q3'; cases q3'
        | some d =>
          rw [q4, Option.bind_some] at q3'
          cases d with
          | list ds =>
            cases q3'
            obtain ⟨l, xs', rfl, h1, rr⟩ := (s1.view r1 q4).list s1.sub
            refine ⟨l, xs', rfl, .inl (SqL.of h1), fun p' hp => ?_⟩
            obtain ⟨ρ2, e2, s2, x2⟩ := s1.alloc hp (.lst (RepVs.of_pure rr))
            exact p _ F1 _ ρ2 s2 x2 ⟨by simp, by rw [e2]⟩
          | tuple ds =>
            cases q3'
            obtain ⟨l, xs', rfl, h1, h1F, rr⟩ := (s1.view r1 q4).tuple s1.sub
            refine ⟨l, xs', rfl, .inr h1, fun p' hp => ?_⟩
            obtain ⟨ρ2, e2, s2, x2⟩ := s1.alloc hp (.lst (RepVs.of_pure rr))
            exact p _ F1 _ ρ2 s2 x2 ⟨by simp, by rw [e2]⟩
          | _ => simp [biD] at q3'
theorem R.assoc {α β γ : Type} (r : R α) (f : α → Sto → R β) (g : β → Sto → R γ) : (r.bind f).bind g = r.bind fun a S => (f a S).bind g := by cases r <;> rfl
/-- xs * n, a list of the store -/
theorem sm_mulN {ma mb : M Val} {a b : Expr} (ha : SimE fa X a ma) (hb : SimE fa X b mb) :
    SimE fa X (.BinOp a .Mult b pos) (fun env S => ((ma env S).bind fun x S1 => (mb env S1).bind fun y S2 => .ofO (binV .mul S2 x y) S2).bind fun v S1 => newV v S1) := by
  refine ⟨fun W tk => PE.imp (pe_op op_rep (ha.run W tk) (hb.run W tk)) fun σ H Q q => ?_⟩
  simp only [R.assoc] at q
  refine q.bind (rep := RepV X.K fa) fun env v S1 x F1 H1 ρ1 s1 e1 r1 p1 => ?_
  refine rdG.mk s1 e1 (p1.bind fun u S2 y F2 H2 ρ2 s2 x2 r2 p2 => ?_)
  have r1 := r1.mono x2.fz x2.rho x2.len
  cases q3 : binV .mul S2 v u with
  | none => rw [q3] at p2; exact p2.elim
  | some c =>
    rw [q3] at p2
    simp only [R.ofO_some, R.bind_ok] at p2
    unfold binV at q3
    cases q4 : view S2 v with
    | none => rw [q4] at q3; cases q3
    | some d1 =>
      cases q5 : view S2 u with
      | none => rw [q4, q5] at q3; cases q3
      | some d2 =>
        rw [q4, q5] at q3
        simp only [Option.bind_some, Option.map_eq_some_iff] at q3
        obtain ⟨z, q3, rfl⟩ := q3
        cases d1 with
        | list ds =>
          cases d2 with
          | int k =>
            simp only [binD] at q3
            split at q3
            · rename_i hz
              cases q3
              obtain ⟨l, xs', rfl, h1, rr⟩ := (s2.view r1 q4).list s2.sub
              have hy := s2.view r2 q5
              cases hy.int
              rw [← rr.length] at hz
              refine ⟨_, _, _, rfl, rfl, h1, by omega, by omega, ?_, fun p' hp => ?_⟩
              · rw [sizeLine_eq]
                exact Nat.le_trans (Nat.mul_le_mul hz.2.2 (Int.toNat_le.mpr hz.2.1)) (by decide)
              · obtain ⟨ρ3, e3, s3, x3⟩ := s2.alloc hp (.lst (RepVs.of_pure (rr.rep_flat _)))
                exact p2 _ F2 _ ρ3 s3 x3 ⟨by simp, by rw [e3]⟩
            · cases q3
          | _ => simp [binD] at q3
        | int i =>
          cases d2 <;> simp only [binD] at q3 <;> first | (split at q3 <;> cases q3 <;> exact p2.elim) | cases q3
        | tuple ts =>
          cases d2 <;> simp only [binD] at q3 <;> first | (split at q3 <;> cases q3 <;> exact p2.elim) | cases q3
        | str ts =>
          cases d2 <;> simp only [binD] at q3 <;> first | (split at q3 <;> cases q3 <;> exact p2.elim) | cases q3
        | _ => cases d2 <;> simp [binD] at q3
end
end MS

-- MsIter
/-! What a for walks. -/
namespace MS
open PySem PySem.Spec PyProof.Rows L2

/-! ### enumerate of a tuple -/
theorem meets_enumerate_new1 {v : Value} {o : Obj} {H : Heap → Prop} (B : Begins v o H) :
    Meets (Builtin.«enumerate.__new__» ⟨[.type "enumerate", v], []⟩) (fun _ R s => H s.heap ∧
      R (.ok (.ret (.ref (s.heap.push o).objs.size))) { s with heap := (s.heap.push o).push { cls := .type "enumerate", data := .fields #[.none, .bool false, .ref s.heap.objs.size, rawInt 0, .none, .none] } }) :=
  .of_wp fun prog w A R s h => by
    obtain ⟨hp, g, d, tk, os⟩ := s; obtain ⟨h1, h⟩ := h
    have hsub := sub_enumerate
    have q1 : ∀ {A' : Around} {E : Value → Shared → Prop} {Q : Value → Shared → Prop}, Q (.ref hp.objs.size) ⟨hp.push o, g, d, tk, os⟩ → wpAny (model prog w) A' (pyIter v) Q E ⟨hp, g, d, tk, os⟩ :=
      fun q => B.iter prog w _ _ ⟨hp, g, d, tk, os⟩ _ h1 q
    wp_walk using q1
    refine wpAny_stack_any fun st => wpAny_pure ?_
    split
    · rename_i c _ _ _ _ _
      cases (c == Value.type "enumerate")
      · wp_walk using q1
        exact ⟨_, rfl, h⟩
      · wp_walk using q1
        exact ⟨_, rfl, h⟩
    · wp_walk using q1
      exact ⟨_, rfl, h⟩
theorem call_enumerate_B {prog : Program} {w : World} {A : Around} {E : Value → Shared → Prop} {s : Shared} {v : Value} {o : Obj} {H : Heap → Prop} {Q : Value → Shared → Prop} (B : Begins v o H) (h1 : H s.heap)
    (h : ∀ h', IsEnum h' (s.heap.objs.size + 1) s.heap.objs.size 0 .none → h'.get? s.heap.objs.size = some o → h'.objs.size = s.heap.objs.size + 2 →
      (∀ b o, s.heap.get? b = some o → h'.get? b = some o) → Q (.ref (s.heap.objs.size + 1)) { s with heap := h' }) :
    wpAny (model prog w) A (call (.type "enumerate") [v]) Q E s := by
  refine callType_new F.called_enumerate (by decide) (F.typeCall_enumerate_1 _) (F.newCall_enumerate_1 _) (fun obj => F.args_object_init_2 obj _) F.entry_enumerate_new
    (meets_enumerate_new1 B) ⟨h1, ?_⟩
  have hz : (s.heap.push o).objs.size = s.heap.objs.size + 1 := Heap.size_push ..
  show _ ∧ _
  rw [hz]
  have he : IsEnum ((s.heap.push o).push { cls := .type "enumerate", data := .fields #[.none, .bool false, .ref s.heap.objs.size, rawInt 0, .none, .none] }) (s.heap.objs.size + 1) s.heap.objs.size 0 .none := by
    have := Heap.get?_push_size (s.heap.push o) (o := { cls := .type "enumerate", data := .fields #[.none, .bool false, .ref s.heap.objs.size, rawInt 0, .none, .none] }) rfl
    rw [hz] at this; exact this
  refine ⟨⟨_, he, rfl⟩, h _ he (Heap.get?_push_of_some _ (Heap.get?_push_size _ B.free)) (by rw [Heap.size_push, hz]) fun b o x => Heap.get?_push_of_some _ (Heap.get?_push_of_some _ x)⟩

/-- the tuple at a, the items in new pairs -/
def IteT (K : PySem.W.Frag) (a : Addr) : L2.It :=
  ⟨fun i H => ∃ (xs : List V) (x : V), SqT K H a xs ∧ xs[i]? = some x, fun i H v H' => ∃ T x, v = .ref T ∧ H T = none ∧ H' = upd H T (.tup [.int (i : Nat), x]) ∧ ∀ xs, SqT K H a xs → xs[i]? = some x, fun i H => ∃ xs : List V, SqT K H a xs ∧ xs.length ≤ i⟩
theorem turn_enumT {P : Program} {w : World} {K : PySem.W.Frag} {elts : List Expr} {kk : Nat} {tpos : Pos} (a e it : Addr) :
    Turn P w K (.Tuple elts kk tpos) (IteT K a) [e, it] e (fun i h => (∃ old, IsEnum h e it ((i : Nat) : Int) old) ∧ h.IsTupleIter it a i ∧ e ≠ it) where
  mem := by simp
  obj := fun i h st b hb => by
    obtain ⟨⟨old, he⟩, ⟨o, ho, hc, hd⟩, _⟩ := st
    have e' : b = e ∨ b = it := by simpa using hb
    rcases e' with z | z
    · rw [z]; exact ⟨_, he, fun v q => nomatch q⟩
    · rw [z]; exact ⟨o, ho, fun v q => by rw [hd] at q; cases q⟩
  keep := fun i h h' st k => let ⟨⟨old, he⟩, hi, hne⟩ := st; ⟨⟨old, k e (by simp) _ he⟩, hi.at fun o q => k it (by simp) o q, hne⟩
  item := by
    intro X hP hw hK hc i pins s σ H E I hf st hg
    subst hP hw hK
    obtain ⟨⟨old, he⟩, hit, hne⟩ := st
    obtain ⟨xs, x, hq, hx⟩ := hg
    obtain ⟨its, rv, p, hz⟩ := I.tuple hq
    obtain ⟨u, hu, ru⟩ := rv.get hx
    have hel : e < s.heap.objs.size := Heap.lt_size he
    have hil : it < s.heap.objs.size := by obtain ⟨_, q, _⟩ := hit; exact Heap.lt_size q
    have hpT : s.heap.IsTuple a its.toArray := p
    have nai : a ≠ it := by
      rintro rfl
      obtain ⟨o1, q1, c1, _⟩ := hit
      obtain ⟨o2, q2, c2, _⟩ := p
      rw [q1] at q2; cases q2
      rw [c1] at c2; exact absurd c2 (by decide)
    have nae : a ≠ e := by
      rintro rfl
      obtain ⟨o2, q2, c2, _⟩ := p
      have he' := he
      unfold IsEnum at he'
      rw [he'] at q2; cases q2
      exact absurd (show Value.type "enumerate" = Value.type "tuple" from c2) (by decide)
    have D := Draws.tuple (prog := X.prog) (w := X.w) (A := X.A.in1) (show X.A.in1.handled = none from I.ok.hd hc) it a nai its.toArray
    have hlt : i < its.toArray.size := by
      have := (List.getElem?_eq_some_iff.mp hu).1
      simpa using this
    refine wpAny_pyNext_enum_itemD D he ⟨hit, hpT⟩ hlt hne (by simp; exact ⟨hne, Ne.symm nae⟩) fun y h' tk hy ho hst hT hsz hk => ?_
    have hyu : y = u := by
      have : its.toArray[i]? = some u := by simpa using hu
      rw [this] at hy; cases hy; rfl
    subst hyu
    refine ⟨_, rfl, wpAny_letOwnedTupleGo_enum (s := { s with heap := h', toks := tk + 1 }) ho fun h'' he' sb => ?_⟩
    have hT2 : h''.get? s.heap.objs.size = some { cls := .type "tuple", data := .seq #[.int i tk, y] } := (sb.2 _ (Nat.ne_of_gt hel)).trans hT
    have new : ObjOk X.prog X.w (upd H s.heap.objs.size (.tup [.int (i : Nat), x])) h'' s.heap.objs.size (.tup [.int (i : Nat), x]) :=
      ⟨by show 2 ≤ sizeLine; decide, [.int i tk, y], .cons ⟨_, rfl⟩ (.cons ru .nil), ⟨_, hT2, rfl, _, rfl⟩⟩
    have I1 : Inv X pins σ (upd H s.heap.objs.size (.tup [.int (i : Nat), x])) { s with heap := h'', toks := tk + 1 } :=
      I.turnedNew (ch := [e, it]) (fun b ob hb q => (sb.2 b (fun z => hb (by simp [z]))).trans (hk b ob (fun z => hb (by simp [z])) (fun z => hb (by simp [z])) q)) hf (Nat.le_refl _) new
    refine ⟨.ref s.heap.objs.size, _, I1, rfl, ⟨_, x, rfl, I.hok.fresh (Nat.le_refl _), rfl, fun ys hy => by rw [I.tuple_inj hy hq]; exact hx⟩, ⟨⟨y, ?_⟩, hst.1.at fun o q => (sb.2 it (Ne.symm hne)).trans q, hne⟩, fun b hb => ?_⟩
    · have e1 : ((i + 1 : Nat) : Int) = (i : Int) + 1 := by omega
      rw [e1]; exact he'
    · have hb' : b < s.heap.objs.size := by
        have e' : b = e ∨ b = it := by simpa using hb
        rcases e' with z | z
        · rw [z]; exact hel
        · rw [z]; exact hil
      rw [upd_ne (Nat.ne_of_lt hb')]
      exact (hf b hb).1
  done := by
    intro X hP hw hK hc i pins s σ H E I hf st hg
    subst hP hw hK
    obtain ⟨⟨old, he⟩, hit, hne⟩ := st
    obtain ⟨xs, hq, hx⟩ := hg
    obtain ⟨its, rv, p, hz⟩ := I.tuple hq
    obtain ⟨f0, f1, f2, f3, f4, f5⟩ := hf it (by simp)
    have hl := rv.length
    have hpT : s.heap.IsTuple a its.toArray := p
    unfold pyNext
    have hT : s.TypeIs (.ref e) "enumerate" := ⟨_, he, rfl⟩
    refine wpAny_bind (wpAny_attempt (wpAny_callSpecial?_slot (name := Str.ofString "__next__") hT F.slot_enumerate_next
      (wpAny_call_entry F.slot_enumerate_next hT F.entry_enumerate_next ?_ (F.args_enumerate_next_1 _))))
    show wpAny _ _ (field (.ref e) 2 >>= _) _ _ _
    refine wpAny_bind (wpAny_field he rfl (x := .ref it) rfl ?_)
    refine wpAny_bind (wpAny_nextOf_tuple_end (show X.A.in1.handled = none from I.ok.hd hc) hit hpT (by simp; omega) fun h' x he' hx' => ?_)
    obtain ⟨o, ho, hc⟩ := hx'
    refine wpAny_bind (wpAny_isInstance (T := "StopIteration") (b := true) ⟨o, ho, hc⟩ isSubtype_stop ?_)
    exact wpAny_pure ⟨rfl, I.turned (t' := s.toks) (fun b o hb q => he' b o hb q) f0 f1 f3 f4 f5⟩
  self := fun A i s Q E st h => let ⟨⟨_, he⟩, _⟩ := st; wpAny_pyIter_enum he h

section
variable {X : Cx}
/-- what a value may hold is no longer than the line -/
def Sized (K : PySem.W.Frag) (H : Hp) (x : V) : Prop := ∀ a xs, x = .ref a → (SqL K H a xs ∨ SqT K H a xs) → xs.length ≤ sizeLine
theorem Inv.sized {pins : List (Addr × Obj)} {σ : L2.St} {H : Hp} {s : Shared} (I : Inv X pins σ H s) (x : V) : Sized X.K H x := fun a xs _ h => by
  rcases h with h | h
  · obtain ⟨_, _, _, z⟩ := I.list h; exact z
  · obtain ⟨_, _, _, z⟩ := I.tuple h; exact z
theorem PE.size {e : Expr} {t : TE} (h : PE X e t) : PE X e (fun σ H Q => t σ H fun x H1 => Sized X.K H1 x → Q x H1) :=
  ⟨fun pins s σ H Q I q => thn (h.run pins s σ H _ I q) fun u s1 ⟨x, H1, I1, r, q1⟩ => ⟨x, H1, I1, r, q1 (Inv.sized I1 x)⟩⟩
theorem PA.size {e : List Expr} {t : TA} (h : PA X e t) : PA X e (fun σ H Q => t σ H fun xs H1 => (∀ x, Sized X.K H1 x) → Q xs H1) :=
  ⟨fun pos pins s σ H Q I q => thn (h.run pos pins s σ H _ I q) fun u s1 ⟨xs, H1, I1, r, q1⟩ => ⟨xs, H1, I1, r, q1 fun x => Inv.sized I1 x⟩⟩
end
section
variable {X : Cx} {tg : Expr}
def iSeq (K : PySem.W.Frag) (tl : TE) : TI := fun σ H R => tl σ H fun x H1 => ∃ a, x = .ref a ∧ (((∃ xs, SqL K H1 a xs) ∧ R (Itl K a) H1) ∨ ((∃ xs, SqT K H1 a xs) ∧ R (Itt K a) H1))
theorem pi_seq {l : Expr} {tl : TE} (hl : PE X l tl) : PI X tg l (iSeq X.K tl) := by
  refine ⟨fun pins s σ H R I h => ?_⟩
  refine thn (hl.run pins s σ H _ I h) fun v s1 ⟨x, H1, I1, r1, q1⟩ => ?_
  obtain ⟨a, e, q⟩ := q1
  subst e
  cases r1
  rcases q with ⟨⟨xs, hq⟩, q⟩ | ⟨⟨xs, hq⟩, q⟩
  · obtain ⟨its, rv, p, hz⟩ := I1.list hq
    refine wpAny_pyIter_list p.isList ?_
    refine ⟨s1.heap.objs.size, [s1.heap.objs.size], _, _, H1, rfl, I1.kept (t' := s1.toks) fun b o e => Heap.get?_push_of_some _ e, turn_list a _, ⟨_, Heap.get?_push_size _ rfl, rfl, rfl⟩, fun b hb => ?_, q⟩
    have e : b = s1.heap.objs.size := by simpa using hb
    subst e
    exact I1.fpOk (Nat.le_refl _) (I1.hok.fresh (Nat.le_refl _))
  · obtain ⟨its, rv, p, hz⟩ := I1.tuple hq
    refine wpAny_pyIter_tuple (show s1.heap.IsTuple a its.toArray from p) ?_
    refine ⟨s1.heap.objs.size, [s1.heap.objs.size], _, _, H1, rfl, I1.kept (t' := s1.toks) fun b o e => Heap.get?_push_of_some _ e, turn_tuple a _, ⟨_, Heap.get?_push_size _ rfl, rfl, rfl⟩, fun b hb => ?_, q⟩
    have e : b = s1.heap.objs.size := by simpa using hb
    subst e
    exact I1.fpOk (Nat.le_refl _) (I1.hok.fresh (Nat.le_refl _))
def iEnumA (K : PySem.W.Frag) (ta : TA) : TI := fun σ H R => ta σ H fun vs H1 => ∃ a, vs = [.ref a] ∧ (((∃ xs, SqL K H1 a xs) ∧ R (Ite K a) H1) ∨ ((∃ xs, SqT K H1 a xs) ∧ R (IteT K a) H1))
theorem pi_enumA {e : Expr} {ta : TA} {p pos tpos : Pos} {elts : List Expr} {kk : Nat} (hg : Gl X "enumerate") (hm : X.mg "enumerate" = none) (ha : PA X [e] ta) (hs : starEach [e] X.env = [(false, eval e X.env)]) :
    PI X (.Tuple elts kk tpos) (.Call (.Name "enumerate" p) [e] [] pos) (iEnumA X.K ta) := by
  refine ⟨fun pins s σ H R I h => ?_⟩
  refine Call_ (ld_blt I hg hm boot_enumerate (PyProof.Rows.callWith_type1 (thn (ha.run pos pins s σ H _ I h) fun us s1 ⟨vs, H1, I1, r1, q1⟩ => ?_) hs rfl))
  obtain ⟨a, ex, q⟩ := q1
  subst ex
  cases r1 with
  | cons r rr =>
    cases rr
    cases r
    have fin : ∀ {J : L2.It} {h' : Heap} {tn : Nat → Heap → Prop}, (∀ b o, s1.heap.get? b = some o → h'.get? b = some o) → R J H1 → Turn X.prog X.w X.K (.Tuple elts kk tpos) J [s1.heap.objs.size + 1, s1.heap.objs.size] (s1.heap.objs.size + 1) tn → tn 0 h' →
        PIE X pins σ (.Tuple elts kk tpos) R (.ref (s1.heap.objs.size + 1)) { s1 with heap := h' } := fun {J h' tn} hk q T st => by
      refine ⟨s1.heap.objs.size + 1, [s1.heap.objs.size + 1, s1.heap.objs.size], tn, J, H1, rfl, I1.kept (t' := s1.toks) hk, T, st, fun b hb => ?_, q⟩
      have e' : b = s1.heap.objs.size + 1 ∨ b = s1.heap.objs.size := by simpa using hb
      have hle : s1.heap.objs.size ≤ b := by
        rcases e' with z | z
        · rw [z]; exact Nat.le_add_right _ _
        · rw [z]; exact Nat.le_refl _
      exact I1.fpOk hle (I1.hok.fresh hle)
    rcases q with ⟨⟨xs, hq⟩, q⟩ | ⟨⟨xs, hq⟩, q⟩
    · obtain ⟨its, rv, p', hz⟩ := I1.list hq
      refine call_enumerate_list p'.isList fun h' he hit hsz hk => wpAny_pyIter_enum he ?_
      exact fin hk q (turn_enum a (s1.heap.objs.size + 1) s1.heap.objs.size) ⟨⟨.none, he⟩, hit, Nat.succ_ne_self _⟩
    · obtain ⟨its, rv, p', hz⟩ := I1.tuple hq
      refine call_enumerate_B (begins_tuple a its.toArray) (show s1.heap.IsTuple a its.toArray from p') fun h' he hit hsz hk => wpAny_pyIter_enum he ?_
      exact fin hk q (turn_enumT a (s1.heap.objs.size + 1) s1.heap.objs.size) ⟨⟨.none, he⟩, ⟨_, hit, rfl, rfl⟩, Nat.succ_ne_self _⟩
end

/-! ### locks -/
theorem lockS_length : ∀ (l : List Nat) (S : Sto), (lockS S l).length = S.length
  | [], _ => rfl
  | n :: l, S => by
    show (lockS (S.set n none) l).length = _
    rw [lockS_length l, List.length_set]
theorem stGet_set (S : Sto) (n m : Nat) (o : Option Ob) : stGet (S.set n o) m = if n = m ∧ n < S.length then o else stGet S m := by
  unfold stGet
  rw [List.getElem?_set]
  by_cases h : n = m
  · subst h
    by_cases h2 : n < S.length
    · simp [h2]
    · simp [h2]
  · simp [h]
theorem stGet_lock : ∀ (l : List Nat) (S : Sto) (n : Nat) (u : Ob), stGet (lockS S l) n = some u → stGet S n = some u ∧ n ∉ l
  | [], _, _, _, h => ⟨h, by simp⟩
  | m :: l, S, n, u, h => by
    obtain ⟨h1, h2⟩ := stGet_lock l (S.set m none) n u h
    rw [stGet_set] at h1
    split at h1
    · cases h1
    · rename_i hn
      refine ⟨h1, ?_⟩
      simp only [List.mem_cons, not_or]
      refine ⟨fun e => ?_, h2⟩
      subst e
      exact hn ⟨rfl, stGet_lt h1⟩
theorem unlockS_length : ∀ (l : List Nat) (S0 S : Sto), (unlockS S0 S l).length = S.length
  | [], _, _ => rfl
  | n :: l, S0, S => by
    show (unlockS S0 (S.set n (S0[n]?).join) l).length = _
    rw [unlockS_length l, List.length_set]
theorem stGet_unlock : ∀ (l : List Nat) (S0 S : Sto) (n : Nat) (u : Ob), stGet (unlockS S0 S l) n = some u → (stGet S n = some u ∧ n ∉ l) ∨ (n ∈ l ∧ stGet S0 n = some u)
  | [], _, _, _, _, h => .inl ⟨h, by simp⟩
  | m :: l, S0, S, n, u, h => by
    rcases stGet_unlock l S0 (S.set m (S0[m]?).join) n u h with ⟨h1, h2⟩ | ⟨h1, h2⟩
    · rw [stGet_set] at h1
      split at h1
      · rename_i hn
        obtain ⟨rfl, _⟩ := hn
        exact .inr ⟨by simp, h1⟩
      · rename_i hn
        by_cases e : m = n
        · subst e
          have := stGet_lt h1
          exact absurd ⟨rfl, this⟩ hn
        · exact .inl ⟨h1, by simp [h2, Ne.symm e]⟩
    · exact .inr ⟨by simp [h1], h2⟩
section
variable {K : PySem.W.Frag} {fa : FA} {F H F' H' : Hp} {ρ ρ' : Nat → Addr} {S S' : Sto}
theorem Sim.lock (s : Sim K fa F H ρ S) (l : List Nat) : Sim K fa F H ρ (lockS S l) :=
  ⟨s.sub, fun n o h => s.off n o (stGet_lock l S n o h).1, fun n o h => by rw [lockS_length]; exact s.obj n o (stGet_lock l S n o h).1, fun n m o u h h' => s.inj n m o u (stGet_lock l S n o h).1 (stGet_lock l S m u h').1⟩
theorem Sim.unlock (s : Sim K fa F H ρ S) (l : List Nat) (s' : Sim K fa F' H' ρ' S') (x : Ext F H ρ (lockS S l) F' H' ρ' S') : Sim K fa F' H' ρ' (unlockS S S' l) ∧ Ext F H ρ S F' H' ρ' (unlockS S S' l) := by
  have len : S.length ≤ S'.length := by have := x.len; rw [lockS_length] at this; exact this
  have rho : ∀ n, n < S.length → ρ' n = ρ n := fun n hn => x.rho n (by rw [lockS_length]; exact hn)
  have apart : ∀ n u, n ∈ l → stGet S n = some u → ∀ m w, stGet (lockS S l) m = some w → ρ n ≠ ρ m := fun n u hn hu m w hw e => by
    obtain ⟨h1, h2⟩ := stGet_lock l S m w hw
    have := s.inj n m u w hu h1 e
    subst this
    exact h2 hn
  have kept : ∀ n u, n ∈ l → stGet S n = some u → ∀ h, H (ρ n) = some h → H' (ρ n) = some h := fun n u hn hu h hh => x.frame _ _ hh fun m w hw => apart n u hn hu m w hw
  refine ⟨⟨s'.sub, fun n o h => ?_, fun n o h => ?_, fun n m o u h h' e => ?_⟩, ⟨x.fz, rho, by rw [unlockS_length]; exact len, fun a o h hn => x.frame a o h fun n u hu => hn n u (stGet_lock l S n u hu).1, x.there, fun n u h => ?_, fun a o h => ?_⟩⟩
  · rcases stGet_unlock l S S' n o h with ⟨h1, _⟩ | ⟨h1, h2⟩
    · exact s'.off n o h1
    · rw [rho n (stGet_lt h2)]
      cases q : F' (ρ n) with
      | none => rfl
      | some z =>
        rcases x.fnew _ _ q with c | c | ⟨m, w, c1, c2⟩ | ⟨ys, c⟩
        · exact absurd (s.off n o h2) c
        · obtain ⟨y, hy, _⟩ := s.obj n o h2
          rw [c] at hy; cases hy
        · exact absurd c2 (apart n o h1 h2 m w c1)
        · obtain ⟨y, hy, ry⟩ := s.obj n o h2
          rw [c] at hy; cases hy; exact ry.notTup.elim
  · rcases stGet_unlock l S S' n o h with ⟨h1, _⟩ | ⟨h1, h2⟩
    · rw [unlockS_length]; exact s'.obj n o h1
    · obtain ⟨y, hy, ry⟩ := s.obj n o h2
      rw [rho n (stGet_lt h2), unlockS_length]
      exact ⟨y, kept n o h1 h2 y hy, ry.mono x.fz rho len⟩
  · have key : ∀ n m o u, stGet S' n = some o → m ∈ l → stGet S m = some u → ρ' n ≠ ρ' m := fun n m o u h1 h2 h3 e => by
      rw [rho m (stGet_lt h3)] at e
      rcases x.new n o h1 with ⟨c1, w, c2⟩ | ⟨c1, c2⟩
      · rw [x.rho n c1] at e
        exact apart m u h2 h3 n w c2 e.symm
      · obtain ⟨y, hy, _⟩ := s.obj m u h3
        rw [e, hy] at c2; cases c2
    rcases stGet_unlock l S S' n o h with ⟨h1, _⟩ | ⟨h1, h2⟩ <;> rcases stGet_unlock l S S' m u h' with ⟨h3, _⟩ | ⟨h3, h4⟩
    · exact s'.inj n m o u h1 h3 e
    · exact absurd e (key n m o u h1 h3 h4)
    · exact absurd e.symm (key m n u o h3 h1 h2)
    · rw [rho n (stGet_lt h2), rho m (stGet_lt h4)] at e
      exact s.inj n m o u h2 h4 e
  · rcases stGet_unlock l S S' n u h with ⟨h1, _⟩ | ⟨h1, h2⟩
    · rcases x.new n u h1 with ⟨c1, w, c2⟩ | ⟨c1, c2⟩
      · exact .inl ⟨by rw [lockS_length] at c1; exact c1, w, (stGet_lock l S n w c2).1⟩
      · exact .inr ⟨by rw [lockS_length] at c1; exact c1, c2⟩
    · exact .inl ⟨stGet_lt h2, u, h2⟩
  · rcases x.fnew a o h with c | c | ⟨m, w, c1, c2⟩ | c
    · exact .inl c
    · exact .inr (.inl c)
    · exact .inr (.inr (.inl ⟨m, w, (stGet_lock l S m w c1).1, c2⟩))
    · exact .inr (.inr (.inr c))
end

/-! ### the meaning of an iterable -/
structure IterOk (K : PySem.W.Frag) (fa : FA) (F0 : Hp) (ρ : Nat → Addr) (n : Nat) (A0 : Hp) (J : L2.It) (items : List Val) : Prop where
  go : ∀ i H, Same A0 H → i < items.length → J.go i H
  stop : ∀ H, Same A0 H → J.stop items.length H
  yld : ∀ i H x H' v F, Same A0 H → Same F0 F → Same F H → items[i]? = some v → J.yld i H x H' → ∃ F', Grow F H F' H' ∧ RepV K fa F' ρ n x v
/-- behind the evaluation of the iterable -/
def ItRep (K : PySem.W.Frag) (fa : FA) (F H : Hp) (ρ : Nat → Addr) (S : Sto) (J : L2.It) (p : List Val × List Nat) : Prop :=
  p.1.length ≤ sizeLine ∧ ∃ A0, Same A0 H ∧ (∀ n u, stGet (lockS S p.2) n = some u → A0 (ρ n) = none) ∧ IterOk K fa F ρ S.length A0 J p.1
def PostI (K : PySem.W.Frag) (fa : FA) (W : WX) (F H : Hp) (ρ : Nat → Addr) (S : Sto) (σ : L2.St) (r : R (List Val × List Nat)) (Q : L2.It → Hp → Prop) : Prop :=
  match r with
  | .stuck => False
  | .ok p S' => ∀ J F' H' ρ', Sim K fa F' H' ρ' S' → Ext F H ρ S F' H' ρ' S' → ItRep K fa F' H' ρ' S' J p → Q J H'
  | .exc e S' => ∀ c d F' H' ρ', Sim K fa F' H' ρ' S' → Ext F H ρ S F' H' ρ' S' → RepX fa H' c d e → W c d σ H'
def rdI (K : PySem.W.Frag) (fa : FA) (W : WX) (m : M (List Val × List Nat)) : TI := fun σ H R =>
  ∃ env S F ρ, Sim K fa F H ρ S ∧ EnvRep K fa F ρ S.length env σ ∧ PostI K fa W F H ρ S σ (m env S) R
structure SimI (fa : FA) (X : Cx) (tg pe : Expr) (m : M (List Val × List Nat)) : Prop where
  run : ∀ W, Takes X W → PI X tg pe (rdI X.K fa W m)
theorem PI.imp {X : Cx} {tg e : Expr} {t t' : TI} (h : PI X tg e t) (k : ∀ σ H Q, t' σ H Q → t σ H Q) : PI X tg e t' := ⟨fun pins s σ H Q I q => h.run pins s σ H Q I (k σ H Q q)⟩
section
variable {K : PySem.W.Frag} {fa : FA} {F H : Hp} {ρ : Nat → Addr} {S : Sto}
/-- the frozen part stays -/
theorem it_list (s : Sim K fa F H ρ S) {a : Addr} {xs : List V} {vs : List Val} (h : SqL K F a xs) (r : RepVs K fa F ρ S.length xs vs) (hz : xs.length ≤ sizeLine) : ItRep K fa F H ρ S (Itl K a) (vs, []) := by
  refine ⟨by rw [← r.length]; exact hz, F, s.sub, fun n u hu => s.off n u hu, ⟨fun i H' hk hi => ?_, fun H' hk => ⟨xs, hk.seq h, by rw [r.length]; exact Nat.le_refl _⟩, fun i H' x H'' v F' hk hF sF hv hy => ?_⟩⟩
  · obtain ⟨x, hx, _⟩ := r.get (List.getElem?_eq_getElem hi)
    exact ⟨xs, x, hk.seq h, hx⟩
  · obtain ⟨rfl, hy⟩ := hy
    obtain ⟨x', hx', rx⟩ := r.get hv
    have := hy xs (hk.seq h)
    rw [hx'] at this; cases this
    exact ⟨F', .inl ⟨rfl, rfl⟩, rx.mono hF (fun _ _ => rfl) (Nat.le_refl _)⟩
theorem it_tup (s : Sim K fa F H ρ S) {a : Addr} {xs : List V} {vs : List Val} (h : SqT K F a xs) (r : RepVs K fa F ρ S.length xs vs) (hz : xs.length ≤ sizeLine) : ItRep K fa F H ρ S (Itt K a) (vs, []) := by
  refine ⟨by rw [← r.length]; exact hz, F, s.sub, fun n u hu => s.off n u hu, ⟨fun i H' hk hi => ?_, fun H' hk => ⟨xs, SqT.mono hk h, by rw [r.length]; exact Nat.le_refl _⟩, fun i H' x H'' v F' hk hF sF hv hy => ?_⟩⟩
  · obtain ⟨x, hx, _⟩ := r.get (List.getElem?_eq_getElem hi)
    exact ⟨xs, x, SqT.mono hk h, hx⟩
  · obtain ⟨rfl, hy⟩ := hy
    obtain ⟨x', hx', rx⟩ := r.get hv
    have := hy xs (SqT.mono hk h)
    rw [hx'] at this; cases this
    exact ⟨F', .inl ⟨rfl, rfl⟩, rx.mono hF (fun _ _ => rfl) (Nat.le_refl _)⟩
theorem it_ref (s : Sim K fa F H ρ S) {n : Nat} {vs : List Val} {xs : List V} (h : stGet S n = some (.lst vs)) (hx : H (ρ n) = some (.lst xs)) (r : RepVs K fa F ρ S.length xs vs) (hz : xs.length ≤ sizeLine) : ItRep K fa F H ρ S (Itl K (ρ n)) (vs, [n]) := by
  have hA : ∀ H' : Hp, Same (fun b => if b = ρ n then H b else none) H' → SqL K H' (ρ n) xs := fun H' hk => SqL.of (hk (ρ n) _ (by dsimp only; rw [if_pos rfl]; exact hx))
  refine ⟨by rw [← r.length]; exact hz, fun b => if b = ρ n then H b else none, fun b o hb => ?_, fun m u hu => ?_, ⟨fun i H' hk hi => ?_, fun H' hk => ⟨xs, hA H' hk, by rw [r.length]; exact Nat.le_refl _⟩, fun i H' x H'' v F' hk hF sF hv hy => ?_⟩⟩
  · dsimp only at hb
    split at hb
    · exact hb
    · cases hb
  · dsimp only
    obtain ⟨h1, h2⟩ := stGet_lock [n] S m u hu
    rw [if_neg]
    intro e
    have := s.inj m n u _ h1 h e
    subst this
    simp at h2
  · obtain ⟨x, hx', _⟩ := r.get (List.getElem?_eq_getElem hi)
    exact ⟨xs, x, hA H' hk, hx'⟩
  · obtain ⟨rfl, hy⟩ := hy
    obtain ⟨x', hx', rx⟩ := r.get hv
    have := hy xs (hA _ hk)
    rw [hx'] at this; cases this
    exact ⟨F', .inl ⟨rfl, rfl⟩, rx.mono hF (fun _ _ => rfl) (Nat.le_refl _)⟩
theorem it_range (s : Sim K fa F H ρ S) (a b : Int) (hz : (b - a).toNat ≤ sizeLine) : ItRep K fa F H ρ S (Itr a (b - a).toNat) (rangeVs a b, []) := by
  have hl : (rangeVs a b).length = (b - a).toNat := by simp [rangeVs]
  refine ⟨by rw [hl]; exact hz, fun _ => none, (fun _ _ z => by cases z), (fun _ _ _ => rfl), ⟨fun i H' _ hi => by rw [hl] at hi; exact hi, fun H' _ => by rw [hl]; exact Nat.le_refl _, fun i H' x H'' v F' _ hF sF hv hy => ?_⟩⟩
  obtain ⟨rfl, rfl⟩ := hy
  refine ⟨F', .inl ⟨rfl, rfl⟩, ?_⟩
  have hi : i < (b - a).toNat := by have := (List.getElem?_eq_some_iff.mp hv).1; rw [hl] at this; exact this
  unfold rangeVs at hv
  rw [List.getElem?_map, List.getElem?_range hi] at hv
  cases hv
  exact Rep.int _
/-- pairs of a count and an item -/
theorem it_enumL {A0 : Hp} {l : List Nat} (hA : Same A0 H) (hoff : ∀ n u, stGet (lockS S l) n = some u → A0 (ρ n) = none) {a : Addr} {xs : List V} {ds : List D} (h : ∀ H', Same A0 H' → SqL K H' a xs) (r : Reps K F xs ds) (hz : xs.length ≤ sizeLine) : ItRep K fa F H ρ S (Ite K a) (enumD ds, l) := by
  have hl : (enumD ds).length = xs.length := by simp [enumD, r.length]
  refine ⟨by rw [hl]; exact hz, A0, hA, hoff, ⟨fun i H' hk hi => ?_, fun H' hk => ⟨xs, h H' hk, by rw [hl]; exact Nat.le_refl _⟩, fun i H' x H'' v F' hk hF sF hv hy => ?_⟩⟩
  · rw [hl] at hi
    exact ⟨xs, xs[i], h H' hk, List.getElem?_eq_getElem hi⟩
  · obtain ⟨T, y, rfl, hT, rfl, hy⟩ := hy
    have hy' := hy xs (h _ hk)
    obtain ⟨d, hd, rd⟩ := r.getV hy'
    have hve : v = .d (.tuple [.int i, d]) := by
      unfold enumD at hv
      rw [List.getElem?_map, List.getElem?_zipIdx, hd] at hv
      simp at hv
      exact hv.symm
    subst hve
    refine ⟨upd F' T (.tup [.int (i : Nat), y]), .inr (.inl ⟨T, _, hT, rfl, rfl⟩), ?_⟩
    have fF : F' T = none := sF.free hT
    have sF' : Same F' (upd F' T (.tup [.int (i : Nat), y])) := fun b o hb => by rw [upd_ne (ne_of_none hb fF)]; exact hb
    exact Rep.tup upd_same (.cons (.int _) (.cons (rd.mono (hF.trans sF')) .nil))
theorem it_enumT {A0 : Hp} {l : List Nat} (hA : Same A0 H) (hoff : ∀ n u, stGet (lockS S l) n = some u → A0 (ρ n) = none) {a : Addr} {xs : List V} {ds : List D} (h : ∀ H', Same A0 H' → SqT K H' a xs) (r : Reps K F xs ds) (hz : xs.length ≤ sizeLine) : ItRep K fa F H ρ S (IteT K a) (enumD ds, l) := by
  have hl : (enumD ds).length = xs.length := by simp [enumD, r.length]
  refine ⟨by rw [hl]; exact hz, A0, hA, hoff, ⟨fun i H' hk hi => ?_, fun H' hk => ⟨xs, h H' hk, by rw [hl]; exact Nat.le_refl _⟩, fun i H' x H'' v F' hk hF sF hv hy => ?_⟩⟩
  · rw [hl] at hi
    exact ⟨xs, xs[i], h H' hk, List.getElem?_eq_getElem hi⟩
  · obtain ⟨T, y, rfl, hT, rfl, hy⟩ := hy
    have hy' := hy xs (h _ hk)
    obtain ⟨d, hd, rd⟩ := r.getV hy'
    have hve : v = .d (.tuple [.int i, d]) := by
      unfold enumD at hv
      rw [List.getElem?_map, List.getElem?_zipIdx, hd] at hv
      simp at hv
      exact hv.symm
    subst hve
    refine ⟨upd F' T (.tup [.int (i : Nat), y]), .inr (.inl ⟨T, _, hT, rfl, rfl⟩), ?_⟩
    have fF : F' T = none := sF.free hT
    have sF' : Same F' (upd F' T (.tup [.int (i : Nat), y])) := fun b o hb => by rw [upd_ne (ne_of_none hb fF)]; exact hb
    exact Rep.tup upd_same (.cons (.int _) (.cons (rd.mono (hF.trans sF')) .nil))
end
theorem repVs_ints {K : PySem.W.Frag} {fa : FA} {F : Hp} {ρ : Nat → Addr} {n : Nat} : ∀ ns : List Int, RepVs K fa F ρ n (ns.map V.int) (ns.map fun n => Val.d (.int n))
  | [] => .nil
  | n :: ns => .cons (Rep.int n) (repVs_ints ns)
section
variable {fa : FA} {X : Cx} {a b tg : Expr} {ma mb : M Val} {pos : Pos}
theorem si_over (ha : SimE fa X a ma) : SimI fa X tg a (fun env S => (ma env S).bind fun v S1 => .ofO (itemsV S1 v) S1) := by
  refine ⟨fun W tk => PI.imp (pi_seq (PE.size (ha.run W tk))) fun σ H Q q => ?_⟩
  obtain ⟨env, S, F, ρ, s, e, p⟩ := q
  refine ⟨env, S, F, ρ, s, e, ?_⟩
  dsimp only at p
  cases q0 : ma env S with
  | stuck => rw [q0] at p; exact p
  | exc e S' => rw [q0] at p; exact p
  | ok v S1 =>
    rw [q0] at p
    simp only [R.bind_ok] at p
    intro x F1 H1 ρ1 s1 x1 r1 hz
    cases q1 : itemsV S1 v with
    | none => rw [q1] at p; exact p.elim
    | some it =>
      rw [q1] at p
      have p' : ∀ J, ItRep X.K fa F1 H1 ρ1 S1 J it → Q J H1 := fun J hJ => p J F1 H1 ρ1 s1 x1 hJ
      cases v with
      | fn _ => cases q1
      | exn _ => cases q1
      | scr ns =>
        obtain ⟨l, rfl, h⟩ := r1
        cases q1
        exact ⟨l, rfl, .inl ⟨⟨_, s1.sub.seq h⟩, p' _ (it_list s1 h (repVs_ints ns) (hz _ _ rfl (.inl (s1.sub.seq h))))⟩⟩
      | ref n =>
        obtain ⟨h1, rfl⟩ := r1
        simp only [itemsV] at q1
        cases q2 : stGet S1 n with
        | none => rw [q2] at q1; cases q1
        | some o =>
          rw [q2] at q1
          cases o with
          | dct _ => cases q1
          | lst vs =>
            cases q1
            obtain ⟨ho, h2, r2⟩ := s1.obj n _ q2
            cases r2 with
            | lst r2 => exact ⟨_, rfl, .inl ⟨⟨_, SqL.of h2⟩, p' _ (it_ref s1 q2 h2 r2 (hz _ _ rfl (.inl (SqL.of h2))))⟩⟩
      | d d =>
        have r' : VRep X.K F1 H1 x d := .p r1
        cases d with
        | list ds =>
          cases q1
          cases (show Rep X.K F1 x (.list ds) from r1) with
          | lst h r => exact ⟨_, rfl, .inl ⟨⟨_, SqL.of (s1.sub _ _ h)⟩, p' _ (it_list s1 (SqL.of h) (RepVs.of_pure r) (hz _ _ rfl (.inl (SqL.of (s1.sub _ _ h)))))⟩⟩
        | tuple ds =>
          cases q1
          cases (show Rep X.K F1 x (.tuple ds) from r1) with
          | tup h r => exact ⟨_, rfl, .inr ⟨⟨_, SqT.of (s1.sub _ _ h)⟩, p' _ (it_tup s1 (SqT.of h) (RepVs.of_pure r) (hz _ _ rfl (.inr (SqT.of (s1.sub _ _ h)))))⟩⟩
        | _ => cases q1
theorem si_range1 {p : Pos} (hg : Gl X "range") (hm : X.mg "range" = none) (ha : SimE fa X a ma) (hn : noStar a = true) :
    SimI fa X tg (.Call (.Name "range" p) [a] [] pos) (fun env S => (ma env S).bind fun v S1 => .ofO (match v with | .d (.int n) => if n ≤ 16777216 ∧ -16777216 ≤ n then some (rangeVs 0 n, []) else none | _ => none) S1) := by
  refine ⟨fun W tk => PI.imp (pi_range1 hg hm ((sa_cons ha sa_nil hn).run W tk) (starEach_cons hn _ _)) fun σ H Q q => ?_⟩
  obtain ⟨env, S, F, ρ, s, e, p⟩ := q
  refine ⟨env, S, F, ρ, s, e, ?_⟩
  dsimp only at p
  unfold mcons mnil
  cases q0 : ma env S with
  | stuck => rw [q0] at p; exact p
  | exc e S' => rw [q0] at p; exact p
  | ok v S1 =>
    rw [q0] at p
    simp only [R.bind_ok] at p ⊢
    intro xs F1 H1 ρ1 s1 x1 r1
    cases r1 with
    | cons r1 rn =>
      cases rn
      cases v with
      | d d =>
        cases d with
        | int n =>
          cases (show Rep X.K F1 _ (.int n) from r1)
          dsimp only at p
          split at p
          · rename_i hz
            refine ⟨n, rfl, by omega, by omega, ?_⟩
            have := it_range s1 0 n (by rw [sizeLine_eq]; omega)
            rw [Int.sub_zero] at this
            exact p _ F1 H1 ρ1 s1 x1 this
          · exact p.elim
        | _ => exact p.elim
      | _ => exact p.elim
theorem si_range2 {p : Pos} (hg : Gl X "range") (hm : X.mg "range" = none) (ha : SimE fa X a ma) (hb : SimE fa X b mb) (hn : noStar a = true) (hn2 : noStar b = true) :
    SimI fa X tg (.Call (.Name "range" p) [a, b] [] pos) (fun env S => (ma env S).bind fun x S1 => (mb env S1).bind fun y S2 =>
      .ofO (match x, y with | .d (.int i), .d (.int j) => if -8388608 ≤ i ∧ i ≤ 8388608 ∧ -8388608 ≤ j ∧ j ≤ 8388608 then some (rangeVs i j, []) else none | _, _ => none) S2) := by
  refine ⟨fun W tk => PI.imp (pi_range2 hg hm ((sa_cons ha (sa_cons hb sa_nil hn2) hn).run W tk) (by rw [starEach_cons hn, starEach_cons hn2]; rfl) (starEach_cons hn2 _ _)) fun σ H Q q => ?_⟩
  obtain ⟨env, S, F, ρ, s, e, p⟩ := q
  refine ⟨env, S, F, ρ, s, e, ?_⟩
  dsimp only at p
  unfold mcons mnil
  cases q0 : ma env S with
  | stuck => rw [q0] at p; exact p
  | exc e S' => rw [q0] at p; exact p
  | ok v S1 =>
    rw [q0] at p
    simp only [R.bind_ok] at p ⊢
    cases q1 : mb env S1 with
    | stuck => rw [q1] at p; exact p
    | exc e S' => rw [q1] at p; exact p
    | ok u S2 =>
      rw [q1] at p
      simp only [R.bind_ok] at p ⊢
      intro xs F1 H1 ρ1 s1 x1 r1
      cases r1 with
      | cons r1 rn =>
        cases rn with
        | cons r2 rn =>
          cases rn
          cases v with
          | d d =>
            cases d with
            | int n =>
              cases u with
              | d d2 =>
                cases d2 with
                | int n2 =>
                  cases (show Rep X.K F1 _ (.int n) from r1)
                  cases (show Rep X.K F1 _ (.int n2) from r2)
                  dsimp only at p
                  split at p
                  · rename_i hz
                    exact ⟨n, n2, rfl, by omega, p _ F1 H1 ρ1 s1 x1 (it_range s1 n n2 (by rw [sizeLine_eq]; omega))⟩
                  · exact p.elim
                | _ => exact p.elim
              | _ => exact p.elim
            | _ => exact p.elim
          | _ => exact p.elim
theorem si_enum {p tpos : Pos} {elts : List Expr} {kk : Nat} (hg : Gl X "enumerate") (hm : X.mg "enumerate" = none) (ha : SimE fa X a ma) (hn : noStar a = true) :
    SimI fa X (.Tuple elts kk tpos) (.Call (.Name "enumerate" p) [a] [] pos) (fun env S => (ma env S).bind fun v S1 => .ofO ((pureItems S1 v).map fun p => (enumD p.1, p.2)) S1) := by
  refine ⟨fun W tk => PI.imp (pi_enumA hg hm (PA.size ((sa_cons ha sa_nil hn).run W tk)) (starEach_cons hn _ _)) fun σ H Q q => ?_⟩
  obtain ⟨env, S, F, ρ, s, e, p⟩ := q
  refine ⟨env, S, F, ρ, s, e, ?_⟩
  dsimp only at p
  unfold mcons mnil
  cases q0 : ma env S with
  | stuck => rw [q0] at p; exact p
  | exc e S' => rw [q0] at p; exact p
  | ok v S1 =>
    rw [q0] at p
    simp only [R.bind_ok] at p ⊢
    intro xs F1 H1 ρ1 s1 x1 r1 hz
    cases r1 with
    | cons r1 rn =>
      cases rn
      rename_i x
      cases q1 : pureItems S1 v with
      | none => rw [q1] at p; exact p.elim
      | some it =>
        rw [q1] at p
        have p' : ∀ J, ItRep X.K fa F1 H1 ρ1 S1 J (enumD it.1, it.2) → Q J H1 := fun J hJ => p J F1 H1 ρ1 s1 x1 hJ
        unfold pureItems at q1
        cases v with
        | fn _ => cases q1
        | exn _ => cases q1
        | scr ns =>
          obtain ⟨l, rfl, h⟩ := r1
          simp only [itemsV, Option.bind_some] at q1
          have e1 : (ns.map fun n => Val.d (.int n)) = (ns.map PyData.int).map Val.d := by rw [List.map_map]; rfl
          rw [e1, pureVs_map] at q1
          cases q1
          exact ⟨l, rfl, .inl ⟨⟨_, s1.sub.seq h⟩, p' _ (it_enumL (A0 := F1) (l := []) s1.sub (fun n u hu => s1.off n u hu) (fun H' hk => hk.seq h) (Reps.of_ints ns) (hz _ _ _ rfl (.inl (s1.sub.seq h))))⟩⟩
        | ref n =>
          obtain ⟨h1, rfl⟩ := r1
          simp only [itemsV] at q1
          cases q2 : stGet S1 n with
          | none => rw [q2] at q1; cases q1
          | some o =>
            rw [q2] at q1
            cases o with
            | dct _ => cases q1
            | lst vs =>
              simp only [Option.bind_some] at q1
              cases q3 : pureVs vs with
              | none => rw [q3] at q1; cases q1
              | some ds =>
                rw [q3] at q1
                cases q1
                obtain ⟨ho, h2, r2⟩ := s1.obj n _ q2
                cases r2 with
                | lst r2 =>
                  have hzz := hz _ _ _ rfl (.inl (SqL.of h2))
                  refine ⟨_, rfl, .inl ⟨⟨_, SqL.of h2⟩, p' _ (it_enumL (A0 := fun b => if b = ρ1 n then H1 b else none) (l := [n]) (fun b o hb => ?_) (fun m u hu => ?_) (fun H' hk => SqL.of (hk (ρ1 n) _ (by dsimp only; rw [if_pos rfl]; exact h2))) (r2.pure q3) hzz)⟩⟩
                  · dsimp only at hb
                    split at hb
                    · exact hb
                    · cases hb
                  · obtain ⟨h3, h4⟩ := stGet_lock [n] S1 m u hu
                    rw [if_neg]
                    intro e
                    have := s1.inj m n u _ h3 q2 e
                    subst this
                    simp at h4
        | d d =>
          cases d with
          | list ds =>
            simp only [itemsV, Option.bind_some, pureVs_map] at q1
            cases q1
            cases (show Rep X.K F1 x (.list ds) from r1) with
            | lst h r => exact ⟨_, rfl, .inl ⟨⟨_, SqL.of (s1.sub _ _ h)⟩, p' _ (it_enumL (A0 := F1) (l := []) s1.sub (fun n u hu => s1.off n u hu) (fun H' hk => hk.seq (SqL.of h)) r (hz _ _ _ rfl (.inl (SqL.of (s1.sub _ _ h)))))⟩⟩
          | tuple ds =>
            simp only [itemsV, Option.bind_some, pureVs_map] at q1
            cases q1
            cases (show Rep X.K F1 x (.tuple ds) from r1) with
            | tup h r => exact ⟨_, rfl, .inr ⟨⟨_, SqT.of (s1.sub _ _ h)⟩, p' _ (it_enumT (A0 := F1) (l := []) s1.sub (fun n u hu => s1.off n u hu) (fun H' hk => SqT.mono hk (SqT.of h)) r (hz _ _ _ rfl (.inr (SqT.of (s1.sub _ _ h)))))⟩⟩
          | _ => cases q1
end
end MS

-- MsFn
/-! Calls of defs, where no repr is under way (guards = []). -/
namespace MS
open PySem PySem.Spec PyProof.Rows L2

structure FnG (P : Program) (w : World) (K : PySem.W.Frag) (mg : Str → Option Value) (base : Heap) (k : Nat) (f : Addr) (fd : FuncData) (ps : List Str) (sp : Sp) : Prop where
  len : ∀ vs H Q E, sp vs H Q E → vs.length = ps.length
  run : ∀ (A : Around) (outer : List PySem.Env) (s : Shared) (H : Hp) (args : Args) (us : List Value) (vs : List V) (Q : VK) (E : XK), Room k A → A.guards = some [] →
    Env0 P w K mg base A outer s H → BindsTo s fd args (ps.zip us) → Vals vs us → sp vs H Q E →
    codeAny (model P w) A (.call (.ref f) args) (CR (L2.CX P w) outer P w H s Q E) s

theorem fnG_of {P : Program} {w : World} {K : PySem.W.Frag} {mg : Str → Option Value} {base : Heap} {x qual : Str} {params : Arguments} {body : List Stmt} {scope : Scope} {dvs : List V} {kws : List (Str × V)} {f : Addr} {fd : FuncData}
    {N ps : List Str} {k : Nat} {sp : Sp} (F : FunD K x qual params body scope dvs kws f fd) (S : FnScope N ps scope) (len : ∀ vs H Q E, sp vs H Q E → vs.length = ps.length)
    (hb : ∀ (cdv : Value) (A : Around) (outer : List PySem.Env) (s : Shared) (H : Hp) (vs : List V) (Q : VK) (E : XK), Room k (A.deeper (envOfC qual scope s.heap.objs.size f cdv)) → (A.deeper (envOfC qual scope s.heap.objs.size f cdv)).guards = some [] → sp vs H Q E →
      ∃ t, PSs (cxOf (L2.CX P w) P w K mg base N qual scope f cdv A outer s H E) body t ∧ t { nx := fun _ H' => Q .non H', rt := Q } (start N vs) H) :
    FnG P w K mg base (k + 1) f fd ps sp := by
  obtain ⟨oc, od, dV, kV, doc, pm, an, cdv, ct, osl, rfl, lk, hcd, _, _⟩ := F.ex
  refine ⟨len, fun A outer s H args us vs Q E hr hg e0 hbind r hsp => ?_⟩
  have keepb : ∀ b o, base.get? b = some o → s.heap.get? b = some o := fun b o e => (e0.bs b o e).1
  have KX : K.In s.heap := e0.mod.kin.keeps keepb
  refine codeAny_call_function hr.depth (KX _ _ lk) rfl S.co S.gen rfl (PySem.W.codeRec_of KX hcd) (hbind _ _ _ _ ?_)
  refine wpAny_newFunctionEnv_cells S.kind (fun ⟨n, v⟩ hy => ?_) fun env he s1 y => ?_
  · rcases S.par n (List.of_mem_zip hy).1 with q | q
    · exact .inl q
    · exact .inr ⟨q, PySem.W.cellsFrom_some _ _ _ (.inl q)⟩
  subst he
  refine ⟨(e0.mod.nolimit.keeps keepb).keeps y.toInCall.keep, codeAny_func ?_⟩
  obtain ⟨t, ht, hq⟩ := hb cdv A outer s H vs Q E (hr.deeper _) hg hsp
  refine wpAny_mono (ht.run [] s1 (start N vs) H _ (inv_start S hr.hd e0 (len _ _ _ _ hsp) r y) hq) (fun fl s' hs => ?_) fun e s' hs => hs
  cases fl with
  | ret u =>
    obtain ⟨v, σ', H', J, rv, q⟩ := hs
    exact ⟨v, H', J.os, J.bare, J.base, J.hok, rv, q⟩
  | next =>
    obtain ⟨σ', H', J, q⟩ := hs
    exact ⟨V.non, H', J.os, J.bare, J.base, J.hok, rfl, q⟩
  | brk => exact hs.elim fun _ z => z.elim fun _ z => z.2.elim
  | cont => exact hs.elim fun _ z => z.elim fun _ z => z.2.elim

section
variable {X : Cx} {k : Nat} {f : Addr} {fd : FuncData} {ps : List Str} {sp : Sp} {E : L2.St → XK} {x : Str} {p pos : Pos} {e : Expr} {es : List Expr} {t : TA}
def tCallG (sp : Sp) (E : L2.St → XK) (t : TA) : TE := fun σ H Q => t σ H fun vs H1 => sp vs H1 Q (E σ)
theorem run_G {pins : List (Addr × Obj)} {σ : L2.St} {H : Hp} {s : Shared} {Q : VK} {us : List Value} {vs : List V} (F : FnG X.prog X.w X.K X.mg X.base k f fd ps sp) (hr : Room k X.A) (hg : X.A.guards = some []) (hb : Binds X.K fd ps [])
    (hx : PassesAt (L2.CX X.prog X.w) X σ (E σ)) (I : Inv X pins σ H s) (r : Vals vs us) (h : sp vs H Q (E σ)) : wpAny (model X.prog X.w) X.A (call (.ref f) us) (EP X pins σ Q) X.xe s := by
  have hl : us.length = ps.length := r.length.symm.trans (F.len _ _ _ _ h)
  have b := hb s us I.kIn (by simpa using hl)
  rw [List.append_nil] at b
  refine wpAny_call (codeAny_mono (F.run X.A X.stack s H ⟨us, []⟩ us vs Q (E σ) hr hg I.env0 b r h) fun r s' hq => ?_)
  cases r with
  | error e => exact hx pins H s e s' I hq
  | ok fl => cases fl <;> first | exact I.after hq | exact False.elim hq
theorem pe_callG (F : FnG X.prog X.w X.K X.mg X.base k f fd ps sp) (hr : Room k X.A) (hgu : X.A.guards = some []) (hg : Gl X x) (hm : X.mg x = some (.ref f)) (hk : PySem.W.keepIn X.K (.ref f) = true) (hb : Binds X.K fd ps []) (hx : ∀ σ, PassesAt (L2.CX X.prog X.w) X σ (E σ))
    (ha : PA X (e :: es) t) (hdb : (x == ("__debug__" : Str)) = false) (he : starEach (e :: es) X.env = (false, eval e X.env) :: starEach es X.env) (hpl : (backTo pos (starEach es X.env)).any (·.1) = false) :
    PE X (.Call (.Name x p) (e :: es) [] pos) (tCallG sp E t) := by
  refine ⟨fun pins s σ H Q I h => wpAny_Call_Name_kw (ld_glob I hg hm ?_ hdb)⟩
  exact PySem.W.callWith_K (h₀ := X.base) I.ok.mod.kin hk (thn (ha.run pos pins s σ H _ I h) fun us s1 ⟨vs, H1, I1, r, q⟩ => ⟨I1.kIn, run_G F hr hgu hb (hx σ) I1 r q⟩) he hpl
theorem pe_callG0 (F : FnG X.prog X.w X.K X.mg X.base k f fd ps sp) (hr : Room k X.A) (hgu : X.A.guards = some []) (hg : Gl X x) (hm : X.mg x = some (.ref f)) (hk : PySem.W.keepIn X.K (.ref f) = true) (hb : Binds X.K fd ps []) (hx : ∀ σ, PassesAt (L2.CX X.prog X.w) X σ (E σ))
    (hdb : (x == ("__debug__" : Str)) = false) : PE X (.Call (.Name x p) [] [] pos) (tCallG sp E tNil) := by
  refine ⟨fun pins s σ H Q I h => wpAny_Call_Name_kw (ld_glob I hg hm ?_ hdb)⟩
  exact PySem.W.callWith_K0 I.kIn hk (run_G (us := []) F hr hgu hb (hx σ) I .nil h)
end

/-! ### a def's promise by its meaning -/
def spR (K : PySem.W.Frag) (fa : FA) (r : List Val → Sto → R Val) : Sp := fun vs H Q E =>
  ∃ args S F ρ, Sim K fa F H ρ S ∧ RepVs K fa F ρ S.length vs args ∧ Post K fa (fun c d _ H' => E c d H') (RepV K fa) F H ρ S [] (r args S) Q

/-- what stands behind the top: the defs of I keep their meaning C, up to level k -/
structure Lib (X : Cx) (fa : FA) (nm : Nat → Str) (ps : Nat → List Str) (I : List Nat) (C : Runner) (k : Nat) : Prop where
  mg : ∀ i ∈ I, X.mg (nm i) = some (.ref (fa i))
  kp : ∀ i ∈ I, PySem.W.keepIn X.K (.ref (fa i)) = true
  fn : ∀ i ∈ I, ∃ fd, Binds X.K fd (ps i) [] ∧ FnG X.prog X.w X.K X.mg X.base k (fa i) fd (ps i) (spR X.K fa (C i))

section
variable {fa : FA} {X : Cx} {pe a b c : Expr} {m ma mb mc : M Val} {pos : Pos} {nm : Nat → Str} {ps : Nat → List Str} {I : List Nat} {C : Runner} {k : Nat}
theorem rd_call {r : List Val → Sto → R Val} {W : WX} {ms : M (List Val)} {σ : L2.St} {H : Hp} {Q : VK} (q : rdE X.K fa W (fun env S => (ms env S).bind fun vs S1 => r vs S1) σ H Q) : tCallG (spR X.K fa r) (WE W) (rdA X.K fa W ms) σ H Q := by
  refine q.bind (rep := RepVs X.K fa) fun env vs S1 xs F1 H1 ρ1 s1 e1 r1 p1 => ?_
  refine ⟨vs, S1, F1, ρ1, s1, r1, ?_⟩
  cases hr : r vs S1 with
  | stuck => rw [hr] at p1; exact p1
  | ok v S2 => rw [hr] at p1; exact p1
  | exc e S2 => rw [hr] at p1; exact p1
theorem sm_call {i : Nat} {p : Pos} {e : Expr} {es : List Expr} {ms : M (List Val)} (L : Lib X fa nm ps I C k) (hi : i ∈ I) (hr : Room k X.A) (hgu : X.A.guards = some []) (hg : Gl X (nm i)) (hdb : (nm i == ("__debug__" : Str)) = false) (ha : SimA fa X (e :: es) ms) (hs : (e :: es).all noStar = true) :
    SimE fa X (.Call (.Name (nm i) p) (e :: es) [] pos) (fun env S => (ms env S).bind fun vs S1 => C i vs S1) := by
  obtain ⟨fd, hb, F⟩ := L.fn i hi
  rw [List.all_cons, Bool.and_eq_true] at hs
  exact ⟨fun W tk => PE.imp (pe_callG (E := WE W) F hr hgu hg (L.mg i hi) (L.kp i hi) hb (fun σ => passAt tk σ) (ha.run W tk) hdb (starEach_cons hs.1 _ _) (starEach_plain es X.env pos hs.2)) fun σ H Q q => rd_call q⟩
theorem sm_call0 {i : Nat} {p : Pos} (L : Lib X fa nm ps I C k) (hi : i ∈ I) (hr : Room k X.A) (hgu : X.A.guards = some []) (hg : Gl X (nm i)) (hdb : (nm i == ("__debug__" : Str)) = false) :
    SimE fa X (.Call (.Name (nm i) p) [] [] pos) (fun env S => C i [] S) := by
  obtain ⟨fd, hb, F⟩ := L.fn i hi
  refine ⟨fun W tk => PE.imp (pe_callG0 (E := WE W) F hr hgu hg (L.mg i hi) (L.kp i hi) hb (fun σ => passAt tk σ) hdb) fun σ H Q q => ?_⟩
  obtain ⟨env, S, F', ρ, s, e, p⟩ := q
  refine ⟨[], S, F', ρ, s, .nil, ?_⟩
  dsimp only at p
  cases hr : C i [] S with
  | stuck => rw [hr] at p; exact p
  | ok v S2 => rw [hr] at p; exact p
  | exc e S2 => rw [hr] at p; exact p
/-! ### a list frozen -/
theorem Sim.freeze {F H : Hp} {ρ : Nat → Addr} {S : Sto} {n : Nat} {vs : List Val} {ds : List D} (s : Sim X.K fa F H ρ S) (h : stGet S n = some (.lst vs)) (hp : pureVs vs = some ds) :
    ∃ F', Sim X.K fa F' H ρ (S.set n none) ∧ Ext F H ρ S F' H ρ (S.set n none) ∧ Rep X.K F' (.ref (ρ n)) (.list ds) := by
  obtain ⟨ho, h2, r2⟩ := s.obj n _ h
  cases r2 with
  | lst r =>
    rename_i xs
    have fF : F (ρ n) = none := s.off n _ h
    have sF : Same F (upd F (ρ n) (.lst xs)) := fun a u q => by rw [upd_ne (ne_of_none q fF)]; exact q
    have gl : ∀ m u, stGet (S.set n none) m = some u → stGet S m = some u ∧ m ≠ n := fun m u q => by
      rw [stGet_set] at q
      split at q
      · cases q
      · rename_i hn
        refine ⟨q, fun e => hn ⟨e.symm, stGet_lt h⟩⟩
    refine ⟨upd F (ρ n) (.lst xs), ⟨fun a u q => ?_, fun m u q => ?_, fun m u q => ?_, fun m m' u u' q q' e => s.inj m m' u u' (gl m u q).1 (gl m' u' q').1 e⟩,
      ⟨sF, fun _ _ => rfl, by simp, fun a u q _ => q, fun a u q => ⟨u, q⟩, fun m u q => .inl ⟨stGet_lt (gl m u q).1, u, (gl m u q).1⟩, fun a u q => ?_⟩, .lst upd_same ((r.pure hp).mono sF)⟩
    · by_cases e : a = ρ n
      · subst e; rw [upd_same] at q; cases q; exact h2
      · rw [upd_ne e] at q; exact s.sub a u q
    · obtain ⟨q1, q2⟩ := gl m u q
      rw [upd_ne (fun e => q2 (s.inj m n _ _ q1 h e))]
      exact s.off m u q1
    · obtain ⟨q1, q2⟩ := gl m u q
      obtain ⟨y, hy, ry⟩ := s.obj m u q1
      refine ⟨y, hy, ?_⟩
      rw [List.length_set]
      exact ry.mono sF (fun _ _ => rfl) (Nat.le_refl _)
    · by_cases e : a = ρ n
      · exact .inr (.inr (.inl ⟨n, _, h, e⟩))
      · rw [upd_ne e] at q; exact .inl (by rw [q]; intro z; cases z)
theorem sm_fz (ha : SimE fa X a ma) : SimE fa X a (fun env S => (ma env S).bind fun v S1 => fzV v S1) := by
  refine ⟨fun W tk => PE.imp (ha.run W tk) fun σ H Q q => ?_⟩
  refine q.bind (rep := RepV X.K fa) fun env v S1 x F1 H1 ρ1 s1 e1 r1 p1 => ?_
  cases v with
  | d y => exact p1 x F1 H1 ρ1 s1 (Ext.refl ..) r1
  | fn i => exact p1.elim
  | exn _ => exact p1.elim
  | scr ns => exact p1.elim
  | ref n =>
    obtain ⟨h1, rfl⟩ := r1
    unfold fzV at p1
    dsimp only at p1
    cases q1 : stGet S1 n with
    | none => rw [q1] at p1; exact p1.elim
    | some o =>
      rw [q1] at p1
      cases o with
      | dct _ => exact p1.elim
      | lst vs =>
        dsimp only at p1
        cases q2 : pureVs vs with
        | none => rw [q2] at p1; exact p1.elim
        | some ds =>
          rw [q2] at p1
          obtain ⟨F', s', x', r'⟩ := s1.freeze q1 q2
          exact p1 _ F' H1 ρ1 s' x' r'
end
end MS

-- MsComp
/-! Targets, comprehensions. -/
namespace MS
open PySem PySem.Spec PyProof.Rows L2

/-! ### targets -/
mutual
def Tg.slots : Tg → List Nat
  | .name i => [i]
  | .tup ts => ts.slots
def Tgs.slots : Tgs → List Nat
  | .nil => []
  | .cons t ts => t.slots ++ ts.slots
end
def Tgs.length : Tgs → Nat
  | .nil => 0
  | .cons _ ts => ts.length + 1
theorem wipe_set {σ : L2.St} {i : Nat} {o : Option V} : ∀ {vs : List Nat}, i ∈ vs → wipe (σ.set i o) vs = wipe σ vs
  | v :: vs, h => by
    unfold wipe
    by_cases e : i ∈ vs
    · rw [wipe_set e]
    · have : i = v := by
        rcases List.mem_cons.mp h with z | z
        · exact z
        · exact absurd z e
      subst this
      have : ∀ ws : List Nat, wipe (σ.set i o) ws = (wipe σ ws).set i (if i ∈ ws then none else o) ∨ i ∈ ws := fun ws => by
        by_cases q : i ∈ ws
        · exact .inr q
        · refine .inl ?_
          rw [if_neg q]
          induction ws with
          | nil => rfl
          | cons w ws ih =>
            simp only [List.mem_cons, not_or] at q
            unfold wipe
            rw [ih q.2, List.set_comm _ _ (fun e => q.1 e)]
      rcases this vs with q | q
      · rw [q, if_neg e, List.set_set]
      · exact absurd q e
theorem wipe_comm (σ : L2.St) (v : Nat) : ∀ vs : List Nat, wipe (σ.set v none) vs = (wipe σ vs).set v none
  | [] => rfl
  | w :: vs => by
    unfold wipe
    rw [wipe_comm σ v vs]
    by_cases e : v = w
    · subst e; rfl
    · rw [List.set_comm _ _ e]
theorem wipe_wipe (σ : L2.St) : ∀ vs : List Nat, wipe (wipe σ vs) vs = wipe σ vs
  | [] => rfl
  | v :: vs => by
    show wipe ((wipe σ vs).set v none) (v :: vs) = (wipe σ vs).set v none
    rw [wipe_comm]
    show ((wipe (wipe σ vs) vs).set v none).set v none = _
    rw [wipe_wipe σ vs, List.set_set]

def rdGt (K : PySem.W.Frag) (fa : FA) (tg : Tg) : TG := fun x σ H Q => ∃ env env' v F ρ n, Same F H ∧ EnvRep K fa F ρ n env σ ∧ RepV K fa F ρ n x v ∧ setTg tg v env = some env' ∧
  ∀ σ', EnvRep K fa F ρ n env' σ' → (∀ vs : List Nat, (∀ i ∈ tg.slots, i ∈ vs) → wipe σ' vs = wipe σ vs) → Q σ' H
def rdGts (K : PySem.W.Frag) (fa : FA) (ts : Tgs) : TGs := fun xs σ H Q => ∃ env env' ds F ρ n, Same F H ∧ EnvRep K fa F ρ n env σ ∧ Reps K F xs ds ∧ setTgs ts ds env = some env' ∧
  ∀ σ', EnvRep K fa F ρ n env' σ' → (∀ vs : List Nat, (∀ i ∈ ts.slots, i ∈ vs) → wipe σ' vs = wipe σ vs) → Q σ' H
theorem PG.imp {X : Cx} {e : Expr} {t t' : TG} (h : PG X e t) (k : ∀ x σ H Q, t' x σ H Q → t x σ H Q) : PG X e t' := ⟨fun pins s σ H v u Q I r q => h.run pins s σ H v u Q I r (k v σ H Q q)⟩
theorem PGs.imp {X : Cx} {e : List Expr} {t t' : TGs} (h : PGs X e t) (k : ∀ x σ H Q, t' x σ H Q → t x σ H Q) : PGs X e t' := ⟨fun pins s σ H v u Q I r q => h.run pins s σ H v u Q I r (k v σ H Q q)⟩
def isNameTup : Expr → Bool
  | .Name _ _ => true
  | .Tuple _ _ _ => true
  | _ => false
theorem assignEach_cons {e : Expr} (h : noStar e = true) (es : List Expr) (env : PySem.Env) : assignEach (e :: es) env = (false, assign e env) :: assignEach es env := by
  cases e <;> first | rfl | (simp [noStar] at h)
theorem assignEach_length : ∀ (es : List Expr) (env : PySem.Env), es.all noStar = true → (assignEach es env).length = es.length ∧ (assignEach es env).findIdx? (·.1) = none
  | [], _, _ => ⟨rfl, rfl⟩
  | e :: es, env, h => by
    rw [List.all_cons, Bool.and_eq_true] at h
    obtain ⟨h1, h2⟩ := assignEach_length es env h.2
    rw [assignEach_cons h.1]
    refine ⟨by simp [h1], ?_⟩
    rw [List.findIdx?_cons, h2]; rfl
section
variable {fa : FA} {X : Cx} {pos : Pos}
theorem sg_name {i : Nat} {x : Str} (hN : X.N.Nodup) (hi : X.N[i]? = some x) (hx : Loc X.env.scope x) (hf : X.fn x = true ∨ X.env.scope.names.lookup x = some .local) : PG X (.Name x pos) (rdGt X.K fa (.name i)) := by
  refine PG.imp (pg_name hN hi hx hf) fun x σ H Q q => ?_
  obtain ⟨env, env', v, F, ρ, n, sub, e, r, h, q⟩ := q
  cases h
  exact q _ (e.set r i) fun vs hv => wipe_set (hv i (by simp [Tg.slots]))
theorem sgs_nil : PGs X [] (rdGts X.K fa .nil) := by
  refine PGs.imp pgs_nil fun x σ H Q q => ?_
  obtain ⟨env, env', ds, F, ρ, n, sub, e, r, h, q⟩ := q
  cases ds with
  | cons _ _ => simp [setTgs] at h
  | nil =>
    cases r
    simp [setTgs] at h
    subst h
    exact ⟨rfl, q σ e fun _ _ => rfl⟩
theorem sgs_cons {e : Expr} {es : List Expr} {t : Tg} {ts : Tgs} (h1 : PG X e (rdGt X.K fa t)) (h2 : PGs X es (rdGts X.K fa ts)) (hs : noStar e = true) : PGs X (e :: es) (rdGts X.K fa (.cons t ts)) := by
  refine PGs.imp (pgs_cons h1 h2 (by rw [assignEach_cons hs]; rfl)) fun xs σ H Q q => ?_
  obtain ⟨env, env', ds, F, ρ, n, sub, e, r, h, q⟩ := q
  cases ds with
  | nil => simp [setTgs] at h
  | cons d ds =>
    cases r with
    | cons r1 r2 =>
      simp only [setTgs] at h
      cases q1 : setTg t (.d d) env with
      | none => rw [q1] at h; cases h
      | some env1 =>
        rw [q1] at h
        refine ⟨_, _, rfl, env, env1, .d d, F, ρ, n, sub, e, r1, q1, fun σ1 e1 w1 => ?_⟩
        refine ⟨env1, env', ds, F, ρ, n, sub, e1, r2, h, fun σ2 e2 w2 => q σ2 e2 fun vs hv => ?_⟩
        rw [w2 vs fun i hi => hv i (by simp [Tgs.slots, hi]), w1 vs fun i hi => hv i (by simp [Tgs.slots, hi])]
theorem sg_tup {es : List Expr} {k : Nat} {ts : Tgs} (hc : X.calm = true) (h : PGs X es (rdGts X.K fa ts)) (hs : es.all noStar = true) (hl : es.length = ts.length) : PG X (.Tuple es k pos) (rdGt X.K fa (.tup ts)) := by
  obtain ⟨a1, a2⟩ := assignEach_length es X.env hs
  refine PG.imp (pg_tup (n := es.length) hc h a1 a2) fun x σ H Q q => ?_
  obtain ⟨env, env', v, F, ρ, n, sub, e, r, h, q⟩ := q
  cases v with
  | d d =>
    cases d with
    | tuple ds =>
      cases (show Rep X.K F x (.tuple ds) from r) with
      | tup hq rs =>
        refine ⟨_, _, rfl, SqT.of (sub _ _ hq), ?_, env, env', ds, F, ρ, n, sub, e, rs, h, q⟩
        rw [hl, rs.length]
        have : ∀ (ts : Tgs) (ds : List D) (env : MS.Env) (env' : MS.Env), setTgs ts ds env = some env' → ds.length = ts.length := by
          intro ts
          induction ts using Tgs.rec (motive_1 := fun _ => True) with
          | name _ => trivial
          | tup _ _ => trivial
          | nil =>
            intro ds env env' h
            cases ds with
            | nil => rfl
            | cons _ _ => simp [setTgs] at h
          | cons t ts _ ih =>
            intro ds env env' h
            cases ds with
            | nil => simp [setTgs] at h
            | cons d ds =>
              simp only [setTgs] at h
              cases q1 : setTg t (.d d) env with
              | none => rw [q1] at h; cases h
              | some env1 =>
                rw [q1] at h
                simp [Tgs.length, ih ds env1 env' h]
        exact this ts ds env env' h
    | _ => simp [setTg] at h
  | _ => simp [setTg] at h
end

/-! ### comprehensions -/
structure CompInv (K : PySem.W.Frag) (fa : FA) (Dd : Addr) (F1 H1 : Hp) (ρ1 : Nat → Addr) (L : Sto) (F H : Hp) (ρ : Nat → Addr) (S : Sto) (acc : List D) : Prop where
  sim : Sim K fa F H ρ S
  ext : Ext F1 H1 ρ1 L F H ρ S
  fr : F Dd = none
  st : ∀ n u, stGet S n = some u → ρ n ≠ Dd
  ob : ∃ xs, H Dd = some (.lst xs) ∧ Reps K F xs acc
section
variable {K : PySem.W.Frag} {fa : FA} {Dd : Addr} {F1 H1 F H F' H' : Hp} {ρ1 ρ ρ' : Nat → Addr} {L S S' : Sto} {acc : List D}
theorem CompInv.start (s : Sim K fa F1 H1 ρ1 L) (hD : H1 Dd = none) : CompInv K fa Dd F1 H1 ρ1 L F1 (upd H1 Dd (.lst [])) ρ1 L [] := by
  have sH : Same H1 (upd H1 Dd (.lst [])) := fun a u h => by rw [upd_ne (ne_of_none h hD)]; exact h
  have np : ∀ n u, stGet L n = some u → ρ1 n ≠ Dd := fun n u h => by
    obtain ⟨x, hx, _⟩ := s.obj n u h
    exact ne_of_none hx hD
  refine ⟨⟨s.sub.trans sH, s.off, fun n o h => ?_, s.inj⟩, ⟨Same.refl _, fun _ _ => rfl, Nat.le_refl _, fun a o h _ => sH a o h, fun a o h => ⟨o, sH a o h⟩, fun n u h => .inl ⟨stGet_lt h, u, h⟩, fun a o h => .inl (by rw [h]; intro z; cases z)⟩, s.sub.free hD, np, [], upd_same, .nil⟩
  obtain ⟨x, hx, r⟩ := s.obj n o h
  exact ⟨x, sH _ _ hx, r⟩
theorem CompInv.step (c : CompInv K fa Dd F1 H1 ρ1 L F H ρ S acc) (s : Sim K fa F' H' ρ' S') (x : Ext F H ρ S F' H' ρ' S') : CompInv K fa Dd F1 H1 ρ1 L F' H' ρ' S' acc := by
  obtain ⟨xs, h1, h2⟩ := c.ob
  refine ⟨s, c.ext.trans x, ?_, fun n u h e => ?_, xs, x.frame _ _ h1 (fun n u h e => c.st n u h e.symm), h2.mono x.fz⟩
  · cases q : F' Dd with
    | none => rfl
    | some o =>
      rcases x.fnew _ _ q with z | z | ⟨n, u, z1, z2⟩ | ⟨ys, z⟩
      · exact absurd c.fr z
      · rw [z] at h1; cases h1
      · exact absurd z2.symm (c.st n u z1)
      · rw [z] at h1; cases h1
  · rcases x.new n u h with ⟨z1, u', z2⟩ | ⟨z1, z2⟩
    · rw [x.rho n z1] at e; exact c.st n u' z2 e
    · rw [e, h1] at z2; cases z2
theorem CompInv.put (c : CompInv K fa Dd F1 H1 ρ1 L F H ρ S acc) (hD : H1 Dd = none) {xs : List V} {x : V} {d : D} (h : H Dd = some (.lst xs)) (rs : Reps K F xs acc) (r : Rep K F x d) : CompInv K fa Dd F1 H1 ρ1 L F (upd H Dd (.lst (xs ++ [x]))) ρ S (acc ++ [d]) := by
  have nD : ∀ a o, F a = some o → a ≠ Dd := fun a o q => ne_of_none q c.fr
  refine ⟨⟨fun a o q => ?_, c.sim.off, fun n o q => ?_, c.sim.inj⟩, ⟨c.ext.fz, c.ext.rho, c.ext.len, fun a o q hn => ?_, fun a o q => ?_, c.ext.new, c.ext.fnew⟩, c.fr, c.st, xs ++ [x], upd_same, rs.append (.cons r .nil)⟩
  · rw [upd_ne (nD a o q)]; exact c.sim.sub a o q
  · obtain ⟨y, hy, ry⟩ := c.sim.obj n o q
    exact ⟨y, by rw [upd_ne (c.st n o q)]; exact hy, ry⟩
  · rw [upd_ne (ne_of_none q hD)]; exact c.ext.frame a o q hn
  · rw [upd_ne (ne_of_none q hD)]; exact c.ext.there a o q
/-- the new list joins the frozen part -/
theorem CompInv.done (c : CompInv K fa Dd F1 H1 ρ1 L F H ρ S acc) (hD : H1 Dd = none) : ∃ F', Sim K fa F' H ρ S ∧ Ext F1 H1 ρ1 L F' H ρ S ∧ Rep K F' (.ref Dd) (.list acc) := by
  obtain ⟨xs, h1, h2⟩ := c.ob
  have sF : Same F (upd F Dd (.lst xs)) := fun a u q => by rw [upd_ne (ne_of_none q c.fr)]; exact q
  refine ⟨upd F Dd (.lst xs), ⟨fun a o q => ?_, fun n o q => ?_, fun n o q => ?_, c.sim.inj⟩, ⟨c.ext.fz.trans sF, c.ext.rho, c.ext.len, c.ext.frame, c.ext.there, c.ext.new, fun a o q => ?_⟩, .lst upd_same (h2.mono sF)⟩
  · by_cases e : a = Dd
    · subst e; rw [upd_same] at q; cases q; exact h1
    · rw [upd_ne e] at q; exact c.sim.sub a o q
  · rw [upd_ne (c.st n o q)]; exact c.sim.off n o q
  · obtain ⟨y, hy, ry⟩ := c.sim.obj n o q
    exact ⟨y, hy, ry.mono sF (fun _ _ => rfl) (Nat.le_refl _)⟩
  · by_cases e : a = Dd
    · rw [e]; exact .inr (.inl hD)
    · rw [upd_ne e] at q; exact c.ext.fnew a o q
end
def mturn (own : List Nat) (tg : Tg) (mc : M Bool) (me : M Val) (env : MS.Env) (x : Val) (S : Sto) : R (Option D) :=
  match setTg tg x (wipeE env own) with
  | some e2 => ((mc e2 S).bind fun k S1 => if k then (me e2 S1).bind fun y S2 => .ofO ((match y with | .d y => some (some y) | _ => Option.none)) S2 else .ok Option.none S1).noexc
  | Option.none => .stuck
def mcompN (nw : Bool) (own : List Nat) (tg : Tg) (mi : M (List Val × List Nat)) (mc : M Bool) (me : M Val) : M Val := fun env S =>
  (mi env S).bind fun p S1 => (compL (mturn own tg mc me env) p.1 (lockS S1 p.2)).bind fun ys S2 => cond nw (newV (.d (.list ys)) (unlockS S1 S2 p.2)) (.ok (.d (.list ys)) (unlockS S1 S2 p.2))
def mcomp (own : List Nat) (tg : Tg) (mi : M (List Val × List Nat)) (mc : M Bool) (me : M Val) : M Val := fun env S =>
  (mi env S).bind fun p S1 => (compL (mturn own tg mc me env) p.1 (lockS S1 p.2)).bind fun ys S2 => .ok (.d (.list ys)) (unlockS S1 S2 p.2)
/-- an object that nobody tracks joins the store -/
theorem Sim.adopt {K : PySem.W.Frag} {fa : FA} {F0 H0 F H : Hp} {ρ0 ρ : Nat → Addr} {S0 S : Sto} {p : Addr} {h : HO} {o : Ob} (s : Sim K fa F H ρ S) (x : Ext F0 H0 ρ0 S0 F H ρ S) (hp : H0 p = none) (ho : H p = some h) (hf : F p = none) (hn : ∀ n u, stGet S n = some u → ρ n ≠ p) (r : RepO K fa F ρ S.length h o) :
    ∃ ρ', ρ' S.length = p ∧ Sim K fa F H ρ' (S ++ [some o]) ∧ Ext F0 H0 ρ0 S0 F H ρ' (S ++ [some o]) := by
  refine ⟨fun n => if n = S.length then p else ρ n, by simp, ?_⟩
  have hr : ∀ n, n < S.length → (if n = S.length then p else ρ n) = ρ n := fun n hn => if_neg (Nat.ne_of_lt hn)
  have gl : ∀ n u, stGet (S ++ [some o]) n = some u → (n < S.length ∧ stGet S n = some u) ∨ (n = S.length ∧ u = o) := fun n u hu => by
    unfold stGet at hu ⊢
    by_cases hn : n < S.length
    · rw [List.getElem?_append_left hn] at hu; exact .inl ⟨hn, hu⟩
    · rw [List.getElem?_append_right (Nat.not_lt.mp hn)] at hu
      by_cases h0 : n - S.length = 0
      · rw [h0] at hu; simp at hu; exact .inr ⟨by omega, hu.symm⟩
      · rw [List.getElem?_eq_none (by simp; omega)] at hu; cases hu
  have le : S.length ≤ (S ++ [some o]).length := by simp
  refine ⟨⟨s.sub, fun n u hu => ?_, fun n u hu => ?_, fun n m u w hu hw he => ?_⟩, ⟨x.fz, fun n hn => (hr n (Nat.lt_of_lt_of_le hn x.len)).trans (x.rho n hn), Nat.le_trans x.len le, x.frame, x.there, fun n u hu => ?_, x.fnew⟩⟩
  · rcases gl n u hu with ⟨hn, q⟩ | ⟨rfl, rfl⟩
    · rw [hr n hn]; exact s.off n u q
    · rw [if_pos rfl]; exact hf
  · rcases gl n u hu with ⟨hn, q⟩ | ⟨rfl, rfl⟩
    · obtain ⟨y, hy, ry⟩ := s.obj n u q
      exact ⟨y, by rw [hr n hn]; exact hy, ry.mono (Same.refl _) hr le⟩
    · exact ⟨h, by rw [if_pos rfl]; exact ho, r.mono (Same.refl _) hr le⟩
  · rcases gl n u hu with ⟨h1, q⟩ | ⟨rfl, rfl⟩ <;> rcases gl m w hw with ⟨h2, q'⟩ | ⟨rfl, rfl⟩
    · rw [hr n h1, hr m h2] at he; exact s.inj n m u w q q' he
    · rw [hr n h1, if_pos rfl] at he; exact absurd he (hn n u q)
    · rw [hr m h2, if_pos rfl] at he; exact absurd he.symm (hn m w q')
    · rfl
  · rcases gl n u hu with ⟨h1, q⟩ | ⟨rfl, rfl⟩
    · rcases x.new n u q with z | ⟨z1, z2⟩
      · exact .inl z
      · exact .inr ⟨z1, by rw [hr n h1]; exact z2⟩
    · exact .inr ⟨x.len, by rw [if_pos rfl]; exact hp⟩
structure SimTs (fa : FA) (X : Cx) (pes : List Expr) (m : M Bool) : Prop where
  run : ∀ W, Takes X W → PTs X pes (rdT X.K fa W m)
theorem noexc_ok {α : Type} {r : R α} {Q : R α → Prop} (h : Q r.noexc) (hs : ¬ Q .stuck) (he : ∀ e S, r = .exc e S → r.noexc = .stuck) : Q r := by
  cases r with
  | stuck => exact h
  | ok a S => exact h
  | exc e S => exact absurd h hs
section
variable {fa : FA} {X : Cx} {pos : Pos}
theorem repsize {K : PySem.W.Frag} {F : Hp} {xs : List V} {ds : List D} (r : Reps K F xs ds) {n : Nat} (h : ds.length < n) : xs.length < n := by rw [r.length]; exact h
theorem compL_len {f : Val → Sto → R (Option D)} : ∀ {xs : List Val} {S : Sto} {ys : List D} {S' : Sto}, compL f xs S = .ok ys S' → ys.length ≤ xs.length
  | [], S, ys, S', h => by cases h; simp
  | x :: xs, S, ys, S', h => by
    unfold compL at h
    cases q : f x S with
    | stuck => rw [q] at h; cases h
    | exc _ _ => rw [q] at h; cases h
    | ok o S1 =>
      rw [q, R.bind_ok] at h
      cases q2 : compL f xs S1 with
      | stuck => rw [q2] at h; cases h
      | exc _ _ => rw [q2] at h; cases h
      | ok r S2 =>
        rw [q2, R.bind_ok] at h
        have := compL_len q2
        cases o with
        | none => cases h; simp; omega
        | some y => cases h; simp; omega
/-- one turn -/
theorem turn_rd {own : List Nat} {tg : Tg} {mc : M Bool} {me : M Val} {K : PySem.W.Frag} {F H : Hp} {ρ : Nat → Addr} {S : Sto} {env : MS.Env} {σ : L2.St} {x : V} {v : Val} {Dd : Addr} {F1 H1 : Hp} {ρ1 : Nat → Addr} {L : Sto} {acc : List D} {Nx : Hp → Prop} {o : Option D} {S2 : Sto}
    (c : CompInv K fa Dd F1 H1 ρ1 L F H ρ S acc) (hD : H1 Dd = none) (hz : acc.length < sizeLine) (e : EnvRep K fa F ρ S.length env σ) (rx : RepV K fa F ρ S.length x v) (hsl : ∀ i ∈ tg.slots, i ∈ own)
    (h : mturn own tg mc me env v S = .ok o S2) (hN : ∀ F' H' ρ', CompInv K fa Dd F1 H1 ρ1 L F' H' ρ' S2 (match o with | some y => acc ++ [y] | none => acc) → Nx H') :
    rdGt K fa tg x (wipe σ own) H fun σ2 H2 => wipe σ2 own = wipe σ own ∧ rdT K fa (fun _ _ _ _ => False) mc σ2 H2 fun b H3 =>
      if b = true then rdE K fa (fun _ _ _ _ => False) me σ2 H3 fun y H4 => ∃ ac, H4 Dd = some (.lst ac) ∧ ac.length < sizeLine ∧ Nx (upd H4 Dd (.lst (ac ++ [y]))) else Nx H3 := by
  unfold mturn at h
  cases q : setTg tg v (wipeE env own) with
  | none => rw [q] at h; cases h
  | some e2 =>
    rw [q] at h
    dsimp only at h
    refine ⟨wipeE env own, e2, v, F, ρ, S.length, c.sim.sub, e.wipe own, rx, q, fun σ2 es2 w2 => ⟨(w2 own hsl).trans (wipe_wipe σ own), ?_⟩⟩
    refine ⟨e2, S, F, ρ, c.sim, es2, ?_⟩
    cases q1 : mc e2 S with
    | stuck => rw [q1] at h; cases h
    | exc _ _ => rw [q1] at h; cases h
    | ok k S1 =>
      rw [q1, R.bind_ok] at h
      intro b F' H' ρ' s' x' rb
      cases (show b = k from rb)
      have c' := c.step s' x'
      cases k with
      | false =>
        simp only [Bool.false_eq_true, if_false] at h ⊢
        cases h
        exact hN F' H' ρ' c'
      | true =>
        simp only [if_true] at h ⊢
        refine ⟨e2, S1, F', ρ', s', es2.mono x'.fz x'.rho x'.len, ?_⟩
        cases q2 : me e2 S1 with
        | stuck => rw [q2] at h; cases h
        | exc _ _ => rw [q2] at h; cases h
        | ok y S3 =>
          rw [q2, R.bind_ok] at h
          intro z F3 H3 ρ3 s3 x3 rz
          have c3 := c'.step s3 x3
          cases y with
          | d y =>
            cases h
            obtain ⟨xs, h1, h2⟩ := c3.ob
            exact ⟨xs, h1, repsize h2 hz, hN F3 _ ρ3 (c3.put hD h1 h2 rz)⟩
          | _ => cases h
theorem rd_compN (nw : Bool) {tgE : Expr} {own : List Nat} {tg : Tg} {mi : M (List Val × List Nat)} {mc : M Bool} {me : M Val} {W : WX} {K : PySem.W.Frag} {σ : L2.St} {H : Hp} {Q : VK} (hsl : ∀ i ∈ tg.slots, i ∈ own)
    (q : rdE K fa W (mcompN nw own tg mi mc me) σ H Q) : tLc (rdI K fa W mi) (rdGt K fa tg) (rdT K fa (fun _ _ _ _ => False) mc) (rdE K fa (fun _ _ _ _ => False) me) own σ H Q := by
  obtain ⟨env, S, F, ρ, s, e, p⟩ := q
  refine ⟨env, S, F, ρ, s, e, ?_⟩
  unfold mcompN at p
  cases q0 : mi env S with
  | stuck => rw [q0] at p; exact p
  | exc e S' => rw [q0] at p; exact p
  | ok it S1 =>
    rw [q0, R.bind_ok] at p
    obtain ⟨items, l⟩ := it
    intro J F1 H1 ρ1 s1 x1 ⟨hz1, A0, hA, hoff, go, stop, yld⟩ Dd hD
    dsimp only at p hz1 hoff
    have p1 := Post.shift x1 p
    cases q1 : compL (mturn own tg mc me env) items (lockS S1 l) with
    | stuck => rw [q1] at p1; exact p1.elim
    | exc ee S' =>
      exfalso
      have : ∀ (xs : List Val) (S : Sto), compL (mturn own tg mc me env) xs S ≠ .exc ee S' := by
        intro xs
        induction xs with
        | nil => intro S h; cases h
        | cons x xs ih =>
          intro S h
          unfold compL at h
          cases q : mturn own tg mc me env x S with
          | stuck => rw [q] at h; cases h
          | exc e2 S2 =>
            unfold mturn at q
            split at q
            · rename_i e3 _
              generalize ((mc e3 S).bind fun k S1 => if k then (me e3 S1).bind fun y S2 => R.ofO ((match y with | .d y => some (some y) | _ => Option.none)) S2 else .ok Option.none S1) = r at q
              cases r <;> cases q
            · cases q
          | ok o S1 =>
            rw [q, R.bind_ok] at h
            cases q2 : compL (mturn own tg mc me env) xs S1 with
            | stuck => rw [q2] at h; cases h
            | exc e2 S2 => rw [q2] at h; simp at h; exact ih S1 (by rw [q2, h.1, h.2])
            | ok r S2 => rw [q2] at h; cases h
      exact this _ _ q1
    | ok ys S2 =>
      rw [q1, R.bind_ok] at p1
      have e1 := e.mono x1.fz x1.rho x1.len
      refine ⟨fun i m H => i + m = items.length ∧ ∃ F' ρ' S' acc r, CompInv K fa Dd F1 H1 ρ1 (lockS S1 l) F' H ρ' S' acc ∧ compL (mturn own tg mc me env) (items.drop i) S' = .ok r S2 ∧ acc ++ r = ys ∧ acc.length ≤ i,
        ⟨items.length, by simp, F1, ρ1, lockS S1 l, [], ys, CompInv.start (s1.lock l) hD, by simpa using q1, by simp, by simp⟩, fun i m Hi ⟨him, F', ρ', S', acc, r, c, hr, ha, hal⟩ => ?_⟩
      have sA : Same A0 Hi := fun a o h => c.ext.frame a o (hA a o h) fun n u hu e => by
        have := hoff n u hu
        rw [← e, h] at this; cases this
      by_cases hi : i < items.length
      · refine .inr ⟨go i Hi sA hi, fun H' => ∃ F' ρ' S' acc r, CompInv K fa Dd F1 H1 ρ1 (lockS S1 l) F' H' ρ' S' acc ∧ compL (mturn own tg mc me env) (items.drop (i + 1)) S' = .ok r S2 ∧ acc ++ r = ys ∧ acc.length ≤ i + 1,
          fun H' ⟨F2, ρ2, S3, ac, r2, z1, z2, z3, z4⟩ => ⟨m - 1, by omega, by omega, F2, ρ2, S3, ac, r2, z1, z2, z3, z4⟩, fun x H' hy => ?_⟩
        rw [List.drop_eq_getElem_cons hi] at hr
        unfold compL at hr
        cases q2 : mturn own tg mc me env items[i] S' with
        | stuck => rw [q2] at hr; cases hr
        | exc _ _ => rw [q2] at hr; cases hr
        | ok o S3 =>
          rw [q2, R.bind_ok] at hr
          cases q3 : compL (mturn own tg mc me env) (items.drop (i + 1)) S3 with
          | stuck => rw [q3] at hr; cases hr
          | exc _ _ => rw [q3] at hr; cases hr
          | ok r3 S4 =>
            rw [q3, R.bind_ok] at hr
            obtain ⟨F2, g2, rx⟩ := yld i Hi x H' items[i] F' sA c.ext.fz c.sim.sub (List.getElem?_eq_getElem hi) hy
            obtain ⟨s2, x2⟩ := c.sim.of_grow g2
            have c2 := c.step s2 x2
            have hlen : S1.length ≤ S'.length := by have := c2.ext.len; rw [lockS_length] at this; exact this
            have hrho : ∀ n, n < S1.length → ρ' n = ρ1 n := fun n hn => c2.ext.rho n (by rw [lockS_length]; exact hn)
            have rx2 := rx.mono (Same.refl _) hrho hlen
            have e2 := e1.mono c2.ext.fz hrho hlen
            refine turn_rd c2 hD (Nat.lt_of_lt_of_le (Nat.lt_of_le_of_lt hal hi) hz1) e2 rx2 hsl q2 fun F3 H3 ρ3 c3 => ?_
            cases hr
            refine ⟨F3, ρ3, S3, _, r3, c3, q3, ?_, ?_⟩
            · cases o with
              | none => exact ha
              | some y => simpa using ha
            · cases o with
              | none => exact Nat.le_succ_of_le hal
              | some y => simpa using hal
      · have hi' : i = items.length := by omega
        subst hi'
        refine .inl ⟨stop Hi sA, ?_⟩
        rw [List.drop_length] at hr
        cases hr
        rw [List.append_nil] at ha
        subst ha
        cases nw with
        | false =>
          obtain ⟨F2, s2, x2, r2⟩ := c.done hD
          obtain ⟨s3, x3⟩ := s1.unlock l s2 x2
          exact p1 _ F2 Hi ρ' s3 x3 r2
        | true =>
          obtain ⟨s3, x3⟩ := s1.unlock l c.sim c.ext
          obtain ⟨zs, z1, z2⟩ := c.ob
          obtain ⟨ρ4, e4, s4, x4⟩ := s3.adopt x3 hD z1 c.fr (fun n u hu e => by
            rcases x3.new n u hu with ⟨y1, y, y2⟩ | ⟨y1, y2⟩
            · rw [x3.rho n y1] at e
              obtain ⟨h, hh, _⟩ := s1.obj n y y2
              rw [e, hD] at hh; cases hh
            · rcases stGet_unlock l S1 S2 n u hu with ⟨w1, _⟩ | ⟨w1, w2⟩
              · exact c.st n u w1 e
              · exact absurd (stGet_lt w2) (Nat.not_lt.mpr y1)) (.lst (RepVs.of_pure z2))
          exact p1 _ F' Hi ρ4 s4 x4 ⟨by simp, by rw [e4]⟩
theorem rd_comp {tgE : Expr} {own : List Nat} {tg : Tg} {mi : M (List Val × List Nat)} {mc : M Bool} {me : M Val} {W : WX} {K : PySem.W.Frag} {σ : L2.St} {H : Hp} {Q : VK} (hsl : ∀ i ∈ tg.slots, i ∈ own)
    (q : rdE K fa W (mcomp own tg mi mc me) σ H Q) : tLc (rdI K fa W mi) (rdGt K fa tg) (rdT K fa (fun _ _ _ _ => False) mc) (rdE K fa (fun _ _ _ _ => False) me) own σ H Q :=
  rd_compN false (tgE := tgE) hsl q
theorem takes_blk {X : Cx} : Takes X (fun _ _ _ _ => False) := fun u s' x => by
  obtain ⟨_, _, _, _, _, _, _, _, _, _, _, _, _, _, _, _, z⟩ := x
  exact z.elim
end
end MS

-- MsStmt
/-! Statements. -/
namespace MS
open PySem PySem.Spec PyProof.Rows L2

abbrev MS_ := MS.Env → Sto → RS
def PostS (K : PySem.W.Frag) (fa : FA) (W : WX) (F H : Hp) (ρ : Nat → Addr) (S : Sto) (r : RS) (D : Ends) : Prop :=
  match r with
  | .stuck => False
  | .nx env S' => ∀ σ' F' H' ρ', Sim K fa F' H' ρ' S' → Ext F H ρ S F' H' ρ' S' → EnvRep K fa F' ρ' S'.length env σ' → D.nx σ' H'
  | .brk env S' => ∀ σ' F' H' ρ', Sim K fa F' H' ρ' S' → Ext F H ρ S F' H' ρ' S' → EnvRep K fa F' ρ' S'.length env σ' → D.bk σ' H'
  | .cnt env S' => ∀ σ' F' H' ρ', Sim K fa F' H' ρ' S' → Ext F H ρ S F' H' ρ' S' → EnvRep K fa F' ρ' S'.length env σ' → D.ct σ' H'
  | .ret v S' => ∀ x F' H' ρ', Sim K fa F' H' ρ' S' → Ext F H ρ S F' H' ρ' S' → RepV K fa F' ρ' S'.length x v → D.rt x H'
  | .exc e env S' => ∀ c d σ' F' H' ρ', Sim K fa F' H' ρ' S' → Ext F H ρ S F' H' ρ' S' → EnvRep K fa F' ρ' S'.length env σ' → RepX fa H' c d e → W c d σ' H'
def rdS (K : PySem.W.Frag) (fa : FA) (W : WX) (m : MS_) : TS := fun D σ H => ∃ env S F ρ, Sim K fa F H ρ S ∧ EnvRep K fa F ρ S.length env σ ∧ PostS K fa W F H ρ S (m env S) D
structure SimS (fa : FA) (X : Cx) (st : Stmt) (m : MS_) : Prop where
  run : ∀ W, Takes X W → PS X st (rdS X.K fa W m)
structure SimSs (fa : FA) (X : Cx) (sts : List Stmt) (m : MS_) : Prop where
  run : ∀ W, Takes X W → PSs X sts (rdS X.K fa W m)
section
variable {K : PySem.W.Frag} {fa : FA} {W : WX} {F H F1 H1 : Hp} {ρ ρ1 : Nat → Addr} {S S1 : Sto}
theorem PostS.shift {r : RS} {D : Ends} (x : Ext F H ρ S F1 H1 ρ1 S1) (h : PostS K fa W F H ρ S r D) : PostS K fa W F1 H1 ρ1 S1 r D := by
  cases r with
  | stuck => exact h
  | nx env S' => exact fun σ' F' H' ρ' s e q => h σ' F' H' ρ' s (x.trans e) q
  | brk env S' => exact fun σ' F' H' ρ' s e q => h σ' F' H' ρ' s (x.trans e) q
  | cnt env S' => exact fun σ' F' H' ρ' s e q => h σ' F' H' ρ' s (x.trans e) q
  | ret v S' => exact fun y F' H' ρ' s e q => h y F' H' ρ' s (x.trans e) q
  | exc e env S' => exact fun c d σ' F' H' ρ' s e q => h c d σ' F' H' ρ' s (x.trans e) q
theorem rdS.bind {α β : Type} {rep : Hp → (Nat → Addr) → Nat → β → α → Prop} {σ : L2.St} {m : M α} {f : MS.Env → α → Sto → RS} {D : Ends} {Q1 : β → Hp → Prop} (h : rdS K fa W (fun env S => RS.ofR env (m env S) (f env)) D σ H)
    (k : ∀ env v S1 x F1 H1 ρ1, Sim K fa F1 H1 ρ1 S1 → EnvRep K fa F1 ρ1 S1.length env σ → rep F1 ρ1 S1.length x v → PostS K fa W F1 H1 ρ1 S1 (f env v S1) D → Q1 x H1) : rdG K fa W rep m σ H Q1 := by
  obtain ⟨env, S, F, ρ, s, e, p⟩ := h
  refine ⟨env, S, F, ρ, s, e, ?_⟩
  dsimp only at p
  cases q : m env S with
  | stuck => rw [q] at p; exact p
  | ok v S1 =>
    rw [q] at p
    exact fun x F1 H1 ρ1 s1 x1 r1 => k env v S1 x F1 H1 ρ1 s1 (e.mono x1.fz x1.rho x1.len) r1 (PostS.shift x1 p)
  | exc ee S1 =>
    rw [q] at p
    exact fun c d F1 H1 ρ1 s1 x1 r1 => p c d σ F1 H1 ρ1 s1 x1 (e.mono x1.fz x1.rho x1.len) r1
theorem PostS.bind {α β : Type} {rep : Hp → (Nat → Addr) → Nat → β → α → Prop} {σ : L2.St} {env : MS.Env} {r : R α} {f : α → Sto → RS} {D : Ends} {Q1 : β → Hp → Prop} (e : EnvRep K fa F ρ S.length env σ) (h : PostS K fa W F H ρ S (RS.ofR env r f) D)
    (k : ∀ v S1 x F1 H1 ρ1, Sim K fa F1 H1 ρ1 S1 → Ext F H ρ S F1 H1 ρ1 S1 → rep F1 ρ1 S1.length x v → PostS K fa W F1 H1 ρ1 S1 (f v S1) D → Q1 x H1) : Post K fa W rep F H ρ S σ r Q1 := by
  cases r with
  | stuck => exact h
  | ok v S1 => exact fun x F1 H1 ρ1 s1 x1 r1 => k v S1 x F1 H1 ρ1 s1 x1 r1 (PostS.shift x1 h)
  | exc ee S1 => exact fun c d F1 H1 ρ1 s1 x1 r1 => h c d σ F1 H1 ρ1 s1 x1 (e.mono x1.fz x1.rho x1.len) r1
theorem PostS.nx_ {env : MS.Env} {D : Ends} {σ : L2.St} (s : Sim K fa F H ρ S) (e : EnvRep K fa F ρ S.length env σ) (h : PostS K fa W F H ρ S (.nx env S) D) : D.nx σ H := h σ F H ρ s (Ext.refl ..) e
end
section
variable {fa : FA} {X : Cx} {pe a b c : Expr} {m ma mb mc : M Val} {pos : Pos}
theorem ss_set {i : Nat} {x : Str} {p : Pos} (hN : X.N.Nodup) (hi : X.N[i]? = some x) (hx : Loc X.env.scope x) (hf : X.fn x = true ∨ X.env.scope.names.lookup x = some .local) (ha : SimE fa X a ma) (hs : swapsWith a (some (.Name x p)) pos.line X.env = pure false) :
    SimS fa X (.Assign [.Name x p] a pos) (fun env S => .ofR env (ma env S) fun v S1 => .nx (env.set i (some v)) S1) := by
  refine ⟨fun W tk => PS.imp (ps_set hN hi hx (ha.run W tk) hs hf) fun D σ H q => ?_⟩
  exact q.bind (rep := RepV X.K fa) fun env v S1 x F1 H1 ρ1 s1 e1 r1 p1 => p1.nx_ s1 (e1.set r1 i)
theorem ss_asg {tgE : Expr} {tg : Tg} (ha : SimE fa X a ma) (hg : PG X tgE (rdGt X.K fa tg)) (hs : swapsWithSole [tgE] a pos.line X.env = pure false) (hw : swappedStores [tgE] a X.env = pure none) (hn : noStar tgE = true) :
    SimS fa X (.Assign [tgE] a pos) (fun env S => .ofR env (ma env S) fun v S1 => match setTg tg v env with | some env1 => .nx env1 S1 | none => .stuck) := by
  refine ⟨fun W tk => PS.imp (ps_asg (ha.run W tk) hg hs hw (by rw [assignEach_cons hn]; rfl)) fun D σ H q => ?_⟩
  refine q.bind (rep := RepV X.K fa) fun env v S1 x F1 H1 ρ1 s1 e1 r1 p1 => ?_
  cases q1 : setTg tg v env with
  | none => rw [q1] at p1; exact p1.elim
  | some env1 =>
    rw [q1] at p1
    exact ⟨env, env1, v, F1, ρ1, S1.length, s1.sub, e1, r1, q1, fun σ' e' _ => p1.nx_ s1 e'⟩
theorem ss_expr (ha : SimE fa X a ma) (hs : noComp a = true) : SimS fa X (.Expr a pos) (fun env S => .ofR env (ma env S) fun _ S1 => .nx env S1) := by
  refine ⟨fun W tk => PS.imp (ps_expr (ha.run W tk) (noComp_ok hs _ _ _)) fun D σ H q => ?_⟩
  exact q.bind (rep := RepV X.K fa) fun env v S1 x F1 H1 ρ1 s1 e1 r1 p1 => p1.nx_ s1 e1
theorem ss_ret (ha : SimE fa X a ma) : SimS fa X (.Return (some a) pos) (fun env S => .ofR env (ma env S) fun v S1 => .ret v S1) := by
  refine ⟨fun W tk => PS.imp (ps_ret (ha.run W tk)) fun D σ H q => ?_⟩
  exact q.bind (rep := RepV X.K fa) fun env v S1 x F1 H1 ρ1 s1 e1 r1 p1 => p1 x F1 H1 ρ1 s1 (Ext.refl ..) r1
theorem ss_pass : SimS fa X (.Pass pos) (fun env S => .nx env S) :=
  ⟨fun W tk => PS.imp ps_pass fun D σ H q => by
    obtain ⟨env, S, F, ρ, s, e, p⟩ := q
    exact p σ F H ρ s (Ext.refl ..) e⟩
theorem ss_brk : SimS fa X (.Break pos) (fun env S => .brk env S) :=
  ⟨fun W tk => PS.imp ps_break fun D σ H q => by
    obtain ⟨env, S, F, ρ, s, e, p⟩ := q
    exact p σ F H ρ s (Ext.refl ..) e⟩
theorem ss_cnt : SimS fa X (.Continue pos) (fun env S => .cnt env S) :=
  ⟨fun W tk => PS.imp ps_continue fun D σ H q => by
    obtain ⟨env, S, F, ρ, s, e, p⟩ := q
    exact p σ F H ρ s (Ext.refl ..) e⟩
theorem ss_never {st : Stmt} : SimS fa X st (fun _ _ => .stuck) :=
  ⟨fun W tk => PS.imp ps_never fun D σ H q => by
    obtain ⟨env, S, F, ρ, s, e, p⟩ := q
    exact p⟩
theorem sss_nil : SimSs fa X [] (fun env S => .nx env S) :=
  ⟨fun W tk => PSs.imp pss_nil fun D σ H q => by
    obtain ⟨env, S, F, ρ, s, e, p⟩ := q
    exact p σ F H ρ s (Ext.refl ..) e⟩
theorem sss_cons {st : Stmt} {sts : List Stmt} {m1 m2 : MS_} (h1 : SimS fa X st m1) (h2 : SimSs fa X sts m2) : SimSs fa X (st :: sts) (fun env S => (m1 env S).seq m2) := by
  refine ⟨fun W tk => PSs.imp (pss_cons (h1.run W tk) (h2.run W tk)) fun D σ H q => ?_⟩
  obtain ⟨env, S, F, ρ, s, e, p⟩ := q
  refine ⟨env, S, F, ρ, s, e, ?_⟩
  dsimp only at p
  cases q : m1 env S with
  | stuck => rw [q] at p; exact p
  | nx env1 S1 =>
    rw [q] at p
    exact fun σ' F' H' ρ' s' x' e' => ⟨env1, S1, F', ρ', s', e', PostS.shift x' p⟩
  | ret v S1 => rw [q] at p; exact p
  | brk env1 S1 => rw [q] at p; exact p
  | cnt env1 S1 => rw [q] at p; exact p
  | exc ee env1 S1 => rw [q] at p; exact p
theorem ss_if {t f : List Stmt} {mt : M Bool} {m1 m2 : MS_} (hc : SimT fa X c mt) (h1 : SimSs fa X t m1) (h2 : SimSs fa X f m2) : SimS fa X (.If c t f pos) (fun env S => .ofR env (mt env S) fun b S1 => if b then m1 env S1 else m2 env S1) := by
  refine ⟨fun W tk => PS.imp (ps_if (hc.run W tk) (h1.run W tk) (h2.run W tk)) fun D σ H q => ?_⟩
  refine q.bind (rep := repB) fun env v S1 x F1 H1 ρ1 s1 e1 r1 p1 => ?_
  cases (show x = v from r1)
  cases v with
  | true => exact ⟨env, S1, F1, ρ1, s1, e1, p1⟩
  | false => exact ⟨env, S1, F1, ρ1, s1, e1, p1⟩
/-! ### loops -/
theorem ss_for {tgE iter : Expr} {tg : Tg} {mi : M (List Val × List Nat)} {body : List Stmt} {mb : MS_} (hp : PassesOwn (model X.prog X.w) X.A X.env X.xe) (hc : X.calm = true) (hi : SimI fa X tgE iter mi) (hg : PG X tgE (rdGt X.K fa tg)) (hb : SimSs fa X body mb) (hs : noSet iter = true) :
    SimS fa X (.For tgE iter body [] pos) (fun env S => .ofR env (mi env S) fun p S1 =>
      (forL (fun x env S => match setTg tg x env with | some env1 => mb env1 S | none => .stuck) p.1 env (lockS S1 p.2)).relock S1 p.2) := by
  refine ⟨fun W tk => PS.imp (ps_for hp hc (hi.run W tk) hg (hb.run W tk) (noSet_iter hs X.env)) fun D σ H q => ?_⟩
  obtain ⟨env, S, F, ρ, s, e, p⟩ := q
  refine ⟨env, S, F, ρ, s, e, ?_⟩
  dsimp only at p
  cases q0 : mi env S with
  | stuck => rw [q0] at p; exact p
  | exc ee S' =>
    rw [q0] at p
    exact fun c d F1 H1 ρ1 s1 x1 r1 => p c d σ F1 H1 ρ1 s1 x1 (e.mono x1.fz x1.rho x1.len) r1
  | ok it S1 =>
    rw [q0] at p
    obtain ⟨items, l⟩ := it
    intro J F1 H1 ρ1 s1 x1 ⟨_, A0, hA, hoff, go, stop, yld⟩
    dsimp only [RS.ofR_ok] at p hoff
    have p1 := PostS.shift x1 p
    refine ⟨fun i m σ H => i + m = items.length ∧ ∃ env F' ρ' S', Sim X.K fa F' H ρ' S' ∧ EnvRep X.K fa F' ρ' S'.length env σ ∧ Ext F1 H1 ρ1 (lockS S1 l) F' H ρ' S' ∧
        PostS X.K fa W F1 H1 ρ1 S1 ((forL (fun x env S => match setTg tg x env with | some env1 => mb env1 S | none => .stuck) (items.drop i) env S').relock S1 l) D,
      ⟨items.length, by simp, env, F1, ρ1, lockS S1 l, s1.lock l, by rw [lockS_length]; exact e.mono x1.fz x1.rho x1.len, Ext.refl .., by simpa using p1⟩, fun i m σi Hi ⟨him, env', F', ρ', S', s', e', x', pi⟩ => ?_⟩
    have sA : Same A0 Hi := fun a o h => x'.frame a o (hA a o h) fun n u hu e => by
      have := hoff n u hu
      rw [← e, h] at this; cases this
    have unl : ∀ {F2 H2 : Hp} {ρ2 : Nat → Addr} {S2 : Sto}, Sim X.K fa F2 H2 ρ2 S2 → Ext F' Hi ρ' S' F2 H2 ρ2 S2 → Sim X.K fa F2 H2 ρ2 (unlockS S1 S2 l) ∧ Ext F1 H1 ρ1 S1 F2 H2 ρ2 (unlockS S1 S2 l) :=
      fun s2 x2 => s1.unlock l s2 (x'.trans x2)
    by_cases hi : i < items.length
    · refine .inr ⟨go i Hi sA hi, fun σ' H' => ∃ env F2 ρ2 S2, Sim X.K fa F2 H' ρ2 S2 ∧ EnvRep X.K fa F2 ρ2 S2.length env σ' ∧ Ext F1 H1 ρ1 (lockS S1 l) F2 H' ρ2 S2 ∧
          PostS X.K fa W F1 H1 ρ1 S1 ((forL (fun x env S => match setTg tg x env with | some env1 => mb env1 S | none => .stuck) (items.drop (i + 1)) env S2).relock S1 l) D,
        fun σ' H' z => ⟨m - 1, by omega, by omega, z⟩, fun x H' hy => ?_⟩
      rw [List.drop_eq_getElem_cons hi] at pi
      unfold forL at pi
      obtain ⟨F2, g2, rx⟩ := yld i Hi x H' items[i] F' sA x'.fz s'.sub (List.getElem?_eq_getElem hi) hy
      obtain ⟨s2, x2⟩ := s'.of_grow g2
      have hlen : S1.length ≤ S'.length := by have := x'.len; rw [lockS_length] at this; exact this
      have hrho : ∀ n, n < S1.length → ρ' n = ρ1 n := fun n hn => x'.rho n (by rw [lockS_length]; exact hn)
      have rx2 := rx.mono (Same.refl _) hrho hlen
      have e2 := e'.mono x2.fz x2.rho x2.len
      cases q1 : setTg tg items[i] env' with
      | none => rw [q1] at pi; exact pi.elim
      | some env1 =>
        rw [q1] at pi
        refine ⟨env', env1, items[i], F2, ρ', S'.length, s2.sub, e2, rx2, q1, fun σ3 e3 _ => ?_⟩
        refine ⟨env1, S', F2, ρ', s2, e3, ?_⟩
        dsimp only at pi
        cases q2 : mb env1 S' with
        | stuck => rw [q2] at pi; exact pi
        | nx env2 S2 =>
          rw [q2] at pi
          exact fun σ' F3 H3 ρ3 s3 x3 e4 => ⟨env2, F3, ρ3, S2, s3, e4, (x'.trans x2).trans x3, pi⟩
        | cnt env2 S2 =>
          rw [q2] at pi
          exact fun σ' F3 H3 ρ3 s3 x3 e4 => ⟨env2, F3, ρ3, S2, s3, e4, (x'.trans x2).trans x3, pi⟩
        | brk env2 S2 =>
          rw [q2] at pi
          intro σ' F3 H3 ρ3 s3 x3 e4
          obtain ⟨s5, x5⟩ := unl s3 (x2.trans x3)
          exact pi σ' F3 H3 ρ3 s5 x5 (by rw [unlockS_length]; exact e4)
        | ret v S2 =>
          rw [q2] at pi
          intro y F3 H3 ρ3 s3 x3 r4
          obtain ⟨s5, x5⟩ := unl s3 (x2.trans x3)
          exact pi y F3 H3 ρ3 s5 x5 (by rw [unlockS_length]; exact r4)
        | exc ee env2 S2 =>
          rw [q2] at pi
          intro c d σ' F3 H3 ρ3 s3 x3 e4 r4
          obtain ⟨s5, x5⟩ := unl s3 (x2.trans x3)
          exact pi c d σ' F3 H3 ρ3 s5 x5 (by rw [unlockS_length]; exact e4) r4
    · have hi' : i = items.length := by omega
      subst hi'
      refine .inl ⟨stop Hi sA, ?_⟩
      rw [List.drop_length] at pi
      obtain ⟨s5, x5⟩ := unl s' (Ext.refl ..)
      exact pi σi F' Hi ρ' s5 x5 (by rw [unlockS_length]; exact e')
theorem ss_while {body : List Stmt} {mt : M Bool} {mb : MS_} (n : Nat) (hp : PassesOwn (model X.prog X.w) X.A X.env X.xe) (hc : SimT fa X c mt) (hb : SimSs fa X body mb) :
    SimS fa X (.While c body [] pos) (fun env S => whileL mt mb n env S) := by
  refine ⟨fun W tk => PS.imp (ps_while hp (hc.run W tk) (hb.run W tk)) fun D σ H q => ?_⟩
  refine ⟨fun m σ H => rdS X.K fa W (fun env S => whileL mt mb m env S) D σ H, ⟨n, q⟩, fun m σ H q => ?_⟩
  cases m with
  | zero =>
    obtain ⟨env, S, F, ρ, s, e, p⟩ := q
    exact p.elim
  | succ m =>
    have q' : rdS X.K fa W (fun env S => RS.ofR env (mt env S) fun b S1 => if b then (match mb env S1 with
      | .nx env2 S2 => whileL mt mb m env2 S2
      | .cnt env2 S2 => whileL mt mb m env2 S2
      | .brk env2 S2 => .nx env2 S2
      | r => r) else .nx env S1) D σ H := q
    refine q'.bind (rep := repB) fun env v S1 x F1 H1 ρ1 s1 e1 r1 p1 => ?_
    cases (show x = v from r1)
    cases v with
    | false => exact p1.nx_ s1 e1
    | true =>
      rw [if_pos rfl]
      refine ⟨fun σ' H' => rdS X.K fa W (fun env S => whileL mt mb m env S) D σ' H', fun σ' H' z => ⟨m, Nat.lt_succ_self _, z⟩, env, S1, F1, ρ1, s1, e1, ?_⟩
      simp only [if_true] at p1
      cases q2 : mb env S1 with
      | stuck => rw [q2] at p1; exact p1
      | nx env2 S2 =>
        rw [q2] at p1
        exact fun σ' F3 H3 ρ3 s3 x3 e4 => ⟨env2, S2, F3, ρ3, s3, e4, PostS.shift x3 p1⟩
      | cnt env2 S2 =>
        rw [q2] at p1
        exact fun σ' F3 H3 ρ3 s3 x3 e4 => ⟨env2, S2, F3, ρ3, s3, e4, PostS.shift x3 p1⟩
      | brk env2 S2 => rw [q2] at p1; exact p1
      | ret v S2 => rw [q2] at p1; exact p1
      | exc ee env2 S2 => rw [q2] at p1; exact p1
/-! ### several names at once -/
def setMany (env : MS.Env) (ts : List Nat) (vs : List Val) : MS.Env := (ts.zip vs).foldl (fun env p => env.set p.1 (some p.2)) env
theorem EnvRep.many {K : PySem.W.Frag} {F : Hp} {ρ : Nat → Addr} {n : Nat} : ∀ {ts : List Nat} {xs : List V} {vs : List Val} {env : MS.Env} {σ : L2.St}, EnvRep K fa F ρ n env σ → RepVs K fa F ρ n xs vs → EnvRep K fa F ρ n (setMany env ts vs) ((ts.zip xs).foldl (fun σ p => σ.set p.1 (some p.2)) σ)
  | [], _, _, _, _, e, _ => e
  | _ :: _, _, _, _, _, e, .nil => e
  | t :: ts, _, _, _, _, e, .cons r rs => EnvRep.many (ts := ts) (e.set r t) rs
def mpar (ts : List Nat) (ms : M (List Val)) : MS_ := fun env S => .ofR env (ms env S) fun vs S1 => if vs.length = ts.length then .nx (setMany env ts vs) S1 else .stuck
theorem ss_par2 {i j : Nat} {x y : Str} {ms : M (List Val)} {px py pt : Pos} {kt k2 pt2} (hc : X.calm = true) (hN : X.N.Nodup) (hi : X.N[i]? = some x) (hj : X.N[j]? = some y) (hij : i ≠ j)
    (hx : X.env.scope.names.lookup x = some .local) (hy : X.env.scope.names.lookup y = some .local) (ha : SimA fa X [a, b] ms)
    (hw : swappedStores [.Tuple [.Name x px, .Name y py] kt pt] (.Tuple [a, b] k2 pt2) X.env = pure (some [x, y])) :
    SimS fa X (.Assign [.Tuple [.Name x px, .Name y py] kt pt] (.Tuple [a, b] k2 pt2) pos) (mpar [i, j] ms) := by
  refine ⟨fun W tk => PS.imp (ps_par hc hN hi hj hij hx hy (ha.run W tk) hw rfl) fun D σ H q => ?_⟩
  refine q.bind (rep := RepVs X.K fa) fun env vs S1 xs F1 H1 ρ1 s1 e1 r1 p1 => ?_
  split at p1
  · rename_i hl
    have hl2 := r1.length.trans hl
    match xs, vs, r1 with
    | [u, v], _, r1 => exact ⟨u, v, rfl, p1.nx_ s1 (EnvRep.many (ts := [i, j]) e1 r1)⟩
  · exact p1.elim
theorem ss_par3 {i j l : Nat} {x y z : Str} {ms : M (List Val)} {px py pz pt : Pos} {kt k2 pt2} (hc : X.calm = true) (hN : X.N.Nodup) (hi : X.N[i]? = some x) (hj : X.N[j]? = some y) (hl : X.N[l]? = some z) (hij : i ≠ j) (hil : i ≠ l) (hjl : j ≠ l)
    (hx : X.env.scope.names.lookup x = some .local) (hy : X.env.scope.names.lookup y = some .local) (hz : X.env.scope.names.lookup z = some .local) (ha : SimA fa X [a, b, c] ms)
    (hw : swappedStores [.Tuple [.Name x px, .Name y py, .Name z pz] kt pt] (.Tuple [a, b, c] k2 pt2) X.env = pure (some [x, y, z])) :
    SimS fa X (.Assign [.Tuple [.Name x px, .Name y py, .Name z pz] kt pt] (.Tuple [a, b, c] k2 pt2) pos) (mpar [i, j, l] ms) := by
  refine ⟨fun W tk => PS.imp (ps_par3 hc hN hi hj hl hij hil hjl hx hy hz (ha.run W tk) hw rfl) fun D σ H q => ?_⟩
  refine q.bind (rep := RepVs X.K fa) fun env vs S1 xs F1 H1 ρ1 s1 e1 r1 p1 => ?_
  split at p1
  · rename_i hl
    have hl2 := r1.length.trans hl
    match xs, vs, r1 with
    | [u, v, w], _, r1 => exact ⟨u, v, w, rfl, p1.nx_ s1 (EnvRep.many (ts := [i, j, l]) e1 r1)⟩
  · exact p1.elim
/-- by a tuple: the names take its items -/
def rdNs (K : PySem.W.Frag) (fa : FA) (ts : List Nat) : TGs := fun xs σ H Q => ∃ env vs F ρ n, EnvRep K fa F ρ n env σ ∧ RepVs K fa F ρ n xs vs ∧ vs.length = ts.length ∧ ∀ σ', EnvRep K fa F ρ n (setMany env ts vs) σ' → Q σ' H
theorem sn_nil : PGs X [] (rdNs X.K fa []) := by
  refine PGs.imp pgs_nil fun xs σ H Q q => ?_
  obtain ⟨env, vs, F, ρ, n, e, r, hl, q⟩ := q
  cases r with
  | nil => exact ⟨rfl, q σ e⟩
  | cons _ _ => simp at hl
theorem sn_cons {i : Nat} {x : Str} {p : Pos} {es : List Expr} {ts : List Nat} (hN : X.N.Nodup) (hi : X.N[i]? = some x) (hx : Loc X.env.scope x) (hf : X.fn x = true ∨ X.env.scope.names.lookup x = some .local) (h : PGs X es (rdNs X.K fa ts)) : PGs X (.Name x p :: es) (rdNs X.K fa (i :: ts)) := by
  refine PGs.imp (pgs_cons (pg_name hN hi hx hf) h (by rw [assignEach_cons rfl]; rfl)) fun xs σ H Q q => ?_
  obtain ⟨env, vs, F, ρ, n, e, r, hl, q⟩ := q
  cases r with
  | nil => simp at hl
  | cons r rs => exact ⟨_, _, rfl, _, _, F, ρ, n, e.set r i, rs, by simpa using hl, q⟩
/-- an object that nobody tracks -/
theorem Sim.junk {K : PySem.W.Frag} {F H : Hp} {ρ : Nat → Addr} {S : Sto} {p : Addr} {o : HO} (s : Sim K fa F H ρ S) (hp : H p = none) : Sim K fa F (upd H p o) ρ S ∧ Ext F H ρ S F (upd H p o) ρ S := by
  have sH : Same H (upd H p o) := fun a u h => by rw [upd_ne (ne_of_none h hp)]; exact h
  refine ⟨⟨s.sub.trans sH, s.off, fun n o h => ?_, s.inj⟩, ⟨Same.refl _, fun _ _ => rfl, Nat.le_refl _, fun a o h _ => sH a o h, fun a o h => ⟨o, sH a o h⟩, fun n u h => .inl ⟨stGet_lt h, u, h⟩, fun a o h => .inl (by rw [h]; intro z; cases z)⟩⟩
  obtain ⟨x, hx, r⟩ := s.obj n o h
  exact ⟨x, sH _ _ hx, r⟩
theorem ss_parT {ts : List Nat} {tes es : List Expr} {ms : M (List Val)} {pt pt2 : Pos} {kt k2} (hc : X.calm = true) (hg : PGs X tes (rdNs X.K fa ts)) (hst : tes.all noStar = true) (hlt : tes.length = ts.length) (ha : SimA fa X es ms) (hz : ts.length ≤ 1000)
    (hw : swappedStores [.Tuple tes kt pt] (.Tuple es k2 pt2) X.env = pure none) : SimS fa X (.Assign [.Tuple tes kt pt] (.Tuple es k2 pt2) pos) (mpar ts ms) := by
  obtain ⟨a1, a2⟩ := assignEach_length tes X.env hst
  refine ⟨fun W tk => PS.imp (ps_asg (pe_tup (ha.run W tk)) (pg_tup (n := tes.length) hc hg a1 a2) rfl hw rfl) fun D σ H q => ?_⟩
  refine q.bind (rep := RepVs X.K fa) fun env vs S1 xs F1 H1 ρ1 s1 e1 r1 p1 => ?_
  split at p1
  · rename_i hl
    refine ⟨by rw [r1.length, hl, sizeLine_eq]; omega, fun p hp => ?_⟩
    obtain ⟨s2, x2⟩ := s1.junk (o := .tup xs) hp
    refine ⟨p, xs, rfl, SqT.of upd_same, by rw [r1.length, hl, hlt], env, vs, F1, ρ1, S1.length, e1, r1, hl, fun σ' e' => ?_⟩
    exact p1 σ' F1 _ ρ1 s2 x2 e'
  · exact p1.elim
/-! ### lists changed -/
/-- the list at n is changed -/
theorem Sim.put {K : PySem.W.Frag} {F H : Hp} {ρ : Nat → Addr} {S : Sto} {n : Nat} {o o' : Ob} {h' : HO} (s : Sim K fa F H ρ S) (h : stGet S n = some o) (r : RepO K fa F ρ S.length h' o') :
    Sim K fa F (upd H (ρ n) h') ρ (S.set n (some o')) ∧ Ext F H ρ S F (upd H (ρ n) h') ρ (S.set n (some o')) := by
  have hn := stGet_lt h
  have fF := s.off n _ h
  have gl : ∀ m u, stGet (S.set n (some o')) m = some u → (m = n ∧ u = o') ∨ (m ≠ n ∧ stGet S m = some u) := fun m u q => by
    rw [stGet_set] at q
    split at q
    · rename_i z; cases q; exact .inl ⟨z.1.symm, rfl⟩
    · rename_i z
      exact .inr ⟨fun e => z ⟨e.symm, hn⟩, q⟩
  have had : ∀ m u, stGet (S.set n (some o')) m = some u → ∃ u', stGet S m = some u' := fun m u q => by
    rcases gl m u q with ⟨rfl, _⟩ | ⟨_, q⟩
    · exact ⟨_, h⟩
    · exact ⟨_, q⟩
  refine ⟨⟨fun a u q => ?_, fun m u q => ?_, fun m u q => ?_, fun m m' u u' q q' e => ?_⟩, ⟨Same.refl _, fun _ _ => rfl, by simp, fun a u q hx => ?_, fun a u q => ?_, fun m u q => ?_, fun a u q => .inl (by rw [q]; intro z; cases z)⟩⟩
  · rw [upd_ne (ne_of_none q fF)]; exact s.sub a u q
  · obtain ⟨u', q'⟩ := had m u q
    exact s.off m u' q'
  · rw [List.length_set]
    rcases gl m u q with ⟨rfl, rfl⟩ | ⟨z, q⟩
    · exact ⟨h', upd_same, r⟩
    · obtain ⟨y, hy, ry⟩ := s.obj m u q
      exact ⟨y, by rw [upd_ne (fun e => z (s.inj m n _ _ q h e))]; exact hy, ry⟩
  · obtain ⟨v, q1⟩ := had m u q
    obtain ⟨v', q1'⟩ := had m' u' q'
    exact s.inj m m' v v' q1 q1' e
  · rw [upd_ne (hx n _ h)]; exact q
  · by_cases e : a = ρ n
    · subst e; exact ⟨_, upd_same⟩
    · exact ⟨u, by rw [upd_ne e]; exact q⟩
  · obtain ⟨u', q'⟩ := had m u q
    exact .inl ⟨stGet_lt q', u', q'⟩
def notCall0 : Expr → Bool
  | .Call _ [] [] _ => false
  | _ => true
theorem attrBase {o : Expr} (h : notCall0 o = true) (name : Str) (env : PySem.Env) (w : Sem Value) : attributeBase o name env w = w := by
  unfold attributeBase
  split
  · simp [notCall0] at h
  · rfl
theorem few1 {a : Expr} (h : noStar a = true) (env : PySem.Env) (pos : Pos) : ((backTo pos (starEach [a] env)).all (fun x => !x.1) && (backToKw pos (keywordEach [] env)).all (fun x => x.1.isSome) && decide (([a] : List Expr).length + ([] : List Keyword).length + (if ([] : List Keyword).isEmpty then 0 else 1) < 30)) = true := by
  rw [starEach_cons h]; rfl
theorem ofR_args {env : MS.Env} {S : Sto} {f : Val → Sto → RS} : (RS.ofR env (mb env S) f) = RS.ofR env ((mcons mb mnil) env S) fun vs S2 => match vs with | [v] => f v S2 | _ => .stuck := by
  unfold mcons mnil
  cases mb env S <;> rfl
theorem ss_bm {id : String} {nm : Str} {apos cpos : Pos} {r : V → List V → Hp → VK → Prop} {f : MS.Env → Val → Val → Sto → RS} (hm : MtR X id r) (slot : Slot "list" nm id) (hty : typeOf (.builtin id) = pure (.type "method_descriptor"))
    (ha : SimE fa X a ma) (hb : SimE fa X b mb) (h0 : notCall0 a = true) (hn : noStar b = true) (hl : (apos.endLine == cpos.line) = true)
    (hr : ∀ env x v S y z F H ρ W D σ, Sim X.K fa F H ρ S → EnvRep X.K fa F ρ S.length env σ → RepV X.K fa F ρ S.length y x → RepV X.K fa F ρ S.length z v → PostS X.K fa W F H ρ S (f env x v S) D → r y [z] H fun _ H' => D.nx σ H') :
    SimS fa X (.Expr (.Call (.Attribute a nm apos) [b] [] cpos) pos) (fun env S => .ofR env (ma env S) fun x S1 => if isLst S1 x then .ofR env (mb env S1) fun v S2 => f env x v S2 else .stuck) := by
  refine ⟨fun W tk => PS.imp (ps_expr (pe_bm PySem.F.plainAttrs_list slot hty hm (ha.run W tk) ((sa_cons hb sa_nil hn).run W tk) (attrBase h0 _ _ _) (few1 hn _ _) hl (starEach_cons hn _ _) rfl) rfl) fun D σ H q => ?_⟩
  refine q.bind (rep := RepV X.K fa) fun env x S1 xv F1 H1 ρ1 s1 e1 r1 p1 => ?_
  cases hx : isLst S1 x with
  | false => rw [hx] at p1; exact p1.elim
  | true =>
    rw [hx] at p1
    simp only [if_true] at p1
    refine ⟨?_, ?_⟩
    · cases x with
      | ref n =>
        obtain ⟨hn1, rfl⟩ := r1
        simp only [isLst] at hx
        cases q1 : stGet S1 n with
        | none => rw [q1] at hx; cases hx
        | some o =>
          rw [q1] at hx
          cases o with
          | dct _ => cases hx
          | lst vs =>
            obtain ⟨ho, h2, r2⟩ := s1.obj n _ q1
            cases r2 with
            | lst r2 => exact .inl ⟨rfl, _, SqL.of h2⟩
      | _ => cases hx
    · rw [ofR_args] at p1
      refine ⟨env, S1, F1, ρ1, s1, e1, PostS.bind e1 p1 fun vs S2 ys F2 H2 ρ2 s2 x2 r2 p2 => ?_⟩
      match vs, ys, r2 with
      | [v], _, .cons rz .nil => exact hr env x v S2 xv _ F2 H2 ρ2 W D σ s2 (e1.mono x2.fz x2.rho x2.len) (r1.mono x2.fz x2.rho x2.len) rz p2
      | [], _, _ => exact p2.elim
      | _ :: _ :: _, _, _ => exact p2.elim
theorem ss_app {apos cpos : Pos} (ha : SimE fa X a ma) (hb : SimE fa X b mb) (h0 : notCall0 a = true) (hn : noStar b = true) (hl : (apos.endLine == cpos.line) = true) : SimS fa X (.Expr (.Call (.Attribute a "append" apos) [b] [] cpos) pos)
    (fun env S => .ofR env (ma env S) fun x S1 => if isLst S1 x then .ofR env (mb env S1) fun v S2 => appV env x v S2 else .stuck) := by
  refine ss_bm mt_append PySem.F.slot_list_append PySem.F.type_list_append ha hb h0 hn hl fun env x v S y z F H ρ W D σ s e ry rz p => ?_
  unfold appV at p
  cases x with
  | ref n =>
    obtain ⟨hn1, rfl⟩ := ry
    dsimp only at p
    cases q1 : stGet S n with
    | none => rw [q1] at p; exact p.elim
    | some o =>
      rw [q1] at p
      cases o with
      | dct _ => exact p.elim
      | lst vs =>
        obtain ⟨ho, h2, r2⟩ := s.obj n _ q1
        cases r2 with
        | lst r2 =>
          dsimp only at p
          split at p
          · rename_i hz
            obtain ⟨s3, x3⟩ := s.put q1 (RepO.lst (r2.append (.cons rz .nil)))
            exact ⟨_, _, _, rfl, rfl, h2, by rw [r2.length, ← sLine_eq]; exact hz, p σ F _ ρ s3 x3 (by rw [List.length_set]; exact e)⟩
          · exact p.elim
  | _ => exact p.elim
theorem ss_ext {apos cpos : Pos} (ha : SimE fa X a ma) (hb : SimE fa X b mb) (h0 : notCall0 a = true) (hn : noStar b = true) (hl : (apos.endLine == cpos.line) = true) : SimS fa X (.Expr (.Call (.Attribute a "extend" apos) [b] [] cpos) pos)
    (fun env S => .ofR env (ma env S) fun x S1 => if isLst S1 x then .ofR env (mb env S1) fun v S2 => extV env x v S2 else .stuck) := by
  refine ss_bm mt_extend PySem.F.slot_list_extend PySem.F.type_list_extend ha hb h0 hn hl fun env x v S y z F H ρ W D σ s e ry rz p => ?_
  unfold extV at p
  cases x with
  | ref n =>
    obtain ⟨hn1, rfl⟩ := ry
    cases q0 : view S v with
    | none => rw [q0] at p; exact p.elim
    | some d =>
      rw [q0] at p
      cases d with
      | list ys =>
        dsimp only at p
        cases q1 : stGet S n with
        | none => rw [q1] at p; exact p.elim
        | some o =>
          rw [q1] at p
          cases o with
          | dct _ => exact p.elim
          | lst vs =>
            obtain ⟨ho, h2, r2⟩ := s.obj n _ q1
            cases r2 with
            | lst r2 =>
              dsimp only at p
              obtain ⟨l, zs, rfl, h3, r3⟩ := (s.view rz q0).list s.sub
              split at p
              · rename_i hz
                obtain ⟨s3, x3⟩ := s.put q1 (RepO.lst (r2.append (RepVs.of_pure r3)))
                exact ⟨_, _, _, _, rfl, rfl, h2, h3, by rw [r2.length, r3.length, ← sLine_eq]; exact hz, p σ F _ ρ s3 x3 (by rw [List.length_set]; exact e)⟩
              · exact p.elim
      | _ => exact p.elim
  | _ => exact p.elim
theorem ss_setix {c : Expr} {mc : M Val} {p2 : Pos} (hc : SimE fa X c mc) (ha : SimE fa X a ma) (hb : SimE fa X b mb) (hcc : noComp c = true) (hsl : noSlice b = true) (h1 : swappedStores [.Subscript a b p2] c X.env = pure none) : SimS fa X (.Assign [.Subscript a b p2] c pos)
    (fun env S => .ofR env (mc env S) fun v S1 => .ofR env (ma env S1) fun x S2 => .ofR env (mb env S2) fun y S3 => sixV env x y v S3) := by
  refine ⟨fun W tk => PS.imp (ps_asg (hc.run W tk) (pg_sub (ha.run W tk) (hb.run W tk) set_list (by clear hb; intro v; cases b <;> first | rfl | (simp [noSlice] at hsl))) (noComp_ok hcc (some (.Subscript a b p2)) pos.line X.env) h1 rfl) fun D σ H q => ?_⟩
  refine q.bind (rep := RepV X.K fa) fun env v S1 zv F1 H1 ρ1 s1 e1 r1 p1 => ?_
  refine ⟨env, S1, F1, ρ1, s1, e1, PostS.bind e1 p1 fun x S2 xv F2 H2 ρ2 s2 x2 r2 p2 => ?_⟩
  have e2 := e1.mono x2.fz x2.rho x2.len
  refine ⟨env, S2, F2, ρ2, s2, e2, PostS.bind e2 p2 fun y S3 yv F3 H3 ρ3 s3 x3 r3 p3 => ?_⟩
  have e3 := e2.mono x3.fz x3.rho x3.len
  have x23 := x2.trans x3
  have rz := r1.mono x23.fz x23.rho x23.len
  have rx := r2.mono x3.fz x3.rho x3.len
  unfold sixV at p3
  cases x with
  | ref n =>
    obtain ⟨hn1, rfl⟩ := rx
    cases y with
    | d y =>
      cases y with
      | int j =>
        cases (show Rep X.K F3 yv (.int j) from r3)
        dsimp only at p3
        cases q1 : stGet S3 n with
        | none => rw [q1] at p3; exact p3.elim
        | some o =>
          rw [q1] at p3
          cases o with
          | dct _ => exact p3.elim
          | lst vs =>
            obtain ⟨ho, h2, r2⟩ := s3.obj n _ q1
            cases r2 with
            | lst r2 =>
              dsimp only at p3
              cases q2 : ixOf vs.length j with
              | none => rw [q2] at p3; exact p3.elim
              | some k =>
                rw [q2] at p3
                obtain ⟨s4, x4⟩ := s3.put q1 (RepO.lst (r2.set rz k))
                exact ⟨_, _, _, _, rfl, rfl, h2, by rw [r2.length]; exact q2, p3 σ F3 _ ρ3 s4 x4 (by rw [List.length_set]; exact e3)⟩
      | _ => exact p3.elim
    | _ => exact p3.elim
  | _ => exact p3.elim
/-- one item of a list set, and then the rest -/
theorem six_step {F H : Hp} {ρ : Nat → Addr} {S : Sto} {env : MS.Env} {x y v : Val} {xv yv zv : V} {W : WX} {D : Ends} {Q : Hp → Prop} {f : MS.Env → Sto → RS} (s : Sim X.K fa F H ρ S) (rx : RepV X.K fa F ρ S.length xv x) (ry : RepV X.K fa F ρ S.length yv y) (rv : RepV X.K fa F ρ S.length zv v)
    (p : PostS X.K fa W F H ρ S ((sixV env x y v S).seq f) D) (k : ∀ H' S', Sim X.K fa F H' ρ S' → S'.length = S.length → PostS X.K fa W F H' ρ S' (f env S') D → Q H') : rSetL xv yv zv H Q := by
  unfold sixV at p
  cases x with
  | ref n =>
    obtain ⟨hn1, rfl⟩ := rx
    cases y with
    | d y =>
      cases y with
      | int j =>
        cases (show Rep X.K F yv (.int j) from ry)
        dsimp only at p
        cases q1 : stGet S n with
        | none => rw [q1] at p; exact p.elim
        | some o =>
          rw [q1] at p
          cases o with
          | dct _ => exact p.elim
          | lst vs =>
            obtain ⟨ho, h2, r2⟩ := s.obj n _ q1
            cases r2 with
            | lst r2 =>
              dsimp only at p
              cases q2 : ixOf vs.length j with
              | none => rw [q2] at p; exact p.elim
              | some i =>
                rw [q2] at p
                obtain ⟨s4, x4⟩ := s.put q1 (RepO.lst (r2.set rv i))
                exact ⟨_, _, _, _, rfl, rfl, h2, by rw [r2.length]; exact q2, k _ _ s4 (by rw [List.length_set]) (PostS.shift x4 p)⟩
      | _ => exact p.elim
    | _ => exact p.elim
  | _ => exact p.elim
def mst2 (ms : M (List Val)) (ma mi mb mj : M Val) : MS_ := fun env S => .ofR env (ms env S) fun vs S1 => match vs with
    | [v, w] => .ofR env (ma env S1) fun x S2 => .ofR env (mi env S2) fun y S3 => (sixV env x y v S3).seq fun env S4 =>
        .ofR env (mb env S4) fun x S5 => .ofR env (mj env S5) fun y S6 => sixV env x y w S6
    | _ => .stuck
theorem RS.seq_self (r : RS) : r.seq (fun env S => .nx env S) = r := by cases r <;> rfl
theorem ss_st2 {i j : Expr} {mi mj : M Val} {es : List Expr} {ms : M (List Val)} {p1 p2 pt pt2 : Pos} {kt k2 : Nat} (hc : X.calm = true) (hs : SimA fa X es ms) (ha : SimE fa X a ma) (hi : SimE fa X i mi) (hb : SimE fa X b mb) (hj : SimE fa X j mj)
    (h1 : noSlice i = true) (h2 : noSlice j = true) (hw : swappedStores [.Tuple [.Subscript a i p1, .Subscript b j p2] kt pt] (.Tuple es k2 pt2) X.env = pure none) :
    SimS fa X (.Assign [.Tuple [.Subscript a i p1, .Subscript b j p2] kt pt] (.Tuple es k2 pt2) pos) (mst2 ms ma mi mb mj) := by
  refine ⟨fun W tk => PS.imp (ps_asg (pe_tup (hs.run W tk)) (pg_tup (n := 2) hc (pgs_cons (pg_sub (ha.run W tk) (hi.run W tk) set_list (by clear hi; intro v; cases i <;> first | rfl | (simp [noSlice] at h1))) (pgs_cons (pg_sub (hb.run W tk) (hj.run W tk) set_list (by clear hj; intro v; cases j <;> first | rfl | (simp [noSlice] at h2))) pgs_nil))) rfl hw rfl) fun D σ H q => ?_⟩
  refine q.bind (rep := RepVs X.K fa) fun env vs S1 xs F1 H1 ρ1 s1 e1 r1 p1 => ?_
  match xs, vs, r1 with
  | [v, w], [v', w'], .cons rv (.cons rw .nil) =>
    dsimp only at p1
    refine ⟨by rw [sizeLine_eq]; simp, fun p hp => ?_⟩
    obtain ⟨s2, x2⟩ := s1.junk (o := .tup [v, w]) hp
    have p2' := PostS.shift x2 p1
    refine ⟨p, [v, w], rfl, SqT.of upd_same, rfl, v, [w], rfl, ?_⟩
    refine ⟨env, S1, F1, ρ1, s2, e1, PostS.bind e1 p2' fun x S2 xv F2 H2 ρ2 s3 x3 r3 p3 => ?_⟩
    have e2 := e1.mono x3.fz x3.rho x3.len
    refine ⟨env, S2, F2, ρ2, s3, e2, PostS.bind e2 p3 fun y S3 yv F3 H3 ρ3 s4 x4 r4 p4 => ?_⟩
    have e3 := e2.mono x4.fz x4.rho x4.len
    have x34 := x3.trans x4
    refine six_step s4 (r3.mono x4.fz x4.rho x4.len) r4 (RepV.mono x34.fz x34.rho x34.len rv) p4 fun H4 S4 s5 l5 p5 => ?_
    have e4 : EnvRep X.K fa F3 ρ3 S4.length env σ := by rw [l5]; exact e3
    refine ⟨w, [], rfl, ?_⟩
    refine ⟨env, S4, F3, ρ3, s5, e4, PostS.bind e4 p5 fun x S5 xv F5 H5 ρ5 s6 x6 r6 p6 => ?_⟩
    have e5 := e4.mono x6.fz x6.rho x6.len
    refine ⟨env, S5, F5, ρ5, s6, e5, PostS.bind e5 p6 fun y S6 yv F6 H6 ρ6 s7 x7 r7 p7 => ?_⟩
    have e6 := e5.mono x7.fz x7.rho x7.len
    have x67 := x6.trans x7
    have rw' := RepV.mono x34.fz x34.rho x34.len rw
    rw [← l5] at rw'
    rw [← RS.seq_self (sixV env _ _ _ S6)] at p7
    refine six_step s7 (r6.mono x7.fz x7.rho x7.len) r7 (RepV.mono x67.fz x67.rho x67.len rw') p7 fun H7 S7 s8 l8 p8 => ?_
    exact ⟨rfl, p8.nx_ s8 (by rw [l8]; exact e6)⟩
  | [], [], .nil => exact p1.elim
  | [_], [_], .cons _ .nil => exact p1.elim
  | _ :: _ :: _ :: _, _ :: _ :: _ :: _, .cons _ (.cons _ (.cons _ _)) => exact p1.elim
end
end MS

-- MsMore
/-! isinstance, sets, dicts as data, comprehensions in place. -/
namespace MS
open PySem PySem.Spec PyProof.Rows L2

section
variable {fa : FA} {X : Cx} {pe a b c : Expr} {m ma mb mc : M Val} {pos : Pos}
/-! ### isinstance -/
def tyStr : Ty → Str
  | .int => "int" | .bool => "bool" | .tuple => "tuple" | .list => "list" | .str => "str" | .dict => "dict"
theorem boot_ty (t : Ty) : bootBuiltins (tyStr t) = some (.type (tyN t)) := by cases t <;> decide +kernel
theorem cls_ty (t : Ty) : ClsV (tyV1 t) (.type (tyN t)) := by cases t <;> exact ClsV.ty _
theorem pe_tyN {t : Ty} {p : Pos} (hg : Gl X (tyStr t)) (hm : X.mg (tyStr t) = none) : PE X (.Name (tyStr t) p) (tC (tyV1 t)) := by
  cases t <;> exact pe_bltn hg hm (boot_ty _) rfl (by decide) (by decide)
theorem boot_isinstance : bootBuiltins "isinstance" = some (.builtin "isinstance") := by decide +kernel
def misi (ma : M Val) (tys : List Ty) : M Val := fun env S => (ma env S).bind fun x S1 => .ofO ((isTyV S1 tys x).map fun b => .d (.bool b)) S1
theorem sm_isi1 {t : Ty} {p p2 : Pos} (hg : Gl X "isinstance") (hm : X.mg "isinstance" = none) (hgt : Gl X (tyStr t)) (hmt : X.mg (tyStr t) = none) (ha : SimE fa X a ma) (hn : noStar a = true) :
    SimE fa X (.Call (.Name "isinstance" p) [a, .Name (tyStr t) p2] [] pos) (misi ma [t]) := by
  refine ⟨fun W tk => PE.imp (pe_callB call_isi hg hm boot_isinstance (pa_cons (ha.run W tk) (pa_cons (pe_tyN hgt hmt) pa_nil rfl) (starEach_cons hn _ _)) (by decide) (by decide) (starEach_cons hn _ _) rfl) fun σ H Q q => ?_⟩
  refine q.bind (rep := RepV X.K fa) fun env v S1 x F1 H1 ρ1 s1 e1 r1 p1 => ?_
  obtain ⟨w, ew, q2⟩ := p1.ofO
  unfold isTyV at ew
  cases q3 : view S1 v with
  | none => rw [q3] at ew; cases ew
  | some d =>
    rw [q3] at ew
    cases ew
    refine ⟨x, tyV1 t, _, _, isTy t d, rfl, cls_ty t, tyx_of s1.sub (s1.view r1 q3), kit_D X.K t d, q2 _ F1 H1 ρ1 s1 (Ext.refl ..) ?_⟩
    simp
    exact Rep.bl _
theorem kit_any (K : PySem.W.Frag) (d : D) : ∀ tys : List Ty, PySem.W.kitAny K (.type (dTy d)) (tys.map fun t => .type (tyN t)) = some (tys.any fun t => isTy t d)
  | [] => rfl
  | t :: ts => by
    refine kitAny_cons (b := isTy t d) (kit_D K t d) (fun h => ?_) (fun h => ?_)
    · rw [kit_any K d ts, List.any_cons, h]; rfl
    · rw [List.any_cons, h]; rfl
theorem pa_tys {ts : List Ty} {pes : List Expr} (h : Paired (fun t pe => ∃ p, pe = Expr.Name (tyStr t) p) ts pes) (hg : ∀ t ∈ ts, Gl X (tyStr t) ∧ X.mg (tyStr t) = none) : PA X pes (fun σ H Q => Q (ts.map tyV1) H) := by
  induction h with
  | nil => exact pa_nil
  | cons h1 h2 ih =>
    obtain ⟨p, rfl⟩ := h1
    exact pa_cons (pe_tyN (hg _ (by simp)).1 (hg _ (by simp)).2) (ih fun t ht => hg t (by simp [ht])) rfl
theorem sm_isiT {ts : List Ty} {pes : List Expr} {p p2 : Pos} {k : Nat} (hg : Gl X "isinstance") (hm : X.mg "isinstance" = none) (ht : Paired (fun t pe => ∃ p, pe = Expr.Name (tyStr t) p) ts pes) (hgt : ∀ t ∈ ts, Gl X (tyStr t) ∧ X.mg (tyStr t) = none) (hz : ts.length ≤ 1000) (ha : SimE fa X a ma) (hn : noStar a = true) :
    SimE fa X (.Call (.Name "isinstance" p) [a, .Tuple pes k p2] [] pos) (misi ma ts) := by
  refine ⟨fun W tk => PE.imp (pe_callB call_isiT hg hm boot_isinstance (pa_cons (ha.run W tk) (pa_cons (pe_tup (pa_tys ht hgt)) pa_nil rfl) (starEach_cons hn _ _)) (by decide) (by decide) (starEach_cons hn _ _) rfl) fun σ H Q q => ?_⟩
  refine q.bind (rep := RepV X.K fa) fun env v S1 x F1 H1 ρ1 s1 e1 r1 p1 => ?_
  refine ⟨by rw [List.length_map, sizeLine_eq]; omega, fun tp hp => ?_⟩
  obtain ⟨w, ew, q2⟩ := p1.ofO
  unfold isTyV at ew
  cases q3 : view S1 v with
  | none => rw [q3] at ew; cases ew
  | some d =>
    rw [q3] at ew
    cases ew
    obtain ⟨s2, x2⟩ := s1.junk (o := .tup (ts.map tyV1)) hp
    have pr : ∀ ts : List Ty, Paired ClsV (ts.map tyV1) (ts.map fun t => .type (tyN t)) := fun ts => by
      induction ts with
      | nil => exact .nil
      | cons t ts ih => exact .cons (cls_ty t) ih
    exact ⟨x, tp, ts.map tyV1, _, _, ts.any fun t => isTy t d, rfl, upd_same, pr ts, tyx_of s2.sub (s2.view r1 q3), kit_any X.K d ts, q2 _ F1 _ ρ1 s2 x2 (Rep.bl _)⟩
/-! ### len(set(..)) of ints -/
theorem firstMet_firsts (ns : List Int) : ∀ i, i ≤ ns.length → PyProof.Rows.firstMet (fun i => ns.getD i 0) i = firsts (ns.take i)
  | 0, _ => rfl
  | i + 1, hi => by
    have hlt : i < ns.length := hi
    have e1 : ns.getD i 0 = ns[i] := by rw [List.getD_eq_getElem?_getD, List.getElem?_eq_getElem hlt] <;> rfl
    have e2 : ns.take (i + 1) = ns.take i ++ [ns[i]] := by rw [List.take_add_one, List.getElem?_eq_getElem hlt] <;> rfl
    rw [PyProof.Rows.firstMet_succ, firstMet_firsts ns i (Nat.le_of_lt hlt), e2]
    unfold firsts
    rw [List.foldl_append]
    show (if (List.foldl firstStep [] (ns.take i)).any (· == ns.getD i 0) then _ else _) = firstStep (List.foldl firstStep [] (ns.take i)) ns[i]
    rw [e1]; rfl
def tLenSet (K : PySem.W.Frag) (ta : TE) : TE := fun σ H Q => ta σ H fun x H1 => ∃ (l : Addr) (ns : List Int), x = .ref l ∧ SqL K H1 l (ns.map V.int) ∧ ns.length ≤ 4000 ∧ Q (.int ((firsts ns).length : Nat)) H1
theorem firsts_le (ns : List Int) : (firsts ns).length ≤ ns.length := by
  have g : ∀ (ns acc : List Int), (ns.foldl firstStep acc).length ≤ acc.length + ns.length := by
    intro ns
    induction ns with
    | nil => intro acc; simp
    | cons x ns ih =>
      intro acc
      rw [List.foldl_cons]
      have h1 := ih (firstStep acc x)
      have h2 : (firstStep acc x).length ≤ acc.length + 1 := by
        unfold firstStep; split <;> simp
      simp only [List.length_cons]; omega
  have := g ns []
  simpa [firsts] using this
theorem pe_lenSet {p p2 q : Pos} {ta : TE} (hg : Gl X "len") (hm : X.mg "len" = none) (hg2 : Gl X "set") (hm2 : X.mg "set" = none) (ha : PE X a ta) (hc : X.calm = true) (hn : noStar a = true) :
    PE X (.Call (.Name "len" p) [.Call (.Name "set" p2) [a] [] q] [] pos) (tLenSet X.K ta) := by
  have na : starEach [a] X.env = (false, eval a X.env) :: starEach [] X.env := starEach_cons hn _ _
  refine ⟨fun pins s σ H Q I h => Call_ (ld_blt I hg hm boot_len (PyProof.Rows.callWith_builtin1 (PyProof.Rows.args_cons (Call_ (ld_blt I hg2 hm2 boot_set ?_)) rfl) rfl rfl))⟩
  refine PyProof.Rows.callWith_type1 (PyProof.Rows.args_cons (thn (ha.run pins s σ H _ I h) fun v s1 ⟨x, H1, I1, r1, q1⟩ => PyProof.Rows.args_nil ?_) na) na rfl
  obtain ⟨l, ns, rfl, hq, hl, q1⟩ := q1
  cases r1
  obtain ⟨its, r, pl, hz⟩ := I1.list hq
  have hlen : its.toArray.size = ns.length := by rw [List.size_toArray, ← r.length, List.length_map]
  refine call_set_list (I1.ok.hd hc) pl.isList (by simpa using RZ.intsAre_vals r) (by rw [hlen]; unfold scanBound; omega) fun h' tk hS hk => PyProof.Rows.args_nil ?_
  rw [hlen, firstMet_firsts ns ns.length (Nat.le_refl _), List.take_length] at hS
  obtain ⟨o, es, ep, t, ho, hex, hd, _, _, _, hf, hn⟩ := hS
  have I2 : Inv X pins σ H1 { s1 with heap := h', toks := tk } := I1.kept fun b o e => hk b o (Heap.lt_size e) e
  have := firsts_le ns
  exact call_len_set ho hex hd hf (by rw [hn]; omega) ⟨.int (firsts ns).length, H1, I2.tok _, ⟨_, by rw [hn]⟩, q1⟩
theorem sm_lenSet {p p2 q : Pos} (hg : Gl X "len") (hm : X.mg "len" = none) (hg2 : Gl X "set") (hm2 : X.mg "set" = none) (ha : SimE fa X a ma) (hc : X.calm = true) (hn : noStar a = true) :
    SimE fa X (.Call (.Name "len" p) [.Call (.Name "set" p2) [a] [] q] [] pos) (fun env S => (ma env S).bind fun x S1 => .ofO (match view S1 x with | some (.list xs) => (allI xs).bind fun ns => if ns.length ≤ 4000 then some (.d (.int (firsts ns).length)) else none | _ => none) S1) := by
  refine ⟨fun W tk => PE.imp (pe_lenSet hg hm hg2 hm2 (ha.run W tk) hc hn) fun σ H Q q => ?_⟩
  refine q.bind (rep := RepV X.K fa) fun env v S1 x F1 H1 ρ1 s1 e1 r1 p1 => ?_
  obtain ⟨w, ew, q2⟩ := p1.ofO
  cases q3 : view S1 v with
  | none => rw [q3] at ew; cases ew
  | some d =>
    rw [q3] at ew
    cases d with
    | list xs =>
      dsimp only at ew
      cases q4 : allI xs with
      | none => rw [q4] at ew; cases ew
      | some ns =>
        rw [q4] at ew
        simp only [Option.bind_some] at ew
        split at ew
        · rename_i hz
          cases ew
          have r' := s1.view r1 q3
          rw [allI_some q4] at r'
          obtain ⟨l, xs', rfl, h1, rr⟩ := r'.list s1.sub
          rw [rr.ints] at h1
          exact ⟨l, ns, rfl, SqL.of h1, hz, q2 _ F1 H1 ρ1 s1 (Ext.refl ..) (Rep.int _)⟩
        · cases ew
    | _ => cases ew
/-! ### objects that nobody tracks -/
structure Loose (F H : Hp) (ρ : Nat → Addr) (S : Sto) (p : Addr) (o : HO) : Prop where
  nt : ∀ xs, o ≠ .tup xs
  h : H p = some o
  f : F p = none
  s : ∀ n u, stGet S n = some u → ρ n ≠ p
theorem Loose.step {F H F' H' : Hp} {ρ ρ' : Nat → Addr} {S S' : Sto} {p : Addr} {o : HO} (l : Loose F H ρ S p o) (x : Ext F H ρ S F' H' ρ' S') : Loose F' H' ρ' S' p o := by
  have hh := x.frame _ _ l.h (fun n u h e => l.s n u h e.symm)
  refine ⟨l.nt, hh, ?_, fun n u h e => ?_⟩
  · cases q : F' p with
    | none => rfl
    | some o =>
      rcases x.fnew _ _ q with z | z | ⟨n, u, z1, z2⟩ | ⟨ys, z⟩
      · exact absurd l.f z
      · have := l.h; rw [z] at this; cases this
      · exact absurd z2.symm (l.s n u z1)
      · have := l.h; rw [z] at this; cases this; exact absurd rfl (l.nt ys)
  · rcases x.new n u h with ⟨z1, u', z2⟩ | ⟨z1, z2⟩
    · rw [x.rho n z1] at e; exact l.s n u' z2 e
    · have := l.h; rw [e] at z2; rw [z2] at this; cases this
theorem Loose.new {K : PySem.W.Frag} {F H : Hp} {ρ : Nat → Addr} {S : Sto} {p : Addr} {o : HO} (s : Sim K fa F H ρ S) (hp : H p = none) (nt : ∀ xs, o ≠ .tup xs) : Loose F (upd H p o) ρ S p o := by
  refine ⟨nt, upd_same, s.sub.free hp, fun n u h => ?_⟩
  obtain ⟨x, hx, _⟩ := s.obj n u h
  exact ne_of_none hx hp
/-- it joins the frozen part, as o' -/
theorem Loose.adopt {K : PySem.W.Frag} {F0 H0 F H : Hp} {ρ0 ρ : Nat → Addr} {S0 S : Sto} {p : Addr} {o o' : HO} (l : Loose F H ρ S p o) (s : Sim K fa F H ρ S) (hp : H0 p = none) (x : Ext F0 H0 ρ0 S0 F H ρ S) :
    Sim K fa (upd F p o') (upd H p o') ρ S ∧ Ext F0 H0 ρ0 S0 (upd F p o') (upd H p o') ρ S ∧ Same F (upd F p o') := by
  have sF : Same F (upd F p o') := fun a u q => by rw [upd_ne (ne_of_none q l.f)]; exact q
  refine ⟨⟨fun a u q => ?_, fun n u q => ?_, fun n u q => ?_, s.inj⟩, ⟨x.fz.trans sF, x.rho, x.len, fun a u q hn => ?_, fun a u q => ?_, x.new, fun a u q => ?_⟩, sF⟩
  · by_cases e : a = p
    · subst e; rw [upd_same] at q ⊢; exact q
    · rw [upd_ne e] at q ⊢; exact s.sub a u q
  · rw [upd_ne (l.s n u q)]; exact s.off n u q
  · obtain ⟨y, hy, ry⟩ := s.obj n u q
    exact ⟨y, by rw [upd_ne (l.s n u q)]; exact hy, ry.mono sF (fun _ _ => rfl) (Nat.le_refl _)⟩
  · rw [upd_ne (ne_of_none q hp)]; exact x.frame a u q hn
  · rw [upd_ne (ne_of_none q hp)]; exact x.there a u q
  · by_cases e : a = p
    · rw [e]; exact .inr (.inl hp)
    · rw [upd_ne e] at q; exact x.fnew a u q
/-! ### dicts as data -/
abbrev KvRep (K : PySem.W.Frag) (F : Hp) : List (Key × V) → List (D × D) → Prop := Paired fun p q => q.1 = kD p.1 ∧ Rep K F p.2 q.2
theorem Rep.of_kv {K : PySem.W.Frag} {F : Hp} {a : Addr} {kvs : List (Key × V)} {es : List (D × D)} (h : F a = some (.dK kvs)) (r : KvRep K F kvs es) : Rep K F (.ref a) (.dict es) := by
  have g : ∀ {kvs : List (Key × V)} {es : List (D × D)}, KvRep K F kvs es → es = ((kvs.map (·.1)).map kD).zip (es.map (·.2)) ∧ Reps K F (kvs.map (·.2)) (es.map (·.2)) := by
    intro kvs es r
    induction r with
    | nil => exact ⟨rfl, .nil⟩
    | cons h1 h2 ih =>
      rename_i x y xs ys
      refine ⟨?_, .cons h1.2 ih.2⟩
      obtain ⟨y1, y2⟩ := y
      simp only [List.map_cons, List.zip_cons_cons, List.cons.injEq]
      exact ⟨by rw [← h1.1], ih.1⟩
  obtain ⟨h1, h2⟩ := g r
  rw [h1]
  refine Rep.dct (ks := kvs.map (·.1)) (xs := kvs.map (·.2)) ?_ (by simp) h2
  rw [h]
  congr 2
  clear h1 h2 r h
  induction kvs with
  | nil => rfl
  | cons p kvs ih => simp only [List.map_cons, List.zip_cons_cons, ← ih]
theorem put_rep {K : PySem.W.Frag} {F : Hp} {kvs : List (Key × V)} {es : List (D × D)} {k : Int} {x : V} {d : D} (r : KvRep K F kvs es) (rx : Rep K F x d) : KvRep K F (putK kvs (.inl k) x) (putI es (k, d)) := by
  have key : ∀ (j : Key), isKeyI k (kD j) = decide (j = .inl k) := fun j => by
    cases j with
    | inl j => simp only [kD, isKeyI, key_ll]
    | inr j => simp [kD, isKeyI]
  have hany : (es.any fun p => isKeyI k p.1) = kvs.any fun kv => decide (kv.1 = .inl k) := by
    induction r with
    | nil => rfl
    | cons h1 h2 ih => rw [List.any_cons, List.any_cons, ih, h1.1, key]
  unfold putK putI
  dsimp only
  rw [hany]
  split
  · rename_i hh
    clear hany hh
    induction r with
    | nil => exact .nil
    | @cons p q ps qs h1 h2 ih =>
      refine .cons ?_ ih
      obtain ⟨p1, p2⟩ := p
      obtain ⟨q1, q2⟩ := q
      dsimp only at h1 ⊢
      rw [h1.1, key]
      by_cases e : p1 = .inl k
      · simp only [e, decide_true, if_true]
        exact ⟨trivial, rx⟩
      · simp only [e, decide_false, if_false, Bool.false_eq_true]
        exact ⟨trivial, h1.2⟩
  · have app : ∀ {a b : List (Key × V)} {c d : List (D × D)}, KvRep K F a c → KvRep K F b d → KvRep K F (a ++ b) (c ++ d) := by
      intro a b c d h1 h2
      induction h1 with
      | nil => exact h2
      | cons h _ ih => exact .cons h ih
    exact app r (.cons ⟨rfl, rx⟩ .nil)
theorem merge_rep {K : PySem.W.Frag} {F : Hp} {kvs : List (Key × V)} {ns : List (Int × D)} (r : Paired (fun p q => p.1 = Sum.inl q.1 ∧ Rep K F p.2 q.2) kvs ns) : ∀ {acc : List (Key × V)} {es : List (D × D)}, KvRep K F acc es → KvRep K F (mergeK acc kvs) (ns.foldl putI es) := by
  induction r with
  | nil => exact fun h => h
  | cons h1 h2 ih =>
    rename_i p q ps qs
    intro acc es h
    obtain ⟨p1, p2⟩ := p
    obtain ⟨q1, q2⟩ := q
    dsimp only at h1
    obtain ⟨rfl, h1⟩ := h1
    exact ih (put_rep h h1)
theorem pairs_rep {K : PySem.W.Frag} {F H : Hp} (sub : Same F H) : ∀ {xs : List V} {ds : List D} {ns : List (Int × D)}, Reps K F xs ds → allPairs ds = some ns →
    ∃ (ps : List Addr) (kvs : List (Key × V)), xs = ps.map V.ref ∧ Paired (fun p kv => SqT K H p [kV kv.1, kv.2]) ps kvs ∧ Paired (fun (p : Key × V) (q : Int × D) => p.1 = Sum.inl q.1 ∧ Rep K F p.2 q.2) kvs ns
  | _, [], ns, .nil, e => by simp [allPairs] at e; subst e; exact ⟨[], [], rfl, .nil, .nil⟩
  | _, d :: ds, ns, .cons r rs, e => by
    match d, r, e with
    | .tuple [.int k, x], r, e =>
      simp only [allPairs] at e
      cases q : allPairs ds with
      | none => rw [q] at e; cases e
      | some ms =>
        rw [q] at e
        simp at e
        subst e
        obtain ⟨ps, kvs, h1, h2, h3⟩ := pairs_rep sub rs q
        cases r with
        | tup ht hr =>
          cases hr with
          | cons r1 hr =>
            cases hr with
            | cons r2 hr =>
              cases hr
              cases r1
              rename_i a v
              exact ⟨a :: ps, (.inl k, v) :: kvs, by rw [h1]; rfl, .cons (SqT.of (sub _ _ ht)) h2, .cons ⟨rfl, r2⟩ h3⟩
theorem boot_dict : bootBuiltins "dict" = some (.type "dict") := by decide +kernel
theorem sm_dictOf {p : Pos} (hg : Gl X "dict") (hm : X.mg "dict" = none) (ha : SimE fa X a ma) (hc : X.calm = true) (hn : noStar a = true) :
    SimE fa X (.Call (.Name "dict" p) [a] [] pos) (fun env S => (ma env S).bind fun x S1 => .ofO (match view S1 x with | some (.list xs) => (allPairs xs).map fun kvs => .d (.dict (mergeI kvs)) | _ => none) S1) := by
  refine ⟨fun W tk => PE.imp (pe_callTy (call_dictP hc) hg hm boot_dict (pa_cons (ha.run W tk) pa_nil (starEach_cons hn _ _)) (by decide) (by decide) (starEach_cons hn _ _) rfl) fun σ H Q q => ?_⟩
  refine q.bind (rep := RepV X.K fa) fun env v S1 x F1 H1 ρ1 s1 e1 r1 p1 => ?_
  obtain ⟨w, ew, q2⟩ := p1.ofO
  cases q3 : view S1 v with
  | none => rw [q3] at ew; cases ew
  | some d =>
    rw [q3] at ew
    cases d with
    | list xs =>
      dsimp only at ew
      cases q4 : allPairs xs with
      | none => rw [q4] at ew; cases ew
      | some ns =>
        rw [q4] at ew
        cases ew
        obtain ⟨l, xs', rfl, h1, rr⟩ := (s1.view r1 q3).list s1.sub
        obtain ⟨ps, kvs, rfl, z2, z3⟩ := pairs_rep s1.sub rr q4
        refine ⟨l, ps, kvs, rfl, SqL.of h1, z2, fun p hp => ?_⟩
        obtain ⟨s2, x2, sF⟩ := s1.grow (o := .dK (mergeK [] kvs)) hp
        exact q2 _ _ _ ρ1 s2 x2 (Rep.of_kv upd_same (merge_rep (L2.Paired.mapP z3 fun a b z => ⟨z.1, z.2.mono sF⟩) .nil))
    | _ => cases ew
theorem sm_dict0 : SimE fa X (.Dict [] [] pos) (fun _ S => .ok (.d (.dict [])) S) := by
  refine ⟨fun W tk => PE.imp pe_dnewK fun σ H Q q => ?_⟩
  obtain ⟨env, S, F, ρ, s, e, p⟩ := q
  intro d hd
  obtain ⟨s2, x2, sF⟩ := s.grow (o := .dK []) hd
  exact p _ _ _ ρ s2 x2 (Rep.of_kv upd_same .nil)
theorem sm_dict1 (ha : SimE fa X a ma) (hb : SimE fa X b mb) : SimE fa X (.Dict [some a] [b] pos) (fun env S => (ma env S).bind fun x S1 => (mb env S1).bind fun y S2 => .ofO (match x, y with | .d (.int i), .d z => some (.d (.dict [(.int i, z)])) | _, _ => none) S2) := by
  have h15 : [some a].length ≤ 15 := by simp
  refine ⟨fun W tk => PE.imp (pe_disp (pps_cons (ha.run W tk) (hb.run W tk) pps_nil) rfl rfl (fun z => nomatch z) h15) fun σ H Q q => ?_⟩
  intro p hp
  obtain ⟨env, S, F, ρ, s, e, q⟩ := q
  obtain ⟨s', x'⟩ := s.junk (o := .dK []) hp
  have l0 : Loose F (upd H p (.dK [])) ρ S p (.dK []) := Loose.new s hp (fun _ z => nomatch z)
  refine ⟨env, S, F, ρ, s', e, ?_⟩
  dsimp only at q
  cases q0 : ma env S with
  | stuck => rw [q0] at q; exact q
  | exc ee S1 =>
    rw [q0] at q
    exact fun c d F1 H1 ρ1 s1 x1 r1 => q c d F1 H1 ρ1 s1 (x'.trans x1) r1
  | ok v S1 =>
    rw [q0, R.bind_ok] at q
    intro x F1 H1 ρ1 s1 x1 r1
    refine ⟨env, S1, F1, ρ1, s1, e.mono x1.fz x1.rho x1.len, ?_⟩
    cases q1 : mb env S1 with
    | stuck => rw [q1] at q; exact q
    | exc ee S2 =>
      rw [q1] at q
      exact fun c d F2 H2 ρ2 s2 x2 r2 => q c d F2 H2 ρ2 s2 ((x'.trans x1).trans x2) r2
    | ok u S2 =>
      rw [q1, R.bind_ok] at q
      intro y F2 H2 ρ2 s2 x2 r2
      have l2 := (l0.step x1).step x2
      cases v with
      | d v =>
        cases v with
        | int i =>
          cases u with
          | d u =>
            have rx : Rep X.K F1 x (.int i) := r1
            cases rx
            refine ⟨l2.h, [(.inl i, y)], rfl, by simp, ?_⟩
            obtain ⟨s3, x3, sF⟩ := l2.adopt (o' := .dK (mergeK [] [(.inl i, y)])) s2 hp ((x'.trans x1).trans x2)
            refine q _ _ _ ρ2 s3 x3 (Rep.of_kv upd_same ?_)
            have rz : Rep X.K F2 y u := r2
            exact .cons ⟨rfl, rz.mono sF⟩ .nil
          | _ => exact q.elim
        | _ => exact q.elim
      | _ => exact q.elim
/-! ### comprehensions in place -/
def ownN (N : List Str) (own : List Nat) : List (Str × Nat) := own.map fun i => (N.getD i "", i)
theorem ownN_snd (N : List Str) (own : List Nat) : (ownN N own).map (·.2) = own := by
  unfold ownN; rw [List.map_map]; induction own with
  | nil => rfl
  | cons i own ih => simp only [List.map_cons, ih]; rfl
structure SimC (fa : FA) (X : Cx) (scope : Scope) (ptg : Expr) (pifs : List Expr) (pelt : Expr) (tg : Tg) (mc : M Bool) (me : M Val) : Prop where
  g : ∀ (s : Shared) (H : Hp) (C : Addr) (cl : List (Str × Addr)) (fp : List Addr), PG (X.blk s H scope (compEnvC scope cl C X.env) fp) ptg (rdGt X.K fa tg)
  t : ∀ (s : Shared) (H : Hp) (C : Addr) (cl : List (Str × Addr)) (fp : List Addr), PTs (X.blk s H scope (compEnvC scope cl C X.env) fp) pifs (rdT X.K fa (fun _ _ _ _ => False) mc)
  e : ∀ (s : Shared) (H : Hp) (C : Addr) (cl : List (Str × Addr)) (fp : List Addr), PE (X.blk s H scope (compEnvC scope cl C X.env) fp) pelt (rdE X.K fa (fun _ _ _ _ => False) me)
theorem sm_comp {scope : Scope} {ptg piter pelt : Expr} {pifs : List Expr} {own : List Nat} {tg : Tg} {mi : M (List Val × List Nat)} {mc' : M Bool} {me : M Val} (hc : X.calm = true) (hN : X.N.Nodup) (hi : SimI fa X ptg piter mi) (ok : blkC X.N X.env.scope scope (ownN X.N own) = true)
    (hb : SimC fa X scope ptg pifs pelt tg mc' me) (hsl : ∀ i ∈ tg.slots, i ∈ own) (hs : noSet piter = true) : SimE fa X (.ListComp pelt [⟨ptg, piter, pifs, 0⟩] scope pos) (mcomp own tg mi mc' me) := by
  refine ⟨fun W tk => PE.imp (pe_lc hc hN (hi.run W tk) (blkOk_by ok) hb.g hb.t hb.e (noSet_iter hs X.env)) fun σ H Q q => ?_⟩
  rw [ownN_snd]
  exact rd_comp (tgE := ptg) hsl q
theorem sm_compN {scope : Scope} {ptg piter pelt : Expr} {pifs : List Expr} {own : List Nat} {tg : Tg} {mi : M (List Val × List Nat)} {mc' : M Bool} {me : M Val} (hc : X.calm = true) (hN : X.N.Nodup) (hi : SimI fa X ptg piter mi) (ok : blkC X.N X.env.scope scope (ownN X.N own) = true)
    (hb : SimC fa X scope ptg pifs pelt tg mc' me) (hsl : ∀ i ∈ tg.slots, i ∈ own) (hs : noSet piter = true) : SimE fa X (.ListComp pelt [⟨ptg, piter, pifs, 0⟩] scope pos) (mcompN true own tg mi mc' me) := by
  refine ⟨fun W tk => PE.imp (pe_lc hc hN (hi.run W tk) (blkOk_by ok) hb.g hb.t hb.e (noSet_iter hs X.env)) fun σ H Q q => ?_⟩
  rw [ownN_snd]
  exact rd_compN true (tgE := ptg) hsl q
theorem ss_setc {i : Nat} {y : Str} {py spos : Pos} {scope : Scope} {ptg piter pelt : Expr} {pifs : List Expr} {own : List Nat} {tg : Tg} {mi : M (List Val × List Nat)} {mc' : M Bool} {me : M Val} (hc : X.calm = true) (hN : X.N.Nodup) (hy : X.N[i]? = some y) (hyl : X.env.scope.names.lookup y = some .local) (hk : X.env.scope.kind = .function)
    (hln : (py.line == pos.line) = true) (hna : (scope.names.any fun (n, k) => n == y && (k == .local || k == .cell)) = false)
    (hi : SimI fa X ptg piter mi) (ok : blkC X.N X.env.scope scope (ownN X.N own) = true) (hb : SimC fa X scope ptg pifs pelt tg mc' me) (hsl : ∀ i ∈ tg.slots, i ∈ own) (hs : noSet piter = true) :
    SimS fa X (.Assign [.Name y py] (.ListComp pelt [⟨ptg, piter, pifs, 0⟩] scope pos) spos) (fun env S => .ofR env (mcomp own tg mi mc' me env S) fun v S1 => .nx (env.set i (some v)) S1) := by
  refine ⟨fun W tk => PS.imp (ps_setLc hc hN hy hyl (sw_true hk hyl hln hna) (hi.run W tk) (blkOk_by ok) hb.g hb.t hb.e (noSet_iter hs X.env)) fun D σ H q => ?_⟩
  rw [ownN_snd]
  refine rd_comp (tgE := ptg) (W := W) hsl ?_
  exact q.bind (rep := RepV X.K fa) fun env v S1 x F1 H1 ρ1 s1 e1 r1 p1 => p1.nx_ s1 (e1.set r1 i)
end
end MS

-- MsSet
/-! set(xs) of a list of ints, so that it can be sorted. -/
namespace MS
open PySem PySem.Spec PyProof.Rows L2
/-- the new set -/
abbrev nSet (w : World) : Obj := { cls := .type "set", dict := none, data := .set #[] 0 (.fresh 0 0 (!w.params.followText "set-order")) }
section
variable {P : Program} {w : World} {A : Around} {E : Value → Shared → Prop} {s : Shared}
/-- the walk through the list, once the set is there -/
theorem fill_list {l : Addr} {its : Array Value} {ns : List Int} {R : Result → Shared → Prop} (hh : A.handled = none) (hl : s.heap.IsList l its) (hi : IntsAre its.toList ns) (hb : ns.length + 1 < scanBound)
    (h : ∀ (h' : Heap) (tk c : Nat), SetR w h' s.heap.objs.size (fun j => decide (j ∈ ns)) c → c ≤ ns.length → (∀ b o, s.heap.get? b = some o → h'.get? b = some o) → R (.ok (.ret .none)) { s with heap := h', toks := tk }) :
    codeAny (model P w) A (.builtin "set.update.loop" ⟨[.ref s.heap.objs.size, .ref (s.heap.push (nSet w)).objs.size], []⟩) R
      { s with heap := (s.heap.push (nSet w)).push { cls := .type "list_iterator", data := .fields #[.ref l, .int 0 0] } } := by
  have sz : its.size = ns.length := by
    have := IntsAre.length hi
    rwa [Array.length_toList] at this
  have z1 : (s.heap.push (nSet w)).objs.size = s.heap.objs.size + 1 := Heap.size_push ..
  have hlt : l < s.heap.objs.size := by
    obtain ⟨o, ho, _⟩ := hl
    exact Heap.lt_size ho
  have l1 : (s.heap.push (nSet w)).IsList l its := hl.push _
  have ne1 : l ≠ (s.heap.push (nSet w)).objs.size := by rw [z1]; exact Nat.ne_of_lt (Nat.lt_succ_of_lt hlt)
  have out : s.heap.objs.size ∉ [(s.heap.push (nSet w)).objs.size, l] := by
    rw [z1]
    intro z
    rcases List.mem_cons.mp z with z | z
    · exact Nat.ne_of_lt (Nat.lt_succ_self _) z
    · exact Nat.ne_of_gt hlt (List.mem_singleton.mp z)
  have val : ∀ (i : Nat) (v : Value), its[i]? = some v → ∃ k t, ns[i]? = some k ∧ v = .int k t := fun i v hv => by
    have lt : i < ns.length := by rw [← sz]; exact (Array.getElem?_eq_some_iff.mp hv).1
    obtain ⟨t, e⟩ := IntsAre.int_at hi i v (by rw [Array.getElem?_toList]; exact hv)
    exact ⟨ns[i], t, List.getElem?_eq_getElem lt, by rw [e, List.getD_eq_getElem?_getD, List.getElem?_eq_getElem lt] <;> rfl⟩
  have at0 : ((s.heap.push (nSet w)).push { cls := .type "list_iterator", data := .fields #[.ref l, .int 0 0] }).get? s.heap.objs.size = some (nSet w) := Heap.get?_push_of_some _ (Heap.get?_push_size _ rfl)
  refine set_update_ints (A := A) ((Walks.list (by simp [hh]) _ l ne1 its).toS) s.heap.objs.size out ns sz hb val (its.size - 0) 0 _ (by omega) (Nat.zero_le _) ⟨⟨_, Heap.get?_push_size _ rfl, rfl, rfl⟩, l1.push _⟩ ⟨0, Nat.le_refl 0, setR_new_at at0⟩ fun s' c m hc hS => ?_
  obtain ⟨h', g, dr, tk, os⟩ := s'
  have e1 : g = s.gens := m.gens
  have e2 : dr = s.drawn := m.drawn
  have e3 : os = s.os := m.os
  subst e1 e2 e3
  refine h h' tk c hS (by rw [← sz]; exact hc) fun b o e => m.heap b o (fun z => ?_) (Heap.get?_push_of_some _ (Heap.get?_push_of_some _ e))
  have lt := Heap.lt_size e
  rcases List.mem_cons.mp z with z | z
  · exact Nat.ne_of_lt lt z
  · have q := List.mem_singleton.mp z
    rw [z1] at q
    exact Nat.ne_of_lt (Nat.lt_succ_of_lt lt) q
theorem set_of_list {l : Addr} {its : Array Value} {ns : List Int} {Q : Value → Shared → Prop} (hh : A.handled = none) (hl : s.heap.IsList l its) (hi : IntsAre its.toList ns) (hb : ns.length + 1 < scanBound)
    (h : ∀ (h' : Heap) (tk c : Nat), SetR w h' s.heap.objs.size (fun j => decide (j ∈ ns)) c → c ≤ ns.length → (∀ b o, s.heap.get? b = some o → h'.get? b = some o) → Q (.ref s.heap.objs.size) { s with heap := h', toks := tk }) :
    wpAny (model P w) A (call (.type "set") [.ref l]) Q E s := by
  obtain ⟨c0, t0, m0⟩ := F.called_set.mro
  have m1 := F.called_set.made; have m2 := F.called_set.sub; have m3 := F.called_set.notType; have m4 := F.called_set.canCreate
  have m5 := F.typeCall_set_1 (.ref l)
  refine wpAny_call (codeAny_of_tree ?_)
  show wpAny _ _ (callAny (.type "set") ⟨[.ref l], []⟩) _ _ _
  refine wpAny_pure ⟨Code.quiet_builtin _ (by decide +kernel), codeAny_builtin F.entry_type_call ?_⟩
  rw [Around.under_plain (weight_type_call_type "set" _ _) rfl]
  repeat (any_goals (first | wp_step | assumption))
  refine codeAny_mono (code_set_led1 (.ref l) (E := E) (Q₁ := fun v s1 => v = .ref s.heap.objs.size ∧ s1 = { s with heap := s.heap.push (nSet w) }) ⟨rfl, rfl⟩) fun r s1 hr => ?_
  rcases r with e | fl
  · exact hr
  rcases fl with _ | _ | v | _
  case ret v =>
    obtain ⟨rfl, rfl⟩ := hr
    have at1 : (s.heap.push (nSet w)).get? s.heap.objs.size = some (nSet w) := Heap.get?_push_size _ rfl
    have ty : Shared.TypeIs { s with heap := s.heap.push (nSet w) } (.ref s.heap.objs.size) "set" := ⟨_, at1, rfl⟩
    have i1 := F.called_set.init.lookup; have i2 := F.called_set.init.bind (.ref s.heap.objs.size)
    repeat (any_goals (first | wp_step | assumption))
    refine codeAny_mono (codeAny_call_builtin (R := wants (fun r s2 => r = .none ∧ ∃ h' tk c, s2 = { s with heap := h', toks := tk } ∧ SetR w h' s.heap.objs.size (fun j => decide (j ∈ ns)) c ∧ c ≤ ns.length ∧ ∀ b o, s.heap.get? b = some o → h'.get? b = some o) E) F.called_set.init.plain F.entry_set_init (check_set_init_1 ty ?_)) fun r2 s2 hr2 => ?_
    · obtain ⟨⟨k1, k2, k3, k4⟩, ho, hcl, nl, hdl⟩ := id hl
      simp only at hcl hdl
      subst hcl hdl
      have ho1 : (s.heap.push (nSet w)).get? l = some { cls := .type "list", dict := k2, data := .seq its nl, slots := k4 } := Heap.get?_push_of_some _ ho
      have n1 := F.sub_list_set; have n2 := F.sub_list_frozenset
      have n3 : (Value.type "list" == Value.type "dict") = false := by decide
      have l1 : (s.heap.push (nSet w)).IsList l its := hl.push _
      unfold Builtin.«set.__init__» noKeywords Builtin.Frozenset.updateFrom
      generalize hq : pyIter = PI
      wp_walk
      subst hq
      refine wpAny_pyIter_list l1 (wpAny_bind (wpAny_runValue ?_))
      refine fill_list (by simp [hh]) hl hi hb fun h' tk c hS hc hk => ?_
      show wpAny _ _ _ _ _ _
      refine wpAny_pure ?_
      show wpAny _ _ (ret Value.none) _ _ _
      exact wpAny_pure ⟨rfl, h', tk, c, rfl, hS, hc, hk⟩
    · rcases r2 with e | fl2
      · exact hr2
      rcases fl2 with _ | _ | v | _
      case ret v =>
        obtain ⟨rfl, h', tk, c, rfl, hS, hc, hk⟩ := hr2
        repeat (any_goals (first | wp_step | assumption))
        exact h _ _ _ hS hc hk
      all_goals exact hr2.elim
  all_goals exact hr.elim
end
end MS

-- MsSrt
/-! Sorting tuples of which the first is the empty one. -/
namespace MS
open PySem PySem.Spec PyProof.Rows L2 PySem.W PySem.SeqAt
section
variable {prog : Program} {w : World} {A : Around} {E : Value → Shared → Prop} {s : Shared}
theorem oneLt_tup {xs ys : List PyData} {u v : Value} {as bs : List Addr} {Q : Bool → Shared → Prop} (ra : Reads s.heap u (.tuple xs) as) (rb : Reads s.heap v (.tuple ys) bs) (h : alikeAll xs ys = true)
    (hu : A.units + min (PyData.depth (.tuple xs)) (PyData.depth (.tuple ys)) < cLine) (hq : Q (dataLt (.tuple xs) (.tuple ys)) s) : wpAny (model prog w) A (oneLt' true u v) Q E s := by
  cases ra with
  | @tuple l o is n _ as1 h1 h2 h3 h4 =>
    cases rb with
    | @tuple l' o' js m _ bs1 k1 k2 k3 k4 =>
      obtain ⟨c1, d1, e1, f1⟩ := o
      obtain ⟨c2, d2, e2, f2⟩ := o'
      simp only at h2 h3 k2 k3
      subst h2 h3 k2 k3
      have n1 : is.size = xs.length := by simpa using ReadsAll.length _ _ _ h4
      have n2 : js.size = ys.length := by simpa using ReadsAll.length _ _ _ k4
      rw [dataLt_tuple, ← firstLt_toks xs ys h, ← n1, ← n2] at hq
      rw [oneLt'_eq]
      simp only [if_true]
      refine wpAny_bind (wpAny_cRoomFor (room_here hu) (wpAny_bind (wpAny_callSpecialIfBound?_slot (T := "tuple") ⟨_, h1, rfl⟩ F.slot_tuple_lt ?_)))
      refine call_meets F.slot_tuple_lt ⟨_, h1, rfl⟩ F.entry_tuple_lt (F.args_tuple_lt_2 _ _) (tuple_ltAt l l' is js n m d1 d2 f1 f2 (pairEq xs ys) fun j => dataLt (xs.getD j .none) (ys.getD j .none)) ⟨h1, k1, fun j j1 j2 => ?_, fun j j1 j2 hj => ?_, wpAny_truthy_bool hq⟩
      · have z := eqAt_alikeAll xs ys A.in1 s is.toList js.toList _ _ h4 k4 h (room_in hu) j (by simpa using j1) (by simpa using j2)
        simpa using z
      · have z := rcLt_alikeAll xs ys A.in1 s is.toList js.toList _ _ h4 k4 h (room_in hu) j (by simpa using j1) (by simpa using j2) hj
        simpa using z
/-- what stands first in a tuple -/
def firstAt (h : Heap) : Value → Option Value
  | .ref a => match h.get? a with
    | some o => match o.data with
      | .seq xs _ => xs[0]?
      | _ => none
    | none => none
  | _ => none
theorem firsts_at {M : Model} : ∀ (vs : List Value) {Q : List (Option Value) → Shared → Prop}, (∀ v ∈ vs, ∃ a xs, v = .ref a ∧ s.heap.IsTuple a xs) → Q (vs.map (firstAt s.heap)) s → wpAny M A (vs.mapM firstOfTuple') Q E s
  | [], _, _, q => by rw [List.mapM_nil]; exact wpAny_pure q
  | v :: vs, Q, h, q => by
    obtain ⟨a, xs, e, o, ho, hc, n, hd⟩ := h v (List.mem_cons_self ..)
    subst e
    rw [List.mapM_cons]
    refine wpAny_bind ?_
    rw [kas_first_eq]
    refine wpAny_bind ((show Looks M s.heap (typeOf (.ref a)) o.cls from (Looks.ld ho).andThen .now).here ?_)
    rw [hc, if_neg (by simp)]
    refine wpAny_bind (listItems_at ho hd (wpAny_pure (wpAny_bind (firsts_at vs (fun v hv => h v (List.mem_cons_of_mem _ hv)) (wpAny_pure ?_)))))
    have e1 : firstAt s.heap (.ref a) = xs[0]? := by simp only [firstAt, ho, hd]
    rw [List.map_cons, e1] at q
    exact q
theorem kind_tupE {M : Model} {v : Value} {vs : List Value} {Q : SortKind → Shared → Prop} (ht : ∀ u ∈ v :: vs, ∃ a xs, u = .ref a ∧ s.heap.IsTuple a xs) (h0 : firstAt s.heap v = none) (q : Q oneType' s) : wpAny M A (keyKind' (v :: vs).toArray) Q E s := by
  rw [keyKind'_eq, List.mapM_toArray, map_eq_pure_bind]
  refine wpAny_bind (wpAny_bind (firsts_at _ ht (wpAny_pure ?_)))
  rw [List.map_cons, h0, if_neg (by simp), if_neg (by simp)]
  rw [oneTypeOnly'_eq, List.mapM_toArray, map_eq_pure_bind]
  refine wpAny_bind (wpAny_bind (wpAny_bind (kas_mapM (r := Value.type "tuple") _ (fun u hu Q' hq => ?_) (wpAny_pure ?_))))
  · obtain ⟨a, xs, rfl, o, ho, hc, _⟩ := ht u hu
    have := (show Looks M s.heap (typeOf (.ref a)) o.cls from (Looks.ld ho).andThen .now)
    rw [hc] at this
    exact this.here hq
  have e0 : (List.map (fun _ => Value.type "tuple") (v :: vs)).toArray[0]? = some (Value.type "tuple") := by simp
  have e1 : ((List.map (fun _ => Value.type "tuple") (v :: vs)).toArray.all fun x => x == Value.type "tuple") = true := by
    simp only [List.all_toArray, List.all_map, List.all_eq_true]
    intro _ _
    rfl
  rw [e0]
  simp only [e1, if_true]
  exact wpAny_pure (wpAny_pure q)
theorem sortsE {vs : List Value} {ds : List PyData} (e : EachIs (fun v d => ∃ as, Reads s.heap v d as) vs (.tuple [] :: ds)) (hal : AllAlike (.tuple [] :: ds)) (ht : ∀ d ∈ ds, ∃ xs, d = .tuple xs) (hu : ∀ d, d ∈ PyData.tuple [] :: ds → A.units + d.depth < cLine) : SortsAt prog w A s (dataKind s.heap (.tuple [] :: ds)) vs := by
  have ht' : ∀ d ∈ PyData.tuple [] :: ds, ∃ xs, d = .tuple xs := fun d hd => by
    rcases List.mem_cons.mp hd with rfl | hd
    · exact ⟨[], rfl⟩
    · exact ht d hd
  have rt : ∀ v ∈ vs, ∃ a xs, v = .ref a ∧ s.heap.IsTuple a xs := fun v hv => by
    obtain ⟨d, hd, as, r⟩ := e.left v hv
    obtain ⟨xs, rfl⟩ := ht' d hd
    cases r with
    | @tuple l o is n _ _ h1 h2 h3 h4 => exact ⟨l, is, rfl, o, h1, h2, n, h3⟩
  refine ⟨fun v hv => ?_, oneType', ?_, fun h2 E Q hq => ?_⟩
  · obtain ⟨d, hd, as, r⟩ := e.left v hv
    exact ⟨_, dataKind_some hal hd r⟩
  · intro E x y a b Q ha hb hq
    obtain ⟨d, as, hd, ra, rfl⟩ := dataKind_inv ha
    obtain ⟨d', as', hd', rb, rfl⟩ := dataKind_inv hb
    obtain ⟨xs, rfl⟩ := ht' d hd
    obtain ⟨ys, rfl⟩ := ht' d' hd'
    rw [keyLt'_oneType]
    exact oneLt_tup ra rb (by simpa [alike] using hal _ hd _ hd') (Nat.lt_of_le_of_lt (Nat.add_le_add_left (Nat.min_le_left _ _) _) (hu _ hd)) hq
  · cases e with
    | @cons v _ vs' _ r0 er =>
      refine kind_tupE rt ?_ hq
      obtain ⟨as, r⟩ := r0
      cases r with
      | @tuple l o is n _ _ h1 h2 h3 h4 =>
        have : is.toList = [] := by cases q : is.toList with
          | nil => rfl
          | cons _ _ => rw [q] at h4; cases h4
        simp only [firstAt, h1, h3]
        rw [← Array.getElem?_toList, this]; rfl
end
section
variable {pg : Program} {wd : World} {Ar : Around} {Ex : Value → Shared → Prop} {sg : Shared}
/-- what collect makes -/
abbrev colH (h : Heap) (us : List Value) : Heap := Heap.update (h.push (seqObj "list" #[] 0)) h.objs.size (Obj.mapSeq fun z => z ++ us.toArray)
/-- the items of a list or a tuple, gathered -/
def Gath (pg : Program) (wd : World) (Ar : Around) (sg : Shared) (t : Addr) (us : List Value) : Prop := ∀ (Ex : Value → Shared → Prop) (R : List Value → Shared → Prop), R us { sg with heap := colH sg.heap us } → wpAny (model pg wd) Ar (collect (.ref t)) R Ex sg
theorem gathL {t : Addr} {us : List Value} (ht : sg.heap.IsList t us.toArray) (hn : us.length ≤ sizeLine) : Gath pg wd Ar sg t us := fun Ex R k => collect_list ht k hn
theorem gathT {t : Addr} {us : List Value} (ht : sg.heap.IsTuple t us.toArray) (hn : us.length ≤ sizeLine) : Gath pg wd Ar sg t us := fun Ex R k => by
  obtain ⟨ob, g1, g2, ep, g3⟩ := id ht
  unfold collect
  refine wpAny_bind (wpAny_runValue (codeAny_builtin entry_proto_collect' ?run))
  case run =>
  show wpAny _ _ (newList [] >>= fun nl => again (.builtin "list.__iadd__" ⟨[nl, .ref t], []⟩)) _ _ sg
  refine wpAny_bind (wpAny_newList (wpAny_pure ⟨Code.quiet_builtin _ (by decide +kernel), codeAny_builtin entry_list_iadd' ?ext⟩))
  case ext =>
  show wpAny _ _ (Builtin.List.listExtendWith (.ref sg.heap.objs.size) (.ref t) (.ref sg.heap.objs.size)) _ _ { sg with heap := sg.heap.push (seqObj "list" #[] 0) }
  unfold Builtin.List.listExtendWith
  have g1' : Heap.get? (sg.heap.push (seqObj "list" #[] 0)) t = some ob := Heap.get?_push_of_some _ g1
  refine wpAny_bind (wpAny_typeOf (T := "tuple") ⟨ob, g1', g2⟩ ?ty)
  case ty =>
  have tt : (Value.type "tuple" == Value.type "tuple") = true := rfl
  have tl : (Value.type "tuple" == Value.type "list") = false := by decide +kernel
  rw [if_pos (by rw [tt]; simp)]
  refine wpAny_bind (listItems_at g1' g3 ?its)
  case its =>
  refine wpAny_bind (listItems_at (xs := #[]) (n := 0) (Heap.get?_push_size _ rfl) rfl ?its2)
  case its2 =>
  rw [if_neg (by simp)]
  refine wpAny_bind (listUpdate_at (xs := #[]) (n := 0) (Heap.get?_push_size _ rfl) rfl ?upd (Nat.zero_le _) (by show (#[] ++ us.toArray).size ≤ sizeLine + 1; rw [Array.size_append, List.size_toArray]; simp; omega))
  case upd =>
  refine wpAny_pure ?fin
  case fin =>
  refine wpAny_bind (wpAny_load (get?_update_seq (Heap.get?_push_size _ rfl) _) ?ld)
  case ld =>
  refine wpAny_pure ?_
  have e : ((#[] : Array Value) ++ us.toArray).toList = us := by simp
  rw [e]
  exact k
theorem sortedC {t : Addr} {us : List Value} {κ : PyProof.Rows.KeyKind} {R : Value → Shared → Prop} (col : ∀ A', Gath pg wd A' sg t us) (so : SortsAt pg wd Ar.in1.in1 { sg with heap := sortingHeap (copyHeap sg.heap us) (sg.heap.objs.size + 1) us } κ us) (hn : us.length ≤ sizeLine)
    (k : R (.ref (sg.heap.objs.size + 1)) { sg with heap := sortedAll sg.heap us (sortVals κ false us us).toArray }) : wpAny (model pg wd) Ar (call (.builtin "sorted") [.ref t]) R Ex sg := by
  refine call_function_entry_kw kind_sorted plain_sorted entry_sorted (args_sorted1 _) ?cl
  case cl =>
  unfold Builtin.«sorted»
  refine wpAny_bind (m := checkCount "sorted" 1 1 _) (wpAny_pure (wpAny_bind (col _ _ _ (wpAny_bind (wpAny_newList ?nl hn)))))
  case nl =>
  have z : (colH sg.heap us).objs.size = sg.heap.objs.size + 1 := by unfold colH; rw [Heap.size_update, size_push']
  show wpAny _ _ _ _ _ { sg with heap := copyHeap sg.heap us }
  rw [z]
  refine wpAny_bind (wpAny_holding (wpAny_call_entry_kw slot_list_sort ⟨_, copyHeap_at sg.heap us, rfl⟩ entry_list_sort ?so (args_list_sort _)))
  case so =>
  show wpAny (model pg wd) Ar.in1.in1 (Builtin.«list.sort» ⟨[.ref (sg.heap.objs.size + 1)], []⟩) _ _ _
  have body : ∀ E' : Value → Shared → Prop, wpAny (model pg wd) Ar.in1.in1 (Builtin.«list.sort» ⟨[.ref (sg.heap.objs.size + 1)], []⟩) (fun f s' => f = .done (.ret .none) ∧ R (.ref (sg.heap.objs.size + 1)) s') E' { sg with heap := copyHeap sg.heap us } :=
    fun _ => list_sort_vals (s := { sg with heap := copyHeap sg.heap us }) (copyHeap_at sg.heap us) so hn ⟨rfl, k⟩
  refine wpAny_mono (body _) (fun f s' hf => ?_) fun _ _ e => e
  obtain ⟨rfl, hq⟩ := hf
  exact ⟨_, rfl, wpAny_pure ⟨_, rfl, hq⟩⟩
end
/-- sorted(xs) of a list or a tuple -/
theorem sorted_dataC {prog : Program} {w : World} {A : Around} {E : Value → Shared → Prop} {s : Shared} {R : Value → PyData → Prop} {us : List Value} {ds : List PyData} {l : Addr} {Q : Value → Shared → Prop} (col : ∀ A', Gath prog w A' s l us) (e : EachIs R us ds) (er : EachIs (fun v d => ∃ as, Reads s.heap v d as) us ds)
    (hal : AllAlike ds) (ht : Sortable ds ∨ ∃ r, ds = .tuple [] :: r ∧ ∀ d ∈ r, ∃ xs, d = .tuple xs) (hL : ds.length ≤ sizeLine) (hu : ∀ d, d ∈ ds → A.units + 2 + d.depth < cLine)
    (h : ∀ out, out.length = ds.length → EachIs R out (ds.mergeSort (dataLe false id)) → Q (.ref (s.heap.objs.size + 1)) { s with heap := sortedAll s.heap us (List.toArray out) }) :
    wpAny (model prog w) A (call (.builtin "sorted") [.ref l]) Q E s := by
  have er' : EachIs (fun v d => ∃ as, Reads (sortingHeap (copyHeap s.heap us) (s.heap.objs.size + 1) us) v d as) us ds := er.mono fun _ _ ⟨as, r⟩ => ⟨as, PyProof.Rows.Reads.keeps (fun _ _ => sorting_copy_old) r⟩
  have lv : us.length = ds.length := e.length
  have hal' : AllAlike (ds.map id) := by rw [List.map_id]; exact hal
  have er2 : EachIs (fun v b => ∃ as, Reads (sortingHeap (copyHeap s.heap us) (s.heap.objs.size + 1) us) v (id b) as) us ds := er'
  have so : SortsAt prog w A.in1.in1 { s with heap := sortingHeap (copyHeap s.heap us) (s.heap.objs.size + 1) us } (dataKind (sortingHeap (copyHeap s.heap us) (s.heap.objs.size + 1) us) ds) us := by
    rcases ht with ht | ⟨r, rfl, ht⟩
    · exact SortsAt.data (s := { s with heap := sortingHeap (copyHeap s.heap us) (s.heap.objs.size + 1) us }) er' hal ht fun d hd => hu d hd
    · exact sortsE (s := { s with heap := sortingHeap (copyHeap s.heap us) (s.heap.objs.size + 1) us }) er' hal ht fun d hd => hu d hd
  refine sortedC col so (by rw [lv]; exact hL) ?_
  have z := sortVals_data false e er2 hal'
  rw [List.map_id] at z
  exact h _ (by rw [sortVals_length false rfl]; exact lv) z
end MS

-- MsExc
/-! raise, try, isinstance of what is caught; calls that see data; zip; max and min of two. -/
namespace MS
open PySem PySem.Spec PyProof.Rows L2

/-! ### the context of an except suite -/
def faX (fa : FA) (a c : Addr) : FA := fun i => if i = exI then a else if i = exC then c else fa i
theorem faX_i (fa : FA) (a c : Addr) : faX fa a c exI = a := if_pos rfl
theorem faX_c (fa : FA) (a c : Addr) : faX fa a c exC = c := by
  unfold faX
  rw [if_neg (by decide), if_pos rfl]
theorem faX_lt (fa : FA) (a c : Addr) {i : Nat} (h : i < exI) : faX fa a c i = fa i := by
  unfold faX
  rw [if_neg (Nat.ne_of_lt h), if_neg (fun z => by rw [z] at h; exact absurd h (by decide))]
section
variable {K : PySem.W.Frag} {fa : FA} {a c : Addr} {F H : Hp} {ρ : Nat → Addr} {n : Nat} {S : Sto}
theorem RepV.fax {x : V} {v : Val} : RepV K (faX fa a c) F ρ n x v ↔ RepV K fa F ρ n x v := by
  cases v with
  | fn i => exact ⟨fun ⟨h1, h2⟩ => ⟨h1, by rw [faX_lt fa a c h1] at h2; exact h2⟩, fun ⟨h1, h2⟩ => ⟨h1, by rw [faX_lt fa a c h1]; exact h2⟩⟩
  | _ => exact Iff.rfl
theorem RepVs.fax {xs : List V} {vs : List Val} : RepVs K (faX fa a c) F ρ n xs vs ↔ RepVs K fa F ρ n xs vs :=
  ⟨fun h => L2.Paired.mapP h fun _ _ r => RepV.fax.mp r, fun h => L2.Paired.mapP h fun _ _ r => RepV.fax.mpr r⟩
theorem Sim.fax : Sim K (faX fa a c) F H ρ S ↔ Sim K fa F H ρ S := by
  refine ⟨fun s => ⟨s.sub, s.off, fun n o h => ?_, s.inj⟩, fun s => ⟨s.sub, s.off, fun n o h => ?_, s.inj⟩⟩
  · obtain ⟨y, hy, r⟩ := s.obj n o h
    refine ⟨y, hy, ?_⟩
    cases r with
    | lst r => exact .lst (RepVs.fax.mp r)
    | dct r => exact .dct (L2.Paired.mapP r fun _ _ z => ⟨z.1, RepV.fax.mp z.2⟩)
  · obtain ⟨y, hy, r⟩ := s.obj n o h
    refine ⟨y, hy, ?_⟩
    cases r with
    | lst r => exact .lst (RepVs.fax.mpr r)
    | dct r => exact .dct (L2.Paired.mapP r fun _ _ z => ⟨z.1, RepV.fax.mpr z.2⟩)
theorem noExn_look {env : MS.Env} (h : noExn env = true) (i : Nat) : lookX env i = none := by
  unfold lookX
  cases q : (env[i]?).join with
  | none => rfl
  | some v =>
    have hm : some v ∈ env := by
      cases q2 : env[i]? with
      | none => rw [q2] at q; cases q
      | some z => rw [q2] at q; cases (show z = some v from q); exact List.mem_of_getElem? q2
    have := List.all_eq_true.mp h _ hm
    cases v with
    | exn e => simp at this
    | _ => rfl
theorem EnvRep.fax {env : MS.Env} {σ : L2.St} (hn : noExn env = true) : EnvRep K (faX fa a c) F ρ n env σ ↔ EnvRep K fa F ρ n env σ :=
  ⟨fun h => ⟨h.len, fun i v e => let ⟨x, h1, h2⟩ := h.look i v e; ⟨x, h1, RepV.fax.mp h2⟩, fun i e q => by rw [noExn_look hn i] at q; cases q⟩,
   fun h => ⟨h.len, fun i v e => let ⟨x, h1, h2⟩ := h.look i v e; ⟨x, h1, RepV.fax.mpr h2⟩, fun i e q => by rw [noExn_look hn i] at q; cases q⟩⟩
end

/-! ### raise -/
/-- an own class of exceptions under ValueError, without own __init__ -/
structure XC (K : PySem.W.Frag) (C : Addr) : Prop where
  exc : PySem.W.excIn K C He.veBase "ValueError.__new__" = true
  kp : PySem.W.keepIn K (.ref C) = true
  sub : PySem.W.subIn K (.ref C) (.type "BaseException") = some true
  ty : PySem.W.typeIn K (.ref C) = some (.type "type")
  is : ExcC K C
section
variable {fa : FA} {X : Cx} {pe a b c : Expr} {m ma mb mc : M Val} {pos : Pos}
theorem ss_raise {k : Nat} {x ms : Str} {j : Nat} {p p2 cpos : Pos} (hc : X.calm = true) (hx : XC X.K (fa k)) (hm : X.mg x = some (.ref (fa k))) (hg : Gl X x) (hdb : (x == ("__debug__" : Str)) = false) :
    SimS fa X (.Raise (some (.Call (.Name x p) [.Constant (.str ms) j p2] [] cpos)) none pos) (fun env S => .exc ⟨k, []⟩ env S) := by
  refine ⟨fun W tk => PS.imp (ps_raise hc tk (pmk_own PySem.F.excBase_ValueError hx.exc hm hx.kp (raises_own hx.sub hx.ty) hg hdb)) fun D σ H q => ?_⟩
  obtain ⟨env, S, F, ρ, s, e, p⟩ := q
  exact p _ _ σ F H ρ s (Ext.refl ..) e ⟨rfl, .inl ⟨rfl, rfl⟩⟩

/-! ### try -/
theorem takes_none {X : Cx} : Takes X (fun _ _ _ _ => False) := fun u s' ⟨_, _, _, _, _, _, _, _, _, _, _, _, _, _, _, _, w⟩ => w.elim
theorem ss_try {i : Nat} {n x : Str} {cv : Value} {body suite : List Stmt} {b₀ : Stmt} {np pos' : Pos} {mb mh : MS_} {yes no : List Nat} (hs : X.stack = X.env :: X.outer) (hf : X.env.frame = some X.env.locals) (hN : X.N.Nodup) (hi : X.N[i]? = some n) (hln : X.env.kindOf n = some .local) (hc : Names X x cv)
    (hy : ∀ k ∈ yes, PySem.W.exmOne X.K (.ref (fa k)) cv = some true ∧ k < exI) (hno : ∀ k ∈ no, PySem.W.exmOne X.K (.ref (fa k)) cv = some false)
    (hb : ∀ (pn : List (Addr × Obj)) (xe : Value → Shared → Prop), PassesOwn (model X.prog X.w) X.A X.env xe → SimSs fa (X.tr pn xe) body mb)
    (hsu : ∀ (a : Addr) (oe : Obj) (pn : List (Addr × Obj)) (k : Nat), k ∈ yes → Zc (.ref (fa k)) none oe → (∃ vs, oe.data = .fields vs) → SimSs (faX fa a (fa k)) (X.suite a ((a, oe) :: pn)) (b₀ :: suite) mh) :
    SimS fa X (.Try body [.ExceptHandler (some (.Name x np)) (some n) (b₀ :: suite) pos'] [] [] pos) (triS mb mh i yes no) := by
  refine ⟨fun W tk => PS.imp (ps_try_as (tb := fun W => rdS X.K fa W mb) (ts := fun a cls d D σ H => ∃ k ∈ yes, cls = .ref (fa k) ∧ d = none ∧ rdS X.K (faX fa a (fa k)) (fun _ _ _ _ => False) mh D σ H) hs hf hN hi hln hc tk
    (fun W pn xe tk hp => (hb pn xe hp).run W tk) fun a oe cls d pn hz hd => ⟨fun pins s σ H D I ⟨k, hk, e1, e2, q⟩ => ?_⟩) fun D σ H q => ?_⟩
  · subst e1 e2
    exact ((hsu a oe pn k hk hz hd).run _ takes_none).run pins s σ H D I q
  · obtain ⟨env, S, F, ρ, s, e, p⟩ := q
    refine ⟨env, S, F, ρ, s, e, ?_⟩
    unfold triS at p
    cases q0 : mb env S with
    | stuck => rw [q0] at p; exact p
    | nx env1 S1 => rw [q0] at p; exact p
    | ret v S1 => rw [q0] at p; exact p
    | brk env1 S1 => rw [q0] at p; exact p
    | cnt env1 S1 => rw [q0] at p; exact p
    | exc ee env1 S1 =>
      rw [q0] at p
      dsimp only at p
      split at p
      · rename_i hne
        rw [Bool.and_eq_true] at hne
        obtain ⟨hne, hargs⟩ := hne
        intro cc d σ' F' H' ρ' s' x' e' r'
        obtain ⟨rfl, r'⟩ := r'
        have hd : d = none := by
          rcases r' with ⟨_, z⟩ | ⟨_, _, _, z, _⟩
          · exact z
          · rw [z] at hargs; simp at hargs
        subst hd
        split at p
        · rename_i hyes
          have hk : ee.cls ∈ yes := by simpa using hyes
          obtain ⟨h1, h2⟩ := hy _ hk
          refine ⟨true, h1, fun _ a ha => ⟨ee.cls, hk, rfl, rfl, env1.set i (some (.exn ee)), S1, F', ρ', Sim.fax.mpr s', ?_, ?_⟩, fun z => by cases z⟩
          · refine (((EnvRep.fax hne).mpr e').put (x := .ref a) i (some (.ref a)) (fun v z => by cases z) fun ev z => ?_)
            cases z
            exact ⟨by rw [faX_i], h2, by rw [faX_lt _ _ _ h2, faX_c]⟩
          · have p1 := PostS.shift x' p
            cases q1 : mh (env1.set i (some (.exn ee))) S1 with
            | stuck => rw [q1] at p1; exact p1
            | brk _ _ => rw [q1] at p1; exact p1.elim
            | cnt _ _ => rw [q1] at p1; exact p1.elim
            | exc _ _ _ => rw [q1] at p1; exact p1.elim
            | ret v S2 =>
              rw [q1] at p1
              exact fun y F2 H2 ρ2 s2 x2 r2 => p1 y F2 H2 ρ2 (Sim.fax.mp s2) x2 (RepV.fax.mp r2)
            | nx env2 S2 =>
              rw [q1] at p1
              unfold sufS at p1
              dsimp only at p1
              split at p1
              · rename_i hne2
                exact fun σ2 F2 H2 ρ2 s2 x2 r2 => p1 _ F2 H2 ρ2 (Sim.fax.mp s2) x2 ((EnvRep.fax hne2).mp (r2.unset i))
              · exact p1.elim
        · split at p
          · rename_i _ hn
            have hk : ee.cls ∈ no := by simpa using hn
            exact ⟨false, hno _ hk, (fun z => by cases z), fun _ => p _ _ σ' F' H' ρ' s' x' e' ⟨rfl, r'⟩⟩
          · exact p.elim
      · exact p.elim

/-! ### isinstance in the suite -/
theorem sm_isx {a : Addr} {oe : Obj} {pn : List (Addr × Obj)} {k i : Nat} {n x : Str} {cv : V} {u : Value} {p p1 p2 : Pos} {yes no : List Nat} (hx : ExcC X.K (fa k)) (hz : Zc (.ref (fa k)) none oe) (hd : ∃ vs, oe.data = .fields vs)
    (hg : Gl X "isinstance") (hm : X.mg "isinstance" = none) (hN : X.N[i]? = some n) (hv : Vis X.env.scope n) (hn1 : (n == ("__debug__" : Str)) = false) (hn2 : (n == ("__classdict__" : Str)) = false)
    (hc : PE (X.suite a ((a, oe) :: pn)) (.Name x p2) (tC cv)) (hu : ∀ w, RelV cv w → w = u)
    (hy : ∀ j ∈ yes, PySem.W.kitOne X.K (.ref (fa j)) u = some true) (hno : ∀ j ∈ no, PySem.W.kitOne X.K (.ref (fa j)) u = some false) :
    SimE (faX fa a (fa k)) (X.suite a ((a, oe) :: pn)) (.Call (.Name "isinstance" p) [.Name n p1, .Name x p2] [] pos) (fun env S => .ofO ((lookX env i).bind fun e => if yes.contains e.cls then some (.d (.bool true)) else if no.contains e.cls then some (.d (.bool false)) else none) S) := by
  refine ⟨fun W tk => PE.imp (pe_callB (call_isE hx hz hd) hg hm boot_isinstance (pa_cons (pe_var (X := X.suite a ((a, oe) :: pn)) hN hv hn1 hn2) (pa_cons hc pa_nil rfl) rfl) (by decide) (by decide) rfl rfl) fun σ H Q q => ?_⟩
  obtain ⟨env, S, F, ρ, s, e, p⟩ := q
  obtain ⟨v, ev, q2⟩ := p.ofO
  cases q3 : lookX env i with
  | none => rw [q3] at ev; cases ev
  | some ee =>
    rw [q3] at ev
    obtain ⟨h1, h2, h3⟩ := e.exn i ee q3
    rw [faX_i] at h1
    rw [faX_c, faX_lt _ _ _ h2] at h3
    refine ⟨_, h1, ?_⟩
    simp only [Option.bind_some] at ev
    split at ev
    · rename_i hk
      cases ev
      refine ⟨cv, u, true, rfl, hu, ?_, q2 _ F H ρ s (Ext.refl ..) (Rep.bl true)⟩
      rw [← h3]; exact hy _ (by simpa using hk)
    · split at ev
      · rename_i hk
        cases ev
        refine ⟨cv, u, false, rfl, hu, ?_, q2 _ F H ρ s (Ext.refl ..) (Rep.bl false)⟩
        rw [← h3]; exact hno _ (by simpa using hk)
      · cases ev
end
end MS

-- MsZip
/-! zip of a list and a tuple. -/
namespace MS
open PySem PySem.Spec PyProof.Rows L2
/-- a list at a, a tuple at b -/
def ItM (K : PySem.W.Frag) (a b : Addr) : L2.It where
  go := fun j G => ∃ (us ws : List V) (u w : V), SqL K G a us ∧ SqT K G b ws ∧ us[j]? = some u ∧ ws[j]? = some w
  yld := fun j G v G' => ∃ T u w, v = .ref T ∧ G T = none ∧ G' = upd G T (.tup [u, w]) ∧ (∀ us, SqL K G a us → us[j]? = some u) ∧ ∀ ws, SqT K G b ws → ws[j]? = some w
  stop := fun j G => ∃ us ws : List V, SqL K G a us ∧ SqT K G b ws ∧ j = min us.length ws.length
theorem sep_of {z TI TO i1 i2 a b : Addr} (D : ZipApart z TI TO i1 i2 a b) : ZipSep2 z TI TO i1 i2 [i1, a] [i2, b] where
  TIz := D.TIz
  TOz := D.TOz
  TITO := D.TITO
  TIi1 := D.TIi1
  mem1 := by simp
  zf1 := by simp only [List.mem_cons, List.not_mem_nil, or_false, not_or]; exact ⟨D.i1z.symm, D.l1z.symm⟩
  Tf1 := by simp only [List.mem_cons, List.not_mem_nil, or_false, not_or]; exact ⟨D.TOi1, D.l1TO.symm⟩
  TIi2 := D.TIi2
  mem2 := by simp
  zf2 := by simp only [List.mem_cons, List.not_mem_nil, or_false, not_or]; exact ⟨D.i2z.symm, D.l2z.symm⟩
  Tf2 := by simp only [List.mem_cons, List.not_mem_nil, or_false, not_or]; exact ⟨D.TOi2, D.l2TO.symm⟩
  sep1_2 := by simp only [List.mem_cons, List.not_mem_nil, or_false, not_or]; exact ⟨D.i12, D.l2i1.symm⟩
  sep2_1 := by simp only [List.mem_cons, List.not_mem_nil, or_false, not_or]; exact ⟨D.i12.symm, D.l1i2.symm⟩
theorem turn_zipM {P : Program} {w : World} {K : PySem.W.Frag} {elts : List Expr} {kk : Nat} {tpos : Pos} {a b z TI TO i1 i2 : Addr} (D : ZipApart z TI TO i1 i2 a b) :
    Turn P w K (.Tuple elts kk tpos) (ItM K a b) [z, TI, TO, i1, i2] z (fun j h => IsZip h z TI TO .none ∧ IsPair h TI (.ref i1) (.ref i2) ∧ (∃ x y, IsPair h TO x y) ∧ h.IsListIter i1 a j ∧ h.IsTupleIter i2 b j) where
  mem := by simp
  obj := by
    rintro j h ⟨h0, hI, ⟨x, y, hO⟩, ⟨p1, q1, _, d1⟩, ⟨p2, q2, _, d2⟩⟩ c hc
    simp only [List.mem_cons, List.not_mem_nil, or_false] at hc
    rcases hc with rfl | rfl | rfl | rfl | rfl
    · exact ⟨_, h0, fun v q => nomatch q⟩
    · exact ⟨_, hI, fun v q => nomatch q⟩
    · exact ⟨_, hO, fun v q => nomatch q⟩
    · exact ⟨p1, q1, fun v q => by rw [d1] at q; cases q⟩
    · exact ⟨p2, q2, fun v q => by rw [d2] at q; cases q⟩
  keep := by
    rintro j h h' ⟨h0, hI, ⟨x, y, hO⟩, p1, p2⟩ k
    exact ⟨k z (by simp) _ h0, k TI (by simp) _ hI, ⟨x, y, k TO (by simp) _ hO⟩, p1.at fun o q => k i1 (by simp) o q, p2.at fun o q => k i2 (by simp) o q⟩
  item := by
    intro X hP hw hK hc j pins s σ H E I hf st hg
    subst hP hw hK
    obtain ⟨h0, hI, ⟨x0, y0, hO⟩, p1, p2⟩ := st
    obtain ⟨us, ws, x, y, hqx, hqy, hx, hy⟩ := hg
    obtain ⟨it1, rv1, l1, _⟩ := I.list hqx
    obtain ⟨it2, rv2, l2, _⟩ := I.tuple hqy
    obtain ⟨u, hu, ru⟩ := rv1.get hx
    obtain ⟨v, hv, rv⟩ := rv2.get hy
    have hzl : z < s.heap.objs.size := Heap.lt_size h0
    have hd := I.ok.hd hc
    have lu := (List.getElem?_eq_some_iff.mp hu).1
    have lv := (List.getElem?_eq_some_iff.mp hv).1
    refine wpAny_pyNext_zipD2_item (sep_of D) (Draws.list (A := X.A.in1) (items := it1.toArray) hd i1 a D.l1i1) (Draws.tuple (A := X.A.in1) (items := it2.toArray) hd i2 b D.l2i2) h0 hI hO ⟨p1, l1.isList⟩ ⟨p2, l2⟩ (by simpa using lu) (by simpa using lv) ?_
    intro u' v' h' tk e1 e2 z' TO' s1 s2 hT hsz hk
    have e1 : it1[j]? = some u' := by simpa using e1
    have e2 : it2[j]? = some v' := by simpa using e2
    obtain rfl : u' = u := by rw [hu] at e1; exact (Option.some.inj e1).symm
    obtain rfl : v' = v := by rw [hv] at e2; exact (Option.some.inj e2).symm
    refine ⟨_, rfl, wpAny_letOwnedTupleGo_zip (s := { s with heap := h', toks := tk }) z' fun h'' z'' sb => ?_⟩
    have hT2 : h''.get? s.heap.objs.size = some { cls := .type "tuple", data := .seq #[u', v'] } := (sb.2 _ (Nat.ne_of_gt hzl)).trans hT
    have I1 : Inv X pins σ (upd H s.heap.objs.size (.tup [x, y])) { s with heap := h'', toks := tk } := by
      refine I.turnedNew (t' := tk) (ch := [z, TI, TO, i1, i2]) (fun c o hb q => ?_) hf (Nat.le_refl _) ⟨by show 2 ≤ sizeLine; decide, [u', v'], .cons ru (.cons rv .nil), ⟨_, hT2, rfl, _, rfl⟩⟩
      simp only [List.mem_cons, List.not_mem_nil, or_false, not_or] at hb
      exact (sb.2 c hb.1).trans (hk c o hb.1 hb.2.2.1 hb.2.2.2.1 hb.2.2.2.2 q)
    refine ⟨.ref s.heap.objs.size, _, I1, rfl, ⟨_, x, y, rfl, I.hok.fresh (Nat.le_refl _), rfl, fun l hl => by rw [I.list_inj hl hqx]; exact hx, fun l hl => by rw [I.tuple_inj hl hqy]; exact hy⟩, ⟨z'', ?_, ⟨u', v', (sb.2 _ D.TOz).trans TO'⟩, ?_, ?_⟩, fun c hcm => ?_⟩
    · exact (sb.2 _ D.TIz).trans (hk _ _ D.TIz D.TITO D.TIi1 D.TIi2 hI)
    · exact s1.1.at fun o q => (sb.2 _ D.i1z).trans q
    · exact s2.1.at fun o q => (sb.2 _ D.i2z).trans q
    · have hlt : c < s.heap.objs.size := by
        have e' := hcm
        simp only [List.mem_cons, List.not_mem_nil, or_false] at e'
        rcases e' with q | q | q | q | q
        · rw [q]; exact hzl
        · rw [q]; exact Heap.lt_size hI
        · rw [q]; exact Heap.lt_size hO
        · obtain ⟨_, e1, _⟩ := p1; rw [q]; exact Heap.lt_size e1
        · obtain ⟨_, e2, _⟩ := p2; rw [q]; exact Heap.lt_size e2
      rw [upd_ne (Nat.ne_of_lt hlt)]
      exact (hf c hcm).1
  done := by
    intro X hP hw hK hc j pins s σ H E I hf st hg
    subst hP hw hK
    obtain ⟨h0, hI, ⟨x0, y0, hO⟩, p1, p2⟩ := st
    obtain ⟨us, ws, hqx, hqy, hend⟩ := hg
    obtain ⟨it1, rv1, l1, _⟩ := I.list hqx
    obtain ⟨it2, rv2, l2, _⟩ := I.tuple hqy
    have n1 := rv1.length
    have n2 := rv2.length
    have hd := I.ok.hd hc
    refine wpAny_pyNext_zipD2_end (i := j) (sep_of D) (Draws.list (A := X.A.in1) (items := it1.toArray) hd i1 a D.l1i1) (Draws.tuple (A := X.A.in1) (items := it2.toArray) hd i2 b D.l2i2) h0 hI hO ⟨p1, l1.isList⟩ ⟨p2, l2⟩ (by simp; omega) (by simp; omega) (by simp; omega) ?_
    intro h' tk hk
    refine ⟨rfl, I.turnedL (t' := tk) (ch := [z, TI, TO, i1, i2]) (fun c o hb q => ?_) hf⟩
    simp only [List.mem_cons, List.not_mem_nil, or_false, not_or] at hb
    exact hk c o hb.1 hb.2.2.1 hb.2.2.2.1 hb.2.2.2.2 q
  self := fun A i s Q E st h => wpAny_pyIter_zip st.1 h
/-- zip of two lists, of two tuples, of a list and a tuple -/
def iZipB (K : PySem.W.Frag) (ta : TA) : TI := fun σ H R => ta σ H fun vs H1 => ∃ a b xs ys, vs = [.ref a, .ref b] ∧
  ((SqL K H1 a xs ∧ SqL K H1 b ys ∧ R (Itz K a b) H1) ∨ (SqT K H1 a xs ∧ SqT K H1 b ys ∧ R (RZ.ItzT K a b) H1) ∨ (SqL K H1 a xs ∧ SqT K H1 b ys ∧ R (ItM K a b) H1))
theorem pi_zipB {X : Cx} {e e2 : Expr} {ta : TA} {p pos tpos : Pos} {elts : List Expr} {kk : Nat} (hg : Gl X "zip") (hm : X.mg "zip" = none) (ha : PA X [e, e2] ta)
    (hs : starEach [e, e2] X.env = (false, eval e X.env) :: starEach [e2] X.env) (hpl : (backTo pos (starEach [e2] X.env)).any (·.1) = false) :
    PI X (.Tuple elts kk tpos) (.Call (.Name "zip" p) [e, e2] [] pos) (iZipB X.K ta) := by
  constructor
  intro pins s σ H R I h
  refine Call_ (ld_blt I hg hm PyProof.Rows.boot_zip (PyProof.Rows.callWith_type1 (thn (ha.run pos pins s σ H _ I h) fun us s1 ⟨vs, H1, I1, r1, q1⟩ => ?_) hs hpl))
  obtain ⟨a, b, xs, ys, rfl, q1⟩ := q1
  cases r1 with
  | cons r rr =>
    cases rr with
    | cons r' rr =>
      cases rr
      cases r
      cases r'
      have n5 : ∀ c, c ∈ [s1.heap.objs.size + 4, s1.heap.objs.size + 2, s1.heap.objs.size + 3, s1.heap.objs.size, s1.heap.objs.size + 1] → FpOk X pins H1 c := fun c hcm => by
        simp only [List.mem_cons, List.not_mem_nil, or_false] at hcm
        have hle : s1.heap.objs.size ≤ c := by omega
        exact I1.fpOk hle (I1.hok.fresh hle)
      rcases q1 with ⟨hqx, hqy, q⟩ | ⟨hqx, hqy, q⟩ | ⟨hqx, hqy, q⟩
      · obtain ⟨it1, rv, l1, _⟩ := I1.list hqx
        obtain ⟨it2, rv2, l2, _⟩ := I1.list hqy
        refine call_zip_2 l1.isList l2.isList fun h' g1 g2 g3 g4 g5 hsz hk => wpAny_pyIter_zip g1 ?_
        exact ⟨s1.heap.objs.size + 4, _, _, _, H1, rfl, I1.kept (t' := s1.toks) hk, turn_zip (PySem.W.ktu_apart s1.heap.objs.size a b l1.lt l2.lt), ⟨g1, g2, ⟨_, _, g3⟩, g4, g5⟩, n5, q⟩
      · obtain ⟨it1, rv, l1, _⟩ := I1.tuple hqx
        obtain ⟨it2, rv2, l2, _⟩ := I1.tuple hqy
        obtain ⟨o1, ho1, _⟩ := id l1
        obtain ⟨o2, ho2, _⟩ := id l2
        refine RZ.call_zipT (xs := it1.toArray) (ys := it2.toArray) l1 l2 fun h' g1 g2 g3 g4 g5 hsz hk => wpAny_pyIter_zip g1 ?_
        exact ⟨s1.heap.objs.size + 4, _, _, _, H1, rfl, I1.kept (t' := s1.toks) hk, RZ.turn_zipT (PySem.W.ktu_apart s1.heap.objs.size a b (Heap.lt_size ho1) (Heap.lt_size ho2)), ⟨g1, g2, ⟨_, _, g3⟩, g4, g5⟩, n5, q⟩
      · obtain ⟨it1, rv, l1, _⟩ := I1.list hqx
        obtain ⟨it2, rv2, l2, _⟩ := I1.tuple hqy
        obtain ⟨o2, ho2, _⟩ := id l2
        refine zip_begins2 (begins_list a it1.toArray) (begins_tuple b it2.toArray) l1.isList l2 fun h' g1 g2 g3 g4 g5 hsz hk => wpAny_pyIter_zip g1 ?_
        exact ⟨s1.heap.objs.size + 4, _, _, _, H1, rfl, I1.kept (t' := s1.toks) hk, turn_zipM (PySem.W.ktu_apart s1.heap.objs.size a b l1.lt (Heap.lt_size ho2)), ⟨g1, g2, ⟨_, _, g3⟩, ⟨_, g4, rfl, rfl⟩, ⟨_, g5, rfl, rfl⟩⟩, n5, q⟩
end MS

-- MsExc2
/-! calls that see data; zip; max and min of two. -/
namespace MS
open PySem PySem.Spec PyProof.Rows L2

/-! ### calls that see data -/
section
variable {K : PySem.W.Frag} {fa : FA} {F H : Hp} {ρ : Nat → Addr} {S : Sto}
theorem deep_reps {n : Nat} {f : Val → Option D} (hf : ∀ x v d, RepV K fa F ρ n x v → f v = some d → Rep K H x d) : ∀ {xs : List V} {vs : List Val} {ds : List D}, RepVs K fa F ρ n xs vs → allO (vs.map f) = some ds → Reps K H xs ds
  | _, [], ds, .nil, e => by simp [allO] at e; subst e; exact .nil
  | _, v :: vs, ds, .cons r rs, e => by
    rw [List.map_cons] at e
    cases q : f v with
    | none => rw [q] at e; simp [allO] at e
    | some d =>
      rw [q] at e
      simp only [allO] at e
      cases q2 : allO (vs.map f) with
      | none => rw [q2] at e; cases e
      | some es =>
        rw [q2] at e
        cases e
        exact .cons (hf _ _ _ r q) (deep_reps hf rs q2)
theorem deep_rep (s : Sim K fa F H ρ S) : ∀ (k : Nat) (x : V) (v : Val) (d : D), RepV K fa F ρ S.length x v → deepV S k v = some d → Rep K H x d
  | 0, x, .d y, d, r, e => by simp [deepV] at e; subst e; exact Rep.mono s.sub r
  | k + 1, x, .d y, d, r, e => by simp [deepV] at e; subst e; exact Rep.mono s.sub r
  | 0, x, .ref n, d, r, e => by simp [deepV] at e
  | 0, x, .fn n, d, r, e => by simp [deepV] at e
  | 0, x, .scr n, d, r, e => by simp [deepV] at e
  | k + 1, x, .fn n, d, r, e => by simp [deepV] at e
  | k + 1, x, .scr n, d, r, e => by simp [deepV] at e
  | _, x, .exn n, d, r, e => (show False from r).elim
  | k + 1, x, .ref n, d, r, e => by
    obtain ⟨_, rfl⟩ := r
    simp only [deepV] at e
    cases q : stGet S n with
    | none => rw [q] at e; cases e
    | some o =>
      rw [q] at e
      cases o with
      | dct _ => cases e
      | lst vs =>
        dsimp only at e
        cases q2 : allO (vs.map (deepV S k)) with
        | none => rw [q2] at e; cases e
        | some ds =>
          rw [q2] at e
          cases e
          obtain ⟨ho, h2, r2⟩ := s.obj n _ q
          cases r2 with
          | lst r2 => exact .lst h2 (deep_reps (fun x v d r e => deep_rep s k x v d r e) r2 q2)
theorem Rep.imm {F' : Hp} {x : V} {d : D} (r : Rep K F x d) (h : immB d = true) : Rep K F' x d := by
  cases r with
  | non => exact .non
  | bl b => exact .bl b
  | int i => exact .int i
  | str x => exact .str x
  | lst _ _ => cases h
  | tup _ _ => cases h
  | dct _ _ _ => cases h
end
section
variable {fa : FA} {X : Cx} {pe a b c : Expr} {m ma mb mc : M Val} {pos : Pos} {nm : Nat → Str} {ps : Nat → List Str} {I : List Nat} {C : Runner} {k : Nat}
theorem rd_callP {i : Nat} {W : WX} {ms : M (List Val)} {σ : L2.St} {H : Hp} {Q : VK} (q : rdE X.K fa W (fun env S => (ms env S).bind fun vs S1 => callPV C i vs S1) σ H Q) : tCallG (spR X.K fa (C i)) (WE W) (rdA X.K fa W ms) σ H Q := by
  refine q.bind (rep := RepVs X.K fa) fun env vs S1 xs F1 H1 ρ1 s1 e1 r1 p1 => ?_
  unfold callPV at p1
  cases q1 : allO (vs.map (deepV S1 3)) with
  | none => rw [q1] at p1; exact p1.elim
  | some ds =>
    rw [q1] at p1
    dsimp only at p1
    have nn : ∀ n u, stGet ([] : Sto) n = some u → False := fun n u z => by simp [stGet] at z
    refine ⟨ds.map Val.d, [], H1, ρ1, ⟨Same.refl _, fun n o z => (nn n o z).elim, fun n o z => (nn n o z).elim, fun n m o u z => (nn n o z).elim⟩, RepVs.of_pure (deep_reps (fun x v d r e => deep_rep s1 3 x v d r e) r1 q1), ?_⟩
    cases q2 : C i (ds.map Val.d) [] with
    | stuck => rw [q2] at p1; exact p1
    | exc _ _ => rw [q2] at p1; exact p1.elim
    | ok v S2 =>
      rw [q2] at p1
      cases v with
      | d x =>
        dsimp only at p1
        split at p1
        · rename_i hi
          intro y F' H' ρ' s' x' r'
          have kp : ∀ a o, H1 a = some o → H' a = some o := fun a o h => x'.frame a o h fun n u z => (nn n u z).elim
          refine p1 y F1 H' ρ1 ⟨fun a o h => kp a o (s1.sub a o h), s1.off, fun n o h => ?_, s1.inj⟩ ⟨Same.refl _, fun _ _ => rfl, Nat.le_refl _, fun a o h _ => kp a o h, fun a o h => ⟨o, kp a o h⟩, fun n u h => .inl ⟨stGet_lt h, u, h⟩, fun a o h => .inl (by rw [h]; intro z; cases z)⟩ (Rep.imm (show Rep X.K F' y x from r') hi)
          obtain ⟨z, hz, rz⟩ := s1.obj n o h
          exact ⟨z, kp _ _ hz, rz⟩
        · exact p1.elim
      | _ => exact p1.elim
theorem sm_callP {i : Nat} {p : Pos} {e : Expr} {es : List Expr} {ms : M (List Val)} (L : Lib X fa nm ps I C k) (hi : i ∈ I) (hr : Room k X.A) (hgu : X.A.guards = some []) (hg : Gl X (nm i)) (hdb : (nm i == ("__debug__" : Str)) = false) (ha : SimA fa X (e :: es) ms) (hs : (e :: es).all noStar = true) :
    SimE fa X (.Call (.Name (nm i) p) (e :: es) [] pos) (fun env S => (ms env S).bind fun vs S1 => callPV C i vs S1) := by
  obtain ⟨fd, hb, F⟩ := L.fn i hi
  rw [List.all_cons, Bool.and_eq_true] at hs
  exact ⟨fun W tk => PE.imp (pe_callG (E := WE W) F hr hgu hg (L.mg i hi) (L.kp i hi) hb (fun σ => passAt tk σ) (ha.run W tk) hdb (starEach_cons hs.1 _ _) (starEach_plain es X.env pos hs.2)) fun σ H Q q => rd_callP q⟩

/-! ### max, min of two -/
def mmS (k : Bool) : Str := if k then "max" else "min"
theorem boot_max : bootBuiltins "max" = some (.builtin "max") := by decide +kernel
theorem boot_min : bootBuiltins "min" = some (.builtin "min") := by decide +kernel
theorem sm_mm (k : Bool) {p : Pos} (hc : X.calm = true) (hg : Gl X (mmS k)) (hm : X.mg (mmS k) = none) (ha : SimE fa X a ma) (hb : SimE fa X b mb) (hn : noStar a = true) (hn2 : noStar b = true) :
    SimE fa X (.Call (.Name (mmS k) p) [a, b] [] pos) (fun env S => (ma env S).bind fun x S1 => (mb env S1).bind fun y S2 =>
      .ofO (match x, y with | .d (.int i), .d (.int j) => some (.d (.int (if k then (if j > i then j else i) else (if j < i then j else i)))) | _, _ => none) S2) := by
  have key : ∀ {W : WX} {r : List V → Hp → VK → Prop} {σ : L2.St} {H : Hp} {Q : VK}, (∀ i j H Q, Q (.int (if k then (if j > i then j else i) else (if j < i then j else i))) H → r [.int i, .int j] H Q) →
      rdE X.K fa W (fun env S => (ma env S).bind fun x S1 => (mb env S1).bind fun y S2 => .ofO (match x, y with | .d (.int i), .d (.int j) => some (.d (.int (if k then (if j > i then j else i) else (if j < i then j else i)))) | _, _ => none) S2) σ H Q →
      rdA X.K fa W (mcons ma (mcons mb mnil)) σ H (fun xs H1 => r xs H1 Q) := by
    intro W r σ H Q hr q
    obtain ⟨env, S, F, ρ, s, e, p⟩ := q
    refine ⟨env, S, F, ρ, s, e, ?_⟩
    dsimp only at p
    unfold mcons mnil
    cases q0 : ma env S with
    | stuck => rw [q0] at p; exact p
    | exc e S' => rw [q0] at p; exact p
    | ok v S1 =>
      rw [q0] at p
      simp only [R.bind_ok] at p ⊢
      cases q1 : mb env S1 with
      | stuck => rw [q1] at p; exact p
      | exc e S' => rw [q1] at p; exact p
      | ok u S2 =>
        rw [q1] at p
        simp only [R.bind_ok] at p ⊢
        intro xs F1 H1 ρ1 s1 x1 r1
        cases r1 with
        | cons r1 rn =>
          cases rn with
          | cons r2 rn =>
            cases rn
            cases v with
            | d d =>
              cases d with
              | int n =>
                cases u with
                | d d2 =>
                  cases d2 with
                  | int n2 =>
                    cases (show Rep X.K F1 _ (.int n) from r1)
                    cases (show Rep X.K F1 _ (.int n2) from r2)
                    exact hr _ _ _ _ (p _ F1 H1 ρ1 s1 x1 (Rep.int _))
                  | _ => exact p.elim
                | _ => exact p.elim
              | _ => exact p.elim
            | _ => exact p.elim
  have hs : starEach [b] X.env = [(false, eval b X.env)] := by rw [starEach_cons hn2]; rfl
  cases k with
  | true => exact ⟨fun W tk => PE.imp (pe_callB (call_max2 hc) hg hm boot_max ((sa_cons ha (sa_cons hb sa_nil hn2) hn).run W tk) (by decide) (by decide) (by rw [starEach_cons hn]) (starEach_plain [b] X.env pos (by simp [hn2]))) fun σ H Q q => key (r := fun xs H Q => ∃ i j, xs = [V.int i, V.int j] ∧ Q (V.int (if j > i then j else i)) H) (fun i j H Q z => ⟨i, j, rfl, z⟩) q⟩
  | false => exact ⟨fun W tk => PE.imp (pe_callB (call_min2 hc) hg hm boot_min ((sa_cons ha (sa_cons hb sa_nil hn2) hn).run W tk) (by decide) (by decide) (by rw [starEach_cons hn]) (starEach_plain [b] X.env pos (by simp [hn2]))) fun σ H Q q => key (r := fun xs H Q => ∃ i j, xs = [V.int i, V.int j] ∧ Q (V.int (if j < i then j else i)) H) (fun i j H Q z => ⟨i, j, rfl, z⟩) q⟩

/-! ### zip -/
theorem zipD_get {xs ys : List D} {i : Nat} {v : Val} (h : (zipD xs ys)[i]? = some v) : ∃ x y, xs[i]? = some x ∧ ys[i]? = some y ∧ v = .d (.tuple [x, y]) := by
  unfold zipD at h
  rw [List.getElem?_map] at h
  cases q : (xs.zip ys)[i]? with
  | none => rw [q] at h; cases h
  | some z =>
    rw [q] at h
    cases h
    obtain ⟨x, y⟩ := z
    rw [List.getElem?_zip_eq_some] at q
    exact ⟨x, y, q.1, q.2, rfl⟩
theorem it_zip {K : PySem.W.Frag} {F H : Hp} {ρ : Nat → Addr} {S : Sto} {J : L2.It} {Sq Sq2 : Hp → Addr → List V → Prop} {l m : Addr} {xs ys : List V} {ds es : List D} (s : Sim K fa F H ρ S) (h1 : ∀ H', Same F H' → Sq H' l xs) (h2 : ∀ H', Same F H' → Sq2 H' m ys) (r1 : Reps K F xs ds) (r2 : Reps K F ys es) (hz : xs.length ≤ sizeLine)
    (hgo : ∀ i H, (∃ (xs ys : List V) (x y : V), Sq H l xs ∧ Sq2 H m ys ∧ xs[i]? = some x ∧ ys[i]? = some y) → J.go i H) (hst : ∀ i H, (∃ xs ys : List V, Sq H l xs ∧ Sq2 H m ys ∧ i = min xs.length ys.length) → J.stop i H)
    (hyl : ∀ i H v H', J.yld i H v H' → ∃ T x y, v = .ref T ∧ H T = none ∧ H' = upd H T (.tup [x, y]) ∧ (∀ xs, Sq H l xs → xs[i]? = some x) ∧ ∀ ys, Sq2 H m ys → ys[i]? = some y) : ItRep K fa F H ρ S J (zipD ds es, []) := by
  have hl : (zipD ds es).length = min xs.length ys.length := by simp [zipD, r1.length, r2.length]
  refine ⟨by rw [hl]; omega, F, s.sub, fun n u hu => s.off n u hu, ⟨fun i H' hk hi => ?_, fun H' hk => hst _ _ ⟨xs, ys, h1 H' hk, h2 H' hk, hl⟩, fun i H' x H'' v F' hk hF sF hv hy => ?_⟩⟩
  · rw [hl] at hi
    exact hgo _ _ ⟨xs, ys, xs[i]'(by omega), ys[i]'(by omega), h1 H' hk, h2 H' hk, List.getElem?_eq_getElem _, List.getElem?_eq_getElem _⟩
  · obtain ⟨T, u, w, rfl, hT, rfl, hu, hw⟩ := hyl _ _ _ _ hy
    obtain ⟨d, e, hd, he, rfl⟩ := zipD_get hv
    obtain ⟨u', hu', ru⟩ := r1.get hd
    obtain ⟨w', hw', rw'⟩ := r2.get he
    have z1 := hu xs (h1 _ hk)
    have z2 := hw ys (h2 _ hk)
    rw [hu'] at z1; cases z1
    rw [hw'] at z2; cases z2
    refine ⟨upd F' T (.tup [u, w]), .inr (.inl ⟨T, _, hT, rfl, rfl⟩), ?_⟩
    have fF : F' T = none := sF.free hT
    have sF' : Same F' (upd F' T (.tup [u, w])) := fun b o hb => by rw [upd_ne (ne_of_none hb fF)]; exact hb
    exact Rep.tup upd_same (.cons (ru.mono (hF.trans sF')) (.cons (rw'.mono (hF.trans sF')) .nil))
theorem si_zip {p tpos : Pos} {elts : List Expr} {kk : Nat} (hg : Gl X "zip") (hm : X.mg "zip" = none) (ha : SimE fa X a ma) (hb : SimE fa X b mb) (hn : noStar a = true) (hn2 : noStar b = true) :
    SimI fa X (.Tuple elts kk tpos) (.Call (.Name "zip" p) [a, b] [] pos) (fun env S => (ma env S).bind fun x S1 => (mb env S1).bind fun y S2 => .ofO (zipV S2 x y) S2) := by
  refine ⟨fun W tk => PI.imp (pi_zipB hg hm (PA.size ((sa_cons ha (sa_cons hb sa_nil hn2) hn).run W tk)) (by rw [starEach_cons hn]) (starEach_plain [b] X.env pos (by simp [hn2]))) fun σ H Q q => ?_⟩
  obtain ⟨env, S, F, ρ, s, e, p⟩ := q
  refine ⟨env, S, F, ρ, s, e, ?_⟩
  dsimp only at p
  unfold mcons mnil
  cases q0 : ma env S with
  | stuck => rw [q0] at p; exact p
  | exc e S' => rw [q0] at p; exact p
  | ok v S1 =>
    rw [q0] at p
    simp only [R.bind_ok] at p ⊢
    cases q1 : mb env S1 with
    | stuck => rw [q1] at p; exact p
    | exc e S' => rw [q1] at p; exact p
    | ok u S2 =>
      rw [q1] at p
      simp only [R.bind_ok] at p ⊢
      intro xs F1 H1 ρ1 s1 x1 r1 hz
      cases r1 with
      | cons r1 rn =>
        cases rn with
        | cons r2 rn =>
          cases rn
          unfold zipV at p
          split at p
          · cases (show Rep X.K F1 _ (.list _) from r1) with
            | lst h1 q1 =>
              cases (show Rep X.K F1 _ (.list _) from r2) with
              | lst h2 q2 =>
                refine ⟨_, _, _, _, rfl, .inl ⟨SqL.of (s1.sub _ _ h1), SqL.of (s1.sub _ _ h2), p _ F1 H1 ρ1 s1 x1 (it_zip (Sq := fun H a xs => SqL X.K H a xs) (Sq2 := fun H a xs => SqL X.K H a xs) s1 (fun H' hk => SqL.of (hk _ _ h1)) (fun H' hk => SqL.of (hk _ _ h2)) q1 q2 (hz _ _ _ rfl (.inl (SqL.of (s1.sub _ _ h1)))) (fun i H z => z) (fun i H ⟨xs, ys, z1, z2, z3⟩ => ⟨xs, ys, z1, z2, by omega⟩) fun i H v H' z => z)⟩⟩
          · cases (show Rep X.K F1 _ (.tuple _) from r1) with
            | tup h1 q1 =>
              cases (show Rep X.K F1 _ (.tuple _) from r2) with
              | tup h2 q2 =>
                refine ⟨_, _, _, _, rfl, .inr (.inl ⟨SqT.of (s1.sub _ _ h1), SqT.of (s1.sub _ _ h2), p _ F1 H1 ρ1 s1 x1 (it_zip (Sq := fun H a xs => SqT X.K H a xs) (Sq2 := fun H a xs => SqT X.K H a xs) s1 (fun H' hk => SqT.of (hk _ _ h1)) (fun H' hk => SqT.of (hk _ _ h2)) q1 q2 (hz _ _ _ rfl (.inr (SqT.of (s1.sub _ _ h1)))) (fun i H z => z) (fun i H ⟨xs, ys, z1, z2, z3⟩ => ⟨xs, ys, z1, z2, by omega⟩) fun i H v H' z => z)⟩)⟩
          · cases (show Rep X.K F1 _ (.list _) from r1) with
            | lst h1 q1 =>
              cases (show Rep X.K F1 _ (.tuple _) from r2) with
              | tup h2 q2 =>
                refine ⟨_, _, _, _, rfl, .inr (.inr ⟨SqL.of (s1.sub _ _ h1), SqT.of (s1.sub _ _ h2), p _ F1 H1 ρ1 s1 x1 (it_zip (Sq := fun H a xs => SqL X.K H a xs) (Sq2 := fun H a xs => SqT X.K H a xs) s1 (fun H' hk => SqL.of (hk _ _ h1)) (fun H' hk => SqT.of (hk _ _ h2)) q1 q2 (hz _ _ _ rfl (.inl (SqL.of (s1.sub _ _ h1)))) (fun i H z => z) (fun i H z => z) fun i H v H' z => z)⟩)⟩
          · exact p.elim
end
end MS

-- MsDic
/-! Sorting; dicts of the store. -/
namespace MS
open PySem PySem.Spec PyProof.Rows L2
/-! ### sorted(xs) -/
/-- a value that stands for a datum -/
def StV (K : PySem.W.Frag) (F : Hp) (u : Value) (d : D) : Prop := ∃ x, RelV x u ∧ Rep K F x d
theorem each_of {K : PySem.W.Frag} {F : Hp} : ∀ {xs : List V} {us : List Value} {ds : List D}, Reps K F xs ds → Vals xs us → PySem.W.EachIs (StV K F) us ds
  | _, _, _, .nil, .nil => .nil
  | _, _, _, .cons h r, .cons q t => .cons ⟨_, q, h⟩ (each_of r t)
theorem of_each {K : PySem.W.Frag} {F : Hp} : ∀ {us : List Value} {ds : List D}, PySem.W.EachIs (StV K F) us ds → ∃ xs, Vals xs us ∧ Reps K F xs ds
  | _, _, .nil => ⟨[], .nil, .nil⟩
  | _, _, .cons ⟨x, q, h⟩ r => let ⟨xs, a, b⟩ := of_each r; ⟨x :: xs, .cons q a, .cons h b⟩
theorem sortOk_parts {ds : List D} (h : sortOk ds = true) : PySem.W.AllAlike ds ∧ (PySem.W.Sortable ds ∨ ∃ r, ds = .tuple [] :: r ∧ ∀ d ∈ r, ∃ xs, d = .tuple xs) ∧ ds.length ≤ sLine ∧ ∀ d ∈ ds, d.depth ≤ 60 := by
  unfold sortOk at h
  simp only [Bool.and_eq_true, List.all_eq_true, Bool.or_eq_true, decide_eq_true_eq] at h
  obtain ⟨⟨⟨h1, h2⟩, h3⟩, h4⟩ := h
  refine ⟨fun a ha b hb => h1 a ha b hb, ?_, h3, h4⟩
  rcases h2 with (h2 | h2) | h2
  · refine .inl (.inl fun d hd => ?_)
    have := h2 d hd
    unfold isTup1 at this
    split at this
    · exact ⟨_, _, rfl⟩
    · cases this
  · refine .inl (.inr fun d hd => ?_)
    have := h2 d hd
    refine ⟨fun z => ?_, fun xs z => ?_⟩
    · subst z; cases this
    · subst z; cases this
  · unfold fstE at h2
    split at h2
    · rename_i r
      refine .inr ⟨r, rfl, fun d hd => ?_⟩
      have := List.all_eq_true.mp h2 d hd
      unfold isTup at this
      split at this
      · exact ⟨_, rfl⟩
      · cases this
    · cases h2
section
variable {X : Cx} {fa : FA} {a : Expr} {ma : M Val} {pos : Pos}
theorem call_sortedD (hu : X.A.units + 65 < cLine) : CallR X (.builtin "sorted") (fun vs H Q => ∃ F l xs ds, vs = [.ref l] ∧ Same F H ∧ (SqL X.K H l xs ∨ SqT X.K H l xs) ∧ Reps X.K F xs ds ∧ sortOk ds = true ∧ ∀ p ys, H p = none → Reps X.K F ys (sortD ds) → Q (.ref p) (upd H p (.lst ys))) := by
  intro pins s σ H vs us Q I r ⟨F, l, xs, ds, e, sub, hl, rs, ok, q⟩
  subst e
  rw [Vals.ref1 r]
  obtain ⟨o1, o2, o3, o4⟩ := sortOk_parts ok
  obtain ⟨its, rv, col⟩ : ∃ its : List Value, Vals xs its ∧ ∀ A', Gath X.prog X.w A' s l its := by
    rcases hl with hl | hl
    · obtain ⟨its, rv, pl, hz⟩ := I.list hl
      exact ⟨its, rv, fun A' => gathL pl.isList (by rw [← rv.length]; exact hz)⟩
    · obtain ⟨its, rv, pl, hz⟩ := I.tuple hl
      exact ⟨its, rv, fun A' => gathT pl (by rw [← rv.length]; exact hz)⟩
  have ev := each_of rs rv
  have er : PySem.W.EachIs (fun v d => ∃ as, Reads s.heap v d as) its ds := ev.mono fun u d ⟨x, h1, h2⟩ => Rep.reads I sub h2 u h1
  have fin : ∀ out : List Value, out.length = ds.length → PySem.W.EachIs (StV X.K F) out (sortD ds) → EP X pins σ Q (.ref (s.heap.objs.size + 1)) { s with heap := sortedAll s.heap its (List.toArray out) } := fun out ho eo => by
    obtain ⟨ys, r1, r2⟩ := of_each eo
    obtain ⟨c, hc⟩ := sortedAll_at s.heap its (List.toArray out)
    have hn : H (s.heap.objs.size + 1) = none := I.hok.fresh (Nat.le_succ _)
    refine ⟨.ref (s.heap.objs.size + 1), _, I.laid (a := s.heap.objs.size + 1) (o := .lst ys) (t' := s.toks) (fun b u e => sortedAll_old e) (Nat.le_succ _) ⟨?_, out, c, r1, hc⟩, rfl, q _ ys hn r2⟩
    rw [r1.length, ho, ← sLine_eq]; exact o3
  exact sorted_dataC col ev er o1 o2 (by rw [← sLine_eq]; exact o3) (fun d hd => by have := o4 d hd; omega) fin
theorem sm_srt (nw : Bool) {p : Pos} (hu : X.A.units + 65 < cLine) (hg : Gl X "sorted") (hm : X.mg "sorted" = none) (ha : SimE fa X a ma) (hn : noStar a = true) :
    SimE fa X (.Call (.Name "sorted" p) [a] [] pos) (fun env S => (ma env S).bind fun x S1 => srtV false nw S1 x) := by
  refine ⟨fun W tk => PE.imp (pe_bi1 .sorted (call_sortedD hu) hg hm ((sa_cons ha sa_nil hn).run W tk) hn) fun σ H Q q => ?_⟩
  obtain ⟨env, S, F, ρ, s, e, p⟩ := q
  refine ⟨env, S, F, ρ, s, e, ?_⟩
  dsimp only at p
  unfold mcons mnil
  cases q0 : ma env S with
  | stuck => rw [q0] at p; exact p
  | exc e S' => rw [q0] at p; exact p
  | ok v S1 =>
    rw [q0] at p
    simp only [R.bind_ok] at p ⊢
    intro xs F1 H1 ρ1 s1 x1 r1
    cases r1 with
    | cons r1 rn =>
      cases rn
      rename_i x
      have p := Post.shift x1 p
      unfold srtV at p
      cases q3 : view S1 v with
      | none => rw [q3] at p; exact p.elim
      | some d =>
        rw [q3] at p
        cases d with
        | list ds =>
          dsimp only at p
          cases q4 : sortX false ds with
          | none => rw [q4] at p; exact p.elim
          | some ys =>
            rw [q4] at p
            dsimp only at p
            unfold sortX at q4
            dsimp only at q4
            split at q4
            · rename_i ok
              cases q4
              obtain ⟨l, xs', rfl, h1, rr⟩ := (s1.view r1 q3).list s1.sub
              refine ⟨F1, l, xs', ds, rfl, s1.sub, .inl (SqL.of h1), rr, ok, fun p' zs hp rz => ?_⟩
              cases nw with
              | true =>
                obtain ⟨ρ2, e2, s2, x2⟩ := s1.alloc hp (.lst (RepVs.of_pure rz))
                exact p _ F1 _ ρ2 s2 x2 ⟨by simp, by rw [e2]⟩
              | false =>
                obtain ⟨s2, x2, sF⟩ := s1.grow (o := .lst zs) hp
                exact p _ _ _ ρ1 s2 x2 (Rep.lst upd_same (rz.mono sF))
            · cases q4
        | tuple ds =>
          dsimp only at p
          cases q4 : sortX false ds with
          | none => rw [q4] at p; exact p.elim
          | some ys =>
            rw [q4] at p
            dsimp only at p
            unfold sortX at q4
            dsimp only at q4
            split at q4
            · rename_i ok
              cases q4
              obtain ⟨l, xs', rfl, h1, h1F, rr⟩ := (s1.view r1 q3).tuple s1.sub
              refine ⟨F1, l, xs', ds, rfl, s1.sub, .inr h1, rr, ok, fun p' zs hp rz => ?_⟩
              cases nw with
              | true =>
                obtain ⟨ρ2, e2, s2, x2⟩ := s1.alloc hp (.lst (RepVs.of_pure rz))
                exact p _ F1 _ ρ2 s2 x2 ⟨by simp, by rw [e2]⟩
              | false =>
                obtain ⟨s2, x2, sF⟩ := s1.grow (o := .lst zs) hp
                exact p _ _ _ ρ1 s2 x2 (Rep.lst upd_same (rz.mono sF))
            · cases q4
        | _ => exact p.elim
/-! ### sorted(set(xs)) of ints -/
theorem mem_insI {x k : Int} : ∀ {l : List Int}, k ∈ insI x l ↔ k = x ∨ k ∈ l
  | [] => by simp [insI]
  | y :: r => by
    unfold insI
    split
    · simp
    · split
      · rename_i h1 h2
        subst h2
        simp
      · rw [List.mem_cons, mem_insI, List.mem_cons]
        constructor
        · rintro (h | h | h)
          · exact .inr (.inl h)
          · exact .inl h
          · exact .inr (.inr h)
        · rintro (h | h | h)
          · exact .inr (.inl h)
          · exact .inl h
          · exact .inr (.inr h)
theorem pw_insI {x : Int} : ∀ {l : List Int}, l.Pairwise (· < ·) → (insI x l).Pairwise (· < ·)
  | [], _ => by simp [insI]
  | y :: r, h => by
    obtain ⟨h1, h2⟩ := List.pairwise_cons.mp h
    unfold insI
    split
    · rename_i z
      refine List.pairwise_cons.mpr ⟨fun k hk => ?_, h⟩
      rcases List.mem_cons.mp hk with rfl | hk
      · exact z
      · exact Int.lt_trans z (h1 k hk)
    · split
      · exact h
      · refine List.pairwise_cons.mpr ⟨fun k hk => ?_, pw_insI h2⟩
        rcases mem_insI.mp hk with rfl | hk
        · omega
        · exact h1 k hk
theorem mem_srtI {k : Int} : ∀ {ns : List Int}, k ∈ srtI ns ↔ k ∈ ns
  | [] => by simp [srtI]
  | n :: ns => by
    show k ∈ insI n (srtI ns) ↔ _
    rw [mem_insI, mem_srtI, List.mem_cons]
theorem pw_srtI : ∀ (ns : List Int), (srtI ns).Pairwise (· < ·)
  | [] => List.Pairwise.nil
  | n :: ns => pw_insI (pw_srtI ns)
theorem strict_ext : ∀ {a b : List Int}, a.Pairwise (· < ·) → b.Pairwise (· < ·) → (∀ k, k ∈ a ↔ k ∈ b) → a = b
  | [], [], _, _, _ => rfl
  | [], y :: b, _, _, h => by have := (h y).mpr (by simp); simp at this
  | x :: a, [], _, _, h => by have := (h x).mp (by simp); simp at this
  | x :: a, y :: b, ha, hb, h => by
    obtain ⟨a1, a2⟩ := List.pairwise_cons.mp ha
    obtain ⟨b1, b2⟩ := List.pairwise_cons.mp hb
    have e : x = y := by
      rcases List.mem_cons.mp ((h x).mp (by simp)) with z | z
      · exact z
      · rcases List.mem_cons.mp ((h y).mpr (by simp)) with w | w
        · exact w.symm
        · have := b1 x z; have := a1 y w; omega
    subst e
    rw [strict_ext a2 b2 fun k => ⟨fun z => ?_, fun z => ?_⟩]
    · rcases List.mem_cons.mp ((h k).mp (by simp [z])) with w | w
      · have := a1 k z; omega
      · exact w
    · rcases List.mem_cons.mp ((h k).mpr (by simp [z])) with w | w
      · have := b1 k z; omega
      · exact w
def tSrtSet (K : PySem.W.Frag) (ta : TE) : TE := fun σ H Q => ta σ H fun x H1 => ∃ (l : Addr) (ns : List Int), x = .ref l ∧ SqL K H1 l (ns.map V.int) ∧ ns.length < 64 ∧ ∀ p, H1 p = none → Q (.ref p) (upd H1 p (.lst ((srtI ns).map V.int)))
theorem boot_sorted : bootBuiltins "sorted" = some (.builtin "sorted") := by decide +kernel
theorem vals_ints : ∀ {us : List Value} {ns : List Int}, IntsAre us ns → Vals (ns.map V.int) us
  | _, _, .nil => .nil
  | _, _, .cons _ _ h => .cons ⟨_, rfl⟩ (vals_ints h)
theorem pe_srtSet {p p2 q : Pos} {ta : TE} (hg : Gl X "sorted") (hm : X.mg "sorted" = none) (hg2 : Gl X "set") (hm2 : X.mg "set" = none) (ha : PE X a ta) (hc : X.calm = true) (hn : noStar a = true) :
    PE X (.Call (.Name "sorted" p) [.Call (.Name "set" p2) [a] [] q] [] pos) (tSrtSet X.K ta) := by
  have na : starEach [a] X.env = (false, eval a X.env) :: starEach [] X.env := starEach_cons hn _ _
  refine ⟨fun pins s σ H Q I h => Call_ (ld_blt I hg hm boot_sorted (PyProof.Rows.callWith_builtin1 (PyProof.Rows.args_cons (Call_ (ld_blt I hg2 hm2 boot_set ?_)) rfl) rfl rfl))⟩
  refine PyProof.Rows.callWith_type1 (PyProof.Rows.args_cons (thn (ha.run pins s σ H _ I h) fun v s1 ⟨x, H1, I1, r1, q1⟩ => PyProof.Rows.args_nil ?_) na) na rfl
  obtain ⟨l, ns, rfl, hq, hl, q1⟩ := q1
  cases r1
  obtain ⟨its, r, pl, hz⟩ := I1.list hq
  refine set_of_list (I1.ok.hd hc) pl.isList (by simpa using RZ.intsAre_vals r) (by unfold scanBound; omega) fun h' tk c hS hcl hk => PyProof.Rows.args_nil ?_
  have I2 : Inv X pins σ H1 { s1 with heap := h', toks := tk } := I1.kept fun b o e => hk b o e
  refine sorted_set hS (I1.ok.hd hc) (by omega) fun s' p out cc ms k g o hp hgp hI hpw hmem hlen => ?_
  have em : ms = srtI ns := strict_ext hpw (pw_srtI ns) fun j => by rw [hmem, mem_srtI, decide_eq_true_eq]
  have hfree : H1 p = none := I2.hok.fresh hp
  have hv : Vals ((srtI ns).map V.int) out.toList := by rw [← em]; exact vals_ints hI
  have hle : ((srtI ns).map V.int).length ≤ sizeLine := by rw [List.length_map, ← em, hlen, sizeLine_eq]; omega
  have J : Inv X pins σ (upd H1 p (.lst ((srtI ns).map V.int))) { ({ s1 with heap := h', toks := tk } : Shared) with heap := s'.heap, gens := s'.gens, drawn := s'.drawn, toks := s'.toks } :=
    I2.call (ch := []) (Un.laid k hp hfree) (I2.hok.laid k hp ⟨hle, out.toList, cc, hv, hgp⟩) (by rw [g]; exact I2.bare) (fun _ z => nomatch z)
  have es : s' = { ({ s1 with heap := h', toks := tk } : Shared) with heap := s'.heap, gens := s'.gens, drawn := s'.drawn, toks := s'.toks } := by
    cases s'; cases s1; cases o; rfl
  rw [es]
  exact ⟨.ref p, _, J, rfl, q1 p hfree⟩
theorem sm_srtSet (nw : Bool) {p p2 q : Pos} (hg : Gl X "sorted") (hm : X.mg "sorted" = none) (hg2 : Gl X "set") (hm2 : X.mg "set" = none) (ha : SimE fa X a ma) (hc : X.calm = true) (hn : noStar a = true) :
    SimE fa X (.Call (.Name "sorted" p) [.Call (.Name "set" p2) [a] [] q] [] pos) (fun env S => (ma env S).bind fun x S1 => srtV true nw S1 x) := by
  refine ⟨fun W tk => PE.imp (pe_srtSet hg hm hg2 hm2 (ha.run W tk) hc hn) fun σ H Q q => ?_⟩
  refine q.bind (rep := RepV X.K fa) fun env v S1 x F1 H1 ρ1 s1 e1 r1 p => ?_
  unfold srtV at p
  cases q3 : view S1 v with
  | none => rw [q3] at p; exact p.elim
  | some d =>
    rw [q3] at p
    cases d with
    | list ds =>
      dsimp only at p
      cases q4 : sortX true ds with
      | none => rw [q4] at p; exact p.elim
      | some ys =>
        rw [q4] at p
        dsimp only at p
        unfold sortX at q4
        dsimp only at q4
        cases q5 : allI ds with
        | none => rw [q5] at q4; cases q4
        | some ns =>
          rw [q5, Option.bind_some] at q4
          split at q4
          · rename_i hz
            cases q4
            have r' := s1.view r1 q3
            rw [allI_some q5] at r'
            obtain ⟨l, xs', rfl, h1, rr⟩ := r'.list s1.sub
            rw [rr.ints] at h1
            refine ⟨l, ns, rfl, SqL.of h1, hz, fun p' hp => ?_⟩
            cases nw with
            | true =>
              obtain ⟨ρ2, e2, s2, x2⟩ := s1.alloc hp (.lst (RepVs.of_pure (Reps.of_ints (K := X.K) (F := F1) (srtI ns))))
              exact p _ F1 _ ρ2 s2 x2 ⟨by simp, by rw [e2]⟩
            | false =>
              obtain ⟨s2, x2, sF⟩ := s1.grow (o := .lst ((srtI ns).map V.int)) hp
              exact p _ _ _ ρ1 s2 x2 (Rep.lst upd_same (Reps.of_ints _))
          · cases q4
    | _ => exact p.elim
/-! ### dicts of the store -/
theorem sm_dctN : SimE fa X (.Dict [] [] pos) (fun _ S => .ok (.ref S.length) (S ++ [some (.dct [])])) := by
  refine ⟨fun W tk => PE.imp pe_dnewT fun σ H Q q => ?_⟩
  obtain ⟨env, S, F, ρ, s, e, p⟩ := q
  intro d hd
  obtain ⟨ρ2, e2, s2, x2⟩ := s.alloc hd (.dct .nil)
  exact p _ F _ ρ2 s2 x2 ⟨by simp, by rw [e2]⟩
theorem putD_rep {K : PySem.W.Frag} {F : Hp} {ρ : Nat → Addr} {n : Nat} {kvs : List (List Key × V)} {es : List (List Int × Val)} {ks : List Int} {x : V} {v : Val} (r : Paired (fun p q => p.1 = q.1.map Sum.inl ∧ RepV K fa F ρ n p.2 q.2) kvs es) (rx : RepV K fa F ρ n x v) :
    Paired (fun p q => p.1 = q.1.map Sum.inl ∧ RepV K fa F ρ n p.2 q.2) (putK kvs (ks.map Sum.inl) x) (putD es ks v) := by
  have inj : ∀ a b : List Int, (a.map Sum.inl : List Key) = b.map Sum.inl ↔ a = b := fun a b => by
    constructor
    · intro h
      induction a generalizing b with
      | nil =>
        cases b with
        | nil => rfl
        | cons _ _ => cases h
      | cons i a ih =>
        cases b with
        | nil => cases h
        | cons j b =>
          simp only [List.map_cons, List.cons.injEq, Sum.inl.injEq] at h
          rw [h.1, ih b h.2]
    · intro h; rw [h]
  have hany : (kvs.any fun kv => decide (kv.1 = ks.map Sum.inl)) = es.any fun p => decide (p.1 = ks) := by
    induction r with
    | nil => rfl
    | cons h1 h2 ih =>
      rw [List.any_cons, List.any_cons, ih, h1.1]
      congr 1
      exact decide_eq_decide.mpr (inj _ _)
  unfold putK putD
  rw [hany]
  split
  · rename_i hh
    clear hany hh
    induction r with
    | nil => exact .nil
    | @cons p q ps qs h1 h2 ih =>
      refine .cons ?_ ih
      obtain ⟨p1, p2⟩ := p
      obtain ⟨q1, q2⟩ := q
      dsimp only at h1 ⊢
      by_cases e : q1 = ks
      · rw [if_pos e, if_pos (by rw [h1.1, e])]
        exact ⟨h1.1, rx⟩
      · rw [if_neg e, if_neg (fun z => e ((inj _ _).mp (h1.1.symm.trans z)))]
        exact h1
  · have app : ∀ {a b : List (List Key × V)} {c d : List (List Int × Val)}, Paired (fun p q => p.1 = q.1.map Sum.inl ∧ RepV K fa F ρ n p.2 q.2) a c → Paired (fun p q => p.1 = q.1.map Sum.inl ∧ RepV K fa F ρ n p.2 q.2) b d → Paired (fun p q => p.1 = q.1.map Sum.inl ∧ RepV K fa F ρ n p.2 q.2) (a ++ b) (c ++ d) := by
      intro a b c d h1 h2
      induction h1 with
      | nil => exact h2
      | cons h _ ih => exact .cons h ih
    exact app r (.cons ⟨rfl, rx⟩ .nil)
theorem ints_kV (ks : List Int) : ((ks.map Sum.inl : List Key).map kV) = ks.map V.int := by
  rw [List.map_map]; rfl
theorem ss_setk {c : Expr} {mc : M Val} {es : List Expr} {mk : M (List Val)} {p2 p3 : Pos} {kk : Nat} (hu : X.A.units + 65 < cLine) (hc : SimE fa X c mc) (ha : SimE fa X a ma) (hk : SimA fa X es mk) (hcc : noComp c = true)
    (h1 : swappedStores [.Subscript a (.Tuple es kk p3) p2] c X.env = pure none) : SimS fa X (.Assign [.Subscript a (.Tuple es kk p3) p2] c pos)
    (fun env S => .ofR env (mc env S) fun v S1 => .ofR env (ma env S1) fun x S2 => .ofR env (mk env S2) fun kv S3 => setkV env x kv v S3) := by
  refine ⟨fun W tk => PS.imp (ps_asg (hc.run W tk) (pg_sub (ha.run W tk) (pe_tup (hk.run W tk)) (set_dict (by omega)) (fun v => rfl)) (noComp_ok hcc (some (.Subscript a (.Tuple es kk p3) p2)) pos.line X.env) h1 rfl) fun D σ H q => ?_⟩
  refine q.bind (rep := RepV X.K fa) fun env v S1 zv F1 H1 ρ1 s1 e1 r1 p1 => ?_
  refine ⟨env, S1, F1, ρ1, s1, e1, PostS.bind e1 p1 fun x S2 xv F2 H2 ρ2 s2 x2 r2 p2 => ?_⟩
  have e2 := e1.mono x2.fz x2.rho x2.len
  refine ⟨env, S2, F2, ρ2, s2, e2, PostS.bind (rep := RepVs X.K fa) e2 p2 fun kv S3 xs F3 H3 ρ3 s3 x3 r3 p3 => ?_⟩
  have e3 := e2.mono x3.fz x3.rho x3.len
  have x23 := x2.trans x3
  have rz := r1.mono x23.fz x23.rho x23.len
  have rx := r2.mono x3.fz x3.rho x3.len
  unfold setkV at p3
  cases x with
  | ref n =>
    obtain ⟨hn1, rfl⟩ := rx
    cases q1 : pureVs kv with
    | none => rw [q1] at p3; exact p3.elim
    | some ds =>
      rw [q1, Option.bind_some] at p3
      cases q2 : allI ds with
      | none => rw [q2] at p3; exact p3.elim
      | some ks =>
        rw [q2] at p3
        dsimp only at p3
        cases q3 : stGet S3 n with
        | none => rw [q3] at p3; exact p3.elim
        | some o =>
          rw [q3] at p3
          cases o with
          | lst _ => exact p3.elim
          | dct en =>
            dsimp only at p3
            split at p3
            · rename_i hz
              have rk := r3.pure q1
              rw [allI_some q2] at rk
              have ek : xs = (ks.map Sum.inl : List Key).map kV := by rw [ints_kV]; exact rk.ints
              refine ⟨by rw [ek, List.length_map, List.length_map, sizeLine_eq]; omega, fun b hb => ?_⟩
              obtain ⟨s4, x4, sF⟩ := s3.grow (o := .tup xs) hb
              obtain ⟨ho, h2, rr⟩ := s4.obj n _ q3
              cases rr with
              | dct rr =>
                obtain ⟨s5, x5⟩ := s4.put q3 (RepO.dct (putD_rep (ks := ks) rr (rz.mono sF (fun _ _ => rfl) (Nat.le_refl _))))
                refine ⟨_, _, rfl, DPut.t (k := ks.map Sum.inl) h2 (by rw [upd_same, ek]) (by rw [Paired.length rr, ← sLine_eq]; exact hz.1), ?_⟩
                exact p3 σ _ _ ρ3 s5 (x4.trans x5) (by rw [List.length_set]; exact e3.mono sF (fun _ _ => rfl) (Nat.le_refl _))
            · exact p3.elim
  | _ => exact p3.elim
end
end MS

-- MsItm
/-! The pairs of a dict with tuples for keys. -/
namespace MS
open PySem PySem.Spec PyProof.Rows L2
/-- each pair a new tuple, the key as it lies in the dict -/
def ItiT (d : Addr) (o : Obj) (kvs : List (List Key × V)) : L2.It where
  go i H := H d = some (.frz o (.dT kvs)) ∧ i < kvs.length
  yld i H x H' := ∃ T k v q, kvs[i]? = some (k, v) ∧ x = .ref T ∧ H T = none ∧ H q = some (.tup (k.map kV)) ∧ H' = upd H T (.tup [.ref q, v])
  stop i H := H d = some (.frz o (.dT kvs)) ∧ kvs.length ≤ i
section
variable {X : Cx} {pins : List (Addr × Obj)} {σ : L2.St} {H : Hp} {s : Shared} {d : Addr} {o : Obj}
theorem frzT2 {kvs : List (List Key × V)} (I : Inv X pins σ H s) (h : H d = some (.frz o (.dT kvs))) :
    (d == sysModules) = false ∧ s.heap.get? d = some o ∧ (o.ExactDict ∧ kvs.length ≤ sizeLine) ∧ ∃ (es : Array DictEntry) (ep : Nat), o.data = .dict es ep ∧ es.size = kvs.length ∧
      ∀ (i : Nat) (k : List Key) (v : V), kvs[i]? = some (k, v) → ∃ (en : DictEntry) (q : Addr), es[i]? = some en ∧ en.key = .ref q ∧ H q = some (.tup (k.map kV)) ∧ RelV v en.val := by
  obtain ⟨g1, g2, g3, xs, g4, o', es, ep, g5, g6, g7, g8, g9⟩ := I.hok d _ h
  rw [g1] at g5
  cases g5
  have e1 : es.size = xs.length := size_of_entries g8
  have e2 : kvs.length = xs.length := Paired.length g4
  refine ⟨g3, g1, ⟨g6, g2⟩, es, ep, g7, e1.trans e2.symm, fun i k v e => ?_⟩
  obtain ⟨b, b1, b2, b3, b4⟩ := L2.paired_get g4 e
  have e3 := entry_at g8 i
  rw [b1] at e3
  exact ⟨_, b.2.1, e3, rfl, b3, b4⟩
end
section
variable {P : Program} {w : World} {K : PySem.W.Frag} {d : Addr} {o : Obj} {es : Array DictEntry} {ep : Nat}
theorem turn_itemsT {kvs : List (List Key × V)} {elts : List Expr} {kk : Nat} {tpos : Pos} (it : Addr) (hod : o.data = .dict es ep) :
    Turn P w K (.Tuple elts kk tpos) (ItiT d o kvs) [it] it (fun i h => ∃ ok ov, IsItemIter h it d i kvs.length ep ok ov) where
  mem := List.mem_singleton.mpr rfl
  obj := fun i h ⟨ok, ov, e⟩ b hb => by
    obtain rfl : b = it := List.mem_singleton.mp hb
    exact ⟨_, e, fun v z => nomatch z⟩
  keep := fun i h h' ⟨ok, ov, e⟩ k => ⟨ok, ov, k it (List.mem_singleton.mpr rfl) _ e⟩
  item := by
    intro X hP hw hK hc i pins s σ H E I hf st hg
    subst hP hw hK
    obtain ⟨hd, hi⟩ := hg
    obtain ⟨g1, g2, ⟨g3, gz⟩, es', ep', g4, g5, g6⟩ := frzT2 I hd
    obtain ⟨rfl, rfl⟩ := dict_ep hod g4
    obtain ⟨⟨k, v⟩, hkv⟩ : ∃ p, kvs[i]? = some p := ⟨_, List.getElem?_eq_getElem hi⟩
    obtain ⟨en, q, h1, h2, h3, h4⟩ := g6 i k v hkv
    obtain ⟨ok, ov, he⟩ := st
    rw [← g5] at he
    have hie : i < es'.size := by rw [g5]; exact hi
    have een : es'[i] = en := by
      rw [Array.getElem?_eq_getElem hie] at h1
      exact Option.some.inj h1
    have lt : it < s.heap.objs.size := Heap.lt_size he
    refine DT.nextI he ⟨o, g2, g3, g4⟩ hie fun h' ho hT hz hk => ?_
    refine ⟨_, rfl, wpAny_letOwnedTupleGo_items (s := { s with heap := h' }) ho fun h2' he' sb => ?_⟩
    have at2 : h2'.get? s.heap.objs.size = some { cls := .type "tuple", data := .seq #[es'[i].key, es'[i].val] } := (sb.2 _ (Nat.ne_of_gt lt)).trans hT
    rw [een, h2] at at2
    have nw : ObjOk X.prog X.w (upd H s.heap.objs.size (.tup [.ref q, v])) h2' s.heap.objs.size (.tup [.ref q, v]) :=
      ⟨by rw [sizeLine_eq]; simp, [.ref q, en.val], .cons rfl (.cons h4 .nil), ⟨_, at2, rfl, _, rfl⟩⟩
    have J : Inv X pins σ (upd H s.heap.objs.size (.tup [.ref q, v])) { s with heap := h2' } :=
      I.turnedNew (t' := s.toks) (ch := [it]) (fun b ob hb e => (sb.2 b (fun z => hb (List.mem_singleton.mpr z))).trans (hk b ob (fun z => hb (List.mem_singleton.mpr z)) e)) hf (Nat.le_refl _) nw
    refine ⟨.ref s.heap.objs.size, _, J, rfl, ⟨_, k, v, q, hkv, rfl, I.hok.fresh (Nat.le_refl _), h3, rfl⟩, ⟨es'[i].key, es'[i].val, ?_⟩, fun b hb => ?_⟩
    · rw [← g5]; exact he'
    · rw [List.mem_singleton.mp hb, upd_ne (Nat.ne_of_lt lt)]
      exact (hf it (List.mem_singleton.mpr rfl)).1
  done := by
    intro X hP hw hK hc i pins s σ H E I hf st hg
    subst hP hw hK
    obtain ⟨hd, hi⟩ := hg
    obtain ⟨f0, f1, f2, f3, f4, f5⟩ := hf it (List.mem_singleton.mpr rfl)
    obtain ⟨g1, g2, ⟨g3, gz⟩, es', ep', g4, g5, g6⟩ := frzT2 I hd
    obtain ⟨rfl, rfl⟩ := dict_ep hod g4
    obtain ⟨ok, ov, he⟩ := st
    rw [← g5] at he
    exact DT.endI (I.ok.hd hc) he ⟨o, g2, g3, g4⟩ (by rw [g5]; exact hi) fun h' eb => ⟨rfl, I.turned (t' := s.toks) (fun b ob hb e => eb b ob hb e) f0 f1 f3 f4 f5⟩
  self := fun A i s Q E ⟨_, _, e⟩ h => PySem.W.kcp_self e h
end
section
variable {X : Cx} {e : Expr} {td : TE} {apos cpos : Pos}
def iItemsT (td : TE) : TI := fun σ H R => td σ H fun x H1 => ∃ d kvs, x = .ref d ∧ H1 d = some (.dT kvs) ∧ ∀ o, kvs.length ≤ sizeLine → R (ItiT d o kvs) (upd H1 d (.frz o (.dT kvs)))
theorem pi_itemsT {elts : List Expr} {kk : Nat} {tpos : Pos} (he : PE X e td) (hb : attributeBase e "items" X.env (eval e X.env) = eval e X.env) (hl : (apos.endLine == cpos.line) = true) :
    PI X (.Tuple elts kk tpos) (.Call (.Attribute e "items" apos) [] [] cpos) (iItemsT td) := by
  refine ⟨fun pins s σ H R I h => ?_⟩
  refine wpAny_Call_method (T := "dict") (id := "dict.items") hb rfl hl F.plainAttrs_dict F.slot_dict_items F.type_dict_items (thn (he.run pins s σ H _ I h) fun u s1 ⟨x, H1, I0, rx, d, kvs, ex, hd0, q⟩ => ?_)
  subst ex
  cases rx
  obtain ⟨o, I1⟩ := I0.lock hd0 trivial
  have hd : upd H1 d (.frz o (.dT kvs)) d = some (.frz o (.dT kvs)) := upd_same
  obtain ⟨g1, g2, ⟨g3, gz⟩, es, ep, g4, g5, g6⟩ := frzT2 I1 hd
  have raw : DT.Raw s1.heap d es ep := ⟨o, g2, g3, g4⟩
  refine ⟨raw.typeIs, ?_, ?_⟩
  · intro b z
    cases z
    exact ⟨o, g2, g3.2.1⟩
  have I2 : Inv X pins σ (upd H1 d (.frz o (.dT kvs))) { s1 with heap := s1.heap.push { cls := .type "dict_items", data := .fields #[.ref d] } } := I1.kept (t' := s1.toks) fun b ob z => Heap.get?_push_of_some _ z
  have fin : wpAny (model X.prog X.w) X.A (pyIter (.ref s1.heap.objs.size)) (PIE X pins σ (.Tuple elts kk tpos) R) X.xe { s1 with heap := s1.heap.push { cls := .type "dict_items", data := .fields #[.ref d] } } := by
    refine DT.iterI (d := d) (es := es) (ep := ep) ⟨_, Heap.get?_push_size _ rfl, rfl, rfl⟩ (raw.push _) (pi_one (tk := s1.toks) I2 _ (turn_itemsT _ g4) ⟨.none, .none, ?_⟩ (q o gz))
    rw [← g5]
    exact Heap.get?_push_size _ rfl
  show wpAny _ _ (callWith cpos (.builtin "dict.items") [.ref d] [] []) _ X.xe s1
  exact method_meetsIn F.slot_dict_items F.entry_dict_items rfl (PySem.evalArgs_none ⟨rfl, raw.typeIs, F.args_dict_items_1 _, _, DT.meetsItems (es := es) (ep := ep) g1, raw, fin⟩)
theorem allO_get {α β : Type} {f : α → Option β} : ∀ {l : List α} {r : List β}, allO (l.map f) = some r → r.length = l.length ∧ ∀ (i : Nat) (y : β), r[i]? = some y → ∃ x, l[i]? = some x ∧ f x = some y
  | [], r, h => by simp [allO] at h; subst h; simp
  | a :: l, r, h => by
    rw [List.map_cons] at h
    cases q : f a with
    | none => rw [q] at h; simp [allO] at h
    | some b =>
      rw [q] at h
      simp only [allO] at h
      cases q2 : allO (l.map f) with
      | none => rw [q2] at h; cases h
      | some r' =>
        rw [q2] at h
        cases h
        obtain ⟨h1, h2⟩ := allO_get q2
        refine ⟨by simp [h1], fun i y hy => ?_⟩
        cases i with
        | zero => simp at hy; subst hy; exact ⟨a, by simp, q⟩
        | succ i => simp at hy ⊢; exact h2 i y hy
variable {fa : FA} {ma : M Val}
theorem si_items {elts : List Expr} {kk : Nat} {tpos : Pos} (ha : SimE fa X e ma) (h0 : notCall0 e = true) (hl : (apos.endLine == cpos.line) = true) :
    SimI fa X (.Tuple elts kk tpos) (.Call (.Attribute e "items" apos) [] [] cpos) (fun env S => (ma env S).bind fun v S1 => itemsDV S1 v) := by
  refine ⟨fun W tk => PI.imp (pi_itemsT (ha.run W tk) (attrBase h0 "items" X.env _) hl) fun σ H Q q => ?_⟩
  obtain ⟨env, S, F, ρ, s, e, p⟩ := q
  refine ⟨env, S, F, ρ, s, e, ?_⟩
  dsimp only at p
  cases q0 : ma env S with
  | stuck => rw [q0] at p; exact p
  | exc e S' => rw [q0] at p; exact p
  | ok v S1 =>
    rw [q0] at p
    simp only [R.bind_ok] at p
    intro x F1 H1 ρ1 s1 x1 r1
    unfold itemsDV at p
    cases v with
    | ref n =>
      obtain ⟨hn, rfl⟩ := r1
      dsimp only at p
      cases q1 : stGet S1 n with
      | none => rw [q1] at p; exact p.elim
      | some ob =>
        rw [q1] at p
        cases ob with
        | lst _ => exact p.elim
        | dct es =>
          dsimp only at p
          cases q2 : allO (es.map itemD) with
          | none => rw [q2] at p; exact p.elim
          | some ds =>
            rw [q2] at p
            obtain ⟨ho, h2, rr⟩ := s1.obj n _ q1
            cases rr with
            | @dct kvs es rr =>
              obtain ⟨l1, l2⟩ := allO_get q2
              have lk : kvs.length = es.length := Paired.length rr
              refine ⟨_, kvs, rfl, h2, fun o hz => ?_⟩
              have gl : ∀ m u, stGet (S1.set n none) m = some u → stGet S1 m = some u ∧ ρ1 m ≠ ρ1 n := fun m u h => by
                rw [stGet_set] at h
                split at h
                · cases h
                · rename_i z
                  refine ⟨h, fun e => z ?_⟩
                  have := s1.inj m n u _ h q1 e
                  subst this
                  exact ⟨rfl, hn⟩
              have s2 : Sim X.K fa F1 (upd H1 (ρ1 n) (.frz o (.dT kvs))) ρ1 (S1.set n none) := by
                refine ⟨fun a u h => ?_, fun m u h => s1.off m u (gl m u h).1, fun m u h => ?_, fun m k u w h h' e => s1.inj m k u w (gl m u h).1 (gl k w h').1 e⟩
                · rw [upd_ne (ne_of_none h (s1.off n _ q1))]; exact s1.sub a u h
                · obtain ⟨y, hy, ry⟩ := s1.obj m u (gl m u h).1
                  exact ⟨y, by rw [upd_ne (gl m u h).2]; exact hy, by rw [List.length_set]; exact ry⟩
              have x2 : Ext F1 H1 ρ1 S1 F1 (upd H1 (ρ1 n) (.frz o (.dT kvs))) ρ1 (S1.set n none) := by
                refine ⟨Same.refl _, fun _ _ => rfl, by rw [List.length_set]; exact Nat.le_refl _, fun a u h hx => ?_, fun a u h => ?_, fun m u h => .inl ⟨by have := stGet_lt h; rwa [List.length_set] at this, u, (gl m u h).1⟩, fun a u h => .inl (by rw [h]; intro z; cases z)⟩
                · rw [upd_ne (hx n _ q1)]; exact h
                · by_cases e : a = ρ1 n
                  · rw [e]; exact ⟨_, upd_same⟩
                  · exact ⟨u, by rw [upd_ne e]; exact h⟩
              refine p _ F1 _ ρ1 s2 (x1.trans x2) ⟨?_, fun b => if b = ρ1 n then some (.frz o (.dT kvs)) else none, fun b u h => ?_, fun m u h => ?_, ⟨fun i H' hk hi => ?_, fun H' hk => ?_, fun i H' y H'' v F' hk hF sF hv hy => ?_⟩⟩
              · show (ds.map Val.d).length ≤ _
                rw [List.length_map, l1, ← lk]; exact hz
              · dsimp only at h
                split at h
                · rename_i z; rw [z, upd_same]; exact h
                · cases h
              · exact if_neg (gl m u h).2
              · exact ⟨hk _ _ (if_pos rfl), by rw [lk, ← l1]; simpa using hi⟩
              · exact ⟨hk _ _ (if_pos rfl), by rw [lk, ← l1]; simp⟩
              · obtain ⟨T, k, w, q, hkv, rfl, hT, hq, rfl⟩ := hy
                rw [List.getElem?_map] at hv
                cases q3 : ds[i]? with
                | none => rw [q3] at hv; cases hv
                | some dd =>
                  rw [q3] at hv
                  cases hv
                  obtain ⟨⟨ek, ev⟩, he1, he2⟩ := l2 i dd q3
                  obtain ⟨en, hen, h3, h4⟩ := L2.paired_get rr hkv
                  rw [he1] at hen
                  cases hen
                  cases ev with
                  | d z =>
                    cases he2
                    dsimp only at h3 h4
                    refine ⟨upd (upd F' q (.tup (k.map kV))) T (.tup [.ref q, w]), .inr (.inr ⟨T, _, q, _, hT, hq, rfl, rfl⟩), ?_⟩
                    have nqT : q ≠ T := ne_of_none hq hT
                    have fT : F' T = none := sF.free hT
                    have sF2 : Same F' (upd (upd F' q (.tup (k.map kV))) T (.tup [.ref q, w])) := fun b u hb => by
                      rw [upd_ne (ne_of_none hb fT)]
                      by_cases e : b = q
                      · subst e
                        have := sF _ _ hb
                        rw [hq] at this
                        cases this
                        exact upd_same
                      · rw [upd_ne e]; exact hb
                    refine Rep.tup upd_same (.cons (Rep.tup (by rw [upd_ne nqT, upd_same]) ?_) (.cons (Rep.mono (hF.trans sF2) h4) .nil))
                    rw [h3, ints_kV]
                    exact Reps.of_ints ek
                  | _ => cases he2
    | _ => exact p.elim
end
end MS

-- MsPrs
/-! sorted(set(xs)), xs a list of pairs of small ints. -/
namespace MS
open PySem PySem.Spec PyProof.Rows L2
/-! ### the pairs in order -/
theorem prLt_iff {p q : Int × Int} : prLt p q = true ↔ p.1 < q.1 ∨ (p.1 = q.1 ∧ p.2 < q.2) := by
  unfold prLt; simp
theorem prLt_trans {p q r : Int × Int} (a : prLt p q = true) (b : prLt q r = true) : prLt p r = true := by
  rw [prLt_iff] at *; omega
theorem mem_insP {x k : Int × Int} : ∀ {l : List (Int × Int)}, k ∈ insP x l ↔ k = x ∨ k ∈ l
  | [] => by simp [insP]
  | y :: r => by
    unfold insP
    split
    · simp
    · split
      · rename_i h1 h2
        subst h2
        simp
      · rw [List.mem_cons, mem_insP, List.mem_cons]
        constructor
        · rintro (h | h | h)
          · exact .inr (.inl h)
          · exact .inl h
          · exact .inr (.inr h)
        · rintro (h | h | h)
          · exact .inr (.inl h)
          · exact .inl h
          · exact .inr (.inr h)
theorem pw_insP {x : Int × Int} : ∀ {l : List (Int × Int)}, l.Pairwise (fun p q => prLt p q = true) → (insP x l).Pairwise (fun p q => prLt p q = true)
  | [], _ => by simp [insP]
  | y :: r, h => by
    obtain ⟨h1, h2⟩ := List.pairwise_cons.mp h
    unfold insP
    split
    · rename_i z
      refine List.pairwise_cons.mpr ⟨fun k hk => ?_, h⟩
      rcases List.mem_cons.mp hk with rfl | hk
      · exact z
      · exact prLt_trans z (h1 k hk)
    · split
      · exact h
      · rename_i z1 z2
        refine List.pairwise_cons.mpr ⟨fun k hk => ?_, pw_insP h2⟩
        rcases mem_insP.mp hk with rfl | hk
        · rw [prLt_iff] at z1 ⊢
          have : ¬ (k.1 = y.1 ∧ k.2 = y.2) := fun z => z2 (Prod.ext z.1 z.2)
          omega
        · exact h1 k hk
theorem mem_srtP {k : Int × Int} : ∀ {ns : List (Int × Int)}, k ∈ srtP ns ↔ k ∈ ns
  | [] => by simp [srtP]
  | n :: ns => by
    show k ∈ insP n (srtP ns) ↔ _
    rw [mem_insP, mem_srtP, List.mem_cons]
theorem pw_srtP : ∀ (ns : List (Int × Int)), (srtP ns).Pairwise (fun p q => prLt p q = true)
  | [] => List.Pairwise.nil
  | n :: ns => pw_insP (pw_srtP ns)
theorem prLt_irr {p : Int × Int} : ¬ prLt p p = true := by rw [prLt_iff]; omega
theorem prLt_asym {p q : Int × Int} (a : prLt p q = true) (b : prLt q p = true) : False := prLt_irr (prLt_trans a b)
theorem strictP_ext : ∀ {a b : List (Int × Int)}, a.Pairwise (fun p q => prLt p q = true) → b.Pairwise (fun p q => prLt p q = true) → (∀ k, k ∈ a ↔ k ∈ b) → a = b
  | [], [], _, _, _ => rfl
  | [], y :: b, _, _, h => by have := (h y).mpr (by simp); simp at this
  | x :: a, [], _, _, h => by have := (h x).mp (by simp); simp at this
  | x :: a, y :: b, ha, hb, h => by
    obtain ⟨a1, a2⟩ := List.pairwise_cons.mp ha
    obtain ⟨b1, b2⟩ := List.pairwise_cons.mp hb
    have e : x = y := by
      rcases List.mem_cons.mp ((h x).mp (by simp)) with z | z
      · exact z
      · rcases List.mem_cons.mp ((h y).mpr (by simp)) with w | w
        · exact w.symm
        · exact (prLt_asym (b1 x z) (a1 y w)).elim
    subst e
    rw [strictP_ext a2 b2 fun k => ⟨fun z => ?_, fun z => ?_⟩]
    · rcases List.mem_cons.mp ((h k).mp (by simp [z])) with w | w
      · subst w; exact (prLt_irr (a1 _ z)).elim
      · exact w
    · rcases List.mem_cons.mp ((h k).mpr (by simp [z])) with w | w
      · subst w; exact (prLt_irr (b1 _ z)).elim
      · exact w
def smallP (p : Int × Int) : Prop := (0 ≤ p.1 ∧ p.1 < 64) ∧ 0 ≤ p.2 ∧ p.2 < 64
section
variable {X : Cx} {fa : FA} {a : Expr} {ma : M Val} {pos : Pos}
def tSrtP (K : PySem.W.Frag) (ta : TE) : TE := fun σ H Q => ta σ H fun x H1 => ∃ (l : Addr) (ks : List (Addr × Int × Int)), x = .ref l ∧ SqL K H1 l (ks.map fun p => V.ref p.1) ∧ (∀ p ∈ ks, SqT K H1 p.1 [V.int p.2.1, V.int p.2.2] ∧ smallP p.2) ∧ ks.length < 64 ∧
  ∀ (b : Addr) (o : HO) (p : Addr) (L : List (Addr × Int × Int)), H1 b = none → upd H1 b o p = none → L.map (·.2) = srtP (ks.map (·.2)) → (∀ q ∈ L, q ∈ ks) → Q (.ref p) (upd (upd H1 b o) p (.lst (L.map fun q => V.ref q.1)))
theorem pe_srtP {p p2 q : Pos} {ta : TE} (hg : Gl X "sorted") (hm : X.mg "sorted" = none) (hg2 : Gl X "set") (hm2 : X.mg "set" = none) (ha : PE X a ta) (hc : X.calm = true) (hu : X.A.units + 65 < cLine) (hn : noStar a = true) :
    PE X (.Call (.Name "sorted" p) [.Call (.Name "set" p2) [a] [] q] [] pos) (tSrtP X.K ta) := by
  have na : starEach [a] X.env = (false, eval a X.env) :: starEach [] X.env := starEach_cons hn _ _
  refine ⟨fun pins s σ H Q I h => Call_ (ld_blt I hg hm boot_sorted (PyProof.Rows.callWith_builtin1 (PyProof.Rows.args_cons (Call_ (ld_blt I hg2 hm2 boot_set ?_)) rfl) rfl rfl))⟩
  refine PyProof.Rows.callWith_type1 (PyProof.Rows.args_cons (thn (ha.run pins s σ H _ I h) fun v s1 ⟨x, H1, I1, r1, q1⟩ => PyProof.Rows.args_nil ?_) na) na rfl
  obtain ⟨l, ks, rfl, hq, hk, hl, q1⟩ := q1
  have hk' : ∀ r ∈ ks.map (fun p => (p.1, [p.2.1, p.2.2])), ∃ p ∈ ks, r = (p.1, [p.2.1, p.2.2]) := fun r hr => by
    obtain ⟨p, hp, rfl⟩ := List.mem_map.mp hr
    exact ⟨p, hp, rfl⟩
  refine thn (cr_setOfT hc (by omega) pins s1 σ H1 [.ref l] [v] (fun y H2 => ∃ (b : Addr) (L : List (Addr × List Int)), y = .ref b ∧ H1 b = none ∧ (∀ p ∈ L, p ∈ ks.map (fun p => (p.1, [p.2.1, p.2.2]))) ∧ (∀ p ∈ ks, [p.2.1, p.2.2] ∈ L.map (·.2)) ∧ H2 = upd H1 b (SetTO X.prog X.w b L)) I1 (.cons r1 .nil)
    ⟨l, ks.map (fun p => (p.1, [p.2.1, p.2.2])), rfl, by rw [List.map_map]; exact hq, fun r hr => by
      obtain ⟨p, hp, rfl⟩ := hk' r hr
      exact (hk p hp).1, by rw [List.length_map]; exact hl, fun b L hb h1 h2 => ⟨b, L, rfl, hb, h1, fun p hp => h2 (p.1, [p.2.1, p.2.2]) (List.mem_map.mpr ⟨p, hp, rfl⟩), rfl⟩⟩) fun v2 s2 ⟨y, H2, I2, r2, b, L, ey, hb, h1, h2, e2⟩ => PyProof.Rows.args_nil ?_
  subst ey e2
  have sm : Same H1 (upd H1 b (SetTO X.prog X.w b L)) := fun c u z => by rw [upd_ne (ne_of_none z hb)]; exact z
  refine cr_sortedT hc pins s2 σ _ [.ref b] [v2] Q I2 (.cons r2 .nil) ⟨b, L, 2, 64, rfl, upd_same, fun r hr => ?_, by decide, fun r hr => ?_, fun L' p' pm nd l64 pw hp' => ?_⟩
  · obtain ⟨p, hp, rfl⟩ := hk' r (h1 r hr)
    exact SqT.mono sm (hk p hp).1
  · obtain ⟨p, hp, rfl⟩ := hk' r (h1 r hr)
    obtain ⟨_, ⟨b1, b2⟩, b3, b4⟩ := hk p hp
    refine ⟨rfl, fun n hn => ?_⟩
    simp only [List.mem_cons, List.not_mem_nil, or_false] at hn
    rcases hn with rfl | rfl
    · exact ⟨b1, b2⟩
    · exact ⟨b3, b4⟩
  · have back : ∀ r ∈ L', ∃ p ∈ ks, r = (p.1, [p.2.1, p.2.2]) := fun r hr => hk' r (h1 r (pm.mem_iff.mp hr))
    have hL : ∀ r ∈ L', (r.1, r.2.headD 0, r.2.getD 1 0) ∈ ks ∧ r.2 = [r.2.headD 0, r.2.getD 1 0] := fun r hr => by
      obtain ⟨p, hp, rfl⟩ := back r hr
      exact ⟨hp, rfl⟩
    have e1 : (L'.map fun q => V.ref q.1) = (L'.map fun r => (r.1, r.2.headD 0, r.2.getD 1 0)).map fun q => V.ref q.1 := by rw [List.map_map]; rfl
    rw [e1]
    refine q1 b _ p' (L'.map fun r => (r.1, r.2.headD 0, r.2.getD 1 0)) hb hp' (strictP_ext ?_ (pw_srtP _) fun k => ?_) fun r hr => ?_
    · rw [List.map_map, List.pairwise_map]
      rw [List.Nodup, List.pairwise_map] at nd
      have pw2 := pw.and nd
      refine pw2.imp_of_mem fun {r t} hr ht z => ?_
      obtain ⟨p, hp, rfl⟩ := back r hr
      obtain ⟨p2, hp2, rfl⟩ := back t ht
      obtain ⟨_, c1, c2⟩ := hk p hp
      obtain ⟨_, c3, c4⟩ := hk p2 hp2
      exact prLt_iff.mpr (pair_lt z.1 z.2 c1 c2 c3 c4)
    · rw [mem_srtP]
      constructor
      · intro z
        obtain ⟨r, hr, rfl⟩ := List.mem_map.mp z
        obtain ⟨t, ht, rfl⟩ := List.mem_map.mp hr
        exact List.mem_map.mpr ⟨_, (hL t ht).1, rfl⟩
      · intro z
        obtain ⟨p, hp, rfl⟩ := List.mem_map.mp z
        obtain ⟨t, ht, et⟩ := List.mem_map.mp (h2 p hp)
        refine List.mem_map.mpr ⟨_, List.mem_map.mpr ⟨t, pm.mem_iff.mpr ht, rfl⟩, ?_⟩
        rw [et]; rfl
    · obtain ⟨t, ht, rfl⟩ := List.mem_map.mp hr
      exact (hL t ht).1
theorem isPr_some {d : D} {p : Int × Int} (h : isPr d = some p) : d = .tuple [.int p.1, .int p.2] ∧ smallP p := by
  unfold isPr at h
  split at h
  · split at h
    · rename_i z
      cases h
      exact ⟨rfl, ⟨z.1, z.2.1⟩, z.2.2⟩
    · cases h
  · cases h
theorem prs_rep {K : PySem.W.Frag} {F : Hp} : ∀ {xs : List V} {ds : List D} {ps : List (Int × Int)}, Reps K F xs ds → allO (ds.map isPr) = some ps → ∃ ks : List (Addr × Int × Int), xs = ks.map (fun p => V.ref p.1) ∧ ps = ks.map (·.2) ∧ ∀ p ∈ ks, F p.1 = some (.tup [V.int p.2.1, V.int p.2.2]) ∧ smallP p.2
  | _, _, ps, .nil, e => by
    simp [allO] at e; subst e
    exact ⟨[], rfl, rfl, fun _ z => nomatch z⟩
  | _, _, ps, .cons (d := d) (ds := ds) h r, e => by
    rw [List.map_cons] at e
    cases q : isPr d with
    | none => rw [q] at e; simp [allO] at e
    | some p =>
      rw [q] at e
      simp only [allO] at e
      cases q2 : allO (ds.map isPr) with
      | none => rw [q2] at e; cases e
      | some ps' =>
        rw [q2] at e
        cases e
        obtain ⟨ks, e1, e2, e3⟩ := prs_rep r q2
        obtain ⟨rfl, sp⟩ := isPr_some q
        cases h with
        | @tup b ys _ h rr =>
          have : ys = [V.int p.1, V.int p.2] := Reps.ints (ns := [p.1, p.2]) rr
          subst this
          refine ⟨(b, p) :: ks, by rw [e1]; rfl, by rw [e2]; rfl, fun z hz => ?_⟩
          rcases List.mem_cons.mp hz with rfl | hz
          · exact ⟨h, sp⟩
          · exact e3 z hz
theorem rep_prs {K : PySem.W.Frag} {F : Hp} : ∀ {L : List (Addr × Int × Int)}, (∀ p ∈ L, F p.1 = some (.tup [V.int p.2.1, V.int p.2.2])) → Reps K F (L.map fun q => V.ref q.1) ((L.map (·.2)).map prD)
  | [], _ => .nil
  | p :: L, h => .cons (.tup (h p (List.mem_cons_self ..)) (.cons (.int _) (.cons (.int _) .nil))) (rep_prs fun q hq => h q (List.mem_cons_of_mem _ hq))
theorem sm_srtP {p p2 q : Pos} (hg : Gl X "sorted") (hm : X.mg "sorted" = none) (hg2 : Gl X "set") (hm2 : X.mg "set" = none) (ha : SimE fa X a ma) (hc : X.calm = true) (hu : X.A.units + 65 < cLine) (hn : noStar a = true) :
    SimE fa X (.Call (.Name "sorted" p) [.Call (.Name "set" p2) [a] [] q] [] pos) (fun env S => (ma env S).bind fun x S1 => srtPV S1 x) := by
  refine ⟨fun W tk => PE.imp (pe_srtP hg hm hg2 hm2 (ha.run W tk) hc hu hn) fun σ H Q q => ?_⟩
  refine q.bind (rep := RepV X.K fa) fun env v S1 x F1 H1 ρ1 s1 e1 r1 p => ?_
  unfold srtPV at p
  cases q3 : view S1 v with
  | none => rw [q3] at p; exact p.elim
  | some d =>
    rw [q3] at p
    cases d with
    | list ds =>
      dsimp only at p
      cases q4 : allO (ds.map isPr) with
      | none => rw [q4] at p; exact p.elim
      | some ps =>
        rw [q4] at p
        dsimp only at p
        split at p
        · rename_i hz
          obtain ⟨l, xs', rfl, h1, rr⟩ := (s1.view r1 q3).list s1.sub
          obtain ⟨ks, e2, e3, e4⟩ := prs_rep rr q4
          subst e2 e3
          refine ⟨l, ks, rfl, SqL.of h1, fun p hp => ⟨SqT.of (s1.sub _ _ (e4 p hp).1), (e4 p hp).2⟩, by simpa using hz, fun b o p' L hb hp' eL mL => ?_⟩
          obtain ⟨s2, x2⟩ := s1.junk (o := o) hb
          obtain ⟨s3, x3, sF⟩ := s2.grow (o := .lst (L.map fun q => V.ref q.1)) hp'
          refine p _ _ _ ρ1 s3 (x2.trans x3) (Rep.lst upd_same ?_)
          rw [← eL]
          exact (rep_prs fun z hz => (e4 z (mL z hz)).1).mono sF
        · exact p.elim
    | _ => exact p.elim
end
end MS

-- MsCal
/-! A call of one def out of a list: [f, g, h][i](x). -/
namespace MS
open PySem PySem.Spec PyProof.Rows L2
section
variable {X : Cx} {fa : FA} {pos : Pos} {nm : Nat → Str} {ps : Nat → List Str} {I : List Nat} {C : Runner} {k : Nat}
/-- the names of these defs -/
def defsB (nm : Nat → Str) : List Nat → List Expr → Bool
  | [], [] => true
  | f :: fs, .Name x _ :: es => decide (x = nm f) && defsB nm fs es
  | _, _ => false
def tDefs (fa : FA) (fs : List Nat) : TA := fun σ H Q => Q (fs.map fun f => V.ref (fa f)) H
theorem pe_def {i : Nat} {p : Pos} (L : Lib X fa nm ps I C k) (hi : i ∈ I) (hg : Gl X (nm i)) (hdb : (nm i == ("__debug__" : Str)) = false) : PE X (.Name (nm i) p) (fun σ H Q => Q (.ref (fa i)) H) :=
  ⟨fun pins s σ H Q J h => ld_glob J hg (L.mg i hi) ⟨.ref (fa i), H, J, rfl, h⟩ hdb⟩
theorem pa_defs (L : Lib X fa nm ps I C k) : ∀ {fs : List Nat} {es : List Expr}, defsB nm fs es = true → (∀ f ∈ fs, f ∈ I ∧ Gl X (nm f) ∧ (nm f == ("__debug__" : Str)) = false) → PA X es (tDefs fa fs)
  | [], [], _, _ => PA.imp pa_nil fun σ H Q q => q
  | [], _ :: _, h, _ => by simp [defsB] at h
  | _ :: _, [], h, _ => by simp [defsB] at h
  | f :: fs, e :: es, h, hI => by
    cases e with
    | Name x p =>
      simp only [defsB, Bool.and_eq_true, decide_eq_true_eq] at h
      obtain ⟨rfl, h2⟩ := h
      obtain ⟨i1, i2, i3⟩ := hI f (List.mem_cons_self ..)
      exact PA.imp (pa_cons (pe_def (p := p) L i1 i2 i3) (pa_defs L h2 fun g hg => hI g (List.mem_cons_of_mem _ hg)) (starEach_cons rfl _ _)) fun σ H Q q => q
    | _ => simp [defsB] at h
theorem atD_map {α β : Type} (f : α → β) (xs : List α) (i : Int) : atD (xs.map f) i = (atD xs i).map f := by
  unfold atD
  rw [List.length_map]
  cases ixOf xs.length i with
  | none => rfl
  | some j => simp
theorem mem_atD {α : Type} {xs : List α} {i : Int} {x : α} (h : atD xs i = some x) : x ∈ xs := by
  unfold atD at h
  cases q : ixOf xs.length i with
  | none => rw [q] at h; cases h
  | some j => rw [q] at h; exact List.mem_of_getElem? h
theorem sm_callL {fs : List Nat} {nes : List Expr} {ie e : Expr} {es : List Expr} {mi : M Val} {ms : M (List Val)} {p1 p2 : Pos} (L : Lib X fa nm ps I C k) (hd : defsB nm fs nes = true) (hI : ∀ f ∈ fs, f ∈ I ∧ Gl X (nm f) ∧ (nm f == ("__debug__" : Str)) = false) (hl : fs.length ≤ 1000)
    (hr : Room k X.A) (hgu : X.A.guards = some []) (hi : SimE fa X ie mi) (hsl : noSlice ie = true) (ha : SimA fa X (e :: es) ms) (hs : (e :: es).all noStar = true) :
    SimE fa X (.Call (.Subscript (.List nes p1) ie p2) (e :: es) [] pos) (fun env S => (mi env S).bind fun y S1 => match pickF fs y with | some f => (ms env S1).bind fun vs S2 => C f vs S2 | none => .stuck) := by
  rw [List.all_cons, Bool.and_eq_true] at hs
  refine ⟨fun W tk => ⟨fun pins s σ H Q J q => Call_ ?_⟩⟩
  obtain ⟨env, S, F, ρ, s0, e0, p⟩ := q
  have h1 : tOp (rIxL X.K) (tLst (tDefs fa fs)) (rdE X.K fa W mi) σ H (fun v H2 => ∃ f, f ∈ fs ∧ v = .ref (fa f) ∧ rdE X.K fa W (fun env S => (ms env S).bind fun vs S1 => C f vs S1) σ H2 Q) := by
    refine ⟨by rw [List.length_map, sizeLine_eq]; omega, fun a hz => ?_⟩
    obtain ⟨s1, x1⟩ := s0.junk (o := .lst (fs.map fun f => V.ref (fa f))) hz
    refine ⟨env, S, F, ρ, s1, e0, ?_⟩
    have p' := Post.shift x1 p
    dsimp only at p'
    cases q0 : mi env S with
    | stuck => rw [q0] at p'; exact p'
    | exc e S' => rw [q0] at p'; exact p'
    | ok y S1 =>
      rw [q0] at p'
      simp only [R.bind_ok] at p'
      intro yv F2 H2 ρ2 s2 x2 r2
      have p2 := Post.shift x2 p'
      unfold pickF at p2
      cases y with
      | d d =>
        cases d with
        | int j =>
          cases (show Rep X.K F2 yv (.int j) from r2)
          dsimp only at p2
          cases q1 : atD fs j with
          | none => rw [q1] at p2; exact p2.elim
          | some f =>
            rw [q1] at p2
            have fr : H2 a = some (.lst (fs.map fun f => V.ref (fa f))) := x2.frame a _ upd_same fun n u hu ea => by
              obtain ⟨o, ho, _⟩ := s0.obj n u hu
              rw [← ea, hz] at ho
              cases ho
            refine ⟨a, _, j, .ref (fa f), rfl, rfl, SqL.of fr, ?_, f, mem_atD q1, rfl, env, S1, F2, ρ2, s2, e0.mono x2.fz x2.rho x2.len, p2⟩
            have := atD_map (fun f => V.ref (fa f)) fs j
            rw [q1] at this
            exact this
        | _ => exact p2.elim
      | _ => exact p2.elim
  refine thn ((pe_ix ix_list (pe_lst (pa_defs L hd hI)) (hi.run W tk) (noSlice_ok hsl)).run pins s σ H _ J h1) fun fv s1 ⟨x, H1, J1, r1, f, hf, ex, q1⟩ => ?_
  subst ex
  cases r1
  obtain ⟨i1, i2, i3⟩ := hI f hf
  obtain ⟨fd, hb, Fn⟩ := L.fn f i1
  exact PySem.W.callWith_K (h₀ := X.base) J1.ok.mod.kin (L.kp f i1) (thn ((ha.run W tk).run pos pins s1 σ H1 _ J1 (rd_call q1)) fun us s2 ⟨vs, H2, J2, r, q⟩ => ⟨J2.kIn, run_G (E := WE W) Fn hr hgu hb (passAt tk σ) J2 r q⟩) (starEach_cons hs.1 _ _) (starEach_plain es X.env pos hs.2)
end
end MS

-- MsDgt
/-! Dicts of the store, asked and copied: keys are tuples of ints. -/
namespace MS
open PySem PySem.Spec PyProof.Rows L2
theorem inl_inj : ∀ {a b : List Int}, (a.map Sum.inl : List Key) = b.map Sum.inl → a = b
  | [], [], _ => rfl
  | [], _ :: _, h => by cases h
  | _ :: _, [], h => by cases h
  | i :: a, j :: b, h => by
    simp only [List.map_cons, List.cons.injEq, Sum.inl.injEq] at h
    rw [h.1, inl_inj h.2]
abbrev PrD (K : PySem.W.Frag) (fa : FA) (F : Hp) (ρ : Nat → Addr) (n : Nat) (kvs : List (List Key × V)) (es : List (List Int × Val)) : Prop := Paired (fun p q => p.1 = q.1.map Sum.inl ∧ RepV K fa F ρ n p.2 q.2) kvs es
theorem look_rep {K : PySem.W.Frag} {fa : FA} {F : Hp} {ρ : Nat → Addr} {n : Nat} {kvs : List (List Key × V)} {es : List (List Int × Val)} (r : PrD K fa F ρ n kvs es) (ks : List Int) :
    (∀ v, lookD es ks = some v → ∃ x, valV kvs (ks.map Sum.inl) = some x ∧ RepV K fa F ρ n x v) ∧ (lookD es ks = none → valV kvs (ks.map Sum.inl) = none) := by
  induction r with
  | nil => exact ⟨fun v h => by simp [lookD] at h, fun _ => rfl⟩
  | @cons p q ps qs h1 h2 ih =>
    obtain ⟨p1, p2⟩ := p
    obtain ⟨q1, q2⟩ := q
    dsimp only at h1
    unfold lookD valV at *
    simp only [List.find?_cons]
    by_cases e : q1 = ks
    · rw [decide_eq_true e, decide_eq_true (show p1 = ks.map Sum.inl by rw [h1.1, e])]
      exact ⟨fun v h => by cases h; exact ⟨p2, rfl, h1.2⟩, fun h => by cases h⟩
    · rw [decide_eq_false e, decide_eq_false (show ¬ p1 = ks.map Sum.inl from fun z => e (inl_inj (h1.1.symm.trans z)))]
      exact ih
theorem key_rep {K : PySem.W.Frag} {fa : FA} {F : Hp} {ρ : Nat → Addr} {n : Nat} {y : V} {v : Val} {ks : List Int} (r : RepV K fa F ρ n y v) (e : keyV v = some ks) : ∃ b, y = .ref b ∧ F b = some (.tup ((ks.map Sum.inl : List Key).map kV)) := by
  unfold keyV at e
  split at e
  · rename_i ds
    have r' : Rep K F y (.tuple ds) := r
    cases r' with
    | tup h rr =>
      rw [allI_some e] at rr
      refine ⟨_, rfl, ?_⟩
      rw [h, ints_kV, rr.ints]
  · cases e
theorem dct_at {K : PySem.W.Frag} {fa : FA} {F H : Hp} {ρ : Nat → Addr} {S : Sto} {x : V} {v : Val} {es : List (List Int × Val)} (s : Sim K fa F H ρ S) (r : RepV K fa F ρ S.length x v) (e : dctV S v = some es) :
    ∃ n kvs, v = .ref n ∧ x = .ref (ρ n) ∧ stGet S n = some (.dct es) ∧ H (ρ n) = some (.dT kvs) ∧ PrD K fa F ρ S.length kvs es := by
  unfold dctV at e
  cases v with
  | ref n =>
    dsimp only at e
    obtain ⟨h1, rfl⟩ := r
    cases q : stGet S n with
    | none => rw [q] at e; cases e
    | some o =>
      rw [q] at e
      cases o with
      | lst _ => cases e
      | dct es' =>
        cases e
        obtain ⟨h, h2, rr⟩ := s.obj n _ q
        cases rr with
        | dct rr => exact ⟨n, _, rfl, rfl, q, h2, rr⟩
  | _ => cases e
section
variable {fa : FA} {X : Cx} {a b c : Expr} {ma mb mc : M Val} {pos : Pos}
theorem sm_dget (hu : X.A.units + 65 < cLine) (ha : SimE fa X a ma) (hb : SimE fa X b mb) (hs : noSlice b = true) :
    SimE fa X (.Subscript a b pos) (fun env S => (ma env S).bind fun x S1 => (mb env S1).bind fun y S2 => .ofO ((dctV S2 x).bind fun es => (keyV y).bind fun ks => lookD es ks) S2) := by
  refine ⟨fun W tk => PE.imp (pe_dget (by omega) (ha.run W tk) (hb.run W tk) (noSlice_ok hs)) fun σ H Q q => ?_⟩
  refine q.bind (rep := RepV X.K fa) fun env v S1 x F1 H1 ρ1 s1 e1 r1 p1 => ?_
  refine rdG.mk s1 e1 (p1.bind fun w S2 y F2 H2 ρ2 s2 x2 r2 p2 => ?_)
  obtain ⟨u, eu, q2⟩ := p2.ofO
  cases q3 : dctV S2 v with
  | none => rw [q3] at eu; cases eu
  | some es =>
    rw [q3, Option.bind_some] at eu
    cases q4 : keyV w with
    | none => rw [q4] at eu; cases eu
    | some ks =>
      rw [q4, Option.bind_some] at eu
      obtain ⟨n, kvs, rfl, rfl, h1, h2, rr⟩ := dct_at s2 (r1.mono x2.fz x2.rho x2.len) q3
      obtain ⟨b', rfl, hb'⟩ := key_rep r2 q4
      obtain ⟨z, hz, rz⟩ := (look_rep rr ks).1 u eu
      refine ⟨_, z, rfl, ?_, q2 z F2 H2 ρ2 s2 (Ext.refl ..) rz⟩
      rw [← hz]
      exact DGet.t h2 (s2.sub _ _ hb')
theorem sm_dgetZ {apos : Pos} (hu : X.A.units + 65 < cLine) (ha : SimE fa X a ma) (hb : SimE fa X b mb) (hc : SimE fa X c mc) (m : M2 X a "get" apos b c pos) :
    SimE fa X (.Call (.Attribute a "get" apos) [b, c] [] pos) (fun env S => (ma env S).bind fun x S1 => if (dctV S1 x).isSome then (mb env S1).bind fun y S2 => (mc env S2).bind fun w S3 => .ofO ((dctV S3 x).bind fun es => (keyV y).map fun ks => (lookD es ks).getD w) S3 else .stuck) := by
  refine ⟨fun W tk => PE.imp (pe_dget2 (by omega) (ha.run W tk) (hb.run W tk) (hc.run W tk) m) fun σ H Q q => ?_⟩
  refine q.bind (rep := RepV X.K fa) fun env v S1 x F1 H1 ρ1 s1 e1 r1 p1 => ?_
  cases q0 : dctV S1 v with
  | none => rw [q0] at p1; exact p1.elim
  | some es0 =>
    rw [q0] at p1
    simp only [Option.isSome_some, if_true] at p1
    obtain ⟨n, kvs0, rfl, rfl, h1, h2, rr0⟩ := dct_at s1 r1 q0
    refine ⟨_, rfl, .inr ⟨kvs0, .inl h2⟩, rdG.mk s1 e1 (p1.bind fun w S2 y F2 H2 ρ2 s2 x2 r2 p2 => ?_)⟩
    refine rdG.mk s2 (e1.mono x2.fz x2.rho x2.len) (p2.bind fun u S3 z F3 H3 ρ3 s3 x3 r3 p3 => ?_)
    have x23 := x2.trans x3
    obtain ⟨t, et, q2⟩ := p3.ofO
    cases q3 : dctV S3 (.ref n) with
    | none => rw [q3] at et; cases et
    | some es =>
      rw [q3, Option.bind_some] at et
      cases q4 : keyV w with
      | none => rw [q4] at et; cases et
      | some ks =>
        rw [q4] at et
        cases et
        obtain ⟨n', kvs, e9, e10, h3, h4, rr⟩ := dct_at s3 (r1.mono x23.fz x23.rho x23.len) q3
        cases e9
        obtain ⟨b', rfl, hb'⟩ := key_rep (r2.mono x3.fz x3.rho x3.len) q4
        refine ⟨_, (by injection e10 with e10; rw [e10]; exact DGet.t h4 (s3.sub _ _ hb')), q2 _ F3 H3 ρ3 s3 (Ext.refl ..) ?_⟩
        show RepV X.K fa F3 ρ3 S3.length _ ((lookD es ks).getD u)
        cases q5 : lookD es ks with
        | none => rw [(look_rep rr ks).2 q5]; exact r3
        | some v5 =>
          obtain ⟨z5, hz, rz⟩ := (look_rep rr ks).1 v5 q5
          rw [hz]; exact rz
def dinV (neg : Bool) (S : Sto) (y x : Val) : Option Val := (dctV S x).bind fun es => (keyV y).map fun ks => .d (.bool (if neg then !(lookD es ks).isSome else (lookD es ks).isSome))
theorem look_some {K : PySem.W.Frag} {F : Hp} {ρ : Nat → Addr} {n : Nat} {kvs : List (List Key × V)} {es : List (List Int × Val)} (r : PrD K fa F ρ n kvs es) (ks : List Int) : (valV kvs (ks.map Sum.inl)).isSome = (lookD es ks).isSome := by
  cases q5 : lookD es ks with
  | none => rw [(look_rep r ks).2 q5]; rfl
  | some v5 =>
    obtain ⟨z5, hz, rz⟩ := (look_rep r ks).1 v5 q5
    rw [hz]; rfl
theorem din_bool {neg : Bool} : ∀ env S v S', (fun env S => (mb env S).bind fun y S1 => (ma env S1).bind fun x S2 => R.ofO (dinV neg S2 y x) S2) env S = .ok v S' → ∃ k, v = .d (.bool k) := by
  intro env S v S' h
  dsimp only at h
  cases q1 : mb env S with
  | stuck => rw [q1] at h; cases h
  | exc _ _ => rw [q1] at h; cases h
  | ok x S1 =>
    rw [q1, R.bind_ok] at h
    cases q2 : ma env S1 with
    | stuck => rw [q2] at h; cases h
    | exc _ _ => rw [q2] at h; cases h
    | ok y S2 =>
      rw [q2, R.bind_ok] at h
      unfold dinV at h
      cases q3 : dctV S2 y with
      | none => rw [q3] at h; cases h
      | some es =>
        rw [q3, Option.bind_some] at h
        cases q4 : keyV x with
        | none => rw [q4] at h; cases h
        | some ks => rw [q4] at h; cases h; exact ⟨_, rfl⟩
theorem rd_din {W : WX} {σ : L2.St} {H : Hp} {Q : VK} {neg : Bool} (q : rdE X.K fa W (fun env S => (mb env S).bind fun y S1 => (ma env S1).bind fun x S2 => R.ofO (dinV neg S2 y x) S2) σ H Q) :
    rdE X.K fa W mb σ H fun y H1 => rdE X.K fa W ma σ H1 fun x H2 => ∃ a o, x = .ref a ∧ DGet H2 a y o ∧ Q (.bl (if neg then !o.isSome else o.isSome)) H2 := by
  refine q.bind (rep := RepV X.K fa) fun env v S1 x F1 H1 ρ1 s1 e1 r1 p1 => ?_
  refine rdG.mk s1 e1 (p1.bind fun w S2 y F2 H2 ρ2 s2 x2 r2 p2 => ?_)
  obtain ⟨u, eu, q2⟩ := p2.ofO
  unfold dinV at eu
  cases q3 : dctV S2 w with
  | none => rw [q3] at eu; cases eu
  | some es =>
    rw [q3, Option.bind_some] at eu
    cases q4 : keyV v with
    | none => rw [q4] at eu; cases eu
    | some ks =>
      rw [q4] at eu
      cases eu
      obtain ⟨n, kvs, rfl, rfl, h1, h2, rr⟩ := dct_at s2 r2 q3
      obtain ⟨b', rfl, hb'⟩ := key_rep (r1.mono x2.fz x2.rho x2.len) q4
      refine ⟨_, _, rfl, DGet.t h2 (s2.sub _ _ hb'), ?_⟩
      rw [look_some rr ks]
      exact q2 _ F2 H2 ρ2 s2 (Ext.refl ..) (Rep.bl _)
theorem sm_din (neg : Bool) (hu : X.A.units + 65 < cLine) (hb : SimE fa X b mb) (ha : SimE fa X a ma) (hm : noSet a = true) :
    SimE fa X (.Compare b [if neg then .NotIn else .In] [a] pos) (fun env S => (mb env S).bind fun y S1 => (ma env S1).bind fun x S2 => R.ofO (dinV neg S2 y x) S2) := by
  cases neg with
  | true => exact ⟨fun W tk => PE.imp (pe_cmp (pc_dnotin (by omega) (hb.run W tk) (ha.run W tk)) (noSet_ok hm _)) fun σ H Q q => rd_din q⟩
  | false => exact ⟨fun W tk => PE.imp (pe_cmp (pc_din (by omega) (hb.run W tk) (ha.run W tk)) (noSet_ok hm _)) fun σ H Q q => rd_din q⟩
theorem st_din (neg : Bool) (hu : X.A.units + 65 < cLine) (hb : SimE fa X b mb) (ha : SimE fa X a ma) (hm : noSet a = true) :
    SimT fa X (.Compare b [if neg then .NotIn else .In] [a] pos) (tru (fun env S => (mb env S).bind fun y S1 => (ma env S1).bind fun x S2 => R.ofO (dinV neg S2 y x) S2)) := by
  cases neg with
  | true => exact ⟨fun W tk => PT.imp (pt_cmp (pc_dnotin (by omega) (hb.run W tk) (ha.run W tk)) (noSet_ok hm _)) fun σ H Q q => rd_din (rd_tru_bool din_bool q)⟩
  | false => exact ⟨fun W tk => PT.imp (pt_cmp (pc_din (by omega) (hb.run W tk) (ha.run W tk)) (noSet_ok hm _)) fun σ H Q q => rd_din (rd_tru_bool din_bool q)⟩
theorem sm_dlen {p : Pos} (hg : Gl X "len") (hm : X.mg "len" = none) (ha : SimE fa X a ma) (hn : noStar a = true) :
    SimE fa X (.Call (.Name "len" p) [a] [] pos) (fun env S => (ma env S).bind fun x S1 => .ofO ((dctV S1 x).map fun es => .d (.int es.length)) S1) := by
  refine ⟨fun W tk => PE.imp (pe_bi1 .len call_len_dT hg hm ((sa_cons ha sa_nil hn).run W tk) hn) fun σ H Q q => ?_⟩
  obtain ⟨env, S, F, ρ, s, e, p⟩ := q
  refine ⟨env, S, F, ρ, s, e, ?_⟩
  dsimp only at p
  unfold mcons mnil
  cases q0 : ma env S with
  | stuck => rw [q0] at p; exact p
  | exc e S' => rw [q0] at p; exact p
  | ok v S1 =>
    rw [q0] at p
    simp only [R.bind_ok] at p ⊢
    intro xs F1 H1 ρ1 s1 x1 r1
    cases r1 with
    | cons r1 rn =>
      cases rn
      have p := Post.shift x1 p
      obtain ⟨u, eu, q2⟩ := p.ofO
      cases q3 : dctV S1 v with
      | none => rw [q3] at eu; cases eu
      | some es =>
        rw [q3] at eu
        cases eu
        obtain ⟨n, kvs, rfl, rfl, h1, h2, rr⟩ := dct_at s1 r1 q3
        refine ⟨_, kvs, rfl, h2, ?_⟩
        rw [Paired.length rr]
        exact q2 _ F1 H1 ρ1 s1 (Ext.refl ..) (Rep.int _)
end
/-! ### dict(d) -/
/-- the hash of a pair of ints -/
def hashP (i j : Int) : Int := reduceHash (Builtin.Tuple.tupleHashOf [hashInt i, hashInt j])
theorem hashP_apart : ∀ i : Fin 8, ∀ j : Fin 8, ∀ k : Fin 8, ∀ l : Fin 8, hashP (i.val : Int) (j.val : Int) = hashP (k.val : Int) (l.val : Int) → i = k ∧ j = l := by decide +kernel
theorem smallK_pair {ks : List Int} (h : smallK ks = true) : ∃ i j : Fin 8, ks = [(i.val : Int), (j.val : Int)] := by
  unfold smallK at h
  split at h
  · rename_i a b
    simp only [Bool.and_eq_true, decide_eq_true_eq] at h
    obtain ⟨⟨h1, h2⟩, h3, h4⟩ := h
    refine ⟨⟨a.toNat, by omega⟩, ⟨b.toNat, by omega⟩, ?_⟩
    have e1 : ((a.toNat : Nat) : Int) = a := Int.toNat_of_nonneg h1
    have e2 : ((b.toNat : Nat) : Int) = b := Int.toNat_of_nonneg h3
    simp only [e1, e2]
  · cases h
theorem hash_apart {P : Program} {w : World} {ks ls : List Int} (h1 : smallK ks = true) (h2 : smallK ls = true) (e : (tupleKind (mixKind P w)).hash (ks.map Sum.inl) = (tupleKind (mixKind P w)).hash (ls.map Sum.inl)) : ks = ls := by
  obtain ⟨i, j, rfl⟩ := smallK_pair h1
  obtain ⟨k, l, rfl⟩ := smallK_pair h2
  have e' : hashP (i.val : Int) (j.val : Int) = hashP (k.val : Int) (l.val : Int) := e
  obtain ⟨rfl, rfl⟩ := hashP_apart i j k l e'
  rfl
section
variable {pg : Program} {wd : World} {Ar : Around} {Ex : Value → Shared → Prop} {sg : Shared} {κ : Type} [DecidableEq κ] {kd : HeapKind pg wd κ}
theorem dictH {t : Addr} {ms : List (κ × Addr × Value)} {R : Value → Shared → Prop} (lo : (t == sysModules) = false) (dt : sg.heap.DictOfH kd t ms) (room : kd.room Ar.in1.in1) (kp : ∀ (h' : Heap), (∀ b o, sg.heap.get? b = some o → h'.get? b = some o) → ∀ x ∈ ms, kd.is h' x.1 x.2.1) (tt : ∀ x ∈ ms, sg.TypeIs (.ref x.2.1) "tuple") (ap : (ms.map fun x => kd.hash x.1).Nodup) (le : ms.length ≤ sizeLine)
    (k : ∀ h', h'.DictOfH kd sg.heap.objs.size ms → (∀ b o, sg.heap.get? b = some o → h'.get? b = some o) → R (.ref sg.heap.objs.size) { sg with heap := h' }) : wpAny (model pg wd) Ar (call (.type "dict") [.ref t]) R Ex sg := by
  refine callType_codes (Q₁ := fun ob s1 => ob = .ref sg.heap.objs.size ∧ s1 = { sg with heap := Heap.push sg.heap { cls := .type "dict", data := .dict #[] } }) F.kt_called_dict (F.kt_typeCall_dict_1 _) F.entry_dict_init (kt_code_dict_new _ ⟨rfl, rfl⟩) ?nx
  case nx =>
  rintro ob s1 ⟨rfl, rfl⟩
  have old : ∀ b o, sg.heap.get? b = some o → (Heap.push sg.heap { cls := .type "dict", data := .dict #[] }).get? b = some o := fun b o z => Heap.get?_push_of_some _ z
  have fresh : (Heap.push sg.heap { cls := .type "dict", data := .dict #[] }).DictOfH kd sg.heap.objs.size [] := Heap.DictOfH.new sg.heap
  have src : (Heap.push sg.heap { cls := .type "dict", data := .dict #[] }).DictOfH kd t ms := dt.at' (old t) (kp _ old)
  have ne : sg.heap.objs.size ≠ t := by
    obtain ⟨_, _, _, hg, _⟩ := dt
    exact fun e => absurd (Heap.lt_size hg) (by rw [e]; exact Nat.lt_irrefl _)
  have nd : (ms.map (·.1)).Nodup := dt.nodup
  refine ⟨fresh.typeIs, F.args_dict_init_2 _ _, ?go⟩
  case go =>
  unfold Builtin.«dict.__init__»
  refine wpAny_bind ?sel
  case sel =>
  unfold Builtin.Dict.selfAndRest
  refine wpAny_bind (wpAny_notOrdered_dict fresh.typeIs ?no)
  case no =>
  show wpAny _ _ (pure (sg.heap.objs.size, [Value.ref t])) _ _ _
  refine wpAny_pure ?pu
  case pu =>
  refine updateFrom_dictH (A := Ar.in1) .none room ne lo fresh src (.inr ⟨fun x hx => ?ty, ap⟩) (by simpa using le) fun h' d1 d2 sb => ?fin
  case ty =>
    obtain ⟨o, h1, h2⟩ := tt x hx
    exact ⟨o, old _ _ h1, h2⟩
  case fin =>
  rw [storedAllH_nil_of_nodup ms nd] at d1
  exact ⟨rfl, k h' d1 fun b o z => (sb.2 b (Nat.ne_of_lt (Heap.lt_size z))).trans (old b o z)⟩
end
section
variable {fa : FA} {X : Cx} {a b c : Expr} {ma mb mc : M Val} {pos : Pos}
theorem keys_pair {K : PySem.W.Frag} {F : Hp} {ρ : Nat → Addr} {n : Nat} {kvs : List (List Key × V)} {es : List (List Int × Val)} (r : PrD K fa F ρ n kvs es) : kvs.map (·.1) = es.map fun q => q.1.map Sum.inl := by
  induction r with
  | nil => rfl
  | cons h _ ih => rw [List.map_cons, List.map_cons, ih, h.1]
theorem call_dictT (hu : X.A.units + 65 < cLine) : CallR X (.type "dict") (fun xs H Q => ∃ (t : Addr) (kvs : List (List Key × V)) (ls : List (List Int)), xs = [.ref t] ∧ H t = some (.dT kvs) ∧ kvs.map (·.1) = ls.map (fun q => q.map Sum.inl) ∧ (∀ l ∈ ls, smallK l = true) ∧ ∀ p, H p = none → Q (.ref p) (upd H p (.dT kvs))) := by
  intro pins s σ H xs us Q I r ⟨t, kvs, ls, ex, hd, ek, hk, q⟩
  subst ex
  obtain ⟨u, eu, rx⟩ := vals1 r
  subst eu
  cases rx
  obtain ⟨z, lo, ys, rel, dd⟩ := dt_of I.hok hd
  have hl : kvs.length = ys.length := Paired.length rel
  have hkeys : ys.map (·.1) = kvs.map (·.1) := by
    clear dd z hl ek hd q
    induction rel with
    | nil => rfl
    | cons h _ ih => rw [List.map_cons, List.map_cons, ih, h.1]
  have htup : ∀ y ∈ ys, ∃ k, H y.2.1 = some (.tup (k.map kV)) ∧ y.1 = k := by
    clear dd z hl ek hd q hkeys
    induction rel with
    | nil => intro y hy; cases hy
    | @cons p q ps qs h _ ih =>
      intro y hy
      rcases List.mem_cons.mp hy with rfl | hy
      · exact ⟨p.1, h.2.1, h.1.symm⟩
      · exact ih y hy
  refine dictH lo dd (by show X.A.in1.in1.units < cLine; show X.A.units + 1 + 1 < cLine; omega) (fun h' kp y hy => ?_) (fun y hy => ?_) ?_ (by rw [← hl]; exact z) fun h' d' kp => ?_
  · obtain ⟨k, h1, rfl⟩ := htup y hy
    obtain ⟨o, its, n, g1, g2, g3, g4⟩ := key_of I.hok h1
    exact ⟨o, its, n, kp _ _ g1, g2, g3, g4⟩
  · obtain ⟨k, h1, rfl⟩ := htup y hy
    obtain ⟨o, its, n, g1, g2, g3, g4⟩ := key_of I.hok h1
    exact ⟨o, g1, g2⟩
  · have nd : (ys.map (·.1)).Nodup := dd.nodup
    rw [hkeys, ek] at nd
    have e : (ys.map fun x => (tupleKind (mixKind X.prog X.w)).hash x.1) = ls.map fun l => (tupleKind (mixKind X.prog X.w)).hash (l.map Sum.inl) := by
      have : (ys.map fun x => (tupleKind (mixKind X.prog X.w)).hash x.1) = (ys.map (·.1)).map (tupleKind (mixKind X.prog X.w)).hash := by rw [List.map_map]; rfl
      rw [this, hkeys, ek, List.map_map]; rfl
    rw [e]
    refine List.pairwise_map.mpr ((List.pairwise_map.mp nd).imp_of_mem fun {x y} hx hy ne z => ne ?_)
    rw [hash_apart (hk x hx) (hk y hy) z]
  · have hm : (s.heap.objs.size == sysModules) = false := beq_eq_false_iff_ne.mpr (Nat.ne_of_gt I.big)
    obtain ⟨o, es, ep, h1, h2, h3, h4, h5, h6⟩ := d'
    have fr : H s.heap.objs.size = none := I.hok.fresh (Nat.le_refl _)
    refine ⟨.ref s.heap.objs.size, upd H s.heap.objs.size (.dT kvs), I.laid (t' := s.toks) kp (Nat.le_refl _) (show ObjOk X.prog X.w _ _ _ (.dT kvs) from ⟨z, hm, ys, ?_, o, es, ep, h1, h2, h3, h4, h6⟩), rfl, q _ fr⟩
    refine Paired.mapP rel fun p q w => ⟨w.1, ?_, w.2.2⟩
    rw [upd_ne (ne_of_none w.2.1 fr)]; exact w.2.1
theorem sm_dcpy {p : Pos} (hu : X.A.units + 65 < cLine) (hg : Gl X "dict") (hm : X.mg "dict" = none) (ha : SimE fa X a ma) (hn : noStar a = true) :
    SimE fa X (.Call (.Name "dict" p) [a] [] pos) (fun env S => (ma env S).bind fun x S1 => dcpyV S1 x) := by
  refine ⟨fun W tk => PE.imp (pe_bi1 .dict (call_dictT hu) hg hm ((sa_cons ha sa_nil hn).run W tk) hn) fun σ H Q q => ?_⟩
  obtain ⟨env, S, F, ρ, s, e, p⟩ := q
  refine ⟨env, S, F, ρ, s, e, ?_⟩
  dsimp only at p
  unfold mcons mnil
  cases q0 : ma env S with
  | stuck => rw [q0] at p; exact p
  | exc e S' => rw [q0] at p; exact p
  | ok v S1 =>
    rw [q0] at p
    simp only [R.bind_ok] at p ⊢
    intro xs F1 H1 ρ1 s1 x1 r1
    cases r1 with
    | cons r1 rn =>
      cases rn
      have pp := Post.shift x1 p
      clear p
      have p := pp
      clear pp
      unfold dcpyV at p
      cases q3 : dctV S1 v with
      | none => rw [q3] at p; exact p.elim
      | some es =>
        rw [q3] at p
        dsimp only at p
        split at p
        · rename_i hs
          rw [Bool.and_eq_true, List.all_eq_true] at hs
          obtain ⟨n, kvs, rfl, rfl, h1, h2, rr⟩ := dct_at s1 r1 q3
          refine ⟨_, kvs, es.map (·.1), rfl, h2, by rw [keys_pair rr, List.map_map]; rfl, fun l hl => ?_, fun p' hp => ?_⟩
          · obtain ⟨q, hq, rfl⟩ := List.mem_map.mp hl
            exact hs.1 q hq
          · obtain ⟨ρ2, e2, s2, x2⟩ := s1.alloc hp (.dct rr)
            exact p _ F1 _ ρ2 s2 x2 ⟨by simp, by rw [e2]⟩
        · exact p.elim
theorem ss_setd {p2 : Pos} (hu : X.A.units + 65 < cLine) (hc : SimE fa X c mc) (ha : SimE fa X a ma) (hb : SimE fa X b mb) (hcc : noComp c = true) (hsl : noSlice b = true)
    (h1 : swappedStores [.Subscript a b p2] c X.env = pure none) : SimS fa X (.Assign [.Subscript a b p2] c pos)
    (fun env S => .ofR env (mc env S) fun v S1 => .ofR env (ma env S1) fun x S2 => .ofR env (mb env S2) fun y S3 => setdV env x y v S3) := by
  refine ⟨fun W tk => PS.imp (ps_asg (hc.run W tk) (pg_sub (ha.run W tk) (hb.run W tk) (set_dict (by omega)) (by clear hb; intro v; cases b <;> first | rfl | (simp [noSlice] at hsl))) (noComp_ok hcc (some (.Subscript a b p2)) pos.line X.env) h1 rfl) fun D σ H q => ?_⟩
  refine q.bind (rep := RepV X.K fa) fun env v S1 zv F1 H1 ρ1 s1 e1 r1 p1 => ?_
  refine ⟨env, S1, F1, ρ1, s1, e1, PostS.bind e1 p1 fun x S2 xv F2 H2 ρ2 s2 x2 r2 p2 => ?_⟩
  have e2 := e1.mono x2.fz x2.rho x2.len
  refine ⟨env, S2, F2, ρ2, s2, e2, PostS.bind e2 p2 fun y S3 yv F3 H3 ρ3 s3 x3 r3 p3 => ?_⟩
  have e3 := e2.mono x3.fz x3.rho x3.len
  have x23 := x2.trans x3
  have rz := r1.mono x23.fz x23.rho x23.len
  have rx := r2.mono x3.fz x3.rho x3.len
  unfold setdV at p3
  cases x with
  | ref n =>
    obtain ⟨hn1, rfl⟩ := rx
    cases q1 : keyV y with
    | none => rw [q1] at p3; exact p3.elim
    | some ks =>
      rw [q1] at p3
      dsimp only at p3
      cases q3 : stGet S3 n with
      | none => rw [q3] at p3; exact p3.elim
      | some o =>
        rw [q3] at p3
        cases o with
        | lst _ => exact p3.elim
        | dct en =>
          dsimp only at p3
          split at p3
          · rename_i hz
            obtain ⟨b', rfl, hb'⟩ := key_rep r3 q1
            obtain ⟨ho, h2, rr⟩ := s3.obj n _ q3
            cases rr with
            | dct rr =>
              obtain ⟨s5, x5⟩ := s3.put q3 (RepO.dct (putD_rep (ks := ks) rr rz))
              refine ⟨_, _, rfl, DPut.t (k := ks.map Sum.inl) h2 (s3.sub _ _ hb') (by rw [Paired.length rr, ← sLine_eq]; exact hz.1), ?_⟩
              exact p3 σ _ _ ρ3 s5 x5 (by rw [List.length_set]; exact e3)
          · exact p3.elim
  | _ => exact p3.elim
end
end MS

-- MsGet
/-! dicts as data: displays of two, asked with .get. -/
namespace MS
open PySem PySem.Spec PyProof.Rows L2
theorem m2_ok {X : Cx} {o e f : Expr} {m : Str} {apos cpos : Pos} (h0 : notCall0 o = true) (h1 : noStar e = true) (h2 : noStar f = true) (hl : (apos.endLine == cpos.line) = true) : M2 X o m apos e f cpos where
  base := attrBase h0 _ _ _
  few := by
    have e1 : starEach [e, f] X.env = [(false, eval e X.env), (false, eval f X.env)] := by rw [starEach_cons h1, starEach_cons h2]; rfl
    rw [e1]; rfl
  line := hl
  trees := by
    have e1 : starEach [e, f] X.env = [(false, eval e X.env), (false, eval f X.env)] := by rw [starEach_cons h1, starEach_cons h2]; rfl
    rw [e1]; rfl
theorem kv_zip {K : PySem.W.Frag} {F : Hp} : ∀ {ks : List Key} {xs : List V} {ds : List D}, ks.length = xs.length → Reps K F xs ds → KvRep K F (ks.zip xs) ((ks.map kD).zip ds)
  | [], _, _, _, .nil => .nil
  | k :: ks, _, _, l, .cons h1 h2 => .cons ⟨rfl, h1⟩ (kv_zip (ks := ks) (by simpa using l) h2)
  | _ :: _, _, _, l, .nil => by simp at l
  | [], _, _, l, .cons _ _ => by simp at l
theorem Rep.kv {K : PySem.W.Frag} {F : Hp} {x : V} {es : List (D × D)} (r : Rep K F x (.dict es)) : ∃ a kvs, x = .ref a ∧ F a = some (.dK kvs) ∧ KvRep K F kvs es := by
  cases r with
  | dct h l rr => exact ⟨_, _, rfl, h, kv_zip l rr⟩
theorem lookI_rep {K : PySem.W.Frag} {F : Hp} {kvs : List (Key × V)} {es : List (D × D)} (r : KvRep K F kvs es) (k : Int) :
    (∀ d, lookI es k = some d → ∃ x, valV kvs (.inl k) = some x ∧ Rep K F x d) ∧ (lookI es k = none → valV kvs (.inl k) = none) := by
  have key : ∀ (j : Key), isKeyI k (kD j) = decide (j = .inl k) := fun j => by
    cases j with
    | inl j => simp only [kD, isKeyI, key_ll]
    | inr j => simp [kD, isKeyI]
  unfold lookI valV
  induction r with
  | nil => exact ⟨fun d h => by simp at h, fun _ => rfl⟩
  | @cons p q ps qs h1 h2 ih =>
    rw [List.find?_cons, List.find?_cons, h1.1, key]
    by_cases e : p.1 = .inl k
    · rw [decide_eq_true e]
      exact ⟨fun d h => ⟨p.2, rfl, by cases h; exact h1.2⟩, fun h => by cases h⟩
    · rw [decide_eq_false e]
      exact ih
section
variable {fa : FA} {X : Cx} {a b c d : Expr} {ma mb mc md : M Val} {pos : Pos}
theorem sm_getI {apos : Pos} (hu : X.A.units + 65 < cLine) (ha : SimE fa X a ma) (hb : SimE fa X b mb) (hc : SimE fa X c mc) (m : M2 X a "get" apos b c pos) :
    SimE fa X (.Call (.Attribute a "get" apos) [b, c] [] pos) (fun env S => (ma env S).bind fun x S1 => if isDic x then (mb env S1).bind fun y S2 => (mc env S2).bind fun w S3 => .ofO (getIV x y w) S3 else .stuck) := by
  refine ⟨fun W tk => PE.imp (pe_dget2 (by omega) (ha.run W tk) (hb.run W tk) (hc.run W tk) m) fun σ H Q q => ?_⟩
  refine q.bind (rep := RepV X.K fa) fun env v S1 x F1 H1 ρ1 s1 e1 r1 p1 => ?_
  cases v with
  | d v =>
    cases v with
    | dict es =>
      simp only [isDic, if_true] at p1
      obtain ⟨l, kvs, rfl, h1, rr⟩ := (show Rep X.K F1 x (.dict es) from r1).kv
      refine ⟨_, rfl, .inl ⟨kvs, .inl (s1.sub _ _ h1)⟩, rdG.mk s1 e1 (p1.bind fun w S2 y F2 H2 ρ2 s2 x2 r2 p2 => ?_)⟩
      refine rdG.mk s2 (e1.mono x2.fz x2.rho x2.len) (p2.bind fun u S3 z F3 H3 ρ3 s3 x3 r3 p3 => ?_)
      have x23 := x2.trans x3
      obtain ⟨t, et, q2⟩ := p3.ofO
      cases w with
      | d w =>
        cases w with
        | int i =>
          cases u with
          | d u =>
            simp only [getIV] at et
            cases et
            cases (show Rep X.K F2 y (.int i) from r2)
            have hk := s3.sub _ _ (x23.fz _ _ h1)
            refine ⟨_, DGet.k (k := .inl i) hk, q2 _ F3 H3 ρ3 s3 (Ext.refl ..) ?_⟩
            show Rep X.K F3 _ ((lookI es i).getD u)
            have lr := lookI_rep rr i
            cases q5 : lookI es i with
            | none => rw [lr.2 q5]; exact r3
            | some d5 =>
              obtain ⟨z5, hz, rz⟩ := lr.1 d5 q5
              rw [hz]; exact rz.mono x23.fz
          | _ => cases et
        | _ => cases et
      | _ => cases et
    | _ => exact p1.elim
  | _ => exact p1.elim
theorem sm_dict2 (ha : SimE fa X a ma) (hb : SimE fa X b mb) (hc : SimE fa X c mc) (hd : SimE fa X d md) :
    SimE fa X (.Dict [some a, some c] [b, d] pos) (fun env S => (ma env S).bind fun x S1 => (mb env S1).bind fun y S2 => (mc env S2).bind fun z S3 => (md env S3).bind fun w S4 => .ofO (dict2V x y z w) S4) := by
  have h15 : [some a, some c].length ≤ 15 := by simp
  refine ⟨fun W tk => PE.imp (pe_disp (pps_cons (ha.run W tk) (hb.run W tk) (pps_cons (hc.run W tk) (hd.run W tk) pps_nil)) rfl rfl (fun z => nomatch z) h15) fun σ H Q q => ?_⟩
  intro p hp
  obtain ⟨env, S, F, ρ, s, e, q⟩ := q
  obtain ⟨s', x'⟩ := s.junk (o := .dK []) hp
  have l0 : Loose F (upd H p (.dK [])) ρ S p (.dK []) := Loose.new s hp (fun _ z => nomatch z)
  refine ⟨env, S, F, ρ, s', e, ?_⟩
  dsimp only at q
  cases q0 : ma env S with
  | stuck => rw [q0] at q; exact q
  | exc ee S1 =>
    rw [q0] at q
    exact fun c d F1 H1 ρ1 s1 x1 r1 => q c d F1 H1 ρ1 s1 (x'.trans x1) r1
  | ok v S1 =>
    rw [q0, R.bind_ok] at q
    intro x F1 H1 ρ1 s1 x1 r1
    refine ⟨env, S1, F1, ρ1, s1, e.mono x1.fz x1.rho x1.len, ?_⟩
    cases q1 : mb env S1 with
    | stuck => rw [q1] at q; exact q
    | exc ee S2 =>
      rw [q1] at q
      exact fun c d F2 H2 ρ2 s2 x2 r2 => q c d F2 H2 ρ2 s2 ((x'.trans x1).trans x2) r2
    | ok u S2 =>
      rw [q1, R.bind_ok] at q
      intro y F2 H2 ρ2 s2 x2 r2
      have x12 := x1.trans x2
      refine ⟨env, S2, F2, ρ2, s2, e.mono x12.fz x12.rho x12.len, ?_⟩
      cases q2 : mc env S2 with
      | stuck => rw [q2] at q; exact q
      | exc ee S3 =>
        rw [q2] at q
        exact fun c d F3 H3 ρ3 s3 x3 r3 => q c d F3 H3 ρ3 s3 (((x'.trans x1).trans x2).trans x3) r3
      | ok t S3 =>
        rw [q2, R.bind_ok] at q
        intro z F3 H3 ρ3 s3 x3 r3
        have x13 := x12.trans x3
        refine ⟨env, S3, F3, ρ3, s3, e.mono x13.fz x13.rho x13.len, ?_⟩
        cases q3 : md env S3 with
        | stuck => rw [q3] at q; exact q
        | exc ee S4 =>
          rw [q3] at q
          exact fun c d F4 H4 ρ4 s4 x4 r4 => q c d F4 H4 ρ4 s4 ((((x'.trans x1).trans x2).trans x3).trans x4) r4
        | ok g S4 =>
          rw [q3, R.bind_ok] at q
          intro w F4 H4 ρ4 s4 x4 r4
          have l4 := (((l0.step x1).step x2).step x3).step x4
          have x24 := x3.trans x4
          have x34 := x4
          cases v with
          | d v =>
            cases v with
            | int i =>
              cases u with
              | d u =>
                cases t with
                | d t =>
                  cases t with
                  | int j =>
                    cases g with
                    | d g =>
                      cases (show Rep X.K F1 x (.int i) from r1)
                      cases (show Rep X.K F3 z (.int j) from r3)
                      refine ⟨l4.h, [(.inl i, y), (.inl j, w)], rfl, by simp, ?_⟩
                      obtain ⟨s5, x5, sF⟩ := l4.adopt (o' := .dK (mergeK [] [(.inl i, y), (.inl j, w)])) s4 hp ((((x'.trans x1).trans x2).trans x3).trans x4)
                      refine q _ _ _ ρ4 s5 x5 (Rep.of_kv upd_same ?_)
                      have ry : Rep X.K F2 y u := r2
                      have rw' : Rep X.K F4 w g := r4
                      exact merge_rep (ns := [(i, u), (j, g)]) (.cons ⟨rfl, (ry.mono x24.fz).mono sF⟩ (.cons ⟨rfl, rw'.mono sF⟩ .nil)) .nil
                    | _ => exact q.elim
                  | _ => exact q.elim
                | _ => exact q.elim
              | _ => exact q.elim
            | _ => exact q.elim
          | _ => exact q.elim
end
end MS

-- MsLz
/-! list(zip(a, b)). -/
namespace MS
open PySem PySem.Spec PyProof.Rows L2
section
variable {prog : Program} {w : World} {A : Around} {E : Value → Shared → Prop} {s : Shared} {z TI TO i1 i2 : Addr} {fp1 fp2 : List Addr} {n1 n2 i : Nat} {P1 P2 : Nat → Value → Prop} {St1 St2 : Nat → Heap → Prop} {a1 a2 : Value}
theorem zipD2_held_item {T : Addr} {f : Bool} {oT : Obj} {Q : Value → Shared → Prop} (S : ZipSep2 z TI TO i1 i2 fp1 fp2) (D1 : Draws prog w A i1 fp1 n1 P1 St1) (D2 : Draws prog w A i2 fp2 n2 P2 St2)
    (hz : IsZipHeld s.heap z TI TO T f) (hT : s.heap.get? T = some oT) (hTI : IsTupOf2 s.heap TI (.ref i1) (.ref i2)) (st1 : St1 i s.heap) (st2 : St2 i s.heap) (hlt1 : i < n1) (hlt2 : i < n2)
    (hQ : ∀ x1 x2 h' tk, P1 i x1 → P2 i x2 → IsZipHeld h' z TI TO T true → St1 (i + 1) h' → St2 (i + 1) h' → IsTupOf2 h' s.heap.objs.size x1 x2 → h'.objs.size = s.heap.objs.size + 1 →
      (∀ c o, c ≠ z → c ≠ i1 → c ≠ i2 → s.heap.get? c = some o → h'.get? c = some o) → Q (.ref s.heap.objs.size) { s with heap := h', toks := tk }) :
    wpAny (model prog w) A (Builtin.«zip.__next__» ⟨[.ref z], []⟩) (fun fin s' => ∃ v, fin = .done (.ret v) ∧ Q v s') E s := by
  obtain ⟨hp, g, d, tk0, os⟩ := s
  show wpAny _ _ (field (.ref z) 2 >>= _) _ _ _
  refine wpAny_bind (wpAny_field hz rfl (x := .bool false) rfl ?_)
  show wpAny _ _ (field (.ref z) 3 >>= _) _ _ _
  refine wpAny_bind (wpAny_field hz rfl (x := .ref TI) rfl ?_)
  refine wpAny_bind (wpAny_seqItems hTI rfl ?_)
  show wpAny _ _ (Builtin.SmallTypes.ownedTupleIsFree (.ref z) >>= _) _ _ _
  refine wpAny_bind (wpAny_tupleHeld_zip hz hT fun h₁ hz₁ hs₁ => ?_)
  replace hs₁ : Heap.SameBut z hp h₁ := hs₁
  simp only [Bool.false_eq_true, if_false]
  refine wpAny_bind ?_
  rw [← Array.forIn_toList]
  simp only [List.forIn_cons, List.forIn_nil]
  refine wpAny_bind (wpAny_bind (wpAny_holding ?_))
  show wpAny _ _ (Builtin.SmallTypes.nextOf (.ref i1) >>= _) _ _ ⟨h₁, g, d, tk0, os⟩
  refine wpAny_bind (D1.item i _ _ _ hlt1 (D1.over st1 hs₁ S.zf1) fun x1 p1 tk1 hx1 sn1 hp1 => wpAny_pure ?_)
  replace hp1 : Heap.SameBut i1 h₁ p1 := hp1
  refine wpAny_pure ?_
  refine wpAny_bind (wpAny_bind (wpAny_holding ?_))
  show wpAny _ _ (Builtin.SmallTypes.nextOf (.ref i2) >>= _) _ _ ⟨p1, g, d, tk1, os⟩
  refine wpAny_bind (D2.item i _ _ _ hlt2 (D2.over (D2.over st2 hs₁ S.zf2) hp1 S.sep1_2) fun x2 p2 tk2 hx2 sn2 hp2 => wpAny_pure ?_)
  replace hp2 : Heap.SameBut i2 p1 p2 := hp2
  refine wpAny_pure (wpAny_pure ?_)
  show wpAny _ _ (newTuple [x1, x2] >>= _) _ _ ⟨p2, g, d, tk2, os⟩
  refine wpAny_bind (wpAny_newTuple ?_)
  have hsz : p2.objs.size = hp.objs.size := by rw [hp2.1, hp1.1, hs₁.1]
  have hz₃ : IsZipHeld p2 z TI TO T true := hp2.extBut _ _ S.zi2 (hp1.extBut _ _ S.zi1 hz₁)
  have hk : ∀ c o, c ≠ z → c ≠ i1 → c ≠ i2 → hp.get? c = some o → p2.get? c = some o := fun c o c1 c2 c3 e => hp2.extBut _ _ c3 (hp1.extBut _ _ c2 (hs₁.extBut _ _ c1 e))
  have hj1 : St1 (i + 1) p2 := D1.over sn1 hp2 S.sep2_1
  refine wpAny_pure ⟨_, rfl, ?_⟩
  show Q (.ref p2.objs.size) ⟨p2.push { cls := .type "tuple", data := .seq #[x1, x2] }, g, d, tk2, os⟩
  have hp : IsTupOf2 (p2.push { cls := .type "tuple", data := .seq #[x1, x2] }) p2.objs.size x1 x2 := Heap.get?_push_size _ rfl
  have hz4 : (p2.push { cls := .type "tuple", data := .seq #[x1, x2] }).objs.size = p2.objs.size + 1 := Heap.size_push ..
  rw [hsz] at hp hz4 ⊢
  exact hQ x1 x2 _ tk2 hx1 hx2 (Heap.get?_push_of_some _ hz₃) (D1.frame _ _ _ hj1 fun b _ o e => Heap.get?_push_of_some _ e) (D2.frame _ _ _ sn2 fun b _ o e => Heap.get?_push_of_some _ e) hp hz4 fun c o c1 c2 c3 e => Heap.get?_push_of_some _ (hk c o c1 c2 c3 e)
theorem zipD2_held_end {T : Addr} {f : Bool} {oT : Obj} {Q : Fin → Shared → Prop} (S : ZipSep2 z TI TO i1 i2 fp1 fp2) (D1 : Draws prog w A i1 fp1 n1 P1 St1) (D2 : Draws prog w A i2 fp2 n2 P2 St2)
    (hz : IsZipHeld s.heap z TI TO T f) (hT : s.heap.get? T = some oT) (hTI : IsTupOf2 s.heap TI (.ref i1) (.ref i2)) (st1 : St1 i s.heap) (st2 : St2 i s.heap) (hle1 : i ≤ n1) (hle2 : i ≤ n2) (hend : i = n1 ∨ i = n2)
    (hE : ∀ h' tk e, (∀ c o, c ≠ z → c ≠ i1 → c ≠ i2 → s.heap.get? c = some o → h'.get? c = some o) → (∃ o, h'.get? e = some o ∧ o.cls = .type "StopIteration") → E (.ref e) { s with heap := h', toks := tk }) :
    wpAny (model prog w) A (Builtin.«zip.__next__» ⟨[.ref z], []⟩) Q E s := by
  obtain ⟨hp, g, d, tk0, os⟩ := s
  show wpAny _ _ (field (.ref z) 2 >>= _) _ _ _
  refine wpAny_bind (wpAny_field hz rfl (x := .bool false) rfl ?_)
  show wpAny _ _ (field (.ref z) 3 >>= _) _ _ _
  refine wpAny_bind (wpAny_field hz rfl (x := .ref TI) rfl ?_)
  refine wpAny_bind (wpAny_seqItems hTI rfl ?_)
  show wpAny _ _ (Builtin.SmallTypes.ownedTupleIsFree (.ref z) >>= _) _ _ _
  refine wpAny_bind (wpAny_tupleHeld_zip hz hT fun h₁ hz₁ hs₁ => ?_)
  replace hs₁ : Heap.SameBut z hp h₁ := hs₁
  simp only [Bool.false_eq_true, if_false]
  refine wpAny_bind ?_
  rw [← Array.forIn_toList]
  simp only [List.forIn_cons, List.forIn_nil]
  refine wpAny_bind (wpAny_bind (wpAny_holding ?_))
  show wpAny _ _ (Builtin.SmallTypes.nextOf (.ref i1) >>= _) _ _ ⟨h₁, g, d, tk0, os⟩
  by_cases hlt1 : i < n1
  · refine wpAny_bind (D1.item i _ _ _ hlt1 (D1.over st1 hs₁ S.zf1) fun x1 p1 tk1 hx1 sn1 hp1 => wpAny_pure ?_)
    replace hp1 : Heap.SameBut i1 h₁ p1 := hp1
    refine wpAny_pure ?_
    have hi2 : i = n2 := by omega
    refine wpAny_bind (wpAny_bind (wpAny_holding ?_))
    show wpAny _ _ (Builtin.SmallTypes.nextOf (.ref i2) >>= _) _ _ ⟨p1, g, d, tk1, os⟩
    refine wpAny_bind (D2.done ⟨p1, g, d, tk1, os⟩ _ _ (by rw [← hi2]; exact D2.over (D2.over st2 hs₁ S.zf2) hp1 S.sep1_2) fun q e hq he => ?_)
    exact hE q tk1 e (fun c o c1 c2 c3 x => hq _ _ c3 (hp1.extBut _ _ c2 (hs₁.extBut _ _ c1 x))) he
  · have hi1 : i = n1 := by omega
    refine wpAny_bind (D1.done ⟨h₁, g, d, tk0, os⟩ _ _ (by rw [← hi1]; exact D1.over st1 hs₁ S.zf1) fun q e hq he => ?_)
    exact hE q tk0 e (fun c o c1 c2 c3 x => hq _ _ c2 (hs₁.extBut _ _ c1 x)) he
end
/-! ### a zip whose tuples stay -/
def ZlSt (h : Heap) (z TI TO i1 i2 S : Addr) (St1 St2 : Nat → Heap → Prop) (i : Nat) : Prop :=
  IsTupOf2 h TI (.ref i1) (.ref i2) ∧ St1 i h ∧ St2 i h ∧ ((∃ a1 a2, IsZip h z TI TO .none ∧ IsTupOf2 h TO a1 a2) ∨ ∃ T f oT, IsZipHeld h z TI TO T f ∧ h.get? T = some oT ∧ S < T)
/-- the cells of the zip lie below S -/
structure ZlLow (z TI TO i1 i2 S : Addr) (fp1 fp2 : List Addr) : Prop where
  z : z < S
  TI : TI < S
  TO : TO < S
  i1 : i1 < S
  i2 : i2 < S
  f1 : ∀ b ∈ fp1, b < S
  f2 : ∀ b ∈ fp2, b < S
section
variable {prog : Program} {w : World} {A : Around} {E : Value → Shared → Prop} {s : Shared} {z TI TO i1 i2 S : Addr} {fp1 fp2 : List Addr} {n1 n2 i : Nat} {P1 P2 : Nat → Value → Prop} {St1 St2 : Nat → Heap → Prop}
theorem ZlSt.keep {h h' : Heap} (L : ZlLow z TI TO i1 i2 S fp1 fp2) (D1 : Draws prog w A i1 fp1 n1 P1 St1) (D2 : Draws prog w A i2 fp2 n2 P2 St2) (x : ZlSt h z TI TO i1 i2 S St1 St2 i) (hk : ∀ b o, b ≠ S → h.get? b = some o → h'.get? b = some o) : ZlSt h' z TI TO i1 i2 S St1 St2 i := by
  obtain ⟨g1, g2, g3, g4⟩ := x
  refine ⟨hk _ _ (Nat.ne_of_lt L.TI) g1, D1.frame _ _ _ g2 fun b hb o e => hk b o (Nat.ne_of_lt (L.f1 b hb)) e, D2.frame _ _ _ g3 fun b hb o e => hk b o (Nat.ne_of_lt (L.f2 b hb)) e, ?_⟩
  rcases g4 with ⟨a1, a2, q1, q2⟩ | ⟨T, f, oT, q1, q2, q3⟩
  · exact .inl ⟨a1, a2, hk _ _ (Nat.ne_of_lt L.z) q1, hk _ _ (Nat.ne_of_lt L.TO) q2⟩
  · exact .inr ⟨T, f, oT, hk _ _ (Nat.ne_of_lt L.z) q1, hk _ _ (Nat.ne_of_gt q3) q2, q3⟩
theorem zl_item {Q : Option Value → Shared → Prop} (L : ZlLow z TI TO i1 i2 S fp1 fp2) (Sp : ZipSep2 z TI TO i1 i2 fp1 fp2) (D1 : Draws prog w A.in1 i1 fp1 n1 P1 St1) (D2 : Draws prog w A.in1 i2 fp2 n2 P2 St2)
    (hst : ZlSt s.heap z TI TO i1 i2 S St1 St2 i) (hS : S < s.heap.objs.size) (hlt1 : i < n1) (hlt2 : i < n2)
    (hQ : ∀ x1 x2 h' tk, P1 i x1 → P2 i x2 → ZlSt h' z TI TO i1 i2 S St1 St2 (i + 1) → IsTupOf2 h' s.heap.objs.size x1 x2 → h'.objs.size = s.heap.objs.size + 1 →
      (∀ c o, c ≠ z → c ≠ TO → c ≠ i1 → c ≠ i2 → s.heap.get? c = some o → h'.get? c = some o) → Q (some (.ref s.heap.objs.size)) { s with heap := h', toks := tk }) :
    wpAny (model prog w) A (pyNext (.ref z)) Q E s := by
  obtain ⟨g1, g2, g3, g4⟩ := hst
  rcases g4 with ⟨a1, a2, q1, q2⟩ | ⟨T, f, oT, q1, q2, q3⟩
  · refine wpAny_pyNext_zipD2_item Sp D1 D2 q1 g1 q2 g2 g3 hlt1 hlt2 fun x1 x2 h' tk y1 y2 b1 b2 d1 d2 b5 b6 b7 => ?_
    exact hQ x1 x2 h' tk y1 y2 ⟨b7 _ _ Sp.TIz Sp.TITO Sp.TIi1 Sp.TIi2 g1, d1, d2, .inr ⟨_, false, _, b1, b5, hS⟩⟩ b5 b6 b7
  · have hT : s.TypeIs (.ref z) "zip" := ⟨_, q1, rfl⟩
    unfold pyNext
    refine wpAny_bind (wpAny_attempt (wpAny_callSpecial?_slot (name := Str.ofString "__next__") hT F.slot_zip_next
      (wpAny_call_entry F.slot_zip_next hT F.entry_zip_next
        (zipD2_held_item Sp D1 D2 q1 q2 g1 g2 g3 hlt1 hlt2 fun x1 x2 h' tk y1 y2 b1 d1 d2 b5 b6 b7 => wpAny_pure ?_) (F.args_zip_next_1 _))))
    refine hQ x1 x2 h' tk y1 y2 ⟨b7 _ _ Sp.TIz Sp.TIi1 Sp.TIi2 g1, d1, d2, .inr ⟨T, true, oT, b1, b7 _ _ ?_ ?_ ?_ q2, q3⟩⟩ b5 b6 fun c o c1 _ c3 c4 e => b7 c o c1 c3 c4 e
    · exact Nat.ne_of_gt (Nat.lt_trans L.z q3)
    · exact Nat.ne_of_gt (Nat.lt_trans L.i1 q3)
    · exact Nat.ne_of_gt (Nat.lt_trans L.i2 q3)
theorem zl_done {Q : Option Value → Shared → Prop} (Sp : ZipSep2 z TI TO i1 i2 fp1 fp2) (D1 : Draws prog w A.in1 i1 fp1 n1 P1 St1) (D2 : Draws prog w A.in1 i2 fp2 n2 P2 St2)
    (hst : ZlSt s.heap z TI TO i1 i2 S St1 St2 i) (hle1 : i ≤ n1) (hle2 : i ≤ n2) (hend : i = n1 ∨ i = n2)
    (hQ : ∀ h' tk, (∀ c o, c ≠ z → c ≠ TO → c ≠ i1 → c ≠ i2 → s.heap.get? c = some o → h'.get? c = some o) → Q none { s with heap := h', toks := tk }) : wpAny (model prog w) A (pyNext (.ref z)) Q E s := by
  obtain ⟨g1, g2, g3, g4⟩ := hst
  rcases g4 with ⟨a1, a2, q1, q2⟩ | ⟨T, f, oT, q1, q2, q3⟩
  · exact wpAny_pyNext_zipD2_end Sp D1 D2 q1 g1 q2 g2 g3 hle1 hle2 hend hQ
  · have hT : s.TypeIs (.ref z) "zip" := ⟨_, q1, rfl⟩
    unfold pyNext
    refine wpAny_bind (wpAny_attempt (wpAny_callSpecial?_slot (name := Str.ofString "__next__") hT F.slot_zip_next
      (wpAny_call_entry F.slot_zip_next hT F.entry_zip_next (zipD2_held_end Sp D1 D2 q1 q2 g1 g2 g3 hle1 hle2 hend fun h' tk e hk he => ?_) (F.args_zip_next_1 _))))
    obtain ⟨o, ho, hc⟩ := he
    refine wpAny_bind (wpAny_isInstance (T := "StopIteration") (b := true) ⟨o, ho, hc⟩ isSubtype_stop ?_)
    exact wpAny_pure (hQ _ _ fun c o c1 _ c3 c4 e => hk c o c1 c3 c4 e)
/-- the tuples given out -/
structure ZlG (P1 P2 : Nat → Value → Prop) (lo : Addr) (h : Heap) (as : List Addr) : Prop where
  rise : as.Pairwise (· < ·)
  above : ∀ a ∈ as, lo < a
  pairs : ∀ (j : Nat) (a : Addr), as[j]? = some a → ∃ x1 x2, P1 j x1 ∧ P2 j x2 ∧ IsTupOf2 h a x1 x2
theorem ZlG.there {lo : Addr} {h : Heap} {as : List Addr} (g : ZlG P1 P2 lo h as) {a : Addr} (ha : a ∈ as) : a < h.objs.size := by
  obtain ⟨j, hj⟩ := List.mem_iff_getElem?.mp ha
  obtain ⟨_, _, _, _, e⟩ := g.pairs j a hj
  exact Heap.lt_size e
theorem zip_no_len : typeLookup (.type "zip") "__len__" = pure none := am_miss_of_fast (by decide +kernel)
theorem zip_no_hint : typeLookup (.type "zip") "__length_hint__" = pure none := am_miss_of_fast (by decide +kernel)
theorem zl_hint {r : Addr} {Q : Bool → Shared → Prop} (hT : s.TypeIs (.ref r) "zip") (h : Q true s) : wpAny (model prog w) A (Builtin.List.listLengthHint (.ref r)) Q E s := by
  unfold Builtin.List.listLengthHint
  refine wpAny_bind (wpAny_specialOf hT zip_no_len ?_)
  refine wpAny_bind (wpAny_specialOf hT zip_no_hint ?_)
  exact wpAny_pure h
theorem zl_loop {R : Result → Shared → Prop} (hh : A.handled = none) (L : ZlLow z TI TO i1 i2 S fp1 fp2) (Sp : ZipSep2 z TI TO i1 i2 fp1 fp2) (D1 : ∀ A : Around, A.handled = none → Draws prog w A i1 fp1 n1 P1 St1) (D2 : ∀ A : Around, A.handled = none → Draws prog w A i2 fp2 n2 P2 St2)
    (hn : min n1 n2 ≤ sizeLine) (res : Value) {h₁ : Heap}
    (hR : ∀ h' tk acc c as, (∀ b o, b ≠ S → b ≠ z → b ≠ TO → b ≠ i1 → b ≠ i2 → h₁.get? b = some o → h'.get? b = some o) → h'.get? S = some { cls := .type "list", dict := none, data := .seq acc c, slots := #[] } → as.length = min n1 n2 → ZlG P1 P2 S h' as →
      acc.toList = as.map Value.ref → R (.ok (.ret res)) { s with heap := h', toks := tk }) :
    ∀ (k i : Nat) (h : Heap) (tk c : Nat) (acc : Array Value) (as : List Addr), min n1 n2 - i = k → i ≤ min n1 n2 → ZlSt h z TI TO i1 i2 S St1 St2 i → (∀ b o, b ≠ S → b ≠ z → b ≠ TO → b ≠ i1 → b ≠ i2 → h₁.get? b = some o → h.get? b = some o) →
      h.get? S = some { cls := .type "list", dict := none, data := .seq acc c, slots := #[] } → acc.toList = as.map Value.ref → as.length = i → ZlG P1 P2 S h as →
      codeAny (model prog w) A (.builtin "list.extend.loop" ⟨[.ref S, .ref z, res], []⟩) R { s with heap := h, toks := tk } := by
  have d1 := D1 A.in1.in1 hh
  have d2 := D2 A.in1.in1 hh
  have far : ∀ {a : Addr}, S < a → a ≠ S ∧ a ≠ z ∧ a ≠ TO ∧ a ≠ i1 ∧ a ≠ i2 := fun h => ⟨Nat.ne_of_gt h, Nat.ne_of_gt (Nat.lt_trans L.z h), Nat.ne_of_gt (Nat.lt_trans L.TO h), Nat.ne_of_gt (Nat.lt_trans L.i1 h), Nat.ne_of_gt (Nat.lt_trans L.i2 h)⟩
  intro k
  induction k with
  | zero =>
    intro i h tk c acc as hk hi hst hkeep hS hacc hal hG
    refine codeAny_builtin PySem.F.entry_extend_loop ?_
    rw [Around.under_plainId PySem.F.plain_extend_loop _]
    show wpAny _ A.in1 (pyNext (.ref z) >>= _) _ _ _
    refine wpAny_bind (zl_done (s := { s with heap := h, toks := tk }) (A := A.in1) Sp d1 d2 hst (by omega) (by omega) (by omega) fun h' tk' he => ?_)
    refine wpAny_pure (hR h' tk' acc c as (fun b o b1 b2 b3 b4 b5 e => he b o b2 b3 b4 b5 (hkeep b o b1 b2 b3 b4 b5 e)) (he S _ (Nat.ne_of_gt L.z) (Nat.ne_of_gt L.TO) (Nat.ne_of_gt L.i1) (Nat.ne_of_gt L.i2) hS) (by omega) ⟨hG.rise, hG.above, fun j a hj => ?_⟩ hacc)
    obtain ⟨x1, x2, y1, y2, e3⟩ := hG.pairs j a hj
    obtain ⟨_, m1, m2, m3, m4⟩ := far (hG.above a (List.mem_of_getElem? hj))
    exact ⟨x1, x2, y1, y2, he a _ m1 m2 m3 m4 e3⟩
  | succ k ih =>
    intro i h tk c acc as hk hi hst hkeep hS hacc hal hG
    have hsz : acc.size = i := by rw [← Array.length_toList, hacc, List.length_map, hal]
    refine codeAny_builtin PySem.F.entry_extend_loop ?_
    rw [Around.under_plainId PySem.F.plain_extend_loop _]
    show wpAny _ A.in1 (pyNext (.ref z) >>= _) _ _ _
    have hSl : S < h.objs.size := Heap.lt_size hS
    refine wpAny_bind (zl_item (s := { s with heap := h, toks := tk }) L Sp d1 d2 hst hSl (by omega) (by omega) fun x1 x2 h' tk' y1 y2 hst' ht hz hkp => ?_)
    dsimp only at ht hz hkp ⊢
    have hS' := hkp S _ (Nat.ne_of_gt L.z) (Nat.ne_of_gt L.TO) (Nat.ne_of_gt L.i1) (Nat.ne_of_gt L.i2) hS
    have up : ∀ b o, b ≠ S → h'.get? b = some o → (h'.update S (Obj.mapSeq (·.push (Value.ref h.objs.size)))).get? b = some o := fun b o hb e => (Heap.get?_update_other _ _ (Ne.symm hb)).trans e
    show wpAny _ A.in1 (updateSeq S (·.push (Value.ref h.objs.size)) >>= _) _ _ _
    refine wpAny_bind ?_
    refine wpAny_updateSeq hS' rfl (wpAny_pure ⟨plainId_quiet PySem.F.plain_extend_loop _, ih (i + 1) _ tk' _ (acc.push (Value.ref h.objs.size)) (as ++ [h.objs.size]) (by omega) (by omega) (hst'.keep L d1 d2 up)
      (fun b o b1 b2 b3 b4 b5 e => up b o b1 (hkp b o b2 b3 b4 b5 (hkeep b o b1 b2 b3 b4 b5 e))) (Heap.get?_update_self _ hS' rfl) (by rw [Array.toList_push, hacc, List.map_append]; rfl) (by rw [List.length_append, hal]; rfl) ⟨?_, ?_, ?_⟩⟩) (by rw [hsz]; omega) (by show (acc.push (Value.ref h.objs.size)).size ≤ sizeLine + 1; rw [Array.size_push, hsz]; omega)
    · refine List.pairwise_append.mpr ⟨hG.rise, List.pairwise_singleton _ _, fun a ha b hb => ?_⟩
      rw [List.mem_singleton.mp hb]
      exact hG.there ha
    · intro a ha
      rcases List.mem_append.mp ha with ha | ha
      · exact hG.above a ha
      · rw [List.mem_singleton.mp ha]; exact hSl
    · intro j b hj
      rcases Nat.lt_trichotomy j as.length with h1 | h1 | h1
      · rw [List.getElem?_append_left h1] at hj
        obtain ⟨u1, u2, v1, v2, e3⟩ := hG.pairs j b hj
        obtain ⟨m0, m1, m2, m3, m4⟩ := far (hG.above b (List.mem_of_getElem? hj))
        exact ⟨u1, u2, v1, v2, up b _ m0 (hkp b _ m1 m2 m3 m4 e3)⟩
      · subst h1
        have hb : h.objs.size = b := by simpa using hj
        subst hb
        exact ⟨x1, x2, by rw [hal]; exact y1, by rw [hal]; exact y2, up _ _ (Nat.ne_of_gt hSl) ht⟩
      · have hnone : (as ++ [h.objs.size])[j]? = none := List.getElem?_eq_none (by rw [List.length_append, List.length_singleton]; omega)
        rw [hnone] at hj; cases hj
end
section
variable {prog : Program} {w : World} {A : Around} {E : Value → Shared → Prop} {s : Shared} {z TI TO i1 i2 S : Addr} {fp1 fp2 : List Addr} {n1 n2 i : Nat} {P1 P2 : Nat → Value → Prop} {St1 St2 : Nat → Heap → Prop} {a1 a2 : Value}
theorem zl_extend {R : Result → Shared → Prop} (hh : A.handled = none) (L : ZlLow z TI TO i1 i2 S fp1 fp2) (Sp : ZipSep2 z TI TO i1 i2 fp1 fp2) (D1 : ∀ A : Around, A.handled = none → Draws prog w A i1 fp1 n1 P1 St1) (D2 : ∀ A : Around, A.handled = none → Draws prog w A i2 fp2 n2 P2 St2)
    (hn : min n1 n2 ≤ sizeLine) (res : Value) (c₀ : Nat) (hS : s.heap.get? S = some { cls := .type "list", data := .seq #[] c₀ }) (hz : IsZip s.heap z TI TO .none) (hTI : IsTupOf2 s.heap TI (.ref i1) (.ref i2)) (hTO : IsTupOf2 s.heap TO a1 a2) (st1 : St1 0 s.heap) (st2 : St2 0 s.heap)
    (hR : ∀ h' tk acc c as, (∀ b o, b ≠ S → b ≠ z → b ≠ TO → b ≠ i1 → b ≠ i2 → s.heap.get? b = some o → h'.get? b = some o) → h'.get? S = some { cls := .type "list", dict := none, data := .seq acc c, slots := #[] } → as.length = min n1 n2 → ZlG P1 P2 S h' as →
      acc.toList = as.map Value.ref → R (.ok (.ret res)) { s with heap := h', toks := tk }) :
    wpAny (model prog w) A.in1 (Builtin.List.listExtendWith (.ref S) (.ref z) res)
      (fun fin s' => match fin with | .done f => R (.ok f) s' | .again c' => c'.quiet = true ∧ codeAny (model prog w) A c' R s') (fun e s' => R (.error e) s') s := by
  have hst : ZlSt s.heap z TI TO i1 i2 S St1 St2 0 := ⟨hTI, st1, st2, .inl ⟨a1, a2, hz, hTO⟩⟩
  have key : ∀ (h : Heap) (c₁ tk : Nat), (∀ b o, b ≠ S → s.heap.get? b = some o → h.get? b = some o) →
      h.get? S = some { cls := .type "list", data := .seq #[] c₁ } → codeAny (model prog w) A (.builtin "list.extend.loop" ⟨[.ref S, .ref z, res], []⟩) R { s with heap := h, toks := tk } := by
    intro h c₁ tk hk hS₁
    exact zl_loop (s := s) hh L Sp D1 D2 hn res (h₁ := s.heap) hR (min n1 n2) 0 h tk c₁ #[] [] (Nat.sub_zero _) (Nat.zero_le _) (hst.keep L (D1 A hh) (D2 A hh) hk) (fun b o b1 _ _ _ _ e => hk b o b1 e) hS₁ rfl rfl
      ⟨List.Pairwise.nil, (fun _ ha => nomatch ha), (fun j a hj => by simp at hj)⟩
  unfold Builtin.List.listExtendWith
  refine wpAny_bind (wpAny_typeOf (T := "zip") ⟨_, hz, rfl⟩ ?_)
  have h1 : Builtin.List.listSameRef (.ref S) (.ref z) = false := by simp [Builtin.List.listSameRef, Nat.ne_of_gt L.z]
  have h2 : (Value.type "zip" == Value.type "list") = false := by decide
  have h3 : (Value.type "zip" == Value.type "tuple") = false := by decide
  simp only [h1, h2, h3, Bool.or_false, Bool.false_eq_true, if_false]
  refine wpAny_bind (wpAny_pyIter_zip hz ?_)
  refine wpAny_bind (wpAny_holding (zl_hint ⟨_, hz, rfl⟩ ?_))
  refine wpAny_ite_split (fun _ => ?_) (fun _ => wpAny_pure ⟨plainId_quiet PySem.F.plain_extend_loop _, key _ c₀ _ (fun b o _ e => e) hS⟩)
  refine wpAny_bind (wpAny_rule ?_)
  refine wpAny_bind ?_
  show wpAny _ _ (updateSeq S (·.push .none) >>= fun _ => updateSeq S (·.pop)) _ _ _
  refine wpAny_bind (wpAny_updateSeq hS rfl ?_)
  have hS₂ := Heap.get?_update_self (Obj.mapSeq (·.push Value.none)) hS rfl
  refine wpAny_updateSeq (hz := by seq_fits) hS₂ rfl ?_
  have hS₃ := Heap.get?_update_self (Obj.mapSeq (·.pop)) hS₂ rfl
  refine wpAny_pure ⟨plainId_quiet PySem.F.plain_extend_loop _, key _ _ _ (fun b o hb e => ?_) hS₃⟩
  exact (Heap.get?_update_other _ _ (Ne.symm hb)).trans ((Heap.get?_update_other _ _ (Ne.symm hb)).trans e)
theorem zl_init {R : Result → Shared → Prop} (hh : A.handled = none) (L : ZlLow z TI TO i1 i2 S fp1 fp2) (Sp : ZipSep2 z TI TO i1 i2 fp1 fp2) (D1 : ∀ A : Around, A.handled = none → Draws prog w A i1 fp1 n1 P1 St1) (D2 : ∀ A : Around, A.handled = none → Draws prog w A i2 fp2 n2 P2 St2)
    (hn : min n1 n2 ≤ sizeLine) (hS : s.heap.get? S = some { cls := .type "list", data := .seq #[] }) (hz : IsZip s.heap z TI TO .none) (hTI : IsTupOf2 s.heap TI (.ref i1) (.ref i2)) (hTO : IsTupOf2 s.heap TO a1 a2) (st1 : St1 0 s.heap) (st2 : St2 0 s.heap)
    (hR : ∀ h' tk acc c as, (∀ b o, b ≠ S → b ≠ z → b ≠ TO → b ≠ i1 → b ≠ i2 → s.heap.get? b = some o → h'.get? b = some o) → h'.get? S = some { cls := .type "list", dict := none, data := .seq acc c, slots := #[] } → as.length = min n1 n2 → ZlG P1 P2 S h' as →
      acc.toList = as.map Value.ref → R (.ok (.ret .none)) { s with heap := h', toks := tk }) :
    wpAny (model prog w) A.in1 (Builtin.«list.__init__» ⟨[.ref S, .ref z], []⟩)
      (fun fin s' => match fin with | .done f => R (.ok f) s' | .again c' => c'.quiet = true ∧ codeAny (model prog w) A c' R s') (fun e s' => R (.error e) s') s := by
  show wpAny _ _ (do let old ← Builtin.List.listItems (.ref S); Builtin.List.listUpdate (.ref S) (fun _ => #[]); letGo old.toList.reverse; Builtin.List.listExtendWith (.ref S) (.ref z) .none) _ _ s
  refine wpAny_bind ?_
  unfold Builtin.List.listItems
  refine wpAny_bind (wpAny_seqItems hS rfl (wpAny_pure ?_))
  show wpAny _ _ (updateSeq S (fun _ => #[]) >>= fun _ => letGo (#[] : Array Value).toList.reverse >>= fun _ => Builtin.List.listExtendWith (.ref S) (.ref z) .none) _ _ s
  refine wpAny_bind (wpAny_updateSeq hS rfl ?_)
  have hS₂ := Heap.get?_update_self (Obj.mapSeq (fun _ => (#[] : Array Value))) hS rfl
  have oth : ∀ b o, b ≠ S → s.heap.get? b = some o → (s.heap.update S (Obj.mapSeq (fun _ => (#[] : Array Value)))).get? b = some o :=
    fun b o hb e => (Heap.get?_update_other _ _ (Ne.symm hb)).trans e
  refine wpAny_bind (wpAny_letGo ?_)
  refine zl_extend (a1 := a1) (a2 := a2) hh L Sp D1 D2 hn .none _ hS₂ (oth _ _ (Nat.ne_of_lt L.z) hz) (oth _ _ (Nat.ne_of_lt L.TI) hTI) (oth _ _ (Nat.ne_of_lt L.TO) hTO) ((D1 A hh).frame _ _ _ st1 fun b hb o e => oth b o (Nat.ne_of_lt (L.f1 b hb)) e) ((D2 A hh).frame _ _ _ st2 fun b hb o e => oth b o (Nat.ne_of_lt (L.f2 b hb)) e) (fun h' tk acc c as hk hS' hl hG hacc => ?_)
  exact hR h' tk acc c as (fun b o b1 b2 b3 b4 b5 e => hk b o b1 b2 b3 b4 b5 (oth b o b1 e)) hS' hl hG hacc
theorem zl_call {Q : Value → Shared → Prop} (hh : A.handled = none) (L : ZlLow z TI TO i1 i2 s.heap.objs.size fp1 fp2) (Sp : ZipSep2 z TI TO i1 i2 fp1 fp2) (D1 : ∀ A : Around, A.handled = none → Draws prog w A i1 fp1 n1 P1 St1) (D2 : ∀ A : Around, A.handled = none → Draws prog w A i2 fp2 n2 P2 St2)
    (hn : min n1 n2 ≤ sizeLine) (hz : IsZip s.heap z TI TO .none) (hTI : IsTupOf2 s.heap TI (.ref i1) (.ref i2)) (hTO : IsTupOf2 s.heap TO a1 a2) (st1 : St1 0 s.heap) (st2 : St2 0 s.heap)
    (hQ : ∀ h' tk acc c as, (∀ b o, b ≠ z → b ≠ TO → b ≠ i1 → b ≠ i2 → s.heap.get? b = some o → h'.get? b = some o) → h'.get? s.heap.objs.size = some { cls := .type "list", dict := none, data := .seq acc c, slots := #[] } → as.length = min n1 n2 → ZlG P1 P2 s.heap.objs.size h' as →
      acc.toList = as.map Value.ref → Q (.ref s.heap.objs.size) { s with heap := h', toks := tk }) :
    wpAny (model prog w) A (call (.type "list") [.ref z]) Q E s := by
  refine callType_codes (Q₁ := fun obj s₁ => obj = .ref s.heap.objs.size ∧ s₁ = { s with heap := s.heap.push { cls := .type "list", data := .seq #[] } }) PySem.F.called_list (PySem.F.typeCall_list_1 _) PySem.F.entry_list_init
    (code_list_new _ ⟨rfl, rfl⟩) fun obj s₁ h₁ => ?_
  obtain ⟨rfl, rfl⟩ := h₁
  have hS : (s.heap.push { cls := .type "list", data := .seq #[] }).get? s.heap.objs.size = some { cls := .type "list", data := .seq #[] } := Heap.get?_push_size _ rfl
  have up : ∀ b o, s.heap.get? b = some o → (s.heap.push { cls := .type "list", data := .seq #[] }).get? b = some o := fun b o e => Heap.get?_push_of_some _ e
  refine ⟨⟨_, hS, rfl⟩, PySem.F.args_list_init_2 _ _, zl_init (A := A.in1) (a1 := a1) (a2 := a2) (s := { s with heap := s.heap.push { cls := .type "list", data := .seq #[] } }) hh L Sp D1 D2 hn hS (up _ _ hz) (up _ _ hTI) (up _ _ hTO) ((D1 A hh).frame _ _ _ st1 fun b _ o e => up b o e) ((D2 A hh).frame _ _ _ st2 fun b _ o e => up b o e) (fun h' tk acc c as hk hS' hl hG hacc => ?_)⟩
  exact ⟨rfl, hQ h' tk acc c as (fun b o b2 b3 b4 b5 e => hk b o (Nat.ne_of_lt (Heap.lt_size e)) b2 b3 b4 b5 (up b o e)) hS' hl hG hacc⟩
end
end MS

-- MsLzP
/-! list(zip(a, b)) as an expression. -/
namespace MS
open PySem PySem.Spec PyProof.Rows L2
theorem neN {a b : Nat} (h : a ≠ b) : a ≠ b := h
theorem ltN {a b : Nat} (h : a < b) : a < b := h
theorem leN {a b : Nat} (h : a ≤ b) : a ≤ b := h
theorem eqN {a b : Nat} (h : a = b) : a = b := h
/-- tuples of two laid one behind the other -/
def layT : Hp → List Addr → List (V × V) → Hp
  | H, a :: as, p :: ps => layT (upd H a (.tup [p.1, p.2])) as ps
  | H, _, _ => H
theorem layT_ne : ∀ (as : List Addr) (ps : List (V × V)) (H : Hp) (b : Addr), b ∉ as → layT H as ps b = H b
  | [], _, _, _, _ => by simp [layT]
  | a :: as, [], _, _, _ => by simp [layT]
  | a :: as, p :: ps, H, b, h => by
    simp only [List.mem_cons, not_or] at h
    rw [layT, layT_ne as ps _ b h.2, upd_ne h.1]
theorem layInv {X : Cx} {pins : List (Addr × Obj)} {σ : L2.St} : ∀ (as : List Addr) (ps : List (V × V)) (H : Hp) (s : Shared) (G' : Heap), Inv X pins σ H s → (∀ b o, s.heap.get? b = some o → G'.get? b = some o) → as.Nodup →
    (∀ a ∈ as, s.heap.get? a = none ∧ H a = none) → Paired (fun a p => ∃ u v, RelV p.1 u ∧ RelV p.2 v ∧ IsTupOf2 G' a u v) as ps →
    ∃ G : Heap, (∀ b o, G.get? b = some o → G'.get? b = some o) ∧ (∀ b, b ∉ as → s.heap.get? b = none → G.get? b = none) ∧ Inv X pins σ (layT H as ps) { s with heap := G }
  | [], [], H, s, G', I, k, _, _, _ => ⟨s.heap, k, fun _ _ h => h, I⟩
  | a :: as, p :: ps, H, s, G', I, k, nd, hf, pr => by
    cases pr with
    | cons hp pr =>
      obtain ⟨u, v, ru, rv, ht⟩ := hp
      obtain ⟨hn1, hn2⟩ := List.nodup_cons.mp nd
      obtain ⟨h1, h2⟩ := hf a (by simp)
      obtain ⟨G, g1, g2⟩ := restrict G' fun b => (s.heap.get? b).isSome || decide (b = a)
      have kG : ∀ b o, s.heap.get? b = some o → G.get? b = some o := fun b o e => by rw [g1 b (by rw [e]; rfl)]; exact k b o e
      have ga : G.get? a = some { cls := .type "tuple", data := .seq #[u, v] } := by rw [g1 a (by simp)]; exact ht
      have gG : ∀ b o, G.get? b = some o → G'.get? b = some o := fun b o e => by
        cases q : ((s.heap.get? b).isSome || decide (b = a)) with
        | true => rw [← g1 b q]; exact e
        | false => rw [g2 b q] at e; cases e
      have I1 : Inv X pins σ (upd H a (.tup [p.1, p.2])) { s with heap := G } := by
        refine I.laidN (t' := s.toks) kG h1 h2 ⟨by show 2 ≤ sizeLine; decide, [u, v], .cons ru (.cons rv .nil), ⟨_, ga, rfl, _, rfl⟩⟩
      have hf2 : ∀ b ∈ as, ({ s with heap := G } : Shared).heap.get? b = none ∧ upd H a (.tup [p.1, p.2]) b = none := fun b hb => by
        have hba : b ≠ a := fun z => hn1 (by rw [← z]; exact hb)
        obtain ⟨w1, w2⟩ := hf b (by simp [hb])
        exact ⟨g2 b (by rw [w1]; simp [hba]), by rw [upd_ne hba]; exact w2⟩
      obtain ⟨G2, q1, q2, q3⟩ := layInv as ps _ { s with heap := G } G' I1 gG hn2 hf2 pr
      refine ⟨G2, q1, fun b hb hz => q2 b (fun z => hb (by simp [z])) ?_, q3⟩
      have hba : b ≠ a := fun z => hb (by simp [z])
      exact g2 b (by rw [hz]; simp [hba])
  | [], _ :: _, _, _, _, _, _, _, _, h => by cases h
  | _ :: _, [], _, _, _, _, _, _, _, h => by cases h
def rLz (K : PySem.W.Frag) : List V → Hp → VK → Prop := fun vs H1 Q => ∃ a b xs ys, vs = [.ref a, .ref b] ∧ ((SqL K H1 a xs ∧ SqL K H1 b ys) ∨ (SqT K H1 a xs ∧ SqT K H1 b ys)) ∧
  ∀ as p, as.length = (xs.zip ys).length → as.Nodup → (∀ a ∈ as, H1 a = none) → p ∉ as → H1 p = none → Q (.ref p) (upd (layT H1 as (xs.zip ys)) p (.lst (as.map V.ref)))
def tLz (K : PySem.W.Frag) (ta : TA) : TE := fun σ H Q => ta σ H fun vs H1 => rLz K vs H1 Q
theorem vals_refs : ∀ as : List Addr, Vals (as.map V.ref) (as.map Value.ref)
  | [] => .nil
  | a :: as => .cons rfl (vals_refs as)
theorem zl_pairs {P1 P2 : Nat → Value → Prop} {xs ys : List V} {us ws : List Value} (h1 : Vals xs us) (h2 : Vals ys ws) {lo : Addr} {h : Heap} {as : List Addr} (g : ZlG (fun i v => us.toArray[i]? = some v) (fun i v => ws.toArray[i]? = some v) lo h as) (hl : as.length = min us.length ws.length) :
    Paired (fun a p => ∃ u v, RelV p.1 u ∧ RelV p.2 v ∧ IsTupOf2 h a u v) as (xs.zip ys) := by
  have l1 := h1.length
  have l2 := h2.length
  have lz : as.length = (xs.zip ys).length := by rw [List.length_zip, l1, l2]; exact hl
  have key : ∀ (as : List Addr) (zs : List (V × V)), as.length = zs.length → (∀ (j : Nat) (a : Addr) (p : V × V), as[j]? = some a → zs[j]? = some p → ∃ u v, RelV p.1 u ∧ RelV p.2 v ∧ IsTupOf2 h a u v) → Paired (fun a p => ∃ u v, RelV p.1 u ∧ RelV p.2 v ∧ IsTupOf2 h a u v) as zs := by
    intro as
    induction as with
    | nil => intro zs h _; cases zs with
      | nil => exact .nil
      | cons _ _ => simp at h
    | cons a as ih => intro zs h k; cases zs with
      | nil => simp at h
      | cons p zs => exact .cons (k 0 a p rfl rfl) (ih zs (by simpa using h) fun j b q hb hq => k (j + 1) b q (by simpa using hb) (by simpa using hq))
  refine key as _ lz fun j a p ha hp => ?_
  obtain ⟨x1, x2, y1, y2, e⟩ := g.pairs j a ha
  obtain ⟨p1, p2⟩ := List.getElem?_zip_eq_some.mp hp
  obtain ⟨u', hu, ru⟩ := h1.get p1
  obtain ⟨v', hv, rv⟩ := h2.get p2
  have y1 : us[j]? = some x1 := by simpa using y1
  have y2 : ws[j]? = some x2 := by simpa using y2
  rw [hu] at y1; cases y1
  rw [hv] at y2; cases y2
  exact ⟨_, _, ru, rv, e⟩
section
variable {X : Cx}
theorem pe_lz {e e2 : Expr} {ta : TA} {p p2 pos q : Pos} (hg : Gl X "list") (hm : X.mg "list" = none) (hg2 : Gl X "zip") (hm2 : X.mg "zip" = none) (hc : X.calm = true) (ha : PA X [e, e2] ta)
    (hs : starEach [e, e2] X.env = (false, eval e X.env) :: starEach [e2] X.env) (hpl : (backTo q (starEach [e2] X.env)).any (·.1) = false) :
    PE X (.Call (.Name "list" p) [.Call (.Name "zip" p2) [e, e2] [] q] [] pos) (tLz X.K ta) := by
  refine ⟨fun pins s σ H Q I h => Call_ (ld_blt I hg hm PyProof.Rows.boot_list (PyProof.Rows.callWith_type1 (PyProof.Rows.args_cons (Call_ (ld_blt I hg2 hm2 PyProof.Rows.boot_zip ?_)) rfl) rfl rfl))⟩
  refine PyProof.Rows.callWith_type1 (thn (ha.run q pins s σ H _ I h) fun us s1 ⟨vs, H1, I1, r1, q1⟩ => ?_) hs hpl
  obtain ⟨a, b, xs, ys, rfl, hq, q1⟩ := q1
  cases r1 with
  | cons r rr =>
    cases rr with
    | cons r' rr =>
      cases rr
      cases r
      cases r'
      have hd := I1.ok.hd hc
      have fin : ∀ {its1 its2 : List Value} {h5 h' : Heap} {tk c : Nat} {acc : Array Value} {as : List Addr}, Vals xs its1 → Vals ys its2 → xs.length ≤ sizeLine →
          h5.objs.size = s1.heap.objs.size + 5 → (∀ c o, s1.heap.get? c = some o → h5.get? c = some o) → (∀ b o, b ≠ s1.heap.objs.size + 4 → b ≠ s1.heap.objs.size + 3 → b ≠ s1.heap.objs.size → b ≠ s1.heap.objs.size + 1 → h5.get? b = some o → h'.get? b = some o) →
          h'.get? h5.objs.size = some { cls := .type "list", dict := none, data := .seq acc c, slots := #[] } → as.length = min its1.length its2.length → ZlG (fun i v => its1.toArray[i]? = some v) (fun i v => its2.toArray[i]? = some v) h5.objs.size h' as → acc.toList = as.map Value.ref →
          ∃ v H', Inv X pins σ H' { s1 with heap := h', toks := tk } ∧ RelV v (Value.ref h5.objs.size) ∧ Q v H' := by
        intro its1 its2 h5 h' tk c acc as v1 v2 hzl hsz hk hk2 hS hl hG hacc
        have old : ∀ b o, s1.heap.get? b = some o → h'.get? b = some o := fun b o e => by
          have hb : @LT.lt Nat _ b s1.heap.objs.size := Heap.lt_size e
          exact hk2 b o (neN (by omega)) (neN (by omega)) (neN (by omega)) (neN (by omega)) (hk b o e)
        have nd : as.Nodup := hG.rise.imp fun h => Nat.ne_of_lt h
        have fre : ∀ {a : Addr}, s1.heap.objs.size ≤ a → s1.heap.get? a = none := fun {a} ha => by
          cases q : s1.heap.get? a with
          | none => rfl
          | some o => exact absurd (Heap.lt_size q) (Nat.not_lt.mpr ha)
        have abv : ∀ a ∈ as, s1.heap.objs.size ≤ a := fun a ha => leN (by have : @LT.lt Nat _ h5.objs.size a := hG.above a ha; omega)
        have hfr : ∀ a ∈ as, s1.heap.get? a = none ∧ H1 a = none := fun a ha => ⟨fre (abv a ha), I1.hok.fresh (abv a ha)⟩
        have hSas : h5.objs.size ∉ as := fun z => Nat.lt_irrefl _ (hG.above _ z)
        have pr := zl_pairs (P1 := fun _ _ => True) (P2 := fun _ _ => True) v1 v2 hG hl
        obtain ⟨G, g1, g2, I2⟩ := layInv as (xs.zip ys) H1 s1 h' I1 old nd hfr pr
        have lz : as.length = (xs.zip ys).length := by rw [List.length_zip, v1.length, v2.length]; exact hl
        have hp : H1 h5.objs.size = none := I1.hok.fresh (leN (by omega))
        have I3 : Inv X pins σ (upd (layT H1 as (xs.zip ys)) h5.objs.size (.lst (as.map V.ref))) { s1 with heap := h', toks := tk } := by
          refine I2.laidN (t' := tk) g1 (g2 _ hSas (fre (leN (by omega)))) (by rw [layT_ne as _ _ _ hSas]; exact hp) ⟨?_, as.map Value.ref, c, vals_refs as, ?_⟩
          · rw [List.length_map, lz, List.length_zip]; exact Nat.le_trans (Nat.min_le_left _ _) hzl
          · rw [hS, ← hacc]
        exact ⟨.ref h5.objs.size, _, I3, rfl, q1 as _ lz nd (fun a ha => (hfr a ha).2) hSas hp⟩
      have low : ∀ {N a b : Nat}, a < N → b < N → ZlLow (N + 4) (N + 2) (N + 3) N (N + 1) (N + 5) [N, a] [N + 1, b] := fun {N a b} h1 h2 => by
        have h1 : @LT.lt Nat _ a N := h1
        have h2 : @LT.lt Nat _ b N := h2
        refine ⟨ltN (by omega), ltN (by omega), ltN (by omega), ltN (by omega), ltN (by omega), fun c hc => ltN ?_, fun c hc => ltN ?_⟩
        all_goals (simp only [List.mem_cons, List.not_mem_nil, or_false] at hc; rcases hc with hc | hc <;> (have hc : @Eq Nat c _ := hc) <;> omega)
      rcases hq with ⟨hqx, hqy⟩ | ⟨hqx, hqy⟩
      · obtain ⟨it1, rv, l1, z1⟩ := I1.list hqx
        obtain ⟨it2, rv2, l2, z2⟩ := I1.list hqy
        refine call_zip_2 l1.isList l2.isList fun h5 g1 g2 g3 g4 g5 hsz hk => PyProof.Rows.args_nil ?_
        have D := PySem.W.ktu_apart s1.heap.objs.size a b l1.lt l2.lt
        refine zl_call (s := { s1 with heap := h5 }) (n1 := it1.length) (n2 := it2.length) hd (by show ZlLow _ _ _ _ _ h5.objs.size _ _; rw [hsz]; exact low l1.lt l2.lt) (sep_of D) (fun A hA => Draws.list hA _ _ D.l1i1 it1.toArray) (fun A hA => Draws.list hA _ _ D.l2i2 it2.toArray) ?_ g1 g2 g3 ⟨g4, l1.isList.at fun o e => hk _ _ e⟩ ⟨g5, l2.isList.at fun o e => hk _ _ e⟩ fun h' tk acc c as hk2 hS hl hG hacc => ?_
        · rw [← rv.length]; exact Nat.le_trans (Nat.min_le_left _ _) z1
        · exact fin rv rv2 z1 hsz hk hk2 hS hl hG hacc
      · obtain ⟨it1, rv, l1, z1⟩ := I1.tuple hqx
        obtain ⟨it2, rv2, l2, z2⟩ := I1.tuple hqy
        obtain ⟨o1, ho1, _⟩ := id l1
        obtain ⟨o2, ho2, _⟩ := id l2
        refine RZ.call_zipT (xs := it1.toArray) (ys := it2.toArray) l1 l2 fun h5 g1 g2 g3 g4 g5 hsz hk => PyProof.Rows.args_nil ?_
        have D := PySem.W.ktu_apart s1.heap.objs.size a b (Heap.lt_size ho1) (Heap.lt_size ho2)
        refine zl_call (s := { s1 with heap := h5 }) (n1 := it1.length) (n2 := it2.length) hd (by show ZlLow _ _ _ _ _ h5.objs.size _ _; rw [hsz]; exact low (Heap.lt_size ho1) (Heap.lt_size ho2)) (sep_of D) (fun A hA => Draws.tuple hA _ _ D.l1i1 it1.toArray) (fun A hA => Draws.tuple hA _ _ D.l2i2 it2.toArray) ?_ g1 g2 g3 ⟨g4, let ⟨o, ho, x⟩ := l1; ⟨o, hk _ _ ho, x⟩⟩ ⟨g5, let ⟨o, ho, x⟩ := l2; ⟨o, hk _ _ ho, x⟩⟩ fun h' tk acc c as hk2 hS hl hG hacc => ?_
        · rw [← rv.length]; exact Nat.le_trans (Nat.min_le_left _ _) z1
        · exact fin rv rv2 z1 hsz hk hk2 hS hl hG hacc
end
/-! ### its meaning -/
theorem Reps.zipD {K : PySem.W.Frag} {F : Hp} : ∀ {xs ys : List V} {ds es : List D}, Reps K F xs ds → Reps K F ys es → Paired (fun (p : V × V) (q : D × D) => Rep K F p.1 q.1 ∧ Rep K F p.2 q.2) (xs.zip ys) (ds.zip es)
  | _, _, _, _, .nil, _ => by simp; exact .nil
  | _, _, _, _, .cons _ _, .nil => by simp; exact .nil
  | _, _, _, _, .cons h r, .cons h2 r2 => by simp only [List.zip_cons_cons]; exact .cons ⟨h, h2⟩ (Reps.zipD r r2)
theorem Sim.layT {K : PySem.W.Frag} {fa : FA} : ∀ (as : List Addr) (zs : List (V × V)) (ds : List (D × D)) {F H : Hp} {ρ : Nat → Addr} {S : Sto}, Sim K fa F H ρ S → as.Nodup → (∀ a ∈ as, H a = none) → as.length = zs.length → Paired (fun (p : V × V) (q : D × D) => Rep K F p.1 q.1 ∧ Rep K F p.2 q.2) zs ds →
    Sim K fa (MS.layT F as zs) (MS.layT H as zs) ρ S ∧ Ext F H ρ S (MS.layT F as zs) (MS.layT H as zs) ρ S ∧ Reps K (MS.layT F as zs) (as.map V.ref) (ds.map fun p => .tuple [p.1, p.2])
  | [], [], _, F, H, ρ, S, s, _, _, _, .nil => ⟨s, Ext.refl .., .nil⟩
  | a :: as, z :: zs, d :: ds, F, H, ρ, S, s, nd, hf, hl, .cons h r => by
    obtain ⟨hn1, hn2⟩ := List.nodup_cons.mp nd
    obtain ⟨s1, x1, sF⟩ := s.grow (o := .tup [z.1, z.2]) (hf a (by simp))
    have ne : ∀ b ∈ as, upd H a (.tup [z.1, z.2]) b = none := fun b hb => by
      rw [upd_ne (fun e => hn1 (by rw [← e]; exact hb))]; exact hf b (by simp [hb])
    obtain ⟨s2, x2, r2⟩ := Sim.layT as zs ds s1 hn2 ne (by simpa using hl) (Paired.mapP r fun _ _ q => ⟨q.1.mono sF, q.2.mono sF⟩)
    refine ⟨s2, x1.trans x2, ?_⟩
    rw [List.map_cons, List.map_cons]
    refine .cons (.tup (xs := [z.1, z.2]) (x2.fz _ _ upd_same) ?_) r2
    exact .cons (h.1.mono (sF.trans x2.fz)) (.cons (h.2.mono (sF.trans x2.fz)) .nil)
  | [], _ :: _, _, _, _, _, _, _, _, _, hl, _ => by simp at hl
  | _ :: _, [], _, _, _, _, _, _, _, _, hl, _ => by simp at hl
section
variable {fa : FA} {X : Cx} {pe a b c : Expr} {m ma mb mc : M Val} {pos : Pos}
theorem lz_of {F H : Hp} {ρ : Nat → Addr} {S : Sto} {x y : V} {v u w : Val} {Q : VK} (s : Sim X.K fa F H ρ S) (r1 : RepV X.K fa F ρ S.length x v) (r2 : RepV X.K fa F ρ S.length y u) (e : lzV v u = some w)
    (q : ∀ z F' H', Sim X.K fa F' H' ρ S → Ext F H ρ S F' H' ρ S → RepV X.K fa F' ρ S.length z w → Q z H') : rLz X.K [x, y] H Q := by
  have main : ∀ {xs ys : List V} {ds es : List D} {l1 l2 : Addr}, Reps X.K F xs ds → Reps X.K F ys es → w = .d (.list ((ds.zip es).map fun p => .tuple [p.1, p.2])) →
      ((SqL X.K H l1 xs ∧ SqL X.K H l2 ys) ∨ (SqT X.K H l1 xs ∧ SqT X.K H l2 ys)) → rLz X.K [.ref l1, .ref l2] H Q := by
    intro xs ys ds es l1 l2 h1 h2 ew hs
    refine ⟨l1, l2, xs, ys, rfl, hs, fun as p hl nd hf hp1 hp2 => ?_⟩
    obtain ⟨s2, x2, rr⟩ := Sim.layT as (xs.zip ys) (ds.zip es) s nd hf hl (h1.zipD h2)
    obtain ⟨s3, x3, sF⟩ := s2.grow (p := p) (o := .lst (as.map V.ref)) (by rw [layT_ne as _ _ _ hp1]; exact hp2)
    subst ew
    exact q _ _ _ s3 (x2.trans x3) (.lst upd_same (rr.mono sF))
  cases v with
  | d dv =>
    cases u with
    | d du =>
      cases dv with
      | list xs =>
        cases du with
        | list ys =>
          cases e
          cases (show Rep X.K F x (.list xs) from r1) with
          | lst h1 k1 =>
            cases (show Rep X.K F y (.list ys) from r2) with
            | lst h2 k2 => exact main k1 k2 rfl (.inl ⟨SqL.of (s.sub _ _ h1), SqL.of (s.sub _ _ h2)⟩)
        | _ => cases e
      | tuple xs =>
        cases du with
        | tuple ys =>
          cases e
          cases (show Rep X.K F x (.tuple xs) from r1) with
          | tup h1 k1 =>
            cases (show Rep X.K F y (.tuple ys) from r2) with
            | tup h2 k2 => exact main k1 k2 rfl (.inr ⟨SqT.of (s.sub _ _ h1), SqT.of (s.sub _ _ h2)⟩)
        | _ => cases e
      | _ => cases e
    | _ => cases dv <;> cases e
  | _ => cases e
theorem sm_lz {p p2 q : Pos} {ms : M (List Val)} (hg : Gl X "list") (hm : X.mg "list" = none) (hg2 : Gl X "zip") (hm2 : X.mg "zip" = none) (hc : X.calm = true) (ha : SimE fa X a ma) (hb : SimA fa X [b] ms) (hn : noStar a = true) (hn2 : noStar b = true) :
    SimE fa X (.Call (.Name "list" p) [.Call (.Name "zip" p2) [a, b] [] q] [] pos) (fun env S => (ma env S).bind fun x S1 => if xopPre .lzip S1 x then (ms env S1).bind fun vs S2 => xopV .lzip x vs S2 else .stuck) := by
  refine ⟨fun W tk => PE.imp (pe_lz hg hm hg2 hm2 hc ((sa_cons ha hb hn).run W tk) (starEach_cons hn _ _) (starEach_plain [b] _ _ (by rw [List.all_cons, hn2]; rfl))) fun σ H Q q => ?_⟩
  obtain ⟨env, S, F, ρ, s, e, p⟩ := q
  refine ⟨env, S, F, ρ, s, e, ?_⟩
  dsimp only at p
  unfold mcons
  cases q0 : ma env S with
  | stuck => rw [q0] at p; exact p
  | exc e S' => rw [q0] at p; exact p
  | ok v S1 =>
    rw [q0] at p
    simp only [R.bind_ok, xopPre, if_true] at p ⊢
    cases q1 : ms env S1 with
    | stuck => rw [q1] at p; exact p
    | exc e S' => rw [q1] at p; exact p
    | ok us S2 =>
      rw [q1] at p
      simp only [R.bind_ok] at p ⊢
      intro xs F1 H1 ρ1 s1 x1 r1
      have p := Post.shift x1 p
      cases r1 with
      | cons r1 rn =>
        cases rn with
        | nil => exact p.elim
        | cons r2 rn =>
          cases rn with
          | nil =>
            obtain ⟨w, ew, q2⟩ := p.ofO
            exact lz_of s1 r1 r2 ew fun z F' H' s' x' r' => q2 z F' H' ρ1 s' x' r'
          | cons _ _ => exact p.elim
end
end MS

-- MsXop
/-! Further operations: how they are written, what they mean. -/
namespace MS
open PySem PySem.Spec PyProof.Rows L2

def bltNames : List Str := ["len", "all", "any", "sum", "int", "tuple", "list", "sorted", "dict", "abs", "str", "repr", "min", "max", "range", "enumerate", "zip", "isinstance", "set", "bool", "ValueError"]

def glB (sc : Scope) (x : Str) : Bool := match sc.names.lookup x with
  | some .globalImplicit => true
  | _ => false
theorem glB_ok {X : Cx} {sc : Scope} {x : Str} (hs : X.env.scope = sc) (h : glB sc x = true) : Gl X x := by
  unfold glB at h
  unfold Gl
  subst hs
  split at h
  · assumption
  · cases h

/-- an operation's first operand, and the others -/
def xopA (sc : Scope) : XOp → Expr → Option (Expr × List Expr)
  | .lzip, .Call (.Name x _) [.Call (.Name z _) [u, v] [] _] [] _ => if decide (x = "list") && glB sc x && decide (z = "zip") && glB sc z then some (u, [v]) else none
  | _, _ => none
section
variable {fa : FA} {X : Cx} {sc : Scope} {pe p : Expr} {ps : List Expr} {ma : M Val} {ms : M (List Val)}
theorem xop_plain (k : XOp) (q : xopA sc k pe = some (p, ps)) : plainTest pe = true := by
  cases k <;> cases pe <;> first | rfl | (simp [xopA] at q)
def xopM (k : XOp) (ma : M Val) (ms : M (List Val)) : M Val := fun env S => (ma env S).bind fun x S1 => if xopPre k S1 x then (ms env S1).bind fun vs S2 => xopV k x vs S2 else .stuck
theorem xop_lzip (hsc : X.env.scope = sc) (blt : ∀ x ∈ bltNames, X.mg x = none) (hc : X.calm = true) (q : xopA sc .lzip pe = some (p, ps)) (ha : SimE fa X p ma) (hs : SimA fa X ps ms) (hn : noStar p = true) (hns : ps.all noStar = true) : SimE fa X pe (xopM .lzip ma ms) := by
  unfold xopA at q
  split at q
  · rename_i x _ z _ u v _ _ _
    split at q
    · rename_i h
      simp only [Bool.and_eq_true, decide_eq_true_eq] at h
      obtain ⟨⟨⟨g1, g2⟩, g3⟩, g4⟩ := h
      cases q
      subst g1; subst g3
      simp only [List.all_cons, List.all_nil, Bool.and_true] at hns
      exact sm_lz (glB_ok hsc g2) (blt _ (by decide +kernel)) (glB_ok hsc g4) (blt _ (by decide +kernel)) hc ha hs hn hns
    · cases q
  · cases q
theorem xop_ok (k : XOp) (hsc : X.env.scope = sc) (blt : ∀ x ∈ bltNames, X.mg x = none) (hc : X.calm = true) (hu : X.A.units + 65 < cLine) (q : xopA sc k pe = some (p, ps)) (ha : SimE fa X p ma) (hs : SimA fa X ps ms) (hn : noStar p = true) (hns : ps.all noStar = true) : SimE fa X pe (xopM k ma ms) := by
  cases k with
  | lzip => exact xop_lzip hsc blt hc q ha hs hn hns
end
end MS

-- MsChk
/-! The check: the text matches the syntax; what it means then. -/
namespace MS
open PySem PySem.Spec PyProof.Rows L2

/-- the tables of a law: names of the defs, their parameters, names of the constants, the defs that may be called, the constants that may be read -/
structure Tb where
  nm : Nat → Str
  ps : Nat → List Str
  gm : Nat → Str
  I : List Nat
  J : List Nat
  /-- classes of exceptions, and which lies below which -/
  xs : List Nat
  sb : List (Nat × Nat × Bool)
def visB (sc : Scope) (x : Str) : Bool := match sc.names.lookup x with
  | some .local => true
  | some .cell => true
  | some .free => true
  | _ => false
theorem visB_ok {sc : Scope} {x : Str} (h : visB sc x = true) : Vis sc x := by
  unfold visB at h
  unfold Vis
  split at h
  · exact .inl (by assumption)
  · exact .inr (.inl (by assumption))
  · exact .inr (.inr (by assumption))
  · cases h
def nameB (N : List Str) (i : Nat) (x : Str) : Bool := match N[i]? with
  | some y => decide (y = x)
  | none => false
theorem nameB_ok {N : List Str} {i : Nat} {x : Str} (h : nameB N i x = true) : N[i]? = some x := by
  unfold nameB at h
  split at h
  · rename_i y hy; rw [hy, of_decide_eq_true h]
  · cases h
def locB (sc : Scope) (fn : Str → Bool) (x : Str) : Bool := match sc.names.lookup x with
  | some .local => true
  | some .cell => fn x
  | _ => false
theorem locB_ok {sc : Scope} {fn : Str → Bool} {x : Str} (h : locB sc fn x = true) : Loc sc x ∧ (fn x = true ∨ sc.names.lookup x = some .local) := by
  unfold locB at h
  unfold L2.Loc
  split at h
  · exact ⟨.inl (by assumption), .inr (by assumption)⟩
  · exact ⟨.inr (by assumption), .inl h⟩
  · cases h
def plainN (x : Str) : Bool := !(x == ("__debug__" : Str)) && !(x == ("__classdict__" : Str))
theorem plainN_ok {x : Str} (h : plainN x = true) : (x == ("__debug__" : Str)) = false ∧ (x == ("__classdict__" : Str)) = false := by
  unfold plainN at h
  simpa using h

/-! ### targets -/
mutual
def okTg (N : List Str) (sc : Scope) (fn : Str → Bool) : Tg → Expr → Bool
  | .name i, .Name x _ => nameB N i x && locB sc fn x
  | .tup ts, .Tuple es _ _ => okTgs N sc fn ts es
  | _, _ => false
def okTgs (N : List Str) (sc : Scope) (fn : Str → Bool) : Tgs → List Expr → Bool
  | .nil, [] => true
  | .cons t ts, e :: es => okTg N sc fn t e && okTgs N sc fn ts es
  | _, _ => false
end
section
variable {fa : FA} {X : Cx} {sc : Scope} {fn : Str → Bool}
theorem okTg_star {N : List Str} {t : Tg} {pe : Expr} (h : okTg N sc fn t pe = true) : noStar pe = true := by
  cases t <;> cases pe <;> first | rfl | (simp [okTg] at h)
mutual
theorem okTg_ok (hs : X.env.scope = sc) (hf : X.fn = fn) (hN : X.N.Nodup) (hc : X.calm = true) : ∀ (t : Tg) (pe : Expr), okTg X.N sc fn t pe = true → PG X pe (rdGt X.K fa t)
  | .name i, pe, h => by
    cases pe with
    | Name x p =>
      simp only [okTg, Bool.and_eq_true] at h
      obtain ⟨h2, h3⟩ := locB_ok h.2
      exact sg_name hN (nameB_ok h.1) (by rw [hs]; exact h2) (by rw [hf, hs]; exact h3)
    | _ => simp [okTg] at h
  | .tup ts, pe, h => by
    cases pe with
    | Tuple es k p =>
      simp only [okTg] at h
      obtain ⟨h1, h2, h3⟩ := okTgs_ok hs hf hN hc ts es h
      exact sg_tup hc h1 h2 h3
    | _ => simp [okTg] at h
theorem okTgs_ok (hs : X.env.scope = sc) (hf : X.fn = fn) (hN : X.N.Nodup) (hc : X.calm = true) : ∀ (t : Tgs) (pe : List Expr), okTgs X.N sc fn t pe = true → PGs X pe (rdGts X.K fa t) ∧ pe.all noStar = true ∧ pe.length = t.length
  | .nil, [], _ => ⟨sgs_nil, rfl, rfl⟩
  | .nil, _ :: _, h => by simp [okTgs] at h
  | .cons _ _, [], h => by simp [okTgs] at h
  | .cons t ts, e :: es, h => by
    simp only [okTgs, Bool.and_eq_true] at h
    obtain ⟨h1, h2, h3⟩ := okTgs_ok hs hf hN hc ts es h.2
    have hst := okTg_star h.1
    exact ⟨sgs_cons (okTg_ok hs hf hN hc t e h.1) h1 hst, by rw [List.all_cons, hst, h2]; rfl, by simp [Tgs.length, h3]⟩
end
end

/-! ### expressions -/
def opB : BOp → Operator → Bool
  | .add, .Add => true
  | .sub, .Sub => true
  | .mul, .Mult => true
  | .fdiv, .FloorDiv => true
  | .mod, .Mod => true
  | .pow, .Pow => true
  | _, _ => false
theorem opB_ok {o : BOp} {p : Operator} (h : opB o p = true) : p = opOf o := by cases o <;> cases p <;> first | rfl | (simp [opB] at h)
def cmpB : COp → CmpOp → Bool
  | .lt, .Lt => true
  | .le, .LtE => true
  | .gt, .Gt => true
  | .ge, .GtE => true
  | .eq, .Eq => true
  | .ne, .NotEq => true
  | .isin, .In => true
  | .notin, .NotIn => true
  | .iss, .Is => true
  | .isnot, .IsNot => true
  | _, _ => false
theorem cmpB_ok {o : COp} {p : CmpOp} (h : cmpB o p = true) : p = cmpOf o := by cases o <;> cases p <;> first | rfl | (simp [cmpB] at h)
def boolB : Bool → BoolOp → Bool
  | true, .And => true
  | false, .Or => true
  | _, _ => false
theorem boolB_ok {o : Bool} {p : BoolOp} (h : boolB o p = true) : p = boolOf o := by cases o <;> cases p <;> first | rfl | (simp [boolB] at h)
def tysB (sc : Scope) : List Ty → List Expr → Bool
  | [], [] => true
  | t :: ts, .Name x _ :: es => decide (x = tyStr t) && glB sc x && tysB sc ts es
  | _, _ => false
theorem tysB_ok {sc : Scope} : ∀ {ts : List Ty} {es : List Expr}, tysB sc ts es = true → Paired (fun t pe => ∃ p, pe = Expr.Name (tyStr t) p) ts es ∧ ∀ t ∈ ts, glB sc (tyStr t) = true
  | [], [], _ => ⟨.nil, by simp⟩
  | [], _ :: _, h => by simp [tysB] at h
  | _ :: _, [], h => by simp [tysB] at h
  | t :: ts, e :: es, h => by
    cases e with
    | Name x p =>
      simp only [tysB, Bool.and_eq_true, decide_eq_true_eq] at h
      obtain ⟨⟨h1, h2⟩, h3⟩ := h
      subst h1
      obtain ⟨q1, q2⟩ := tysB_ok h3
      exact ⟨.cons ⟨p, rfl⟩ q1, fun u hu => by
        rcases List.mem_cons.mp hu with rfl | hu
        · exact h2
        · exact q2 u hu⟩
    | _ => simp [tysB] at h
def isNil : Es → Bool
  | .nil => true
  | _ => false
def revB : Expr → Bool
  | .Slice none none (some (.UnaryOp .USub (.Constant (.int j) _ _) _)) _ => decide (j = 1)
  | _ => false
theorem revB_ok {i : Expr} (h : revB i = true) : ∃ kk p1 p2 p3, i = .Slice none none (some (.UnaryOp .USub (.Constant (.int 1) kk p1) p2)) p3 := by
  unfold revB at h
  split at h
  · rw [decide_eq_true_eq] at h; subst h; exact ⟨_, _, _, _, rfl⟩
  · cases h
mutual
def okE (T : Tb) (N : List Str) : Scope → E → Expr → Bool
  | sc, .var i, .Name x _ => nameB N i x && visB sc x && plainN x
  | sc, .glob g, .Name x _ => decide (x = T.gm g) && T.J.contains g && glB sc x && plainN x
  | _, .none, .Constant .none _ _ => true
  | _, .bool b, .Constant (.bool c) _ _ => decide (b = c)
  | _, .int i, .Constant (.int j) _ _ => decide (i = j)
  | _, .str s, .Constant (.str x) _ _ => decide (s = x)
  | sc, .tup es, .Tuple pes _ _ => okEs T N sc es pes && decide (pes.length ≤ 1000)
  | sc, .lst es, .List pes _ => okEs T N sc es pes && decide (pes.length ≤ 1000)
  | sc, .lstN es, .List pes _ => okEs T N sc es pes && decide (pes.length ≤ 1000)
  | sc, .bin o a b, .BinOp x p y _ => opB o p && okE T N sc a x && okE T N sc b y
  | sc, .neg a, .UnaryOp .USub x _ => okE T N sc a x
  | sc, .not a, .UnaryOp .Not x _ => okE T N sc a x
  | sc, .bools k es, .BoolOp p pes _ => boolB k p && okEs T N sc es pes && !isNil es
  | sc, .cmp o a b, .Compare x [p] [y] _ => cmpB o p && okE T N sc a x && okE T N sc b y && noSet y
  | sc, .chain o1 o2 a b c, .Compare x [p1, p2] [y, z] _ => cmpB o1 p1 && cmpB o2 p2 && okE T N sc a x && okE T N sc b y && okE T N sc c z && noSet z
  | sc, .ife c a b, .IfExp x y z _ => okE T N sc c x && tstB c && okE T N sc a y && okE T N sc b z
  | sc, .ix a i, .Subscript x y _ => okE T N sc a x && okE T N sc i y && noSlice y
  | sc, .sl a lo hi, .Subscript x (.Slice l h none _) _ => okE T N sc a x && okO T N sc lo l && okO T N sc hi h
  | sc, .call f es, .Call (.Name x _) args [] _ => decide (x = T.nm f) && T.I.contains f && glB sc x && plainN x && okEs T N sc es args && args.all noStar
  | sc, .bi b a, .Call (.Name x _) [y] [] _ => decide (x = biName b) && glB sc x && okE T N sc a y && noStar y
  | sc, .isi a [t], .Call (.Name x _) [y, .Name z _] [] _ => decide (x = "isinstance") && glB sc x && decide (z = tyStr t) && glB sc z && okE T N sc a y && noStar y
  | sc, .isi a ts, .Call (.Name x _) [y, .Tuple pes _ _] [] _ => decide (x = "isinstance") && glB sc x && tysB sc ts pes && decide (ts.length ≤ 1000) && okE T N sc a y && noStar y
  | sc, .lenSet a, .Call (.Name x _) [.Call (.Name z _) [y] [] _] [] _ => decide (x = "len") && glB sc x && decide (z = "set") && glB sc z && okE T N sc a y && noStar y
  | sc, .dictOf a, .Call (.Name x _) [y] [] _ => decide (x = "dict") && glB sc x && okE T N sc a y && noStar y
  | sc, .dict1 k v, .Dict [some x] [y] _ => okE T N sc k x && okE T N sc v y
  | _, .dict0, .Dict [] [] _ => true
  | sc, .comp own tg it cs elt, .ListComp pelt [⟨ptg, piter, pifs, as⟩] scope _ => decide (as = 0) && okI T N sc it ptg piter && blkC N sc scope (ownN N own) && (tg.slots.all fun i => own.contains i) && noSet piter &&
      okTg N (relS scope sc) (fun x => scope.names.lookup x == some .cell) tg ptg && okCs T N (relS scope sc) cs pifs && okE T N (relS scope sc) elt pelt
  | sc, .fz a, pe => okE T N sc a pe
  | sc, .callP f es, .Call (.Name x _) args [] _ => decide (x = T.nm f) && T.I.contains f && glB sc x && plainN x && okEs T N sc es args && args.all noStar && !args.isEmpty
  | sc, .mm k a b, .Call (.Name x _) [y, z] [] _ => decide (x = mmS k) && glB sc x && okE T N sc a y && okE T N sc b z && noStar y && noStar z
  | sc, .srt false _ a, .Call (.Name x _) [y] [] _ => decide (x = "sorted") && glB sc x && okE T N sc a y && noStar y
  | sc, .srt true _ a, .Call (.Name x _) [.Call (.Name z _) [y] [] _] [] _ => decide (x = "sorted") && glB sc x && decide (z = "set") && glB sc z && okE T N sc a y && noStar y
  | _, .dctN, .Dict [] [] _ => true
  | sc, .rev a, .Subscript x i _ => revB i && okE T N sc a x
  | sc, .srtP a, .Call (.Name x _) [.Call (.Name z _) [y] [] _] [] _ => decide (x = "sorted") && glB sc x && decide (z = "set") && glB sc z && okE T N sc a y && noStar y
  | sc, .callL fs i es, .Call (.Subscript (.List nes _) y _) args [] _ => defsB T.nm fs nes && (fs.all fun f => T.I.contains f && glB sc (T.nm f) && plainN (T.nm f)) && decide (fs.length ≤ 1000) && okE T N sc i y && noSlice y && okEs T N sc es args && args.all noStar && !args.isEmpty
  | sc, .dget a k, .Subscript x y _ => okE T N sc a x && okE T N sc k y && noSlice y
  | sc, .din neg k a, .Compare y [op] [x] _ => decide (op = if neg then .NotIn else .In) && okE T N sc k y && okE T N sc a x && noSet x
  | sc, .dlen a, .Call (.Name x _) [y] [] _ => decide (x = "len") && glB sc x && okE T N sc a y && noStar y
  | sc, .dcpy a, .Call (.Name x _) [y] [] _ => decide (x = "dict") && glB sc x && okE T N sc a y && noStar y
  | sc, .getI a k z, .Call (.Attribute p x apos) [u, v] [] cpos => decide (x = "get") && okE T N sc a p && okE T N sc k u && okE T N sc z v && notCall0 p && noStar u && noStar v && (apos.endLine == cpos.line)
  | sc, .dgetZ a k z, .Call (.Attribute p x apos) [u, v] [] cpos => decide (x = "get") && okE T N sc a p && okE T N sc k u && okE T N sc z v && notCall0 p && noStar u && noStar v && (apos.endLine == cpos.line)
  | sc, .dict2 a b c d, .Dict [some x, some z] [y, w] _ => okE T N sc a x && okE T N sc b y && okE T N sc c z && okE T N sc d w
  | sc, .xop k a es, pe => (match xopA sc k pe with | some (p, ps) => okE T N sc a p && okEs T N sc es ps && noStar p | none => false)
  | sc, .newc (.bi b a), .Call (.Name x _) [y] [] _ => decide (b = .list) && decide (x = "list") && glB sc x && okE T N sc a y && noStar y
  | sc, .newc (.bin o a b), .BinOp x p y _ => decide (o = .mul) && opB o p && okE T N sc a x && okE T N sc b y
  | sc, .newc (.comp own tg it cs elt), .ListComp pelt [⟨ptg, piter, pifs, as⟩] scope _ => decide (as = 0) && okI T N sc it ptg piter && blkC N sc scope (ownN N own) && (tg.slots.all fun i => own.contains i) && noSet piter &&
      okTg N (relS scope sc) (fun x => scope.names.lookup x == some .cell) tg ptg && okCs T N (relS scope sc) cs pifs && okE T N (relS scope sc) elt pelt
  | _, _, _ => false
def okEs (T : Tb) (N : List Str) : Scope → Es → List Expr → Bool
  | _, .nil, [] => true
  | sc, .cons e es, p :: ps => okE T N sc e p && okEs T N sc es ps && noStar p
  | _, _, _ => false
def okCs (T : Tb) (N : List Str) : Scope → Es → List Expr → Bool
  | _, .nil, [] => true
  | sc, .cons e .nil, [p] => okE T N sc e p && tstB e
  | _, _, _ => false
def okO (T : Tb) (N : List Str) : Scope → Oe → Option Expr → Bool
  | _, .no, none => true
  | sc, .yes e, some p => okE T N sc e p
  | _, _, _ => false
def okI (T : Tb) (N : List Str) : Scope → It → Expr → Expr → Bool
  | sc, .over e, _, p => okE T N sc e p
  | sc, .range1 e, _, .Call (.Name x _) [p] [] _ => decide (x = "range") && glB sc x && okE T N sc e p && noStar p
  | sc, .range2 a b, _, .Call (.Name x _) [p, q] [] _ => decide (x = "range") && glB sc x && okE T N sc a p && okE T N sc b q && noStar p && noStar q
  | sc, .enum e, .Tuple _ _ _, .Call (.Name x _) [p] [] _ => decide (x = "enumerate") && glB sc x && okE T N sc e p && noStar p
  | sc, .zip a b, .Tuple _ _ _, .Call (.Name x _) [p, q] [] _ => decide (x = "zip") && glB sc x && okE T N sc a p && okE T N sc b q && noStar p && noStar q
  | sc, .items e, .Tuple _ _ _, .Call (.Attribute p x apos) [] [] cpos => decide (x = "items") && okE T N sc e p && notCall0 p && (apos.endLine == cpos.line)
  | _, _, _, _ => false
/-- it may stand as a test -/
def tstB : E → Bool
  | .ife _ _ _ => false
  | .fz _ => false
  | .isx _ _ _ _ => false
  | .not a => tstB a
  | .bools _ es => tstsB es
  | _ => true
def tstsB : Es → Bool
  | .nil => true
  | .cons e es => tstB e && tstsB es
end
/-! ### an except suite -/
def yesB (T : Tb) (yes no : List Nat) (d : Nat) : Bool := T.xs.contains d && (yes.all fun c => T.xs.contains c && T.sb.contains (c, d, true)) && (no.all fun c => T.xs.contains c && T.sb.contains (c, d, false))
def isxB (T : Tb) (yes no : List Nat) (x : Str) : Option Nat → Bool
  | some d => decide (x = T.nm d) && yesB T yes no d
  | none => decide (x = "ValueError") && (yes.all fun c => T.xs.contains c) && no.isEmpty
mutual
def okH (T : Tb) (N : List Str) (sc : Scope) : E → Expr → Bool
  | .var i, .Name x _ => nameB N i x && visB sc x && plainN x
  | .none, .Constant .none _ _ => true
  | .bool b, .Constant (.bool c) _ _ => decide (b = c)
  | .int i, .Constant (.int j) _ _ => decide (i = j)
  | .str s, .Constant (.str x) _ _ => decide (s = x)
  | .tup es, .Tuple pes _ _ => okHs T N sc es pes && decide (pes.length ≤ 1000)
  | .lst es, .List pes _ => okHs T N sc es pes && decide (pes.length ≤ 1000)
  | .bin o a b, .BinOp x p y _ => opB o p && okH T N sc a x && okH T N sc b y
  | .not a, .UnaryOp .Not x _ => okH T N sc a x
  | .cmp o a b, .Compare x [p] [y] _ => cmpB o p && okH T N sc a x && okH T N sc b y && noSet y
  | .ife c a b, .IfExp x y z _ => okH T N sc c x && isCmp c && okH T N sc a y && okH T N sc b z
  | .ix a i, .Subscript x y _ => okH T N sc a x && okH T N sc i y && noSlice y
  | .isx i yes no d, .Call (.Name f _) [.Name n _, .Name x _] [] _ => decide (f = "isinstance") && glB sc f && nameB N i n && visB sc n && plainN n && glB sc x && plainN x && isxB T yes no x d
  | _, _ => false
def okHs (T : Tb) (N : List Str) (sc : Scope) : Es → List Expr → Bool
  | .nil, [] => true
  | .cons e es, p :: ps => okH T N sc e p && okHs T N sc es ps && noStar p
  | _, _ => false
/-- a comparison, as a test -/
def isCmp : E → Bool
  | .cmp _ _ _ => true
  | _ => false
end
end MS

-- MsSound
/-! The check's word: expressions. -/
namespace MS
open PySem PySem.Spec PyProof.Rows L2

/-- where code of a def (or of a comprehension in it) stands -/
structure Ctx (X : Cx) (fa : FA) (T : Tb) (G : List D) (C : Runner) (k : Nat) (N : List Str) (sc : Scope) : Prop where
  scope : X.env.scope = sc
  names : X.N = N
  nd : N.Nodup
  calm : X.calm = true
  room : Room k X.A
  grd : X.A.guards = some []
  lib : Lib X fa T.nm T.ps T.I C k
  cst : ∀ g ∈ T.J, ∃ d v u, G[g]? = some d ∧ X.mg (T.gm g) = some u ∧ RelV v u ∧ Rep X.K (fun _ => none) v d
  blt : ∀ x ∈ bltNames, X.mg x = none
  xcl : ∀ c ∈ T.xs, c < exI ∧ X.mg (T.nm c) = some (.ref (fa c)) ∧ XC X.K (fa c) ∧ PySem.W.kitOne X.K (.ref (fa c)) (.type "ValueError") = some true
  xsb : ∀ c d b, (c, d, b) ∈ T.sb → PySem.W.exmOne X.K (.ref (fa c)) (.ref (fa d)) = some b ∧ PySem.W.kitOne X.K (.ref (fa c)) (.ref (fa d)) = some b
theorem Ctx.units {X : Cx} {fa : FA} {T : Tb} {G : List D} {C : Runner} {k : Nat} {N : List Str} {sc : Scope} (c : Ctx X fa T G C k N sc) : X.A.units + 65 < cLine := by
  have := c.room.un; omega
theorem Ctx.blk {X : Cx} {fa : FA} {T : Tb} {G : List D} {C : Runner} {k : Nat} {N : List Str} {sc : Scope} (c : Ctx X fa T G C k N sc) (scope : Scope) (s : Shared) (H : Hp) (Ca : Addr) (cl : List (Str × Addr)) (fp : List Addr) :
    Ctx (X.blk s H scope (compEnvC scope cl Ca X.env) fp) fa T G C k N (relS scope sc) :=
  ⟨by rw [← c.scope]; rfl, c.names, c.nd, c.calm, c.room, c.grd, ⟨c.lib.mg, c.lib.kp, c.lib.fn⟩, c.cst, c.blt, c.xcl, c.xsb⟩
theorem tru_ok {ma : M Val} : tru ma = fun env S => (ma env S).bind fun v S1 => .ofO (truthV S1 v) S1 := rfl
theorem mem_blt {x : Str} (h : x ∈ bltNames) : x ∈ bltNames := h
theorem bi_mem (b : Bi) : biName b ∈ bltNames := by cases b <;> decide +kernel
theorem ty_mem (t : Ty) : tyStr t ∈ bltNames := by cases t <;> decide +kernel
theorem es_len {G : List D} {C : Runner} : ∀ {T : Tb} {N : List Str} {sc : Scope} {es : Es} {pes : List Expr} {env : MS.Env} {S : Sto} {vs : List Val} {S' : Sto}, okEs T N sc es pes = true → evEs G C es env S = .ok vs S' → vs.length = pes.length
  | _, _, _, .nil, [], _, _, _, _, _, h => by simp only [evEs] at h; cases h; rfl
  | _, _, _, .nil, _ :: _, _, _, _, _, h, _ => by simp [okEs] at h
  | _, _, _, .cons _ _, [], _, _, _, _, h, _ => by simp [okEs] at h
  | T, N, sc, .cons e es, p :: ps, env, S, vs, S', h, h2 => by
    simp only [okEs, Bool.and_eq_true] at h
    simp only [evEs] at h2
    cases q : evE G C e env S with
    | stuck => rw [q] at h2; cases h2
    | exc _ _ => rw [q] at h2; cases h2
    | ok v S1 =>
      rw [q, R.bind_ok] at h2
      cases q2 : evEs G C es env S1 with
      | stuck => rw [q2] at h2; cases h2
      | exc _ _ => rw [q2] at h2; cases h2
      | ok vs2 S2 =>
        rw [q2, R.bind_ok] at h2
        cases h2
        simp [es_len h.1.2 q2]
theorem okEs_star : ∀ {T : Tb} {N : List Str} {sc : Scope} {es : Es} {pes : List Expr}, okEs T N sc es pes = true → pes.all noStar = true
  | _, _, _, .nil, [], _ => rfl
  | _, _, _, .nil, _ :: _, h => by simp [okEs] at h
  | _, _, _, .cons _ _, [], h => by simp [okEs] at h
  | T, N, sc, .cons e es, p :: ps, h => by
    simp only [okEs, Bool.and_eq_true] at h
    rw [List.all_cons, h.2, okEs_star h.1.2]; rfl
theorem SimT.congr {fa : FA} {X : Cx} {pe : Expr} {m m' : M Bool} (h : SimT fa X pe m) (e : m = m') : SimT fa X pe m' := e ▸ h
section
variable {fa : FA} {T : Tb} {G : List D} {C : Runner} {k : Nat} {N : List Str}
def SE (fa : FA) (G : List D) (C : Runner) (X : Cx) (e : E) (pe : Expr) : Prop := SimE fa X pe (evE G C e) ∧ (tstB e = true → SimT fa X pe (tru (evE G C e)))
theorem SE.plain {X : Cx} {e : E} {pe : Expr} (h : SimE fa X pe (evE G C e)) (hp : plainTest pe = true) : SE fa G C X e pe := ⟨h, fun _ => SimT.of_E h hp⟩
theorem okC_ok (own : List Nat) (tg : Tg) (it : It) (cs : Es) (elt : E) {X : Cx} {sc : Scope} {ptg pelt : Expr} {pifs : List Expr} {scope : Scope} (c : Ctx X fa T G C k N sc) (g4 : (tg.slots.all fun i => own.contains i) = true)
    (g6 : okTg N (relS scope sc) (fun x => scope.names.lookup x == some .cell) tg ptg = true) (g7 : ∀ {X' : Cx}, Ctx X' fa T G C k N (relS scope sc) → SimTs fa X' pifs (evCs G C cs)) (g8 : ∀ {X' : Cx}, Ctx X' fa T G C k N (relS scope sc) → SimE fa X' pelt (evE G C elt)) :
    SimC fa X scope ptg pifs pelt tg (evCs G C cs) (evE G C elt) ∧ ∀ i ∈ tg.slots, i ∈ own := by
  refine ⟨⟨fun s H Ca cl fp => ?_, fun s H Ca cl fp => ?_, fun s H Ca cl fp => ?_⟩, fun i hi => ?_⟩
  · have cb := c.blk scope s H Ca cl fp
    exact okTg_ok (X := X.blk s H scope (compEnvC scope cl Ca X.env) fp) cb.scope rfl (by rw [cb.names]; exact cb.nd) cb.calm tg ptg (by rw [cb.names]; exact g6)
  · exact (g7 (c.blk scope s H Ca cl fp)).run _ takes_blk
  · exact (g8 (c.blk scope s H Ca cl fp)).run _ takes_blk
  · have := List.all_eq_true.mp g4 i hi
    simpa using this
mutual
theorem okE_ok : ∀ (e : E) {X : Cx} {sc : Scope} (pe : Expr), Ctx X fa T G C k N sc → okE T N sc e pe = true → SE fa G C X e pe
  | .var i, X, sc, pe, c, h => by
    cases pe with
    | Name x p =>
      simp only [okE, Bool.and_eq_true] at h
      obtain ⟨⟨h1, h2⟩, h3⟩ := h
      obtain ⟨d1, d2⟩ := plainN_ok h3
      exact SE.plain (sm_var (by rw [c.names]; exact nameB_ok h1) (by rw [c.scope]; exact visB_ok h2) d1 d2) rfl
    | _ => simp [okE] at h
  | .glob g, X, sc, pe, c, h => by
    cases pe with
    | Name x p =>
      simp only [okE, Bool.and_eq_true, decide_eq_true_eq, List.contains_iff_mem] at h
      obtain ⟨⟨⟨h1, h2⟩, h3⟩, h4⟩ := h
      subst h1
      obtain ⟨d, v, u, e1, e2, e3, e4⟩ := c.cst g h2
      refine SE.plain ?_ rfl
      have := sm_const (fa := fa) (pe_glob (pos := p) (glB_ok c.scope h3) e2 e3 (plainN_ok h4).1) e4
      have e : evE G C (.glob g) = fun _ S => .ok (.d d) S := by
        funext env S; simp [evE, litI, e1]
      rw [e]; exact this
    | _ => simp [okE] at h
  | .none, X, sc, pe, c, h => by
    cases pe with
    | Constant v j p =>
      cases v with
      | none => exact SE.plain (sm_const pe_non .non) rfl
      | _ => simp [okE] at h
    | _ => simp [okE] at h
  | .bool b, X, sc, pe, c, h => by
    cases pe with
    | Constant v j p =>
      cases v with
      | bool b' =>
        simp only [okE, decide_eq_true_eq] at h
        subst h
        exact SE.plain (sm_const pe_bl (.bl _)) rfl
      | _ => simp [okE] at h
    | _ => simp [okE] at h
  | .int b, X, sc, pe, c, h => by
    cases pe with
    | Constant v j p =>
      cases v with
      | int b' =>
        simp only [okE, decide_eq_true_eq] at h
        subst h
        exact SE.plain (sm_const pe_int (.int _)) rfl
      | _ => simp [okE] at h
    | _ => simp [okE] at h
  | .str b, X, sc, pe, c, h => by
    cases pe with
    | Constant v j p =>
      cases v with
      | str b' =>
        simp only [okE, decide_eq_true_eq] at h
        subst h
        exact SE.plain (sm_const pe_str (.str _)) rfl
      | _ => simp [okE] at h
    | _ => simp [okE] at h
  | .tup es, X, sc, pe, c, h => by
    cases pe with
    | Tuple pes kk p =>
      simp only [okE, Bool.and_eq_true, decide_eq_true_eq] at h
      refine SE.plain (sm_tup (okEs_ok es pes c h.1) fun env S vs S' q => ?_) rfl
      rw [es_len h.1 q]; exact Nat.le_trans h.2 (by decide)
    | _ => simp [okE] at h
  | .lst es, X, sc, pe, c, h => by
    cases pe with
    | List pes p =>
      simp only [okE, Bool.and_eq_true, decide_eq_true_eq] at h
      refine SE.plain (sm_lst (okEs_ok es pes c h.1) fun env S vs S' q => ?_) rfl
      rw [es_len h.1 q]; exact Nat.le_trans h.2 (by decide)
    | _ => simp [okE] at h
  | .lstN es, X, sc, pe, c, h => by
    cases pe with
    | List pes p =>
      simp only [okE, Bool.and_eq_true, decide_eq_true_eq] at h
      refine SE.plain (sm_lstN (okEs_ok es pes c h.1) fun env S vs S' q => ?_) rfl
      rw [es_len h.1 q]; exact Nat.le_trans h.2 (by decide)
    | _ => simp [okE] at h
  | .bin o a b, X, sc, pe, c, h => by
    cases pe with
    | BinOp x p y q =>
      simp only [okE, Bool.and_eq_true] at h
      cases opB_ok h.1.1
      exact SE.plain (sm_bin (okE_ok a x c h.1.2).1 (okE_ok b y c h.2).1) rfl
    | _ => simp [okE] at h
  | .neg a, X, sc, pe, c, h => by
    cases pe with
    | UnaryOp p x q =>
      cases p with
      | USub =>
        simp only [okE] at h
        exact SE.plain (sm_neg (okE_ok a x c h).1) rfl
      | _ => simp [okE] at h
    | _ => simp [okE] at h
  | .not a, X, sc, pe, c, h => by
    cases pe with
    | UnaryOp p x q =>
      cases p with
      | Not =>
        simp only [okE] at h
        have ih := okE_ok a x c h
        exact ⟨sm_not ih.1, fun ht => st_not (ih.2 (by simpa [tstB] using ht))⟩
      | _ => simp [okE] at h
    | _ => simp [okE] at h
  | .bools kk es, X, sc, pe, c, h => by
    cases pe with
    | BoolOp p pes q =>
      simp only [okE, Bool.and_eq_true] at h
      cases boolB_ok h.1.1
      have hn : isNil es = false := by simpa using h.2
      have ih := okB_ok kk es pes (q := q) c h.1.2 hn
      exact ⟨ih.1, fun ht => (ih.2 (by simpa [tstB] using ht)).t⟩
    | _ => simp [okE] at h
  | .cmp o a b, X, sc, pe, c, h => by
    cases pe with
    | Compare x ps ys q =>
      match ps, ys, h with
      | [p], [y], h =>
        simp only [okE, Bool.and_eq_true] at h
        cases cmpB_ok h.1.1.1
        have h1 := (okE_ok a x c h.1.1.2).1
        have h2 := (okE_ok b y c h.1.2).1
        exact ⟨sm_cmp h1 h2 c.units h.2, fun _ => st_cmp h1 h2 c.units h.2⟩
      | [], _, h => simp [okE] at h
      | [_], [], h => simp [okE] at h
      | [_], _ :: _ :: _, h => simp [okE] at h
      | _ :: _ :: _, _, h => simp [okE] at h
    | _ => simp [okE] at h
  | .chain o1 o2 a b cc, X, sc, pe, c, h => by
    cases pe with
    | Compare x ps ys q =>
      match ps, ys, h with
      | [p1, p2], [y, z], h =>
        simp only [okE, Bool.and_eq_true] at h
        obtain ⟨⟨⟨⟨⟨g1, g2⟩, g3⟩, g4⟩, g5⟩, g6⟩ := h
        cases cmpB_ok g1
        cases cmpB_ok g2
        have h1 := (okE_ok a x c g3).1
        have h2 := (okE_ok b y c g4).1
        have h3 := (okE_ok cc z c g5).1
        exact ⟨sm_chain h1 h2 h3 c.units g6, fun _ => st_chain h1 h2 h3 c.units g6⟩
      | [], _, h => simp [okE] at h
      | [_], _, h => simp [okE] at h
      | [_, _], [], h => simp [okE] at h
      | [_, _], [_], h => simp [okE] at h
      | [_, _], _ :: _ :: _ :: _, h => simp [okE] at h
      | _ :: _ :: _ :: _, _, h => simp [okE] at h
    | _ => simp [okE] at h
  | .ife cc a b, X, sc, pe, c, h => by
    cases pe with
    | IfExp x y z q =>
      simp only [okE, Bool.and_eq_true] at h
      obtain ⟨⟨⟨g1, g2⟩, g3⟩, g4⟩ := h
      exact ⟨sm_ife ((okE_ok cc x c g1).2 g2) (okE_ok a y c g3).1 (okE_ok b z c g4).1, fun ht => by simp [tstB] at ht⟩
    | _ => simp [okE] at h
  | .ix a i, X, sc, pe, c, h => by
    cases pe with
    | Subscript x y q =>
      simp only [okE, Bool.and_eq_true] at h
      exact SE.plain (sm_ix (okE_ok a x c h.1.1).1 (okE_ok i y c h.1.2).1 h.2) rfl
    | _ => simp [okE] at h
  | .sl a lo hi, X, sc, pe, c, h => by
    cases pe with
    | Subscript x y q =>
      cases y with
      | Slice l hh st p2 =>
        cases st with
        | none =>
          simp only [okE, Bool.and_eq_true] at h
          exact SE.plain (sm_sl (okE_ok a x c h.1.1).1 (okO_ok lo l c h.1.2) (okO_ok hi hh c h.2)) rfl
        | some _ => simp [okE] at h
      | _ => simp [okE] at h
    | _ => simp [okE] at h
  | .call f es, X, sc, pe, c, h => by
    cases pe with
    | Call g args kws q =>
      cases g with
      | Name x p =>
        cases kws with
        | cons _ _ => simp [okE] at h
        | nil =>
          simp only [okE, Bool.and_eq_true, decide_eq_true_eq, List.contains_iff_mem] at h
          obtain ⟨⟨⟨⟨⟨g1, g2⟩, g3⟩, g4⟩, g5⟩, g6⟩ := h
          subst g1
          have ha := okEs_ok es args c g5
          refine SE.plain ?_ rfl
          cases args with
          | nil =>
            have := sm_call0 (fa := fa) (pos := q) (p := p) c.lib g2 c.room c.grd (glB_ok c.scope g3) (plainN_ok g4).1
            cases es with
            | nil =>
              have e : evE G C (.call f .nil) = fun env S => C f [] S := by funext env S; simp [evE, evEs]
              rw [e]; exact this
            | cons _ _ => simp [okEs] at g5
          | cons a0 args =>
            have := sm_call (fa := fa) (pos := q) (p := p) c.lib g2 c.room c.grd (glB_ok c.scope g3) (plainN_ok g4).1 ha g6
            have e : evE G C (.call f es) = fun env S => (evEs G C es env S).bind fun vs S1 => C f vs S1 := by funext env S; simp only [evE]
            rw [e]; exact this
      | _ => simp [okE] at h
    | _ => simp [okE] at h
  | .bi b a, X, sc, pe, c, h => by
    cases pe with
    | Call g args kws q =>
      cases g with
      | Name x p =>
        match args, kws, h with
        | [y], [], h =>
          simp only [okE, Bool.and_eq_true, decide_eq_true_eq] at h
          obtain ⟨⟨⟨g1, g2⟩, g3⟩, g4⟩ := h
          subst g1
          exact SE.plain (sm_bi b c.calm (fun _ => ⟨c.grd, c.units⟩) (glB_ok c.scope g2) (c.blt _ (bi_mem b)) (okE_ok a y c g3).1 g4) rfl
        | [], _, h => simp [okE] at h
        | [_], _ :: _, h => simp [okE] at h
        | _ :: _ :: _, _, h => simp [okE] at h
      | _ => simp [okE] at h
    | _ => simp [okE] at h
  | .isi a ts, X, sc, pe, c, h => by
    cases pe with
    | Call g args kws q =>
      cases g with
      | Name x p =>
        match args, kws, h with
        | [y, z], [], h =>
          cases z with
          | Name zz p2 =>
            match ts, h with
            | [t], h =>
              simp only [okE, Bool.and_eq_true, decide_eq_true_eq] at h
              obtain ⟨⟨⟨⟨⟨g1, g2⟩, g3⟩, g4⟩, g5⟩, g6⟩ := h
              subst g1; subst g3
              exact SE.plain (sm_isi1 (glB_ok c.scope g2) (c.blt _ (by decide +kernel)) (glB_ok c.scope g4) (c.blt _ (ty_mem t)) (okE_ok a y c g5).1 g6) rfl
            | [], h => simp [okE] at h
            | _ :: _ :: _, h => simp [okE] at h
          | Tuple pes kk p2 =>
            have h' : (decide (x = "isinstance") && glB sc x && tysB sc ts pes && decide (ts.length ≤ 1000) && okE T N sc a y && noStar y) = true := by
              cases ts with
              | nil => exact h
              | cons t ts => cases ts <;> exact h
            simp only [Bool.and_eq_true, decide_eq_true_eq] at h'
            obtain ⟨⟨⟨⟨⟨g1, g2⟩, g3⟩, g4⟩, g5⟩, g6⟩ := h'
            subst g1
            obtain ⟨t1, t2⟩ := tysB_ok g3
            exact SE.plain (sm_isiT (glB_ok c.scope g2) (c.blt _ (by decide +kernel)) t1 (fun t ht => ⟨glB_ok c.scope (t2 t ht), c.blt _ (ty_mem t)⟩) g4 (okE_ok a y c g5).1 g6) rfl
          | _ => cases ts with
            | nil => simp [okE] at h
            | cons t ts => cases ts <;> simp [okE] at h
        | [], _, h => cases ts with
            | nil => simp [okE] at h
            | cons t ts => cases ts <;> simp [okE] at h
        | [_], _, h => cases ts with
            | nil => simp [okE] at h
            | cons t ts => cases ts <;> simp [okE] at h
        | [_, z], _ :: _, h => cases z <;> (cases ts with
            | nil => simp [okE] at h
            | cons t ts => cases ts <;> simp [okE] at h)
        | _ :: _ :: _ :: _, _, h => cases ts with
            | nil => simp [okE] at h
            | cons t ts => cases ts <;> simp [okE] at h
      | _ => cases ts with
            | nil => simp [okE] at h
            | cons t ts => cases ts <;> simp [okE] at h
    | _ => cases ts with
            | nil => simp [okE] at h
            | cons t ts => cases ts <;> simp [okE] at h
  | .lenSet a, X, sc, pe, c, h => by
    cases pe with
    | Call g args kws q =>
      cases g with
      | Name x p =>
        match args, kws, h with
        | [z], [], h =>
          cases z with
          | Call g2 args2 kws2 q2 =>
            cases g2 with
            | Name z2 p2 =>
              match args2, kws2, h with
              | [y], [], h =>
                simp only [okE, Bool.and_eq_true, decide_eq_true_eq] at h
                obtain ⟨⟨⟨⟨⟨g1, g2⟩, g3⟩, g4⟩, g5⟩, g6⟩ := h
                subst g1; subst g3
                exact SE.plain (sm_lenSet (glB_ok c.scope g2) (c.blt _ (by decide +kernel)) (glB_ok c.scope g4) (c.blt _ (by decide +kernel)) (okE_ok a y c g5).1 c.calm g6) rfl
              | [], _, h => simp [okE] at h
              | [_], _ :: _, h => simp [okE] at h
              | _ :: _ :: _, _, h => simp [okE] at h
            | _ => simp [okE] at h
          | _ => simp [okE] at h
        | [], _, h => simp [okE] at h
        | [_], _ :: _, h => simp [okE] at h
        | _ :: _ :: _, _, h => simp [okE] at h
      | _ => simp [okE] at h
    | _ => simp [okE] at h
  | .xop kk a es, X, sc, pe, c, h => by
    simp only [okE] at h
    cases q : xopA sc kk pe with
    | none => rw [q] at h; simp at h
    | some r =>
      obtain ⟨p, ps⟩ := r
      rw [q] at h
      simp only [Bool.and_eq_true] at h
      exact SE.plain (xop_ok kk c.scope (fun x hx => c.blt x hx) c.calm c.units q (okE_ok a p c h.1.1).1 (okEs_ok es ps c h.1.2) h.2 (okEs_star h.1.2)) (xop_plain kk q)
  | .dictOf a, X, sc, pe, c, h => by
    cases pe with
    | Call g args kws q =>
      cases g with
      | Name x p =>
        match args, kws, h with
        | [y], [], h =>
          simp only [okE, Bool.and_eq_true, decide_eq_true_eq] at h
          obtain ⟨⟨⟨g1, g2⟩, g3⟩, g4⟩ := h
          subst g1
          exact SE.plain (sm_dictOf (glB_ok c.scope g2) (c.blt _ (by decide +kernel)) (okE_ok a y c g3).1 c.calm g4) rfl
        | [], _, h => simp [okE] at h
        | [_], _ :: _, h => simp [okE] at h
        | _ :: _ :: _, _, h => simp [okE] at h
      | _ => simp [okE] at h
    | _ => simp [okE] at h
  | .dict1 a b, X, sc, pe, c, h => by
    cases pe with
    | Dict ks vs q =>
      match ks, vs, h with
      | [some x], [y], h =>
        simp only [okE, Bool.and_eq_true] at h
        exact SE.plain (sm_dict1 (okE_ok a x c h.1).1 (okE_ok b y c h.2).1) rfl
      | [], _, h => simp [okE] at h
      | [none], _, h => simp [okE] at h
      | [some _], [], h => simp [okE] at h
      | [some _], _ :: _ :: _, h => simp [okE] at h
      | _ :: _ :: _, _, h => simp [okE] at h
    | _ => simp [okE] at h
  | .dict0, X, sc, pe, c, h => by
    cases pe with
    | Dict ks vs q =>
      match ks, vs, h with
      | [], [], h => exact SE.plain sm_dict0 rfl
      | [], _ :: _, h => simp [okE] at h
      | _ :: _, _, h => simp [okE] at h
    | _ => simp [okE] at h
  | .comp own tg it cs elt, X, sc, pe, c, h => by
    cases pe with
    | ListComp pelt gens scope q =>
      match gens, h with
      | [⟨ptg, piter, pifs, as⟩], h =>
        simp only [okE, Bool.and_eq_true, decide_eq_true_eq] at h
        obtain ⟨⟨⟨⟨⟨⟨⟨g1, g2⟩, g3⟩, g4⟩, g5⟩, g6⟩, g7⟩, g8⟩ := h
        subst g1
        have hi := okI_ok it ptg piter c g2
        obtain ⟨hb, hs⟩ := okC_ok own tg it cs elt c g4 g6 (fun c' => okCs_ok cs pifs c' g7) (fun c' => (okE_ok elt pelt c' g8).1)
        refine SE.plain (sm_comp c.calm (by rw [c.names]; exact c.nd) hi (by rw [c.names, c.scope]; exact g3) hb hs g5) rfl
      | [], h => simp [okE] at h
      | _ :: _ :: _, h => simp [okE] at h
    | _ => simp [okE] at h
  | .fz a, X, sc, pe, c, h => by
    simp only [okE] at h
    exact ⟨sm_fz (okE_ok a pe c h).1, fun ht => by simp [tstB] at ht⟩
  | .isx i yes no d, X, sc, pe, c, h => by cases pe <;> simp [okE] at h
  | .callP f es, X, sc, pe, c, h => by
    cases pe with
    | Call g args kws q =>
      cases g with
      | Name x p =>
        cases kws with
        | cons _ _ => simp [okE] at h
        | nil =>
          simp only [okE, Bool.and_eq_true, decide_eq_true_eq, List.contains_iff_mem, Bool.not_eq_true'] at h
          obtain ⟨⟨⟨⟨⟨⟨g1, g2⟩, g3⟩, g4⟩, g5⟩, g6⟩, g7⟩ := h
          subst g1
          have ha := okEs_ok es args c g5
          refine SE.plain ?_ rfl
          cases args with
          | nil => simp at g7
          | cons a0 args =>
            have := sm_callP (fa := fa) (pos := q) (p := p) c.lib g2 c.room c.grd (glB_ok c.scope g3) (plainN_ok g4).1 ha g6
            have e : evE G C (.callP f es) = fun env S => (evEs G C es env S).bind fun vs S1 => callPV C f vs S1 := by funext env S; simp only [evE]
            rw [e]; exact this
      | _ => simp [okE] at h
    | _ => simp [okE] at h
  | .mm kk a b, X, sc, pe, c, h => by
    cases pe with
    | Call g args kws q =>
      cases g with
      | Name x p =>
        match args, kws, h with
        | [y, z], [], h =>
          simp only [okE, Bool.and_eq_true, decide_eq_true_eq] at h
          obtain ⟨⟨⟨⟨⟨g1, g2⟩, g3⟩, g4⟩, g5⟩, g6⟩ := h
          subst g1
          exact SE.plain (sm_mm kk c.calm (glB_ok c.scope g2) (c.blt _ (by cases kk <;> decide +kernel)) (okE_ok a y c g3).1 (okE_ok b z c g4).1 g5 g6) rfl
        | [], _, h => simp [okE] at h
        | [_], _, h => simp [okE] at h
        | [_, _], _ :: _, h => simp [okE] at h
        | _ :: _ :: _ :: _, _, h => simp [okE] at h
      | _ => simp [okE] at h
    | _ => simp [okE] at h
  | .srt false nw a, X, sc, pe, c, h => by
    cases pe with
    | Call g args kws q =>
      cases g with
      | Name x p =>
        match args, kws, h with
        | [y], [], h =>
          simp only [okE, Bool.and_eq_true, decide_eq_true_eq] at h
          obtain ⟨⟨⟨g1, g2⟩, g3⟩, g4⟩ := h
          subst g1
          have := sm_srt (fa := fa) (pos := q) (p := p) nw c.units (glB_ok c.scope g2) (c.blt _ (by decide +kernel)) (okE_ok a y c g3).1 g4
          have e : evE G C (.srt false nw a) = fun env S => (evE G C a env S).bind fun x S1 => srtV false nw S1 x := by funext env S; simp only [evE]
          refine SE.plain ?_ rfl
          rw [e]; exact this
        | [], _, h => simp [okE] at h
        | [_], _ :: _, h => simp [okE] at h
        | _ :: _ :: _, _, h => simp [okE] at h
      | _ => simp [okE] at h
    | _ => simp [okE] at h
  | .srt true nw a, X, sc, pe, c, h => by
    cases pe with
    | Call g args kws q =>
      cases g with
      | Name x p =>
        match args, kws, h with
        | [z], [], h =>
          cases z with
          | Call g2 args2 kws2 q2 =>
            cases g2 with
            | Name z2 p2 =>
              match args2, kws2, h with
              | [y], [], h =>
                simp only [okE, Bool.and_eq_true, decide_eq_true_eq] at h
                obtain ⟨⟨⟨⟨⟨g1, g2⟩, g3⟩, g4⟩, g5⟩, g6⟩ := h
                subst g1; subst g3
                have := sm_srtSet (fa := fa) (pos := q) (p := p) (p2 := p2) (q := q2) nw (glB_ok c.scope g2) (c.blt _ (by decide +kernel)) (glB_ok c.scope g4) (c.blt _ (by decide +kernel)) (okE_ok a y c g5).1 c.calm g6
                have e : evE G C (.srt true nw a) = fun env S => (evE G C a env S).bind fun x S1 => srtV true nw S1 x := by funext env S; simp only [evE]
                refine SE.plain ?_ rfl
                rw [e]; exact this
              | [], _, h => simp [okE] at h
              | [_], _ :: _, h => simp [okE] at h
              | _ :: _ :: _, _, h => simp [okE] at h
            | _ => simp [okE] at h
          | _ => simp [okE] at h
        | [], _, h => simp [okE] at h
        | [_], _ :: _, h => simp [okE] at h
        | _ :: _ :: _, _, h => simp [okE] at h
      | _ => simp [okE] at h
    | _ => simp [okE] at h
  | .dctN, X, sc, pe, c, h => by
    cases pe with
    | Dict ks vs q =>
      match ks, vs, h with
      | [], [], h => exact SE.plain sm_dctN rfl
      | [], _ :: _, h => simp [okE] at h
      | _ :: _, _, h => simp [okE] at h
    | _ => simp [okE] at h
  | .rev a, X, sc, pe, c, h => by
    cases pe with
    | Subscript x i q =>
      simp only [okE, Bool.and_eq_true] at h
      obtain ⟨h0, h⟩ := h
      obtain ⟨kk, p1, p2, p3, rfl⟩ := revB_ok h0
      have := sm_rev (fa := fa) (pos := q) (k := kk) (p1 := p1) (p2 := p2) (p3 := p3) (okE_ok a x c h).1
      have e : evE G C (.rev a) = fun env S => (evE G C a env S).bind fun v S1 => .ofO (revV v) S1 := by funext env S; simp only [evE]
      refine SE.plain ?_ rfl
      rw [e]; exact this
    | _ => simp [okE] at h
  | .srtP a, X, sc, pe, c, h => by
    cases pe with
    | Call g args kws q =>
      cases g with
      | Name x p =>
        match args, kws, h with
        | [z], [], h =>
          cases z with
          | Call g2 args2 kws2 q2 =>
            cases g2 with
            | Name z2 p2 =>
              match args2, kws2, h with
              | [y], [], h =>
                simp only [okE, Bool.and_eq_true, decide_eq_true_eq] at h
                obtain ⟨⟨⟨⟨⟨g1, g2⟩, g3⟩, g4⟩, g5⟩, g6⟩ := h
                subst g1; subst g3
                have := sm_srtP (fa := fa) (pos := q) (p := p) (p2 := p2) (q := q2) (glB_ok c.scope g2) (c.blt _ (by decide +kernel)) (glB_ok c.scope g4) (c.blt _ (by decide +kernel)) (okE_ok a y c g5).1 c.calm c.units g6
                have e : evE G C (.srtP a) = fun env S => (evE G C a env S).bind fun x S1 => srtPV S1 x := by funext env S; simp only [evE]
                refine SE.plain ?_ rfl
                rw [e]; exact this
              | [], _, h => simp [okE] at h
              | [_], _ :: _, h => simp [okE] at h
              | _ :: _ :: _, _, h => simp [okE] at h
            | _ => simp [okE] at h
          | _ => simp [okE] at h
        | [], _, h => simp [okE] at h
        | [_], _ :: _, h => simp [okE] at h
        | _ :: _ :: _, _, h => simp [okE] at h
      | _ => simp [okE] at h
    | _ => simp [okE] at h
  | .dget a k, X, sc, pe, c, h => by
    cases pe with
    | Subscript x y q =>
      simp only [okE, Bool.and_eq_true] at h
      have := sm_dget (fa := fa) (pos := q) c.units (okE_ok a x c h.1.1).1 (okE_ok k y c h.1.2).1 h.2
      have e : evE G C (.dget a k) = fun env S => (evE G C a env S).bind fun x S1 => (evE G C k env S1).bind fun y S2 => .ofO ((dctV S2 x).bind fun es => (keyV y).bind fun ks => lookD es ks) S2 := by funext env S; simp only [evE] <;> rfl
      refine SE.plain ?_ rfl
      rw [e]; exact this
    | _ => simp [okE] at h
  | .dgetZ a k z, X, sc, pe, c, h => by
    cases pe with
    | Call g args kws q =>
      cases g with
      | Attribute p x apos =>
        match args, kws, h with
        | [u, v], [], h =>
          simp only [okE, Bool.and_eq_true, decide_eq_true_eq] at h
          obtain ⟨⟨⟨⟨⟨⟨⟨g1, g2⟩, g3⟩, g4⟩, g5⟩, g6⟩, g7⟩, g8⟩ := h
          subst g1
          have := sm_dgetZ (fa := fa) (pos := q) (apos := apos) c.units (okE_ok a p c g2).1 (okE_ok k u c g3).1 (okE_ok z v c g4).1 (m2_ok g5 g6 g7 g8)
          have e : evE G C (.dgetZ a k z) = fun env S => (evE G C a env S).bind fun x S1 => if (dctV S1 x).isSome then (evE G C k env S1).bind fun y S2 => (evE G C z env S2).bind fun w S3 => .ofO ((dctV S3 x).bind fun es => (keyV y).map fun ks => (lookD es ks).getD w) S3 else .stuck := by funext env S; simp only [evE] <;> rfl
          refine SE.plain ?_ rfl
          rw [e]; exact this
        | [], _, h => simp [okE] at h
        | [_], _, h => simp [okE] at h
        | [_, _], _ :: _, h => simp [okE] at h
        | _ :: _ :: _ :: _, _, h => simp [okE] at h
      | _ => simp [okE] at h
    | _ => simp [okE] at h
  | .getI a k z, X, sc, pe, c, h => by
    cases pe with
    | Call g args kws q =>
      cases g with
      | Attribute p x apos =>
        match args, kws, h with
        | [u, v], [], h =>
          simp only [okE, Bool.and_eq_true, decide_eq_true_eq] at h
          obtain ⟨⟨⟨⟨⟨⟨⟨g1, g2⟩, g3⟩, g4⟩, g5⟩, g6⟩, g7⟩, g8⟩ := h
          subst g1
          have := sm_getI (fa := fa) (pos := q) (apos := apos) c.units (okE_ok a p c g2).1 (okE_ok k u c g3).1 (okE_ok z v c g4).1 (m2_ok g5 g6 g7 g8)
          have e : evE G C (.getI a k z) = fun env S => (evE G C a env S).bind fun x S1 => if isDic x then (evE G C k env S1).bind fun y S2 => (evE G C z env S2).bind fun w S3 => .ofO (getIV x y w) S3 else .stuck := by funext env S; simp only [evE] <;> rfl
          refine SE.plain ?_ rfl
          rw [e]; exact this
        | [], _, h => simp [okE] at h
        | [_], _, h => simp [okE] at h
        | [_, _], _ :: _, h => simp [okE] at h
        | _ :: _ :: _ :: _, _, h => simp [okE] at h
      | _ => simp [okE] at h
    | _ => simp [okE] at h
  | .dict2 a b d f, X, sc, pe, c, h => by
    cases pe with
    | Dict ks vs q =>
      match ks, vs, h with
      | [some x, some z], [y, w], h =>
        simp only [okE, Bool.and_eq_true] at h
        obtain ⟨⟨⟨g1, g2⟩, g3⟩, g4⟩ := h
        have := sm_dict2 (fa := fa) (pos := q) (okE_ok a x c g1).1 (okE_ok b y c g2).1 (okE_ok d z c g3).1 (okE_ok f w c g4).1
        have e : evE G C (.dict2 a b d f) = fun env S => (evE G C a env S).bind fun x S1 => (evE G C b env S1).bind fun y S2 => (evE G C d env S2).bind fun z S3 => (evE G C f env S3).bind fun w S4 => .ofO (dict2V x y z w) S4 := by funext env S; simp only [evE] <;> rfl
        refine SE.plain ?_ rfl
        rw [e]; exact this
      | [], _, h => simp [okE] at h
      | [_], _, h => simp [okE] at h
      | [none, _], _, h => simp [okE] at h
      | [some _, none], _, h => simp [okE] at h
      | [some _, some _], [], h => simp [okE] at h
      | [some _, some _], [_], h => simp [okE] at h
      | [some _, some _], _ :: _ :: _ :: _, h => simp [okE] at h
      | _ :: _ :: _ :: _, _, h => simp [okE] at h
    | _ => simp [okE] at h
  | .din neg k a, X, sc, pe, c, h => by
    cases pe with
    | Compare y ps xs q =>
      match ps, xs, h with
      | [p], [x], h =>
        simp only [okE, Bool.and_eq_true, decide_eq_true_eq] at h
        obtain ⟨⟨⟨g1, g2⟩, g3⟩, g4⟩ := h
        subst g1
        have h1 := (okE_ok k y c g2).1
        have h2 := (okE_ok a x c g3).1
        have e : evE G C (.din neg k a) = fun env S => (evE G C k env S).bind fun y S1 => (evE G C a env S1).bind fun x S2 => R.ofO (dinV neg S2 y x) S2 := by funext env S; simp only [evE] <;> rfl
        unfold SE
        rw [e]
        exact ⟨sm_din neg c.units h1 h2 g4, fun _ => st_din neg c.units h1 h2 g4⟩
      | [], _, h => simp [okE] at h
      | [_], [], h => simp [okE] at h
      | [_], _ :: _ :: _, h => simp [okE] at h
      | _ :: _ :: _, _, h => simp [okE] at h
    | _ => simp [okE] at h
  | .dlen a, X, sc, pe, c, h => by
    cases pe with
    | Call g args kws q =>
      cases g with
      | Name x p =>
        match args, kws, h with
        | [y], [], h =>
          simp only [okE, Bool.and_eq_true, decide_eq_true_eq] at h
          obtain ⟨⟨⟨g1, g2⟩, g3⟩, g4⟩ := h
          subst g1
          have := sm_dlen (fa := fa) (pos := q) (p := p) (glB_ok c.scope g2) (c.blt _ (bi_mem .len)) (okE_ok a y c g3).1 g4
          have e : evE G C (.dlen a) = fun env S => (evE G C a env S).bind fun x S1 => .ofO ((dctV S1 x).map fun es => .d (.int es.length)) S1 := by funext env S; simp only [evE] <;> rfl
          refine SE.plain ?_ rfl
          rw [e]; exact this
        | [], _, h => simp [okE] at h
        | [_], _ :: _, h => simp [okE] at h
        | _ :: _ :: _, _, h => simp [okE] at h
      | _ => simp [okE] at h
    | _ => simp [okE] at h
  | .dcpy a, X, sc, pe, c, h => by
    cases pe with
    | Call g args kws q =>
      cases g with
      | Name x p =>
        match args, kws, h with
        | [y], [], h =>
          simp only [okE, Bool.and_eq_true, decide_eq_true_eq] at h
          obtain ⟨⟨⟨g1, g2⟩, g3⟩, g4⟩ := h
          subst g1
          have := sm_dcpy (fa := fa) (pos := q) (p := p) c.units (glB_ok c.scope g2) (c.blt _ (bi_mem .dict)) (okE_ok a y c g3).1 g4
          have e : evE G C (.dcpy a) = fun env S => (evE G C a env S).bind fun x S1 => dcpyV S1 x := by funext env S; simp only [evE] <;> rfl
          refine SE.plain ?_ rfl
          rw [e]; exact this
        | [], _, h => simp [okE] at h
        | [_], _ :: _, h => simp [okE] at h
        | _ :: _ :: _, _, h => simp [okE] at h
      | _ => simp [okE] at h
    | _ => simp [okE] at h
  | .callL fs i es, X, sc, pe, c, h => by
    cases pe with
    | Call g args kws q =>
      cases g with
      | Subscript l y p2 =>
        cases l with
        | List nes p1 =>
          cases kws with
          | cons _ _ => simp [okE] at h
          | nil =>
            simp only [okE, Bool.and_eq_true, decide_eq_true_eq, List.all_eq_true, List.contains_iff_mem, Bool.not_eq_true'] at h
            obtain ⟨⟨⟨⟨⟨⟨⟨g1, g2⟩, g3⟩, g4⟩, g5⟩, g6⟩, g7⟩, g8⟩ := h
            have ha := okEs_ok es args c g6
            have hI : ∀ f ∈ fs, f ∈ T.I ∧ Gl X (T.nm f) ∧ (T.nm f == ("__debug__" : Str)) = false := fun f hf => ⟨(g2 f hf).1.1, glB_ok c.scope (g2 f hf).1.2, (plainN_ok (g2 f hf).2).1⟩
            refine SE.plain ?_ rfl
            cases args with
            | nil => simp at g8
            | cons a0 args =>
              have := sm_callL (fa := fa) (pos := q) (p1 := p1) (p2 := p2) c.lib g1 hI g3 c.room c.grd (okE_ok i y c g4).1 g5 ha (List.all_eq_true.mpr g7)
              have e : evE G C (.callL fs i es) = fun env S => (evE G C i env S).bind fun y S1 => match pickF fs y with | some f => (evEs G C es env S1).bind fun vs S2 => C f vs S2 | none => .stuck := by funext env S; simp only [evE] <;> rfl
              rw [e]; exact this
        | _ => simp [okE] at h
      | _ => simp [okE] at h
    | _ => simp [okE] at h
  | .newc e0, X, sc, pe, c, h => by
    cases e0 with
    | comp own tg it cs elt =>
      cases pe with
      | ListComp pelt gens scope q =>
        match gens, h with
        | [⟨ptg, piter, pifs, as⟩], h =>
          simp only [okE, Bool.and_eq_true, decide_eq_true_eq] at h
          obtain ⟨⟨⟨⟨⟨⟨⟨g1, g2⟩, g3⟩, g4⟩, g5⟩, g6⟩, g7⟩, g8⟩ := h
          subst g1
          have hi := okI_ok it ptg piter c g2
          obtain ⟨hb, hs⟩ := okC_ok own tg it cs elt c g4 g6 (fun c' => okCs_ok cs pifs c' g7) (fun c' => (okE_ok elt pelt c' g8).1)
          have := sm_compN (pos := q) c.calm (by rw [c.names]; exact c.nd) hi (by rw [c.names, c.scope]; exact g3) hb hs g5
          have e : evE G C (.newc (.comp own tg it cs elt)) = mcompN true own tg (evI G C it) (evCs G C cs) (evE G C elt) := by
            funext env S
            simp only [evE, mcompN]
            cases q0 : evI G C it env S with
            | stuck => rfl
            | exc _ _ => rfl
            | ok p S1 =>
              simp only [R.bind_ok]
              change (R.bind _ _).bind _ = _
              show ((compL (mturn own tg (evCs G C cs) (evE G C elt) env) p.1 (lockS S1 p.2)).bind _).bind _ = (compL (mturn own tg (evCs G C cs) (evE G C elt) env) p.1 (lockS S1 p.2)).bind _
              cases compL (mturn own tg (evCs G C cs) (evE G C elt) env) p.1 (lockS S1 p.2) <;> rfl
          refine SE.plain ?_ rfl
          rw [e]; exact this
        | [], h => simp [okE] at h
        | _ :: _ :: _, h => simp [okE] at h
      | _ => simp [okE] at h
    | bin o a b =>
      cases pe with
      | BinOp x p y q =>
        simp only [okE, Bool.and_eq_true, decide_eq_true_eq] at h
        obtain ⟨⟨⟨g0, g1⟩, g2⟩, g3⟩ := h
        subst g0
        cases opB_ok g1
        have e : evE G C (.newc (.bin .mul a b)) = fun env S => ((evE G C a env S).bind fun x S1 => (evE G C b env S1).bind fun y S2 => .ofO (binV .mul S2 x y) S2).bind fun v S1 => newV v S1 := by funext env S; simp only [evE] <;> rfl
        refine SE.plain ?_ rfl
        rw [e]; exact sm_mulN (okE_ok a x c g2).1 (okE_ok b y c g3).1
      | _ => simp [okE] at h
    | bi b a =>
      cases pe with
      | Call g args kws q =>
        cases g with
        | Name x p =>
          match args, kws, h with
          | [y], [], h =>
            simp only [okE, Bool.and_eq_true, decide_eq_true_eq] at h
            obtain ⟨⟨⟨⟨g0, g1⟩, g2⟩, g3⟩, g4⟩ := h
            subst g0; subst g1
            have := sm_listN (fa := fa) (pos := q) (p := p) (glB_ok c.scope g2) (c.blt _ (bi_mem .list)) (okE_ok a y c g3).1 g4
            have e : evE G C (.newc (.bi .list a)) = fun env S => (mbi .list (evE G C a) env S).bind fun v S1 => newV v S1 := by funext env S; simp only [evE] <;> rfl
            refine SE.plain ?_ rfl
            rw [e]; exact this
          | [], _, h => simp [okE] at h
          | [_], _ :: _, h => simp [okE] at h
          | _ :: _ :: _, _, h => simp [okE] at h
        | _ => simp [okE] at h
      | _ => simp [okE] at h
    | _ => cases pe <;> simp [okE] at h
theorem okEs_ok : ∀ (es : Es) {X : Cx} {sc : Scope} (pes : List Expr), Ctx X fa T G C k N sc → okEs T N sc es pes = true → SimA fa X pes (evEs G C es)
  | .nil, X, sc, [], c, h => sa_nil
  | .nil, X, sc, _ :: _, c, h => by simp [okEs] at h
  | .cons _ _, X, sc, [], c, h => by simp [okEs] at h
  | .cons e es, X, sc, p :: ps, c, h => by
    simp only [okEs, Bool.and_eq_true] at h
    exact sa_cons (okE_ok e p c h.1.1).1 (okEs_ok es ps c h.1.2) h.2
theorem okB_ok (kk : Bool) : ∀ (es : Es) {X : Cx} {sc : Scope} (pes : List Expr) {q : Pos}, Ctx X fa T G C k N sc → okEs T N sc es pes = true → isNil es = false → SimE fa X (.BoolOp (boolOf kk) pes q) (evB G C kk es) ∧ (tstsB es = true → SimW fa X (.BoolOp (boolOf kk) pes q) (tru (evB G C kk es)))
  | .nil, X, sc, pes, q, c, h, hn => by simp [isNil] at hn
  | .cons _ _, X, sc, [], q, c, h, hn => by simp [okEs] at h
  | .cons e .nil, X, sc, [p], q, c, h, hn => by
    simp only [okEs, Bool.and_eq_true] at h
    have ih := okE_ok e p c h.1.1
    exact ⟨sm_bool1 ih.1, fun ht => st_bool1 (ih.2 (by simpa [tstsB] using ht))⟩
  | .cons e .nil, X, sc, p :: p2 :: ps, q, c, h, hn => by simp [okEs] at h
  | .cons e (.cons e2 es), X, sc, [p], q, c, h, hn => by simp [okEs] at h
  | .cons e (.cons e2 es), X, sc, p :: p2 :: ps, q, c, h, hn => by
    rw [okEs, Bool.and_eq_true, Bool.and_eq_true] at h
    have ih := okE_ok e p c h.1.1
    have ih2 := okB_ok kk (.cons e2 es) (p2 :: ps) (q := q) c h.1.2 rfl
    refine ⟨sm_bools ih.1 ih2.1, fun ht => ?_⟩
    rw [tstsB, Bool.and_eq_true] at ht
    exact st_bools (ih.2 ht.1) (ih2.2 ht.2)
theorem okCs_ok : ∀ (es : Es) {X : Cx} {sc : Scope} (pes : List Expr), Ctx X fa T G C k N sc → okCs T N sc es pes = true → SimTs fa X pes (evCs G C es)
  | .nil, X, sc, [], c, h => ⟨fun W tk => ⟨fun pins s σ H Q I q => by
      obtain ⟨env, S, F, ρ, s, e, p⟩ := q
      exact pts_nil.run pins _ σ H Q I (p true F H ρ s (Ext.refl ..) rfl)⟩⟩
  | .nil, X, sc, _ :: _, c, h => by simp [okCs] at h
  | .cons _ .nil, X, sc, [], c, h => by simp [okCs] at h
  | .cons e .nil, X, sc, [p], c, h => by
    simp only [okCs, Bool.and_eq_true] at h
    exact ⟨fun W tk => pts_one (((okE_ok e p c h.1).2 h.2).run W tk)⟩
  | .cons _ .nil, X, sc, _ :: _ :: _, c, h => by simp [okCs] at h
  | .cons _ (.cons _ _), X, sc, _, c, h => by simp [okCs] at h
theorem okO_ok : ∀ (o : Oe) {X : Cx} {sc : Scope} (po : Option Expr), Ctx X fa T G C k N sc → okO T N sc o po = true → SimO fa X po (evO G C o)
  | .no, X, sc, none, c, h => so_no
  | .no, X, sc, some _, c, h => by simp [okO] at h
  | .yes _, X, sc, none, c, h => by simp [okO] at h
  | .yes e, X, sc, some p, c, h => by
    simp only [okO] at h
    exact so_yes (okE_ok e p c h).1
theorem okI_ok : ∀ (it : It) {X : Cx} {sc : Scope} (ptg p : Expr), Ctx X fa T G C k N sc → okI T N sc it ptg p = true → SimI fa X ptg p (evI G C it)
  | .over e, X, sc, ptg, p, c, h => by
    simp only [okI] at h
    exact si_over (okE_ok e p c h).1
  | .range1 e, X, sc, ptg, p, c, h => by
    cases p with
    | Call g args kws q =>
      cases g with
      | Name x p2 =>
        match args, kws, h with
        | [y], [], h =>
          simp only [okI, Bool.and_eq_true, decide_eq_true_eq] at h
          obtain ⟨⟨⟨g1, g2⟩, g3⟩, g4⟩ := h
          subst g1
          exact si_range1 (glB_ok c.scope g2) (c.blt _ (by decide +kernel)) (okE_ok e y c g3).1 g4
        | [], _, h => simp [okI] at h
        | [_], _ :: _, h => simp [okI] at h
        | _ :: _ :: _, _, h => simp [okI] at h
      | _ => simp [okI] at h
    | _ => simp [okI] at h
  | .range2 e1 e2, X, sc, ptg, p, c, h => by
    cases p with
    | Call g args kws q =>
      cases g with
      | Name x p2 =>
        match args, kws, h with
        | [y, z], [], h =>
          simp only [okI, Bool.and_eq_true, decide_eq_true_eq] at h
          obtain ⟨⟨⟨⟨⟨g1, g2⟩, g3⟩, g4⟩, g5⟩, g6⟩ := h
          subst g1
          exact si_range2 (glB_ok c.scope g2) (c.blt _ (by decide +kernel)) (okE_ok e1 y c g3).1 (okE_ok e2 z c g4).1 g5 g6
        | [], _, h => simp [okI] at h
        | [_], _, h => simp [okI] at h
        | [_, _], _ :: _, h => simp [okI] at h
        | _ :: _ :: _ :: _, _, h => simp [okI] at h
      | _ => simp [okI] at h
    | _ => simp [okI] at h
  | .enum e, X, sc, ptg, p, c, h => by
    cases ptg with
    | Tuple elts kk tp =>
      cases p with
      | Call g args kws q =>
        cases g with
        | Name x p2 =>
          match args, kws, h with
          | [y], [], h =>
            simp only [okI, Bool.and_eq_true, decide_eq_true_eq] at h
            obtain ⟨⟨⟨g1, g2⟩, g3⟩, g4⟩ := h
            subst g1
            exact si_enum (glB_ok c.scope g2) (c.blt _ (by decide +kernel)) (okE_ok e y c g3).1 g4
          | [], _, h => simp [okI] at h
          | [_], _ :: _, h => simp [okI] at h
          | _ :: _ :: _, _, h => simp [okI] at h
        | _ => simp [okI] at h
      | _ => simp [okI] at h
    | _ => simp [okI] at h
  | .zip e1 e2, X, sc, ptg, p, c, h => by
    cases ptg with
    | Tuple elts kk tp =>
      cases p with
      | Call g args kws q =>
        cases g with
        | Name x p2 =>
          match args, kws, h with
          | [y, z], [], h =>
            simp only [okI, Bool.and_eq_true, decide_eq_true_eq] at h
            obtain ⟨⟨⟨⟨⟨g1, g2⟩, g3⟩, g4⟩, g5⟩, g6⟩ := h
            subst g1
            exact si_zip (glB_ok c.scope g2) (c.blt _ (by decide +kernel)) (okE_ok e1 y c g3).1 (okE_ok e2 z c g4).1 g5 g6
          | [], _, h => simp [okI] at h
          | [_], _, h => simp [okI] at h
          | [_, _], _ :: _, h => simp [okI] at h
          | _ :: _ :: _ :: _, _, h => simp [okI] at h
        | _ => simp [okI] at h
      | _ => simp [okI] at h
    | _ => simp [okI] at h
  | .items e, X, sc, ptg, p, c, h => by
    cases ptg with
    | Tuple elts kk tp =>
      cases p with
      | Call g args kws q =>
        cases g with
        | Attribute y x ap =>
          match args, kws, h with
          | [], [], h =>
            simp only [okI, Bool.and_eq_true, decide_eq_true_eq] at h
            obtain ⟨⟨⟨g1, g2⟩, g3⟩, g4⟩ := h
            subst g1
            exact si_items (okE_ok e y c g2).1 g3 g4
          | [], _ :: _, h => simp [okI] at h
          | _ :: _, _, h => simp [okI] at h
        | _ => simp [okI] at h
      | _ => simp [okI] at h
    | _ => simp [okI] at h
end
end
end MS

-- MsHot
/-! The check's word: expressions of an except suite. -/
namespace MS
open PySem PySem.Spec PyProof.Rows L2
theorem boot_VE : bootBuiltins "ValueError" = some (.type "ValueError") := by decide +kernel
theorem hs_len {G : List D} {C : Runner} : ∀ {T : Tb} {N : List Str} {sc : Scope} {es : Es} {pes : List Expr} {env : MS.Env} {S : Sto} {vs : List Val} {S' : Sto}, okHs T N sc es pes = true → evEs G C es env S = .ok vs S' → vs.length = pes.length
  | _, _, _, .nil, [], _, _, _, _, _, h => by simp only [evEs] at h; cases h; rfl
  | _, _, _, .nil, _ :: _, _, _, _, _, h, _ => by simp [okHs] at h
  | _, _, _, .cons _ _, [], _, _, _, _, h, _ => by simp [okHs] at h
  | T, N, sc, .cons e es, p :: ps, env, S, vs, S', h, h2 => by
    simp only [okHs, Bool.and_eq_true] at h
    simp only [evEs] at h2
    cases q : evE G C e env S with
    | stuck => rw [q] at h2; cases h2
    | exc _ _ => rw [q] at h2; cases h2
    | ok v S1 =>
      rw [q, R.bind_ok] at h2
      cases q2 : evEs G C es env S1 with
      | stuck => rw [q2] at h2; cases h2
      | exc _ _ => rw [q2] at h2; cases h2
      | ok vs2 S2 =>
        rw [q2, R.bind_ok] at h2
        cases h2
        simp [hs_len h.1.2 q2]
section
variable {fa : FA} {T : Tb} {G : List D} {C : Runner} {k : Nat} {N : List Str} {X : Cx} {sc : Scope} {a : Addr} {oe : Obj} {pn : List (Addr × Obj)} {j : Nat}
theorem yesB_ok (c : Ctx X fa T G C k N sc) {yes no : List Nat} {d : Nat} (h : yesB T yes no d = true) : d ∈ T.xs ∧ (∀ i ∈ yes, i ∈ T.xs ∧ PySem.W.exmOne X.K (.ref (fa i)) (.ref (fa d)) = some true ∧ PySem.W.kitOne X.K (.ref (fa i)) (.ref (fa d)) = some true) ∧
    (∀ i ∈ no, i ∈ T.xs ∧ PySem.W.exmOne X.K (.ref (fa i)) (.ref (fa d)) = some false ∧ PySem.W.kitOne X.K (.ref (fa i)) (.ref (fa d)) = some false) := by
  unfold yesB at h
  simp only [Bool.and_eq_true, List.all_eq_true, List.contains_iff_mem] at h
  exact ⟨h.1.1, fun i hi => ⟨(h.1.2 i hi).1, c.xsb _ _ _ (h.1.2 i hi).2⟩, fun i hi => ⟨(h.2 i hi).1, c.xsb _ _ _ (h.2 i hi).2⟩⟩
mutual
theorem okH_ok (c : Ctx X fa T G C k N sc) (hj : j ∈ T.xs) (hz : Zc (.ref (fa j)) none oe) (hd : ∃ vs, oe.data = .fields vs) : ∀ (e : E) (pe : Expr), okH T N sc e pe = true → SimE (faX fa a (fa j)) (X.suite a ((a, oe) :: pn)) pe (evE G C e)
  | .var i, pe, h => by
    cases pe with
    | Name x p =>
      simp only [okH, Bool.and_eq_true] at h
      obtain ⟨p1, p2⟩ := plainN_ok h.2
      exact sm_var (X := X.suite a ((a, oe) :: pn)) (show X.N[i]? = some x by rw [c.names]; exact nameB_ok h.1.1) (show Vis X.env.scope x by rw [c.scope]; exact visB_ok h.1.2) p1 p2
    | _ => simp [okH] at h
  | .none, pe, h => by
    cases pe with
    | Constant v j p =>
      cases v with
      | none => exact sm_const pe_non .non
      | _ => simp [okH] at h
    | _ => simp [okH] at h
  | .bool b, pe, h => by
    cases pe with
    | Constant v j p =>
      cases v with
      | bool b' =>
        simp only [okH, decide_eq_true_eq] at h
        subst h
        exact sm_const pe_bl (.bl _)
      | _ => simp [okH] at h
    | _ => simp [okH] at h
  | .int b, pe, h => by
    cases pe with
    | Constant v j p =>
      cases v with
      | int b' =>
        simp only [okH, decide_eq_true_eq] at h
        subst h
        exact sm_const pe_int (.int _)
      | _ => simp [okH] at h
    | _ => simp [okH] at h
  | .str b, pe, h => by
    cases pe with
    | Constant v j p =>
      cases v with
      | str b' =>
        simp only [okH, decide_eq_true_eq] at h
        subst h
        exact sm_const pe_str (.str _)
      | _ => simp [okH] at h
    | _ => simp [okH] at h
  | .tup es, pe, h => by
    cases pe with
    | Tuple pes kk p =>
      simp only [okH, Bool.and_eq_true, decide_eq_true_eq] at h
      refine sm_tup (okHs_ok c hj hz hd es pes h.1) fun env S vs S' q => ?_
      rw [hs_len h.1 q]; exact Nat.le_trans h.2 (by decide)
    | _ => simp [okH] at h
  | .lst es, pe, h => by
    cases pe with
    | List pes p =>
      simp only [okH, Bool.and_eq_true, decide_eq_true_eq] at h
      refine sm_lst (okHs_ok c hj hz hd es pes h.1) fun env S vs S' q => ?_
      rw [hs_len h.1 q]; exact Nat.le_trans h.2 (by decide)
    | _ => simp [okH] at h
  | .bin o x y, pe, h => by
    cases pe with
    | BinOp px p py q =>
      simp only [okH, Bool.and_eq_true] at h
      cases opB_ok h.1.1
      exact sm_bin (okH_ok c hj hz hd x px h.1.2) (okH_ok c hj hz hd y py h.2)
    | _ => simp [okH] at h
  | .not x, pe, h => by
    cases pe with
    | UnaryOp p px q =>
      cases p with
      | Not =>
        simp only [okH] at h
        exact sm_not (okH_ok c hj hz hd x px h)
      | _ => simp [okH] at h
    | _ => simp [okH] at h
  | .cmp o x y, pe, h => by
    cases pe with
    | Compare px ps ys q =>
      match ps, ys, h with
      | [p], [py], h =>
        simp only [okH, Bool.and_eq_true] at h
        cases cmpB_ok h.1.1.1
        exact sm_cmp (okH_ok c hj hz hd x px h.1.1.2) (okH_ok c hj hz hd y py h.1.2) (show X.A.units + 65 < cLine from c.units) h.2
      | [], _, h => simp [okH] at h
      | [_], [], h => simp [okH] at h
      | [_], _ :: _ :: _, h => simp [okH] at h
      | _ :: _ :: _, _, h => simp [okH] at h
    | _ => simp [okH] at h
  | .ife cc x y, pe, h => by
    cases pe with
    | IfExp pc px py q =>
      simp only [okH, Bool.and_eq_true] at h
      obtain ⟨⟨⟨g1, g2⟩, g3⟩, g4⟩ := h
      exact sm_ife (okHt_ok c hj hz hd cc pc g1 g2) (okH_ok c hj hz hd x px g3) (okH_ok c hj hz hd y py g4)
    | _ => simp [okH] at h
  | .ix x i, pe, h => by
    cases pe with
    | Subscript px py q =>
      simp only [okH, Bool.and_eq_true] at h
      exact sm_ix (okH_ok c hj hz hd x px h.1.1) (okH_ok c hj hz hd i py h.1.2) h.2
    | _ => simp [okH] at h
  | .isx i yes no d, pe, h => by
    cases pe with
    | Call g args kws q =>
      cases g with
      | Name f p =>
        match args, kws, h with
        | [y, z], [], h =>
          cases y with
          | Name n p1 =>
            cases z with
            | Name x p2 =>
              simp only [okH, Bool.and_eq_true, decide_eq_true_eq] at h
              obtain ⟨⟨⟨⟨⟨⟨⟨g1, g2⟩, g3⟩, g4⟩, g5⟩, g6⟩, g7⟩, g8⟩ := h
              subst g1
              obtain ⟨n1, n2⟩ := plainN_ok g5
              have hx := (c.xcl j hj).2.2.1.is
              have gx : Gl (X.suite a ((a, oe) :: pn)) x := glB_ok (X := X.suite a ((a, oe) :: pn)) c.scope g6
              cases d with
              | none =>
                simp only [isxB, Bool.and_eq_true, decide_eq_true_eq] at g8
                obtain ⟨⟨e1, e2⟩, e3⟩ := g8
                subst e1
                refine sm_isx (cv := .ty "ValueError") (u := .type "ValueError") hx hz hd (glB_ok c.scope g2) (c.blt _ (by decide +kernel)) (by rw [c.names]; exact nameB_ok g3) (by rw [c.scope]; exact visB_ok g4) n1 n2 (pe_bltn gx (c.blt _ (by decide +kernel)) boot_VE rfl (by decide) (by decide)) (fun w hw => hw) (fun i hi => ?_) (fun i hi => ?_)
                · have := List.all_eq_true.mp e2 i hi
                  exact (c.xcl i (by simpa using this)).2.2.2
                · cases no with
                  | nil => cases hi
                  | cons _ _ => simp at e3
              | some d =>
                simp only [isxB, Bool.and_eq_true, decide_eq_true_eq] at g8
                obtain ⟨e1, e2⟩ := g8
                subst e1
                obtain ⟨y0, y1, y2⟩ := yesB_ok c e2
                exact sm_isx (cv := .ref (fa d)) (u := .ref (fa d)) hx hz hd (glB_ok c.scope g2) (c.blt _ (by decide +kernel)) (by rw [c.names]; exact nameB_ok g3) (by rw [c.scope]; exact visB_ok g4) n1 n2 (pe_glob gx (c.xcl d y0).2.1 rfl (plainN_ok g7).1) (fun w hw => hw) (fun i hi => (y1 i hi).2.2) (fun i hi => (y2 i hi).2.2)
            | _ => simp [okH] at h
          | _ => cases z <;> simp [okH] at h
        | [], _, h => simp [okH] at h
        | [_], _, h => simp [okH] at h
        | [y, z], _ :: _, h => cases y <;> cases z <;> simp [okH] at h
        | _ :: _ :: _ :: _, _, h => simp [okH] at h
      | _ => simp [okH] at h
    | _ => simp [okH] at h
  | .glob _, pe, h => by simp [okH] at h
  | .lstN _, pe, h => by simp [okH] at h
  | .neg _, pe, h => by simp [okH] at h
  | .bools _ _, pe, h => by simp [okH] at h
  | .chain _ _ _ _ _, pe, h => by simp [okH] at h
  | .sl _ _ _, pe, h => by simp [okH] at h
  | .call _ _, pe, h => by simp [okH] at h
  | .bi _ _, pe, h => by simp [okH] at h
  | .isi _ _, pe, h => by simp [okH] at h
  | .lenSet _, pe, h => by simp [okH] at h
  | .xop _ _ _, pe, h => by simp [okH] at h
  | .dictOf _, pe, h => by simp [okH] at h
  | .dict1 _ _, pe, h => by simp [okH] at h
  | .dict0, pe, h => by simp [okH] at h
  | .comp _ _ _ _ _, pe, h => by simp [okH] at h
  | .fz _, pe, h => by simp [okH] at h
  | .callP _ _, pe, h => by simp [okH] at h
  | .mm _ _ _, pe, h => by simp [okH] at h
  | .srt _ _ _, pe, h => by simp [okH] at h
  | .dctN, pe, h => by simp [okH] at h
  | .newc _, pe, h => by simp [okH] at h
  | .rev _, pe, h => by simp [okH] at h
  | .srtP _, pe, h => by simp [okH] at h
  | .callL _ _ _, pe, h => by simp [okH] at h
  | .dget _ _, pe, h => by simp [okH] at h
  | .dgetZ _ _ _, pe, h => by simp [okH] at h
  | .din _ _ _, pe, h => by simp [okH] at h
  | .dlen _, pe, h => by simp [okH] at h
  | .dcpy _, pe, h => by simp [okH] at h
  | .getI _ _ _, pe, h => by simp [okH] at h
  | .dict2 _ _ _ _, pe, h => by simp [okH] at h
theorem okHt_ok (c : Ctx X fa T G C k N sc) (hj : j ∈ T.xs) (hz : Zc (.ref (fa j)) none oe) (hd : ∃ vs, oe.data = .fields vs) : ∀ (e : E) (pe : Expr), okH T N sc e pe = true → isCmp e = true → SimT (faX fa a (fa j)) (X.suite a ((a, oe) :: pn)) pe (tru (evE G C e))
  | .cmp o x y, pe, h, _ => by
    cases pe with
    | Compare px ps ys q =>
      match ps, ys, h with
      | [p], [py], h =>
        simp only [okH, Bool.and_eq_true] at h
        cases cmpB_ok h.1.1.1
        exact st_cmp (okH_ok c hj hz hd x px h.1.1.2) (okH_ok c hj hz hd y py h.1.2) (show X.A.units + 65 < cLine from c.units) h.2
      | [], _, h => simp [okH] at h
      | [_], [], h => simp [okH] at h
      | [_], _ :: _ :: _, h => simp [okH] at h
      | _ :: _ :: _, _, h => simp [okH] at h
    | _ => simp [okH] at h
  | .var _, _, _, h => by simp [isCmp] at h
  | .none, _, _, h => by simp [isCmp] at h
  | .bool _, _, _, h => by simp [isCmp] at h
  | .int _, _, _, h => by simp [isCmp] at h
  | .str _, _, _, h => by simp [isCmp] at h
  | .tup _, _, _, h => by simp [isCmp] at h
  | .lst _, _, _, h => by simp [isCmp] at h
  | .bin _ _ _, _, _, h => by simp [isCmp] at h
  | .not _, _, _, h => by simp [isCmp] at h
  | .ife _ _ _, _, _, h => by simp [isCmp] at h
  | .ix _ _, _, _, h => by simp [isCmp] at h
  | .isx _ _ _ _, _, _, h => by simp [isCmp] at h
  | .glob _, _, _, h => by simp [isCmp] at h
  | .lstN _, _, _, h => by simp [isCmp] at h
  | .neg _, _, _, h => by simp [isCmp] at h
  | .bools _ _, _, _, h => by simp [isCmp] at h
  | .chain _ _ _ _ _, _, _, h => by simp [isCmp] at h
  | .sl _ _ _, _, _, h => by simp [isCmp] at h
  | .call _ _, _, _, h => by simp [isCmp] at h
  | .bi _ _, _, _, h => by simp [isCmp] at h
  | .isi _ _, _, _, h => by simp [isCmp] at h
  | .lenSet _, _, _, h => by simp [isCmp] at h
  | .xop _ _ _, _, _, h => by simp [isCmp] at h
  | .dictOf _, _, _, h => by simp [isCmp] at h
  | .dict1 _ _, _, _, h => by simp [isCmp] at h
  | .dict0, _, _, h => by simp [isCmp] at h
  | .comp _ _ _ _ _, _, _, h => by simp [isCmp] at h
  | .fz _, _, _, h => by simp [isCmp] at h
  | .callP _ _, _, _, h => by simp [isCmp] at h
  | .mm _ _ _, _, _, h => by simp [isCmp] at h
  | .srt _ _ _, _, _, h => by simp [isCmp] at h
  | .dctN, _, _, h => by simp [isCmp] at h
  | .newc _, _, _, h => by simp [isCmp] at h
  | .rev _, _, _, h => by simp [isCmp] at h
  | .srtP _, _, _, h => by simp [isCmp] at h
  | .callL _ _ _, _, _, h => by simp [isCmp] at h
  | .dget _ _, _, _, h => by simp [isCmp] at h
  | .dgetZ _ _ _, _, _, h => by simp [isCmp] at h
  | .din _ _ _, _, _, h => by simp [isCmp] at h
  | .dlen _, _, _, h => by simp [isCmp] at h
  | .dcpy _, _, _, h => by simp [isCmp] at h
  | .getI _ _ _, _, _, h => by simp [isCmp] at h
  | .dict2 _ _ _ _, _, _, h => by simp [isCmp] at h
theorem okHs_ok (c : Ctx X fa T G C k N sc) (hj : j ∈ T.xs) (hz : Zc (.ref (fa j)) none oe) (hd : ∃ vs, oe.data = .fields vs) : ∀ (es : Es) (pes : List Expr), okHs T N sc es pes = true → SimA (faX fa a (fa j)) (X.suite a ((a, oe) :: pn)) pes (evEs G C es)
  | .nil, [], h => sa_nil
  | .nil, _ :: _, h => by simp [okHs] at h
  | .cons _ _, [], h => by simp [okHs] at h
  | .cons e es, p :: ps, h => by
    simp only [okHs, Bool.and_eq_true] at h
    exact sa_cons (okH_ok c hj hz hd e p h.1.1) (okHs_ok c hj hz hd es ps h.1.2) h.2
end
end
end MS

-- MsChkS
/-! The check's word: statements. -/
namespace MS
open PySem PySem.Spec PyProof.Rows L2

/-- how a, b = x, y is stored: none: unsupported; some none: by a tuple; some (some names): swapped -/
def swS (sc : Scope) (ts vs : List Expr) : Option (Option (List Str)) :=
  if !(ts.length == 2 || ts.length == 3) || vs.length != ts.length then some none
  else if vs.any (fun | .Starred .. => true | _ => false) then some none
  else
    let line := (ts.head?.map (·.pos.line)).getD 0
    let names := ts.filterMap fun
      | .Name id pos => if sc.names.lookup id == some .local && pos.line == line then some id else none
      | _ => none
    if names.length != ts.length || names.eraseDups.length != names.length then some none
    else if vs.all (foldedForSure 8) then some none
    else if vs.all (constantsAlone 8) then none
    else some (some names)
theorem swS_ok {env : PySem.Env} {sc : Scope} {ts vs : List Expr} {kt k2 : Nat} {pt p2 : Pos} {r : Option (List Str)} (hs : env.scope = sc) (hk : sc.kind = .function) (h : swS sc ts vs = some r) :
    swappedStores [.Tuple ts kt pt] (.Tuple vs k2 p2) env = pure r := by
  have hb : env.blockKind = .function := by unfold Env.blockKind; rw [hs, hk]; rfl
  have hkind : ∀ id, env.kindOf id = sc.names.lookup id := fun id => by rw [← hs]; rfl
  unfold swS at h
  unfold swappedStores
  simp only [hb, hkind]
  have hf : (ScopeKind.function != ScopeKind.function) = false := rfl
  simp only [hf, Bool.or_false]
  by_cases c1 : (!(ts.length == 2 || ts.length == 3) || vs.length != ts.length) = true
  · rw [if_pos c1] at h ⊢
    cases h; rfl
  · rw [if_neg c1] at h ⊢
    split at h
    · rename_i c2
      cases h; exact if_pos c2
    · rename_i c2
      refine (if_neg c2).trans ?_
      dsimp only at h ⊢
      split at h
      · rename_i c3
        cases h; exact if_pos c3
      · rename_i c3
        refine (if_neg c3).trans ?_
        split at h
        · rename_i c4
          cases h; exact if_pos c4
        · rename_i c4
          refine (if_neg c4).trans ?_
          split at h
          · cases h
          · rename_i c5
            cases h; exact if_neg c5
def isTuple : Expr → Bool
  | .Tuple _ _ _ => true
  | _ => false
theorem swNone {tgs : List Expr} {pe : Expr} {env : PySem.Env} (h : isTuple pe = false) : swappedStores tgs pe env = pure none := by
  unfold swappedStores
  split
  · rename_i heq
    exfalso
    revert heq
    split <;> intro heq
    · simp [isTuple] at h
    · simp [isTuple] at h
    · cases heq
  · rfl

theorem swSub {o i pe : Expr} {p : Pos} {env : PySem.Env} : swappedStores [.Subscript o i p] pe env = pure none := by
  unfold swappedStores
  split
  · rename_i heq
    exfalso
    revert heq
    split <;> intro heq
    · rename_i h2; cases h2
    · rename_i h2; cases h2
    · cases heq
  · rfl
def localB (sc : Scope) (x : Str) : Bool := match sc.names.lookup x with
  | some .local => true
  | _ => false
theorem localB_ok {sc : Scope} {x : Str} (h : localB sc x = true) : sc.names.lookup x = some .local := by
  unfold localB at h
  split at h
  · assumption
  · cases h
theorem sw_false {pe : Expr} {x : Str} {p : Pos} {l : Nat} {env : PySem.Env} {sc : Scope} (hs : env.scope = sc) (h : (noComp pe || !localB sc x) = true) : swapsWith pe (some (.Name x p)) l env = pure false := by
  rcases (Bool.or_eq_true _ _).mp h with h | h
  · exact noComp_ok h _ _ _
  · have hk : (env.kindOf x == some .local) = false := by
      have e : env.kindOf x = sc.names.lookup x := by rw [← hs]; rfl
      rw [e]
      unfold localB at h
      split at h
      · cases h
      · rename_i q
        cases z : sc.names.lookup x with
        | none => rfl
        | some k => cases k <;> first | rfl | exact absurd z q
    unfold swapsWith
    cases pe <;> first | rfl | (dsimp only; simp [hk])
/-- plain names as targets -/
def namesB (N : List Str) (sc : Scope) : List Nat → List Expr → Bool
  | [], [] => true
  | i :: is, .Name x _ :: es => nameB N i x && locB sc (fun _ => true) x && namesB N sc is es
  | _, _ => false
def parB (N : List Str) (sc : Scope) (ts : List Nat) (tes pes : List Expr) : Bool := match ts, tes, pes with
  | [i, j], [.Name x _, .Name y _], [_, _] => nameB N i x && nameB N j y && decide (i ≠ j) && localB sc x && localB sc y && decide (swS sc tes pes = some (some [x, y]))
  | [i, j, l], [.Name x _, .Name y _, .Name z _], [_, _, _] => nameB N i x && nameB N j y && nameB N l z && decide (i ≠ j) && decide (i ≠ l) && decide (j ≠ l) && localB sc x && localB sc y && localB sc z && decide (swS sc tes pes = some (some [x, y, z]))
  | _, _, _ => false
def asgB (f : Expr → Expr → Bool) : Stmt → Bool
  | .Assign [t] pe _ => f t pe
  | _ => false
theorem asgB_ok {f : Expr → Expr → Bool} {st : Stmt} (h : asgB f st = true) : ∃ t pe q, st = .Assign [t] pe q ∧ f t pe = true := by
  unfold asgB at h
  split at h
  · exact ⟨_, _, _, rfl, h⟩
  · cases h
def nameT (f : Str → Pos → Bool) : Expr → Bool
  | .Name x p => f x p
  | _ => false
theorem nameT_ok {f : Str → Pos → Bool} {t : Expr} (h : nameT f t = true) : ∃ x p, t = .Name x p ∧ f x p = true := by
  unfold nameT at h
  split at h
  · exact ⟨_, _, rfl, h⟩
  · cases h
def tupT (f : List Expr → Bool) : Expr → Bool
  | .Tuple es _ _ => f es
  | _ => false
theorem tupT_ok {f : List Expr → Bool} {t : Expr} (h : tupT f t = true) : ∃ es k p, t = .Tuple es k p ∧ f es = true := by
  unfold tupT at h
  split at h
  · exact ⟨_, _, _, rfl, h⟩
  · cases h
def subT (f : Expr → Expr → Bool) : Expr → Bool
  | .Subscript a b _ => f a b
  | _ => false
theorem subT_ok {f : Expr → Expr → Bool} {t : Expr} (h : subT f t = true) : ∃ a b p, t = .Subscript a b p ∧ f a b = true := by
  unfold subT at h
  split at h
  · exact ⟨_, _, _, rfl, h⟩
  · cases h
def lcT (f : Expr → Expr → Expr → List Expr → Int → Scope → Pos → Bool) : Expr → Bool
  | .ListComp pelt [⟨ptg, piter, pifs, as⟩] scope pos => f pelt ptg piter pifs as scope pos
  | _ => false
theorem lcT_ok {f : Expr → Expr → Expr → List Expr → Int → Scope → Pos → Bool} {t : Expr} (h : lcT f t = true) : ∃ pelt ptg piter pifs as scope pos, t = .ListComp pelt [⟨ptg, piter, pifs, as⟩] scope pos ∧ f pelt ptg piter pifs as scope pos = true := by
  unfold lcT at h
  split at h
  · exact ⟨_, _, _, _, _, _, _, rfl, h⟩
  · cases h
def exprB (f : Expr → Bool) : Stmt → Bool
  | .Expr pe _ => f pe
  | _ => false
theorem exprB_ok {f : Expr → Bool} {st : Stmt} (h : exprB f st = true) : ∃ pe q, st = .Expr pe q ∧ f pe = true := by
  unfold exprB at h
  split at h
  · exact ⟨_, _, rfl, h⟩
  · cases h
def methB (f : Expr → Str → Pos → Expr → Pos → Bool) : Expr → Bool
  | .Call (.Attribute pa x apos) [pb] [] cpos => f pa x apos pb cpos
  | _ => false
theorem methB_ok {f : Expr → Str → Pos → Expr → Pos → Bool} {t : Expr} (h : methB f t = true) : ∃ pa x apos pb cpos, t = .Call (.Attribute pa x apos) [pb] [] cpos ∧ f pa x apos pb cpos = true := by
  unfold methB at h
  split at h
  · exact ⟨_, _, _, _, _, rfl, h⟩
  · cases h
def okComp (T : Tb) (N : List Str) (sc : Scope) (own : List Nat) (tg : Tg) (it : It) (cs : Es) (elt : E) (pelt ptg piter : Expr) (pifs : List Expr) (as : Int) (scope : Scope) : Bool :=
  decide (as = 0) && okI T N sc it ptg piter && blkC N sc scope (ownN N own) && (tg.slots.all fun i => own.contains i) && noSet piter &&
      okTg N (relS scope sc) (fun x => scope.names.lookup x == some .cell) tg ptg && okCs T N (relS scope sc) cs pifs && okE T N (relS scope sc) elt pelt
def okSetc (T : Tb) (N : List Str) (sc : Scope) (i : Nat) : E → Stmt → Bool
  | .comp own tg it cs elt, st => asgB (fun t pe => nameT (fun y py => lcT (fun pelt ptg piter pifs as scope pos => nameB N i y && localB sc y && (py.line == pos.line) && !(scope.names.any fun (n, k) => n == y && (k == .local || k == .cell)) && okComp T N sc own tg it cs elt pelt ptg piter pifs as scope) pe) t) st
  | _, _ => false
mutual
/-- statements of an except suite -/
def okHS (T : Tb) (N : List Str) (sc : Scope) : MS.St → Stmt → Bool
  | .set i e, st => asgB (fun t pe => nameT (fun x _ => nameB N i x && locB sc (fun _ => true) x && okH T N sc e pe && (noComp pe || !localB sc x)) t) st
  | .ifs c t f, .If pc pt pf _ => okH T N sc c pc && isCmp c && okHSs T N sc t pt && okHSs T N sc f pf
  | .ret e, .Return (some pe) _ => okH T N sc e pe
  | .pass, .Pass _ => true
  | _, _ => false
def okHSs (T : Tb) (N : List Str) (sc : Scope) : Sts → List Stmt → Bool
  | .nil, [] => true
  | .cons s ss, p :: ps => okHS T N sc s p && okHSs T N sc ss ps
  | _, _ => false
end
def raiB (f : Str → Str → Bool) : Stmt → Bool
  | .Raise (some (.Call (.Name x _) [.Constant (.str s) _ _] [] _)) none _ => f x s
  | _ => false
theorem raiB_ok {f : Str → Str → Bool} {st : Stmt} (h : raiB f st = true) : ∃ x p s j p2 cp q, st = .Raise (some (.Call (.Name x p) [.Constant (.str s) j p2] [] cp)) none q ∧ f x s = true := by
  unfold raiB at h
  split at h
  · exact ⟨_, _, _, _, _, _, _, rfl, h⟩
  · cases h
def triB (f : List Stmt → Str → Str → List Stmt → Bool) : Stmt → Bool
  | .Try body [.ExceptHandler (some (.Name x _)) (some n) (b₀ :: suite) _] [] [] _ => f body x n (b₀ :: suite)
  | _ => false
theorem triB_ok {f : List Stmt → Str → Str → List Stmt → Bool} {st : Stmt} (h : triB f st = true) : ∃ body x np n b₀ suite pos' pos, st = .Try body [.ExceptHandler (some (.Name x np)) (some n) (b₀ :: suite) pos'] [] [] pos ∧ f body x n (b₀ :: suite) = true := by
  unfold triB at h
  split at h
  · exact ⟨_, _, _, _, _, _, _, _, rfl, h⟩
  · cases h
def two2 (f : Expr → Expr → Bool) : List Expr → Bool
  | [a, b] => f a b
  | _ => false
theorem two2_ok {f : Expr → Expr → Bool} {es : List Expr} (h : two2 f es = true) : ∃ a b, es = [a, b] ∧ f a b = true := by
  unfold two2 at h
  split at h
  · exact ⟨_, _, rfl, h⟩
  · cases h
theorem swTwo {o i o2 i2 : Expr} {vs : List Expr} {k k2 : Nat} {p p1 p2 p3 : Pos} {env : PySem.Env} : swappedStores [.Tuple [.Subscript o i p, .Subscript o2 i2 p1] k p2] (.Tuple vs k2 p3) env = pure none := by
  unfold swappedStores
  simp
mutual
def okS (T : Tb) (N : List Str) (sc : Scope) : MS.St → Stmt → Bool
  | .set i e, st => asgB (fun t pe => nameT (fun x _ => nameB N i x && locB sc (fun _ => true) x && okE T N sc e pe && (noComp pe || !localB sc x)) t) st
  | .setc i e, st => okSetc T N sc i e st
  | .unp ts e, st => asgB (fun t pe => tupT (fun es => okTgs N sc (fun _ => true) ts es && okE T N sc e pe && noComp pe && !isTuple pe) t) st
  | .par ts es, st => asgB (fun t pe => tupT (fun tes => tupT (fun pes => okEs T N sc es pes && (parB N sc ts tes pes || (decide (swS sc tes pes = some none) && namesB N sc ts tes && decide (ts.length ≤ 1000)))) pe) t) st
  | .setix a i e, st => asgB (fun t pe => subT (fun pa pi => okE T N sc a pa && okE T N sc i pi && okE T N sc e pe && noComp pe && noSlice pi) t) st
  | .setd a i e, st => asgB (fun t pe => subT (fun pa pi => okE T N sc a pa && okE T N sc i pi && okE T N sc e pe && noComp pe && noSlice pi) t) st
  | .setk a ks e, st => asgB (fun t pe => subT (fun pa pi => tupT (fun pes => okE T N sc a pa && okEs T N sc ks pes && okE T N sc e pe && noComp pe) pi) t) st
  | .st2 a i b j es, st => asgB (fun t pe => tupT (fun tes => tupT (fun pes => two2 (fun t1 t2 => subT (fun pa pi => subT (fun pb pj => okE T N sc a pa && okE T N sc i pi && okE T N sc b pb && okE T N sc j pj && noSlice pi && noSlice pj && okEs T N sc es pes) t2) t1) tes) pe) t) st
  | .expr e, st => exprB (fun pe => okE T N sc e pe && noComp pe) st
  | .app a e, st => exprB (fun pe => methB (fun pa x apos pb cpos => decide (x = "append") && okE T N sc a pa && okE T N sc e pb && notCall0 pa && noStar pb && (apos.endLine == cpos.line)) pe) st
  | .ext a e, st => exprB (fun pe => methB (fun pa x apos pb cpos => decide (x = "extend") && okE T N sc a pa && okE T N sc e pb && notCall0 pa && noStar pb && (apos.endLine == cpos.line)) pe) st
  | .ifs c t f, .If pc pt pf _ => okE T N sc c pc && tstB c && okSs T N sc t pt && okSs T N sc f pf
  | .fors tg it b, .For ptg piter pb [] _ => okI T N sc it ptg piter && okTg N sc (fun _ => true) tg ptg && okSs T N sc b pb && noSet piter
  | .whil _ c b, .While pc pb [] _ => okE T N sc c pc && tstB c && okSs T N sc b pb
  | .ret e, .Return (some pe) _ => okE T N sc e pe
  | .pass, .Pass _ => true
  | .brk, .Break _ => true
  | .cnt, .Continue _ => true
  | .never, _ => true
  | .raise c m, st => raiB (fun x s => decide (x = T.nm c) && T.xs.contains c && glB sc x && plainN x && decide (s = m)) st
  | .tri b i yes no d h, st => triB (fun body x n su => okSs T N sc b body && nameB N i n && localB sc n && decide (x = T.nm d) && glB sc x && plainN x && yesB T yes no d && okHSs T N sc h su) st
  | _, _ => false
def okSs (T : Tb) (N : List Str) (sc : Scope) : Sts → List Stmt → Bool
  | .nil, [] => true
  | .cons s ss, p :: ps => okS T N sc s p && okSs T N sc ss ps
  | _, _ => false
end
section
variable {fa : FA} {T : Tb} {G : List D} {C : Runner} {k : Nat} {N : List Str} {X : Cx} {sc : Scope}
theorem namesB_ok (c : Ctx X fa T G C k N sc) (hf : X.fn = fun _ => true) : ∀ {ts : List Nat} {es : List Expr}, namesB N sc ts es = true → PGs X es (rdNs X.K fa ts) ∧ es.all noStar = true ∧ es.length = ts.length
  | [], [], _ => ⟨sn_nil, rfl, rfl⟩
  | [], _ :: _, h => by simp [namesB] at h
  | _ :: _, [], h => by simp [namesB] at h
  | i :: is, e :: es, h => by
    cases e with
    | Name x p =>
      simp only [namesB, Bool.and_eq_true] at h
      obtain ⟨h1, h2, h3⟩ := namesB_ok c hf h.2
      obtain ⟨l1, l2⟩ := locB_ok h.1.2
      exact ⟨sn_cons (by rw [c.names]; exact c.nd) (by rw [c.names]; exact nameB_ok h.1.1) (by rw [c.scope]; exact l1) (by rw [hf, c.scope]; exact l2) h1, by rw [List.all_cons, h2]; rfl, by simp [h3]⟩
    | _ => simp [namesB] at h
theorem parB_ok (c : Ctx X fa T G C k N sc) (hk : sc.kind = .function) {ts : List Nat} {tes pes : List Expr} {ms : M (List Val)} {kt k2 : Nat} {pt p2 pos : Pos} (h : parB N sc ts tes pes = true) (ha : SimA fa X pes ms) : SimS fa X (.Assign [.Tuple tes kt pt] (.Tuple pes k2 p2) pos) (mpar ts ms) := by
  unfold parB at h
  split at h
  · simp only [Bool.and_eq_true, decide_eq_true_eq] at h
    obtain ⟨⟨⟨⟨⟨g1, g2⟩, g3⟩, g4⟩, g5⟩, g6⟩ := h
    exact ss_par2 c.calm (by rw [c.names]; exact c.nd) (by rw [c.names]; exact nameB_ok g1) (by rw [c.names]; exact nameB_ok g2) g3 (by rw [c.scope]; exact localB_ok g4) (by rw [c.scope]; exact localB_ok g5) ha (swS_ok c.scope hk g6)
  · simp only [Bool.and_eq_true, decide_eq_true_eq] at h
    obtain ⟨⟨⟨⟨⟨⟨⟨⟨⟨g1, g2⟩, g3⟩, g4⟩, g5⟩, g6⟩, g7⟩, g8⟩, g9⟩, g10⟩ := h
    exact ss_par3 c.calm (by rw [c.names]; exact c.nd) (by rw [c.names]; exact nameB_ok g1) (by rw [c.names]; exact nameB_ok g2) (by rw [c.names]; exact nameB_ok g3) g4 g5 g6 (by rw [c.scope]; exact localB_ok g7) (by rw [c.scope]; exact localB_ok g8) (by rw [c.scope]; exact localB_ok g9) ha (swS_ok c.scope hk g10)
  · cases h
section
variable {a : Addr} {oe : Obj} {pn : List (Addr × Obj)} {j : Nat}
mutual
theorem okHS_ok (c : Ctx X fa T G C k N sc) (hf : X.fn = fun _ => true) (hj : j ∈ T.xs) (hz : Zc (.ref (fa j)) none oe) (hd : ∃ vs, oe.data = .fields vs) : ∀ (s : MS.St) (ps : Stmt), okHS T N sc s ps = true → SimS (faX fa a (fa j)) (X.suite a ((a, oe) :: pn)) ps (exS G C s)
  | .set i e, ps, h => by
    simp only [okHS] at h
    obtain ⟨t, pe, q, rfl, h91⟩ := asgB_ok h
    obtain ⟨x, p, rfl, h92⟩ := nameT_ok h91
    simp only [Bool.and_eq_true] at h92
    obtain ⟨⟨⟨g1, g2⟩, g3⟩, g4⟩ := h92
    obtain ⟨l1, l2⟩ := locB_ok g2
    exact ss_set (X := X.suite a ((a, oe) :: pn)) (show X.N.Nodup by rw [c.names]; exact c.nd) (show X.N[i]? = some x by rw [c.names]; exact nameB_ok g1) (show Loc X.env.scope x by rw [c.scope]; exact l1) (show X.fn x = true ∨ X.env.scope.names.lookup x = some .local by rw [hf, c.scope]; exact l2) (okH_ok c hj hz hd e pe g3) (sw_false (env := X.env) c.scope g4)
  | .ifs cc t f, ps, h => by
    cases ps with
    | If pc pt pf q =>
      simp only [okHS, Bool.and_eq_true] at h
      obtain ⟨⟨⟨g1, g2⟩, g3⟩, g4⟩ := h
      exact ss_if (okHt_ok c hj hz hd cc pc g1 g2) (okHSs_ok c hf hj hz hd t pt g3) (okHSs_ok c hf hj hz hd f pf g4)
    | _ => simp [okHS] at h
  | .ret e, ps, h => by
    cases ps with
    | Return pe q =>
      cases pe with
      | none => simp [okHS] at h
      | some pe =>
        simp only [okHS] at h
        exact ss_ret (okH_ok c hj hz hd e pe h)
    | _ => simp [okHS] at h
  | .pass, ps, h => by
    cases ps with
    | Pass q => exact ss_pass
    | _ => simp [okHS] at h
  | .setc _ _, ps, h => by simp [okHS] at h
  | .unp _ _, ps, h => by simp [okHS] at h
  | .par _ _, ps, h => by simp [okHS] at h
  | .setix _ _ _, ps, h => by simp [okHS] at h
  | .setd _ _ _, ps, h => by simp [okHS] at h
  | .setk _ _ _, ps, h => by simp [okHS] at h
  | .st2 _ _ _ _ _, ps, h => by simp [okHS] at h
  | .expr _, ps, h => by simp [okHS] at h
  | .app _ _, ps, h => by simp [okHS] at h
  | .ext _ _, ps, h => by simp [okHS] at h
  | .fors _ _ _, ps, h => by simp [okHS] at h
  | .whil _ _ _, ps, h => by simp [okHS] at h
  | .brk, ps, h => by simp [okHS] at h
  | .cnt, ps, h => by simp [okHS] at h
  | .never, ps, h => by simp [okHS] at h
  | .raise _ _, ps, h => by simp [okHS] at h
  | .tri _ _ _ _ _ _, ps, h => by simp [okHS] at h
theorem okHSs_ok (c : Ctx X fa T G C k N sc) (hf : X.fn = fun _ => true) (hj : j ∈ T.xs) (hz : Zc (.ref (fa j)) none oe) (hd : ∃ vs, oe.data = .fields vs) : ∀ (s : Sts) (ps : List Stmt), okHSs T N sc s ps = true → SimSs (faX fa a (fa j)) (X.suite a ((a, oe) :: pn)) ps (exSs G C s)
  | .nil, [], _ => sss_nil
  | .nil, _ :: _, h => by simp [okHSs] at h
  | .cons _ _, [], h => by simp [okHSs] at h
  | .cons s ss, p :: ps, h => by
    simp only [okHSs, Bool.and_eq_true] at h
    exact sss_cons (okHS_ok c hf hj hz hd s p h.1) (okHSs_ok c hf hj hz hd ss ps h.2)
end
end
theorem Ctx.tr (c : Ctx X fa T G C k N sc) (pn : List (Addr × Obj)) (xe : Value → Shared → Prop) : Ctx (X.tr pn xe) fa T G C k N sc :=
  ⟨c.scope, c.names, c.nd, c.calm, c.room, c.grd, ⟨c.lib.mg, c.lib.kp, c.lib.fn⟩, c.cst, c.blt, c.xcl, c.xsb⟩
/-- where a def's own statements stand -/
structure Own (X : Cx) : Prop where
  fn : X.fn = fun _ => true
  stk : X.stack = X.env :: X.outer
  frm : X.env.frame = some X.env.locals
theorem setTg_tup (ts : Tgs) (v : Val) (env : MS.Env) : (match setTg (.tup ts) v env with | some env1 => RS.nx env1 = RS.nx env1 | none => True) := by split <;> trivial
mutual
theorem okS_ok {X : Cx} (c : Ctx X fa T G C k N sc) (ow : Own X) (hk : sc.kind = .function) (hp : PassesOwn (model X.prog X.w) X.A X.env X.xe) : ∀ (s : MS.St) (ps : Stmt), okS T N sc s ps = true → SimS fa X ps (exS G C s)
  | .set i e, ps, h => by
    simp only [okS] at h
    obtain ⟨t, pe, q, rfl, h91⟩ := asgB_ok h
    obtain ⟨x, p, rfl, h92⟩ := nameT_ok h91
    simp only [Bool.and_eq_true] at h92
    obtain ⟨⟨⟨g1, g2⟩, g3⟩, g4⟩ := h92
    obtain ⟨l1, l2⟩ := locB_ok g2
    exact ss_set (by rw [c.names]; exact c.nd) (by rw [c.names]; exact nameB_ok g1) (by rw [c.scope]; exact l1) (by rw [ow.fn, c.scope]; exact l2) (okE_ok e pe c g3).1 (sw_false c.scope g4)
  | .setc i e, ps, h => by
    simp only [okS] at h
    cases e with
    | comp own tg it cs elt =>
      simp only [okSetc] at h
      obtain ⟨t, pe, q, rfl, h91⟩ := asgB_ok h
      obtain ⟨y, py, rfl, h92⟩ := nameT_ok h91
      obtain ⟨pelt, ptg, piter, pifs, as, scope, pos, rfl, h93⟩ := lcT_ok h92
      simp only [okComp, Bool.and_eq_true, decide_eq_true_eq, Bool.not_eq_true'] at h93
      obtain ⟨⟨⟨⟨f1, f2⟩, f3⟩, f4⟩, ⟨⟨⟨⟨⟨⟨g1, g2⟩, g3⟩, g4⟩, g5⟩, g6⟩, g7⟩, g8⟩ := h93
      subst g1
      have hi := okI_ok it ptg piter c g2
      obtain ⟨hb, hs⟩ := okC_ok own tg it cs elt c g4 g6 (fun c' => okCs_ok cs pifs c' g7) (fun c' => (okE_ok elt pelt c' g8).1)
      exact ss_setc c.calm (by rw [c.names]; exact c.nd) (by rw [c.names]; exact nameB_ok f1) (by rw [c.scope]; exact localB_ok f2) (by rw [c.scope]; exact hk) f3 f4 hi (by rw [c.names, c.scope]; exact g3) hb hs g5
    | _ => simp [okSetc] at h
  | .unp ts e, ps, h => by
    simp only [okS] at h
    obtain ⟨t, pe, q, rfl, h91⟩ := asgB_ok h
    obtain ⟨es, kk, p, rfl, h92⟩ := tupT_ok h91
    simp only [Bool.and_eq_true, Bool.not_eq_true'] at h92
    obtain ⟨⟨⟨g1, g2⟩, g3⟩, g4⟩ := h92
    have hN : X.N.Nodup := by rw [c.names]; exact c.nd
    have hg : PG X (.Tuple es kk p) (rdGt X.K fa (.tup ts)) := okTg_ok c.scope ow.fn hN c.calm (.tup ts) _ (by rw [c.names]; simpa [okTg] using g1)
    exact ss_asg (okE_ok e pe c g2).1 hg (noComp_ok g3 (some (.Tuple es kk p)) q.line X.env) (swNone g4) rfl
  | .par ts es, ps, h => by
    simp only [okS] at h
    obtain ⟨t, pe, q, rfl, h91⟩ := asgB_ok h
    obtain ⟨tes, kk, p, rfl, h92⟩ := tupT_ok h91
    obtain ⟨pes, k2, p2, rfl, h93⟩ := tupT_ok h92
    simp only [Bool.and_eq_true, Bool.or_eq_true, decide_eq_true_eq] at h93
    have ha := okEs_ok es pes c h93.1
    have e : exS G C (.par ts es) = mpar ts (evEs G C es) := by funext env S; simp only [exS]; rfl
    rw [e]
    rcases h93.2 with h2 | ⟨⟨h2, h3⟩, h4⟩
    · exact parB_ok c hk h2 ha
    · obtain ⟨n1, n2, n3⟩ := namesB_ok c ow.fn h3
      exact ss_parT c.calm n1 n2 n3 ha h4 (swS_ok c.scope hk h2)
  | .setix a i e, ps, h => by
    simp only [okS] at h
    obtain ⟨t, pe, q, rfl, h91⟩ := asgB_ok h
    obtain ⟨pa, pi, p, rfl, h92⟩ := subT_ok h91
    simp only [Bool.and_eq_true] at h92
    obtain ⟨⟨⟨⟨g1, g2⟩, g3⟩, g4⟩, g5⟩ := h92
    exact ss_setix (okE_ok e pe c g3).1 (okE_ok a pa c g1).1 (okE_ok i pi c g2).1 g4 g5 swSub
  | .setd a i e, ps, h => by
    simp only [okS] at h
    obtain ⟨t, pe, q, rfl, h91⟩ := asgB_ok h
    obtain ⟨pa, pi, p, rfl, h92⟩ := subT_ok h91
    simp only [Bool.and_eq_true] at h92
    obtain ⟨⟨⟨⟨g1, g2⟩, g3⟩, g4⟩, g5⟩ := h92
    exact ss_setd c.units (okE_ok e pe c g3).1 (okE_ok a pa c g1).1 (okE_ok i pi c g2).1 g4 g5 swSub
  | .setk a ks e, ps, h => by
    simp only [okS] at h
    obtain ⟨t, pe, q, rfl, h91⟩ := asgB_ok h
    obtain ⟨pa, pi, p, rfl, h92⟩ := subT_ok h91
    obtain ⟨pes, kk, p3, rfl, h93⟩ := tupT_ok h92
    simp only [Bool.and_eq_true] at h93
    obtain ⟨⟨⟨g1, g2⟩, g3⟩, g4⟩ := h93
    exact ss_setk c.units (okE_ok e pe c g3).1 (okE_ok a pa c g1).1 (okEs_ok ks pes c g2) g4 swSub
  | .st2 a i b j es, ps, h => by
    simp only [okS] at h
    obtain ⟨t, pe, q, rfl, h91⟩ := asgB_ok h
    obtain ⟨tes, kt, pt, rfl, h92⟩ := tupT_ok h91
    obtain ⟨pes, k2, pt2, rfl, h93⟩ := tupT_ok h92
    obtain ⟨t1, t2, rfl, h94⟩ := two2_ok h93
    obtain ⟨pa, pi, p1, rfl, h95⟩ := subT_ok h94
    obtain ⟨pb, pj, p2, rfl, h96⟩ := subT_ok h95
    simp only [Bool.and_eq_true] at h96
    obtain ⟨⟨⟨⟨⟨⟨g1, g2⟩, g3⟩, g4⟩, g5⟩, g6⟩, g7⟩ := h96
    have e : exS G C (.st2 a i b j es) = mst2 (evEs G C es) (evE G C a) (evE G C i) (evE G C b) (evE G C j) := by funext env S; simp only [exS]; rfl
    rw [e]
    exact ss_st2 c.calm (okEs_ok es pes c g7) (okE_ok a pa c g1).1 (okE_ok i pi c g2).1 (okE_ok b pb c g3).1 (okE_ok j pj c g4).1 g5 g6 swTwo
  | .expr e, ps, h => by
    simp only [okS] at h
    obtain ⟨pe, q, rfl, h91⟩ := exprB_ok h
    simp only [Bool.and_eq_true] at h91
    exact ss_expr (okE_ok e pe c h91.1).1 h91.2
  | .app a e, ps, h => by
    simp only [okS] at h
    obtain ⟨pe, q, rfl, h91⟩ := exprB_ok h
    obtain ⟨pa, x, apos, pb, cpos, rfl, h92⟩ := methB_ok h91
    simp only [Bool.and_eq_true, decide_eq_true_eq] at h92
    obtain ⟨⟨⟨⟨⟨g1, g2⟩, g3⟩, g4⟩, g5⟩, g6⟩ := h92
    subst g1
    exact ss_app (okE_ok a pa c g2).1 (okE_ok e pb c g3).1 g4 g5 g6
  | .ext a e, ps, h => by
    simp only [okS] at h
    obtain ⟨pe, q, rfl, h91⟩ := exprB_ok h
    obtain ⟨pa, x, apos, pb, cpos, rfl, h92⟩ := methB_ok h91
    simp only [Bool.and_eq_true, decide_eq_true_eq] at h92
    obtain ⟨⟨⟨⟨⟨g1, g2⟩, g3⟩, g4⟩, g5⟩, g6⟩ := h92
    subst g1
    exact ss_ext (okE_ok a pa c g2).1 (okE_ok e pb c g3).1 g4 g5 g6
  | .ifs cc t f, ps, h => by
    cases ps with
    | If pc pt pf q =>
      simp only [okS, Bool.and_eq_true] at h
      obtain ⟨⟨⟨g1, g2⟩, g3⟩, g4⟩ := h
      exact ss_if ((okE_ok cc pc c g1).2 g2) (okSs_ok c ow hk hp t pt g3) (okSs_ok c ow hk hp f pf g4)
    | _ => simp [okS] at h
  | .fors tg it b, ps, h => by
    cases ps with
    | For ptg piter pb el q =>
      cases el with
      | cons _ _ => simp [okS] at h
      | nil =>
        simp only [okS, Bool.and_eq_true] at h
        obtain ⟨⟨⟨g1, g2⟩, g3⟩, g4⟩ := h
        have hN : X.N.Nodup := by rw [c.names]; exact c.nd
        exact ss_for hp c.calm (okI_ok it ptg piter c g1) (okTg_ok c.scope ow.fn hN c.calm tg ptg (by rw [c.names]; exact g2)) (okSs_ok c ow hk hp b pb g3) g4
    | _ => simp [okS] at h
  | .whil n cc b, ps, h => by
    cases ps with
    | While pc pb el q =>
      cases el with
      | cons _ _ => simp [okS] at h
      | nil =>
        simp only [okS, Bool.and_eq_true] at h
        exact ss_while n hp ((okE_ok cc pc c h.1.1).2 h.1.2) (okSs_ok c ow hk hp b pb h.2)
    | _ => simp [okS] at h
  | .ret e, ps, h => by
    cases ps with
    | Return pe q =>
      cases pe with
      | none => simp [okS] at h
      | some pe =>
        simp only [okS] at h
        exact ss_ret (okE_ok e pe c h).1
    | _ => simp [okS] at h
  | .pass, ps, h => by
    cases ps with
    | Pass q => exact ss_pass
    | _ => simp [okS] at h
  | .brk, ps, h => by
    cases ps with
    | Break q => exact ss_brk
    | _ => simp [okS] at h
  | .cnt, ps, h => by
    cases ps with
    | Continue q => exact ss_cnt
    | _ => simp [okS] at h
  | .never, ps, h => ss_never
  | .raise cc m, ps, h => by
    simp only [okS] at h
    obtain ⟨x, p, s, jj, p2, cp, q, rfl, h2⟩ := raiB_ok h
    simp only [Bool.and_eq_true, decide_eq_true_eq, List.contains_iff_mem] at h2
    obtain ⟨⟨⟨⟨g1, g2⟩, g3⟩, g4⟩, g5⟩ := h2
    subst g1
    obtain ⟨_, z2, z3, _⟩ := c.xcl cc g2
    exact ss_raise c.calm z3 z2 (glB_ok c.scope g3) (plainN_ok g4).1
  | .tri b i yes no d hh, ps, h => by
    simp only [okS] at h
    obtain ⟨body, x, np, n, b₀, suite, pos', pos, rfl, h97⟩ := triB_ok h
    simp only [Bool.and_eq_true, decide_eq_true_eq] at h97
    obtain ⟨⟨⟨⟨⟨⟨⟨g1, g2⟩, g3⟩, g4⟩, g5⟩, g6⟩, g7⟩, g8⟩ := h97
    subst g4
    obtain ⟨y0, y1, y2⟩ := yesB_ok c g7
    have e : exS G C (.tri b i yes no d hh) = triS (exSs G C b) (exSs G C hh) i yes no := by funext env S; simp only [exS]
    rw [e]
    exact ss_try ow.stk ow.frm (by rw [c.names]; exact c.nd) (by rw [c.names]; exact nameB_ok g2) (show X.env.scope.names.lookup n = some .local by rw [c.scope]; exact localB_ok g3) ⟨glB_ok c.scope g5, (plainN_ok g6).1, .inl (c.xcl d y0).2.1⟩
      (fun i hi => ⟨(y1 i hi).2.1, (c.xcl i (y1 i hi).1).1⟩) (fun i hi => (y2 i hi).2.1) (fun pn xe hp' => okSs_ok (X := X.tr pn xe) (c.tr pn xe) ⟨ow.fn, ow.stk, ow.frm⟩ hk hp' b body g1)
      fun aa oe pn jj hjj hz hd => okHSs_ok c ow.fn (y1 jj hjj).1 hz hd hh _ g8
theorem okSs_ok {X : Cx} (c : Ctx X fa T G C k N sc) (ow : Own X) (hk : sc.kind = .function) (hp : PassesOwn (model X.prog X.w) X.A X.env X.xe) : ∀ (s : Sts) (ps : List Stmt), okSs T N sc s ps = true → SimSs fa X ps (exSs G C s)
  | .nil, [], _ => sss_nil
  | .nil, _ :: _, h => by simp [okSs] at h
  | .cons _ _, [], h => by simp [okSs] at h
  | .cons s ss, p :: ps, h => by
    simp only [okSs, Bool.and_eq_true] at h
    exact sss_cons (okS_ok c ow hk hp s p h.1) (okSs_ok c ow hk hp ss ps h.2)
end
end
end MS

-- MsLaw
/-! A whole law: its defs by their meaning, the head, the end. -/
namespace MS
open PySem PySem.Spec PyProof.Rows L2

/-- a def of a law's text -/
structure Ent where
  idx : Nat
  nm : Str
  ps : List Str
  N : List Str
  st : Stmt
def entOf (es : List Ent) (i : Nat) : Option Ent := es.find? fun e => e.idx == i
def tbOf (es : List Ent) (gs : List (Nat × Str)) (xc : List (Nat × Str) := []) (sb : List (Nat × Nat × Bool) := []) : Tb where
  nm := fun i => match entOf es i with | some e => e.nm | none => match xc.find? (fun p => p.1 == i) with | some p => p.2 | none => ""
  ps := fun i => match entOf es i with | some e => e.ps | none => []
  gm := fun g => match gs.find? (fun p => p.1 == g) with | some p => p.2 | none => ""
  I := es.map (·.idx)
  J := gs.map (·.1)
  xs := xc.map (·.1)
  sb := sb
def scB (N ps : List Str) (sc : Scope) : Bool :=
  (match sc.kind with | .function => true | _ => false) && !sc.isCoroutine && !sc.isGenerator && decide N.Nodup && decide (N.take ps.length = ps) &&
  (ps.all fun x => match sc.names.lookup x with | some .local => true | some .cell => true | _ => false) && (sc.names.all fun y => match y.2 with | .free => false | _ => true)
theorem scB_ok {N ps : List Str} {sc : Scope} (h : scB N ps sc = true) : FnScope N ps sc := by
  unfold scB at h
  simp only [Bool.and_eq_true, decide_eq_true_eq, Bool.not_eq_true', List.all_eq_true] at h
  obtain ⟨⟨⟨⟨⟨⟨h1, h2⟩, h3⟩, h4⟩, h5⟩, h6⟩, h7⟩ := h
  refine ⟨?_, h2, h3, h4, h5, fun x hx => ?_, fun y hy e => ?_⟩
  · split at h1
    · assumption
    · cases h1
  · have := h6 x hx
    split at this
    · exact .inl (by assumption)
    · exact .inr (by assumption)
    · cases this
  · have := h7 y hy
    rw [e] at this
    cases this
def fnB (T : Tb) (e : Ent) (f : Fn) : Bool := scB e.N e.ps (defScope e.st) && okSs T e.N (defScope e.st) f.body (defBody e.st) && decide (f.params = e.ps.length) && decide (f.slots = e.N.length)
def BindOk (e : Ent) : Prop := ∀ (kV doc pm : Value) (an : Option Addr) (cdv ct : Value) (us : List Value), us.length = e.ps.length →
  bindArgs (PySem.W.fnOf e.nm e.nm (defArgs e.st) (defBody e.st) (defScope e.st) .none kV doc pm an cdv ct) ⟨us, []⟩ = pure (e.ps.zip us)

/-! ### a def's body by its meaning -/
theorem Sim.cut {K : PySem.W.Frag} {fa : FA} {F0 H0 F H : Hp} {ρ0 ρ : Nat → Addr} {S0 S : Sto} {x : V} {v : Val} (s : Sim K fa F H ρ S) (e : Ext F0 H0 ρ0 S0 F H ρ S) (r : RepV K fa F ρ S.length x v) :
    Sim K fa F H ρ (cutS S0.length v S) ∧ Ext F0 H0 ρ0 S0 F H ρ (cutS S0.length v S) ∧ RepV K fa F ρ (cutS S0.length v S).length x v := by
  have nc : ∀ {S' : Sto}, S' = S → Sim K fa F H ρ S' ∧ Ext F0 H0 ρ0 S0 F H ρ S' ∧ RepV K fa F ρ S'.length x v := fun h => by subst h; exact ⟨s, e, r⟩
  have key : (∀ m, v ≠ .ref m) → Sim K fa F H ρ (if belowS S0.length (S.take S0.length) then S.take S0.length else S) ∧ Ext F0 H0 ρ0 S0 F H ρ (if belowS S0.length (S.take S0.length) then S.take S0.length else S) ∧ RepV K fa F ρ (if belowS S0.length (S.take S0.length) then S.take S0.length else S).length x v := fun hv => by
    split
    · rename_i hb
      have hlen : (S.take S0.length).length = S0.length := by rw [List.length_take]; exact Nat.min_eq_left e.len
      have gl : ∀ n u, stGet (S.take S0.length) n = some u → n < S0.length ∧ stGet S n = some u := fun n u h => by
        have hn := stGet_lt h
        rw [hlen] at hn
        unfold stGet at h ⊢
        rw [List.getElem?_take, if_pos hn] at h
        exact ⟨hn, h⟩
      refine ⟨⟨s.sub, fun n o h => s.off n o (gl n o h).2, fun n o h => ?_, fun n m o u h h' => s.inj n m o u (gl n o h).2 (gl m u h').2⟩,
        ⟨e.fz, e.rho, by rw [hlen]; exact Nat.le_refl _, e.frame, e.there, fun n u h => ?_, e.fnew⟩, ?_⟩
      · obtain ⟨y, hy, ry⟩ := s.obj n o (gl n o h).2
        refine ⟨y, hy, ?_⟩
        rw [hlen]
        have ob : o.below S0.length = true := by
          unfold belowS at hb
          have hm : some o ∈ S.take S0.length := by
            unfold stGet at h
            cases q : (S.take S0.length)[n]? with
            | none => rw [q] at h; cases h
            | some z => rw [q] at h; cases (show z = some o from h); exact List.mem_of_getElem? q
          exact List.all_eq_true.mp hb _ hm
        cases ry with
        | lst ry =>
          refine .lst ?_
          simp only [Ob.below] at ob
          clear h hy
          induction ry with
          | nil => exact .nil
          | @cons a b as bs h1 h2 ih =>
            rw [List.all_cons, Bool.and_eq_true] at ob
            refine .cons ?_ (ih ob.2)
            cases b with
            | ref m => exact ⟨by simpa [Val.below] using ob.1, h1.2⟩
            | d _ => exact h1
            | fn _ => exact h1
            | scr _ => exact h1
            | exn _ => exact h1
        | dct ry =>
          refine .dct ?_
          simp only [Ob.below] at ob
          clear h hy
          induction ry with
          | nil => exact .nil
          | @cons a b as bs h1 h2 ih =>
            rw [List.all_cons, Bool.and_eq_true] at ob
            refine .cons ⟨h1.1, ?_⟩ (ih ob.2)
            obtain ⟨b1, b2⟩ := b
            have h1 := h1.2
            cases b2 with
            | ref m => exact ⟨by simpa [Val.below] using ob.1, h1.2⟩
            | d _ => exact h1
            | fn _ => exact h1
            | scr _ => exact h1
            | exn _ => exact h1
      · obtain ⟨h1, h2⟩ := gl n u h
        rcases e.new n u h2 with z | ⟨z, _⟩
        · exact .inl z
        · exact absurd h1 (Nat.not_lt.mpr z)
      · cases v with
        | ref m => exact absurd rfl (hv m)
        | d _ => exact r
        | fn _ => exact r
        | scr _ => exact r
        | exn _ => exact r
    · exact ⟨s, e, r⟩
  cases v with
  | ref m => exact nc rfl
  | d _ => exact key (fun m z => by cases z)
  | fn _ => exact key (fun m z => by cases z)
  | scr _ => exact key (fun m z => by cases z)
  | exn _ => exact key (fun m z => by cases z)
theorem env_start {K : PySem.W.Frag} {fa : FA} {F : Hp} {ρ : Nat → Addr} {n : Nat} {N : List Str} {vs : List V} {args : List Val} {m : Nat} (r : RepVs K fa F ρ n vs args) (hm : m = N.length) :
    EnvRep K fa F ρ n (args.map some ++ List.replicate (m - args.length) none) (start N vs) := by
  subst hm
  have hl := r.length
  unfold L2.start
  have key : ∀ (i : Nat) (v : Val), ((args.map some ++ List.replicate (N.length - args.length) none)[i]?).join = some v → ∃ x, (vs.map some ++ List.replicate (N.length - vs.length) none)[i]? = some (some x) ∧ RepV K fa F ρ n x v := fun i v h => by
    by_cases hi : i < args.length
    · rw [List.getElem?_append_left (by simpa using hi), List.getElem?_map, List.getElem?_eq_getElem hi] at h
      have h' : args[i]? = some v := by rw [List.getElem?_eq_getElem hi]; simpa using h
      obtain ⟨x, hx, rx⟩ := r.get h'
      refine ⟨x, ?_, rx⟩
      rw [List.getElem?_append_left (by simp [hl, hi]), List.getElem?_map, hx]; rfl
    · rw [List.getElem?_append_right (by simpa using hi), List.getElem?_replicate] at h
      split at h <;> simp at h
  refine ⟨by simp [hl], fun i v h => ?_, fun i e h => ?_⟩
  · unfold lookE at h
    obtain ⟨w, h1, h2⟩ := Option.bind_eq_some_iff.mp h
    obtain ⟨rfl, _⟩ := plain_some h2
    exact key i _ h1
  · unfold lookX at h
    obtain ⟨w, h1, h2⟩ := Option.bind_eq_some_iff.mp h
    obtain ⟨x, _, rx⟩ := key i _ h1
    rw [rx.plain.2] at h2; cases h2
section
variable {P : Program} {w : World} {K : PySem.W.Frag} {mg : Str → Option Value} {base : Heap} {fa : FA} {es : List Ent} {gs xc : List (Nat × Str)} {sb : List (Nat × Nat × Bool)} {G : List D} {Pf : Nat → Fn}
/-- what the head tells -/
structure Facts (K : PySem.W.Frag) (mg : Str → Option Value) (fa : FA) (es : List Ent) (gs : List (Nat × Str)) (G : List D) (xc : List (Nat × Str) := []) (sb : List (Nat × Nat × Bool) := []) : Prop where
  gl : ∀ e ∈ es, mg e.nm = some (.ref (fa e.idx))
  fn : ∀ e ∈ es, ∃ fd, FunD K e.nm e.nm (defArgs e.st) (defBody e.st) (defScope e.st) [] [] (fa e.idx) fd
  cst : ∀ g ∈ gs, ∃ d v u, G[g.1]? = some d ∧ mg g.2 = some u ∧ RelV v u ∧ Rep K (fun _ => none) v d
  blt : ∀ x ∈ bltNames, mg x = none
  xcl : ∀ p ∈ xc, mg p.2 = some (.ref (fa p.1)) ∧ XC K (fa p.1) ∧ PySem.W.kitOne K (.ref (fa p.1)) (.type "ValueError") = some true
  xsb : ∀ c d b, (c, d, b) ∈ sb → PySem.W.exmOne K (.ref (fa c)) (.ref (fa d)) = some b ∧ PySem.W.kitOne K (.ref (fa c)) (.ref (fa d)) = some b
theorem ent_mem {i : Nat} (hu : (es.map (·.idx)).Nodup) {e : Ent} (he : e ∈ es) (hi : e.idx = i) : entOf es i = some e := by
  unfold entOf
  induction es with
  | nil => cases he
  | cons a es ih =>
    rw [List.map_cons, List.nodup_cons] at hu
    rw [List.find?_cons]
    rcases List.mem_cons.mp he with rfl | he
    · simp [hi]
    · have : a.idx ≠ i := fun z => hu.1 (by rw [z, ← hi]; exact List.mem_map_of_mem he)
      simp only [beq_eq_false_iff_ne.mpr this]
      exact ih hu.2 he
theorem gs_mem {g : Nat} (hu : (gs.map (·.1)).Nodup) {p : Nat × Str} (he : p ∈ gs) (hi : p.1 = g) : gs.find? (fun p => p.1 == g) = some p := by
  induction gs with
  | nil => cases he
  | cons a es ih =>
    rw [List.map_cons, List.nodup_cons] at hu
    rw [List.find?_cons]
    rcases List.mem_cons.mp he with rfl | he
    · simp [hi]
    · have : a.1 ≠ g := fun z => hu.1 (by rw [z, ← hi]; exact List.mem_map_of_mem he)
      simp only [beq_eq_false_iff_ne.mpr this]
      exact ih hu.2 he
theorem fns_ok (f : Facts K mg fa es gs G xc sb) (hu : (es.map (·.idx)).Nodup) (hug : (gs.map (·.1)).Nodup) (hb : ∀ e ∈ es, BindOk e) (hc : (es.all fun e => fnB (tbOf es gs xc sb) e (Pf e.idx)) = true) (hx : (xc.all fun p => decide (p.1 < exI) && decide ((tbOf es gs xc sb).nm p.1 = p.2)) = true) :
    ∀ k : Nat, ∀ e ∈ es, ∃ fd, Binds K fd e.ps [] ∧ FunD K e.nm e.nm (defArgs e.st) (defBody e.st) (defScope e.st) [] [] (fa e.idx) fd ∧ FnG P w K mg base k (fa e.idx) fd e.ps (spR K fa (run G Pf k e.idx)) := by
  intro k
  induction k with
  | zero =>
    intro e he
    obtain ⟨fd, F⟩ := f.fn e he
    exact ⟨fd, F.bindsN (hb e he), F, fun vs H Q E h => by obtain ⟨_, _, _, _, _, _, z⟩ := h; exact z.elim, fun A outer s H args us vs Q E _ _ _ _ _ h => by obtain ⟨_, _, _, _, _, _, z⟩ := h; exact z.elim⟩
  | succ k ih =>
    intro e he
    obtain ⟨fd, F⟩ := f.fn e he
    have hce := List.all_eq_true.mp hc e he
    unfold fnB at hce
    simp only [Bool.and_eq_true, decide_eq_true_eq] at hce
    obtain ⟨⟨⟨c1, c2⟩, c3⟩, c4⟩ := hce
    have S := scB_ok c1
    refine ⟨fd, F.bindsN (hb e he), F, fnG_of F S (fun vs H Q E h => ?_) fun cdv A outer s H vs Q E hr hg h => ?_⟩
    · obtain ⟨args, S0, F0, ρ, s, r, p⟩ := h
      unfold run at p
      split at p
      · rename_i hl; rw [r.length, hl, c3]
      · exact p.elim
    · refine ⟨rdS K fa (fun c d _ H' => E c d H') (exSs G (run G Pf k) (Pf e.idx).body), ?_, ?_⟩
      · have ctx : Ctx (cxOf (L2.CX P w) P w K mg base e.N e.nm (defScope e.st) (fa e.idx) cdv A outer s H E) fa (tbOf es gs xc sb) G (run G Pf k) k e.N (defScope e.st) := by
          refine ⟨rfl, rfl, S.nd, rfl, hr, hg, ⟨fun i hi => ?_, fun i hi => ?_, fun i hi => ?_⟩, fun g hg => ?_, f.blt, fun c hcx => ?_, f.xsb⟩
          · obtain ⟨e', he', rfl⟩ := List.mem_map.mp hi
            have q : (tbOf es gs xc sb).nm e'.idx = e'.nm := by simp only [tbOf]; rw [ent_mem hu he' rfl]
            rw [q]; exact f.gl e' he'
          · obtain ⟨e', he', rfl⟩ := List.mem_map.mp hi
            obtain ⟨fd', F'⟩ := f.fn e' he'
            exact F'.kp
          · obtain ⟨e', he', rfl⟩ := List.mem_map.mp hi
            have q : (tbOf es gs xc sb).ps e'.idx = e'.ps := by simp only [tbOf]; rw [ent_mem hu he' rfl]
            rw [q]
            obtain ⟨fd', h1, _, h2⟩ := ih e' he'
            exact ⟨fd', h1, h2⟩
          · obtain ⟨g', hg', rfl⟩ := List.mem_map.mp hg
            have q : (tbOf es gs xc sb).gm g'.1 = g'.2 := by simp only [tbOf]; rw [gs_mem hug hg' rfl]
            rw [q]; exact f.cst g' hg'
          · obtain ⟨p, hp, rfl⟩ := List.mem_map.mp hcx
            have hpx := List.all_eq_true.mp hx p hp
            rw [Bool.and_eq_true, decide_eq_true_eq, decide_eq_true_eq] at hpx
            obtain ⟨z1, z2, z3⟩ := f.xcl p hp
            exact ⟨hpx.1, by rw [hpx.2]; exact z1, z2, z3⟩
        exact (okSs_ok ctx ⟨rfl, rfl, rfl⟩ S.kind (passes_of rfl) _ _ c2).run _ (takes_of rfl rfl rfl rfl)
      · obtain ⟨args, S0, F0, ρ, sim, r, p⟩ := h
        unfold run at p
        split at p
        · rename_i hl
          refine ⟨_, S0, F0, ρ, sim, env_start r c4, ?_⟩
          cases q : exSs G (run G Pf k) (Pf e.idx).body (args.map some ++ List.replicate ((Pf e.idx).slots - args.length) none) S0 with
          | stuck => rw [q] at p; exact p
          | brk _ _ => rw [q] at p; exact p.elim
          | cnt _ _ => rw [q] at p; exact p.elim
          | nx env' S' =>
            rw [q] at p
            intro σ' F' H' ρ' s' x' e'
            obtain ⟨s2, x2, r2⟩ := s'.cut (x := .non) (v := .d .none) x' Rep.non
            exact p .non F' H' ρ' s2 x2 r2
          | ret v S' =>
            rw [q] at p
            intro x F' H' ρ' s' x' r'
            obtain ⟨s2, x2, r2⟩ := s'.cut x' r'
            exact p x F' H' ρ' s2 x2 r2
          | exc ee env' S' =>
            rw [q] at p
            exact fun c d σ' F' H' ρ' s' x' e' r' => p c d F' H' ρ' s' x' r'
        · exact p.elim
end

/-! ### the end -/
section
variable {P : Program} {w : World} {K : PySem.W.Frag} {mg mb : Str → Option Value} {k : Nat} {lf sa : Addr} {fd : FuncData} {x : Str} {sp : Sp} {t : Shared} {us : List Value} {ns : List Int}
/-- from a heap of which nothing but the script may be tracked -/
theorem endFrom (lim : t.heap.NoLimit) (KX : K.In t.heap) (gl : t.heap.Ns mainGlobals mg) (bl : t.heap.Ns builtinsNs mb) (bb : ∀ y : Str, y ≠ "__name__" → mb y = bootBuiltins y) (hgen : t.gens = #[])
    (os : t.heap.get? sa = some { cls := .type "list", data := .seq us.toArray }) (rm : Room k callerA)
    (F : ∀ base : Heap, K.In base → base.Ns mainGlobals mg → FnG P w K mg base k lf fd [x] sp) (bd : ∀ (s : Shared) (u : Value), BindsTo s fd ⟨[u], []⟩ [(x, u)])
    (H : Hp) (on : Only H) (ok : HOk P w H t.heap) (hA : ∀ b, H b ≠ none → b = sa) (hK : H sa ≠ none → K.lookup sa = none) (hs : sp [.ref sa] H (fun v _ => v = .bl true) fun _ _ _ => False) :
    codeAny (model P w) callerA (.call (.ref lf) ⟨[.ref sa], []⟩) (fun r s' => r = .ok (.ret (.bool true)) ∧ OldK t.heap s'.heap ∧ s'.os = t.os ∧ AllBare s'.gens) t := by
  have free : ∀ {b : Addr}, b ≠ sa → H b = none := fun {b} hb => by
    cases q : H b with
    | none => rfl
    | some z => exact absurd (hA b (by rw [q]; simp)) hb
  have nsIn : ∀ {b : Addr} {m : Str → Option Value}, t.heap.Ns b m → (hidT t.heap H).Ns b m := fun {b m} ⟨ob, en, ep, e1, e2, rest⟩ => by
    refine ⟨ob, en, ep, hidT_get e1 (free fun z => ?_), e2, rest⟩
    rw [z, os] at e1
    cases e1
    cases e2
  have KH : K.In (hidT t.heap H) := fun b ob e => by
    refine hidT_get (KX b ob e) ?_
    cases q : H b with
    | none => rfl
    | some z =>
      have hb := hA b (by rw [q]; simp)
      rw [hb] at q e
      rw [hK (by rw [q]; simp)] at e
      cases e
  have md : Mod K mg (hidT t.heap H) := ⟨KH, nsIn gl, ⟨mb, nsIn bl, bb⟩, let ⟨mc, l1, l2⟩ := lim; ⟨mc, nsIn l1, l2⟩⟩
  have en : Env0 P w K mg (hidT t.heap H) callerA [] t H := ⟨rfl, md, fun b ob e => of_hidT e, Nat.le_of_eq (hidT_size _ _), trivial, (fun b hb => absurd (show b ∈ ([] : List Addr) from hb) (List.not_mem_nil)), ok, .of_eq hgen⟩
  refine codeAny_mono ((F _ KH (nsIn gl)).run callerA [] t H ⟨[.ref sa], []⟩ [.ref sa] [.ref sa] _ _ rm rfl en (bd t (.ref sa)) (.cons rfl .nil) hs) fun r s' hr => ?_
  cases r with
  | error e =>
    obtain ⟨_, _, _, _, _, _, _, _, _, _, _, _, z⟩ := hr
    exact z.elim
  | ok fl =>
    cases fl with
    | ret u =>
      obtain ⟨v, H', e1, e2, un, ok', rv, hv⟩ := hr
      cases (show v = .bl true from hv)
      cases (show u = Value.bool true from rv)
      refine ⟨rfl, OldK.of_keep fun b ob e => ?_, e1, e2⟩
      cases q : H b with
      | none => exact un.keep b ob e q (fun z => absurd (show b ∈ ([] : List Addr) from z) (List.not_mem_nil)) (List.not_mem_nil)
      | some z =>
        rcases on b with n | ⟨o2, xs, n⟩
        · rw [q] at n; cases n
        · have a1 := (ok b _ n).1
          have a2 := (ok' b _ (un.frzs b o2 _ n)).1
          rw [a1] at e; cases e
          exact a2
    | next => exact False.elim hr
    | brk => exact False.elim hr
    | cont => exact False.elim hr
theorem endCall (lim : t.heap.NoLimit) (KX : K.In t.heap) (gl : t.heap.Ns mainGlobals mg) (bl : t.heap.Ns builtinsNs mb) (bb : ∀ y : Str, y ≠ "__name__" → mb y = bootBuiltins y) (hgen : t.gens = #[])
    (os : t.heap.get? sa = some { cls := .type "list", data := .seq us.toArray }) (iv : IntsAre us ns) (sz : ns.length ≤ sizeLine) (rm : Room k callerA)
    (F : ∀ base : Heap, K.In base → base.Ns mainGlobals mg → FnG P w K mg base k lf fd [x] sp) (bd : ∀ (s : Shared) (u : Value), BindsTo s fd ⟨[u], []⟩ [(x, u)])
    (hs : ∀ H : Hp, SqL K H sa (ns.map V.int) → sp [.ref sa] H (fun v _ => v = .bl true) fun _ _ _ => False) :
    codeAny (model P w) callerA (.call (.ref lf) ⟨[.ref sa], []⟩) (fun r s' => r = .ok (.ret (.bool true)) ∧ OldK t.heap s'.heap ∧ s'.os = t.os ∧ AllBare s'.gens) t := by
  have vi := vals_ints iv
  cases hk : K.lookup sa with
  | some ob =>
    have e := KX sa ob hk
    rw [os] at e
    cases e
    refine endFrom lim KX gl bl bb hgen os rm F bd (fun _ => none) (fun _ => .inl rfl) (fun b u z => by cases (show (none : Option HO) = some u from z)) (fun b z => absurd rfl z) (fun z => absurd rfl z) (hs _ (.inr ⟨_, us.toArray, _, hk, rfl, rfl, rfl, ?_, by simpa using vi⟩))
    rw [List.size_toArray, iv.length]; exact sz
  | none =>
    let H : Hp := fun b => if b = sa then some (.frz { cls := .type "list", data := .seq us.toArray } (.lst (ns.map V.int))) else none
    have h1 : H sa = some (.frz { cls := .type "list", data := .seq us.toArray } (.lst (ns.map V.int))) := if_pos rfl
    have h2 : ∀ b, b ≠ sa → H b = none := fun b hb => if_neg hb
    refine endFrom lim KX gl bl bb hgen os rm F bd H (fun b => ?_) (fun b u z => ?_) (fun b z => ?_) (fun _ => hk) (hs H (.inl (.inr ⟨_, h1⟩)))
    · by_cases hb : b = sa
      · subst hb; exact .inr ⟨_, _, h1⟩
      · exact .inl (h2 b hb)
    · by_cases hb : b = sa
      · subst hb
        rw [h1] at z
        cases z
        exact ⟨os, by rw [List.length_map]; exact sz, us, _, vi, os⟩
      · rw [h2 b hb] at z; cases z
    · by_cases hb : b = sa
      · exact hb
      · exact absurd (h2 b hb) z
end
theorem walkG {l : PySem.W.OpenLaw} {n k : Nat} {q : Program} {loose : List Str} {XP : (Str → Option Value) → Heap → Prop} {YP : World → Heap → Prop} {d : DefRec} {x : Str}
    (hn : l.most = some n) (hn2 : n ≤ sizeLine) (hdf : d.params.defaults = []) (rm : Room k callerA)
    (F : ∀ (w : World) (mg : Str → Option Value) (lf : Addr) (h : Heap), YP w h → h.Ns mainGlobals mg → mg d.name = some (.ref lf) →
      ∃ (K : PySem.W.Frag) (fd : FuncData) (sp : Sp), K.In h ∧ (∀ (s : Shared) (u : Value), BindsTo s fd ⟨[u], []⟩ [(x, u)]) ∧
        (∀ (H : Hp) (a : Addr) (ns : List Int), ns.length ≤ n → SqL K H a (ns.map V.int) → sp [.ref a] H (fun v _ => v = .bl true) fun _ _ _ => False) ∧
        ∀ base : Heap, K.In base → base.Ns mainGlobals mg → FnG l.prog w K mg base k lf fd [x] sp) :
    PySem.W.WalkO q loose XP YP l.row.toRowW d [] (fun f vs => PySem.call f vs) := by
  refine Att.attach_call hn hdf fun w s0 s1 mg mb lf o pm cd doc a vs ns Gd Y ho hd hcd hmg hobj hints hlen hg => ?_
  obtain ⟨K, fd, sp, KX, hb, hsp, hF⟩ := F w mg lf _ Y Gd.T.g hmg
  exact endCall Gd.T.nolimit KX Gd.T.g Gd.T.b Gd.T.builtins hg hobj hints (Nat.le_trans hlen hn2) rm hF hb fun H hS => hsp H a ns hlen hS
/-- the law's promise from its meaning -/
theorem sp_law {K : PySem.W.Frag} {fa : FA} {r : List Val → Sto → R Val} {H : Hp} {a : Addr} {ns : List Int} (hS : SqL K H a (ns.map V.int)) (h : ∃ S, r [.scr ns] [] = .ok (.d (.bool true)) S) :
    spR K fa r [.ref a] H (fun v _ => v = .bl true) fun _ _ _ => False := by
  obtain ⟨S, h⟩ := h
  refine ⟨[.scr ns], [], H, fun _ => 0, ⟨Same.refl _, fun n o q => ?_, fun n o q => ?_, fun n m o u q => ?_⟩, .cons ⟨a, rfl, hS⟩ .nil, ?_⟩
  · simp [stGet] at q
  · simp [stGet] at q
  · simp [stGet] at q
  · rw [h]
    intro x F' H' ρ' _ _ rx
    cases (show Rep K F' x (.bool true) from rx)
    rfl
/-! ### the classes of exceptions, by the head's word -/
def xcB (K : PySem.W.Frag) (C : Addr) : Bool :=
  PySem.W.excIn K C He.veBase "ValueError.__new__" && (PySem.W.keepIn K (.ref C) && (decide (PySem.W.subIn K (.ref C) (.type "BaseException") = some true) && (decide (PySem.W.typeIn K (.ref C) = some (.type "type")) &&
  (He.eqO (PySem.W.findIn K (.ref C) "__getattribute__") (some (some (.builtin "BaseException.__getattribute__"))) && (He.eqO (PySem.W.findIn K (.ref C) "__getattr__") (some none) && (PySem.W.hasDictIn K C &&
  (He.eqO (PySem.W.findIn K (.ref C) "__class__") (some (some (.builtin "object.__class__"))) && (He.eqO (PySem.W.specialIn K (.builtin "object.__class__") "__get__") (some (some (.builtin "getset_descriptor.__get__"))) &&
  (decide (PySem.W.takesIn K (.builtin "object.__class__") = some true) && (decide (PySem.W.mroIn K C (.type "object") = some true) && decide (PySem.W.kitOne K (.ref C) (.type "ValueError") = some true)))))))))))
theorem xcB_ok {K : PySem.W.Frag} {C : Addr} (h : xcB K C = true) : XC K C ∧ PySem.W.kitOne K (.ref C) (.type "ValueError") = some true := by
  obtain ⟨h1, h⟩ := He.ba h
  obtain ⟨h2, h⟩ := He.ba h
  obtain ⟨h3, h⟩ := He.ba h
  obtain ⟨h4, h⟩ := He.ba h
  obtain ⟨h5, h⟩ := He.ba h
  obtain ⟨h6, h⟩ := He.ba h
  obtain ⟨h7, h⟩ := He.ba h
  obtain ⟨h8, h⟩ := He.ba h
  obtain ⟨h9, h⟩ := He.ba h
  obtain ⟨h10, h⟩ := He.ba h
  obtain ⟨h11, h12⟩ := He.ba h
  exact ⟨⟨h1, h2, of_decide_eq_true h3, of_decide_eq_true h4, ⟨He.eqO_ok h5, He.eqO_ok h6, of_decide_eq_true h3, h7, He.eqO_ok h8, He.eqO_ok h9, of_decide_eq_true h10, of_decide_eq_true h11⟩⟩, of_decide_eq_true h12⟩
def exB (xc : List (Nat × Str)) (sb : List (Nat × Nat × Bool)) (nm : Nat → Str) (K : PySem.W.Frag) : Bool :=
  (xc.all fun p => He.eqO (PySem.W.nsIn K mainGlobals (nm p.1)) (some (some (.ref (He.fAd K (nm p.1, none))))) && xcB K (He.fAd K (nm p.1, none))) &&
  sb.all fun t => decide (PySem.W.exmOne K (.ref (He.fAd K (nm t.1, none))) (.ref (He.fAd K (nm t.2.1, none))) = some t.2.2) && decide (PySem.W.kitOne K (.ref (He.fAd K (nm t.1, none))) (.ref (He.fAd K (nm t.2.1, none))) = some t.2.2)
theorem exB_ok {K : PySem.W.Frag} {h : Heap} {mg : Str → Option Value} {xc : List (Nat × Str)} {sb : List (Nat × Nat × Bool)} {nm : Nat → Str} (X : K.In h) (G : h.Ns mainGlobals mg) (hb : exB xc sb nm K = true) (hn : (xc.all fun p => decide (p.1 < exI) && decide (nm p.1 = p.2)) = true) :
    (∀ p ∈ xc, mg p.2 = some (.ref (He.fAd K (nm p.1, none))) ∧ XC K (He.fAd K (nm p.1, none)) ∧ PySem.W.kitOne K (.ref (He.fAd K (nm p.1, none))) (.type "ValueError") = some true) ∧
    ∀ c d b, (c, d, b) ∈ sb → PySem.W.exmOne K (.ref (He.fAd K (nm c, none))) (.ref (He.fAd K (nm d, none))) = some b ∧ PySem.W.kitOne K (.ref (He.fAd K (nm c, none))) (.ref (He.fAd K (nm d, none))) = some b := by
  obtain ⟨h1, h2⟩ := He.ba hb
  refine ⟨fun p hp => ?_, fun c d b hm => ?_⟩
  · obtain ⟨z1, z2⟩ := He.ba (List.all_eq_true.mp h1 p hp)
    have z3 := List.all_eq_true.mp hn p hp
    rw [Bool.and_eq_true, decide_eq_true_eq, decide_eq_true_eq] at z3
    have := PySem.W.mg_of X G (He.eqO_ok z1)
    rw [z3.2] at this ⊢
    rw [z3.2] at z2
    exact ⟨this, xcB_ok z2⟩
  · obtain ⟨z1, z2⟩ := He.ba (List.all_eq_true.mp h2 _ hm)
    exact ⟨of_decide_eq_true z1, of_decide_eq_true z2⟩
end MS

-- MsWp
/-! Rules for the interpreter: what is to be shown so that a text ends well. -/
namespace MS
open PySem

abbrev XP := Exc → Sto → Prop
def Wp {α : Type} (r : R α) (X : XP) (Q : α → Sto → Prop) : Prop := match r with
  | .ok v S => Q v S
  | .exc e S => X e S
  | .stuck => False
structure En where
  nx : MS.Env → Sto → Prop := fun _ _ => False
  rt : Val → Sto → Prop := fun _ _ => False
  bk : MS.Env → Sto → Prop := fun _ _ => False
  ct : MS.Env → Sto → Prop := fun _ _ => False
  ex : Exc → MS.Env → Sto → Prop := fun _ _ _ => False
@[reducible] def En.nxt (D : En) (f : MS.Env → Sto → Prop) : En := { nx := f, rt := D.rt, bk := D.bk, ct := D.ct, ex := D.ex }
@[reducible] def En.turn (D : En) (I : MS.Env → Sto → Prop) (S1 : Sto) (l : List Nat) : En := { nx := I, ct := I, bk := fun env S => D.nx env (unlockS S1 S l), rt := fun v S => D.rt v (unlockS S1 S l), ex := fun e env S => D.ex e env (unlockS S1 S l) }
@[reducible] def En.lap (D : En) (I : MS.Env → Sto → Prop) : En := { nx := I, ct := I, bk := D.nx, rt := D.rt, ex := D.ex }
@[reducible] def En.fn (S : Sto) (X : XP) (Q : Val → Sto → Prop) : En := { nx := fun _ S' => Q (.d .none) (cutS S.length (.d .none) S'), rt := fun v S' => Q v (cutS S.length v S'), ex := fun e _ S' => X e S' }
def Ws (r : RS) (D : En) : Prop := match r with
  | .nx env S => D.nx env S
  | .ret v S => D.rt v S
  | .brk env S => D.bk env S
  | .cnt env S => D.ct env S
  | .exc e env S => D.ex e env S
  | .stuck => False
abbrev noX : XP := fun _ _ => False

theorem Wp.ok {α : Type} {r : R α} {v : α} {S : Sto} (h : Wp r noX fun v' S' => v' = v ∧ S' = S) : r = .ok v S := by
  cases r with
  | ok v' S' => obtain ⟨rfl, rfl⟩ := h; rfl
  | exc _ _ => exact h.elim
  | stuck => exact h.elim
theorem Wp.ex {α : Type} {r : R α} {Q : α → Sto → Prop} (h : Wp r noX Q) : ∃ v S, r = .ok v S ∧ Q v S := by
  cases r with
  | ok v' S' => exact ⟨_, _, rfl, h⟩
  | exc _ _ => exact h.elim
  | stuck => exact h.elim
theorem Wp.of {α : Type} {r : R α} {X : XP} {Q : α → Sto → Prop} {v : α} {S : Sto} (h : r = .ok v S) (q : Q v S) : Wp r X Q := by rw [h]; exact q
theorem Wp.imp {α : Type} {r : R α} {X : XP} {Q Q' : α → Sto → Prop} (h : Wp r X Q) (k : ∀ v S, Q v S → Q' v S) : Wp r X Q' := by
  cases r with
  | ok v S => exact k _ _ h
  | exc _ _ => exact h
  | stuck => exact h
theorem Wp.imp2 {α : Type} {r : R α} {X X' : XP} {Q Q' : α → Sto → Prop} (h : Wp r X Q) (k : ∀ v S, Q v S → Q' v S) (kx : ∀ e S, X e S → X' e S) : Wp r X' Q' := by
  cases r with
  | ok v S => exact k _ _ h
  | exc _ _ => exact kx _ _ h
  | stuck => exact h
theorem wp_bind {α β : Type} {r : R α} {f : α → Sto → R β} {X : XP} {Q : β → Sto → Prop} (h : Wp r X fun v S => Wp (f v S) X Q) : Wp (r.bind f) X Q := by
  cases r with
  | ok v S => exact h
  | exc _ _ => exact h
  | stuck => exact h
theorem wp_ok {α : Type} {v : α} {S : Sto} {X : XP} {Q : α → Sto → Prop} (h : Q v S) : Wp (.ok v S) X Q := h
theorem wp_ofO {α : Type} {o : Option α} {v : α} {S : Sto} {X : XP} {Q : α → Sto → Prop} (e : o = some v) (h : Q v S) : Wp (R.ofO o S) X Q := by rw [e]; exact h
section
variable {G : List D} {C : Runner} {env : MS.Env} {S : Sto} {X : XP} {Q : Val → Sto → Prop}
theorem wp_var {i : Nat} {v : Val} (e : lookE env i = some v) (h : Q v S) : Wp (evE G C (.var i) env S) X Q := by simp only [evE]; exact wp_ofO e h
theorem wp_glob {g : Nat} {d : D} (e : litI G g = some d) (h : Q (.d d) S) : Wp (evE G C (.glob g) env S) X Q := by simp only [evE, e]; exact h
theorem wp_none (h : Q (.d .none) S) : Wp (evE G C .none env S) X Q := by simp only [evE]; exact h
theorem wp_bool {b : Bool} (h : Q (.d (.bool b)) S) : Wp (evE G C (.bool b) env S) X Q := by simp only [evE]; exact h
theorem wp_int {b : Int} (h : Q (.d (.int b)) S) : Wp (evE G C (.int b) env S) X Q := by simp only [evE]; exact h
theorem wp_str {b : Str} (h : Q (.d (.str b)) S) : Wp (evE G C (.str b) env S) X Q := by simp only [evE]; exact h
theorem wp_tup {es : Es} (h : Wp (evEs G C es env S) X fun vs S1 => ∃ ds, pureVs vs = some ds ∧ Q (.d (.tuple ds)) S1) : Wp (evE G C (.tup es) env S) X Q := by
  simp only [evE]
  refine wp_bind (h.imp fun vs S1 ⟨ds, e, q⟩ => ?_)
  rw [e]; exact q
theorem wp_lst {es : Es} (h : Wp (evEs G C es env S) X fun vs S1 => ∃ ds, pureVs vs = some ds ∧ Q (.d (.list ds)) S1) : Wp (evE G C (.lst es) env S) X Q := by
  simp only [evE]
  refine wp_bind (h.imp fun vs S1 ⟨ds, e, q⟩ => ?_)
  rw [e]; exact q
theorem wp_lstN {es : Es} (h : Wp (evEs G C es env S) X fun vs S1 => Q (.ref S1.length) (S1 ++ [some (.lst vs)])) : Wp (evE G C (.lstN es) env S) X Q := by
  simp only [evE]; exact wp_bind h
theorem wp_nil {Q : List Val → Sto → Prop} (h : Q [] S) : Wp (evEs G C .nil env S) X Q := by simp only [evEs]; exact h
theorem wp_cons {e : E} {es : Es} {Q : List Val → Sto → Prop} (h : Wp (evE G C e env S) X fun v S1 => Wp (evEs G C es env S1) X fun vs S2 => Q (v :: vs) S2) : Wp (evEs G C (.cons e es) env S) X Q := by
  simp only [evEs]
  exact wp_bind (h.imp fun v S1 q => wp_bind q)
theorem wp_bin {o : BOp} {a b : E} (h : Wp (evE G C a env S) X fun x S1 => Wp (evE G C b env S1) X fun y S2 => ∃ u v w, view S2 x = some u ∧ view S2 y = some v ∧ binD o u v = some w ∧ Q (.d w) S2) : Wp (evE G C (.bin o a b) env S) X Q := by
  simp only [evE]
  refine wp_bind (h.imp fun x S1 q => wp_bind (q.imp fun y S2 ⟨u, v, w, e1, e2, e3, q⟩ => ?_))
  simp only [e1, e2, Option.bind_some, e3]; exact q
theorem wp_neg {a : E} (h : Wp (evE G C a env S) X fun x S1 => ∃ i, x = .d (.int i) ∧ Q (.d (.int (-i))) S1) : Wp (evE G C (.neg a) env S) X Q := by
  simp only [evE]
  refine wp_bind (h.imp fun x S1 ⟨i, e, q⟩ => ?_)
  subst e; exact q
theorem wp_not {a : E} (h : Wp (evE G C a env S) X fun x S1 => ∃ b, truthV S1 x = some b ∧ Q (.d (.bool (!b))) S1) : Wp (evE G C (.not a) env S) X Q := by
  simp only [evE]
  refine wp_bind (h.imp fun x S1 ⟨i, e, q⟩ => ?_)
  rw [e]; exact q
theorem wp_bools {k : Bool} {es : Es} (h : Wp (evB G C k es env S) X Q) : Wp (evE G C (.bools k es) env S) X Q := by simp only [evE]; exact h
theorem wp_b1 {k : Bool} {e : E} (h : Wp (evE G C e env S) X Q) : Wp (evB G C k (.cons e .nil) env S) X Q := by simp only [evB]; exact h
theorem wp_b2 {k : Bool} {e e2 : E} {es : Es} (h : Wp (evE G C e env S) X fun v S1 => ∃ b, truthV S1 v = some b ∧ if b = k then Wp (evB G C k (.cons e2 es) env S1) X Q else Q v S1) : Wp (evB G C k (.cons e (.cons e2 es)) env S) X Q := by
  rw [evB]
  · refine wp_bind (h.imp fun v S1 ⟨b, e, q⟩ => ?_)
    rw [e]
    simp only [R.ofO_some, R.bind_ok]
    split
    · rename_i hb; rw [if_pos hb] at q; exact q
    · rename_i hb; rw [if_neg hb] at q; exact q
  · intro h; cases h
theorem wp_cmp {o : COp} {a b : E} (h : Wp (evE G C a env S) X fun x S1 => Wp (evE G C b env S1) X fun y S2 => ∃ u v w, view S2 x = some u ∧ view S2 y = some v ∧ cmpD o u v = some w ∧ Q (.d (.bool w)) S2) : Wp (evE G C (.cmp o a b) env S) X Q := by
  simp only [evE]
  refine wp_bind (h.imp fun x S1 q => wp_bind (q.imp fun y S2 ⟨u, v, w, e1, e2, e3, q⟩ => ?_))
  simp only [e1, e2, Option.bind_some, e3]; exact q
theorem wp_chain {o p : COp} {a b c : E} (h : Wp (evE G C a env S) X fun x S1 => Wp (evE G C b env S1) X fun y S2 => ∃ u v w, view S2 x = some u ∧ view S2 y = some v ∧ cmpD o u v = some w ∧
    if w then Wp (evE G C c env S2) X fun z S4 => ∃ v' u' w', view S4 y = some v' ∧ view S4 z = some u' ∧ cmpD p v' u' = some w' ∧ Q (.d (.bool w')) S4 else Q (.d (.bool false)) S2) : Wp (evE G C (.chain o p a b c) env S) X Q := by
  simp only [evE]
  refine wp_bind (h.imp fun x S1 q => wp_bind (q.imp fun y S2 ⟨u, v, w, e1, e2, e3, q⟩ => ?_))
  simp only [e1, e2, Option.bind_some, e3, R.ofO_some, R.bind_ok]
  cases w with
  | false => exact q
  | true =>
    simp only [if_true] at q ⊢
    refine wp_bind (q.imp fun z S4 ⟨v', u', w', f1, f2, f3, q⟩ => ?_)
    simp only [f1, f2, Option.bind_some, f3]; exact q
theorem wp_ife {c a b : E} (h : Wp (evE G C c env S) X fun v S1 => ∃ k, truthV S1 v = some k ∧ if k then Wp (evE G C a env S1) X Q else Wp (evE G C b env S1) X Q) : Wp (evE G C (.ife c a b) env S) X Q := by
  simp only [evE]
  refine wp_bind (h.imp fun v S1 ⟨k, e, q⟩ => ?_)
  rw [e]
  simp only [R.ofO_some, R.bind_ok]
  cases k <;> exact q
theorem wp_ix {a b : E} (h : Wp (evE G C a env S) X fun x S1 => Wp (evE G C b env S1) X fun y S2 => ∃ i w, y = .d (.int i) ∧ ixV S2 x (.int i) = some w ∧ Q w S2) : Wp (evE G C (.ix a b) env S) X Q := by
  simp only [evE]
  refine wp_bind (h.imp fun x S1 q => wp_bind (q.imp fun y S2 ⟨i, w, e1, e2, q⟩ => ?_))
  subst e1
  simp only [e2]; exact q
theorem wp_no {Q : Option Int → Sto → Prop} (h : Q none S) : Wp (evO G C .no env S) X Q := by simp only [evO]; exact h
theorem wp_yes {e : E} {Q : Option Int → Sto → Prop} (h : Wp (evE G C e env S) X fun v S1 => ∃ i, v = .d (.int i) ∧ Q (some i) S1) : Wp (evO G C (.yes e) env S) X Q := by
  simp only [evO]
  refine wp_bind (h.imp fun x S1 ⟨i, e, q⟩ => ?_)
  subst e; exact q
theorem wp_sl {a : E} {lo hi : Oe} (h : Wp (evE G C a env S) X fun x S1 => Wp (evO G C lo env S1) X fun l S2 => Wp (evO G C hi env S2) X fun u S3 => ∃ w, slV S3 x l u = some w ∧ Q (.d w) S3) : Wp (evE G C (.sl a lo hi) env S) X Q := by
  simp only [evE]
  refine wp_bind (h.imp fun x S1 q => wp_bind (q.imp fun l S2 q => wp_bind (q.imp fun u S3 ⟨w, e, q⟩ => ?_)))
  rw [e]; exact q
theorem wp_call {f : Nat} {es : Es} (h : Wp (evEs G C es env S) X fun vs S1 => Wp (C f vs S1) X Q) : Wp (evE G C (.call f es) env S) X Q := by
  simp only [evE]; exact wp_bind h
theorem wp_bi {b : Bi} {a : E} (h : Wp (evE G C a env S) X fun x S1 => ∃ w, biV S1 b x = some w ∧ Q (.d w) S1) : Wp (evE G C (.bi b a) env S) X Q := by
  simp only [evE]
  refine wp_bind (h.imp fun x S1 ⟨w, e, q⟩ => ?_)
  rw [e]; exact q
theorem wp_isi {a : E} {ts : List Ty} (h : Wp (evE G C a env S) X fun x S1 => ∃ w, isTyV S1 ts x = some w ∧ Q (.d (.bool w)) S1) : Wp (evE G C (.isi a ts) env S) X Q := by
  simp only [evE]
  refine wp_bind (h.imp fun x S1 ⟨w, e, q⟩ => ?_)
  rw [e]; exact q
theorem wp_isx {i : Nat} {yes no : List Nat} {d : Option Nat} {ee : Exc} {b : Bool} (e : lookX env i = some ee) (hb : (if yes.contains ee.cls then some true else if no.contains ee.cls then some false else none) = some b) (h : Q (.d (.bool b)) S) : Wp (evE G C (.isx i yes no d) env S) X Q := by
  simp only [evE]
  refine wp_ofO (v := .d (.bool b)) ?_ h
  rw [e, Option.bind_some]
  split at hb
  · rename_i z; rw [if_pos z]; cases hb; rfl
  · rename_i z
    rw [if_neg z]
    split at hb
    · rename_i z; rw [if_pos z]; cases hb; rfl
    · cases hb
/-- a further operation's end -/
@[irreducible] def XV (k : XOp) (x : Val) (vs : List Val) (S : Sto) (X : XP) (Q : Val → Sto → Prop) : Prop := Wp (xopV k x vs S) X Q
/-- a call with values seen as data -/
@[irreducible] def CallOK (C : Runner) (f : Nat) (vs : List Val) (S1 : Sto) (Q : Val → Sto → Prop) : Prop := ∃ ds x S2, allO (vs.map (deepV S1 3)) = some ds ∧ C f (ds.map Val.d) [] = .ok (.d x) S2 ∧ immB x = true ∧ Q (.d x) S1
theorem wp_callP {f : Nat} {es : Es} (h : Wp (evEs G C es env S) X fun vs S1 => CallOK C f vs S1 Q) : Wp (evE G C (.callP f es) env S) X Q := by
  simp only [evE]
  refine wp_bind (h.imp fun vs S1 hc => ?_)
  unfold CallOK at hc
  obtain ⟨ds, x, S2, e1, e2, e3, q⟩ := hc
  unfold callPV
  rw [e1]
  dsimp only
  rw [e2]
  dsimp only
  rw [if_pos e3]
  exact q
theorem wp_mm {k : Bool} {a b : E} (h : Wp (evE G C a env S) X fun x S1 => Wp (evE G C b env S1) X fun y S2 => ∃ i j, x = .d (.int i) ∧ y = .d (.int j) ∧ Q (.d (.int (if k then (if j > i then j else i) else (if j < i then j else i)))) S2) : Wp (evE G C (.mm k a b) env S) X Q := by
  simp only [evE]
  refine wp_bind (h.imp fun x S1 q => wp_bind (q.imp fun y S2 ⟨i, j, e1, e2, q'⟩ => ?_))
  subst e1; subst e2; exact q'
/-- what is sorted: a list, or a tuple without set(..) -/
def seqV (st : Bool) (S : Sto) (x : Val) : Option (List D) := match view S x with
  | some (.list xs) => some xs
  | some (.tuple xs) => match st with
    | false => some xs
    | true => none
  | _ => none
theorem seqV_list {st : Bool} {S : Sto} {x : Val} {xs : List D} (h : view S x = some (.list xs)) : seqV st S x = some xs := by unfold seqV; rw [h]
theorem srtV_of {st nw : Bool} {S : Sto} {x : Val} {xs ys : List D} (h : seqV st S x = some xs) (e : sortX st xs = some ys) : srtV st nw S x = if nw then .ok (.ref S.length) (S ++ [some (.lst (ys.map Val.d))]) else .ok (.d (.list ys)) S := by
  unfold seqV at h
  unfold srtV
  cases q : view S x with
  | none => rw [q] at h; cases h
  | some d =>
    rw [q] at h
    cases d with
    | list l => cases h; dsimp only; rw [e]
    | tuple l =>
      cases st with
      | false => cases h; dsimp only; rw [e]
      | true => cases h
    | _ => cases h
theorem wp_srtD {st : Bool} {a : E} (h : Wp (evE G C a env S) X fun x S1 => ∃ xs ys, seqV st S1 x = some xs ∧ sortX st xs = some ys ∧ Q (.d (.list ys)) S1) : Wp (evE G C (.srt st false a) env S) X Q := by
  simp only [evE]
  refine wp_bind (h.imp fun x S1 ⟨xs, ys, e1, e2, q⟩ => ?_)
  rw [srtV_of e1 e2]
  exact q
theorem wp_srtN {st : Bool} {a : E} (h : Wp (evE G C a env S) X fun x S1 => ∃ xs ys, seqV st S1 x = some xs ∧ sortX st xs = some ys ∧ Q (.ref S1.length) (S1 ++ [some (.lst (ys.map Val.d))])) : Wp (evE G C (.srt st true a) env S) X Q := by
  simp only [evE]
  refine wp_bind (h.imp fun x S1 ⟨xs, ys, e1, e2, q⟩ => ?_)
  rw [srtV_of e1 e2]
  exact q
theorem wp_dget {a k : E} (h : Wp (evE G C a env S) X fun x S1 => Wp (evE G C k env S1) X fun y S2 => ∃ es ks v, dctV S2 x = some es ∧ keyV y = some ks ∧ lookD es ks = some v ∧ Q v S2) : Wp (evE G C (.dget a k) env S) X Q := by
  simp only [evE]
  refine wp_bind (h.imp fun x S1 q => wp_bind (q.imp fun y S2 ⟨es, ks, v, e1, e2, e3, q'⟩ => ?_))
  rw [e1, e2]
  simp only [Option.bind_some]
  rw [e3]
  exact q'
theorem wp_din {neg : Bool} {k a : E} (h : Wp (evE G C k env S) X fun y S1 => Wp (evE G C a env S1) X fun x S2 => ∃ es ks, dctV S2 x = some es ∧ keyV y = some ks ∧ Q (.d (.bool (if neg then !(lookD es ks).isSome else (lookD es ks).isSome))) S2) : Wp (evE G C (.din neg k a) env S) X Q := by
  simp only [evE]
  refine wp_bind (h.imp fun x S1 q => wp_bind (q.imp fun y S2 ⟨es, ks, e1, e2, q'⟩ => ?_))
  rw [e1, e2]
  exact q'
theorem wp_dgetZ {a k z : E} (h : Wp (evE G C a env S) X fun x S1 => (dctV S1 x).isSome = true ∧ Wp (evE G C k env S1) X fun y S2 => Wp (evE G C z env S2) X fun w S3 => ∃ es ks, dctV S3 x = some es ∧ keyV y = some ks ∧ Q ((lookD es ks).getD w) S3) : Wp (evE G C (.dgetZ a k z) env S) X Q := by
  simp only [evE]
  refine wp_bind (h.imp fun x S1 ⟨h1, q⟩ => ?_)
  rw [if_pos h1]
  refine wp_bind (q.imp fun y S2 q => wp_bind (q.imp fun w S3 ⟨es, ks, e1, e2, q'⟩ => ?_))
  rw [e1, e2]
  exact q'
theorem wp_getI {a k z : E} (h : Wp (evE G C a env S) X fun x S1 => isDic x = true ∧ Wp (evE G C k env S1) X fun y S2 => Wp (evE G C z env S2) X fun w S3 => ∃ r, getIV x y w = some r ∧ Q r S3) : Wp (evE G C (.getI a k z) env S) X Q := by
  simp only [evE]
  refine wp_bind (h.imp fun x S1 ⟨h1, q⟩ => ?_)
  rw [if_pos h1]
  refine wp_bind (q.imp fun y S2 q => wp_bind (q.imp fun w S3 ⟨r, e1, q'⟩ => ?_))
  rw [e1]
  exact q'
theorem wp_dict2 {a b c d : E} (h : Wp (evE G C a env S) X fun x S1 => Wp (evE G C b env S1) X fun y S2 => Wp (evE G C c env S2) X fun z S3 => Wp (evE G C d env S3) X fun w S4 => ∃ r, dict2V x y z w = some r ∧ Q r S4) : Wp (evE G C (.dict2 a b c d) env S) X Q := by
  simp only [evE]
  refine wp_bind (h.imp fun x S1 q => wp_bind (q.imp fun y S2 q => wp_bind (q.imp fun z S3 q => wp_bind (q.imp fun w S4 ⟨r, e1, q'⟩ => ?_))))
  rw [e1]
  exact q'
theorem wp_dlen {a : E} (h : Wp (evE G C a env S) X fun x S1 => ∃ es, dctV S1 x = some es ∧ Q (.d (.int es.length)) S1) : Wp (evE G C (.dlen a) env S) X Q := by
  simp only [evE]
  refine wp_bind (h.imp fun x S1 ⟨es, e1, q'⟩ => ?_)
  rw [e1]
  exact q'
theorem wp_dcpy {a : E} (h : Wp (evE G C a env S) X fun x S1 => ∃ es, dctV S1 x = some es ∧ (es.all (fun p => smallK p.1) && decide (es.length ≤ 64)) = true ∧ Q (.ref S1.length) (S1 ++ [some (.dct es)])) : Wp (evE G C (.dcpy a) env S) X Q := by
  simp only [evE]
  refine wp_bind (h.imp fun x S1 ⟨es, e1, e2, q'⟩ => ?_)
  unfold dcpyV
  rw [e1]
  dsimp only
  rw [if_pos e2]
  exact q'
theorem wp_dctN (h : Q (.ref S.length) (S ++ [some (.dct [])])) : Wp (evE G C .dctN env S) X Q := by simp only [evE]; exact h
theorem wp_newc {a : E} (h : Wp (evE G C a env S) X fun v S1 => ∃ ys, v = .d (.list ys) ∧ Q (.ref S1.length) (S1 ++ [some (.lst (ys.map Val.d))])) : Wp (evE G C (.newc a) env S) X Q := by
  simp only [evE]
  refine wp_bind (h.imp fun x S1 ⟨ys, e1, q⟩ => ?_)
  subst e1; exact q
theorem wp_rev {a : E} (h : Wp (evE G C a env S) X fun v S1 => ∃ w, revV v = some w ∧ Q w S1) : Wp (evE G C (.rev a) env S) X Q := by
  simp only [evE]
  refine wp_bind (h.imp fun x S1 ⟨w, e1, q⟩ => ?_)
  rw [e1]; exact q
theorem wp_srtP {a : E} (h : Wp (evE G C a env S) X fun x S1 => ∃ xs ps, view S1 x = some (.list xs) ∧ allO (xs.map isPr) = some ps ∧ ps.length < 64 ∧ Q (.d (.list ((srtP ps).map prD))) S1) : Wp (evE G C (.srtP a) env S) X Q := by
  simp only [evE]
  refine wp_bind (h.imp fun x S1 ⟨xs, ps, e1, e2, e3, q⟩ => ?_)
  unfold srtPV
  rw [e1]
  dsimp only
  rw [e2]
  dsimp only
  rw [if_pos e3]
  exact q
theorem wp_callL {fs : List Nat} {i : E} {es : Es} (h : Wp (evE G C i env S) X fun y S1 => ∃ f, pickF fs y = some f ∧ Wp (evEs G C es env S1) X fun vs S2 => Wp (C f vs S2) X Q) : Wp (evE G C (.callL fs i es) env S) X Q := by
  simp only [evE]
  refine wp_bind (h.imp fun y S1 ⟨f, e1, q⟩ => ?_)
  rw [e1]
  dsimp only
  exact wp_bind q
theorem wp_xop {k : XOp} {a : E} {es : Es} (h : Wp (evE G C a env S) X fun x S1 => xopPre k S1 x = true ∧ Wp (evEs G C es env S1) X fun vs S2 => XV k x vs S2 X Q) : Wp (evE G C (.xop k a es) env S) X Q := by
  simp only [evE]
  refine wp_bind (h.imp fun x S1 ⟨h1, q⟩ => ?_)
  rw [if_pos h1]
  exact wp_bind (q.imp fun vs S2 q2 => by unfold XV at q2; exact q2)
theorem xv_lzip {x y w : Val} (e : lzV x y = some w) (h : Q w S) : XV .lzip x [y] S X Q := by
  unfold XV
  simp only [xopV, e]; exact h
theorem wp_lenSet {a : E} (h : Wp (evE G C a env S) X fun x S1 => ∃ xs ns, view S1 x = some (.list xs) ∧ allI xs = some ns ∧ ns.length ≤ 4000 ∧ Q (.d (.int (firsts ns).length)) S1) : Wp (evE G C (.lenSet a) env S) X Q := by
  simp only [evE]
  refine wp_bind (h.imp fun x S1 ⟨xs, ns, e1, e2, e3, q⟩ => ?_)
  simp only [e1, e2, Option.bind_some, e3, if_true]; exact q
theorem wp_dictOf {a : E} (h : Wp (evE G C a env S) X fun x S1 => ∃ xs kvs, view S1 x = some (.list xs) ∧ allPairs xs = some kvs ∧ Q (.d (.dict (mergeI kvs))) S1) : Wp (evE G C (.dictOf a) env S) X Q := by
  simp only [evE]
  refine wp_bind (h.imp fun x S1 ⟨xs, ns, e1, e2, q⟩ => ?_)
  simp only [e1, e2, Option.map_some]; exact q
theorem wp_dict1 {a b : E} (h : Wp (evE G C a env S) X fun x S1 => Wp (evE G C b env S1) X fun y S2 => ∃ i z, x = .d (.int i) ∧ y = .d z ∧ Q (.d (.dict [(.int i, z)])) S2) : Wp (evE G C (.dict1 a b) env S) X Q := by
  simp only [evE]
  refine wp_bind (h.imp fun x S1 q => wp_bind (q.imp fun y S2 ⟨i, z, e1, e2, q'⟩ => ?_))
  subst e1; subst e2; exact q'
theorem wp_dict0 (h : Q (.d (.dict [])) S) : Wp (evE G C .dict0 env S) X Q := by simp only [evE]; exact h
theorem wp_fz {a : E} (h : Wp (evE G C a env S) X fun v S1 => Wp (fzV v S1) X Q) : Wp (evE G C (.fz a) env S) X Q := by
  simp only [evE]; exact wp_bind h
theorem wp_fzR {n : Nat} {vs : List Val} {ds : List D} (e : stGet S n = some (.lst vs)) (e2 : pureVs vs = some ds) (h : Q (.d (.list ds)) (S.set n none)) : Wp (fzV (.ref n) S) X Q := by
  simp only [fzV, e, e2]; exact h
/-! ### iterables -/
theorem wp_over {e : E} {Q : List Val × List Nat → Sto → Prop} (h : Wp (evE G C e env S) X fun v S1 => ∃ p, itemsV S1 v = some p ∧ Q p S1) : Wp (evI G C (.over e) env S) X Q := by
  simp only [evI]
  refine wp_bind (h.imp fun x S1 ⟨w, e, q⟩ => ?_)
  rw [e]; exact q
theorem wp_range1 {e : E} {Q : List Val × List Nat → Sto → Prop} (h : Wp (evE G C e env S) X fun v S1 => ∃ n, v = .d (.int n) ∧ (n ≤ 16777216 ∧ -16777216 ≤ n) ∧ Q (rangeVs 0 n, []) S1) : Wp (evI G C (.range1 e) env S) X Q := by
  simp only [evI]
  refine wp_bind (h.imp fun x S1 ⟨n, e, hn, q⟩ => ?_)
  subst e
  simp only [hn, and_self, if_true]; exact q
theorem wp_range2 {a b : E} {Q : List Val × List Nat → Sto → Prop} (h : Wp (evE G C a env S) X fun x S1 => Wp (evE G C b env S1) X fun y S2 => ∃ i j, x = .d (.int i) ∧ y = .d (.int j) ∧ (-8388608 ≤ i ∧ i ≤ 8388608 ∧ -8388608 ≤ j ∧ j ≤ 8388608) ∧ Q (rangeVs i j, []) S2) : Wp (evI G C (.range2 a b) env S) X Q := by
  simp only [evI]
  refine wp_bind (h.imp fun x S1 q => wp_bind (q.imp fun y S2 ⟨i, j, e1, e2, hn, q'⟩ => ?_))
  subst e1; subst e2
  simp only [hn, and_self, if_true]; exact q'
theorem wp_enum {e : E} {Q : List Val × List Nat → Sto → Prop} (h : Wp (evE G C e env S) X fun v S1 => ∃ p, pureItems S1 v = some p ∧ Q (enumD p.1, p.2) S1) : Wp (evI G C (.enum e) env S) X Q := by
  simp only [evI]
  refine wp_bind (h.imp fun x S1 ⟨w, e, q⟩ => ?_)
  rw [e]; exact q
theorem wp_zip {a b : E} {Q : List Val × List Nat → Sto → Prop} (h : Wp (evE G C a env S) X fun x S1 => Wp (evE G C b env S1) X fun y S2 => ∃ p, zipV S2 x y = some p ∧ Q p S2) : Wp (evI G C (.zip a b) env S) X Q := by
  simp only [evI]
  refine wp_bind (h.imp fun x S1 q => wp_bind (q.imp fun y S2 ⟨p, e1, q⟩ => ?_))
  rw [e1]; exact q
theorem wp_items {e : E} {Q : List Val × List Nat → Sto → Prop} (h : Wp (evE G C e env S) X fun v S1 => ∃ n es ds, v = .ref n ∧ stGet S1 n = some (.dct es) ∧ allO (es.map itemD) = some ds ∧ Q (ds.map Val.d, []) (S1.set n none)) : Wp (evI G C (.items e) env S) X Q := by
  simp only [evI]
  refine wp_bind (h.imp fun x S1 ⟨n, es, ds, e1, e2, e3, q⟩ => ?_)
  subst e1
  unfold itemsDV
  dsimp only
  rw [e2]
  dsimp only
  rw [e3]
  exact q
/-! ### comprehensions -/
def turnC (G : List D) (C : Runner) (own : List Nat) (tg : Tg) (cs : Es) (elt : E) (env : MS.Env) (x : Val) (S : Sto) : R (Option D) :=
  match setTg tg x (wipeE env own) with
  | some e2 => ((evCs G C cs e2 S).bind fun k S1 => if k then (evE G C elt e2 S1).bind fun y S2 => .ofO ((match y with | .d y => some (some y) | _ => Option.none)) S2 else .ok Option.none S1).noexc
  | Option.none => .stuck
theorem wp_comp {own : List Nat} {tg : Tg} {it : It} {cs : Es} {elt : E} (h : Wp (evI G C it env S) X fun p S1 => Wp (compL (turnC G C own tg cs elt env) p.1 (lockS S1 p.2)) X fun ys S2 => Q (.d (.list ys)) (unlockS S1 S2 p.2)) : Wp (evE G C (.comp own tg it cs elt) env S) X Q := by
  simp only [evE]
  exact wp_bind (h.imp fun p S1 q => wp_bind q)
theorem wp_turn {own : List Nat} {tg : Tg} {cs : Es} {elt : E} {x : Val} {e2 : MS.Env} {Q : Option D → Sto → Prop} (he : setTg tg x (wipeE env own) = some e2) (h : Wp (evCs G C cs e2 S) noX fun k S1 => if k then Wp (evE G C elt e2 S1) noX fun y S2 => ∃ z, y = .d z ∧ Q (some z) S2 else Q none S1) : Wp (turnC G C own tg cs elt env x S) X Q := by
  unfold turnC
  rw [he]
  dsimp only
  have : Wp ((evCs G C cs e2 S).bind fun k S1 => if k then (evE G C elt e2 S1).bind fun y S2 => .ofO ((match y with | .d y => some (some y) | _ => Option.none)) S2 else .ok Option.none S1) noX Q := by
    refine wp_bind (h.imp fun k S1 q => ?_)
    cases k with
    | false => exact q
    | true =>
      simp only [if_true] at q ⊢
      refine wp_bind (q.imp fun y S2 ⟨z, e, q⟩ => ?_)
      subst e; exact q
  obtain ⟨v, S', e, q⟩ := this.ex
  rw [e]; exact q
theorem wp_cs0 {Q : Bool → Sto → Prop} (h : Q true S) : Wp (evCs G C .nil env S) X Q := by simp only [evCs]; exact h
theorem wp_cs1 {e : E} {Q : Bool → Sto → Prop} (h : Wp (evE G C e env S) X fun v S1 => ∃ b, truthV S1 v = some b ∧ Q b S1) : Wp (evCs G C (.cons e .nil) env S) X Q := by
  simp only [evCs]
  refine wp_bind (h.imp fun x S1 ⟨b, e, q⟩ => ?_)
  rw [e]; exact q
/-- no turn changes the store, each gives f x -/
theorem compL_map {f : Val → Sto → R (Option D)} {g : Val → Option D} {S : Sto} : ∀ (xs : List Val), (∀ x ∈ xs, f x S = .ok (g x) S) → compL f xs S = .ok (xs.filterMap g) S
  | [], _ => rfl
  | x :: xs, h => by
    unfold compL
    rw [h x (by simp), R.bind_ok, compL_map xs fun y hy => h y (by simp [hy]), R.bind_ok]
    cases e : g x with
    | none => simp [List.filterMap_cons, e]
    | some y => simp [List.filterMap_cons, e]
theorem wp_compL {f : Val → Sto → R (Option D)} {I : List Val → List D → Sto → Prop} {Q : List D → Sto → Prop} {xs : List Val} (h0 : I xs [] S) (hs : ∀ x r acc S, I (x :: r) acc S → Wp (f x S) X fun o S1 => I r (match o with | some y => acc ++ [y] | none => acc) S1) (hd : ∀ acc S, I [] acc S → Q acc S) : Wp (compL f xs S) X Q := by
  have g : ∀ (xs : List Val) (acc : List D) (S : Sto), I xs acc S → Wp (compL f xs S) X fun ys S' => Q (acc ++ ys) S' := by
    intro xs
    induction xs with
    | nil => intro acc S h; simp only [compL]; exact wp_ok (by simpa using hd acc S h)
    | cons x xs ih =>
      intro acc S h
      unfold compL
      refine wp_bind ((hs x xs acc S h).imp fun o S1 q => wp_bind ((ih _ S1 q).imp fun ys S2 q2 => ?_))
      cases o with
      | none => exact q2
      | some y => show Q (acc ++ (y :: ys)) S2; simpa using q2
  have := g xs [] S h0
  exact this.imp fun ys S' q => by simpa using q
end
/-! ### statements -/
section
variable {G : List D} {C : Runner} {env : MS.Env} {S : Sto} {D' : En}
def En.x (D : En) (env : MS.Env) : XP := fun e S => D.ex e env S
theorem ws_ofR {α : Type} {r : R α} {f : α → Sto → RS} (h : Wp r (D'.x env) fun v S1 => Ws (f v S1) D') : Ws (RS.ofR env r f) D' := by
  cases r with
  | ok v S => exact h
  | exc _ _ => exact h
  | stuck => exact h
theorem ws_nil (h : D'.nx env S) : Ws (exSs G C .nil env S) D' := by simp only [exSs]; exact h
theorem ws_cons {s : MS.St} {ss : Sts} (h : Ws (exS G C s env S) (D'.nxt fun env1 S1 => Ws (exSs G C ss env1 S1) D')) : Ws (exSs G C (.cons s ss) env S) D' := by
  simp only [exSs]
  cases q : exS G C s env S <;> rw [q] at h <;> exact h
/-- a cut behind a statement -/
theorem ws_join {s : MS.St} {ss : Sts} (J : MS.Env → Sto → Prop) (h1 : Ws (exS G C s env S) (D'.nxt J)) (h2 : ∀ env S, J env S → Ws (exSs G C ss env S) D') : Ws (exSs G C (.cons s ss) env S) D' := by
  simp only [exSs]
  cases q : exS G C s env S <;> rw [q] at h1 <;> first | exact h1 | exact h2 _ _ h1
theorem ws_set {i : Nat} {e : E} (h : Wp (evE G C e env S) (D'.x env) fun v S1 => D'.nx (env.set i (some v)) S1) : Ws (exS G C (.set i e) env S) D' := by simp only [exS]; exact ws_ofR h
theorem ws_setc {i : Nat} {e : E} (h : Wp (evE G C e env S) (D'.x env) fun v S1 => D'.nx (env.set i (some v)) S1) : Ws (exS G C (.setc i e) env S) D' := by simp only [exS]; exact ws_ofR h
theorem ws_unp {ts : Tgs} {e : E} (h : Wp (evE G C e env S) (D'.x env) fun v S1 => ∃ env1, setTg (.tup ts) v env = some env1 ∧ D'.nx env1 S1) : Ws (exS G C (.unp ts e) env S) D' := by
  simp only [exS]
  refine ws_ofR (h.imp fun v S1 ⟨env1, e, q⟩ => ?_)
  rw [e]; exact q
theorem ws_par {ts : List Nat} {es : Es} (h : Wp (evEs G C es env S) (D'.x env) fun vs S1 => vs.length = ts.length ∧ D'.nx ((ts.zip vs).foldl (fun env p => env.set p.1 (some p.2)) env) S1) : Ws (exS G C (.par ts es) env S) D' := by
  simp only [exS]
  refine ws_ofR (h.imp fun vs S1 ⟨e, q⟩ => ?_)
  rw [if_pos e]; exact q
theorem ws_setix {a i e : E} (h : Wp (evE G C e env S) (D'.x env) fun v S1 => Wp (evE G C a env S1) (D'.x env) fun x S2 => Wp (evE G C i env S2) (D'.x env) fun y S3 => ∃ n j vs k, x = .ref n ∧ y = .d (.int j) ∧ stGet S3 n = some (.lst vs) ∧ ixOf vs.length j = some k ∧ D'.nx env (S3.set n (some (.lst (vs.set k v))))) : Ws (exS G C (.setix a i e) env S) D' := by
  simp only [exS]
  refine ws_ofR (h.imp fun v S1 q => ws_ofR (q.imp fun x S2 q => ws_ofR (q.imp fun y S3 ⟨n, j, vs, k, e1, e2, e3, e4, q'⟩ => ?_)))
  subst e1; subst e2
  simp only [sixV, e3, e4]; exact q'
theorem ws_st2 {a i b j : E} {es : Es} (h : Wp (evEs G C es env S) (D'.x env) fun us S1 => ∃ v w, us = [v, w] ∧ Wp (evE G C a env S1) (D'.x env) fun x S2 => Wp (evE G C i env S2) (D'.x env) fun y S3 => ∃ n p vs k, x = .ref n ∧ y = .d (.int p) ∧ stGet S3 n = some (.lst vs) ∧ ixOf vs.length p = some k ∧ Wp (evE G C b env (S3.set n (some (.lst (vs.set k v))))) (D'.x env) fun x2 S5 => Wp (evE G C j env S5) (D'.x env) fun y2 S6 => ∃ n2 p2 vs2 k2, x2 = .ref n2 ∧ y2 = .d (.int p2) ∧ stGet S6 n2 = some (.lst vs2) ∧ ixOf vs2.length p2 = some k2 ∧ D'.nx env (S6.set n2 (some (.lst (vs2.set k2 w))))) : Ws (exS G C (.st2 a i b j es) env S) D' := by
  simp only [exS]
  refine ws_ofR (h.imp fun us S1 ⟨v, w, e0, q⟩ => ?_)
  subst e0
  refine ws_ofR (q.imp fun x S2 q1 => ws_ofR (q1.imp fun y S3 ⟨n, p, vs, k, e1, e2, e3, e4, q2⟩ => ?_))
  subst e1; subst e2
  simp only [sixV, e3, e4, RS.seq_nx]
  refine ws_ofR (q2.imp fun x2 S5 q3 => ws_ofR (q3.imp fun y2 S6 ⟨n2, p2, vs2, k2, f1, f2, f3, f4, q4⟩ => ?_))
  subst f1; subst f2
  simp only [f3, f4]
  exact q4
theorem ws_setk {a e : E} {ks : Es} (h : Wp (evE G C e env S) (D'.x env) fun v S1 => Wp (evE G C a env S1) (D'.x env) fun x S2 => Wp (evEs G C ks env S2) (D'.x env) fun kv S3 => ∃ n ds is es, x = .ref n ∧ pureVs kv = some ds ∧ allI ds = some is ∧ stGet S3 n = some (.dct es) ∧ (es.length < sLine ∧ is.length ≤ 1000) ∧ D'.nx env (S3.set n (some (.dct (putD es is v))))) : Ws (exS G C (.setk a ks e) env S) D' := by
  simp only [exS]
  refine ws_ofR (h.imp fun v S1 q => ws_ofR (q.imp fun x S2 q => ws_ofR (q.imp fun kv S3 ⟨n, ds, is, es, e1, e2, e3, e4, e5, q'⟩ => ?_)))
  subst e1
  unfold setkV
  rw [e2, Option.bind_some, e3]
  dsimp only
  rw [e4]
  dsimp only
  rw [if_pos e5]
  exact q'
theorem ws_setd {a k e : E} (h : Wp (evE G C e env S) (D'.x env) fun v S1 => Wp (evE G C a env S1) (D'.x env) fun x S2 => Wp (evE G C k env S2) (D'.x env) fun y S3 => ∃ n ks es, x = .ref n ∧ keyV y = some ks ∧ stGet S3 n = some (.dct es) ∧ (es.length < sLine ∧ ks.length ≤ 1000) ∧ D'.nx env (S3.set n (some (.dct (putD es ks v))))) : Ws (exS G C (.setd a k e) env S) D' := by
  simp only [exS]
  refine ws_ofR (h.imp fun v S1 q => ws_ofR (q.imp fun x S2 q => ws_ofR (q.imp fun y S3 ⟨n, ks, es, e1, e2, e3, e4, q'⟩ => ?_)))
  subst e1
  unfold setdV
  rw [e2]
  dsimp only
  rw [e3]
  dsimp only
  rw [if_pos e4]
  exact q'
theorem ws_expr {e : E} (h : Wp (evE G C e env S) (D'.x env) fun _ S1 => D'.nx env S1) : Ws (exS G C (.expr e) env S) D' := by simp only [exS]; exact ws_ofR h
theorem ws_app {a e : E} (h : Wp (evE G C a env S) (D'.x env) fun x S1 => isLst S1 x = true ∧ Wp (evE G C e env S1) (D'.x env) fun v S2 => ∃ n vs, x = .ref n ∧ stGet S2 n = some (.lst vs) ∧ vs.length < sLine ∧ D'.nx env (S2.set n (some (.lst (vs ++ [v]))))) : Ws (exS G C (.app a e) env S) D' := by
  simp only [exS]
  refine ws_ofR (h.imp fun x S1 ⟨hl, q⟩ => ?_)
  rw [if_pos hl]
  refine ws_ofR (q.imp fun v S2 ⟨n, vs, e1, e2, e3, q'⟩ => ?_)
  subst e1
  simp only [appV, e2, e3, if_true]; exact q'
theorem ws_ext {a e : E} (h : Wp (evE G C a env S) (D'.x env) fun x S1 => isLst S1 x = true ∧ Wp (evE G C e env S1) (D'.x env) fun v S2 => ∃ n vs ys, x = .ref n ∧ view S2 v = some (.list ys) ∧ stGet S2 n = some (.lst vs) ∧ vs.length + ys.length ≤ sLine ∧ D'.nx env (S2.set n (some (.lst (vs ++ ys.map Val.d))))) : Ws (exS G C (.ext a e) env S) D' := by
  simp only [exS]
  refine ws_ofR (h.imp fun x S1 ⟨hl, q⟩ => ?_)
  rw [if_pos hl]
  refine ws_ofR (q.imp fun v S2 ⟨n, vs, ys, e1, e2, e3, e4, q'⟩ => ?_)
  subst e1
  simp only [extV, e2, e3, e4, if_true]; exact q'
theorem ws_if {c : E} {t f : Sts} (h : Wp (evE G C c env S) (D'.x env) fun v S1 => ∃ b, truthV S1 v = some b ∧ if b then Ws (exSs G C t env S1) D' else Ws (exSs G C f env S1) D') : Ws (exS G C (.ifs c t f) env S) D' := by
  simp only [exS, evT]
  refine ws_ofR (wp_bind (h.imp fun v S1 ⟨b, e, q⟩ => ?_))
  rw [e]
  show Ws (if b = true then _ else _) _
  cases b <;> exact q
theorem ws_ret {e : E} (h : Wp (evE G C e env S) (D'.x env) fun v S1 => D'.rt v S1) : Ws (exS G C (.ret e) env S) D' := by simp only [exS]; exact ws_ofR h
theorem ws_raise {c : Nat} {m : Str} (h : D'.ex ⟨c, []⟩ env S) : Ws (exS G C (.raise c m) env S) D' := by simp only [exS]; exact h
theorem ws_tri {b hh : Sts} {i : Nat} {yes no : List Nat} {d : Nat} (h : Ws (exSs G C b env S) { nx := D'.nx, rt := D'.rt, bk := D'.bk, ct := D'.ct, ex := fun e env1 S1 => noExn env1 = true ∧ e.args = [] ∧
      ((yes.contains e.cls = true ∧ Ws (exSs G C hh (env1.set i (some (.exn e))) S1) { nx := fun env2 S2 => noExn (env2.set i none) = true ∧ D'.nx (env2.set i none) S2, rt := D'.rt }) ∨ (yes.contains e.cls = false ∧ no.contains e.cls = true ∧ D'.ex e env1 S1)) }) : Ws (exS G C (.tri b i yes no d hh) env S) D' := by
  simp only [exS]
  unfold triS
  dsimp only
  cases q : exSs G C b env S with
  | stuck => rw [q] at h; exact h
  | nx _ _ => rw [q] at h; exact h
  | ret _ _ => rw [q] at h; exact h
  | brk _ _ => rw [q] at h; exact h
  | cnt _ _ => rw [q] at h; exact h
  | exc e env1 S1 =>
    rw [q] at h
    obtain ⟨h1, h2, h3⟩ := h
    dsimp only
    rw [if_pos (by rw [h1, h2]; rfl)]
    rcases h3 with ⟨h3, h4⟩ | ⟨h3, h4, h5⟩
    · rw [if_pos h3]
      cases q2 : exSs G C hh (env1.set i (some (.exn e))) S1 <;> rw [q2] at h4
      · exact h4
      · unfold sufS; dsimp only; rw [if_pos h4.1]; exact h4.2
      · exact h4
      · exact h4.elim
      · exact h4.elim
      · exact h4.elim
    · rw [if_neg (by rw [h3]; exact Bool.false_ne_true), if_pos h4]; exact h5
theorem ws_pass (h : D'.nx env S) : Ws (exS G C .pass env S) D' := by simp only [exS]; exact h
theorem ws_brk (h : D'.bk env S) : Ws (exS G C .brk env S) D' := by simp only [exS]; exact h
theorem ws_cnt (h : D'.ct env S) : Ws (exS G C .cnt env S) D' := by simp only [exS]; exact h
/-- a for: the invariant by what is left -/
theorem ws_for {tg : Tg} {it : It} {b : Sts} (h : Wp (evI G C it env S) (D'.x env) fun p S1 => ∃ I : List Val → MS.Env → Sto → Prop, I p.1 env (lockS S1 p.2) ∧
      (∀ x r env S, I (x :: r) env S → ∃ env1, setTg tg x env = some env1 ∧ Ws (exSs G C b env1 S) (D'.turn (I r) S1 p.2)) ∧
      ∀ env S, I [] env S → D'.nx env (unlockS S1 S p.2)) : Ws (exS G C (.fors tg it b) env S) D' := by
  simp only [exS]
  refine ws_ofR (h.imp fun p S1 ⟨I, h0, hs, hd⟩ => ?_)
  have g : ∀ (xs : List Val) (env : MS.Env) (S : Sto), I xs env S → Ws ((forL (fun x env S => match setTg tg x env with | some env1 => exSs G C b env1 S | none => .stuck) xs env S).relock S1 p.2) D' := by
    intro xs
    induction xs with
    | nil => intro env S h; exact hd env S h
    | cons x xs ih =>
      intro env S h
      obtain ⟨env1, e1, q⟩ := hs x xs env S h
      unfold forL
      rw [e1]
      dsimp only
      cases q2 : exSs G C b env1 S <;> rw [q2] at q
      · exact q.elim
      · exact ih _ _ q
      · exact q
      · exact q
      · exact ih _ _ q
      · exact q
  exact g p.1 env _ h0
/-- a while: the invariant, a measure below the fuel -/
theorem ws_while {n : Nat} {c : E} {b : Sts} (I : MS.Env → Sto → Prop) (μ : MS.Env → Sto → Nat) (h0 : I env S) (hn : μ env S < n)
    (hs : ∀ env S, I env S → Wp (evE G C c env S) (D'.x env) fun v S1 => ∃ k, truthV S1 v = some k ∧ if k then Ws (exSs G C b env S1) (D'.lap fun env2 S2 => I env2 S2 ∧ μ env2 S2 < μ env S) else D'.nx env S1) : Ws (exS G C (.whil n c b) env S) D' := by
  simp only [exS]
  have g : ∀ (n : Nat) (env : MS.Env) (S : Sto), I env S → μ env S < n → Ws (whileL (fun env S => evT G C c env S) (fun env S => exSs G C b env S) n env S) D' := by
    intro n
    induction n with
    | zero => intro env S _ h; omega
    | succ n ih =>
      intro env S h hm
      unfold whileL
      refine ws_ofR ?_
      unfold evT
      refine wp_bind ((hs env S h).imp fun v S1 ⟨k, e, q⟩ => ?_)
      rw [e]
      show Ws (if k = true then _ else _) _
      cases k with
      | false => exact q
      | true =>
        simp only [if_true] at q ⊢
        cases q2 : exSs G C b env S1 <;> rw [q2] at q
        · exact q.elim
        · exact ih _ _ q.1 (by have := q.2; omega)
        · exact q
        · exact q
        · exact ih _ _ q.1 (by have := q.2; omega)
        · exact q
  exact g n env S h0 hn
end
/-! ### a def -/
theorem wp_run {G : List D} {P : Nat → Fn} {k i : Nat} {vs : List Val} {S : Sto} {X : XP} {Q : Val → Sto → Prop} {f : Fn} (hf : P i = f) (hl : vs.length = f.params)
    (h : Ws (exSs G (MS.run G P k) f.body (vs.map some ++ List.replicate (f.slots - vs.length) none) S) (En.fn S X Q)) : Wp (MS.run G P (k + 1) i vs S) X Q := by
  unfold MS.run
  rw [hf, if_pos hl]
  cases q : exSs G (MS.run G P k) f.body (vs.map some ++ List.replicate (f.slots - vs.length) none) S <;> rw [q] at h <;> exact h
end MS

-- MsWx
/-! The same rules over names that are never unfolded. (Printed by mkwp.py.) -/
namespace MS
open PySem
@[irreducible] def xE (G : List D) (C : Runner) (e : E) (env : MS.Env) (S : Sto) : R Val := evE G C e env S
@[irreducible] def xEs (G : List D) (C : Runner) (e : Es) (env : MS.Env) (S : Sto) : R (List Val) := evEs G C e env S
@[irreducible] def xB (G : List D) (C : Runner) (k : Bool) (e : Es) (env : MS.Env) (S : Sto) : R Val := evB G C k e env S
@[irreducible] def xI (G : List D) (C : Runner) (e : It) (env : MS.Env) (S : Sto) : R (List Val × List Nat) := evI G C e env S
@[irreducible] def xO (G : List D) (C : Runner) (e : Oe) (env : MS.Env) (S : Sto) : R (Option Int) := evO G C e env S
@[irreducible] def xCs (G : List D) (C : Runner) (e : Es) (env : MS.Env) (S : Sto) : R Bool := evCs G C e env S
@[irreducible] def xS (G : List D) (C : Runner) (s : MS.St) (env : MS.Env) (S : Sto) : RS := exS G C s env S
@[irreducible] def xSs (G : List D) (C : Runner) (s : Sts) (env : MS.Env) (S : Sto) : RS := exSs G C s env S
@[irreducible] def xT (G : List D) (C : Runner) (own : List Nat) (tg : Tg) (cs : Es) (elt : E) (env : MS.Env) (x : Val) (S : Sto) : R (Option D) := turnC G C own tg cs elt env x S
@[irreducible] def xF (v : Val) (S : Sto) : R Val := fzV v S
@[irreducible] def xL (f : Val → Sto → R (Option D)) (xs : List Val) (S : Sto) : R (List D) := compL f xs S
@[irreducible] def W {α : Type} (r : R α) (X : XP) (Q : α → Sto → Prop) : Prop := Wp r X Q
@[irreducible] def Z (r : RS) (D : En) : Prop := Ws r D

theorem xE_d : @xE = @evE := by funext; unfold xE; rfl
theorem xEs_d : @xEs = @evEs := by funext; unfold xEs; rfl
theorem xB_d : @xB = @evB := by funext; unfold xB; rfl
theorem xI_d : @xI = @evI := by funext; unfold xI; rfl
theorem xO_d : @xO = @evO := by funext; unfold xO; rfl
theorem xCs_d : @xCs = @evCs := by funext; unfold xCs; rfl
theorem xS_d : @xS = @exS := by funext; unfold xS; rfl
theorem xSs_d : @xSs = @exSs := by funext; unfold xSs; rfl
theorem xT_d : @xT = @turnC := by funext; unfold xT; rfl
theorem xF_d : @xF = @fzV := by funext; unfold xF; rfl
theorem xL_d : @xL = @compL := by funext; unfold xL; rfl
theorem W_d {α : Type} : @W α = @Wp α := by funext; unfold W; rfl
theorem Z_d : @Z = @Ws := by funext; unfold Z; rfl
theorem W.ok {α : Type} {r : R α} {v : α} {S : Sto} (h : W r noX fun v' S' => v' = v ∧ S' = S) : r = .ok v S := by
  simp only [xE_d, xEs_d, xB_d, xI_d, xO_d, xCs_d, xS_d, xSs_d, xT_d, xF_d, xL_d, W_d, Z_d] at *
  apply Wp.ok <;> assumption
theorem W.ex {α : Type} {r : R α} {Q : α → Sto → Prop} (h : W r noX Q) : ∃ v S, r = .ok v S ∧ Q v S := by
  simp only [xE_d, xEs_d, xB_d, xI_d, xO_d, xCs_d, xS_d, xSs_d, xT_d, xF_d, xL_d, W_d, Z_d] at *
  apply Wp.ex <;> assumption
theorem W.of {α : Type} {r : R α} {X : XP} {Q : α → Sto → Prop} {v : α} {S : Sto} (h : r = .ok v S) (q : Q v S) : W r X Q := by
  simp only [xE_d, xEs_d, xB_d, xI_d, xO_d, xCs_d, xS_d, xSs_d, xT_d, xF_d, xL_d, W_d, Z_d] at *
  apply Wp.of <;> assumption
theorem W.imp {α : Type} {r : R α} {X : XP} {Q Q' : α → Sto → Prop} (h : W r X Q) (k : ∀ v S, Q v S → Q' v S) : W r X Q' := by
  simp only [xE_d, xEs_d, xB_d, xI_d, xO_d, xCs_d, xS_d, xSs_d, xT_d, xF_d, xL_d, W_d, Z_d] at *
  apply Wp.imp <;> assumption
theorem W.imp2 {α : Type} {r : R α} {X X' : XP} {Q Q' : α → Sto → Prop} (h : W r X Q) (k : ∀ v S, Q v S → Q' v S) (kx : ∀ e S, X e S → X' e S) : W r X' Q' := by
  simp only [xE_d, xEs_d, xB_d, xI_d, xO_d, xCs_d, xS_d, xSs_d, xT_d, xF_d, xL_d, W_d, Z_d] at *
  apply Wp.imp2 <;> assumption
theorem zwp_bind {α β : Type} {r : R α} {f : α → Sto → R β} {X : XP} {Q : β → Sto → Prop} (h : W r X fun v S => W (f v S) X Q) : W (r.bind f) X Q := by
  simp only [xE_d, xEs_d, xB_d, xI_d, xO_d, xCs_d, xS_d, xSs_d, xT_d, xF_d, xL_d, W_d, Z_d] at *
  apply wp_bind <;> assumption
theorem zwp_ok {α : Type} {v : α} {S : Sto} {X : XP} {Q : α → Sto → Prop} (h : Q v S) : W (.ok v S) X Q := by
  simp only [xE_d, xEs_d, xB_d, xI_d, xO_d, xCs_d, xS_d, xSs_d, xT_d, xF_d, xL_d, W_d, Z_d] at *
  apply wp_ok <;> assumption
theorem zwp_ofO {α : Type} {o : Option α} {v : α} {S : Sto} {X : XP} {Q : α → Sto → Prop} (e : o = some v) (h : Q v S) : W (R.ofO o S) X Q := by
  simp only [xE_d, xEs_d, xB_d, xI_d, xO_d, xCs_d, xS_d, xSs_d, xT_d, xF_d, xL_d, W_d, Z_d] at *
  apply wp_ofO <;> assumption
section
variable {G : List D} {C : Runner} {env : MS.Env} {S : Sto} {X : XP} {Q : Val → Sto → Prop}
theorem zwp_var {i : Nat} {v : Val} (e : lookE env i = some v) (h : Q v S) : W (xE G C (.var i) env S) X Q := by
  simp only [xE_d, xEs_d, xB_d, xI_d, xO_d, xCs_d, xS_d, xSs_d, xT_d, xF_d, xL_d, W_d, Z_d] at *
  apply wp_var <;> assumption
theorem zwp_glob {g : Nat} {d : D} (e : litI G g = some d) (h : Q (.d d) S) : W (xE G C (.glob g) env S) X Q := by
  simp only [xE_d, xEs_d, xB_d, xI_d, xO_d, xCs_d, xS_d, xSs_d, xT_d, xF_d, xL_d, W_d, Z_d] at *
  apply wp_glob <;> assumption
theorem zwp_none (h : Q (.d .none) S) : W (xE G C .none env S) X Q := by
  simp only [xE_d, xEs_d, xB_d, xI_d, xO_d, xCs_d, xS_d, xSs_d, xT_d, xF_d, xL_d, W_d, Z_d] at *
  apply wp_none <;> assumption
theorem zwp_bool {b : Bool} (h : Q (.d (.bool b)) S) : W (xE G C (.bool b) env S) X Q := by
  simp only [xE_d, xEs_d, xB_d, xI_d, xO_d, xCs_d, xS_d, xSs_d, xT_d, xF_d, xL_d, W_d, Z_d] at *
  apply wp_bool <;> assumption
theorem zwp_int {b : Int} (h : Q (.d (.int b)) S) : W (xE G C (.int b) env S) X Q := by
  simp only [xE_d, xEs_d, xB_d, xI_d, xO_d, xCs_d, xS_d, xSs_d, xT_d, xF_d, xL_d, W_d, Z_d] at *
  apply wp_int <;> assumption
theorem zwp_str {b : Str} (h : Q (.d (.str b)) S) : W (xE G C (.str b) env S) X Q := by
  simp only [xE_d, xEs_d, xB_d, xI_d, xO_d, xCs_d, xS_d, xSs_d, xT_d, xF_d, xL_d, W_d, Z_d] at *
  apply wp_str <;> assumption
theorem zwp_tup {es : Es} (h : W (xEs G C es env S) X fun vs S1 => ∃ ds, pureVs vs = some ds ∧ Q (.d (.tuple ds)) S1) : W (xE G C (.tup es) env S) X Q := by
  simp only [xE_d, xEs_d, xB_d, xI_d, xO_d, xCs_d, xS_d, xSs_d, xT_d, xF_d, xL_d, W_d, Z_d] at *
  apply wp_tup <;> assumption
theorem zwp_lst {es : Es} (h : W (xEs G C es env S) X fun vs S1 => ∃ ds, pureVs vs = some ds ∧ Q (.d (.list ds)) S1) : W (xE G C (.lst es) env S) X Q := by
  simp only [xE_d, xEs_d, xB_d, xI_d, xO_d, xCs_d, xS_d, xSs_d, xT_d, xF_d, xL_d, W_d, Z_d] at *
  apply wp_lst <;> assumption
theorem zwp_lstN {es : Es} (h : W (xEs G C es env S) X fun vs S1 => Q (.ref S1.length) (S1 ++ [some (.lst vs)])) : W (xE G C (.lstN es) env S) X Q := by
  simp only [xE_d, xEs_d, xB_d, xI_d, xO_d, xCs_d, xS_d, xSs_d, xT_d, xF_d, xL_d, W_d, Z_d] at *
  apply wp_lstN <;> assumption
theorem zwp_nil {Q : List Val → Sto → Prop} (h : Q [] S) : W (xEs G C .nil env S) X Q := by
  simp only [xE_d, xEs_d, xB_d, xI_d, xO_d, xCs_d, xS_d, xSs_d, xT_d, xF_d, xL_d, W_d, Z_d] at *
  apply wp_nil <;> assumption
theorem zwp_cons {e : E} {es : Es} {Q : List Val → Sto → Prop} (h : W (xE G C e env S) X fun v S1 => W (xEs G C es env S1) X fun vs S2 => Q (v :: vs) S2) : W (xEs G C (.cons e es) env S) X Q := by
  simp only [xE_d, xEs_d, xB_d, xI_d, xO_d, xCs_d, xS_d, xSs_d, xT_d, xF_d, xL_d, W_d, Z_d] at *
  apply wp_cons <;> assumption
theorem zwp_bin {o : BOp} {a b : E} (h : W (xE G C a env S) X fun x S1 => W (xE G C b env S1) X fun y S2 => ∃ u v w, view S2 x = some u ∧ view S2 y = some v ∧ binD o u v = some w ∧ Q (.d w) S2) : W (xE G C (.bin o a b) env S) X Q := by
  simp only [xE_d, xEs_d, xB_d, xI_d, xO_d, xCs_d, xS_d, xSs_d, xT_d, xF_d, xL_d, W_d, Z_d] at *
  apply wp_bin <;> assumption
theorem zwp_neg {a : E} (h : W (xE G C a env S) X fun x S1 => ∃ i, x = .d (.int i) ∧ Q (.d (.int (-i))) S1) : W (xE G C (.neg a) env S) X Q := by
  simp only [xE_d, xEs_d, xB_d, xI_d, xO_d, xCs_d, xS_d, xSs_d, xT_d, xF_d, xL_d, W_d, Z_d] at *
  apply wp_neg <;> assumption
theorem zwp_not {a : E} (h : W (xE G C a env S) X fun x S1 => ∃ b, truthV S1 x = some b ∧ Q (.d (.bool (!b))) S1) : W (xE G C (.not a) env S) X Q := by
  simp only [xE_d, xEs_d, xB_d, xI_d, xO_d, xCs_d, xS_d, xSs_d, xT_d, xF_d, xL_d, W_d, Z_d] at *
  apply wp_not <;> assumption
theorem zwp_bools {k : Bool} {es : Es} (h : W (xB G C k es env S) X Q) : W (xE G C (.bools k es) env S) X Q := by
  simp only [xE_d, xEs_d, xB_d, xI_d, xO_d, xCs_d, xS_d, xSs_d, xT_d, xF_d, xL_d, W_d, Z_d] at *
  apply wp_bools <;> assumption
theorem zwp_b1 {k : Bool} {e : E} (h : W (xE G C e env S) X Q) : W (xB G C k (.cons e .nil) env S) X Q := by
  simp only [xE_d, xEs_d, xB_d, xI_d, xO_d, xCs_d, xS_d, xSs_d, xT_d, xF_d, xL_d, W_d, Z_d] at *
  apply wp_b1 <;> assumption
theorem zwp_b2 {k : Bool} {e e2 : E} {es : Es} (h : W (xE G C e env S) X fun v S1 => ∃ b, truthV S1 v = some b ∧ if b = k then W (xB G C k (.cons e2 es) env S1) X Q else Q v S1) : W (xB G C k (.cons e (.cons e2 es)) env S) X Q := by
  simp only [xE_d, xEs_d, xB_d, xI_d, xO_d, xCs_d, xS_d, xSs_d, xT_d, xF_d, xL_d, W_d, Z_d] at *
  apply wp_b2 <;> assumption
theorem zwp_cmp {o : COp} {a b : E} (h : W (xE G C a env S) X fun x S1 => W (xE G C b env S1) X fun y S2 => ∃ u v w, view S2 x = some u ∧ view S2 y = some v ∧ cmpD o u v = some w ∧ Q (.d (.bool w)) S2) : W (xE G C (.cmp o a b) env S) X Q := by
  simp only [xE_d, xEs_d, xB_d, xI_d, xO_d, xCs_d, xS_d, xSs_d, xT_d, xF_d, xL_d, W_d, Z_d] at *
  apply wp_cmp <;> assumption
theorem zwp_chain {o p : COp} {a b c : E} (h : W (xE G C a env S) X fun x S1 => W (xE G C b env S1) X fun y S2 => ∃ u v w, view S2 x = some u ∧ view S2 y = some v ∧ cmpD o u v = some w ∧
    if w then W (xE G C c env S2) X fun z S4 => ∃ v' u' w', view S4 y = some v' ∧ view S4 z = some u' ∧ cmpD p v' u' = some w' ∧ Q (.d (.bool w')) S4 else Q (.d (.bool false)) S2) : W (xE G C (.chain o p a b c) env S) X Q := by
  simp only [xE_d, xEs_d, xB_d, xI_d, xO_d, xCs_d, xS_d, xSs_d, xT_d, xF_d, xL_d, W_d, Z_d] at *
  apply wp_chain <;> assumption
theorem zwp_ife {c a b : E} (h : W (xE G C c env S) X fun v S1 => ∃ k, truthV S1 v = some k ∧ if k then W (xE G C a env S1) X Q else W (xE G C b env S1) X Q) : W (xE G C (.ife c a b) env S) X Q := by
  simp only [xE_d, xEs_d, xB_d, xI_d, xO_d, xCs_d, xS_d, xSs_d, xT_d, xF_d, xL_d, W_d, Z_d] at *
  apply wp_ife <;> assumption
theorem zwp_ix {a b : E} (h : W (xE G C a env S) X fun x S1 => W (xE G C b env S1) X fun y S2 => ∃ i w, y = .d (.int i) ∧ ixV S2 x (.int i) = some w ∧ Q w S2) : W (xE G C (.ix a b) env S) X Q := by
  simp only [xE_d, xEs_d, xB_d, xI_d, xO_d, xCs_d, xS_d, xSs_d, xT_d, xF_d, xL_d, W_d, Z_d] at *
  apply wp_ix <;> assumption
theorem zwp_no {Q : Option Int → Sto → Prop} (h : Q none S) : W (xO G C .no env S) X Q := by
  simp only [xE_d, xEs_d, xB_d, xI_d, xO_d, xCs_d, xS_d, xSs_d, xT_d, xF_d, xL_d, W_d, Z_d] at *
  apply wp_no <;> assumption
theorem zwp_yes {e : E} {Q : Option Int → Sto → Prop} (h : W (xE G C e env S) X fun v S1 => ∃ i, v = .d (.int i) ∧ Q (some i) S1) : W (xO G C (.yes e) env S) X Q := by
  simp only [xE_d, xEs_d, xB_d, xI_d, xO_d, xCs_d, xS_d, xSs_d, xT_d, xF_d, xL_d, W_d, Z_d] at *
  apply wp_yes <;> assumption
theorem zwp_sl {a : E} {lo hi : Oe} (h : W (xE G C a env S) X fun x S1 => W (xO G C lo env S1) X fun l S2 => W (xO G C hi env S2) X fun u S3 => ∃ w, slV S3 x l u = some w ∧ Q (.d w) S3) : W (xE G C (.sl a lo hi) env S) X Q := by
  simp only [xE_d, xEs_d, xB_d, xI_d, xO_d, xCs_d, xS_d, xSs_d, xT_d, xF_d, xL_d, W_d, Z_d] at *
  apply wp_sl <;> assumption
theorem zwp_call {f : Nat} {es : Es} (h : W (xEs G C es env S) X fun vs S1 => W (C f vs S1) X Q) : W (xE G C (.call f es) env S) X Q := by
  simp only [xE_d, xEs_d, xB_d, xI_d, xO_d, xCs_d, xS_d, xSs_d, xT_d, xF_d, xL_d, W_d, Z_d] at *
  apply wp_call <;> assumption
theorem zwp_bi {b : Bi} {a : E} (h : W (xE G C a env S) X fun x S1 => ∃ w, biV S1 b x = some w ∧ Q (.d w) S1) : W (xE G C (.bi b a) env S) X Q := by
  simp only [xE_d, xEs_d, xB_d, xI_d, xO_d, xCs_d, xS_d, xSs_d, xT_d, xF_d, xL_d, W_d, Z_d] at *
  apply wp_bi <;> assumption
theorem zwp_isi {a : E} {ts : List Ty} (h : W (xE G C a env S) X fun x S1 => ∃ w, isTyV S1 ts x = some w ∧ Q (.d (.bool w)) S1) : W (xE G C (.isi a ts) env S) X Q := by
  simp only [xE_d, xEs_d, xB_d, xI_d, xO_d, xCs_d, xS_d, xSs_d, xT_d, xF_d, xL_d, W_d, Z_d] at *
  apply wp_isi <;> assumption
theorem zwp_isx {i : Nat} {yes no : List Nat} {d : Option Nat} {ee : Exc} {b : Bool} (e : lookX env i = some ee) (hb : (if yes.contains ee.cls then some true else if no.contains ee.cls then some false else none) = some b) (h : Q (.d (.bool b)) S) : W (xE G C (.isx i yes no d) env S) X Q := by
  simp only [xE_d, xEs_d, xB_d, xI_d, xO_d, xCs_d, xS_d, xSs_d, xT_d, xF_d, xL_d, W_d, Z_d] at *
  apply wp_isx <;> assumption
theorem zwp_callP {f : Nat} {es : Es} (h : W (xEs G C es env S) X fun vs S1 => CallOK C f vs S1 Q) : W (xE G C (.callP f es) env S) X Q := by
  simp only [xE_d, xEs_d, xB_d, xI_d, xO_d, xCs_d, xS_d, xSs_d, xT_d, xF_d, xL_d, W_d, Z_d] at *
  apply wp_callP <;> assumption
theorem zwp_mm {k : Bool} {a b : E} (h : W (xE G C a env S) X fun x S1 => W (xE G C b env S1) X fun y S2 => ∃ i j, x = .d (.int i) ∧ y = .d (.int j) ∧ Q (.d (.int (if k then (if j > i then j else i) else (if j < i then j else i)))) S2) : W (xE G C (.mm k a b) env S) X Q := by
  simp only [xE_d, xEs_d, xB_d, xI_d, xO_d, xCs_d, xS_d, xSs_d, xT_d, xF_d, xL_d, W_d, Z_d] at *
  apply wp_mm <;> assumption
theorem zwp_srtD {st : Bool} {a : E} (h : W (xE G C a env S) X fun x S1 => ∃ xs ys, seqV st S1 x = some xs ∧ sortX st xs = some ys ∧ Q (.d (.list ys)) S1) : W (xE G C (.srt st false a) env S) X Q := by
  simp only [xE_d, xEs_d, xB_d, xI_d, xO_d, xCs_d, xS_d, xSs_d, xT_d, xF_d, xL_d, W_d, Z_d] at *
  apply wp_srtD <;> assumption
theorem zwp_srtN {st : Bool} {a : E} (h : W (xE G C a env S) X fun x S1 => ∃ xs ys, seqV st S1 x = some xs ∧ sortX st xs = some ys ∧ Q (.ref S1.length) (S1 ++ [some (.lst (ys.map Val.d))])) : W (xE G C (.srt st true a) env S) X Q := by
  simp only [xE_d, xEs_d, xB_d, xI_d, xO_d, xCs_d, xS_d, xSs_d, xT_d, xF_d, xL_d, W_d, Z_d] at *
  apply wp_srtN <;> assumption
theorem zwp_dget {a k : E} (h : W (xE G C a env S) X fun x S1 => W (xE G C k env S1) X fun y S2 => ∃ es ks v, dctV S2 x = some es ∧ keyV y = some ks ∧ lookD es ks = some v ∧ Q v S2) : W (xE G C (.dget a k) env S) X Q := by
  simp only [xE_d, xEs_d, xB_d, xI_d, xO_d, xCs_d, xS_d, xSs_d, xT_d, xF_d, xL_d, W_d, Z_d] at *
  apply wp_dget <;> assumption
theorem zwp_din {neg : Bool} {k a : E} (h : W (xE G C k env S) X fun y S1 => W (xE G C a env S1) X fun x S2 => ∃ es ks, dctV S2 x = some es ∧ keyV y = some ks ∧ Q (.d (.bool (if neg then !(lookD es ks).isSome else (lookD es ks).isSome))) S2) : W (xE G C (.din neg k a) env S) X Q := by
  simp only [xE_d, xEs_d, xB_d, xI_d, xO_d, xCs_d, xS_d, xSs_d, xT_d, xF_d, xL_d, W_d, Z_d] at *
  apply wp_din <;> assumption
theorem zwp_dgetZ {a k z : E} (h : W (xE G C a env S) X fun x S1 => (dctV S1 x).isSome = true ∧ W (xE G C k env S1) X fun y S2 => W (xE G C z env S2) X fun w S3 => ∃ es ks, dctV S3 x = some es ∧ keyV y = some ks ∧ Q ((lookD es ks).getD w) S3) : W (xE G C (.dgetZ a k z) env S) X Q := by
  simp only [xE_d, xEs_d, xB_d, xI_d, xO_d, xCs_d, xS_d, xSs_d, xT_d, xF_d, xL_d, W_d, Z_d] at *
  apply wp_dgetZ <;> assumption
theorem zwp_getI {a k z : E} (h : W (xE G C a env S) X fun x S1 => isDic x = true ∧ W (xE G C k env S1) X fun y S2 => W (xE G C z env S2) X fun w S3 => ∃ r, getIV x y w = some r ∧ Q r S3) : W (xE G C (.getI a k z) env S) X Q := by
  simp only [xE_d, xEs_d, xB_d, xI_d, xO_d, xCs_d, xS_d, xSs_d, xT_d, xF_d, xL_d, W_d, Z_d] at *
  apply wp_getI <;> assumption
theorem zwp_dict2 {a b c d : E} (h : W (xE G C a env S) X fun x S1 => W (xE G C b env S1) X fun y S2 => W (xE G C c env S2) X fun z S3 => W (xE G C d env S3) X fun w S4 => ∃ r, dict2V x y z w = some r ∧ Q r S4) : W (xE G C (.dict2 a b c d) env S) X Q := by
  simp only [xE_d, xEs_d, xB_d, xI_d, xO_d, xCs_d, xS_d, xSs_d, xT_d, xF_d, xL_d, W_d, Z_d] at *
  apply wp_dict2 <;> assumption
theorem zwp_dlen {a : E} (h : W (xE G C a env S) X fun x S1 => ∃ es, dctV S1 x = some es ∧ Q (.d (.int es.length)) S1) : W (xE G C (.dlen a) env S) X Q := by
  simp only [xE_d, xEs_d, xB_d, xI_d, xO_d, xCs_d, xS_d, xSs_d, xT_d, xF_d, xL_d, W_d, Z_d] at *
  apply wp_dlen <;> assumption
theorem zwp_dcpy {a : E} (h : W (xE G C a env S) X fun x S1 => ∃ es, dctV S1 x = some es ∧ (es.all (fun p => smallK p.1) && decide (es.length ≤ 64)) = true ∧ Q (.ref S1.length) (S1 ++ [some (.dct es)])) : W (xE G C (.dcpy a) env S) X Q := by
  simp only [xE_d, xEs_d, xB_d, xI_d, xO_d, xCs_d, xS_d, xSs_d, xT_d, xF_d, xL_d, W_d, Z_d] at *
  apply wp_dcpy <;> assumption
theorem zwp_dctN (h : Q (.ref S.length) (S ++ [some (.dct [])])) : W (xE G C .dctN env S) X Q := by
  simp only [xE_d, xEs_d, xB_d, xI_d, xO_d, xCs_d, xS_d, xSs_d, xT_d, xF_d, xL_d, W_d, Z_d] at *
  apply wp_dctN <;> assumption
theorem zwp_newc {a : E} (h : W (xE G C a env S) X fun v S1 => ∃ ys, v = .d (.list ys) ∧ Q (.ref S1.length) (S1 ++ [some (.lst (ys.map Val.d))])) : W (xE G C (.newc a) env S) X Q := by
  simp only [xE_d, xEs_d, xB_d, xI_d, xO_d, xCs_d, xS_d, xSs_d, xT_d, xF_d, xL_d, W_d, Z_d] at *
  apply wp_newc <;> assumption
theorem zwp_rev {a : E} (h : W (xE G C a env S) X fun v S1 => ∃ w, revV v = some w ∧ Q w S1) : W (xE G C (.rev a) env S) X Q := by
  simp only [xE_d, xEs_d, xB_d, xI_d, xO_d, xCs_d, xS_d, xSs_d, xT_d, xF_d, xL_d, W_d, Z_d] at *
  apply wp_rev <;> assumption
theorem zwp_srtP {a : E} (h : W (xE G C a env S) X fun x S1 => ∃ xs ps, view S1 x = some (.list xs) ∧ allO (xs.map isPr) = some ps ∧ ps.length < 64 ∧ Q (.d (.list ((srtP ps).map prD))) S1) : W (xE G C (.srtP a) env S) X Q := by
  simp only [xE_d, xEs_d, xB_d, xI_d, xO_d, xCs_d, xS_d, xSs_d, xT_d, xF_d, xL_d, W_d, Z_d] at *
  apply wp_srtP <;> assumption
theorem zwp_callL {fs : List Nat} {i : E} {es : Es} (h : W (xE G C i env S) X fun y S1 => ∃ f, pickF fs y = some f ∧ W (xEs G C es env S1) X fun vs S2 => W (C f vs S2) X Q) : W (xE G C (.callL fs i es) env S) X Q := by
  simp only [xE_d, xEs_d, xB_d, xI_d, xO_d, xCs_d, xS_d, xSs_d, xT_d, xF_d, xL_d, W_d, Z_d] at *
  apply wp_callL <;> assumption
theorem zwp_xop {k : XOp} {a : E} {es : Es} (h : W (xE G C a env S) X fun x S1 => xopPre k S1 x = true ∧ W (xEs G C es env S1) X fun vs S2 => XV k x vs S2 X Q) : W (xE G C (.xop k a es) env S) X Q := by
  simp only [xE_d, xEs_d, xB_d, xI_d, xO_d, xCs_d, xS_d, xSs_d, xT_d, xF_d, xL_d, W_d, Z_d] at *
  apply wp_xop <;> assumption
theorem zwp_lenSet {a : E} (h : W (xE G C a env S) X fun x S1 => ∃ xs ns, view S1 x = some (.list xs) ∧ allI xs = some ns ∧ ns.length ≤ 4000 ∧ Q (.d (.int (firsts ns).length)) S1) : W (xE G C (.lenSet a) env S) X Q := by
  simp only [xE_d, xEs_d, xB_d, xI_d, xO_d, xCs_d, xS_d, xSs_d, xT_d, xF_d, xL_d, W_d, Z_d] at *
  apply wp_lenSet <;> assumption
theorem zwp_dictOf {a : E} (h : W (xE G C a env S) X fun x S1 => ∃ xs kvs, view S1 x = some (.list xs) ∧ allPairs xs = some kvs ∧ Q (.d (.dict (mergeI kvs))) S1) : W (xE G C (.dictOf a) env S) X Q := by
  simp only [xE_d, xEs_d, xB_d, xI_d, xO_d, xCs_d, xS_d, xSs_d, xT_d, xF_d, xL_d, W_d, Z_d] at *
  apply wp_dictOf <;> assumption
theorem zwp_dict1 {a b : E} (h : W (xE G C a env S) X fun x S1 => W (xE G C b env S1) X fun y S2 => ∃ i z, x = .d (.int i) ∧ y = .d z ∧ Q (.d (.dict [(.int i, z)])) S2) : W (xE G C (.dict1 a b) env S) X Q := by
  simp only [xE_d, xEs_d, xB_d, xI_d, xO_d, xCs_d, xS_d, xSs_d, xT_d, xF_d, xL_d, W_d, Z_d] at *
  apply wp_dict1 <;> assumption
theorem zwp_dict0 (h : Q (.d (.dict [])) S) : W (xE G C .dict0 env S) X Q := by
  simp only [xE_d, xEs_d, xB_d, xI_d, xO_d, xCs_d, xS_d, xSs_d, xT_d, xF_d, xL_d, W_d, Z_d] at *
  apply wp_dict0 <;> assumption
theorem zwp_fz {a : E} (h : W (xE G C a env S) X fun v S1 => W (xF v S1) X Q) : W (xE G C (.fz a) env S) X Q := by
  simp only [xE_d, xEs_d, xB_d, xI_d, xO_d, xCs_d, xS_d, xSs_d, xT_d, xF_d, xL_d, W_d, Z_d] at *
  apply wp_fz <;> assumption
theorem zwp_fzR {n : Nat} {vs : List Val} {ds : List D} (e : stGet S n = some (.lst vs)) (e2 : pureVs vs = some ds) (h : Q (.d (.list ds)) (S.set n none)) : W (xF (.ref n) S) X Q := by
  simp only [xE_d, xEs_d, xB_d, xI_d, xO_d, xCs_d, xS_d, xSs_d, xT_d, xF_d, xL_d, W_d, Z_d] at *
  apply wp_fzR <;> assumption
theorem zwp_over {e : E} {Q : List Val × List Nat → Sto → Prop} (h : W (xE G C e env S) X fun v S1 => ∃ p, itemsV S1 v = some p ∧ Q p S1) : W (xI G C (.over e) env S) X Q := by
  simp only [xE_d, xEs_d, xB_d, xI_d, xO_d, xCs_d, xS_d, xSs_d, xT_d, xF_d, xL_d, W_d, Z_d] at *
  apply wp_over <;> assumption
theorem zwp_range1 {e : E} {Q : List Val × List Nat → Sto → Prop} (h : W (xE G C e env S) X fun v S1 => ∃ n, v = .d (.int n) ∧ (n ≤ 16777216 ∧ -16777216 ≤ n) ∧ Q (rangeVs 0 n, []) S1) : W (xI G C (.range1 e) env S) X Q := by
  simp only [xE_d, xEs_d, xB_d, xI_d, xO_d, xCs_d, xS_d, xSs_d, xT_d, xF_d, xL_d, W_d, Z_d] at *
  apply wp_range1 <;> assumption
theorem zwp_range2 {a b : E} {Q : List Val × List Nat → Sto → Prop} (h : W (xE G C a env S) X fun x S1 => W (xE G C b env S1) X fun y S2 => ∃ i j, x = .d (.int i) ∧ y = .d (.int j) ∧ (-8388608 ≤ i ∧ i ≤ 8388608 ∧ -8388608 ≤ j ∧ j ≤ 8388608) ∧ Q (rangeVs i j, []) S2) : W (xI G C (.range2 a b) env S) X Q := by
  simp only [xE_d, xEs_d, xB_d, xI_d, xO_d, xCs_d, xS_d, xSs_d, xT_d, xF_d, xL_d, W_d, Z_d] at *
  apply wp_range2 <;> assumption
theorem zwp_enum {e : E} {Q : List Val × List Nat → Sto → Prop} (h : W (xE G C e env S) X fun v S1 => ∃ p, pureItems S1 v = some p ∧ Q (enumD p.1, p.2) S1) : W (xI G C (.enum e) env S) X Q := by
  simp only [xE_d, xEs_d, xB_d, xI_d, xO_d, xCs_d, xS_d, xSs_d, xT_d, xF_d, xL_d, W_d, Z_d] at *
  apply wp_enum <;> assumption
theorem zwp_zip {a b : E} {Q : List Val × List Nat → Sto → Prop} (h : W (xE G C a env S) X fun x S1 => W (xE G C b env S1) X fun y S2 => ∃ p, zipV S2 x y = some p ∧ Q p S2) : W (xI G C (.zip a b) env S) X Q := by
  simp only [xE_d, xEs_d, xB_d, xI_d, xO_d, xCs_d, xS_d, xSs_d, xT_d, xF_d, xL_d, W_d, Z_d] at *
  apply wp_zip <;> assumption
theorem zwp_items {e : E} {Q : List Val × List Nat → Sto → Prop} (h : W (xE G C e env S) X fun v S1 => ∃ n es ds, v = .ref n ∧ stGet S1 n = some (.dct es) ∧ allO (es.map itemD) = some ds ∧ Q (ds.map Val.d, []) (S1.set n none)) : W (xI G C (.items e) env S) X Q := by
  simp only [xE_d, xEs_d, xB_d, xI_d, xO_d, xCs_d, xS_d, xSs_d, xT_d, xF_d, xL_d, W_d, Z_d] at *
  apply wp_items <;> assumption
theorem zwp_comp {own : List Nat} {tg : Tg} {it : It} {cs : Es} {elt : E} (h : W (xI G C it env S) X fun p S1 => W (xL (xT G C own tg cs elt env) p.1 (lockS S1 p.2)) X fun ys S2 => Q (.d (.list ys)) (unlockS S1 S2 p.2)) : W (xE G C (.comp own tg it cs elt) env S) X Q := by
  simp only [xE_d, xEs_d, xB_d, xI_d, xO_d, xCs_d, xS_d, xSs_d, xT_d, xF_d, xL_d, W_d, Z_d] at *
  apply wp_comp <;> assumption
theorem zwp_turn {own : List Nat} {tg : Tg} {cs : Es} {elt : E} {x : Val} {e2 : MS.Env} {Q : Option D → Sto → Prop} (he : setTg tg x (wipeE env own) = some e2) (h : W (xCs G C cs e2 S) noX fun k S1 => if k then W (xE G C elt e2 S1) noX fun y S2 => ∃ z, y = .d z ∧ Q (some z) S2 else Q none S1) : W (xT G C own tg cs elt env x S) X Q := by
  simp only [xE_d, xEs_d, xB_d, xI_d, xO_d, xCs_d, xS_d, xSs_d, xT_d, xF_d, xL_d, W_d, Z_d] at *
  apply wp_turn <;> assumption
theorem zwp_cs0 {Q : Bool → Sto → Prop} (h : Q true S) : W (xCs G C .nil env S) X Q := by
  simp only [xE_d, xEs_d, xB_d, xI_d, xO_d, xCs_d, xS_d, xSs_d, xT_d, xF_d, xL_d, W_d, Z_d] at *
  apply wp_cs0 <;> assumption
theorem zwp_cs1 {e : E} {Q : Bool → Sto → Prop} (h : W (xE G C e env S) X fun v S1 => ∃ b, truthV S1 v = some b ∧ Q b S1) : W (xCs G C (.cons e .nil) env S) X Q := by
  simp only [xE_d, xEs_d, xB_d, xI_d, xO_d, xCs_d, xS_d, xSs_d, xT_d, xF_d, xL_d, W_d, Z_d] at *
  apply wp_cs1 <;> assumption
theorem zwp_compL {f : Val → Sto → R (Option D)} {I : List Val → List D → Sto → Prop} {Q : List D → Sto → Prop} {xs : List Val} (h0 : I xs [] S) (hs : ∀ x r acc S, I (x :: r) acc S → W (f x S) X fun o S1 => I r (match o with | some y => acc ++ [y] | none => acc) S1) (hd : ∀ acc S, I [] acc S → Q acc S) : W (xL f xs S) X Q := by
  simp only [xE_d, xEs_d, xB_d, xI_d, xO_d, xCs_d, xS_d, xSs_d, xT_d, xF_d, xL_d, W_d, Z_d] at *
  apply wp_compL <;> assumption
end
section
variable {G : List D} {C : Runner} {env : MS.Env} {S : Sto} {D' : En}
theorem zws_ofR {α : Type} {r : R α} {f : α → Sto → RS} (h : W r (D'.x env) fun v S1 => Z (f v S1) D') : Z (RS.ofR env r f) D' := by
  simp only [xE_d, xEs_d, xB_d, xI_d, xO_d, xCs_d, xS_d, xSs_d, xT_d, xF_d, xL_d, W_d, Z_d] at *
  apply ws_ofR <;> assumption
theorem zws_nil (h : D'.nx env S) : Z (xSs G C .nil env S) D' := by
  simp only [xE_d, xEs_d, xB_d, xI_d, xO_d, xCs_d, xS_d, xSs_d, xT_d, xF_d, xL_d, W_d, Z_d] at *
  apply ws_nil <;> assumption
theorem zws_cons {s : MS.St} {ss : Sts} (h : Z (xS G C s env S) (D'.nxt fun env1 S1 => Z (xSs G C ss env1 S1) D')) : Z (xSs G C (.cons s ss) env S) D' := by
  simp only [xE_d, xEs_d, xB_d, xI_d, xO_d, xCs_d, xS_d, xSs_d, xT_d, xF_d, xL_d, W_d, Z_d] at *
  apply ws_cons <;> assumption
theorem zws_join {s : MS.St} {ss : Sts} (J : MS.Env → Sto → Prop) (h1 : Z (xS G C s env S) (D'.nxt J)) (h2 : ∀ env S, J env S → Z (xSs G C ss env S) D') : Z (xSs G C (.cons s ss) env S) D' := by
  simp only [xE_d, xEs_d, xB_d, xI_d, xO_d, xCs_d, xS_d, xSs_d, xT_d, xF_d, xL_d, W_d, Z_d] at *
  apply ws_join <;> assumption
theorem zws_set {i : Nat} {e : E} (h : W (xE G C e env S) (D'.x env) fun v S1 => D'.nx (env.set i (some v)) S1) : Z (xS G C (.set i e) env S) D' := by
  simp only [xE_d, xEs_d, xB_d, xI_d, xO_d, xCs_d, xS_d, xSs_d, xT_d, xF_d, xL_d, W_d, Z_d] at *
  apply ws_set <;> assumption
theorem zws_setc {i : Nat} {e : E} (h : W (xE G C e env S) (D'.x env) fun v S1 => D'.nx (env.set i (some v)) S1) : Z (xS G C (.setc i e) env S) D' := by
  simp only [xE_d, xEs_d, xB_d, xI_d, xO_d, xCs_d, xS_d, xSs_d, xT_d, xF_d, xL_d, W_d, Z_d] at *
  apply ws_setc <;> assumption
theorem zws_unp {ts : Tgs} {e : E} (h : W (xE G C e env S) (D'.x env) fun v S1 => ∃ env1, setTg (.tup ts) v env = some env1 ∧ D'.nx env1 S1) : Z (xS G C (.unp ts e) env S) D' := by
  simp only [xE_d, xEs_d, xB_d, xI_d, xO_d, xCs_d, xS_d, xSs_d, xT_d, xF_d, xL_d, W_d, Z_d] at *
  apply ws_unp <;> assumption
theorem zws_par {ts : List Nat} {es : Es} (h : W (xEs G C es env S) (D'.x env) fun vs S1 => vs.length = ts.length ∧ D'.nx ((ts.zip vs).foldl (fun env p => env.set p.1 (some p.2)) env) S1) : Z (xS G C (.par ts es) env S) D' := by
  simp only [xE_d, xEs_d, xB_d, xI_d, xO_d, xCs_d, xS_d, xSs_d, xT_d, xF_d, xL_d, W_d, Z_d] at *
  apply ws_par <;> assumption
theorem zws_setix {a i e : E} (h : W (xE G C e env S) (D'.x env) fun v S1 => W (xE G C a env S1) (D'.x env) fun x S2 => W (xE G C i env S2) (D'.x env) fun y S3 => ∃ n j vs k, x = .ref n ∧ y = .d (.int j) ∧ stGet S3 n = some (.lst vs) ∧ ixOf vs.length j = some k ∧ D'.nx env (S3.set n (some (.lst (vs.set k v))))) : Z (xS G C (.setix a i e) env S) D' := by
  simp only [xE_d, xEs_d, xB_d, xI_d, xO_d, xCs_d, xS_d, xSs_d, xT_d, xF_d, xL_d, W_d, Z_d] at *
  apply ws_setix <;> assumption
theorem zws_st2 {a i b j : E} {es : Es} (h : W (xEs G C es env S) (D'.x env) fun us S1 => ∃ v w, us = [v, w] ∧ W (xE G C a env S1) (D'.x env) fun x S2 => W (xE G C i env S2) (D'.x env) fun y S3 => ∃ n p vs k, x = .ref n ∧ y = .d (.int p) ∧ stGet S3 n = some (.lst vs) ∧ ixOf vs.length p = some k ∧ W (xE G C b env (S3.set n (some (.lst (vs.set k v))))) (D'.x env) fun x2 S5 => W (xE G C j env S5) (D'.x env) fun y2 S6 => ∃ n2 p2 vs2 k2, x2 = .ref n2 ∧ y2 = .d (.int p2) ∧ stGet S6 n2 = some (.lst vs2) ∧ ixOf vs2.length p2 = some k2 ∧ D'.nx env (S6.set n2 (some (.lst (vs2.set k2 w))))) : Z (xS G C (.st2 a i b j es) env S) D' := by
  simp only [xE_d, xEs_d, xB_d, xI_d, xO_d, xCs_d, xS_d, xSs_d, xT_d, xF_d, xL_d, W_d, Z_d] at *
  apply ws_st2 <;> assumption
theorem zws_setk {a e : E} {ks : Es} (h : W (xE G C e env S) (D'.x env) fun v S1 => W (xE G C a env S1) (D'.x env) fun x S2 => W (xEs G C ks env S2) (D'.x env) fun kv S3 => ∃ n ds is es, x = .ref n ∧ pureVs kv = some ds ∧ allI ds = some is ∧ stGet S3 n = some (.dct es) ∧ (es.length < sLine ∧ is.length ≤ 1000) ∧ D'.nx env (S3.set n (some (.dct (putD es is v))))) : Z (xS G C (.setk a ks e) env S) D' := by
  simp only [xE_d, xEs_d, xB_d, xI_d, xO_d, xCs_d, xS_d, xSs_d, xT_d, xF_d, xL_d, W_d, Z_d] at *
  apply ws_setk <;> assumption
theorem zws_setd {a k e : E} (h : W (xE G C e env S) (D'.x env) fun v S1 => W (xE G C a env S1) (D'.x env) fun x S2 => W (xE G C k env S2) (D'.x env) fun y S3 => ∃ n ks es, x = .ref n ∧ keyV y = some ks ∧ stGet S3 n = some (.dct es) ∧ (es.length < sLine ∧ ks.length ≤ 1000) ∧ D'.nx env (S3.set n (some (.dct (putD es ks v))))) : Z (xS G C (.setd a k e) env S) D' := by
  simp only [xE_d, xEs_d, xB_d, xI_d, xO_d, xCs_d, xS_d, xSs_d, xT_d, xF_d, xL_d, W_d, Z_d] at *
  apply ws_setd <;> assumption
theorem zws_expr {e : E} (h : W (xE G C e env S) (D'.x env) fun _ S1 => D'.nx env S1) : Z (xS G C (.expr e) env S) D' := by
  simp only [xE_d, xEs_d, xB_d, xI_d, xO_d, xCs_d, xS_d, xSs_d, xT_d, xF_d, xL_d, W_d, Z_d] at *
  apply ws_expr <;> assumption
theorem zws_app {a e : E} (h : W (xE G C a env S) (D'.x env) fun x S1 => isLst S1 x = true ∧ W (xE G C e env S1) (D'.x env) fun v S2 => ∃ n vs, x = .ref n ∧ stGet S2 n = some (.lst vs) ∧ vs.length < sLine ∧ D'.nx env (S2.set n (some (.lst (vs ++ [v]))))) : Z (xS G C (.app a e) env S) D' := by
  simp only [xE_d, xEs_d, xB_d, xI_d, xO_d, xCs_d, xS_d, xSs_d, xT_d, xF_d, xL_d, W_d, Z_d] at *
  apply ws_app <;> assumption
theorem zws_ext {a e : E} (h : W (xE G C a env S) (D'.x env) fun x S1 => isLst S1 x = true ∧ W (xE G C e env S1) (D'.x env) fun v S2 => ∃ n vs ys, x = .ref n ∧ view S2 v = some (.list ys) ∧ stGet S2 n = some (.lst vs) ∧ vs.length + ys.length ≤ sLine ∧ D'.nx env (S2.set n (some (.lst (vs ++ ys.map Val.d))))) : Z (xS G C (.ext a e) env S) D' := by
  simp only [xE_d, xEs_d, xB_d, xI_d, xO_d, xCs_d, xS_d, xSs_d, xT_d, xF_d, xL_d, W_d, Z_d] at *
  apply ws_ext <;> assumption
theorem zws_if {c : E} {t f : Sts} (h : W (xE G C c env S) (D'.x env) fun v S1 => ∃ b, truthV S1 v = some b ∧ if b then Z (xSs G C t env S1) D' else Z (xSs G C f env S1) D') : Z (xS G C (.ifs c t f) env S) D' := by
  simp only [xE_d, xEs_d, xB_d, xI_d, xO_d, xCs_d, xS_d, xSs_d, xT_d, xF_d, xL_d, W_d, Z_d] at *
  apply ws_if <;> assumption
theorem zws_ret {e : E} (h : W (xE G C e env S) (D'.x env) fun v S1 => D'.rt v S1) : Z (xS G C (.ret e) env S) D' := by
  simp only [xE_d, xEs_d, xB_d, xI_d, xO_d, xCs_d, xS_d, xSs_d, xT_d, xF_d, xL_d, W_d, Z_d] at *
  apply ws_ret <;> assumption
theorem zws_raise {c : Nat} {m : Str} (h : D'.ex ⟨c, []⟩ env S) : Z (xS G C (.raise c m) env S) D' := by
  simp only [xE_d, xEs_d, xB_d, xI_d, xO_d, xCs_d, xS_d, xSs_d, xT_d, xF_d, xL_d, W_d, Z_d] at *
  apply ws_raise <;> assumption
theorem zws_tri {b hh : Sts} {i : Nat} {yes no : List Nat} {d : Nat} (h : Z (xSs G C b env S) { nx := D'.nx, rt := D'.rt, bk := D'.bk, ct := D'.ct, ex := fun e env1 S1 => noExn env1 = true ∧ e.args = [] ∧
      ((yes.contains e.cls = true ∧ Z (xSs G C hh (env1.set i (some (.exn e))) S1) { nx := fun env2 S2 => noExn (env2.set i none) = true ∧ D'.nx (env2.set i none) S2, rt := D'.rt }) ∨ (yes.contains e.cls = false ∧ no.contains e.cls = true ∧ D'.ex e env1 S1)) }) : Z (xS G C (.tri b i yes no d hh) env S) D' := by
  simp only [xE_d, xEs_d, xB_d, xI_d, xO_d, xCs_d, xS_d, xSs_d, xT_d, xF_d, xL_d, W_d, Z_d] at *
  apply ws_tri <;> assumption
theorem zws_pass (h : D'.nx env S) : Z (xS G C .pass env S) D' := by
  simp only [xE_d, xEs_d, xB_d, xI_d, xO_d, xCs_d, xS_d, xSs_d, xT_d, xF_d, xL_d, W_d, Z_d] at *
  apply ws_pass <;> assumption
theorem zws_brk (h : D'.bk env S) : Z (xS G C .brk env S) D' := by
  simp only [xE_d, xEs_d, xB_d, xI_d, xO_d, xCs_d, xS_d, xSs_d, xT_d, xF_d, xL_d, W_d, Z_d] at *
  apply ws_brk <;> assumption
theorem zws_cnt (h : D'.ct env S) : Z (xS G C .cnt env S) D' := by
  simp only [xE_d, xEs_d, xB_d, xI_d, xO_d, xCs_d, xS_d, xSs_d, xT_d, xF_d, xL_d, W_d, Z_d] at *
  apply ws_cnt <;> assumption
theorem zws_for {tg : Tg} {it : It} {b : Sts} (h : W (xI G C it env S) (D'.x env) fun p S1 => ∃ I : List Val → MS.Env → Sto → Prop, I p.1 env (lockS S1 p.2) ∧
      (∀ x r env S, I (x :: r) env S → ∃ env1, setTg tg x env = some env1 ∧ Z (xSs G C b env1 S) (D'.turn (I r) S1 p.2)) ∧
      ∀ env S, I [] env S → D'.nx env (unlockS S1 S p.2)) : Z (xS G C (.fors tg it b) env S) D' := by
  simp only [xE_d, xEs_d, xB_d, xI_d, xO_d, xCs_d, xS_d, xSs_d, xT_d, xF_d, xL_d, W_d, Z_d] at *
  apply ws_for <;> assumption
theorem zws_while {n : Nat} {c : E} {b : Sts} (I : MS.Env → Sto → Prop) (μ : MS.Env → Sto → Nat) (h0 : I env S) (hn : μ env S < n)
    (hs : ∀ env S, I env S → W (xE G C c env S) (D'.x env) fun v S1 => ∃ k, truthV S1 v = some k ∧ if k then Z (xSs G C b env S1) (D'.lap fun env2 S2 => I env2 S2 ∧ μ env2 S2 < μ env S) else D'.nx env S1) : Z (xS G C (.whil n c b) env S) D' := by
  simp only [xE_d, xEs_d, xB_d, xI_d, xO_d, xCs_d, xS_d, xSs_d, xT_d, xF_d, xL_d, W_d, Z_d] at *
  apply ws_while <;> assumption
end
theorem zwp_run {G : List D} {P : Nat → Fn} {k i : Nat} {vs : List Val} {S : Sto} {X : XP} {Q : Val → Sto → Prop} {f : Fn} (hf : P i = f) (hl : vs.length = f.params)
    (h : Z (xSs G (MS.run G P k) f.body (vs.map some ++ List.replicate (f.slots - vs.length) none) S) (En.fn S X Q)) : W (MS.run G P (k + 1) i vs S) X Q := by
  simp only [xE_d, xEs_d, xB_d, xI_d, xO_d, xCs_d, xS_d, xSs_d, xT_d, xF_d, xL_d, W_d, Z_d] at *
  apply wp_run <;> assumption
end MS

-- MsPure
/-! Small things that the laws' own proofs share. -/
namespace MS
open PySem
theorem CallOK.mk {C : Runner} {f : Nat} {vs : List Val} {S1 S2 : Sto} {Q : Val → Sto → Prop} {ds : List D} {x : D} (e1 : allO (vs.map (deepV S1 3)) = some ds) (e2 : C f (ds.map Val.d) [] = .ok (.d x) S2) (e3 : immB x = true) (q : Q (.d x) S1) : CallOK C f vs S1 Q := by
  unfold CallOK
  exact ⟨ds, x, S2, e1, e2, e3, q⟩
theorem zif_t {c k : Bool} {A B : Prop} (h : c = k) (a : A) : if c = k then A else B := by rw [if_pos h]; exact a
theorem zif_f {c k : Bool} {A B : Prop} (h : c = !k) (b : B) : if c = k then A else B := by
  have : ¬ c = k := by rw [h]; cases k <;> simp
  rw [if_neg this]; exact b
theorem zif {c k : Bool} {A B : Prop} (a : c = k → A) (b : c = (!k) → B) : if c = k then A else B := by
  by_cases h : c = k
  · rw [if_pos h]; exact a h
  · rw [if_neg h]; exact b (by cases c <;> cases k <;> simp_all)
theorem cutS_self (v : Val) (S : Sto) : cutS S.length v S = S := by
  cases v <;> simp [cutS]
theorem cutS_len {v : Val} {S T : Sto} (h : T.length = S.length) : cutS S.length v T = T := by
  rw [← h]; exact cutS_self v T
/-- data alone, no references -/
def pureO : Option Ob → Bool
  | none => true
  | some (.lst vs) => (pureVs vs).isSome
  | some (.dct _) => false
/-- a store whose references lie in it -/
def PureS (S : Sto) : Prop := belowS S.length S = true
def belowO (n : Nat) (o : Option Ob) : Bool := match o with | some o => o.below n | none => true
theorem belowS_iff {n : Nat} {S : Sto} : belowS n S = true ↔ ∀ o ∈ S, belowO n o = true := by
  unfold belowS; rw [List.all_eq_true]; exact Iff.rfl
theorem pureVs_below {n : Nat} : ∀ {vs : List Val}, (pureVs vs).isSome = true → vs.all (Val.below n) = true
  | [], _ => rfl
  | .d x :: r, h => by
    simp only [pureVs, Option.isSome_map] at h
    rw [List.all_cons, pureVs_below h]; rfl
  | .ref _ :: _, h => by simp [pureVs] at h
  | .fn _ :: _, h => by simp [pureVs] at h
  | .scr _ :: _, h => by simp [pureVs] at h
  | .exn _ :: _, h => by simp [pureVs] at h
theorem pureO_below {n : Nat} {o : Option Ob} (h : pureO o = true) : belowO n o = true := by
  cases o with
  | none => rfl
  | some o =>
    cases o with
    | lst vs => exact pureVs_below h
    | dct _ => cases h
theorem Val.below_mono {n m : Nat} (h : n ≤ m) {v : Val} (b : v.below n = true) : v.below m = true := by
  cases v with
  | ref k => simp [Val.below] at b ⊢; omega
  | _ => rfl
theorem belowO_mono {n m : Nat} (h : n ≤ m) {o : Option Ob} (b : belowO n o = true) : belowO m o = true := by
  cases o with
  | none => rfl
  | some o =>
    cases o with
    | lst vs =>
      simp only [belowO, Ob.below, List.all_eq_true] at b ⊢
      exact fun v hv => Val.below_mono h (b v hv)
    | dct kvs =>
      simp only [belowO, Ob.below, List.all_eq_true] at b ⊢
      exact fun v hv => Val.below_mono h (b v hv)
theorem PureS.below {S : Sto} (h : PureS S) {n : Nat} (hn : S.length ≤ n) : belowS n S = true := by
  rw [belowS_iff]
  exact fun o ho => belowO_mono hn (belowS_iff.mp h o ho)
/-- what a callee laid is forgotten -/
theorem cutS_app {S T U : Sto} {v : Val} (hv : ∀ n, v ≠ .ref n) (h : PureS S) (e : U = S ++ T) : cutS S.length v U = S := by
  subst e
  have hb := h.below (Nat.le_refl S.length)
  have e2 : (S ++ T).take S.length = S := by simp
  cases v with
  | ref n => exact absurd rfl (hv n)
  | d _ => simp only [cutS, e2, hb, if_true]
  | fn _ => simp only [cutS, e2, hb, if_true]
  | scr _ => simp only [cutS, e2, hb, if_true]
  | exn _ => simp only [cutS, e2, hb, if_true]
theorem PureS.setR {S : Sto} (h : PureS S) {n : Nat} {o : Option Ob} (ho : belowO S.length o = true) : PureS (S.set n o) := by
  unfold PureS
  rw [belowS_iff, List.length_set]
  intro x hx
  rcases List.mem_or_eq_of_mem_set hx with z | z
  · exact belowS_iff.mp h x z
  · rw [z]; exact ho
theorem PureS.set {S : Sto} (h : PureS S) {n : Nat} {o : Option Ob} (ho : pureO o = true) : PureS (S.set n o) := h.setR (pureO_below ho)
theorem PureS.appR {S : Sto} (h : PureS S) {o : Option Ob} (ho : belowO (S.length + 1) o = true) : PureS (S ++ [o]) := by
  unfold PureS
  rw [belowS_iff, List.length_append, List.length_singleton]
  intro x hx
  rcases List.mem_append.mp hx with z | z
  · exact belowO_mono (Nat.le_succ _) (belowS_iff.mp h x z)
  · rw [List.mem_singleton.mp z]; exact ho
theorem PureS.app {S : Sto} (h : PureS S) {o : Option Ob} (ho : pureO o = true) : PureS (S ++ [o]) := h.appR (pureO_below ho)
theorem stGet_at {S T : Sto} {o : Ob} : stGet (S ++ some o :: T) S.length = some o := by simp [stGet]
theorem isLst_at {S T : Sto} {vs : List Val} : isLst (S ++ some (.lst vs) :: T) (.ref S.length) = true := by
  simp only [isLst, stGet_at]
theorem set_at {S T : Sto} {o o' : Option Ob} : (S ++ o :: T).set S.length o' = S ++ o' :: T := by simp
theorem stGet_ne {S : Sto} {n m : Nat} {o : Option Ob} (h : n ≠ m) : stGet (S.set n o) m = stGet S m := by
  unfold stGet; rw [List.getElem?_set_ne h]
theorem stGet_eq {S : Sto} {n : Nat} {o : Ob} (h : n < S.length) : stGet (S.set n (some o)) n = some o := by
  unfold stGet; rw [List.getElem?_set_self h]; rfl
theorem stGet_l {S T : Sto} {n : Nat} (h : n < S.length) : stGet (S ++ T) n = stGet S n := by
  unfold stGet; rw [List.getElem?_append_left h]
/-! ### the pen -/
abbrev penO (c f : Int) : Option Ob := some (.lst [.d (.int c), .d (.int f)])
structure Pn (p : Nat) (S : Sto) : Prop where
  lt : p < S.length
  ob : ∃ c f, S[p]? = some (penO c f)
  pu : PureS S
/-- the pen at p has moved on -/
def Gen (p : Nat) (S S' : Sto) : Prop := ∃ c f, S' = S.set p (penO c f)
theorem Gen.pn {p : Nat} {S S' : Sto} (g : Gen p S S') (h : Pn p S) : Pn p S' := by
  obtain ⟨c, f, rfl⟩ := g
  exact ⟨by simpa using h.lt, ⟨c, f, by rw [List.getElem?_set_self h.lt]⟩, h.pu.set rfl⟩
theorem Gen.refl {p : Nat} {S : Sto} (h : Pn p S) : Gen p S S := by
  obtain ⟨c, f, e⟩ := h.ob
  refine ⟨c, f, (List.ext_getElem? fun i => ?_).symm⟩
  by_cases hi : p = i
  · subst hi; rw [List.getElem?_set_self h.lt, e]
  · rw [List.getElem?_set_ne hi]
theorem Gen.trans {p : Nat} {S S1 S2 : Sto} (a : Gen p S S1) (b : Gen p S1 S2) : Gen p S S2 := by
  obtain ⟨c, f, rfl⟩ := a
  obtain ⟨c', f', rfl⟩ := b
  exact ⟨c', f', by rw [List.set_set]⟩
theorem Gen.len {p : Nat} {S S1 : Sto} (a : Gen p S S1) : S1.length = S.length := by
  obtain ⟨c, f, rfl⟩ := a; simp
theorem Pn.get {p : Nat} {S : Sto} (h : Pn p S) : ∃ c f, stGet S p = some (.lst [.d (.int c), .d (.int f)]) := by
  obtain ⟨c, f, e⟩ := h.ob
  exact ⟨c, f, by unfold stGet; rw [e]; rfl⟩
theorem pen_ix0 {S : Sto} {p : Nat} {c f : Int} (e : stGet S p = some (.lst [.d (.int c), .d (.int f)])) : ixV S (.ref p) (.int 0) = some (.d (.int c)) := by
  simp [ixV, e, atD, ixOf]
theorem pen_ix1 {S : Sto} {p : Nat} {c f : Int} (e : stGet S p = some (.lst [.d (.int c), .d (.int f)])) : ixV S (.ref p) (.int 1) = some (.d (.int f)) := by
  simp [ixV, e, atD, ixOf]
theorem binD_mod {a b : Int} (h : 0 < b) : binD .mod (.int a) (.int b) = some (.int (a % b)) := by simp [binD, h]
theorem binD_fdiv {a b : Int} (h : 0 < b) (h2 : b < 2147483648) : binD .fdiv (.int a) (.int b) = some (.int (a / b)) := by simp [binD, h, h2]
theorem binD_mul {a b : Int} (h : mulOk a b = true) : binD .mul (.int a) (.int b) = some (.int (a * b)) := by simp [binD, h]
theorem Pn.app {p : Nat} {S : Sto} (h : Pn p S) {o : Option Ob} (ho : pureO o = true) : Pn p (S ++ [o]) := by
  obtain ⟨c, f, e⟩ := h.ob
  exact ⟨by have := h.lt; simp; omega, ⟨c, f, by rw [List.getElem?_append_left h.lt]; exact e⟩, h.pu.app ho⟩
theorem Gen.app {p : Nat} {S T S' : Sto} (h : p < S.length) (g : Gen p (S ++ T) S') : ∃ S1, Gen p S S1 ∧ S' = S1 ++ T := by
  obtain ⟨c, f, rfl⟩ := g
  exact ⟨S.set p (penO c f), ⟨c, f, rfl⟩, by rw [List.set_append_left _ _ h]⟩
end MS
namespace MS
open PySem
/-! ### comprehensions that change nothing -/
theorem zcomp_map {f : Val → Sto → R (Option D)} {g : Val → Option D} {S : Sto} {X : XP} {Q : List D → Sto → Prop} {xs : List Val} (h : ∀ x ∈ xs, W (f x S) noX fun o S' => o = g x ∧ S' = S) (q : Q (xs.filterMap g) S) : W (xL f xs S) X Q := by
  rw [W_d] at *
  rw [xL_d]
  exact Wp.of (compL_map (g := g) xs fun x hx => Wp.ok (h x hx)) q
theorem atD_nat {α : Type} {xs : List α} {i : Nat} (h : i < xs.length) : atD xs (i : Int) = xs[i]? := by
  unfold atD ixOf
  have h1 : (0 : Int) ≤ (i : Int) := Int.natCast_nonneg i
  have h2 : (i : Int) < (xs.length : Int) := by omega
  simp [h1, h2]
theorem atD_zero {α : Type} {x : α} {xs : List α} : atD (x :: xs) 0 = some x := by
  have := atD_nat (xs := x :: xs) (i := 0) (by simp)
  simpa using this
theorem pureItems_tup {S : Sto} {xs : List D} : pureItems S (.d (.tuple xs)) = some (xs, []) := by simp [pureItems, itemsV]
theorem pureItems_lst {S : Sto} {xs : List D} : pureItems S (.d (.list xs)) = some (xs, []) := by simp [pureItems, itemsV]
theorem enum_mem {ds : List D} {x : Val} (h : x ∈ enumD ds) : ∃ (i : Nat) (d : D), x = .d (.tuple [.int i, d]) ∧ ds[i]? = some d := by
  unfold enumD at h
  obtain ⟨⟨d, i⟩, h1, rfl⟩ := List.mem_map.mp h
  exact ⟨i, d, rfl, by have := List.mem_zipIdx' h1; rw [List.getElem?_eq_getElem this.1]; exact congrArg some this.2.symm⟩
theorem range_mem {a b : Int} {x : Val} (h : x ∈ rangeVs a b) : ∃ i : Int, x = .d (.int i) ∧ a ≤ i ∧ i < b := by
  unfold rangeVs at h
  obtain ⟨k, h1, rfl⟩ := List.mem_map.mp h
  have := List.mem_range.mp h1
  exact ⟨_, rfl, by omega, by omega⟩
theorem W.call {α : Type} {r : R α} {X : XP} {Q Q' : α → Sto → Prop} (h : W r noX Q) (k : ∀ v S, Q v S → Q' v S) : W r X Q' := h.imp2 k (fun _ _ z => z.elim)
theorem ix_list {S : Sto} {xs : List D} {i : Int} (h0 : 0 ≤ i) (h1 : i < xs.length) : ∃ x, x ∈ xs ∧ ixV S (.d (.list xs)) (.int i) = some (.d x) := by
  obtain ⟨j, rfl⟩ := Int.eq_ofNat_of_zero_le h0
  have hj : j < xs.length := by omega
  refine ⟨xs[j], List.getElem_mem hj, ?_⟩
  simp only [ixV, ixD]
  rw [atD_nat hj, List.getElem?_eq_getElem hj]; rfl
theorem ix_tup {S : Sto} {xs : List D} {i : Int} (h0 : 0 ≤ i) (h1 : i < xs.length) : ∃ x, x ∈ xs ∧ ixV S (.d (.tuple xs)) (.int i) = some (.d x) := by
  obtain ⟨j, rfl⟩ := Int.eq_ofNat_of_zero_le h0
  have hj : j < xs.length := by omega
  refine ⟨xs[j], List.getElem_mem hj, ?_⟩
  simp only [ixV, ixD]
  rw [atD_nat hj, List.getElem?_eq_getElem hj]; rfl
theorem allPairs_some : ∀ {ds : List D}, (∀ d ∈ ds, ∃ i x, d = .tuple [.int i, x]) → ∃ kvs, allPairs ds = some kvs
  | [], _ => ⟨[], rfl⟩
  | d :: ds, h => by
    obtain ⟨i, x, rfl⟩ := h d (by simp)
    obtain ⟨kvs, e⟩ := allPairs_some (ds := ds) fun y hy => h y (by simp [hy])
    exact ⟨(i, x) :: kvs, by simp [allPairs, e]⟩
theorem zix_list {S : Sto} {xs : List D} {r : Int} {Q : Val → Sto → Prop} (h0 : 0 ≤ r) (h1 : r < xs.length) (k : ∀ x ∈ xs, Q (.d x) S) : ∃ i w, Val.d (.int r) = .d (.int i) ∧ ixV S (.d (.list xs)) (.int i) = some w ∧ Q w S := by
  obtain ⟨x, hx, e⟩ := ix_list (S := S) h0 h1
  exact ⟨_, _, rfl, e, k x hx⟩
theorem zix_tup {S : Sto} {xs : List D} {r : Int} {Q : Val → Sto → Prop} (h0 : 0 ≤ r) (h1 : r < xs.length) (k : ∀ x ∈ xs, Q (.d x) S) : ∃ i w, Val.d (.int r) = .d (.int i) ∧ ixV S (.d (.tuple xs)) (.int i) = some w ∧ Q w S := by
  obtain ⟨x, hx, e⟩ := ix_tup (S := S) h0 h1
  exact ⟨_, _, rfl, e, k x hx⟩
theorem PureS.cat {S T : Sto} (h : PureS S) (h' : PureS T) : PureS (S ++ T) := by
  unfold PureS
  rw [belowS_iff, List.length_append]
  intro x hx
  rcases List.mem_append.mp hx with z | z
  · exact belowO_mono (Nat.le_add_right _ _) (belowS_iff.mp h x z)
  · exact belowO_mono (Nat.le_add_left _ _) (belowS_iff.mp h' x z)
theorem Pn.cat {p : Nat} {S T : Sto} (h : Pn p S) (h' : PureS T) : Pn p (S ++ T) := by
  obtain ⟨c, f, e⟩ := h.ob
  exact ⟨by have := h.lt; simp; omega, ⟨c, f, by rw [List.getElem?_append_left h.lt]; exact e⟩, h.pu.cat h'⟩
theorem pureO_d (xs : List D) : pureO (some (.lst (xs.map Val.d))) = true := by simp [pureO]
theorem PureS.nil : PureS [] := rfl
theorem PureS.cons {o : Option Ob} {S : Sto} (h : pureO o = true) (h' : PureS S) : PureS (o :: S) :=
  PureS.cat (S := [o]) (PureS.app PureS.nil h) h'
end MS

namespace Lw
section
open PySem MS
def f_is_from : Fn := ⟨3, 3,
    (.cons (.ret (.bools true (.cons (.isi (.var 0) [.int]) (.cons (.not (.isi (.var 0) [.bool])) (.cons (.chain .le .le (.var 1) (.var 0) (.var 2)) .nil)))))
    .nil)⟩
def f_rises : Fn := ⟨1, 2,
    (.cons (.ret (.bi .all (.comp [1] (.name 1) (.range1 (.bin .sub (.bi .len (.var 0)) (.int 1))) .nil (.cmp .lt (.ix (.var 0) (.var 1)) (.ix (.var 0) (.bin .add (.var 1) (.int 1)))))))
    .nil)⟩
def f_places_of : Fn := ⟨3, 8,
    (.cons (.set 3 (.lstN .nil))
    (.cons (.fors (.tup (.cons (.name 4) (.cons (.name 5) .nil))) (.enum (.var 0)) (.cons (.ext (.var 3) (.comp [6, 7] (.tup (.cons (.name 6) (.cons (.name 7) .nil))) (.enum (.var 5)) (.cons (.chain .le .le (.var 1) (.var 7) (.var 2)) .nil) (.tup (.cons (.var 4) (.cons (.var 6) .nil)))))
    .nil))
    (.cons (.ret (.fz (.var 3)))
    .nil)))⟩
def f_is_mead : Fn := ⟨1, 3,
    (.cons (.ifs (.bools false (.cons (.not (.isi (.var 0) [.tuple])) (.cons (.not (.chain .le .le (.int 1) (.bi .len (.var 0)) (.glob 0))) .nil))) (.cons (.ret (.bool false))
    .nil) .nil)
    (.cons (.fors (.name 1) (.over (.var 0)) (.cons (.ifs (.bools false (.cons (.not (.isi (.var 1) [.tuple])) (.cons (.not (.chain .le .le (.int 1) (.bi .len (.var 1)) (.glob 1))) (.cons (.cmp .ne (.bi .len (.var 1)) (.bi .len (.ix (.var 0) (.int 0)))) .nil)))) (.cons (.ret (.bool false))
    .nil) .nil)
    (.cons (.ifs (.not (.bi .all (.comp [2] (.name 2) (.over (.var 1)) .nil (.call 0 (.cons (.var 2) (.cons (.glob 5) (.cons (.glob 3) .nil))))))) (.cons (.ret (.bool false))
    .nil) .nil)
    .nil)))
    (.cons (.ret (.chain .le .le (.int 1) (.bi .len (.call 2 (.cons (.var 0) (.cons (.int 0) (.cons (.glob 3) .nil))))) (.glob 2)))
    .nil)))⟩
def f_cells_in : Fn := ⟨1, 1,
    (.cons (.ret (.call 2 (.cons (.var 0) (.cons (.int 0) (.cons (.glob 3) .nil)))))
    .nil)⟩
def f_worth_in : Fn := ⟨2, 4,
    (.cons (.ret (.bi .sum (.comp [2, 3] (.tup (.cons (.name 2) (.cons (.name 3) .nil))) (.over (.var 1)) .nil (.ix (.ix (.var 0) (.var 2)) (.var 3)))))
    .nil)⟩
def f_beside : Fn := ⟨1, 3,
    (.cons (.unp (.cons (.name 1) (.cons (.name 2) .nil)) (.var 0))
    (.cons (.ret (.lst (.cons (.tup (.cons (.bin .sub (.var 1) (.int 1)) (.cons (.var 2) .nil))) (.cons (.tup (.cons (.var 1) (.cons (.bin .sub (.var 2) (.int 1)) .nil))) (.cons (.tup (.cons (.var 1) (.cons (.bin .add (.var 2) (.int 1)) .nil))) (.cons (.tup (.cons (.bin .add (.var 1) (.int 1)) (.cons (.var 2) .nil))) .nil))))))
    .nil))⟩
def f_is_custom : Fn := ⟨1, 2,
    (.cons (.ifs (.bools false (.cons (.not (.isi (.var 0) [.tuple])) (.cons (.not (.chain .le .le (.int 1) (.bi .len (.var 0)) (.glob 6))) .nil))) (.cons (.ret (.bool false))
    .nil) .nil)
    (.cons (.ret (.bi .all (.comp [1] (.name 1) (.over (.var 0)) .nil (.call 0 (.cons (.var 1) (.cons (.int 1) (.cons (.glob 7) .nil)))))))
    .nil))⟩
def f_is_claim : Fn := ⟨1, 1,
    (.cons (.ifs (.bools false (.cons (.not (.isi (.var 0) [.tuple])) (.cons (.cmp .ne (.bi .len (.var 0)) (.int 3)) (.cons (.not (.call 0 (.cons (.ix (.var 0) (.int 0)) (.cons (.int 0) (.cons (.glob 8) .nil))))) .nil)))) (.cons (.ret (.bool false))
    .nil) .nil)
    (.cons (.ret (.bools true (.cons (.call 0 (.cons (.ix (.var 0) (.int 1)) (.cons (.int 0) (.cons (.bin .sub (.glob 6) (.int 1)) .nil)))) (.cons (.call 0 (.cons (.ix (.var 0) (.int 2)) (.cons (.int 1) (.cons (.glob 9) .nil)))) .nil))))
    .nil))⟩
def f_are_claims : Fn := ⟨1, 2,
    (.cons (.ifs (.bools false (.cons (.not (.isi (.var 0) [.tuple])) (.cons (.not (.chain .le .le (.int 1) (.bi .len (.var 0)) (.glob 10))) (.cons (.not (.bi .all (.comp [1] (.name 1) (.over (.var 0)) .nil (.call 8 (.cons (.var 1) .nil))))) .nil)))) (.cons (.ret (.bool false))
    .nil) .nil)
    (.cons (.ret (.call 1 (.cons (.comp [1] (.name 1) (.over (.var 0)) .nil (.sl (.var 1) .no (.yes (.int 2)))) .nil)))
    .nil))⟩
def f_stand : Fn := ⟨2, 5,
    (.cons (.ret (.bi .all (.comp [2, 3, 4] (.tup (.cons (.name 2) (.cons (.name 3) (.cons (.name 4) .nil)))) (.over (.var 1)) .nil (.cmp .lt (.var 3) (.bi .len (.var 0))))))
    .nil)⟩
def f_holders_in : Fn := ⟨1, 2,
    (.cons (.ret (.srt true false (.comp [1] (.name 1) (.over (.var 0)) .nil (.ix (.var 1) (.int 0)))))
    .nil)⟩
def f_need_holder : Fn := ⟨2, 2,
    (.cons (.ifs (.bools false (.cons (.not (.call 0 (.cons (.var 1) (.cons (.int 0) (.cons (.glob 8) .nil))))) (.cons (.cmp .notin (.var 1) (.call 11 (.cons (.var 0) .nil))) .nil))) (.cons (.raise 1001 (Str.ofString "no holder"))
    .nil) .nil)
    .nil)⟩
def f_counted : Fn := ⟨3, 6,
    (.cons (.ret (.bi .sum (.comp [3, 4, 5] (.tup (.cons (.name 3) (.cons (.name 4) (.cons (.name 5) .nil)))) (.over (.var 1)) (.cons (.cmp .eq (.var 3) (.var 2)) .nil) (.bin .mul (.ix (.var 0) (.var 4)) (.var 5)))))
    .nil)⟩
def f_counted_all : Fn := ⟨2, 5,
    (.cons (.ret (.bi .sum (.comp [2, 3, 4] (.tup (.cons (.name 2) (.cons (.name 3) (.cons (.name 4) .nil)))) (.over (.var 1)) .nil (.bin .mul (.ix (.var 0) (.var 3)) (.var 4)))))
    .nil)⟩
def f_piece_from : Fn := ⟨2, 5,
    (.cons (.par [2, 3] (.cons (.lstN (.cons (.var 1) .nil)) (.cons (.int 0) .nil)))
    (.cons (.whil 100000 (.cmp .lt (.var 3) (.bi .len (.var 2))) (.cons (.ext (.var 2) (.comp [4] (.name 4) (.over (.call 6 (.cons (.ix (.var 2) (.var 3)) .nil))) (.cons (.bools true (.cons (.cmp .isin (.var 4) (.var 0)) (.cons (.cmp .notin (.var 4) (.var 2)) .nil))) .nil) (.var 4)))
    (.cons (.set 3 (.bin .add (.var 3) (.int 1)))
    .nil)))
    (.cons (.ret (.bi .tuple (.srt false false (.var 2))))
    .nil)))⟩
def f_is_whole : Fn := ⟨1, 1,
    (.cons (.ret (.bools true (.cons (.cmp .ne (.var 0) (.tup .nil)) (.cons (.cmp .eq (.bi .len (.call 15 (.cons (.var 0) (.cons (.ix (.var 0) (.int 0)) .nil)))) (.bi .len (.var 0))) .nil))))
    .nil)⟩
def f_lies_at_road : Fn := ⟨2, 5,
    (.cons (.set 2 (.call 2 (.cons (.var 0) (.cons (.glob 4) (.cons (.glob 4) .nil)))))
    (.cons (.ret (.bi .any (.comp [3] (.name 3) (.over (.var 1)) .nil (.bi .any (.comp [4] (.name 4) (.over (.call 6 (.cons (.var 3) .nil))) .nil (.cmp .isin (.var 4) (.var 2)))))))
    .nil))⟩
def f_is_plea : Fn := ⟨1, 1,
    (.cons (.ifs (.bools false (.cons (.not (.isi (.var 0) [.tuple])) (.cons (.cmp .ne (.bi .len (.var 0)) (.int 4)) (.cons (.not (.call 3 (.cons (.ix (.var 0) (.int 0)) .nil))) (.cons (.not (.call 7 (.cons (.ix (.var 0) (.int 1)) .nil))) .nil))))) (.cons (.ret (.bool false))
    .nil) .nil)
    (.cons (.ret (.bools true (.cons (.call 9 (.cons (.ix (.var 0) (.int 2)) .nil)) (.cons (.call 10 (.cons (.ix (.var 0) (.int 1)) (.cons (.ix (.var 0) (.int 2)) .nil))) (.cons (.call 0 (.cons (.ix (.var 0) (.int 3)) (.cons (.int 0) (.cons (.glob 11) .nil)))) .nil)))))
    .nil))⟩
def f_need_plea : Fn := ⟨1, 1,
    (.cons (.ifs (.not (.call 18 (.cons (.var 0) .nil))) (.cons (.raise 1002 (Str.ofString "no plea"))
    .nil) .nil)
    .nil)⟩
def f_due_in : Fn := ⟨2, 6,
    (.cons (.unp (.cons (.name 2) (.cons (.name 3) (.cons (.name 4) (.cons (.name 5) .nil)))) (.var 0))
    (.cons (.ret (.tup (.cons (.bin .mul (.call 5 (.cons (.var 2) (.cons (.call 4 (.cons (.var 2) .nil)) .nil))) (.call 13 (.cons (.var 3) (.cons (.var 4) (.cons (.var 1) .nil))))) (.cons (.call 14 (.cons (.var 3) (.cons (.var 4) .nil))) .nil))))
    .nil))⟩
def f_is_worth : Fn := ⟨3, 5,
    (.cons (.unp (.cons (.name 3) (.cons (.name 4) .nil)) (.var 1))
    (.cons (.ret (.cmp .le (.bi .abs (.bin .sub (.bin .mul (.call 5 (.cons (.ix (.var 0) (.int 0)) (.cons (.var 2) .nil))) (.var 4)) (.var 3))) (.bin .mul (.ix (.var 0) (.int 3)) (.var 4))))
    .nil))⟩
def f_fits_due : Fn := ⟨3, 3,
    (.cons (.ret (.bools true (.cons (.call 21 (.cons (.var 0) (.cons (.var 1) (.cons (.var 2) .nil)))) (.cons (.call 17 (.cons (.ix (.var 0) (.int 0)) (.cons (.var 2) .nil))) (.cons (.call 16 (.cons (.var 2) .nil)) .nil)))))
    .nil)⟩
def f_is_fit : Fn := ⟨3, 3,
    (.cons (.ret (.call 22 (.cons (.var 0) (.cons (.call 20 (.cons (.var 0) (.cons (.var 1) .nil))) (.cons (.var 2) .nil)))))
    .nil)⟩
def f_land_by_holder : Fn := ⟨3, 5,
    (.cons (.ret (.bi .tuple (.comp [3, 4] (.tup (.cons (.name 3) (.cons (.name 4) .nil))) (.zip (.call 4 (.cons (.ix (.var 0) (.int 0)) .nil)) (.var 1)) (.cons (.cmp .eq (.var 4) (.var 2)) .nil) (.var 3))))
    .nil)⟩
def f_is_parted : Fn := ⟨2, 5,
    (.cons (.ifs (.bools false (.cons (.not (.isi (.var 1) [.tuple])) (.cons (.cmp .ne (.bi .len (.var 1)) (.bi .len (.call 4 (.cons (.ix (.var 0) (.int 0)) .nil)))) .nil))) (.cons (.ret (.bool false))
    .nil) .nil)
    (.cons (.set 2 (.call 11 (.cons (.ix (.var 0) (.int 2)) .nil)))
    (.cons (.ifs (.not (.bi .all (.comp [4] (.name 4) (.over (.var 1)) .nil (.bools true (.cons (.call 0 (.cons (.var 4) (.cons (.int 0) (.cons (.ix (.var 2) (.neg (.int 1))) .nil)))) (.cons (.cmp .isin (.var 4) (.var 2)) .nil)))))) (.cons (.ret (.bool false))
    .nil) .nil)
    (.cons (.ret (.bi .all (.comp [3] (.name 3) (.over (.var 2)) .nil (.call 23 (.cons (.var 0) (.cons (.var 3) (.cons (.call 24 (.cons (.var 0) (.cons (.var 1) (.cons (.var 3) .nil)))) .nil)))))))
    .nil))))⟩
def f_is_parting : Fn := ⟨2, 2,
    (.cons (.expr (.call 19 (.cons (.var 0) .nil)))
    (.cons (.ret (.call 25 (.cons (.var 0) (.cons (.var 1) .nil))))
    .nil))⟩
def f_need_parting : Fn := ⟨2, 2,
    (.cons (.ifs (.not (.call 25 (.cons (.var 0) (.cons (.var 1) .nil)))) (.cons (.raise 1003 (Str.ofString "no parting"))
    .nil) .nil)
    .nil)⟩
def f_is_house : Fn := ⟨1, 2,
    (.cons (.ret (.bools true (.cons (.isi (.var 0) [.tuple]) (.cons (.cmp .eq (.bi .len (.var 0)) (.int 2)) (.cons (.bi .all (.comp [1] (.name 1) (.over (.var 0)) .nil (.call 0 (.cons (.var 1) (.cons (.neg (.glob 13)) (.cons (.glob 13) .nil)))))) .nil)))))
    .nil)⟩
def f_are_houses : Fn := ⟨1, 2,
    (.cons (.ret (.bools true (.cons (.isi (.var 0) [.tuple]) (.cons (.cmp .eq (.bi .len (.var 0)) (.glob 12)) (.cons (.bi .all (.comp [1] (.name 1) (.over (.var 0)) .nil (.call 28 (.cons (.var 1) .nil)))) .nil)))))
    .nil)⟩
def f_need_houses : Fn := ⟨1, 1,
    (.cons (.ifs (.not (.call 29 (.cons (.var 0) .nil))) (.cons (.raise 1004 (Str.ofString "no houses"))
    .nil) .nil)
    .nil)⟩
def f_way_to : Fn := ⟨2, 4,
    (.cons (.ret (.bi .min (.comp [2, 3] (.tup (.cons (.name 2) (.cons (.name 3) .nil))) (.over (.var 1)) .nil (.bin .add (.bi .abs (.bin .sub (.var 2) (.ix (.var 0) (.int 0)))) (.bi .abs (.bin .sub (.var 3) (.ix (.var 0) (.int 1))))))))
    .nil)⟩
def f_way_of : Fn := ⟨4, 4,
    (.cons (.ret (.call 31 (.cons (.ix (.var 1) (.var 3)) (.cons (.call 24 (.cons (.var 0) (.cons (.var 2) (.cons (.var 3) .nil)))) .nil))))
    .nil)⟩
def f_far_of : Fn := ⟨4, 4,
    (.cons (.expr (.call 19 (.cons (.var 0) .nil)))
    (.cons (.expr (.call 30 (.cons (.var 1) .nil)))
    (.cons (.expr (.call 27 (.cons (.var 0) (.cons (.var 2) .nil))))
    (.cons (.expr (.call 12 (.cons (.ix (.var 0) (.int 2)) (.cons (.var 3) .nil))))
    (.cons (.ret (.call 32 (.cons (.var 0) (.cons (.var 1) (.cons (.var 2) (.cons (.var 3) .nil))))))
    .nil)))))⟩
def f_swapped : Fn := ⟨3, 5,
    (.cons (.set 3 (.dict2 (.var 1) (.var 2) (.var 2) (.var 1)))
    (.cons (.ret (.bi .tuple (.comp [4] (.name 4) (.over (.var 0)) .nil (.getI (.var 3) (.var 4) (.var 4)))))
    .nil))⟩
def f_both_would : Fn := ⟨5, 7,
    (.cons (.set 5 (.call 34 (.cons (.var 2) (.cons (.var 3) (.cons (.var 4) .nil)))))
    (.cons (.ifs (.not (.call 25 (.cons (.var 0) (.cons (.var 5) .nil)))) (.cons (.ret (.bool false))
    .nil) .nil)
    (.cons (.ret (.bi .all (.comp [6] (.name 6) (.over (.tup (.cons (.var 3) (.cons (.var 4) .nil)))) .nil (.cmp .lt (.call 32 (.cons (.var 0) (.cons (.var 1) (.cons (.var 5) (.cons (.var 6) .nil))))) (.call 32 (.cons (.var 0) (.cons (.var 1) (.cons (.var 2) (.cons (.var 6) .nil)))))))))
    .nil)))⟩
def f_need_two : Fn := ⟨5, 5,
    (.cons (.expr (.call 19 (.cons (.var 0) .nil)))
    (.cons (.expr (.call 30 (.cons (.var 1) .nil)))
    (.cons (.expr (.call 27 (.cons (.var 0) (.cons (.var 2) .nil))))
    (.cons (.expr (.call 12 (.cons (.ix (.var 0) (.int 2)) (.cons (.var 3) .nil))))
    (.cons (.expr (.call 12 (.cons (.ix (.var 0) (.int 2)) (.cons (.var 4) .nil))))
    (.cons (.ifs (.cmp .eq (.var 3) (.var 4)) (.cons (.raise 1001 (Str.ofString "one holder twice"))
    .nil) .nil)
    .nil))))))⟩
def f_exchanged : Fn := ⟨5, 5,
    (.cons (.expr (.call 36 (.cons (.var 0) (.cons (.var 1) (.cons (.var 2) (.cons (.var 3) (.cons (.var 4) .nil)))))))
    (.cons (.ifs (.not (.call 35 (.cons (.var 0) (.cons (.var 1) (.cons (.var 2) (.cons (.var 3) (.cons (.var 4) .nil))))))) (.cons (.raise 1005 (Str.ofString "they would not"))
    .nil) .nil)
    (.cons (.ret (.call 34 (.cons (.var 2) (.cons (.var 3) (.cons (.var 4) .nil)))))
    .nil)))⟩
def f_pairs_in : Fn := ⟨3, 7,
    (.cons (.par [4, 5] (.cons (.lstN .nil) (.cons (.call 11 (.cons (.ix (.var 0) (.int 2)) .nil)) .nil)))
    (.cons (.fors (.name 3) (.over (.var 5)) (.cons (.ext (.var 4) (.comp [6] (.name 6) (.over (.var 5)) (.cons (.bools true (.cons (.cmp .lt (.var 3) (.var 6)) (.cons (.call 35 (.cons (.var 0) (.cons (.var 1) (.cons (.var 2) (.cons (.var 3) (.cons (.var 6) .nil)))))) .nil))) .nil) (.tup (.cons (.var 3) (.cons (.var 6) .nil)))))
    .nil))
    (.cons (.ret (.var 4))
    .nil)))⟩
def f_need_all : Fn := ⟨3, 3,
    (.cons (.expr (.call 19 (.cons (.var 0) .nil)))
    (.cons (.expr (.call 30 (.cons (.var 1) .nil)))
    (.cons (.expr (.call 27 (.cons (.var 0) (.cons (.var 2) .nil))))
    .nil)))⟩
def f_who_would : Fn := ⟨3, 3,
    (.cons (.expr (.call 39 (.cons (.var 0) (.cons (.var 1) (.cons (.var 2) .nil)))))
    (.cons (.ret (.call 38 (.cons (.var 0) (.cons (.var 1) (.cons (.var 2) .nil)))))
    .nil))⟩
def f_settled : Fn := ⟨3, 4,
    (.cons (.expr (.call 39 (.cons (.var 0) (.cons (.var 1) (.cons (.var 2) .nil)))))
    (.cons (.set 3 (.call 38 (.cons (.var 0) (.cons (.var 1) (.cons (.var 2) .nil)))))
    (.cons (.whil 100000 (.cmp .ne (.var 3) (.lst .nil)) (.cons (.set 2 (.call 34 (.cons (.var 2) (.cons (.ix (.ix (.var 3) (.int 0)) (.int 0)) (.cons (.ix (.ix (.var 3) (.int 0)) (.int 1)) .nil)))))
    (.cons (.set 3 (.call 38 (.cons (.var 0) (.cons (.var 1) (.cons (.var 2) .nil)))))
    .nil)))
    (.cons (.ret (.var 2))
    .nil))))⟩
def f_law_cell : Fn := ⟨2, 2,
    (.cons (.ifs (.cmp .lt (.var 1) (.bi .len (.var 0))) (.cons (.ret (.ix (.var 0) (.var 1)))
    .nil) .nil)
    (.cons (.ret (.int 0))
    .nil))⟩
def f_law_pen : Fn := ⟨1, 1,
    (.cons (.ret (.lstN (.cons (.var 0) (.cons (.bi .int (.cmp .ge (.var 0) (.bin .pow (.int 10) (.int 18)))) .nil))))
    .nil)⟩
def f_law_draw : Fn := ⟨2, 3,
    (.cons (.ifs (.cmp .eq (.ix (.var 0) (.int 1)) (.int 1)) (.cons (.set 2 (.bin .mod (.ix (.var 0) (.int 0)) (.var 1)))
    (.cons (.setix (.var 0) (.int 0) (.bin .fdiv (.ix (.var 0) (.int 0)) (.var 1)))
    (.cons (.ret (.var 2))
    .nil))) .nil)
    (.cons (.setix (.var 0) (.int 0) (.bin .mod (.bin .add (.bin .mul (.bin .mod (.ix (.var 0) (.int 0)) (.int 2147483629)) (.int 48271)) (.int 11)) (.int 2147483629)))
    (.cons (.ret (.bin .mod (.bin .fdiv (.bin .mod (.bin .add (.bin .mul (.ix (.var 0) (.int 0)) (.ix (.var 0) (.int 0))) (.bin .mul (.int 40692) (.ix (.var 0) (.int 0)))) (.int 2147483647)) (.int 8)) (.var 1)))
    .nil)))⟩
def f_law_cells : Fn := ⟨1, 6,
    (.cons (.set 1 (.lstN .nil))
    (.cons (.fors (.tup (.cons (.name 2) (.cons (.name 3) .nil))) (.enum (.var 0)) (.cons (.ext (.var 1) (.comp [4, 5] (.tup (.cons (.name 4) (.cons (.name 5) .nil))) (.enum (.var 3)) (.cons (.cmp .ge (.var 5) (.int 0)) .nil) (.tup (.cons (.var 2) (.cons (.var 4) .nil)))))
    .nil))
    (.cons (.ret (.fz (.var 1)))
    .nil)))⟩
def f_law_next : Fn := ⟨2, 2,
    (.cons (.ret (.cmp .eq (.bin .add (.bi .abs (.bin .sub (.ix (.var 0) (.int 0)) (.ix (.var 1) (.int 0)))) (.bi .abs (.bin .sub (.ix (.var 0) (.int 1)) (.ix (.var 1) (.int 1))))) (.int 1)))
    .nil)⟩
def f_law_piece : Fn := ⟨2, 5,
    (.cons (.par [2, 3] (.cons (.lstN (.cons (.var 1) .nil)) (.cons (.int 0) .nil)))
    (.cons (.whil 100000 (.cmp .lt (.var 3) (.bi .len (.var 2))) (.cons (.ext (.var 2) (.comp [4] (.name 4) (.over (.var 0)) (.cons (.bools true (.cons (.cmp .notin (.var 4) (.var 2)) (.cons (.call 46 (.cons (.var 4) (.cons (.ix (.var 2) (.var 3)) .nil))) .nil))) .nil) (.var 4)))
    (.cons (.set 3 (.bin .add (.var 3) (.int 1)))
    .nil)))
    (.cons (.ret (.bi .tuple (.srt false false (.var 2))))
    .nil)))⟩
def f_law_at_road : Fn := ⟨2, 8,
    (.cons (.fors (.tup (.cons (.name 2) (.cons (.name 3) .nil))) (.enum (.var 0)) (.cons (.fors (.tup (.cons (.name 4) (.cons (.name 5) .nil))) (.enum (.var 3)) (.cons (.setc 6 (.comp [7] (.name 7) (.over (.var 1)) (.cons (.call 46 (.cons (.var 7) (.cons (.tup (.cons (.var 2) (.cons (.var 4) .nil))) .nil))) .nil) (.var 7)))
    (.cons (.ifs (.bools true (.cons (.cmp .eq (.var 5) (.neg (.int 1))) (.cons (.cmp .ne (.var 6) (.lst .nil)) .nil))) (.cons (.ret (.bool true))
    .nil) .nil)
    .nil)))
    .nil))
    (.cons (.ret (.bool false))
    .nil))⟩
def f_law_worth : Fn := ⟨2, 4,
    (.cons (.ret (.bi .sum (.comp [2, 3] (.tup (.cons (.name 2) (.cons (.name 3) .nil))) (.over (.var 1)) .nil (.ix (.ix (.var 0) (.var 2)) (.var 3)))))
    .nil)⟩
def f_law_loose : Fn := ⟨1, 11,
    (.cons (.par [4, 5] (.cons (.bin .add (.int 2) (.call 44 (.cons (.var 0) (.cons (.int 5) .nil)))) (.cons (.bin .add (.int 3) (.call 44 (.cons (.var 0) (.cons (.int 2) .nil)))) .nil)))
    (.cons (.set 1 (.lstN (.cons (.newc (.bin .mul (.lst (.cons (.neg (.int 1)) .nil)) (.var 5))) .nil)))
    (.cons (.fors (.name 2) (.range1 (.var 4)) (.cons (.ifs (.cmp .eq (.bin .mod (.var 2) (.var 5)) (.int 0)) (.cons (.app (.var 1) (.newc (.bin .mul (.lst (.cons (.neg (.int 2)) .nil)) (.var 5))))
    .nil) .nil)
    (.cons (.set 6 (.lst (.cons (.bin .add (.int 1) (.call 44 (.cons (.var 0) (.cons (.int 3) .nil)))) (.cons (.call 44 (.cons (.var 0) (.cons (.int 30) .nil))) .nil))))
    (.cons (.setix (.ix (.var 1) (.neg (.int 1))) (.bin .mod (.var 2) (.var 5)) (.ix (.var 6) (.bi .int (.cmp .eq (.call 44 (.cons (.var 0) (.cons (.int 4) .nil))) (.int 0)))))
    .nil))))
    (.cons (.ifs (.cmp .eq (.bi .len (.var 1)) (.int 3)) (.cons (.set 1 (.lstN (.cons (.ix (.var 1) (.int 1)) (.cons (.ix (.var 1) (.int 0)) (.cons (.ix (.var 1) (.int 2)) .nil)))))
    .nil) .nil)
    (.cons (.setc 3 (.comp [9] (.name 9) (.range1 (.int 4)) (.cons (.cmp .eq (.call 44 (.cons (.var 0) (.cons (.int 2) .nil))) (.int 0)) .nil) (.tup (.cons (.var 9) (.cons (.int 0) (.cons (.bin .add (.int 1) (.call 44 (.cons (.var 0) (.cons (.int 3) .nil)))) .nil))))))
    (.cons (.ifs (.cmp .eq (.var 3) (.lst .nil)) (.cons (.set 3 (.lst (.cons (.tup (.cons (.call 44 (.cons (.var 0) (.cons (.int 4) .nil))) (.cons (.int 0) (.cons (.int 2) .nil)))) .nil)))
    .nil) .nil)
    (.cons (.par [7, 8] (.cons (.bi .tuple (.comp [10] (.name 10) (.over (.var 1)) .nil (.bi .tuple (.var 10)))) (.cons (.ix (.lst (.cons (.int 4) (.cons (.int 9) (.cons (.int 999) .nil)))) (.call 44 (.cons (.var 0) (.cons (.int 3) .nil)))) .nil)))
    (.cons (.ret (.tup (.cons (.var 7) (.cons (.tup (.cons (.bin .add (.int 1) (.call 44 (.cons (.var 0) (.cons (.int 3) .nil)))) .nil)) (.cons (.bi .tuple (.sl (.var 3) .no (.yes (.int 3)))) (.cons (.var 8) .nil))))))
    .nil))))))))⟩
def f_law_holders : Fn := ⟨1, 2,
    (.cons (.ret (.srt true false (.comp [1] (.name 1) (.over (.ix (.var 0) (.int 2))) .nil (.ix (.var 1) (.int 0)))))
    .nil)⟩
def f_law_fits : Fn := ⟨3, 13,
    (.cons (.unp (.cons (.name 6) (.cons (.name 7) (.cons (.name 8) (.cons (.name 9) .nil)))) (.var 0))
    (.cons (.set 3 (.bi .sum (.comp [10, 11, 12] (.tup (.cons (.name 10) (.cons (.name 11) (.cons (.name 12) .nil)))) (.over (.var 8)) (.cons (.cmp .eq (.var 10) (.var 1)) .nil) (.bin .mul (.ix (.var 7) (.var 11)) (.var 12)))))
    (.cons (.set 4 (.bi .sum (.comp [10, 11, 12] (.tup (.cons (.name 10) (.cons (.name 11) (.cons (.name 12) .nil)))) (.over (.var 8)) .nil (.bin .mul (.ix (.var 7) (.var 11)) (.var 12)))))
    (.cons (.set 5 (.call 49 (.cons (.var 6) (.cons (.call 45 (.cons (.var 6) .nil)) .nil))))
    (.cons (.ifs (.bools false (.cons (.cmp .eq (.var 2) (.tup .nil)) (.cons (.cmp .gt (.bi .abs (.bin .sub (.bin .mul (.call 49 (.cons (.var 6) (.cons (.var 2) .nil))) (.var 4)) (.bin .mul (.var 5) (.var 3)))) (.bin .mul (.var 9) (.var 4))) .nil))) (.cons (.ret (.bool false))
    .nil) .nil)
    (.cons (.ret (.bools true (.cons (.call 48 (.cons (.var 6) (.cons (.var 2) .nil))) (.cons (.cmp .eq (.call 47 (.cons (.var 2) (.cons (.ix (.var 2) (.int 0)) .nil))) (.var 2)) .nil))))
    .nil))))))⟩
def f_law_fit_lands : Fn := ⟨2, 5,
    (.cons (.set 2 (.lst (.cons (.tup .nil) .nil)))
    (.cons (.fors (.name 3) (.over (.call 45 (.cons (.ix (.var 0) (.int 0)) .nil))) (.cons (.set 2 (.bin .add (.var 2) (.comp [4] (.name 4) (.over (.var 2)) .nil (.bin .add (.var 4) (.tup (.cons (.var 3) .nil))))))
    .nil))
    (.cons (.ret (.comp [4] (.name 4) (.over (.var 2)) (.cons (.call 52 (.cons (.var 0) (.cons (.var 1) (.cons (.var 4) .nil)))) .nil) (.var 4)))
    .nil)))⟩
def f_law_partings : Fn := ⟨1, 10,
    (.cons (.par [4, 5] (.cons (.call 45 (.cons (.ix (.var 0) (.int 0)) .nil)) (.cons (.lstN (.cons .dctN .nil)) .nil)))
    (.cons (.fors (.name 1) (.over (.call 51 (.cons (.var 0) .nil))) (.cons (.set 6 (.lstN .nil))
    (.cons (.fors (.name 7) (.over (.call 53 (.cons (.var 0) (.cons (.var 1) .nil)))) (.cons (.fors (.name 3) (.over (.var 5)) (.cons (.ifs (.cmp .eq (.comp [9] (.name 9) (.over (.var 7)) (.cons (.din false (.var 9) (.var 3)) .nil) (.var 9)) (.lst .nil)) (.cons (.set 8 (.dcpy (.var 3)))
    (.cons (.fors (.name 9) (.over (.var 7)) (.cons (.setd (.var 8) (.var 9) (.var 1))
    .nil))
    (.cons (.app (.var 6) (.var 8))
    .nil))) .nil)
    .nil))
    .nil))
    (.cons (.set 5 (.var 6))
    .nil))))
    (.cons (.set 2 (.lstN .nil))
    (.cons (.fors (.name 3) (.over (.var 5)) (.cons (.ifs (.cmp .eq (.dlen (.var 3)) (.bi .len (.var 4))) (.cons (.app (.var 2) (.bi .tuple (.comp [9] (.name 9) (.over (.var 4)) .nil (.dget (.var 3) (.var 9)))))
    .nil) .nil)
    .nil))
    (.cons (.ret (.srt false false (.var 2)))
    .nil)))))⟩
def f_law_contrary : Fn := ⟨2, 7,
    (.cons (.par [3, 4] (.cons (.call 45 (.cons (.ix (.var 1) (.int 0)) .nil)) (.cons (.lstN .nil) .nil)))
    (.cons (.fors (.name 2) (.range1 (.int 4)) (.cons (.unp (.cons (.name 5) (.cons (.name 6) .nil)) (.ix (.var 3) (.call 44 (.cons (.var 0) (.cons (.bi .len (.var 3)) .nil)))))
    (.cons (.app (.var 4) (.tup (.cons (.bin .sub (.bin .add (.var 5) (.call 44 (.cons (.var 0) (.cons (.int 3) .nil)))) (.int 1)) (.cons (.bin .sub (.bin .add (.var 6) (.call 44 (.cons (.var 0) (.cons (.int 3) .nil)))) (.int 1)) .nil))))
    .nil)))
    (.cons (.ret (.bi .tuple (.var 4)))
    .nil)))⟩
def f_law_ways : Fn := ⟨3, 4,
    (.cons (.ret (.comp [3] (.name 3) (.over (.call 51 (.cons (.var 0) .nil))) .nil (.call 33 (.cons (.var 0) (.cons (.var 1) (.cons (.var 2) (.cons (.var 3) .nil)))))))
    .nil)⟩
def f_law_right : Fn := ⟨3, 11,
    (.cons (.par [6, 7] (.cons (.var 2) (.cons (.bi .sum (.call 56 (.cons (.var 0) (.cons (.var 1) (.cons (.var 2) .nil))))) .nil)))
    (.cons (.set 3 (.call 40 (.cons (.var 0) (.cons (.var 1) (.cons (.var 6) .nil)))))
    (.cons (.whil 100000 (.cmp .ne (.var 3) (.lst .nil)) (.cons (.set 6 (.call 37 (.cons (.var 0) (.cons (.var 1) (.cons (.var 6) (.cons (.ix (.ix (.var 3) (.int 0)) (.int 0)) (.cons (.ix (.ix (.var 3) (.int 0)) (.int 1)) .nil)))))))
    (.cons (.set 8 (.bi .sum (.call 56 (.cons (.var 0) (.cons (.var 1) (.cons (.var 6) .nil))))))
    (.cons (.ifs (.cmp .gt (.var 8) (.bin .sub (.var 7) (.int 2))) (.cons (.ret (.bool false))
    .nil) .nil)
    (.cons (.par [7, 3] (.cons (.var 8) (.cons (.call 40 (.cons (.var 0) (.cons (.var 1) (.cons (.var 6) .nil)))) .nil)))
    .nil)))))
    (.cons (.set 4 (.call 41 (.cons (.var 0) (.cons (.var 1) (.cons (.var 2) .nil)))))
    (.cons (.ifs (.bools false (.cons (.cmp .ne (.var 4) (.var 6)) (.cons (.not (.isi (.var 4) [.tuple])) (.cons (.not (.call 26 (.cons (.var 0) (.cons (.var 4) .nil)))) .nil)))) (.cons (.ret (.bool false))
    .nil) .nil)
    (.cons (.set 5 (.xop .lzip (.call 56 (.cons (.var 0) (.cons (.var 1) (.cons (.var 4) .nil)))) (.cons (.call 56 (.cons (.var 0) (.cons (.var 1) (.cons (.var 2) .nil)))) .nil)))
    (.cons (.ret (.bools true (.cons (.cmp .eq (.comp [9, 10] (.tup (.cons (.name 9) (.cons (.name 10) .nil))) (.over (.var 5)) (.cons (.cmp .gt (.var 9) (.var 10)) .nil) (.var 9)) (.lst .nil)) (.cons (.cmp .eq (.call 41 (.cons (.var 0) (.cons (.var 1) (.cons (.var 4) .nil)))) (.var 4)) .nil))))
    .nil)))))))⟩
def f_law : Fn := ⟨1, 8,
    (.cons (.fors (.name 1) (.over (.bin .add (.lst (.cons (.call 42 (.cons (.var 0) (.cons (.int 0) .nil))) .nil)) (.sl (.var 0) (.yes (.int 1)) (.yes (.int 3))))) (.cons (.set 2 (.call 43 (.cons (.var 1) .nil)))
    (.cons (.set 3 (.call 50 (.cons (.var 2) .nil)))
    (.cons (.par [6, 7] (.cons (.call 55 (.cons (.var 2) (.cons (.var 3) .nil))) (.cons (.call 54 (.cons (.var 3) .nil)) .nil)))
    (.cons (.set 4 (.call 44 (.cons (.var 2) (.cons (.bin .add (.bi .len (.var 7)) (.int 1)) .nil))))
    (.cons (.fors (.name 5) (.over (.bin .add (.bin .add (.sl (.var 7) .no (.yes (.int 1))) (.sl (.var 7) (.yes (.var 4)) (.yes (.bin .add (.var 4) (.int 2))))) (.sl (.var 7) (.yes (.neg (.int 1))) .no))) (.cons (.ifs (.not (.call 57 (.cons (.var 3) (.cons (.var 6) (.cons (.var 5) .nil))))) (.cons (.ret (.bool false))
    .nil) .nil)
    .nil))
    .nil))))))
    (.cons (.ret (.bool true))
    .nil))⟩
def Gl : List D := [(.int (4)), (.int (6)), (.int (10)), (.int (99)), (.int (-1)), (.int (-2)), (.int (6)), (.int (100)), (.int (3)), (.int (20)), (.int (12)), (.int (999)), (.int (4)), (.int (99))]
def Pr (i : Nat) : Fn := match i with
  | 0 => f_is_from
  | 1 => f_rises
  | 2 => f_places_of
  | 3 => f_is_mead
  | 4 => f_cells_in
  | 5 => f_worth_in
  | 6 => f_beside
  | 7 => f_is_custom
  | 8 => f_is_claim
  | 9 => f_are_claims
  | 10 => f_stand
  | 11 => f_holders_in
  | 12 => f_need_holder
  | 13 => f_counted
  | 14 => f_counted_all
  | 15 => f_piece_from
  | 16 => f_is_whole
  | 17 => f_lies_at_road
  | 18 => f_is_plea
  | 19 => f_need_plea
  | 20 => f_due_in
  | 21 => f_is_worth
  | 22 => f_fits_due
  | 23 => f_is_fit
  | 24 => f_land_by_holder
  | 25 => f_is_parted
  | 26 => f_is_parting
  | 27 => f_need_parting
  | 28 => f_is_house
  | 29 => f_are_houses
  | 30 => f_need_houses
  | 31 => f_way_to
  | 32 => f_way_of
  | 33 => f_far_of
  | 34 => f_swapped
  | 35 => f_both_would
  | 36 => f_need_two
  | 37 => f_exchanged
  | 38 => f_pairs_in
  | 39 => f_need_all
  | 40 => f_who_would
  | 41 => f_settled
  | 42 => f_law_cell
  | 43 => f_law_pen
  | 44 => f_law_draw
  | 45 => f_law_cells
  | 46 => f_law_next
  | 47 => f_law_piece
  | 48 => f_law_at_road
  | 49 => f_law_worth
  | 50 => f_law_loose
  | 51 => f_law_holders
  | 52 => f_law_fits
  | 53 => f_law_fit_lands
  | 54 => f_law_partings
  | 55 => f_law_contrary
  | 56 => f_law_ways
  | 57 => f_law_right
  | 58 => f_law
  | _ => ⟨0, 0, .nil⟩

local macro_rules | `(tactic| fail) => `(tactic| first
  | refine zws_cons ?_ | refine zws_nil ?_ | refine zws_set ?_ | refine zws_setc ?_ | refine zws_unp ?_ | refine zws_par ?_ | refine zws_setix ?_ | refine zws_st2 ?_ | refine zws_expr ?_ | refine zws_setk ?_ | refine zws_setd ?_ | refine zws_app ?_ | refine zws_ext ?_ | refine zws_if ?_ | refine zws_ret ?_ | refine zws_pass ?_ | refine zws_brk ?_ | refine zws_cnt ?_ | refine zws_raise ?_ | refine zws_tri ?_
  | refine zwp_var rfl ?_ | refine zwp_glob rfl ?_ | refine zwp_none ?_ | refine zwp_bool ?_ | refine zwp_int ?_ | refine zwp_str ?_ | refine zwp_tup ?_ | refine zwp_lst ?_ | refine zwp_lstN ?_ | refine zwp_nil ?_ | refine zwp_cons ?_ | refine zwp_bin ?_ | refine zwp_neg ?_ | refine zwp_not ?_ | refine zwp_bools ?_ | refine zwp_b1 ?_ | refine zwp_b2 ?_ | refine zwp_cmp ?_ | refine zwp_chain ?_ | refine zwp_ife ?_ | refine zwp_ix ?_ | refine zwp_no ?_ | refine zwp_yes ?_ | refine zwp_sl ?_ | refine zwp_call ?_ | refine zwp_bi ?_ | refine zwp_xop ?_ | refine xv_lzip rfl ?_ | refine zwp_isi ?_ | refine zwp_lenSet ?_ | refine zwp_dictOf ?_ | refine zwp_dict1 ?_ | refine zwp_dict0 ?_ | refine zwp_fz ?_ | refine zwp_over ?_ | refine zwp_range1 ?_ | refine zwp_range2 ?_ | refine zwp_enum ?_ | refine zwp_zip ?_ | refine zwp_mm ?_ | refine zwp_srtD ?_ | refine zwp_srtN ?_ | refine zwp_dctN ?_ | refine zwp_newc ?_ | refine zwp_rev ?_ | refine zwp_dget ?_ | refine zwp_dgetZ ?_ | refine zwp_getI ?_ | refine zwp_dict2 ?_ | refine zwp_din ?_ | refine zwp_dlen ?_ | refine zwp_dcpy ?_ | refine zwp_srtP ?_ | refine zwp_callL ?_ | refine zwp_items ?_ | refine zwp_callP ?_ | refine zwp_comp ?_ | refine zwp_cs0 ?_ | refine zwp_cs1 ?_
  | refine zif_t rfl ?_ | refine zif_f rfl ?_
  | refine ⟨_, rfl, ?_⟩ | refine ⟨_, _, _, rfl, rfl, rfl, ?_⟩ | refine ⟨_, _, rfl, rfl, ?_⟩ | refine ⟨rfl, ?_⟩ | refine ⟨_, pureItems_tup, ?_⟩ | refine ⟨_, pureItems_lst, ?_⟩)
-- D1.lean
theorem view_ref {S : Sto} {n : Nat} {xs : List D} (h : stGet S n = some (.lst (xs.map Val.d))) : view S (.ref n) = some (.list xs) := by
  simp only [view, h, pureVs_map, Option.map_some]
theorem bi_len_ref {S : Sto} {n : Nat} {xs : List D} (h : stGet S n = some (.lst (xs.map Val.d))) : biV S .len (.ref n) = some (.int xs.length) := by
  simp only [biV, lenV, h, Option.map_some, List.length_map] <;> rfl
theorem bi_len_ref' {S : Sto} {n : Nat} {vs : List Val} (h : stGet S n = some (.lst vs)) : biV S .len (.ref n) = some (.int vs.length) := by
  simp only [biV, lenV, h, Option.map_some] <;> rfl
theorem items_ref {S : Sto} {n : Nat} {vs : List Val} (h : stGet S n = some (.lst vs)) : itemsV S (.ref n) = some (vs, [n]) := by
  simp only [itemsV, h]
theorem W.ofX {α : Type} {r : R α} {X : XP} {Q : α → Sto → Prop} {e : Exc} {S : Sto} (h : r = .exc e S) (x : X e S) : W r X Q := by
  rw [W_d, h]; exact x
theorem W.okX {α : Type} {r : R α} {e : Exc} {S : Sto} (h : W r (fun e' S' => e' = e ∧ S' = S) fun _ _ => False) : r = .exc e S := by
  rw [W_d] at h
  cases r with
  | ok _ _ => exact h.elim
  | exc e' S' => obtain ⟨rfl, rfl⟩ := h; rfl
  | stuck => exact h.elim
theorem set_self {α : Type} {l : List α} {n : Nat} {a : α} (h : l[n]? = some a) : l.set n a = l := by
  refine List.ext_getElem? fun i => ?_
  by_cases hi : n = i
  · subst hi; rw [List.getElem?_set_self (List.getElem?_eq_some_iff.mp h).1, h]
  · rw [List.getElem?_set_ne hi]
theorem stGet_iff {S : Sto} {n : Nat} {o : Ob} : stGet S n = some o ↔ S[n]? = some (some o) := by
  unfold stGet
  cases S[n]? with
  | none => simp
  | some o => simp
theorem unlock1 {S : Sto} {n : Nat} {o : Ob} (h : stGet S n = some o) : unlockS S (lockS S [n]) [n] = S := by
  have := stGet_iff.mp h
  simp only [lockS, unlockS, List.foldl_cons, List.foldl_nil, List.set_set, this, Option.join_some]
  exact set_self this
theorem ixv_tup {S : Sto} {xs : List D} {i : Nat} {x : D} (h : xs[i]? = some x) : ixV S (.d (.tuple xs)) (.int i) = some (.d x) := by
  have := (List.getElem?_eq_some_iff.mp h).1
  simp only [ixV, ixD, atD_nat this, h, Option.map_some]
def gD (f : D → D) : Val → Option D
  | .d y => some (f y)
  | _ => none
theorem gD_map {f : D → D} (xs : List D) : (xs.map Val.d).filterMap (gD f) = xs.map f := by
  induction xs with
  | nil => rfl
  | cons x xs ih => simp only [List.map_cons, List.filterMap_cons, ih, gD]
theorem biV_all {S : Sto} {xs : List D} {f : D → Bool} : biV S .all (.d (.list (xs.map fun y => .bool (f y)))) = some (.bool (xs.all f)) := by
  have e : (xs.map fun y => PyData.bool (f y)) = (xs.map f).map PyData.bool := by rw [List.map_map]; rfl
  simp only [biV, view_d, Option.bind_some, biD, e, allB_map, Option.map_some, List.all_map]
  rfl
theorem ixv_list {S : Sto} {xs : List D} {i : Nat} {x : D} (h : xs[i]? = some x) : ixV S (.d (.list xs)) (.int i) = some (.d x) := by
  have := (List.getElem?_eq_some_iff.mp h).1
  simp only [ixV, ixD, atD_nat this, h, Option.map_some]
theorem ixv_ref {S : Sto} {n : Nat} {vs : List Val} {i : Nat} {x : Val} (h : stGet S n = some (.lst vs)) (h2 : vs[i]? = some x) : ixV S (.ref n) (.int i) = some x := by
  have := (List.getElem?_eq_some_iff.mp h2).1
  simp only [ixV, h, atD_nat this, h2]
theorem deep_ref {S : Sto} {n k : Nat} {xs : List D} (h : stGet S n = some (.lst (xs.map Val.d))) : deepV S (k + 1) (.ref n) = some (.list xs) := by
  have : allO ((xs.map Val.d).map (deepV S k)) = some xs := by
    rw [List.map_map]
    clear h
    induction xs with
    | nil => rfl
    | cons x xs ih =>
      have e : deepV S k (.d x) = some x := by cases k <;> rfl
      simp only [List.map_cons, Function.comp, e, allO]
      rw [ih]; rfl
  simp only [deepV, h, this, Option.map_some]
def numB (x : D) (a b : Int) : Bool := match x with
  | .int i => decide (a ≤ i) && decide (i ≤ b)
  | _ => false
theorem is_from_run (k : Nat) (x : D) (a b : Int) (S : Sto) : MS.run Gl Pr (k + 1) 0 [.d x, .d (.int a), .d (.int b)] S = .ok (.d (.bool (numB x a b))) S := by
  refine W.ok (zwp_run (f := f_is_from) rfl rfl ?_)
  unfold f_is_from
  cases x
  case int i =>
    repeat fail
    refine zif (fun h => ?_) (fun h => ?_)
    · repeat fail
      refine ⟨?_, cutS_self _ _⟩
      simp [numB, of_decide_eq_true h]
    · refine ⟨?_, cutS_self _ _⟩
      have : ¬ a ≤ _ := of_decide_eq_false h
      simp [numB, this]
  all_goals repeat fail
  all_goals exact cutS_self _ _
theorem draw_run (k : Nat) {p : Nat} {m : Int} {S : Sto} (h : Pn p S) (h0 : 0 < m) (h1 : m < 2147483648) : W (MS.run Gl Pr (k + 1) 44 [.ref p, .d (.int m)] S) noX fun v S' => ∃ r, v = .d (.int r) ∧ 0 ≤ r ∧ r < m ∧ Gen p S S' := by
  obtain ⟨c, f, e⟩ := h.get
  have lt := h.lt
  refine zwp_run (f := f_law_draw) rfl rfl ?_
  unfold f_law_draw
  repeat fail
  refine ⟨_, _, rfl, pen_ix1 e, ?_⟩
  repeat fail
  refine zif (fun hf => ?_) (fun hf => ?_)
  · repeat fail
    refine ⟨_, _, rfl, pen_ix0 e, ?_⟩
    repeat fail
    refine ⟨_, _, _, rfl, rfl, binD_mod h0, ?_⟩
    repeat fail
    refine ⟨_, _, rfl, pen_ix0 e, ?_⟩
    repeat fail
    refine ⟨_, _, _, rfl, rfl, binD_fdiv h0 h1, ?_⟩
    repeat fail
    refine ⟨_, _, _, _, rfl, rfl, e, rfl, ?_⟩
    repeat fail
    refine ⟨Int.emod_nonneg _ (by omega), Int.emod_lt_of_pos _ h0, ?_⟩
    rw [cutS_len (by simp)]
    exact ⟨_, _, rfl⟩
  · repeat fail
    refine ⟨_, _, rfl, pen_ix0 e, ?_⟩
    repeat fail
    refine ⟨_, _, _, rfl, rfl, binD_mul (by unfold mulOk; simp), ?_⟩
    repeat fail
    refine ⟨_, _, _, _, rfl, rfl, e, rfl, ?_⟩
    have e2 : stGet (S.set p (penO ((c % 2147483629 * 48271 + 11) % 2147483629) f)) p = some (.lst [.d (.int ((c % 2147483629 * 48271 + 11) % 2147483629)), .d (.int f)]) := stGet_eq lt
    have b1 := Int.emod_nonneg (c % 2147483629 * 48271 + 11) (show (2147483629 : Int) ≠ 0 by decide)
    have b2 := Int.emod_lt_of_pos (c % 2147483629 * 48271 + 11) (show (0 : Int) < 2147483629 by decide)
    generalize (c % 2147483629 * 48271 + 11) % 2147483629 = d at e2 b1 b2
    repeat fail
    refine ⟨_, _, rfl, pen_ix0 e2, ?_⟩
    repeat fail
    refine ⟨_, _, rfl, pen_ix0 e2, ?_⟩
    have mk : mulOk d d = true := by unfold mulOk; simp; omega
    refine ⟨_, _, _, rfl, rfl, binD_mul mk, ?_⟩
    repeat fail
    refine ⟨_, _, rfl, pen_ix0 e2, ?_⟩
    refine ⟨_, _, _, rfl, rfl, binD_mul (by unfold mulOk; simp), ?_⟩
    repeat fail
    refine ⟨_, _, _, rfl, rfl, binD_mod h0, ?_⟩
    refine ⟨_, rfl, Int.emod_nonneg _ (by omega), Int.emod_lt_of_pos _ h0, ?_⟩
    rw [cutS_len (by simp)]
    exact ⟨_, _, rfl⟩
theorem sIx_nn {n d : Nat} {i : Int} (h : 0 ≤ i) : sIx n d (some i) = min i.toNat n := by
  simp only [sIx]
  rw [if_neg (by omega)]
theorem cut_drop {α : Type} {xs : List α} {i : Int} (h : 0 ≤ i) : cut xs (some i) none = xs.drop i.toNat := by
  unfold cut
  rw [sIx_nn h]
  have e : sIx xs.length xs.length none = xs.length := rfl
  rw [e]
  by_cases hi : i.toNat ≤ xs.length
  · rw [Nat.min_eq_left hi, List.take_of_length_le (by simp)]
  · rw [Nat.min_eq_right (by omega), List.drop_of_length_le (Nat.le_refl _), List.drop_of_length_le (by omega)]; simp
theorem cut_take {α : Type} {xs : List α} {i : Int} (h : 0 ≤ i) : cut xs none (some i) = xs.take i.toNat := by
  unfold cut
  rw [sIx_nn h]
  have e : sIx xs.length 0 none = 0 := rfl
  rw [e, List.drop_zero, Nat.sub_zero]
  by_cases hi : i.toNat ≤ xs.length
  · rw [Nat.min_eq_left hi]
  · rw [Nat.min_eq_right (by omega), List.take_length, List.take_of_length_le (by omega)]
theorem ixOf_nat {n i : Nat} (h : i < n) : ixOf n (i : Int) = some i := by
  unfold ixOf
  rw [if_pos (Int.natCast_nonneg i), if_pos (by omega)]; rfl
theorem draw_app (k : Nat) {p : Nat} {m : Int} {S T : Sto} (h : Pn p S) (hT : PureS T) (h0 : 0 < m) (h1 : m < 2147483648) : W (MS.run Gl Pr (k + 1) 44 [.ref p, .d (.int m)] (S ++ T)) noX fun v S' => ∃ r S1, v = .d (.int r) ∧ 0 ≤ r ∧ r < m ∧ Gen p S S1 ∧ S' = S1 ++ T := by
  refine W.call (draw_run k (h.cat hT) h0 h1) fun v S' ⟨r, e, r0, r1, g⟩ => ?_
  obtain ⟨S1, g1, e1⟩ := g.app h.lt
  exact ⟨r, S1, e, r0, r1, g1, e1⟩
theorem cell_run (k : Nat) (ns : List Int) (S : Sto) : W (MS.run Gl Pr (k + 1) 42 [.scr ns, .d (.int 0)] S) noX fun v S' => ∃ c, v = .d (.int c) ∧ S' = S := by
  refine zwp_run (f := f_law_cell) rfl rfl ?_
  unfold f_law_cell
  repeat fail
  refine zif (fun h => ?_) (fun h => ?_)
  · cases ns with
    | nil => simp at h
    | cons c ns =>
      repeat fail
      refine ⟨_, _, rfl, (show ixV S (.scr (c :: ns)) (.int 0) = some (.d (.int c)) by simp only [ixV, atD_zero]; rfl), ?_⟩
      exact ⟨c, rfl, cutS_self _ _⟩
  · repeat fail
    exact cutS_self _ _
theorem pen_run (k : Nat) (c : Int) {S : Sto} (hS : PureS S) : W (MS.run Gl Pr (k + 1) 43 [.d (.int c)] S) noX fun v S' => v = .ref S.length ∧ Pn S.length S' := by
  refine zwp_run (f := f_law_pen) rfl rfl ?_
  unfold f_law_pen
  repeat fail
  refine ⟨by simp [cutS], ?_, ?_⟩
  · exact ⟨c, _, by simp [cutS]; rfl⟩
  · exact hS.app rfl
theorem cut_len {α : Type} (xs : List α) (lo hi : Option Int) : (cut xs lo hi).length ≤ xs.length := by
  unfold cut
  rw [List.length_take, List.length_drop]; omega
theorem add_tup {a b : List D} (h : a.length + b.length ≤ sLine) : binD .add (.tuple a) (.tuple b) = some (.tuple (a ++ b)) := by
  simp only [binD]; rw [if_pos h]
theorem add_lst {a b : List D} (h : a.length + b.length ≤ sLine) : binD .add (.list a) (.list b) = some (.list (a ++ b)) := by
  simp only [binD]; rw [if_pos h]
theorem mul_tup {a : List D} {i : Int} (h : 0 ≤ i ∧ i ≤ 1000 ∧ a.length ≤ 1000) : binD .mul (.tuple a) (.int i) = some (.tuple (List.replicate i.toNat a).flatten) := by
  simp only [binD]; rw [if_pos h]
theorem gen_cut {p : Nat} {S S' : Sto} {v : Val} (g : Gen p S S') : Gen p S (cutS S.length v S') := by
  rw [cutS_len g.len]; exact g
/-! ### a thing is the same as itself -/
def nice : Nat → D → Bool
  | _, .none => true
  | _, .bool _ => true
  | _, .int _ => true
  | _, .str s => PyData.canLay0 (.str s)
  | n + 1, .list xs => xs.all (nice n)
  | n + 1, .tuple xs => xs.all (nice n)
  | _, _ => false
theorem all_const {S : Sto} : ∀ (xs : List Val) (h : ∀ x ∈ xs, ∃ y, x = Val.d y), biV S .all (.d (.list (xs.filterMap fun _ => some (.bool true)))) = some (.bool true) := by
  intro xs h
  have e : (xs.filterMap fun _ => some (PyData.bool true)) = xs.map fun _ => .bool true := by
    rw [List.filterMap_eq_map' ]
  rw [e]
  have e2 : (xs.map fun _ => PyData.bool true) = (xs.map fun _ => true).map PyData.bool := by simp
  simp only [biV, view_d, Option.bind_some, biD, e2, allB_map, Option.map_some, List.all_map]
  simp
/-! ### places -/
def rowPl (lo hi : Int) (row : Nat) : Nat → List Int → List D
  | _, [] => []
  | c, n :: ns => if decide (lo ≤ n) && decide (n ≤ hi) then .tuple [.int row, .int c] :: rowPl lo hi row (c + 1) ns else rowPl lo hi row (c + 1) ns
def plL (lo hi : Int) : Nat → List (List Int) → List D
  | _, [] => []
  | r, ns :: rs => rowPl lo hi r 0 ns ++ plL lo hi (r + 1) rs
abbrev rowD (ns : List Int) : D := .tuple (ns.map PyData.int)
abbrev mD (rs : List (List Int)) : D := .tuple (rs.map rowD)
def gPl (lo hi : Int) (row : Nat) : Val → Option D
  | .d (.tuple [.int c, .int n]) => if decide (lo ≤ n) && decide (n ≤ hi) then some (.tuple [.int row, .int c]) else none
  | _ => none
theorem gPl_rows (lo hi : Int) (row : Nat) : ∀ (ns : List Int) (c : Nat), ((((ns.map PyData.int).zipIdx c).map fun p => Val.d (.tuple [.int p.2, p.1])).filterMap (gPl lo hi row)) = rowPl lo hi row c ns
  | [], _ => rfl
  | n :: ns, c => by
    simp only [List.map_cons, List.zipIdx_cons, List.filterMap_cons, gPl, rowPl, gPl_rows lo hi row ns (c + 1)]
    split <;> rename_i h
    · split at h
      · cases h
      · rename_i h2; simp [h2]
    · split at h
      · rename_i h2; cases h; simp [h2]
      · cases h
theorem rowPl_le (lo hi : Int) (row : Nat) : ∀ (ns : List Int) (c : Nat), (rowPl lo hi row c ns).length ≤ ns.length
  | [], _ => by simp [rowPl]
  | n :: ns, c => by
    have := rowPl_le lo hi row ns (c + 1)
    simp only [rowPl, List.length_cons]
    split
    · simp only [List.length_cons]; omega
    · omega
theorem plL_app (lo hi : Int) : ∀ (a b : List (List Int)) (r : Nat), plL lo hi r (a ++ b) = plL lo hi r a ++ plL lo hi (r + a.length) b
  | [], b, r => by simp [plL]
  | x :: a, b, r => by
    simp only [List.cons_append, plL, plL_app lo hi a b (r + 1), List.length_cons, List.append_assoc]
    rw [show r + 1 + a.length = r + (a.length + 1) by omega]
theorem plL_le (lo hi : Int) : ∀ (a : List (List Int)) (r : Nat), (plL lo hi r a).length ≤ (a.map List.length).sum
  | [], _ => by simp [plL]
  | x :: a, r => by
    have := plL_le lo hi a (r + 1)
    have := rowPl_le lo hi r x 0
    simp only [plL, List.length_append, List.map_cons, List.sum_cons]; omega
theorem places_run (k : Nat) (rs : List (List Int)) (lo hi : Int) {S : Sto} (hS : PureS S) (hz : (rs.map List.length).sum ≤ sLine) : MS.run Gl Pr (k + 1) 2 [.d (mD rs), .d (.int lo), .d (.int hi)] S = .ok (.d (.list (plL lo hi 0 rs))) S := by
  refine W.ok (zwp_run (f := f_places_of) rfl rfl ?_)
  unfold f_places_of
  repeat fail
  refine zws_for ?_
  repeat fail
  refine ⟨fun xs env S' => ∃ done rest a b c d, rs = done ++ rest ∧ xs = ((rest.map rowD).zipIdx done.length).map (fun p => Val.d (.tuple [.int p.2, p.1])) ∧ S' = S ++ [some (.lst ((plL lo hi 0 done).map Val.d))] ∧ env = [some (.d (mD rs)), some (.d (.int lo)), some (.d (.int hi)), some (.ref S.length), a, b, c, d], ?_, ?_, ?_⟩
  · exact ⟨[], rs, none, none, none, none, rfl, rfl, rfl, rfl⟩
  · intro x r env S' ⟨done, rest, a, b, c, d, e1, e2, e3, e4⟩
    cases rest with
    | nil => simp at e2
    | cons ns rest =>
      simp only [List.map_cons, List.zipIdx_cons, List.cons.injEq] at e2
      obtain ⟨rfl, e2⟩ := e2
      subst e3 e4
      refine ⟨_, rfl, ?_⟩
      repeat fail
      refine ⟨isLst_at, ?_⟩
      repeat fail
      refine zcomp_map (g := gPl lo hi done.length) (fun x hx => ?_) ?_
      · obtain ⟨i, dd, rfl, hd⟩ := enum_mem hx
        rw [List.getElem?_map] at hd
        cases q : ns[i]? with
        | none => rw [q] at hd; cases hd
        | some n =>
          rw [q] at hd
          cases hd
          refine zwp_turn rfl ?_
          repeat fail
          refine zif (fun h => ?_) (fun h => ?_)
          · repeat fail
            have h' : decide (lo ≤ n) = true := h
            refine zif (fun h2 => ?_) (fun h2 => ?_)
            · have h2' : decide (n ≤ hi) = true := h2
              repeat fail
              simp [gPl, h', h2']
            · have h2' : decide (n ≤ hi) = false := h2
              simp [gPl, h', h2']
          · have h' : decide (lo ≤ n) = false := h
            repeat fail
            simp [gPl, h']
      · refine ⟨_, _, _, rfl, rfl, stGet_at, ?_, ?_⟩
        · have l1 := plL_le lo hi done 0
          have l2 := rowPl_le lo hi done.length ns 0
          have : ((enumD (ns.map PyData.int)).filterMap (gPl lo hi done.length)) = rowPl lo hi done.length 0 ns := gPl_rows lo hi done.length ns 0
          show (List.map Val.d (plL lo hi 0 done)).length + ((enumD (ns.map PyData.int)).filterMap (gPl lo hi done.length)).length ≤ sLine
          rw [this, List.length_map]
          rw [e1, List.map_append, List.sum_append] at hz
          simp only [List.map_cons, List.sum_cons] at hz
          omega
        · repeat fail
          refine ⟨done ++ [ns], rest, _, _, _, _, by rw [e1]; simp, by rw [e2]; simp, ?_, rfl⟩
          have : ((enumD (ns.map PyData.int)).filterMap (gPl lo hi done.length)) = rowPl lo hi done.length 0 ns := gPl_rows lo hi done.length ns 0
          show (S ++ [some (Ob.lst _)]).set S.length (some (.lst (List.map Val.d (plL lo hi 0 done) ++ List.map Val.d ((enumD (ns.map PyData.int)).filterMap (gPl lo hi done.length))))) = _
          rw [this, set_at, plL_app]
          simp [plL]
  · intro env S' ⟨done, rest, a, b, c, d, e1, e2, e3, e4⟩
    have hr : rest = [] := by
      cases rest with
      | nil => rfl
      | cons _ _ => simp at e2
    subst hr e3 e4
    rw [List.append_nil] at e1
    subst e1
    repeat fail
    refine zwp_fzR stGet_at (pureVs_map _) ?_
    refine ⟨rfl, cutS_app (fun _ z => by cases z) hS set_at⟩

-- D2.lean
/-! ### meads -/
def inSpan (n : Int) : Bool := decide (-2 ≤ n) && decide (n ≤ 99)
def toRows : List D → Option (List (List Int))
  | [] => some []
  | .tuple xs :: r => (allI xs).bind fun ns => (toRows r).map fun rs => ns :: rs
  | _ :: _ => none
def rowGood (l : Nat) (ns : List Int) : Bool := decide (1 ≤ ns.length) && decide (ns.length ≤ 6) && decide (ns.length = l) && ns.all inSpan
def cnt (rs : List (List Int)) : Nat := (plL 0 99 0 rs).length
def goodRows (rs : List (List Int)) : Bool := decide (1 ≤ rs.length) && decide (rs.length ≤ 4) && rs.all (rowGood (rs.headD []).length) && (decide (1 ≤ cnt rs) && decide (cnt rs ≤ 10))
def meadB : D → Bool
  | .tuple ds => match toRows ds with
    | some rs => goodRows rs
    | none => false
  | _ => false
theorem toRows_map (rs : List (List Int)) : toRows (rs.map rowD) = some rs := by
  induction rs with
  | nil => rfl
  | cons ns rs ih => simp [toRows, ih]
theorem toRows_app : ∀ (a : List (List Int)) (b : List D), toRows (a.map rowD ++ b) = (toRows b).map fun rs => a ++ rs
  | [], b => by simp
  | x :: a, b => by
    simp only [List.map_cons, List.cons_append, toRows, allI_map, Option.bind_some, toRows_app a b]
    cases toRows b <;> simp
/-- numbers of a span, as data -/
theorem numsB : ∀ (xs : List D), xs.all (fun x => numB x (-2) 99) = true → ∃ ns : List Int, xs = ns.map PyData.int ∧ ns.all inSpan = true
  | [], _ => ⟨[], rfl, rfl⟩
  | x :: xs, h => by
    rw [List.all_cons, Bool.and_eq_true] at h
    obtain ⟨ns, rfl, h2⟩ := numsB xs h.2
    cases x with
    | int i => exact ⟨i :: ns, rfl, by rw [List.all_cons, h2]; simpa [numB, inSpan] using h.1⟩
    | _ => simp [numB] at h
theorem allI_some' : ∀ {ds : List D} {bs : List Int}, allI ds = some bs → ds = bs.map PyData.int
  | [], bs, e => by simp [allI] at e; subst e; rfl
  | x :: r, bs, e => by
    cases x with
    | int b =>
      simp only [allI] at e
      cases q : allI r with
      | none => rw [q] at e; cases e
      | some cs => rw [q] at e; simp at e; subst e; rw [allI_some' q]; rfl
    | _ => simp [allI] at e
theorem numsN : ∀ (xs : List D) (ns : List Int), allI xs = some ns → xs.all (fun x => numB x (-2) 99) = ns.all inSpan := by
  intro xs ns h
  have := allI_some' h
  subst this
  rw [List.all_map]; rfl
theorem fm_map {f : D → D} (xs : List D) : (xs.map Val.d).filterMap (fun x => match x with | .d y => some (f y) | _ => none) = xs.map f := by
  induction xs with
  | nil => rfl
  | cons x xs ih => simp only [List.map_cons, List.filterMap_cons, ih]
/-- the span check over a row -/
theorem meadB_len {ds : List D} (h : ¬ (1 ≤ ds.length ∧ ds.length ≤ 4)) : meadB (.tuple ds) = false := by
  unfold meadB
  dsimp only
  cases q : toRows ds with
  | none => rfl
  | some rs =>
    have : rs.length = ds.length := by
      clear h
      induction ds generalizing rs with
      | nil => simp [toRows] at q; subst q; rfl
      | cons x ds ih =>
        cases x with
        | tuple xs =>
          simp only [toRows] at q
          cases q1 : allI xs with
          | none => rw [q1] at q; cases q
          | some ns =>
            rw [q1] at q
            simp only [Option.bind_some] at q
            cases q2 : toRows ds with
            | none => rw [q2] at q; cases q
            | some rs' => rw [q2] at q; simp at q; subst q; simp [ih _ q2]
        | _ => simp [toRows] at q
    simp only [goodRows, this]
    by_cases h1 : 1 ≤ ds.length
    · have : ¬ ds.length ≤ 4 := fun z => h ⟨h1, z⟩
      simp [this]
    · simp [h1]
/-- some row is none -/
theorem meadB_row {a : List (List Int)} {x : D} {b : List D} (h : ∀ ns, x = rowD ns → rowGood ((a ++ [ns]).headD []).length ns = false) : meadB (.tuple (a.map rowD ++ x :: b)) = false := by
  unfold meadB
  dsimp only
  rw [toRows_app]
  cases x with
  | tuple xs =>
    simp only [toRows]
    cases q1 : allI xs with
    | none => rfl
    | some ns =>
      simp only [Option.bind_some]
      cases q2 : toRows b with
      | none => rfl
      | some rs =>
        have := h ns (by rw [allI_some' q1])
        simp only [Option.map_some]
        have hh : ((a ++ ns :: rs).headD []) = ((a ++ [ns]).headD []) := by cases a <;> rfl
        simp only [goodRows, hh, List.all_append, List.all_cons, this]
        simp
  | _ => simp [toRows]
theorem is_mead_run (k : Nat) (x : D) {S : Sto} (hS : PureS S) : MS.run Gl Pr (k + 2) 3 [.d x] S = .ok (.d (.bool (meadB x))) S := by
  refine W.ok (zwp_run (f := f_is_mead) rfl rfl ?_)
  unfold f_is_mead
  cases x
  case tuple ds =>
    repeat fail
    refine zif (fun h1 => ?_) (fun h1 => ?_)
    · repeat fail
      refine zif (fun h2 => ?_) (fun h2 => ?_)
      · repeat fail
        refine ⟨?_, cutS_self _ _⟩
        rw [meadB_len]
        have := of_decide_eq_true h1
        simp at h2
        omega
      · repeat fail
        have l1 : 1 ≤ ds.length := by have := of_decide_eq_true h1; omega
        have l2 : ds.length ≤ 4 := by simp at h2; omega
        refine zws_for ?_
        repeat fail
        refine ⟨fun xs env S' => ∃ (dn : List (List Int)) (rest : List D) (a b : Option Val), ds = dn.map rowD ++ rest ∧ xs = rest.map Val.d ∧ S' = S ∧ env = [some (.d (.tuple ds)), a, b] ∧ (∀ ns ∈ dn, rowGood (dn.headD []).length ns = true), ?_, ?_, ?_⟩
        · exact ⟨[], ds, none, none, rfl, rfl, rfl, rfl, by simp⟩
        · intro x r env S' ⟨dn, rest, a, b, e1, e2, e3, e4, e5⟩
          cases rest with
          | nil => simp at e2
          | cons y rest =>
            simp only [List.map_cons, List.cons.injEq] at e2
            obtain ⟨rfl, e2⟩ := e2
            subst e3 e4
            refine ⟨_, rfl, ?_⟩
            have bad : (∀ ns, y = rowD ns → rowGood ((dn ++ [ns]).headD []).length ns = false) → meadB (.tuple ds) = false := fun h => by rw [e1]; exact meadB_row h
            cases y
            case tuple xs =>
              have inj : ∀ ns, PyData.tuple xs = rowD ns → ns.length = xs.length := fun ns z => by injection z with z; rw [z]; simp
              repeat fail
              refine zif (fun h3 => ?_) (fun h3 => ?_)
              · repeat fail
                refine zif (fun h4 => ?_) (fun h4 => ?_)
                · have hix : ∃ ys, ixV S' (.d (.tuple ds)) (.int 0) = some (.d (.tuple ys)) ∧ ∀ ns, PyData.tuple xs = rowD ns → ys.length = ((dn ++ [ns]).headD []).length := by
                    cases dn with
                    | nil => exact ⟨xs, by rw [e1]; simp [ixV, ixD, atD_zero], fun ns z => by simp [inj ns z]⟩
                    | cons n0 dn => exact ⟨n0.map PyData.int, by rw [e1]; simp [ixV, ixD, atD_zero], fun ns z => by simp⟩
                  obtain ⟨ys, hi1, hi2⟩ := hix
                  repeat fail
                  refine ⟨_, _, rfl, hi1, ?_⟩
                  repeat fail
                  refine zif (fun h5 => ?_) (fun h5 => ?_)
                  · repeat fail
                    refine ⟨?_, cutS_self _ _⟩
                    rw [bad fun ns z => ?_]
                    have h6 : ¬ ns.length = ((dn ++ [ns]).headD []).length := by
                      rw [← hi2 ns z, inj ns z]
                      simp [PyData.eqv] at h5
                      omega
                    simp only [rowGood, h6]
                    simp
                  · have h6 : xs.length = ys.length := by
                      simp [PyData.eqv] at h5
                      omega
                    repeat fail
                    refine zcomp_map (g := fun x => match x with | .d y => some (.bool (numB y (-2) 99)) | _ => none) (fun x hx => ?_) ?_
                    · obtain ⟨y, hy, rfl⟩ := List.mem_map.mp hx
                      refine zwp_turn rfl ?_
                      repeat fail
                      refine W.of (is_from_run _ _ _ _ _) ?_
                      repeat fail
                      rfl
                    · rw [fm_map]
                      refine ⟨_, biV_all, ?_⟩
                      repeat fail
                      refine zif (fun h7 => ?_) (fun h7 => ?_)
                      · repeat fail
                        refine ⟨?_, cutS_self _ _⟩
                        rw [bad fun ns z => ?_]
                        have h8 : ns.all inSpan = false := by
                          injection z with z
                          rw [← numsN xs ns (by rw [z]; exact allI_map ns)]
                          simpa using h7
                        simp only [rowGood, h8]
                        simp
                      · have h8 : xs.all (fun x => numB x (-2) 99) = true := by simpa using h7
                        obtain ⟨ns, rfl, hns⟩ := numsB xs h8
                        repeat fail
                        refine ⟨dn ++ [ns], rest, _, _, by rw [e1]; simp, e2, rfl, rfl, fun ms hm => ?_⟩
                        have hl := hi2 ns rfl
                        rcases List.mem_append.mp hm with hm | hm
                        · have := e5 ms hm
                          cases dn with
                          | nil => cases hm
                          | cons n0 dn => exact this
                        · rw [List.mem_singleton.mp hm]
                          simp at h3 h4 h6
                          simp only [rowGood, ← hl, hns, ← h6]
                          simp
                          omega
                · repeat fail
                  refine zif_t (by simpa using h4) ?_
                  repeat fail
                  refine ⟨?_, cutS_self _ _⟩
                  rw [bad fun ns z => ?_]
                  have := inj ns z
                  simp at h4
                  have : ¬ ns.length ≤ 6 := by omega
                  simp [rowGood, this]
              · repeat fail
                refine ⟨?_, cutS_self _ _⟩
                rw [bad fun ns z => ?_]
                have := inj ns z
                have h3' := of_decide_eq_false h3
                have : ¬ 1 ≤ ns.length := by omega
                simp [rowGood, this]
            all_goals repeat fail
            all_goals exact ⟨by rw [bad fun ns z => by cases z], cutS_self _ _⟩
        · intro env S' ⟨dn, rest, a, b, e1, e2, e3, e4, e5⟩
          have hr : rest = [] := by
            cases rest with
            | nil => rfl
            | cons _ _ => simp at e2
          subst hr e3 e4
          rw [List.append_nil] at e1
          subst e1
          have hsum : ∀ (dn : List (List Int)) (l : Nat), (∀ ns ∈ dn, rowGood l ns = true) → (dn.map List.length).sum ≤ 6 * dn.length := by
            intro dn l
            induction dn with
            | nil => intro _; simp
            | cons n0 dn ih =>
              intro h
              have h1 := h n0 (by simp)
              have h2 := ih fun ns hn => h ns (by simp [hn])
              simp [rowGood] at h1
              simp only [List.map_cons, List.sum_cons, List.length_cons]; omega
          have hs := hsum dn _ e5
          rw [List.length_map] at l1 l2
          repeat fail
          refine W.of (places_run _ dn 0 99 hS (Nat.le_trans hs (by unfold sLine; omega))) ?_
          have hg : meadB (mD dn) = (decide (1 ≤ cnt dn) && decide (cnt dn ≤ 10)) := by
            have : dn.all (rowGood (dn.headD []).length) = true := List.all_eq_true.mpr e5
            simp only [meadB, toRows_map, goodRows, this, l1, l2]
            simp
          repeat fail
          refine zif (fun h3 => ?_) (fun h3 => ?_)
          · repeat fail
            refine ⟨?_, cutS_self _ _⟩
            rw [hg]
            have : 1 ≤ cnt dn := by have := of_decide_eq_true h3; unfold cnt; omega
            have e9 : ∀ b b' : Bool, b = b' → Val.d (.bool b) = Val.d (.bool b') := fun b b' z => by rw [z]
            refine e9 _ _ ?_
            rw [Bool.eq_iff_iff, Bool.and_eq_true, decide_eq_true_eq, decide_eq_true_eq]
            unfold cnt at *
            constructor
            · intro z
              exact ⟨this, decide_eq_true (by omega)⟩
            · intro z
              have := of_decide_eq_true z.2
              omega
          · refine ⟨?_, cutS_self _ _⟩
            rw [hg]
            have : ¬ 1 ≤ cnt dn := by have := of_decide_eq_false h3; unfold cnt; omega
            simp [this]
    · repeat fail
      refine ⟨?_, cutS_self _ _⟩
      rw [meadB_len]
      have := of_decide_eq_false h1
      omega
  all_goals repeat fail
  all_goals exact cutS_self _ _
def is0 (n : Int) : Bool := decide (0 ≤ n) && decide (n ≤ 99)
def cntRow (ns : List Int) : Nat := (ns.filter is0).length
theorem rowPl_len (r : Nat) : ∀ (ns : List Int) (c : Nat), (rowPl 0 99 r c ns).length = cntRow ns
  | [], _ => rfl
  | n :: ns, c => by
    have ih := rowPl_len r ns (c + 1)
    unfold cntRow at *
    simp only [rowPl, List.filter_cons]
    by_cases h : is0 n = true
    · have h' : (decide (0 ≤ n) && decide (n ≤ 99)) = true := h
      rw [if_pos h', if_pos h, List.length_cons, List.length_cons, ih]
    · have h' : ¬ (decide (0 ≤ n) && decide (n ≤ 99)) = true := h
      rw [if_neg h', if_neg h, ih]
theorem plL_len : ∀ (rs : List (List Int)) (r : Nat), (plL 0 99 r rs).length = (rs.map cntRow).sum
  | [], _ => rfl
  | ns :: rs, r => by simp only [plL, List.length_append, rowPl_len, plL_len rs (r + 1), List.map_cons, List.sum_cons]
theorem meadB_rows (rs : List (List Int)) : meadB (mD rs) = goodRows rs := by
  simp only [meadB, toRows_map]
theorem good_parts {rs : List (List Int)} (h : goodRows rs = true) : 1 ≤ rs.length ∧ rs.length ≤ 4 ∧ (∀ ns ∈ rs, 1 ≤ ns.length ∧ ns.length ≤ 6 ∧ ns.length = (rs.headD []).length ∧ ∀ n ∈ ns, -2 ≤ n ∧ n ≤ 99) ∧ 1 ≤ cnt rs ∧ cnt rs ≤ 10 := by
  simp only [goodRows, Bool.and_eq_true, decide_eq_true_eq, List.all_eq_true] at h
  obtain ⟨⟨⟨h1, h2⟩, h3⟩, h4, h5⟩ := h
  refine ⟨h1, h2, fun ns hn => ?_, h4, h5⟩
  have := h3 ns hn
  simp only [rowGood, inSpan, Bool.and_eq_true, decide_eq_true_eq, List.all_eq_true] at this
  exact ⟨this.1.1.1, this.1.1.2, this.1.2, this.2⟩
theorem sum_le {α : Type} (f : α → Nat) (m : Nat) : ∀ (l : List α), (∀ x ∈ l, f x ≤ m) → (l.map f).sum ≤ m * l.length
  | [], _ => by simp
  | x :: l, h => by
    have h1 := h x (by simp)
    have h2 := sum_le f m l fun y hy => h y (by simp [hy])
    simp only [List.map_cons, List.sum_cons, List.length_cons, Nat.mul_add]; omega
theorem good_size {rs : List (List Int)} (h : goodRows rs = true) : (rs.map List.length).sum ≤ 24 := by
  obtain ⟨_, h2, h3, _⟩ := good_parts h
  have := sum_le List.length 6 rs fun ns hn => (h3 ns hn).2.1
  omega
theorem good_size' {rs : List (List Int)} (h : goodRows rs = true) : (rs.map List.length).sum ≤ sLine :=
  Nat.le_trans (good_size h) (by unfold sLine; omega)
def placeB : D → Bool
  | .tuple [a, b] => numB a 0 6 && numB b 0 6
  | _ => false
/-! ### a number at a place -/
def rowAt (ns : List Int) (c : Int) : Int := if 0 ≤ c then ns.getD c.toNat (-2) else -2
def numAt (rs : List (List Int)) (r c : Int) : Int := if 0 ≤ r then rowAt (rs.getD r.toNat []) c else -2
theorem eqv_pl (a b r c : Int) : PyData.eqv (.tuple [.int a, .int b]) (.tuple [.int r, .int c]) = (decide (a = r) && decide (b = c)) := by
  simp [PyData.eqv, PyData.eqvAll]; rfl
theorem rowAt_cons (n : Int) (ns : List Int) (c c0 : Int) : rowAt (n :: ns) (c - c0) = if c = c0 then n else rowAt ns (c - (c0 + 1)) := by
  unfold rowAt
  by_cases h : c = c0
  · subst h; simp
  · rw [if_neg h]
    by_cases h2 : 0 ≤ c - (c0 + 1)
    · rw [if_pos h2, if_pos (by omega)]
      have : (c - c0).toNat = (c - (c0 + 1)).toNat + 1 := by omega
      rw [this, List.getD_cons_succ]
    · rw [if_neg h2, if_neg (by omega)]
theorem rowAt_nil (c : Int) : rowAt [] c = -2 := by unfold rowAt; split <;> rfl
theorem rowAt_neg {ns : List Int} {c : Int} (h : c < 0) : rowAt ns c = -2 := by unfold rowAt; rw [if_neg (by omega)]
theorem rowPl_any {lo hi : Int} (hlo : -2 < lo) (row : Nat) (r c : Int) : ∀ (ns : List Int) (c0 : Nat), (rowPl lo hi row c0 ns).any (fun z => PyData.eqv z (.tuple [.int r, .int c])) = (decide ((row : Int) = r) && (decide (lo ≤ rowAt ns (c - c0)) && decide (rowAt ns (c - c0) ≤ hi)))
  | [], c0 => by
    have : ¬ lo ≤ rowAt [] (c - c0) := by rw [rowAt_nil]; omega
    simp [rowPl, this]
  | n :: ns, c0 => by
    have ih := rowPl_any (hi := hi) hlo row r c ns (c0 + 1)
    rw [rowAt_cons]
    have e0 : ((c0 + 1 : Nat) : Int) = (c0 : Int) + 1 := by omega
    rw [e0] at ih
    simp only [rowPl]
    by_cases hc : c = c0
    · have e1 : rowAt ns (c - (c0 + 1)) = -2 := rowAt_neg (by omega)
      have e2 : ¬ lo ≤ (-2 : Int) := by omega
      rw [e1] at ih
      rw [if_pos hc]
      split
      · rename_i h
        rw [List.any_cons, eqv_pl, ih]
        simp at h
        simp [e2, hc, h]
      · rename_i h
        rw [ih]
        simp at h
        simp [e2]
        intro _ z
        exact h z
    · rw [if_neg hc]
      have e3 : ¬ (c0 : Int) = c := fun z => hc z.symm
      split
      · rw [List.any_cons, eqv_pl, ih]
        simp [e3]
      · exact ih
theorem plL_any {lo hi : Int} (hlo : -2 < lo) (r c : Int) : ∀ (rs : List (List Int)) (r0 : Nat), (plL lo hi r0 rs).any (fun z => PyData.eqv z (.tuple [.int r, .int c])) = (decide (lo ≤ numAt rs (r - r0) c) && decide (numAt rs (r - r0) c ≤ hi))
  | [], r0 => by
    have : ¬ lo ≤ numAt [] (r - r0) c := by
      unfold numAt
      split
      · simp [rowAt_nil]; omega
      · omega
    simp [plL, this]
  | ns :: rs, r0 => by
    have ih := plL_any (hi := hi) hlo r c rs (r0 + 1)
    have e0 : ((r0 + 1 : Nat) : Int) = (r0 : Int) + 1 := by omega
    rw [e0] at ih
    simp only [plL, List.any_append, rowPl_any hlo r0 r c ns 0, ih]
    have e2 : ¬ lo ≤ (-2 : Int) := by omega
    by_cases hr : r = r0
    · have e1 : numAt rs (r - (r0 + 1)) c = -2 := by unfold numAt; rw [if_neg (by omega)]
      have e3 : numAt (ns :: rs) (r - r0) c = rowAt ns c := by
        unfold numAt; rw [if_pos (by omega)]
        have : (r - (r0 : Int)).toNat = 0 := by omega
        rw [this]; rfl
      rw [e1, e3]
      simp [hr, e2]
    · have e1 : numAt (ns :: rs) (r - r0) c = numAt rs (r - (r0 + 1)) c := by
        unfold numAt
        by_cases h2 : 0 ≤ r - ((r0 : Int) + 1)
        · rw [if_pos h2, if_pos (by omega)]
          have : (r - (r0 : Int)).toNat = (r - ((r0 : Int) + 1)).toNat + 1 := by omega
          rw [this, List.getD_cons_succ]
        · rw [if_neg h2, if_neg (by omega)]
      have e3 : ¬ (r0 : Int) = r := fun z => hr z.symm
      rw [e1]
      simp [e3]
theorem numAt_ge {rs : List (List Int)} {r c : Int} (h : -2 < numAt rs r c) : ∃ (i j : Nat) (ns : List Int), r = i ∧ c = j ∧ rs[i]? = some ns ∧ ns[j]? = some (numAt rs r c) := by
  unfold numAt at h ⊢
  by_cases hr : 0 ≤ r
  · rw [if_pos hr] at h ⊢
    unfold rowAt at h ⊢
    by_cases hc : 0 ≤ c
    · rw [if_pos hc] at h ⊢
      cases q : rs[r.toNat]? with
      | none => simp [List.getD_eq_getElem?_getD, q] at h
      | some ns =>
        simp only [List.getD_eq_getElem?_getD, q, Option.getD_some] at h ⊢
        cases q2 : ns[c.toNat]? with
        | none => simp [q2] at h
        | some n => exact ⟨r.toNat, c.toNat, ns, by omega, by omega, q, by simp [q2]⟩
    · rw [if_neg hc] at h; omega
  · rw [if_neg hr] at h; omega
def cellB (rs : List (List Int)) (x : D) : Bool := placeB x && (plL 0 99 0 rs).any fun z => PyData.eqv z x
theorem numAt_le {rs : List (List Int)} (hr : goodRows rs = true) (r c : Int) : numAt rs r c ≤ 99 := by
  by_cases h : -2 < numAt rs r c
  · obtain ⟨i, j, ns, _, _, e1, e2⟩ := numAt_ge h
    obtain ⟨_, _, h3, _⟩ := good_parts hr
    exact ((h3 ns (List.mem_of_getElem? e1)).2.2.2 _ (List.mem_of_getElem? e2)).2
  · omega
theorem cell_num {rs : List (List Int)} (hr : goodRows rs = true) (r c : Int) : cellB rs (.tuple [.int r, .int c]) = decide (0 ≤ numAt rs r c) := by
  have h1 := plL_any (lo := 0) (hi := 99) (by decide) r c rs 0
  have e0 : r - ((0 : Nat) : Int) = r := by omega
  rw [e0] at h1
  unfold cellB
  rw [h1]
  have h2 := numAt_le hr r c
  by_cases h : 0 ≤ numAt rs r c
  · have : placeB (.tuple [.int r, .int c]) = true := by
      obtain ⟨i, j, ns, e1, e2, e3, e4⟩ := numAt_ge (show -2 < numAt rs r c by omega)
      obtain ⟨_, l2, l3, _⟩ := good_parts hr
      have := (l3 ns (List.mem_of_getElem? e3)).2.1
      have := (List.getElem?_eq_some_iff.mp e3).1
      have := (List.getElem?_eq_some_iff.mp e4).1
      simp [placeB, numB]; omega
    rw [this]; simp [h, h2]
  · simp [h]
/-! ### worths together -/
def posI (n : Int) : Int := if n > 0 then n else 0
def rowPos (ns : List Int) : Int := (ns.map posI).sum
def sumPos (rs : List (List Int)) : Int := (rs.map rowPos).sum
def wOf (rs : List (List Int)) : D → Int
  | .tuple [.int r, .int c] => numAt rs r c
  | _ => 0
theorem numAt_nat {rs : List (List Int)} {i j : Nat} {ns : List Int} {n : Int} (h : rs[i]? = some ns) (h2 : ns[j]? = some n) : numAt rs i j = n := by
  unfold numAt rowAt
  rw [if_pos (by omega), if_pos (by omega)]
  simp [List.getD_eq_getElem?_getD, h, h2]
theorem rowPl_mem {lo hi : Int} {row : Nat} : ∀ {ns : List Int} {c : Nat} {d : D}, d ∈ rowPl lo hi row c ns → ∃ (j : Nat) (n : Int), d = .tuple [.int row, .int ((c + j : Nat) : Int)] ∧ ns[j]? = some n ∧ lo ≤ n ∧ n ≤ hi
  | [], c, d, h => by simp [rowPl] at h
  | n :: ns, c, d, h => by
    simp only [rowPl] at h
    have tl : d ∈ rowPl lo hi row (c + 1) ns → ∃ (j : Nat) (m : Int), d = .tuple [.int row, .int ((c + j : Nat) : Int)] ∧ (n :: ns)[j]? = some m ∧ lo ≤ m ∧ m ≤ hi := fun z => by
      obtain ⟨j, m, e, h1, h2⟩ := rowPl_mem z
      exact ⟨j + 1, m, by rw [e]; congr 4; omega, by simpa using h1, h2⟩
    split at h
    · rename_i hb
      rcases List.mem_cons.mp h with z | z
      · simp at hb
        exact ⟨0, n, by rw [z]; simp, by simp, hb⟩
      · exact tl z
    · exact tl h
theorem plL_mem {lo hi : Int} : ∀ {rs : List (List Int)} {r0 : Nat} {d : D}, d ∈ plL lo hi r0 rs → ∃ (i j : Nat) (ns : List Int) (n : Int), d = .tuple [.int ((r0 + i : Nat) : Int), .int j] ∧ rs[i]? = some ns ∧ ns[j]? = some n ∧ lo ≤ n ∧ n ≤ hi
  | [], r0, d, h => by simp [plL] at h
  | ns :: rs, r0, d, h => by
    simp only [plL] at h
    rcases List.mem_append.mp h with z | z
    · obtain ⟨j, n, e, h1, h2⟩ := rowPl_mem z
      exact ⟨0, j, ns, n, by rw [e]; simp, by simp, h1, h2⟩
    · obtain ⟨i, j, ms, n, e, h1, h2⟩ := plL_mem z
      exact ⟨i + 1, j, ms, n, by rw [e]; congr 3; omega, by simpa using h1, h2⟩
theorem rowPl_worth {rs : List (List Int)} {row : Nat} : ∀ (y x : List Int), rs[row]? = some (x ++ y) → (∀ n ∈ y, n ≤ 99) → ((rowPl 0 99 row x.length y).map (wOf rs)).sum = rowPos y
  | [], x, _, _ => rfl
  | n :: y, x, h, hn => by
    have ih := rowPl_worth y (x ++ [n]) (by rw [h]; simp) fun m hm => hn m (by simp [hm])
    rw [List.length_append, List.length_singleton] at ih
    have hc := hn n (by simp)
    have e : numAt rs row x.length = n := numAt_nat h (by simp)
    simp only [rowPl, rowPos, List.map_cons, List.sum_cons] at ih ⊢
    split
    · rename_i hb
      simp only [Bool.and_eq_true, decide_eq_true_eq] at hb
      rw [List.map_cons, List.sum_cons, ih]
      have : wOf rs (.tuple [.int row, .int x.length]) = n := e
      rw [this]
      congr 1
      unfold posI; split <;> omega
    · rename_i hb
      simp only [Bool.and_eq_true, decide_eq_true_eq] at hb
      rw [ih]
      have : posI n = 0 := by unfold posI; split <;> omega
      omega
theorem plL_worth {rs : List (List Int)} : ∀ (b a : List (List Int)), rs = a ++ b → (∀ ns ∈ b, ∀ n ∈ ns, n ≤ 99) → ((plL 0 99 a.length b).map (wOf rs)).sum = sumPos b
  | [], a, _, _ => rfl
  | ns :: b, a, h, hn => by
    have ih := plL_worth (rs := rs) b (a ++ [ns]) (by rw [h]; simp) fun m hm => hn m (by simp [hm])
    rw [List.length_append, List.length_singleton] at ih
    have h1 := rowPl_worth (rs := rs) (row := a.length) ns [] (by rw [h]; simp) (hn ns (by simp))
    simp only [plL, sumPos, List.map_cons, List.sum_cons, List.map_append, List.sum_append_int] at ih ⊢
    rw [ih]
    have : ((rowPl 0 99 a.length 0 ns).map (wOf rs)).sum = rowPos ns := h1
    rw [this]
theorem biV_sum {S : Sto} {xs : List D} {f : D → Int} : biV S .sum (.d (.list (xs.map fun y => .int (f y)))) = some (.int (xs.map f).sum) := by
  have e : (xs.map fun y => PyData.int (f y)) = (xs.map f).map PyData.int := by rw [List.map_map]; rfl
  simp only [biV, view_d, Option.bind_some, biD, e, allI_map, Option.map_some]

-- D3.lean
/-! ### customs and claims -/
abbrev Cl := Int × Int × Int
abbrev cD (c : Cl) : D := .tuple [.int c.1, .int c.2.1, .int c.2.2]
abbrev clD (cs : List Cl) : D := .tuple (cs.map cD)
abbrev cuD (cu : List Int) : D := .tuple (cu.map PyData.int)
def pLt (a b : Cl) : Prop := a.1 < b.1 ∨ (a.1 = b.1 ∧ a.2.1 < b.2.1)
structure GCu (cu : List Int) : Prop where
  l1 : 1 ≤ cu.length
  l2 : cu.length ≤ 6
  b : ∀ n ∈ cu, 1 ≤ n ∧ n ≤ 100
structure GCl (n : Nat) (cs : List Cl) : Prop where
  l1 : 1 ≤ cs.length
  l2 : cs.length ≤ 12
  b : ∀ c ∈ cs, (0 ≤ c.1 ∧ c.1 ≤ 3) ∧ (0 ≤ c.2.1 ∧ c.2.1 < n) ∧ 1 ≤ c.2.2 ∧ c.2.2 ≤ 20
  p : cs.Pairwise pLt
  n6 : n ≤ 6
theorem dataLt_pp (a b : Cl) (h : pLt a b) : PySem.W.dataLt (.tuple [.int a.1, .int a.2.1]) (.tuple [.int b.1, .int b.2.1]) = true := by
  rw [PySem.W.dataLt_ii]
  exact decide_eq_true h
theorem lt_pp {a b : Cl} (h : pLt a b) : cmpD .lt (.tuple [.int a.1, .int a.2.1]) (.tuple [.int b.1, .int b.2.1]) = some true := by
  show ltD _ _ = _
  unfold ltD
  rw [if_pos (by rfl), dataLt_pp a b h]
def pD (c : Cl) : D := .tuple [.int c.1, .int c.2.1]
theorem rises_run (k : Nat) {cs : List Cl} (S : Sto) (hp : cs.Pairwise pLt) (hl : 1 ≤ cs.length) (hl2 : cs.length ≤ 12) : MS.run Gl Pr (k + 1) 1 [.d (.list (cs.map pD))] S = .ok (.d (.bool true)) S := by
  refine W.ok (zwp_run (f := f_rises) rfl rfl ?_)
  unfold f_rises
  repeat fail
  have hlen : ((cs.map pD).length : Int) = cs.length := by simp
  refine ⟨?_, ?_⟩
  · show ((cs.map pD).length : Int) - 1 ≤ 16777216 ∧ -16777216 ≤ ((cs.map pD).length : Int) - 1
    omega
  refine zcomp_map (g := fun _ => some (.bool true)) (fun x hx => ?_) ?_
  · obtain ⟨i, rfl, h0, h1⟩ := range_mem hx
    have h1' : i < ((cs.map pD).length : Int) - 1 := h1
    obtain ⟨j, rfl⟩ := Int.eq_ofNat_of_zero_le h0
    have hj : j + 1 < cs.length := by omega
    have e1 : (cs.map pD)[j]? = some (pD cs[j]) := by rw [List.getElem?_map, List.getElem?_eq_getElem (by omega)]; rfl
    have e2 : (cs.map pD)[j + 1]? = some (pD cs[j + 1]) := by rw [List.getElem?_map, List.getElem?_eq_getElem hj]; rfl
    refine zwp_turn rfl ?_
    repeat fail
    refine ⟨_, _, rfl, ixv_list e1, ?_⟩
    repeat fail
    refine ⟨_, _, rfl, ixv_list (i := j + 1) e2, ?_⟩
    refine ⟨_, _, _, rfl, rfl, lt_pp (List.pairwise_iff_getElem.mp hp j (j + 1) (by omega) hj (by omega)), ?_⟩
    repeat fail
    rfl
  · refine ⟨_, all_const _ (fun x hx => ?_), ?_⟩
    · obtain ⟨i, rfl, _⟩ := range_mem hx
      exact ⟨_, rfl⟩
    exact ⟨rfl, cutS_self _ _⟩
theorem is_custom_run (k : Nat) {cu : List Int} (S : Sto) (h : GCu cu) : MS.run Gl Pr (k + 2) 7 [.d (cuD cu)] S = .ok (.d (.bool true)) S := by
  have hl : ((cu.map PyData.int).length : Int) = cu.length := by simp
  have := h.l1; have := h.l2
  refine W.ok (zwp_run (f := f_is_custom) rfl rfl ?_)
  unfold f_is_custom
  repeat fail
  refine zif_t (decide_eq_true (by show (1 : Int) ≤ ((cu.map PyData.int).length : Int); omega)) ?_
  repeat fail
  refine zif_f (by show (!decide (((cu.map PyData.int).length : Int) ≤ 6)) = false; rw [decide_eq_true (by omega)]; rfl) ?_
  repeat fail
  refine zcomp_map (g := gD fun y => .bool (numB y 1 100)) (fun x hx => ?_) ?_
  · obtain ⟨y, hy, rfl⟩ := List.mem_map.mp hx
    refine zwp_turn rfl ?_
    repeat fail
    refine W.of (is_from_run _ _ _ _ _) ?_
    repeat fail
    rfl
  · rw [gD_map]
    refine ⟨_, biV_all, ?_⟩
    refine ⟨?_, cutS_self _ _⟩
    have : (cu.map PyData.int).all (fun y => numB y 1 100) = true := by
      rw [List.all_eq_true]
      intro y hy
      obtain ⟨n, hn, rfl⟩ := List.mem_map.mp hy
      have := h.b n hn
      simp [numB]; omega
    rw [this]
theorem is_claim_run (k : Nat) {c : Cl} (S : Sto) (h : (0 ≤ c.1 ∧ c.1 ≤ 3) ∧ (0 ≤ c.2.1 ∧ c.2.1 ≤ 5) ∧ 1 ≤ c.2.2 ∧ c.2.2 ≤ 20) : MS.run Gl Pr (k + 2) 8 [.d (cD c)] S = .ok (.d (.bool true)) S := by
  obtain ⟨a, b, m⟩ := c
  obtain ⟨⟨h1, h2⟩, ⟨h3, h4⟩, h5, h6⟩ := h
  dsimp only at h1 h2 h3 h4 h5 h6
  refine W.ok (zwp_run (f := f_is_claim) rfl rfl ?_)
  unfold f_is_claim
  repeat fail
  refine W.of (is_from_run _ _ _ _ _) ?_
  repeat fail
  refine zif_f (by show (!numB (.int a) 0 3) = false; simp [numB, h1, h2]) ?_
  repeat fail
  refine W.of (is_from_run _ _ _ _ _) ?_
  repeat fail
  refine zif_t (by show numB (.int b) 0 5 = true; simp [numB, h3, h4]) ?_
  repeat fail
  refine W.of (is_from_run _ _ _ _ _) ?_
  refine ⟨?_, cutS_self _ _⟩
  have : numB (.int m) 1 20 = true := by simp [numB, h5, h6]
  show Val.d (.bool (numB (.int m) 1 20)) = _
  rw [this]
theorem are_claims_run (k n : Nat) {cs : List Cl} (S : Sto) (h : GCl n cs) : MS.run Gl Pr (k + 3) 9 [.d (clD cs)] S = .ok (.d (.bool true)) S := by
  have hl : ((cs.map cD).length : Int) = cs.length := by simp
  have h1 := h.l1; have h2 := h.l2; have h3 := h.n6
  refine W.ok (zwp_run (f := f_are_claims) rfl rfl ?_)
  unfold f_are_claims
  repeat fail
  refine zif_t (decide_eq_true (by show (1 : Int) ≤ ((cs.map cD).length : Int); omega)) ?_
  repeat fail
  refine zif_t (by show (!decide (((cs.map cD).length : Int) ≤ 12)) = false; rw [decide_eq_true (by omega)]; rfl) ?_
  repeat fail
  refine zcomp_map (g := fun _ => some (.bool true)) (fun x hx => ?_) ?_
  · obtain ⟨y, hy, rfl⟩ := List.mem_map.mp hx
    obtain ⟨c, hc, rfl⟩ := List.mem_map.mp hy
    have hb := h.b c hc
    refine zwp_turn rfl ?_
    repeat fail
    refine W.of (is_claim_run _ _ ⟨hb.1, ⟨hb.2.1.1, by omega⟩, hb.2.2⟩) ?_
    repeat fail
    rfl
  refine ⟨_, all_const _ (fun x hx => ?_), ?_⟩
  · obtain ⟨y, hy, rfl⟩ := List.mem_map.mp hx
    exact ⟨_, rfl⟩
  repeat fail
  refine zcomp_map (g := gD fun y => match y with | .tuple (a :: b :: _) => .tuple [a, b] | _ => .none) (fun x hx => ?_) ?_
  · obtain ⟨y, hy, rfl⟩ := List.mem_map.mp hx
    obtain ⟨c, hc, rfl⟩ := List.mem_map.mp hy
    refine zwp_turn rfl ?_
    repeat fail
    rfl
  have e2 : (cs.map cD).map (fun y => match y with | .tuple (a :: b :: _) => .tuple [a, b] | _ => .none) = cs.map pD := by
    rw [List.map_map]; rfl
  rw [gD_map, e2]
  repeat fail
  refine W.of (rises_run _ _ h.p h1 h2) ?_
  exact ⟨rfl, cutS_self _ _⟩
theorem stand_run (k : Nat) {cu : List Int} {cs : List Cl} (S : Sto) (h : GCl cu.length cs) : MS.run Gl Pr (k + 1) 10 [.d (cuD cu), .d (clD cs)] S = .ok (.d (.bool true)) S := by
  have hl : ((cu.map PyData.int).length : Int) = cu.length := by simp
  refine W.ok (zwp_run (f := f_stand) rfl rfl ?_)
  unfold f_stand
  repeat fail
  refine zcomp_map (g := fun _ => some (.bool true)) (fun x hx => ?_) ?_
  · obtain ⟨y, hy, rfl⟩ := List.mem_map.mp hx
    obtain ⟨c, hc, rfl⟩ := List.mem_map.mp hy
    have hb := h.b c hc
    refine zwp_turn rfl ?_
    repeat fail
    have : decide (c.2.1 < ((cu.map PyData.int).length : Int)) = true := decide_eq_true (by omega)
    refine ⟨?_, rfl⟩
    show some (PyData.bool (decide (c.2.1 < ((cu.map PyData.int).length : Int)))) = _
    rw [this]
  refine ⟨_, all_const _ (fun x hx => ?_), ?_⟩
  · obtain ⟨y, hy, rfl⟩ := List.mem_map.mp hx
    exact ⟨_, rfl⟩
  exact ⟨rfl, cutS_self _ _⟩
def hsOf (cs : List Cl) : List Int := srtI (cs.map (·.1))
theorem comp_fst {cs : List Cl} : ((cs.map cD).map Val.d).filterMap (gD fun y => match y with | .tuple (a :: _) => a | _ => .none) = (cs.map (·.1)).map PyData.int := by
  rw [gD_map, List.map_map, List.map_map]
  rfl
theorem sort_fst {cs : List Cl} (h : cs.length ≤ 12) : sortX true ((cs.map (·.1)).map PyData.int) = some ((hsOf cs).map PyData.int) := by
  unfold sortX
  dsimp only
  rw [allI_map, Option.bind_some, if_pos (by rw [List.length_map]; omega)]
  rfl
theorem holders_in_run (k : Nat) {cs : List Cl} (S : Sto) (h : cs.length ≤ 12) : MS.run Gl Pr (k + 1) 11 [.d (clD cs)] S = .ok (.d (.list ((hsOf cs).map PyData.int))) S := by
  refine W.ok (zwp_run (f := f_holders_in) rfl rfl ?_)
  unfold f_holders_in
  repeat fail
  refine zcomp_map (g := gD fun y => match y with | .tuple (a :: _) => a | _ => .none) (fun x hx => ?_) ?_
  · obtain ⟨y, hy, rfl⟩ := List.mem_map.mp hx
    obtain ⟨c, hc, rfl⟩ := List.mem_map.mp hy
    refine zwp_turn rfl ?_
    repeat fail
    rfl
  rw [comp_fst]
  refine ⟨_, _, rfl, sort_fst h, ?_⟩
  exact ⟨rfl, cutS_self _ _⟩
theorem lay_ints : ∀ (ns : List Int), PyData.canLayAll0 (ns.map PyData.int) = true
  | [] => rfl
  | n :: ns => by simp only [List.map_cons, PyData.canLayAll0, lay_ints ns, PyData.canLay0]; rfl
theorem any_ints (h : Int) : ∀ (ns : List Int), (ns.map PyData.int).any (fun z => PyData.eqv z (.int h)) = decide (h ∈ ns)
  | [] => by simp
  | n :: ns => by
    rw [List.map_cons, List.any_cons, any_ints h ns]
    simp only [PyData.eqv, List.mem_cons]
    by_cases e : h = n
    · subst e; simp
    · have : ¬ n = h := fun z => e z.symm
      simp [e, this]
theorem need_holder_run (k : Nat) {cs : List Cl} {h : Int} {S : Sto} (hS : PureS S) (hl : cs.length ≤ 12) (hh : 0 ≤ h ∧ h ≤ 3) (hm : h ∈ hsOf cs) : MS.run Gl Pr (k + 2) 12 [.d (clD cs), .d (.int h)] S = .ok (.d .none) S := by
  refine W.ok (zwp_run (f := f_need_holder) rfl rfl ?_)
  unfold f_need_holder
  repeat fail
  refine W.of (is_from_run _ _ _ _ _) ?_
  repeat fail
  refine zif_t (by show (!numB (.int h) 0 3) = false; simp [numB, hh]) ?_
  repeat fail
  refine W.of (holders_in_run _ _ hl) ?_
  refine ⟨_, _, _, rfl, rfl, (show (inD _ _).map _ = some _ from by unfold inD; rw [if_pos (by unfold inOk; rw [lay_ints]; rfl), any_ints, decide_eq_true hm]; rfl), ?_⟩
  repeat fail
  exact cutS_self _ _
/-! ### counts and shares -/
def wt (cu : List Int) (c : Cl) : Int := cu.getD c.2.1.toNat 0 * c.2.2
def cntH (cu : List Int) (cs : List Cl) (h : Int) : Int := ((cs.filter fun c => decide (c.1 = h)).map (wt cu)).sum
def totH (cu : List Int) (cs : List Cl) : Int := (cs.map (wt cu)).sum
theorem ix_cu {cu : List Int} {s : Int} {S : Sto} (h : 0 ≤ s ∧ s < cu.length) : ixV S (.d (cuD cu)) (.int s) = some (.d (.int (cu.getD s.toNat 0))) := by
  obtain ⟨j, rfl⟩ := Int.eq_ofNat_of_zero_le h.1
  have hj : j < cu.length := by omega
  refine ixv_tup ?_
  rw [List.getElem?_map, List.getElem?_eq_getElem hj, Int.toNat_natCast, List.getD_eq_getElem?_getD, List.getElem?_eq_getElem hj]; rfl
theorem mul_wt {cu : List Int} {c : Cl} (h : 1 ≤ c.2.2 ∧ c.2.2 ≤ 20) : binD .mul (.int (cu.getD c.2.1.toNat 0)) (.int c.2.2) = some (.int (wt cu c)) :=
  binD_mul (by unfold mulOk; simp; omega)
theorem wt_pos {cu : List Int} {c : Cl} (hcu : GCu cu) (h : (0 ≤ c.2.1 ∧ c.2.1 < cu.length) ∧ 1 ≤ c.2.2 ∧ c.2.2 ≤ 20) : 1 ≤ wt cu c ∧ wt cu c ≤ 2000 := by
  have hj : c.2.1.toNat < cu.length := by omega
  have e : cu.getD c.2.1.toNat 0 = cu[c.2.1.toNat] := by rw [List.getD_eq_getElem?_getD, List.getElem?_eq_getElem hj]; rfl
  have hb := hcu.b _ (List.getElem_mem hj)
  rw [← e] at hb
  unfold wt
  obtain ⟨h1, h2, h3⟩ := h
  constructor
  · have := Int.mul_le_mul (a := 1) (b := 1) (c := cu.getD c.2.1.toNat 0) (d := c.2.2) hb.1 h2 (by decide) (by omega)
    simpa using this
  · have := Int.mul_le_mul (a := cu.getD c.2.1.toNat 0) (b := c.2.2) (c := 100) (d := 20) hb.2 h3 (by omega) (by decide)
    simpa using this
theorem sum_bd {cu : List Int} : ∀ {cs : List Cl}, (∀ c ∈ cs, 1 ≤ wt cu c ∧ wt cu c ≤ 2000) → (cs.length : Int) ≤ (cs.map (wt cu)).sum ∧ (cs.map (wt cu)).sum ≤ 2000 * cs.length
  | [], _ => by simp
  | c :: cs, h => by
    have h1 := h c (by simp)
    have h2 := sum_bd (cs := cs) fun x hx => h x (by simp [hx])
    simp only [List.map_cons, List.sum_cons, List.length_cons]
    omega
def gW (cu : List Int) : Val → Option D
  | .d (.tuple [.int _, .int s, .int m]) => some (.int (cu.getD s.toNat 0 * m))
  | _ => none
theorem gW_map (cu : List Int) : ∀ (cs : List Cl), ((cs.map cD).map Val.d).filterMap (gW cu) = (cs.map (wt cu)).map PyData.int
  | [] => rfl
  | c :: cs => by
    simp only [List.map_cons, List.filterMap_cons, gW, gW_map cu cs, wt]
def gWh (cu : List Int) (h : Int) : Val → Option D
  | .d (.tuple [.int a, .int s, .int m]) => if decide (a = h) then some (.int (cu.getD s.toNat 0 * m)) else none
  | _ => none
theorem gWh_map (cu : List Int) (h : Int) : ∀ (cs : List Cl), ((cs.map cD).map Val.d).filterMap (gWh cu h) = ((cs.filter fun c => decide (c.1 = h)).map (wt cu)).map PyData.int
  | [] => rfl
  | c :: cs => by
    simp only [List.map_cons, List.filterMap_cons, gWh, gWh_map cu h cs, List.filter_cons]
    by_cases e : c.1 = h
    · simp [e, wt]
    · simp [e]
theorem biV_sumI {S : Sto} {ns : List Int} : biV S .sum (.d (.list (ns.map PyData.int))) = some (.int ns.sum) := by
  simp only [biV, view_d, Option.bind_some, biD, allI_map, Option.map_some]
theorem eqv_int (a b : Int) : PyData.eqv (.int a) (.int b) = decide (a = b) := by
  simp only [PyData.eqv]; rfl
theorem counted_run (k : Nat) {cu : List Int} {cs : List Cl} {h : Int} (S : Sto) (hcl : GCl cu.length cs) : MS.run Gl Pr (k + 1) 13 [.d (cuD cu), .d (clD cs), .d (.int h)] S = .ok (.d (.int (cntH cu cs h))) S := by
  refine W.ok (zwp_run (f := f_counted) rfl rfl ?_)
  unfold f_counted
  repeat fail
  refine zcomp_map (g := gWh cu h) (fun x hx => ?_) ?_
  · obtain ⟨y, hy, rfl⟩ := List.mem_map.mp hx
    obtain ⟨c, hc, rfl⟩ := List.mem_map.mp hy
    have hb := hcl.b c hc
    refine zwp_turn rfl ?_
    repeat fail
    refine zif (fun h1 => ?_) (fun h1 => ?_)
    · have h1' : c.1 = h := by rw [eqv_int] at h1; exact of_decide_eq_true h1
      repeat fail
      refine ⟨_, _, rfl, ix_cu hb.2.1, ?_⟩
      repeat fail
      refine ⟨_, _, _, rfl, rfl, mul_wt hb.2.2, ?_⟩
      repeat fail
      simp [gWh, h1', wt]
    · have h1' : ¬ c.1 = h := by rw [eqv_int] at h1; exact of_decide_eq_false h1
      simp [gWh, h1']
  · rw [gWh_map]
    refine ⟨_, biV_sumI, ?_⟩
    exact ⟨rfl, cutS_self _ _⟩
theorem counted_all_run (k : Nat) {cu : List Int} {cs : List Cl} (S : Sto) (hcl : GCl cu.length cs) : MS.run Gl Pr (k + 1) 14 [.d (cuD cu), .d (clD cs)] S = .ok (.d (.int (totH cu cs))) S := by
  refine W.ok (zwp_run (f := f_counted_all) rfl rfl ?_)
  unfold f_counted_all
  repeat fail
  refine zcomp_map (g := gW cu) (fun x hx => ?_) ?_
  · obtain ⟨y, hy, rfl⟩ := List.mem_map.mp hx
    obtain ⟨c, hc, rfl⟩ := List.mem_map.mp hy
    have hb := hcl.b c hc
    refine zwp_turn rfl ?_
    repeat fail
    refine ⟨_, _, rfl, ix_cu hb.2.1, ?_⟩
    repeat fail
    refine ⟨_, _, _, rfl, rfl, mul_wt hb.2.2, ?_⟩
    repeat fail
    rfl
  · rw [gW_map]
    refine ⟨_, biV_sumI, ?_⟩
    exact ⟨rfl, cutS_self _ _⟩

-- D4.lean
/-! ### places beside each other -/
abbrev Pl := Int × Int
def plD (p : Pl) : D := .tuple [.int p.1, .int p.2]
abbrev laD (l : List Pl) : D := .tuple (l.map plD)
def iabs (i : Int) : Int := if i < 0 then -i else i
def adj (p q : Pl) : Bool := decide (iabs (p.1 - q.1) + iabs (p.2 - q.2) = 1)
def besides (p : Pl) : List Pl := [(p.1 - 1, p.2), (p.1, p.2 - 1), (p.1, p.2 + 1), (p.1 + 1, p.2)]
theorem mem_besides {p q : Pl} : q ∈ besides p ↔ adj p q = true := by
  obtain ⟨a, b⟩ := p
  obtain ⟨c, d⟩ := q
  simp only [besides, adj, List.mem_cons, List.not_mem_nil, or_false, Prod.mk.injEq, decide_eq_true_eq, iabs]
  constructor
  · rintro (h | h | h | h) <;> (split <;> split <;> omega)
  · intro h
    split at h <;> split at h <;> omega
theorem adj_comm (p q : Pl) : adj p q = adj q p := by
  obtain ⟨a, b⟩ := p
  obtain ⟨c, d⟩ := q
  simp only [adj, iabs]
  refine decide_eq_decide.mpr ⟨fun h => ?_, fun h => ?_⟩ <;> (split at h <;> split at h <;> split <;> split <;> omega)
theorem besides_nodup (p : Pl) : (besides p).Nodup := by
  obtain ⟨a, b⟩ := p
  simp only [besides, List.nodup_cons, List.mem_cons, List.not_mem_nil, or_false, Prod.mk.injEq, List.nodup_nil, and_true, not_false_eq_true]
  refine ⟨fun h => ?_, fun h => ?_, fun h => ?_⟩ <;> omega
/-- what can be come to from o within l -/
inductive Reach (l : List Pl) (o : Pl) : Pl → Prop
  | o : Reach l o o
  | go {p q : Pl} : Reach l o p → adj p q = true → q ∈ l → Reach l o q
theorem Reach.sub {l : List Pl} {o : Pl} {X : Pl → Prop} (h0 : X o) (hs : ∀ p q, X p → adj p q = true → q ∈ l → X q) : ∀ {p : Pl}, Reach l o p → X p := by
  intro p h
  induction h with
  | o => exact h0
  | go _ h1 h2 ih => exact hs _ _ ih h1 h2
theorem Reach.mem {l : List Pl} {o p : Pl} (ho : o ∈ l) (h : Reach l o p) : p ∈ l := by
  cases h with
  | o => exact ho
  | go _ _ h => exact h
theorem nodup_len {a b : List Pl} (h : a.Nodup) (hs : ∀ x ∈ a, x ∈ b) : a.length ≤ b.length := by
  induction a generalizing b with
  | nil => simp
  | cons x a ih =>
    obtain ⟨h1, h2⟩ := List.nodup_cons.mp h
    have hx := hs x (by simp)
    have := ih (b := b.erase x) h2 fun y hy => by
      have hne : y ≠ x := fun z => h1 (z ▸ hy)
      exact (List.mem_erase_of_ne hne).mpr (hs y (by simp [hy]))
    rw [List.length_erase_of_mem hx] at this
    have hp : 0 < b.length := List.length_pos_of_mem hx
    simp only [List.length_cons]; omega
/-- all of a land hangs together -/
def Hangs (l : List Pl) (o : Pl) : Prop := ∀ p ∈ l, Reach l o p
/-! the line that grows: the state of piece_from -/
structure Line (l : List Pl) (o : Pl) (ln : List Pl) (at_ : Nat) : Prop where
  nd : ln.Nodup
  sub : ∀ p ∈ ln, p ∈ l
  re : ∀ p ∈ ln, Reach l o p
  o : o ∈ ln
  le : at_ ≤ ln.length
  cl : ∀ i, i < at_ → ∀ p, ln[i]? = some p → ∀ q, adj p q = true → q ∈ l → q ∈ ln
def moreOf (l ln : List Pl) (p : Pl) : List Pl := (besides p).filter fun q => decide (q ∈ l) && !decide (q ∈ ln)
theorem Line.step {l ln : List Pl} {o p : Pl} {n : Nat} (h : Line l o ln n) (hp : ln[n]? = some p) : Line l o (ln ++ moreOf l ln p) (n + 1) := by
  have hm : ∀ q ∈ moreOf l ln p, adj p q = true ∧ q ∈ l ∧ q ∉ ln := fun q hq => by
    unfold moreOf at hq
    rw [List.mem_filter] at hq
    simp only [Bool.and_eq_true, decide_eq_true_eq, Bool.not_eq_true', decide_eq_false_iff_not] at hq
    exact ⟨mem_besides.mp hq.1, hq.2⟩
  have hlt := (List.getElem?_eq_some_iff.mp hp).1
  have hpm : p ∈ ln := List.mem_of_getElem? hp
  refine ⟨?_, fun q hq => ?_, fun q hq => ?_, List.mem_append_left _ h.o, by simp; omega, fun i hi q hq r hr hl => ?_⟩
  · rw [List.nodup_append]
    refine ⟨h.nd, (besides_nodup p).filter _, fun a ha b hb e => ?_⟩
    subst e
    exact (hm a hb).2.2 ha
  · rcases List.mem_append.mp hq with z | z
    · exact h.sub q z
    · exact (hm q z).2.1
  · rcases List.mem_append.mp hq with z | z
    · exact h.re q z
    · exact .go (h.re p hpm) (hm q z).1 (hm q z).2.1
  · by_cases hin : r ∈ ln
    · exact List.mem_append_left _ hin
    · by_cases e : i = n
      · subst e
        rw [List.getElem?_append_left hlt, hp] at hq
        cases hq
        refine List.mem_append_right _ ?_
        unfold moreOf
        rw [List.mem_filter]
        exact ⟨mem_besides.mpr hr, by simp [hl, hin]⟩
      · rw [List.getElem?_append_left (by omega)] at hq
        exact absurd (h.cl i (by omega) q hq r hr hl) hin
theorem Line.all {l ln : List Pl} {o : Pl} {n : Nat} (h : Line l o ln n) (hn : n = ln.length) : ∀ p, Reach l o p → p ∈ ln := fun p hp =>
  hp.sub h.o fun a b ha hab hb => by
    obtain ⟨i, hi, e⟩ := List.mem_iff_getElem.mp ha
    exact h.cl i (by omega) a (by rw [List.getElem?_eq_getElem hi, e]) b hab hb
theorem Line.done {l ln : List Pl} {o : Pl} {n : Nat} (h : Line l o ln n) (hn : n = ln.length) (hl : l.Nodup) : ln.length = l.length ↔ Hangs l o := by
  have hle := nodup_len h.nd h.sub
  constructor
  · intro e p hp
    by_cases hin : p ∈ ln
    · exact h.re p hin
    · exfalso
      have := nodup_len (a := p :: ln) (b := l) (List.nodup_cons.mpr ⟨hin, h.nd⟩) fun x hx => by
        rcases List.mem_cons.mp hx with rfl | hx
        · exact hp
        · exact h.sub x hx
      simp only [List.length_cons] at this; omega
  · intro hh
    have := nodup_len hl fun p hp => h.all hn p (hh p hp)
    omega
/-! the law's own way: those met, those left -/
def metMore (met rest : List Pl) : List Pl := rest.filter fun p => met.any fun q => adj q p
structure Met (l : List Pl) (o : Pl) (met rest : List Pl) (k : Nat) : Prop where
  re : ∀ p ∈ met, Reach l o p
  om : o ∈ met
  dj : ∀ p ∈ met, p ∉ rest
  all : ∀ p, p ∈ l ↔ p ∈ met ∨ p ∈ rest
  few : rest = [] ∨ (Hangs l o → rest.length + k ≤ l.length)
theorem Met.step {l met rest : List Pl} {o : Pl} {k : Nat} (h : Met l o met rest k) : Met l o (met ++ metMore met rest) (rest.filter fun p => !decide (p ∈ metMore met rest)) (k + 1) := by
  have hm : ∀ p, p ∈ metMore met rest ↔ p ∈ rest ∧ ∃ q ∈ met, adj q p = true := fun p => by
    unfold metMore; rw [List.mem_filter, List.any_eq_true]
  refine ⟨fun p hp => ?_, List.mem_append_left _ h.om, fun p hp hr => ?_, fun p => ?_, ?_⟩
  · rcases List.mem_append.mp hp with z | z
    · exact h.re p z
    · obtain ⟨h1, q, hq, h2⟩ := (hm p).mp z
      exact .go (h.re q hq) h2 ((h.all p).mpr (.inr h1))
  · obtain ⟨z1, z2⟩ := List.mem_filter.mp hr
    rcases List.mem_append.mp hp with z | z
    · exact h.dj p z z1
    · simp [z] at z2
  · rw [h.all p, List.mem_append, List.mem_filter]
    constructor
    · rintro (z | z)
      · exact .inl (.inl z)
      · by_cases e : p ∈ metMore met rest
        · exact .inl (.inr e)
        · exact .inr ⟨z, by simp [e]⟩
    · rintro ((z | z) | z)
      · exact .inl z
      · exact .inr ((hm p).mp z).1
      · exact .inr z.1
  · rcases h.few with e | e
    · left; rw [e]; rfl
    · by_cases hr : rest = []
      · left; rw [hr]; rfl
      · right
        intro hh
        have h1 := e hh
        have hne : ∃ p, p ∈ metMore met rest := by
          by_cases hx : ∃ p, p ∈ metMore met rest
          · exact hx
          · exfalso
            obtain ⟨r, hrm⟩ := List.exists_mem_of_ne_nil _ hr
            have hin : r ∈ met := by
              refine Reach.sub (l := l) (o := o) (X := fun p => p ∈ met) h.om (fun p q hp hq hl => ?_) (hh r ((h.all r).mpr (.inr hrm)))
              rcases (h.all q).mp hl with z | z
              · exact z
              · exact absurd ⟨q, (hm q).mpr ⟨z, p, hp, hq⟩⟩ hx
            exact h.dj r hin hrm
        obtain ⟨p, hp⟩ := hne
        have hpr := ((hm p).mp hp).1
        have : (rest.filter fun p => !decide (p ∈ metMore met rest)).length < rest.length := by
          have hlt := List.length_filter_lt_length_iff_exists (p := fun p => !decide (p ∈ metMore met rest)) (l := rest)
          exact hlt.mpr ⟨p, hpr, by simp [hp]⟩
        omega
theorem Met.start {l : List Pl} {o : Pl} (h : (o :: l).Nodup) : Met (o :: l) o [o] l 1 := by
  refine ⟨fun p hp => ?_, by simp, fun p hp hr => ?_, fun p => by simp, .inr fun _ => by simp⟩
  · rw [List.mem_singleton.mp hp]; exact .o
  · rw [List.mem_singleton.mp hp] at hr
    exact (List.nodup_cons.mp h).1 hr
theorem Met.done {l met rest : List Pl} {o : Pl} (h : Met l o met rest (l.length + 1)) : rest = [] ↔ Hangs l o := by
  constructor
  · intro e p hp
    rcases (h.all p).mp hp with z | z
    · exact h.re p z
    · rw [e] at z; cases z
  · intro hh
    rcases h.few with e | e
    · exact e
    · have := e hh
      omega

-- D5.lean
theorem eqv_plD (p q : Pl) : PyData.eqv (plD p) (plD q) = decide (p = q) := by
  unfold plD
  rw [eqv_pl]
  obtain ⟨a, b⟩ := p
  obtain ⟨c, d⟩ := q
  by_cases h1 : a = c <;> by_cases h2 : b = d <;> simp [h1, h2]
theorem any_plD (p : Pl) : ∀ (l : List Pl), (l.map plD).any (fun z => PyData.eqv z (plD p)) = decide (p ∈ l)
  | [] => by simp
  | q :: l => by
    rw [List.map_cons, List.any_cons, any_plD p l, eqv_plD]
    by_cases e : q = p
    · subst e; simp
    · have : ¬ p = q := fun z => e z.symm
      simp [e, this]
theorem lay_plD : ∀ (l : List Pl), PyData.canLayAll0 (l.map plD) = true
  | [] => rfl
  | p :: l => by simp only [List.map_cons, PyData.canLayAll0, lay_plD l]; rfl
theorem inD_plD (p : Pl) (l : List Pl) : inD (plD p) (l.map plD) = some (decide (p ∈ l)) := by
  unfold inD
  rw [if_pos (by unfold inOk; rw [lay_plD]; rfl), any_plD]
theorem beside_run (k : Nat) (p : Pl) (S : Sto) : MS.run Gl Pr (k + 1) 6 [.d (plD p)] S = .ok (.d (.list ((besides p).map plD))) S := by
  refine W.ok (zwp_run (f := f_beside) rfl rfl ?_)
  unfold f_beside plD
  repeat fail
  exact cutS_self _ _
def gMore (l ln : List Pl) : Val → Option D
  | .d (.tuple [.int a, .int b]) => if decide ((a, b) ∈ l) && !decide ((a, b) ∈ ln) then some (.tuple [.int a, .int b]) else none
  | _ => none
theorem gMore_map (l ln : List Pl) : ∀ (qs : List Pl), ((qs.map plD).map Val.d).filterMap (gMore l ln) = (qs.filter fun q => decide (q ∈ l) && !decide (q ∈ ln)).map plD
  | [] => rfl
  | q :: qs => by
    have ih := gMore_map l ln qs
    simp only [List.map_cons, List.filterMap_cons, List.filter_cons]
    rw [ih]
    obtain ⟨a, b⟩ := q
    simp only [plD, gMore]
    by_cases h : (decide ((a, b) ∈ l) && !decide ((a, b) ∈ ln)) = true
    · rw [if_pos h, if_pos h]; rfl
    · rw [if_neg h, if_neg h]
theorem sortOk_pl {ln : List Pl} (h : ln.length ≤ 1000) : sortOk (ln.map plD) = true := by
  unfold sortOk
  simp only [Bool.and_eq_true, List.all_eq_true, Bool.or_eq_true, decide_eq_true_eq]
  refine ⟨⟨⟨fun a ha b hb => ?_, .inl (.inl fun a ha => ?_)⟩, ?_⟩, fun a ha => ?_⟩
  · obtain ⟨x, _, rfl⟩ := List.mem_map.mp ha
    obtain ⟨y, _, rfl⟩ := List.mem_map.mp hb
    rfl
  · obtain ⟨x, _, rfl⟩ := List.mem_map.mp ha
    rfl
  · rw [List.length_map]; unfold sLine; omega
  · obtain ⟨x, _, rfl⟩ := List.mem_map.mp ha
    exact (show (1 : Nat) ≤ 60 by decide)
theorem piece_run (k : Nat) {l : List Pl} {o : Pl} {S : Sto} (hS : PureS S) (hl : l.length ≤ 100) (ho : o ∈ l) : W (MS.run Gl Pr (k + 2) 15 [.d (laD l), .d (plD o)] S) noX fun v S' => ∃ ln, Line l o ln ln.length ∧ v = .d (.tuple (sortD (ln.map plD))) ∧ S' = S := by
  refine zwp_run (f := f_piece_from) rfl rfl ?_
  unfold f_piece_from
  repeat fail
  refine zws_while (fun env S' => ∃ ln n a4, Line l o ln n ∧ S' = S ++ [some (.lst ((ln.map plD).map Val.d))] ∧ env = [some (.d (laD l)), some (.d (plD o)), some (.ref S.length), some (.d (.int (n : Nat))), a4]) (fun env _ => match env with | [_, _, _, some (.d (.int n)), _] => l.length + 1 - n.toNat | _ => 0) ⟨[o], 0, none, ?_, rfl, rfl⟩ (by show l.length + 1 - (0 : Int).toNat < 100000; omega) ?_
  · refine ⟨by simp, fun p hp => by rw [List.mem_singleton.mp hp]; exact ho, fun p hp => by rw [List.mem_singleton.mp hp]; exact .o, by simp, by simp, fun i hi => by omega⟩
  intro env S' ⟨ln, n, a4, hL, e1, e2⟩
  subst e1 e2
  have lln := nodup_len hL.nd hL.sub
  repeat fail
  refine ⟨_, bi_len_ref stGet_at, ?_⟩
  repeat fail
  refine zif (fun h1 => ?_) (fun h1 => ?_)
  · have hn : n < ln.length := by
      have := of_decide_eq_true h1
      rw [List.length_map] at this; omega
    have hp : ln[n]? = some ln[n] := List.getElem?_eq_getElem hn
    have e3 : ((ln.map plD).map Val.d)[n]? = some (.d (plD ln[n])) := by rw [List.getElem?_map, List.getElem?_map, hp]; rfl
    repeat fail
    refine ⟨isLst_at, ?_⟩
    repeat fail
    refine ⟨_, _, rfl, ixv_ref stGet_at e3, ?_⟩
    repeat fail
    refine W.of (beside_run _ _ _) ?_
    repeat fail
    refine zcomp_map (g := gMore l ln) (fun x hx => ?_) ?_
    · obtain ⟨y, hy, rfl⟩ := List.mem_map.mp hx
      obtain ⟨q, hq, rfl⟩ := List.mem_map.mp hy
      refine zwp_turn rfl ?_
      repeat fail
      refine ⟨_, _, _, rfl, rfl, inD_plD q l, ?_⟩
      repeat fail
      refine zif (fun h2 => ?_) (fun h2 => ?_)
      · repeat fail
        refine ⟨_, _, _, rfl, view_ref stGet_at, (show (inD _ _).map _ = some _ by rw [inD_plD]; rfl), ?_⟩
        repeat fail
        refine zif (fun h3 => ?_) (fun h3 => ?_)
        · repeat fail
          obtain ⟨a, b⟩ := q
          refine ⟨?_, rfl⟩
          simp only [gMore, plD, h2, h3, Bool.and_self, if_true]
        · obtain ⟨a, b⟩ := q
          refine ⟨?_, rfl⟩
          have h3' : (!decide ((a, b) ∈ ln)) = false := h3
          simp only [gMore, plD, h3', Bool.and_false, Bool.false_eq_true, if_false]
      · repeat fail
        refine zif_f h2 ?_
        obtain ⟨a, b⟩ := q
        refine ⟨?_, rfl⟩
        have h2' : decide ((a, b) ∈ l) = false := h2
        simp only [gMore, plD, h2', Bool.false_and, Bool.false_eq_true, if_false]
    · have e4 := gMore_map l ln (besides ln[n])
      refine ⟨_, _, _, rfl, rfl, stGet_at, ?_, ?_⟩
      · show ((ln.map plD).map Val.d).length + ((((besides ln[n]).map plD).map Val.d).filterMap (gMore l ln)).length ≤ sLine
        rw [e4]
        have : ((besides ln[n]).filter fun q => decide (q ∈ l) && !decide (q ∈ ln)).length ≤ (besides ln[n]).length := List.length_filter_le _ _
        have h4 : (besides ln[n]).length = 4 := rfl
        simp only [List.length_map]
        unfold sLine; omega
      · repeat fail
        refine ⟨⟨ln ++ moreOf l ln ln[n], n + 1, a4, hL.step hp, ?_, rfl⟩, ?_⟩
        · show (S ++ [some (Ob.lst _)]).set S.length (some (.lst ((ln.map plD).map Val.d ++ ((((besides ln[n]).map plD).map Val.d).filterMap (gMore l ln)).map Val.d))) = _
          rw [e4, set_at]
          simp [moreOf]
        · show l.length + 1 - ((n : Int) + 1).toNat < l.length + 1 - (n : Int).toNat
          omega
  · have hn : n = ln.length := by
      have h := hL.le
      have := of_decide_eq_false h1
      rw [List.length_map] at this; omega
    subst hn
    repeat fail
    refine ⟨_, _, seqV_list (view_ref stGet_at), if_pos (sortOk_pl (by omega)), ?_⟩
    repeat fail
    refine ⟨ln, hL, rfl, cutS_app (fun _ z => by cases z) hS rfl⟩
open Classical in
noncomputable def hangB : List Pl → Bool
  | [] => false
  | o :: l => decide (Hangs (o :: l) o)
open Classical in
theorem hangB_t {o : Pl} {l : List Pl} (h : Hangs (o :: l) o) : hangB (o :: l) = true := decide_eq_true h
open Classical in
theorem hangB_f {o : Pl} {l : List Pl} (h : ¬ Hangs (o :: l) o) : hangB (o :: l) = false := decide_eq_false h
theorem ne_nil {l : List Pl} : cmpD .ne (laD l) (.tuple []) = some (!decide (l = [])) := by
  show (eqD _ _).map _ = _
  unfold eqD
  have h : eqOk (laD l) (.tuple []) = true := by
    unfold eqOk
    have : PyData.canLay0 (laD l) = true := by show PyData.canLayAll0 (l.map plD) = true; exact lay_plD l
    rw [this]
    simp [PyData.canLay0, PyData.canLayAll0, PyData.depth, PyData.depthAll]
  rw [if_pos h]
  cases l with
  | nil => rfl
  | cons p l => rfl
theorem eq_nil {l : List Pl} : cmpD .eq (laD l) (.tuple []) = some (decide (l = [])) := by
  show eqD _ _ = _
  unfold eqD
  have h : eqOk (laD l) (.tuple []) = true := by
    unfold eqOk
    have : PyData.canLay0 (laD l) = true := by show PyData.canLayAll0 (l.map plD) = true; exact lay_plD l
    rw [this]
    simp [PyData.canLay0, PyData.canLayAll0, PyData.depth, PyData.depthAll]
  rw [if_pos h]
  cases l with
  | nil => rfl
  | cons p l => rfl
theorem is_whole_run (k : Nat) {l : List Pl} {S : Sto} (hS : PureS S) (hl : l.length ≤ 100) (hn : l.Nodup) : MS.run Gl Pr (k + 3) 16 [.d (laD l)] S = .ok (.d (.bool (hangB l))) S := by
  refine W.ok (zwp_run (f := f_is_whole) rfl rfl ?_)
  unfold f_is_whole
  repeat fail
  refine ⟨_, _, _, rfl, rfl, ne_nil, ?_⟩
  repeat fail
  cases l with
  | nil =>
    repeat fail
    exact cutS_self _ _
  | cons o l =>
    refine zif_t (by simp) ?_
    repeat fail
    refine ⟨_, _, rfl, ixv_tup (i := 0) (x := plD o) (by simp), ?_⟩
    repeat fail
    refine W.call (piece_run _ hS hl (by simp)) fun v S' ⟨ln, hL, e1, e2⟩ => ?_
    subst e1 e2
    repeat fail
    refine ⟨?_, cutS_self _ _⟩
    have hd := hL.done rfl hn
    have e3 : (sortD (ln.map plD)).length = ln.length := by unfold sortD; rw [List.length_mergeSort, List.length_map]
    have e4 : PyData.eqv (.int ((sortD (ln.map plD)).length : Nat)) (.int (((o :: l).map plD).length : Nat)) = hangB (o :: l) := by
      rw [e3, List.length_map]
      simp only [PyData.eqv]
      by_cases h : ln.length = (o :: l).length
      · rw [hangB_t (hd.mp h), h]; simp
      · rw [hangB_f (fun z => h (hd.mpr z))]
        simp only [beq_eq_false_iff_ne, ne_eq]
        omega
    show Val.d (.bool (PyData.eqv (.int ((sortD (ln.map plD)).length : Nat)) (.int (((o :: l).map plD).length : Nat)))) = _
    rw [e4]
def unPl : D → Pl
  | .tuple [.int a, .int b] => (a, b)
  | _ => (0, 0)
def plP (lo hi : Int) (rs : List (List Int)) : List Pl := (plL lo hi 0 rs).map unPl
theorem plL_mem' {lo hi : Int} : ∀ {rs : List (List Int)} {r0 : Nat} {d : D}, d ∈ plL lo hi r0 rs → ∃ a b : Int, d = .tuple [.int a, .int b] := by
  intro rs
  induction rs with
  | nil => intro r0 d h; simp [plL] at h
  | cons ns rs ih =>
    intro r0 d h
    simp only [plL] at h
    rcases List.mem_append.mp h with z | z
    · have row : ∀ (ns : List Int) (c : Nat), d ∈ rowPl lo hi r0 c ns → ∃ a b : Int, d = .tuple [.int a, .int b] := by
        intro ns
        induction ns with
        | nil => intro c h; simp [rowPl] at h
        | cons n ns ih2 =>
          intro c h
          simp only [rowPl] at h
          split at h
          · rcases List.mem_cons.mp h with e | e
            · exact ⟨_, _, e⟩
            · exact ih2 _ e
          · exact ih2 _ h
      exact row ns 0 z
    · exact ih z
theorem plL_pl (lo hi : Int) (rs : List (List Int)) : plL lo hi 0 rs = (plP lo hi rs).map plD := by
  unfold plP
  rw [List.map_map]
  conv => lhs; rw [← List.map_id (plL lo hi 0 rs)]
  refine List.map_congr_left fun d hd => ?_
  obtain ⟨a, b, rfl⟩ := plL_mem' hd
  rfl
def roadB (rs : List (List Int)) (l : List Pl) : Bool := l.any fun p => (plP (-1) (-1) rs).any fun q => adj p q
theorem biV_any {S : Sto} {xs : List D} {f : D → Bool} : biV S .any (.d (.list (xs.map fun y => .bool (f y)))) = some (.bool (xs.any f)) := by
  have e : (xs.map fun y => PyData.bool (f y)) = (xs.map f).map PyData.bool := by rw [List.map_map]; rfl
  simp only [biV, view_d, Option.bind_some, biD, e, allB_map, Option.map_some, List.any_map]
  rfl
theorem lies_at_road_run (k : Nat) {rs : List (List Int)} {l : List Pl} {S : Sto} (hS : PureS S) (hr : goodRows rs = true) : MS.run Gl Pr (k + 2) 17 [.d (mD rs), .d (laD l)] S = .ok (.d (.bool (roadB rs l))) S := by
  refine W.ok (zwp_run (f := f_lies_at_road) rfl rfl ?_)
  unfold f_lies_at_road
  repeat fail
  refine W.of (places_run _ rs (-1) (-1) hS (good_size' hr)) ?_
  rw [plL_pl]
  repeat fail
  refine zcomp_map (g := gD fun y => .bool ((besides (unPl y)).any fun q => decide (q ∈ plP (-1) (-1) rs))) (fun x hx => ?_) ?_
  · obtain ⟨y, hy, rfl⟩ := List.mem_map.mp hx
    obtain ⟨p, hp, rfl⟩ := List.mem_map.mp hy
    refine zwp_turn rfl ?_
    repeat fail
    refine W.of (beside_run _ _ _) ?_
    repeat fail
    refine zcomp_map (g := gD fun y => .bool (decide (unPl y ∈ plP (-1) (-1) rs))) (fun x hx => ?_) ?_
    · obtain ⟨y, hy, rfl⟩ := List.mem_map.mp hx
      obtain ⟨q, hq, rfl⟩ := List.mem_map.mp hy
      refine zwp_turn rfl ?_
      repeat fail
      refine ⟨_, _, _, rfl, rfl, inD_plD q _, ?_⟩
      repeat fail
      rfl
    · rw [gD_map]
      refine ⟨_, biV_any, ?_⟩
      repeat fail
      first
        | rfl
        | (rw [List.any_map]; rfl)
  · rw [gD_map]
    refine ⟨_, biV_any, ?_⟩
    refine ⟨?_, cutS_self _ _⟩
    have : ((l.map plD).any fun y => (besides (unPl y)).any fun q => decide (q ∈ plP (-1) (-1) rs)) = roadB rs l := by
      rw [List.any_map]
      unfold roadB
      congr 1
      funext p
      show ((besides p).any fun q => decide (q ∈ plP (-1) (-1) rs)) = _
      rw [Bool.eq_iff_iff, List.any_eq_true, List.any_eq_true]
      constructor
      · rintro ⟨q, h1, h2⟩
        exact ⟨q, of_decide_eq_true h2, mem_besides.mp h1⟩
      · rintro ⟨q, h1, h2⟩
        exact ⟨q, mem_besides.mpr h2, decide_eq_true h1⟩
    rw [this]

-- D6.lean
/-! ### the law's own looks -/
theorem ix0 {S : Sto} (p : Pl) : ixV S (.d (plD p)) (.int 0) = some (.d (.int p.1)) := ixv_tup (i := 0) rfl
theorem ix1 {S : Sto} (p : Pl) : ixV S (.d (plD p)) (.int 1) = some (.d (.int p.2)) := ixv_tup (i := 1) rfl
theorem next_to_run (k : Nat) (p q : Pl) (S : Sto) : MS.run Gl Pr (k + 1) 46 [.d (plD p), .d (plD q)] S = .ok (.d (.bool (adj p q))) S := by
  refine W.ok (zwp_run (f := f_law_next) rfl rfl ?_)
  unfold f_law_next
  repeat fail
  exact cutS_self _ _
theorem biV_list {S : Sto} {xs : List D} : biV S .list (.d (.tuple xs)) = some (.list xs) := rfl
def gKeep (f : Pl → Bool) : Val → Option D
  | .d (.tuple [.int a, .int b]) => if f (a, b) then some (.tuple [.int a, .int b]) else none
  | _ => none
theorem gKeep_map (f : Pl → Bool) : ∀ (qs : List Pl), ((qs.map plD).map Val.d).filterMap (gKeep f) = (qs.filter f).map plD
  | [] => rfl
  | q :: qs => by
    have ih := gKeep_map f qs
    simp only [List.map_cons, List.filterMap_cons, List.filter_cons]
    rw [ih]
    obtain ⟨a, b⟩ := q
    simp only [plD, gKeep]
    by_cases h : f (a, b) = true
    · rw [if_pos h, if_pos h]; rfl
    · rw [if_neg h, if_neg h]
theorem gKeep_pl (f : Pl → Bool) (q : Pl) : gKeep f (.d (plD q)) = if f q then some (plD q) else none := rfl
theorem ne_nilL {l : List Pl} : cmpD .ne (.list (l.map plD)) (.list []) = some (!decide (l = [])) := by
  show (eqD _ _).map _ = _
  unfold eqD
  have h : eqOk (.list (l.map plD)) (.list []) = true := by
    unfold eqOk
    have : PyData.canLay0 (.list (l.map plD)) = true := by show PyData.canLayAll0 (l.map plD) = true; exact lay_plD l
    rw [this]
    simp [PyData.canLay0, PyData.canLayAll0, PyData.depth, PyData.depthAll]
  rw [if_pos h]
  cases l with
  | nil => rfl
  | cons p l => rfl
theorem eq_nilL {l : List Pl} : cmpD .eq (.list (l.map plD)) (.list []) = some (decide (l = [])) := by
  show eqD _ _ = _
  unfold eqD
  have h : eqOk (.list (l.map plD)) (.list []) = true := by
    unfold eqOk
    have : PyData.canLay0 (.list (l.map plD)) = true := by show PyData.canLayAll0 (l.map plD) = true; exact lay_plD l
    rw [this]
    simp [PyData.canLay0, PyData.canLayAll0, PyData.depth, PyData.depthAll]
  rw [if_pos h]
  cases l with
  | nil => rfl
  | cons p l => rfl
theorem filter_ne_nil {f : Pl → Bool} {l : List Pl} : (!decide (l.filter f = [])) = l.any f := by
  rw [Bool.eq_iff_iff, List.any_eq_true]
  simp only [Bool.not_eq_true', decide_eq_false_iff_not, List.filter_eq_nil_iff, Bool.not_eq_true]
  constructor
  · intro h
    by_cases q : ∃ x ∈ l, f x = true
    · exact q
    · exact absurd (fun a ha => by
        cases z : f a with
        | false => rfl
        | true => exact absurd ⟨a, ha, z⟩ q) h
  · rintro ⟨x, hx, h⟩ z
    rw [z x hx] at h; cases h
theorem enum_cons {ds : List D} : ∀ (c : Nat), ((ds.zipIdx c).map fun p => Val.d (.tuple [.int p.2, p.1])) = match ds with | [] => [] | d :: r => Val.d (.tuple [.int c, d]) :: ((r.zipIdx (c + 1)).map fun p => Val.d (.tuple [.int p.2, p.1])) := by
  intro c
  cases ds with
  | nil => rfl
  | cons d r => simp [List.zipIdx_cons]
/-- some place of a row is a road beside the land -/
def rowRoad (l : List Pl) (row : Nat) : Nat → List Int → Bool
  | _, [] => false
  | c, n :: ns => (decide (n = -1) && l.any fun p => adj p ((row : Int), (c : Int))) || rowRoad l row (c + 1) ns
def rowsRoad (l : List Pl) : Nat → List (List Int) → Bool
  | _, [] => false
  | r, ns :: rs => rowRoad l r 0 ns || rowsRoad l (r + 1) rs
theorem by_road_run (k : Nat) {rs : List (List Int)} {l : List Pl} {S : Sto} (hl : l.length ≤ 100) : MS.run Gl Pr (k + 2) 48 [.d (mD rs), .d (laD l)] S = .ok (.d (.bool (rowsRoad l 0 rs))) S := by
  refine W.ok (zwp_run (f := f_law_at_road) rfl rfl ?_)
  unfold f_law_at_road
  repeat fail
  refine zws_for ?_
  repeat fail
  refine ⟨fun xs env S' => ∃ rest r a2 a3 a4 a5 a6 a7, xs = ((rest.map rowD).zipIdx r).map (fun p => Val.d (.tuple [.int p.2, p.1])) ∧ rowsRoad l 0 rs = rowsRoad l r rest ∧ S' = S ∧ env = [some (.d (mD rs)), some (.d (laD l)), a2, a3, a4, a5, a6, a7], ?_, ?_, ?_⟩
  · exact ⟨rs, 0, none, none, none, none, none, none, rfl, rfl, rfl, rfl⟩
  · intro x xs env S' ⟨rest, r, a2, a3, a4, a5, a6, a7, e1, e2, e3, e4⟩
    cases rest with
    | nil => simp at e1
    | cons ns rest =>
      simp only [List.map_cons, List.zipIdx_cons, List.cons.injEq] at e1
      obtain ⟨rfl, e1⟩ := e1
      subst e3 e4
      refine ⟨_, rfl, ?_⟩
      repeat fail
      refine zws_for ?_
      repeat fail
      refine ⟨fun ys env S'' => ∃ rest2 c b4 b5 b6 b7, ys = ((rest2.map PyData.int).zipIdx c).map (fun p => Val.d (.tuple [.int p.2, p.1])) ∧ rowsRoad l 0 rs = (rowRoad l r c rest2 || rowsRoad l (r + 1) rest) ∧ S'' = S' ∧ env = [some (.d (mD rs)), some (.d (laD l)), some (.d (.int (r : Nat))), some (.d (rowD ns)), b4, b5, b6, b7], ?_, ?_, ?_⟩
      · exact ⟨ns, 0, a4, a5, a6, a7, rfl, by rw [e2]; rfl, rfl, rfl⟩
      · intro y ys env S'' ⟨rest2, c, b4, b5, b6, b7, f1, f2, f3, f4⟩
        cases rest2 with
        | nil => simp at f1
        | cons n rest2 =>
          simp only [List.map_cons, List.zipIdx_cons, List.cons.injEq] at f1
          obtain ⟨rfl, f1⟩ := f1
          subst f3 f4
          refine ⟨_, rfl, ?_⟩
          repeat fail
          refine zcomp_map (g := gKeep fun p => adj p ((r : Int), (c : Int))) (fun x hx => ?_) ?_
          · obtain ⟨y, hy, rfl⟩ := List.mem_map.mp hx
            obtain ⟨q, hq, rfl⟩ := List.mem_map.mp hy
            refine zwp_turn rfl ?_
            repeat fail
            refine W.of (next_to_run _ q ((r : Int), (c : Int)) _) ?_
            repeat fail
            refine zif (fun h => ?_) (fun h => ?_)
            · repeat fail
              refine ⟨?_, rfl⟩
              rw [gKeep_pl, if_pos h]
            · refine ⟨?_, rfl⟩
              rw [gKeep_pl, if_neg (by rw [h]; simp)]
          · rw [gKeep_map]
            repeat fail
            refine zif (fun h => ?_) (fun h => ?_)
            · have h' : n = -1 := by rw [eqv_int] at h; exact of_decide_eq_true h
              repeat fail
              refine ⟨_, _, _, rfl, rfl, ne_nilL, ?_⟩
              repeat fail
              rw [filter_ne_nil]
              refine zif (fun h2 => ?_) (fun h2 => ?_)
              · repeat fail
                refine ⟨?_, cutS_self _ _⟩
                rw [f2]
                simp only [rowRoad, h', h2, decide_true, Bool.true_and, Bool.true_or]
              · repeat fail
                refine ⟨rest2, c + 1, some (.d (.int (c : Nat))), some (.d (.int n)), _, b7, f1, ?_, rfl, rfl⟩
                rw [f2]
                simp only [rowRoad, h2, Bool.not_true, Bool.and_false, Bool.false_or]
            · have h' : ¬ n = -1 := by rw [eqv_int] at h; exact of_decide_eq_false h
              repeat fail
              refine zif_f h ?_
              repeat fail
              refine ⟨rest2, c + 1, some (.d (.int (c : Nat))), some (.d (.int n)), _, b7, f1, ?_, rfl, rfl⟩
              rw [f2]
              simp only [rowRoad, h', decide_false, Bool.false_and, Bool.false_or]
      · intro env S'' ⟨rest2, c, b4, b5, b6, b7, f1, f2, f3, f4⟩
        have hr : rest2 = [] := by
          cases rest2 with
          | nil => rfl
          | cons _ _ => simp at f1
        subst hr f3 f4
        repeat fail
        refine ⟨rest, r + 1, _, _, _, _, _, _, e1, ?_, rfl, rfl⟩
        rw [f2]
        simp only [rowRoad, Bool.false_or]
  · intro env S' ⟨rest, r, a2, a3, a4, a5, a6, a7, e1, e2, e3, e4⟩
    have hr : rest = [] := by
      cases rest with
      | nil => rfl
      | cons _ _ => simp at e1
    subst hr e3 e4
    repeat fail
    refine ⟨?_, cutS_self _ _⟩
    rw [e2]; rfl
/-- the same roads -/
theorem rowRoad_pl (l : List Pl) (row : Nat) : ∀ (ns : List Int) (c : Nat), rowRoad l row c ns = ((rowPl (-1) (-1) row c ns).map unPl).any fun q => l.any fun p => adj p q
  | [], _ => rfl
  | n :: ns, c => by
    simp only [rowRoad, rowPl, rowRoad_pl l row ns (c + 1)]
    by_cases h : n = -1
    · subst h
      rw [if_pos (by decide), List.map_cons, List.any_cons]
      simp only [decide_true, Bool.true_and]
      rfl
    · rw [if_neg (by simp; omega)]
      simp [h]
theorem rowsRoad_pl (l : List Pl) : ∀ (rs : List (List Int)) (r : Nat), rowsRoad l r rs = ((plL (-1) (-1) r rs).map unPl).any fun q => l.any fun p => adj p q
  | [], _ => rfl
  | ns :: rs, r => by
    simp only [rowsRoad, plL, rowRoad_pl l r ns 0, rowsRoad_pl l rs (r + 1), List.map_append, List.any_append]
theorem road_same (rs : List (List Int)) (l : List Pl) : rowsRoad l 0 rs = roadB rs l := by
  rw [rowsRoad_pl]
  unfold roadB plP
  rw [Bool.eq_iff_iff, List.any_eq_true, List.any_eq_true]
  constructor
  · rintro ⟨q, hq, h⟩
    obtain ⟨p, hp, h⟩ := List.any_eq_true.mp h
    exact ⟨p, hp, List.any_eq_true.mpr ⟨q, hq, h⟩⟩
  · rintro ⟨p, hp, h⟩
    obtain ⟨q, hq, h⟩ := List.any_eq_true.mp h
    exact ⟨q, hq, List.any_eq_true.mpr ⟨p, hp, h⟩⟩

-- D7.lean
/-! ### pleas -/
abbrev peD (rs : List (List Int)) (cu : List Int) (cs : List Cl) (od : Int) : D := .tuple [mD rs, cuD cu, clD cs, .int od]
structure GPe (rs : List (List Int)) (cu : List Int) (cs : List Cl) (od : Int) : Prop where
  m : goodRows rs = true
  u : GCu cu
  c : GCl cu.length cs
  o : 0 ≤ od ∧ od ≤ 999
theorem is_plea_run (k : Nat) {rs : List (List Int)} {cu : List Int} {cs : List Cl} {od : Int} {S : Sto} (hS : PureS S) (h : GPe rs cu cs od) : MS.run Gl Pr (k + 4) 18 [.d (peD rs cu cs od)] S = .ok (.d (.bool true)) S := by
  refine W.ok (zwp_run (f := f_is_plea) rfl rfl ?_)
  unfold f_is_plea
  repeat fail
  refine W.of (is_mead_run _ _ hS) ?_
  rw [meadB_rows, h.m]
  repeat fail
  refine W.of (is_custom_run _ _ h.u) ?_
  repeat fail
  refine W.of (are_claims_run _ _ _ h.c) ?_
  repeat fail
  refine W.of (stand_run _ _ h.c) ?_
  repeat fail
  refine W.of (is_from_run _ _ _ _ _) ?_
  refine ⟨?_, cutS_self _ _⟩
  have : numB (.int od) 0 999 = true := by simp [numB, h.o]
  show Val.d (.bool (numB (.int od) 0 999)) = _
  rw [this]
theorem need_plea_run (k : Nat) {rs : List (List Int)} {cu : List Int} {cs : List Cl} {od : Int} {S : Sto} (hS : PureS S) (h : GPe rs cu cs od) : MS.run Gl Pr (k + 5) 19 [.d (peD rs cu cs od)] S = .ok (.d .none) S := by
  refine W.ok (zwp_run (f := f_need_plea) rfl rfl ?_)
  unfold f_need_plea
  repeat fail
  refine W.of (is_plea_run _ hS h) ?_
  repeat fail
  exact cutS_self _ _
theorem cells_in_run (k : Nat) {rs : List (List Int)} {S : Sto} (hS : PureS S) (h : goodRows rs = true) : MS.run Gl Pr (k + 2) 4 [.d (mD rs)] S = .ok (.d (.list ((plP 0 99 rs).map plD))) S := by
  refine W.ok (zwp_run (f := f_cells_in) rfl rfl ?_)
  unfold f_cells_in
  repeat fail
  refine W.of (places_run _ rs 0 99 hS (good_size' h)) ?_
  rw [plL_pl]
  exact ⟨rfl, cutS_self _ _⟩
def isCell (rs : List (List Int)) (p : Pl) : Prop := ∃ (i j : Nat) (ns : List Int) (n : Int), p = ((i : Int), (j : Int)) ∧ rs[i]? = some ns ∧ ns[j]? = some n ∧ 0 ≤ n ∧ n ≤ 99
theorem cell_of {rs : List (List Int)} {p : Pl} (h : p ∈ plP 0 99 rs) : isCell rs p := by
  obtain ⟨d, hd, rfl⟩ := List.mem_map.mp h
  obtain ⟨i, j, ns, n, e, h1, h2, h3⟩ := plL_mem hd
  exact ⟨i, j, ns, n, by rw [e]; simp [unPl], h1, h2, h3⟩
def wo (rs : List (List Int)) (l : List Pl) : Int := (l.map fun p => numAt rs p.1 p.2).sum
theorem wo_turn {rs : List (List Int)} {p : Pl} (h : isCell rs p) (S : Sto) : ∃ r, ixV S (.d (mD rs)) (.int p.1) = some r ∧ ixV S r (.int p.2) = some (.d (.int (numAt rs p.1 p.2))) := by
  obtain ⟨i, j, ns, n, rfl, e1, e2, _⟩ := h
  refine ⟨.d (rowD ns), ixv_tup (by rw [List.getElem?_map, e1]; rfl), ?_⟩
  rw [numAt_nat e1 e2]
  exact ixv_tup (by rw [List.getElem?_map, e2]; rfl)
theorem worth_in_L (k : Nat) {rs : List (List Int)} {l : List Pl} (S : Sto) (h : ∀ p ∈ l, isCell rs p) : MS.run Gl Pr (k + 1) 5 [.d (mD rs), .d (.list (l.map plD))] S = .ok (.d (.int (wo rs l))) S := by
  refine W.ok (zwp_run (f := f_worth_in) rfl rfl ?_)
  unfold f_worth_in
  repeat fail
  refine zcomp_map (g := gD fun y => .int (numAt rs (unPl y).1 (unPl y).2)) (fun x hx => ?_) ?_
  · obtain ⟨y, hy, rfl⟩ := List.mem_map.mp hx
    obtain ⟨p, hp, rfl⟩ := List.mem_map.mp hy
    obtain ⟨r, w1, w2⟩ := wo_turn (h p hp) (lockS S [])
    refine zwp_turn rfl ?_
    repeat fail
    refine ⟨_, _, rfl, w1, ?_⟩
    repeat fail
    refine ⟨_, _, rfl, w2, ?_⟩
    repeat fail
    rfl
  · rw [gD_map]
    refine ⟨_, biV_sum, ?_⟩
    refine ⟨?_, cutS_self _ _⟩
    rw [List.map_map]; rfl
theorem worth_in_T (k : Nat) {rs : List (List Int)} {l : List Pl} (S : Sto) (h : ∀ p ∈ l, isCell rs p) : MS.run Gl Pr (k + 1) 5 [.d (mD rs), .d (laD l)] S = .ok (.d (.int (wo rs l))) S := by
  refine W.ok (zwp_run (f := f_worth_in) rfl rfl ?_)
  unfold f_worth_in
  repeat fail
  refine zcomp_map (g := gD fun y => .int (numAt rs (unPl y).1 (unPl y).2)) (fun x hx => ?_) ?_
  · obtain ⟨y, hy, rfl⟩ := List.mem_map.mp hx
    obtain ⟨p, hp, rfl⟩ := List.mem_map.mp hy
    obtain ⟨r, w1, w2⟩ := wo_turn (h p hp) (lockS S [])
    refine zwp_turn rfl ?_
    repeat fail
    refine ⟨_, _, rfl, w1, ?_⟩
    repeat fail
    refine ⟨_, _, rfl, w2, ?_⟩
    repeat fail
    rfl
  · rw [gD_map]
    refine ⟨_, biV_sum, ?_⟩
    refine ⟨?_, cutS_self _ _⟩
    rw [List.map_map]; rfl
/-- what is due, as top and bottom -/
def dueT (rs : List (List Int)) (cu : List Int) (cs : List Cl) (h : Int) : Int := wo rs (plP 0 99 rs) * cntH cu cs h
theorem wo_bd {rs : List (List Int)} : ∀ {l : List Pl}, (∀ p ∈ l, isCell rs p) → 0 ≤ wo rs l ∧ wo rs l ≤ 99 * l.length
  | [], _ => by simp [wo]
  | p :: l, h => by
    have ih := wo_bd (l := l) fun q hq => h q (by simp [hq])
    obtain ⟨i, j, ns, n, rfl, e1, e2, h1, h2⟩ := h p (by simp)
    have e := numAt_nat e1 e2
    unfold wo at *
    simp only [List.map_cons, List.sum_cons, List.length_cons, e]
    omega
theorem cells_len {rs : List (List Int)} (h : goodRows rs = true) : 1 ≤ (plP 0 99 rs).length ∧ (plP 0 99 rs).length ≤ 10 := by
  obtain ⟨_, _, _, h4, h5⟩ := good_parts h
  unfold plP
  rw [List.length_map]
  exact ⟨h4, h5⟩
theorem cnt_bd {cu : List Int} {cs : List Cl} {h : Int} (hcu : GCu cu) (hcl : GCl cu.length cs) : (0 ≤ cntH cu cs h ∧ cntH cu cs h ≤ 24000) ∧ 1 ≤ totH cu cs ∧ totH cu cs ≤ 24000 := by
  have hw : ∀ c ∈ cs, 1 ≤ wt cu c ∧ wt cu c ≤ 2000 := fun c hc => wt_pos hcu (hcl.b c hc).2
  have l1 := hcl.l1; have l2 := hcl.l2
  have s1 := sum_bd hw
  have hf : ∀ c ∈ cs.filter (fun c => decide (c.1 = h)), 1 ≤ wt cu c ∧ wt cu c ≤ 2000 := fun c hc => hw c (List.mem_filter.mp hc).1
  have s2 := sum_bd hf
  have lf : (cs.filter fun c => decide (c.1 = h)).length ≤ cs.length := List.length_filter_le _ _
  unfold cntH totH
  omega
theorem mul_small {a b : Int} (h1 : 0 ≤ a) (h2 : a ≤ 1000000000) : binD .mul (.int a) (.int b) = some (.int (a * b)) :=
  binD_mul (by unfold mulOk; simp; omega)
theorem mul_small' {a b : Int} (h1 : 0 ≤ b) (h2 : b ≤ 1000000000) : binD .mul (.int a) (.int b) = some (.int (a * b)) :=
  binD_mul (by unfold mulOk; simp; omega)
theorem due_in_run (k : Nat) {rs : List (List Int)} {cu : List Int} {cs : List Cl} {od h : Int} {S : Sto} (hS : PureS S) (hp : GPe rs cu cs od) : MS.run Gl Pr (k + 3) 20 [.d (peD rs cu cs od), .d (.int h)] S = .ok (.d (.tuple [.int (dueT rs cu cs h), .int (totH cu cs)])) S := by
  refine W.ok (zwp_run (f := f_due_in) rfl rfl ?_)
  unfold f_due_in
  repeat fail
  refine W.of (cells_in_run _ hS hp.m) ?_
  repeat fail
  refine W.of (worth_in_L _ _ fun p hq => cell_of hq) ?_
  repeat fail
  refine W.of (counted_run _ _ hp.c) ?_
  have b := cnt_bd (h := h) hp.u hp.c
  refine ⟨_, _, _, rfl, rfl, mul_small' b.1.1 (by omega), ?_⟩
  repeat fail
  refine W.of (counted_all_run _ _ hp.c) ?_
  repeat fail
  exact cutS_self _ _
def absI (i : Int) : Int := if i < 0 then -i else i
def worthB (rs : List (List Int)) (od top bot : Int) (l : List Pl) : Bool := decide (absI (wo rs l * bot - top) ≤ od * bot)
theorem is_worth_run (k : Nat) {rs : List (List Int)} {cu : List Int} {cs : List Cl} {od top bot : Int} {l : List Pl} (S : Sto) (hp : GPe rs cu cs od) (hb : 0 ≤ bot ∧ bot ≤ 24000) (hl : ∀ p ∈ l, isCell rs p) : MS.run Gl Pr (k + 2) 21 [.d (peD rs cu cs od), .d (.tuple [.int top, .int bot]), .d (laD l)] S = .ok (.d (.bool (worthB rs od top bot l))) S := by
  refine W.ok (zwp_run (f := f_is_worth) rfl rfl ?_)
  unfold f_is_worth
  repeat fail
  refine W.of (worth_in_T _ _ hl) ?_
  repeat fail
  refine ⟨_, _, _, rfl, rfl, mul_small' hb.1 (by omega), ?_⟩
  repeat fail
  refine ⟨_, _, _, rfl, rfl, mul_small' hb.1 (by omega), ?_⟩
  repeat fail
  exact cutS_self _ _
/-- a land that fits what is due -/
noncomputable def fitB (rs : List (List Int)) (od top bot : Int) (l : List Pl) : Bool := worthB rs od top bot l && (roadB rs l && hangB l)
theorem fits_due_run (k : Nat) {rs : List (List Int)} {cu : List Int} {cs : List Cl} {od top bot : Int} {l : List Pl} {S : Sto} (hS : PureS S) (hp : GPe rs cu cs od) (hb : 0 ≤ bot ∧ bot ≤ 24000) (hl : ∀ p ∈ l, isCell rs p) (hz : l.length ≤ 100) (hn : l.Nodup) :
    MS.run Gl Pr (k + 4) 22 [.d (peD rs cu cs od), .d (.tuple [.int top, .int bot]), .d (laD l)] S = .ok (.d (.bool (fitB rs od top bot l))) S := by
  refine W.ok (zwp_run (f := f_fits_due) rfl rfl ?_)
  unfold f_fits_due
  repeat fail
  refine W.of (is_worth_run _ _ hp hb hl) ?_
  repeat fail
  refine zif (fun h1 => ?_) (fun h1 => ?_)
  · repeat fail
    refine W.of (lies_at_road_run _ hS hp.m) ?_
    repeat fail
    refine zif (fun h2 => ?_) (fun h2 => ?_)
    · repeat fail
      refine W.of (is_whole_run _ hS hz hn) ?_
      refine ⟨?_, cutS_self _ _⟩
      unfold fitB
      rw [h1, h2]; rfl
    · refine ⟨?_, cutS_self _ _⟩
      unfold fitB
      rw [h1, h2]; rfl
  · refine ⟨?_, cutS_self _ _⟩
    unfold fitB
    rw [h1]; rfl
theorem is_fit_run (k : Nat) {rs : List (List Int)} {cu : List Int} {cs : List Cl} {od h : Int} {l : List Pl} {S : Sto} (hS : PureS S) (hp : GPe rs cu cs od) (hl : ∀ p ∈ l, isCell rs p) (hz : l.length ≤ 100) (hn : l.Nodup) :
    MS.run Gl Pr (k + 5) 23 [.d (peD rs cu cs od), .d (.int h), .d (laD l)] S = .ok (.d (.bool (fitB rs od (dueT rs cu cs h) (totH cu cs) l))) S := by
  have b := cnt_bd (h := h) hp.u hp.c
  refine W.ok (zwp_run (f := f_is_fit) rfl rfl ?_)
  unfold f_is_fit
  repeat fail
  refine W.of (due_in_run _ hS hp) ?_
  repeat fail
  refine W.of (fits_due_run _ hS hp ⟨by omega, by omega⟩ hl hz hn) ?_
  exact ⟨rfl, cutS_self _ _⟩

-- D8.lean
/-! ### lands: cells in their order -/
def pLtP (p q : Pl) : Prop := p.1 < q.1 ∨ (p.1 = q.1 ∧ p.2 < q.2)
theorem row_sorted (lo hi : Int) (row : Nat) : ∀ (ns : List Int) (c : Nat), ((rowPl lo hi row c ns).map unPl).Pairwise pLtP ∧ ∀ p ∈ (rowPl lo hi row c ns).map unPl, p.1 = (row : Int) ∧ (c : Int) ≤ p.2
  | [], c => by simp [rowPl]
  | n :: ns, c => by
    obtain ⟨h1, h2⟩ := row_sorted lo hi row ns (c + 1)
    simp only [rowPl]
    split
    · rw [List.map_cons]
      refine ⟨List.pairwise_cons.mpr ⟨fun p hp => ?_, h1⟩, fun p hp => ?_⟩
      · have := h2 p hp
        refine .inr ⟨this.1.symm, ?_⟩
        show (c : Int) < p.2
        omega
      · rcases List.mem_cons.mp hp with rfl | hp
        · exact ⟨rfl, Int.le_refl _⟩
        · have := h2 p hp
          exact ⟨this.1, by omega⟩
    · refine ⟨h1, fun p hp => ?_⟩
      have := h2 p hp
      exact ⟨this.1, by omega⟩
theorem rows_sorted (lo hi : Int) : ∀ (rs : List (List Int)) (r : Nat), ((plL lo hi r rs).map unPl).Pairwise pLtP ∧ ∀ p ∈ (plL lo hi r rs).map unPl, (r : Int) ≤ p.1
  | [], r => by simp [plL]
  | ns :: rs, r => by
    obtain ⟨h1, h2⟩ := rows_sorted lo hi rs (r + 1)
    obtain ⟨h3, h4⟩ := row_sorted lo hi r ns 0
    simp only [plL, List.map_append]
    refine ⟨List.pairwise_append.mpr ⟨h3, h1, fun a ha b hb => .inl ?_⟩, fun p hp => ?_⟩
    · have := (h4 a ha).1; have := h2 b hb; omega
    · rcases List.mem_append.mp hp with z | z
      · have := (h4 p z).1; omega
      · have := h2 p z; omega
theorem cells_sorted (rs : List (List Int)) : (plP 0 99 rs).Pairwise pLtP := (rows_sorted 0 99 rs 0).1
theorem nodup_of {l : List Pl} (h : l.Pairwise pLtP) : l.Nodup := by
  refine List.Pairwise.imp (fun {a b} h e => ?_) h
  subst e
  rcases h with h | ⟨_, h⟩ <;> omega
def subsL (cells : List Pl) : List (List Pl) := cells.foldl (fun acc c => acc ++ acc.map fun l => l ++ [c]) [[]]
theorem subs_go (a : List Pl) : ∀ (b : List Pl) (acc : List (List Pl)), (∀ l ∈ acc, l.Sublist a) → ∀ l ∈ b.foldl (fun acc c => acc ++ acc.map fun l => l ++ [c]) acc, l.Sublist (a ++ b) := by
  intro b
  induction b generalizing a with
  | nil => intro acc h l hl; simpa using h l hl
  | cons c b ih =>
    intro acc h l hl
    rw [List.foldl_cons] at hl
    have := ih (a ++ [c]) (acc ++ acc.map fun l => l ++ [c]) (fun m hm => ?_) l hl
    · simpa using this
    · rcases List.mem_append.mp hm with z | z
      · exact (h m z).trans (List.sublist_append_left _ _)
      · obtain ⟨m', hm', rfl⟩ := List.mem_map.mp z
        exact (h m' hm').append (List.Sublist.refl _)
theorem subs_sub {cells l : List Pl} (h : l ∈ subsL cells) : l.Sublist cells := by
  have := subs_go [] cells [[]] (fun m hm => by rw [List.mem_singleton.mp hm]; exact List.Sublist.refl _) l h
  simpa using this
theorem subs_len_go : ∀ (b : List Pl) (acc : List (List Pl)), (b.foldl (fun acc c => acc ++ acc.map fun l => l ++ [c]) acc).length = acc.length * 2 ^ b.length
  | [], acc => by simp
  | c :: b, acc => by
    rw [List.foldl_cons, subs_len_go b]
    simp only [List.length_append, List.length_map, List.length_cons, Nat.pow_succ]
    rw [Nat.mul_comm (2 ^ b.length) 2, ← Nat.mul_assoc]
    congr 1
    omega
theorem subs_len (cells : List Pl) (h : cells.length ≤ 10) : (subsL cells).length ≤ 1024 := by
  unfold subsL
  rw [subs_len_go]
  have : 2 ^ cells.length ≤ 2 ^ 10 := Nat.pow_le_pow_right (by decide) h
  simpa using this
theorem subs_head_go : ∀ (b : List Pl) (acc : List (List Pl)), (∃ t, acc = [] :: t) → ∃ t, b.foldl (fun acc c => acc ++ acc.map fun l => l ++ [c]) acc = [] :: t
  | [], acc, h => h
  | c :: b, acc, ⟨t, h⟩ => by
    rw [List.foldl_cons]
    exact subs_head_go b _ ⟨t ++ acc.map fun l => l ++ [c], by rw [h]; rfl⟩
theorem subs_head (cells : List Pl) : ∃ t, subsL cells = [] :: t := subs_head_go cells [[]] ⟨[], rfl⟩
/-! as data -/
def unLa : D → List Pl
  | .tuple ds => ds.map unPl
  | _ => []
theorem unLa_laD (l : List Pl) : unLa (laD l) = l := by
  unfold unLa
  show (l.map plD).map unPl = l
  rw [List.map_map]
  exact (List.map_congr_left fun p _ => rfl).trans (List.map_id l)
theorem alike_lands : ∀ (l m : List Pl), PySem.W.alikeAll (l.map plD) (m.map plD) = true
  | [], m => by cases m <;> rfl
  | p :: l, [] => rfl
  | p :: l, q :: m => by
    simp only [List.map_cons, PySem.W.alikeAll, alike_lands l m]
    rfl
theorem depth_land : ∀ (l : List Pl), PyData.depthAll (l.map plD) ≤ 1
  | [] => by simp [PyData.depthAll]
  | p :: l => by
    have h := depth_land l
    simp only [List.map_cons, PyData.depthAll]
    have : PyData.depth (plD p) = 1 := rfl
    rw [this]
    exact Nat.max_le.mpr ⟨Nat.le_refl _, h⟩
theorem depth_laD (l : List Pl) : PyData.depth (laD l) ≤ 2 := by
  have := depth_land l
  show PyData.depth (.tuple (l.map plD)) ≤ 2
  simp only [PyData.depth]
  omega
theorem land_lt : ∀ (l m : List Pl), PySem.W.rowLt (l.map plD) (m.map plD) = false → PySem.W.rowLt (m.map plD) (l.map plD) = false → l = m
  | [], [], _, _ => rfl
  | [], q :: m, h, _ => by
    exfalso
    have : PySem.W.rowLt [] (plD q :: m.map plD) = true := by
      unfold PySem.W.rowLt
      simp only [PySem.W.keyToksAll]
      rw [PyProof.Rows.lex_diff (by simp)]
      simp [PyProof.Rows.lexLt, PyProof.Rows.itemLt]
    rw [List.map_cons, List.map_nil, this] at h
    cases h
  | p :: l, [], _, h => by
    exfalso
    have : PySem.W.rowLt [] (plD p :: l.map plD) = true := by
      unfold PySem.W.rowLt
      simp only [PySem.W.keyToksAll]
      rw [PyProof.Rows.lex_diff (by simp)]
      simp [PyProof.Rows.lexLt, PyProof.Rows.itemLt]
    rw [List.map_cons, List.map_nil, this] at h
    cases h
  | p :: l, q :: m, h1, h2 => by
    rw [List.map_cons, List.map_cons] at h1 h2
    unfold PySem.W.rowLt at h1 h2
    rw [PySem.W.dataLt_cons (by rfl), eqv_plD] at h1 h2
    by_cases e : p = q
    · subst e
      simp only [decide_true, if_true] at h1 h2
      rw [land_lt l m h1 h2]
    · exfalso
      have e' : ¬ q = p := fun z => e z.symm
      simp only [e, e', decide_false, Bool.false_eq_true, if_false] at h1 h2
      unfold plD at h1 h2
      rw [PySem.W.dataLt_ii, decide_eq_false_iff_not] at h1 h2
      apply e
      obtain ⟨a, b⟩ := p
      obtain ⟨c, d⟩ := q
      simp only at h1 h2
      have : a = c ∧ b = d := by omega
      rw [this.1, this.2]
theorem sorted_eq {le : D → D → Prop} : ∀ {a b : List D}, a.Perm b → a.Pairwise le → b.Pairwise le → (∀ x ∈ a, ∀ y ∈ a, le x y → le y x → x = y) → a = b
  | [], b, h, _, _, _ => h.nil_eq
  | x :: a, [], h, _, _, _ => by have := h.length_eq; simp at this
  | x :: a, y :: b, h, ha, hb, anti => by
    obtain ⟨a1, a2⟩ := List.pairwise_cons.mp ha
    obtain ⟨b1, b2⟩ := List.pairwise_cons.mp hb
    have e : x = y := by
      rcases List.mem_cons.mp (h.mem_iff.mp (List.mem_cons_self (a := x) (l := a))) with z | z
      · exact z
      · rcases List.mem_cons.mp (h.mem_iff.mpr (List.mem_cons_self (a := y) (l := b))) with w | w
        · exact w.symm
        · exact anti x (by simp) y (by simp [w]) (a1 y w) (b1 x z)
    subst e
    rw [sorted_eq (List.Perm.cons_inv h) a2 b2 fun p hp q hq => anti p (by simp [hp]) q (by simp [hq])]
theorem sort_filter {L : List (List Pl)} {P : D → Bool} : (sortD (L.map laD)).filter P = sortD ((L.map laD).filter P) := by
  have pm : (sortD (L.map laD)).Perm (L.map laD) := List.mergeSort_perm _ _
  have pm2 : (sortD ((L.map laD).filter P)).Perm ((L.map laD).filter P) := List.mergeSort_perm _ _
  have pw : (sortD (L.map laD)).Pairwise fun x y => PySem.W.dataLe false id x y = true := PySem.W.sort_pairwise (PySem.W.sortLe_total _ _ _) _
  have pw2 : (sortD ((L.map laD).filter P)).Pairwise fun x y => PySem.W.dataLe false id x y = true := PySem.W.sort_pairwise (PySem.W.sortLe_total _ _ _) _
  refine sorted_eq (le := fun x y => PySem.W.dataLe false id x y = true) ((pm.filter P).trans pm2.symm) (pw.filter P) pw2 fun x hx y hy h1 h2 => ?_
  obtain ⟨l, _, rfl⟩ := List.mem_map.mp (pm.mem_iff.mp (List.mem_filter.mp hx).1)
  obtain ⟨m, _, rfl⟩ := List.mem_map.mp (pm.mem_iff.mp (List.mem_filter.mp hy).1)
  rw [PySem.W.dataLe_eq] at h1 h2
  have h1' : PySem.W.dataLt (laD m) (laD l) = false := by simpa using h1
  have h2' : PySem.W.dataLt (laD l) (laD m) = false := by simpa using h2
  rw [PySem.W.dataLt_tuple] at h1' h2'
  rw [land_lt l m h2' h1']
theorem sortOk_lands {L : List (List Pl)} (h : L.length ≤ 2000) (h0 : (∃ t, L = [] :: t) ∨ ∀ l ∈ L, l ≠ []) : sortOk (L.map laD) = true := by
  unfold sortOk
  simp only [Bool.and_eq_true, List.all_eq_true, Bool.or_eq_true, decide_eq_true_eq]
  refine ⟨⟨⟨fun a ha b hb => ?_, ?_⟩, ?_⟩, fun a ha => ?_⟩
  · obtain ⟨x, _, rfl⟩ := List.mem_map.mp ha
    obtain ⟨y, _, rfl⟩ := List.mem_map.mp hb
    show PySem.W.alike (.tuple (x.map plD)) (.tuple (y.map plD)) = true
    simp only [PySem.W.alike]
    exact alike_lands x y
  · rcases h0 with ⟨t, rfl⟩ | h0
    · right
      show fstE (.tuple [] :: t.map laD) = true
      simp only [fstE, List.all_eq_true]
      intro d hd
      obtain ⟨x, _, rfl⟩ := List.mem_map.mp hd
      rfl
    · left; left
      intro a ha
      obtain ⟨x, hx, rfl⟩ := List.mem_map.mp ha
      cases x with
      | nil => exact absurd rfl (h0 [] hx)
      | cons p x => rfl
  · rw [List.length_map]; unfold sLine; omega
  · obtain ⟨x, _, rfl⟩ := List.mem_map.mp ha
    have := depth_laD x
    omega
theorem lt_pl {p q : Pl} (h : pLtP p q) : cmpD .lt (plD p) (plD q) = some true := by
  show ltD (plD p) (plD q) = _
  unfold ltD
  rw [if_pos (by rfl)]
  unfold plD
  rw [PySem.W.dataLt_ii]
  exact congrArg some (decide_eq_true h)
theorem rises_T (k : Nat) {l : List Pl} (S : Sto) (hp : l.Pairwise pLtP) (hl : l.length ≤ 100) : MS.run Gl Pr (k + 1) 1 [.d (laD l)] S = .ok (.d (.bool true)) S := by
  refine W.ok (zwp_run (f := f_rises) rfl rfl ?_)
  unfold f_rises
  repeat fail
  have hlen : ((l.map plD).length : Int) = l.length := by simp
  refine ⟨?_, ?_⟩
  · show ((l.map plD).length : Int) - 1 ≤ 16777216 ∧ -16777216 ≤ ((l.map plD).length : Int) - 1
    omega
  refine zcomp_map (g := fun _ => some (.bool true)) (fun x hx => ?_) ?_
  · obtain ⟨i, rfl, h0, h1⟩ := range_mem hx
    have h1' : i < ((l.map plD).length : Int) - 1 := h1
    obtain ⟨j, rfl⟩ := Int.eq_ofNat_of_zero_le h0
    have hj : j + 1 < l.length := by omega
    have e1 : (l.map plD)[j]? = some (plD l[j]) := by rw [List.getElem?_map, List.getElem?_eq_getElem (by omega)]; rfl
    have e2 : (l.map plD)[j + 1]? = some (plD l[j + 1]) := by rw [List.getElem?_map, List.getElem?_eq_getElem hj]; rfl
    refine zwp_turn rfl ?_
    repeat fail
    refine ⟨_, _, rfl, ixv_tup e1, ?_⟩
    repeat fail
    refine ⟨_, _, rfl, ixv_tup (i := j + 1) e2, ?_⟩
    refine ⟨_, _, _, rfl, rfl, lt_pl (List.pairwise_iff_getElem.mp hp j (j + 1) (by omega) hj (by omega)), ?_⟩
    repeat fail
    rfl
  · refine ⟨_, all_const _ (fun x hx => ?_), ?_⟩
    · obtain ⟨i, rfl, _⟩ := range_mem hx
      exact ⟨_, rfl⟩
    exact ⟨rfl, cutS_self _ _⟩
structure Land (rs : List (List Int)) (l : List Pl) : Prop where
  s : l.Sublist (plP 0 99 rs)
theorem Land.pw {rs : List (List Int)} {l : List Pl} (h : Land rs l) : l.Pairwise pLtP := (cells_sorted rs).sublist h.s
theorem Land.nd {rs : List (List Int)} {l : List Pl} (h : Land rs l) : l.Nodup := nodup_of h.pw
theorem Land.cell {rs : List (List Int)} {l : List Pl} (h : Land rs l) : ∀ p ∈ l, isCell rs p := fun p hp => cell_of (h.s.subset hp)
theorem Land.len {rs : List (List Int)} {l : List Pl} (hr : goodRows rs = true) (h : Land rs l) : l.length ≤ 100 := by
  have := h.s.length_le
  have := (cells_len hr).2
  omega
theorem hold_bd {n : Nat} {cs : List Cl} {h : Int} (hcl : GCl n cs) (hm : h ∈ hsOf cs) : 0 ≤ h ∧ h ≤ 3 := by
  obtain ⟨c, hc, rfl⟩ := List.mem_map.mp (mem_srtI.mp hm)
  exact (hcl.b c hc).1
theorem add_land {l : List Pl} {p : Pl} (h : l.length ≤ 100) : binD .add (laD l) (.tuple [plD p]) = some (laD (l ++ [p])) := by
  rw [add_tup (by simp only [List.length_map, List.length_singleton]; unfold sLine; omega)]
  simp
theorem lands_go (acc : List (List Pl)) (p : Pl) : ((acc.map laD).map Val.d).filterMap (gD fun y => laD (unLa y ++ [p])) = (acc.map fun l => l ++ [p]).map laD := by
  rw [gD_map, List.map_map, List.map_map]
  refine List.map_congr_left fun l _ => ?_
  simp only [Function.comp]
  rw [unLa_laD]
/-- the lands that fit, rising -/
noncomputable def fitL (rs : List (List Int)) (cu : List Int) (cs : List Cl) (od h : Int) : List D := (sortD ((subsL (plP 0 99 rs)).map laD)).filter fun d => fitB rs od (dueT rs cu cs h) (totH cu cs) (unLa d)
theorem filter_map_gD {P : D → Bool} {g : Val → Option D} (hg : ∀ d, g (.d d) = if P d then some d else none) : ∀ (xs : List D), (xs.map Val.d).filterMap g = xs.filter P
  | [] => rfl
  | x :: xs => by
    rw [List.map_cons, List.filterMap_cons, hg, filter_map_gD hg xs, List.filter_cons]
    by_cases h : P x = true
    · rw [if_pos h, if_pos h]
    · rw [if_neg h, if_neg h]
def gP (P : D → Bool) : Val → Option D
  | .d d => if P d then some d else none
  | _ => none
theorem sort_mem {L : List (List Pl)} {d : D} (h : d ∈ sortD (L.map laD)) : ∃ l ∈ L, d = laD l := by
  have pm : (sortD (L.map laD)).Perm (L.map laD) := List.mergeSort_perm _ _
  obtain ⟨l, hl, rfl⟩ := List.mem_map.mp (pm.mem_iff.mp h)
  exact ⟨l, hl, rfl⟩
theorem eqv_lands : ∀ (l m : List Pl), PyData.eqvAll (l.map plD) (m.map plD) = decide (l = m)
  | [], [] => by simp [PyData.eqvAll]
  | [], _ :: _ => by simp [PyData.eqvAll]
  | _ :: _, [] => by simp [PyData.eqvAll]
  | p :: l, q :: m => by
    rw [List.map_cons, List.map_cons, PyData.eqvAll, eqv_plD, eqv_lands l m, ← Bool.decide_and]
    simp
theorem eqv_laD (l m : List Pl) : PyData.eqv (laD l) (laD m) = decide (l = m) := by
  rw [show PyData.eqv (laD l) (laD m) = PyData.eqvAll (l.map plD) (m.map plD) from by simp [PyData.eqv], eqv_lands]
theorem lay_laD (l : List Pl) : PyData.canLay0 (laD l) = true := by
  have := lay_plD l
  simpa [PyData.canLay0] using this
theorem lay_all : ∀ {xs : List D}, (∀ x ∈ xs, PyData.canLay0 x = true) → PyData.canLayAll0 xs = true
  | [], _ => by simp [PyData.canLayAll0]
  | x :: xs, h => by simp [PyData.canLayAll0, h x (List.mem_cons_self ..), lay_all fun y hy => h y (List.mem_cons_of_mem _ hy)]

-- D9.lean
def gCl (row : Nat) : Val → Option D
  | .d (.tuple [.int c, .int n]) => if decide (0 ≤ n) then some (.tuple [.int row, .int c]) else none
  | _ => none
theorem gCl_rows (row : Nat) : ∀ (ns : List Int) (c : Nat), (∀ n ∈ ns, n ≤ 99) → ((((ns.map PyData.int).zipIdx c).map fun p => Val.d (.tuple [.int p.2, p.1])).filterMap (gCl row)) = rowPl 0 99 row c ns
  | [], _, _ => rfl
  | n :: ns, c, h => by
    have hn := h n (by simp)
    simp only [List.map_cons, List.zipIdx_cons, List.filterMap_cons, gCl, rowPl, gCl_rows row ns (c + 1) (fun m hm => h m (by simp [hm]))]
    by_cases h0 : 0 ≤ n
    · simp [h0, hn]
    · simp [h0]
theorem law_cells_run (k : Nat) {rs : List (List Int)} {S : Sto} (hS : PureS S) (hr : goodRows rs = true) : MS.run Gl Pr (k + 1) 45 [.d (mD rs)] S = .ok (.d (.list (plL 0 99 0 rs))) S := by
  have hz := good_size' hr
  have hle : ∀ ns ∈ rs, ∀ n ∈ ns, n ≤ 99 := fun ns hn n hm => (((good_parts hr).2.2.1 ns hn).2.2.2 n hm).2
  refine W.ok (zwp_run (f := f_law_cells) rfl rfl ?_)
  unfold f_law_cells
  repeat fail
  refine zws_for ?_
  repeat fail
  refine ⟨fun xs env S' => ∃ done rest a b c d, rs = done ++ rest ∧ xs = ((rest.map rowD).zipIdx done.length).map (fun p => Val.d (.tuple [.int p.2, p.1])) ∧ S' = S ++ [some (.lst ((plL 0 99 0 done).map Val.d))] ∧ env = [some (.d (mD rs)), some (.ref S.length), a, b, c, d], ?_, ?_, ?_⟩
  · exact ⟨[], rs, none, none, none, none, rfl, rfl, rfl, rfl⟩
  · intro x r env S' ⟨done, rest, a, b, c, d, e1, e2, e3, e4⟩
    cases rest with
    | nil => simp at e2
    | cons ns rest =>
      simp only [List.map_cons, List.zipIdx_cons, List.cons.injEq] at e2
      obtain ⟨rfl, e2⟩ := e2
      subst e3 e4
      refine ⟨_, rfl, ?_⟩
      repeat fail
      refine ⟨isLst_at, ?_⟩
      repeat fail
      have hns : ∀ n ∈ ns, n ≤ 99 := hle ns (by rw [e1]; simp)
      have this : ((enumD (ns.map PyData.int)).filterMap (gCl done.length)) = rowPl 0 99 done.length 0 ns := gCl_rows done.length ns 0 hns
      refine zcomp_map (g := gCl done.length) (fun x hx => ?_) ?_
      · obtain ⟨i, dd, rfl, hd⟩ := enum_mem hx
        rw [List.getElem?_map] at hd
        cases q : ns[i]? with
        | none => rw [q] at hd; cases hd
        | some n =>
          rw [q] at hd
          cases hd
          refine zwp_turn rfl ?_
          repeat fail
          refine zif (fun h => ?_) (fun h => ?_)
          · have h' : decide (0 ≤ n) = true := h
            repeat fail
            simp [gCl, h']
          · have h' : decide (0 ≤ n) = false := h
            repeat fail
            simp [gCl, h']
      · refine ⟨_, _, _, rfl, rfl, stGet_at, ?_, ?_⟩
        · have l1 := plL_le 0 99 done 0
          have l2 := rowPl_le 0 99 done.length ns 0
          show (List.map Val.d (plL 0 99 0 done)).length + ((enumD (ns.map PyData.int)).filterMap (gCl done.length)).length ≤ sLine
          rw [this, List.length_map]
          rw [e1, List.map_append, List.sum_append] at hz
          simp only [List.map_cons, List.sum_cons] at hz
          omega
        · repeat fail
          refine ⟨done ++ [ns], rest, _, _, _, _, by rw [e1]; simp, by rw [e2]; simp, ?_, rfl⟩
          show (S ++ [some (Ob.lst _)]).set S.length (some (.lst (List.map Val.d (plL 0 99 0 done) ++ List.map Val.d ((enumD (ns.map PyData.int)).filterMap (gCl done.length))))) = _
          rw [this, set_at, plL_app]
          simp [plL]
  · intro env S' ⟨done, rest, a, b, c, d, e1, e2, e3, e4⟩
    have hrr : rest = [] := by
      cases rest with
      | nil => rfl
      | cons _ _ => simp at e2
    subst hrr e3 e4
    rw [List.append_nil] at e1
    subst e1
    repeat fail
    refine zwp_fzR stGet_at (pureVs_map _) ?_
    refine ⟨rfl, cutS_app (fun _ z => by cases z) hS set_at⟩
theorem law_worth_L (k : Nat) {rs : List (List Int)} {l : List Pl} (S : Sto) (h : ∀ p ∈ l, isCell rs p) : MS.run Gl Pr (k + 1) 49 [.d (mD rs), .d (.list (l.map plD))] S = .ok (.d (.int (wo rs l))) S := by
  refine W.ok (zwp_run (f := f_law_worth) rfl rfl ?_)
  unfold f_law_worth
  repeat fail
  refine zcomp_map (g := gD fun y => .int (numAt rs (unPl y).1 (unPl y).2)) (fun x hx => ?_) ?_
  · obtain ⟨y, hy, rfl⟩ := List.mem_map.mp hx
    obtain ⟨p, hp, rfl⟩ := List.mem_map.mp hy
    obtain ⟨r, w1, w2⟩ := wo_turn (h p hp) (lockS S [])
    refine zwp_turn rfl ?_
    repeat fail
    refine ⟨_, _, rfl, w1, ?_⟩
    repeat fail
    refine ⟨_, _, rfl, w2, ?_⟩
    repeat fail
    rfl
  · rw [gD_map]
    refine ⟨_, biV_sum, ?_⟩
    refine ⟨?_, cutS_self _ _⟩
    rw [List.map_map]; rfl
theorem law_worth_T (k : Nat) {rs : List (List Int)} {l : List Pl} (S : Sto) (h : ∀ p ∈ l, isCell rs p) : MS.run Gl Pr (k + 1) 49 [.d (mD rs), .d (laD l)] S = .ok (.d (.int (wo rs l))) S := by
  refine W.ok (zwp_run (f := f_law_worth) rfl rfl ?_)
  unfold f_law_worth
  repeat fail
  refine zcomp_map (g := gD fun y => .int (numAt rs (unPl y).1 (unPl y).2)) (fun x hx => ?_) ?_
  · obtain ⟨y, hy, rfl⟩ := List.mem_map.mp hx
    obtain ⟨p, hp, rfl⟩ := List.mem_map.mp hy
    obtain ⟨r, w1, w2⟩ := wo_turn (h p hp) (lockS S [])
    refine zwp_turn rfl ?_
    repeat fail
    refine ⟨_, _, rfl, w1, ?_⟩
    repeat fail
    refine ⟨_, _, rfl, w2, ?_⟩
    repeat fail
    rfl
  · rw [gD_map]
    refine ⟨_, biV_sum, ?_⟩
    refine ⟨?_, cutS_self _ _⟩
    rw [List.map_map]; rfl
theorem law_cells_P (k : Nat) {rs : List (List Int)} {S : Sto} (hS : PureS S) (hr : goodRows rs = true) : MS.run Gl Pr (k + 1) 45 [.d (mD rs)] S = .ok (.d (.list ((plP 0 99 rs).map plD))) S := by
  rw [law_cells_run k hS hr, plL_pl]
/-! the law's own line -/
def moreL (l ln : List Pl) (p : Pl) : List Pl := l.filter fun q => !decide (q ∈ ln) && adj q p
theorem Line.stepL {l ln : List Pl} {o p : Pl} {n : Nat} (h : Line l o ln n) (hl : l.Nodup) (hp : ln[n]? = some p) : Line l o (ln ++ moreL l ln p) (n + 1) := by
  have hm : ∀ q, q ∈ moreL l ln p ↔ q ∈ l ∧ q ∉ ln ∧ adj p q = true := fun q => by
    unfold moreL
    rw [List.mem_filter]
    simp only [Bool.and_eq_true, decide_eq_true_eq, Bool.not_eq_true', decide_eq_false_iff_not]
    rw [adj_comm q p]
  have hlt := (List.getElem?_eq_some_iff.mp hp).1
  have hpm : p ∈ ln := List.mem_of_getElem? hp
  refine ⟨?_, fun q hq => ?_, fun q hq => ?_, List.mem_append_left _ h.o, by simp; omega, fun i hi q hq r hr hl => ?_⟩
  · rw [List.nodup_append]
    refine ⟨h.nd, hl.filter _, fun a ha b hb e => ?_⟩
    subst e
    exact ((hm a).mp hb).2.1 ha
  · rcases List.mem_append.mp hq with z | z
    · exact h.sub q z
    · exact ((hm q).mp z).1
  · rcases List.mem_append.mp hq with z | z
    · exact h.re q z
    · exact .go (h.re p hpm) ((hm q).mp z).2.2 ((hm q).mp z).1
  · by_cases hin : r ∈ ln
    · exact List.mem_append_left _ hin
    · by_cases e : i = n
      · subst e
        rw [List.getElem?_append_left hlt, hp] at hq
        cases hq
        exact List.mem_append_right _ ((hm r).mpr ⟨hl, hin, hr⟩)
      · rw [List.getElem?_append_left (by omega)] at hq
        exact absurd (h.cl i (by omega) q hq r hr hl) hin
theorem law_piece_run (k : Nat) {l : List Pl} {o : Pl} {S : Sto} (hS : PureS S) (hl : l.length ≤ 100) (hn : l.Nodup) (ho : o ∈ l) : W (MS.run Gl Pr (k + 2) 47 [.d (laD l), .d (plD o)] S) noX fun v S' => ∃ ln, Line l o ln ln.length ∧ v = .d (.tuple (sortD (ln.map plD))) ∧ S' = S := by
  refine zwp_run (f := f_law_piece) rfl rfl ?_
  unfold f_law_piece
  repeat fail
  refine zws_while (fun env S' => ∃ ln n a4, Line l o ln n ∧ S' = S ++ [some (.lst ((ln.map plD).map Val.d))] ∧ env = [some (.d (laD l)), some (.d (plD o)), some (.ref S.length), some (.d (.int (n : Nat))), a4]) (fun env _ => match env with | [_, _, _, some (.d (.int n)), _] => l.length + 1 - n.toNat | _ => 0) ⟨[o], 0, none, ?_, rfl, rfl⟩ (by show l.length + 1 - (0 : Int).toNat < 100000; omega) ?_
  · refine ⟨by simp, fun p hp => by rw [List.mem_singleton.mp hp]; exact ho, fun p hp => by rw [List.mem_singleton.mp hp]; exact .o, by simp, by simp, fun i hi => by omega⟩
  intro env S' ⟨ln, n, a4, hL, e1, e2⟩
  subst e1 e2
  have lln := nodup_len hL.nd hL.sub
  repeat fail
  refine ⟨_, bi_len_ref stGet_at, ?_⟩
  repeat fail
  refine zif (fun h1 => ?_) (fun h1 => ?_)
  · have hn' : n < ln.length := by
      have := of_decide_eq_true h1
      rw [List.length_map] at this; omega
    have hp : ln[n]? = some ln[n] := List.getElem?_eq_getElem hn'
    have e3 : ((ln.map plD).map Val.d)[n]? = some (.d (plD ln[n])) := by rw [List.getElem?_map, List.getElem?_map, hp]; rfl
    repeat fail
    refine ⟨isLst_at, ?_⟩
    repeat fail
    refine zcomp_map (g := gKeep fun q => !decide (q ∈ ln) && adj q ln[n]) (fun x hx => ?_) ?_
    · obtain ⟨y, hy, rfl⟩ := List.mem_map.mp hx
      obtain ⟨q, hq, rfl⟩ := List.mem_map.mp hy
      refine zwp_turn rfl ?_
      repeat fail
      refine ⟨_, _, _, rfl, view_ref stGet_at, (show (inD _ _).map _ = some _ by rw [inD_plD]; rfl), ?_⟩
      repeat fail
      refine zif (fun h2 => ?_) (fun h2 => ?_)
      · repeat fail
        refine ⟨_, _, rfl, ixv_ref stGet_at e3, ?_⟩
        repeat fail
        refine W.of (next_to_run _ q ln[n] _) ?_
        repeat fail
        refine zif (fun h3 => ?_) (fun h3 => ?_)
        · repeat fail
          refine ⟨?_, rfl⟩
          have h2' : (!decide (q ∈ ln)) = true := h2
          rw [gKeep_pl, h2', h3]; rfl
        · refine ⟨?_, rfl⟩
          have h3' : adj q ln[n] = false := h3
          rw [gKeep_pl, h3']; simp
      · repeat fail
        refine zif_f h2 ?_
        refine ⟨?_, rfl⟩
        have h2' : (!decide (q ∈ ln)) = false := h2
        rw [gKeep_pl, h2']; simp
    · rw [gKeep_map]
      refine ⟨_, _, _, rfl, rfl, stGet_at, ?_, ?_⟩
      · have : (l.filter fun q => !decide (q ∈ ln) && adj q ln[n]).length ≤ l.length := List.length_filter_le _ _
        simp only [List.length_map]
        unfold sLine; omega
      · repeat fail
        refine ⟨⟨ln ++ moreL l ln ln[n], n + 1, a4, hL.stepL hn hp, ?_, rfl⟩, ?_⟩
        · show (S ++ [some (Ob.lst _)]).set S.length (some (.lst ((ln.map plD).map Val.d ++ ((l.filter fun q => !decide (q ∈ ln) && adj q ln[n]).map plD).map Val.d))) = _
          rw [set_at]
          simp [moreL]
        · show l.length + 1 - ((n : Int) + 1).toNat < l.length + 1 - (n : Int).toNat
          omega
  · have hn' : n = ln.length := by
      have h := hL.le
      have := of_decide_eq_false h1
      rw [List.length_map] at this; omega
    subst hn'
    repeat fail
    refine ⟨_, _, seqV_list (view_ref stGet_at), if_pos (sortOk_pl (by omega)), ?_⟩
    repeat fail
    refine ⟨ln, hL, rfl, cutS_app (fun _ z => by cases z) hS rfl⟩
/-! the sorted line and the land -/
theorem dle_pl (p q : Pl) (h : PySem.W.dataLe false id (plD p) (plD q) = true) : ¬ pLtP q p := by
  rw [PySem.W.dataLe_eq] at h
  have h1 : PySem.W.dataLt (plD q) (plD p) = false := by simpa using h
  unfold plD at h1
  rw [PySem.W.dataLt_ii] at h1
  have h2 := of_decide_eq_false h1
  unfold pLtP
  exact h2
theorem dle_pl' {p q : Pl} (h : pLtP p q) : PySem.W.dataLe false id (plD p) (plD q) = true := by
  rw [PySem.W.dataLe_eq]
  have h1 : PySem.W.dataLt (plD q) (plD p) = false := by
    unfold plD
    rw [PySem.W.dataLt_ii]
    refine decide_eq_false fun z => ?_
    unfold pLtP at h
    omega
  simpa using h1
theorem pl_tri {p q : Pl} (h1 : ¬ pLtP p q) (h2 : ¬ pLtP q p) : p = q := by
  unfold pLtP at h1 h2
  obtain ⟨a, b⟩ := p
  obtain ⟨c, d⟩ := q
  simp only [not_or, not_and] at h1 h2
  have : a = c := by omega
  subst this
  have := h1.2 rfl
  have := h2.2 rfl
  have : b = d := by omega
  rw [this]
theorem sort_land {l ln : List Pl} (hl : l.Pairwise pLtP) (h : ln.Perm l) : sortD (ln.map plD) = l.map plD := by
  have pm : (sortD (ln.map plD)).Perm (l.map plD) := (List.mergeSort_perm _ _).trans (h.map plD)
  have pw : (sortD (ln.map plD)).Pairwise fun x y => PySem.W.dataLe false id x y = true := PySem.W.sort_pairwise (PySem.W.sortLe_total _ _ _) _
  refine sorted_eq (le := fun a b => PySem.W.dataLe false id a b = true) pm pw ?_ ?_
  · rw [List.pairwise_map]
    exact hl.imp fun {a b} h => dle_pl' h
  · intro a ha b hb h1 h2
    obtain ⟨x, _, rfl⟩ := List.mem_map.mp (pm.mem_iff.mp ha)
    obtain ⟨y, _, rfl⟩ := List.mem_map.mp (pm.mem_iff.mp hb)
    rw [pl_tri (dle_pl _ _ h2) (dle_pl _ _ h1)]
theorem perm_of_sub {a b : List Pl} (ha : a.Nodup) (hb : b.Nodup) (h : ∀ x, x ∈ a ↔ x ∈ b) : a.Perm b := (List.perm_ext_iff_of_nodup ha hb).mpr h
/-- the sorted line is the land just where it hangs together -/
theorem line_eq {l ln : List Pl} {o : Pl} (hl : l.Pairwise pLtP) (hL : Line l o ln ln.length) : PyData.eqv (.tuple (sortD (ln.map plD))) (laD l) = true ↔ Hangs l o := by
  have hn := nodup_of hl
  have hd := hL.done rfl hn
  constructor
  · intro h
    refine hd.mp ?_
    have hp : ∃ m : List Pl, sortD (ln.map plD) = m.map plD ∧ m.length = ln.length := by
      have pm : (sortD (ln.map plD)).Perm (ln.map plD) := List.mergeSort_perm _ _
      have : ∀ (xs : List D), (∀ d ∈ xs, ∃ p, d = plD p) → ∃ m : List Pl, xs = m.map plD := by
        intro xs
        induction xs with
        | nil => exact fun _ => ⟨[], rfl⟩
        | cons x xs ih =>
          intro hx
          obtain ⟨p, rfl⟩ := hx x (by simp)
          obtain ⟨m, rfl⟩ := ih fun d hd => hx d (by simp [hd])
          exact ⟨p :: m, rfl⟩
      obtain ⟨m, e⟩ := this _ fun d hd => by
        obtain ⟨p, _, rfl⟩ := List.mem_map.mp (pm.mem_iff.mp hd)
        exact ⟨p, rfl⟩
      refine ⟨m, e, ?_⟩
      have := pm.length_eq
      rw [e] at this
      simpa using this
    obtain ⟨m, e, em⟩ := hp
    rw [e] at h
    have h : PyData.eqv (laD m) (laD l) = true := h
    rw [eqv_laD, decide_eq_true_eq] at h
    rw [← em, h]
  · intro h
    have pm : ln.Perm l := perm_of_sub hL.nd hn fun x => ⟨hL.sub x, fun hx => hL.all rfl x (h x hx)⟩
    rw [sort_land hl pm]
    have : PyData.eqv (laD l) (laD l) = true := by rw [eqv_laD]; simp
    exact this
theorem eqOk_la {l : List Pl} {xs : List D} (h : ∀ d ∈ xs, ∃ p, d = plD p) : eqOk (.tuple xs) (laD l) = true := by
  have : ∃ m : List Pl, xs = m.map plD := by
    induction xs with
    | nil => exact ⟨[], rfl⟩
    | cons x xs ih =>
      obtain ⟨p, rfl⟩ := h x (by simp)
      obtain ⟨m, rfl⟩ := ih fun d hd => h d (by simp [hd])
      exact ⟨p :: m, rfl⟩
  obtain ⟨m, rfl⟩ := this
  unfold eqOk
  have d2 := depth_laD l
  rw [show PyData.canLay0 (.tuple (m.map plD)) = true from lay_laD m, lay_laD l]
  simp; omega
theorem law_fits_run (k : Nat) {rs : List (List Int)} {cu : List Int} {cs : List Cl} {od h : Int} {l : List Pl} {S : Sto} (hS : PureS S) (hp : GPe rs cu cs od) (hL : Land rs l) :
    MS.run Gl Pr (k + 4) 52 [.d (peD rs cu cs od), .d (.int h), .d (laD l)] S = .ok (.d (.bool (fitB rs od (dueT rs cu cs h) (totH cu cs) l))) S := by
  have b := cnt_bd (h := h) hp.u hp.c
  refine W.ok (zwp_run (f := f_law_fits) rfl rfl ?_)
  unfold f_law_fits
  repeat fail
  refine zcomp_map (g := gWh cu h) (fun x hx => ?_) ?_
  · obtain ⟨y, hy, rfl⟩ := List.mem_map.mp hx
    obtain ⟨c, hc, rfl⟩ := List.mem_map.mp hy
    have hb := hp.c.b c hc
    refine zwp_turn rfl ?_
    repeat fail
    refine zif (fun h1 => ?_) (fun h1 => ?_)
    · have h1' : c.1 = h := by rw [eqv_int] at h1; exact of_decide_eq_true h1
      repeat fail
      refine ⟨_, _, rfl, ix_cu hb.2.1, ?_⟩
      repeat fail
      refine ⟨_, _, _, rfl, rfl, mul_wt hb.2.2, ?_⟩
      repeat fail
      simp [gWh, h1', wt]
    · have h1' : ¬ c.1 = h := by rw [eqv_int] at h1; exact of_decide_eq_false h1
      simp [gWh, h1']
  rw [gWh_map]
  refine ⟨_, biV_sumI, ?_⟩
  repeat fail
  refine zcomp_map (g := gW cu) (fun x hx => ?_) ?_
  · obtain ⟨y, hy, rfl⟩ := List.mem_map.mp hx
    obtain ⟨c, hc, rfl⟩ := List.mem_map.mp hy
    have hb := hp.c.b c hc
    refine zwp_turn rfl ?_
    repeat fail
    refine ⟨_, _, rfl, ix_cu hb.2.1, ?_⟩
    repeat fail
    refine ⟨_, _, _, rfl, rfl, mul_wt hb.2.2, ?_⟩
    repeat fail
    rfl
  rw [gW_map]
  refine ⟨_, biV_sumI, ?_⟩
  repeat fail
  refine W.of (law_cells_P _ hS hp.m) ?_
  repeat fail
  refine W.of (law_worth_L _ _ fun p hq => cell_of hq) ?_
  repeat fail
  refine ⟨_, _, _, rfl, rfl, eq_nil, ?_⟩
  repeat fail
  refine zif (fun h1 => ?_) (fun h1 => ?_)
  · have h1' : ¬ l = [] := of_decide_eq_false h1
    repeat fail
    refine W.of (law_worth_T _ _ hL.cell) ?_
    repeat fail
    refine ⟨_, _, _, rfl, rfl, mul_small' (a := wo rs l) (b := totH cu cs) (by omega) (by omega), ?_⟩
    repeat fail
    refine ⟨_, _, _, rfl, rfl, mul_small' (b := cntH cu cs h) b.1.1 (by omega), ?_⟩
    repeat fail
    refine ⟨_, _, _, rfl, rfl, mul_small' (b := totH cu cs) (by omega) (by omega), ?_⟩
    repeat fail
    have ew : worthB rs od (dueT rs cu cs h) (totH cu cs) l = !decide (od * totH cu cs < absI (wo rs l * totH cu cs - wo rs (plP 0 99 rs) * cntH cu cs h)) := by
      unfold worthB dueT
      rw [← decide_not]
      exact decide_eq_decide.mpr (by omega)
    refine zif (fun h2 => ?_) (fun h2 => ?_)
    · have h2' : decide (od * totH cu cs < absI (wo rs l * totH cu cs - wo rs (plP 0 99 rs) * cntH cu cs h)) = true := h2
      repeat fail
      refine ⟨?_, cutS_self _ _⟩
      unfold fitB
      rw [ew, h2']; rfl
    · have h2' : decide (od * totH cu cs < absI (wo rs l * totH cu cs - wo rs (plP 0 99 rs) * cntH cu cs h)) = false := h2
      repeat fail
      refine W.of (by_road_run _ (hL.len hp.m)) ?_
      rw [road_same]
      repeat fail
      refine zif (fun h3 => ?_) (fun h3 => ?_)
      · cases l with
        | nil => exact absurd rfl h1'
        | cons o l =>
          repeat fail
          refine ⟨_, _, rfl, ixv_tup (i := 0) (x := plD o) (by simp), ?_⟩
          repeat fail
          refine W.call (law_piece_run _ hS (hL.len hp.m) hL.nd (by simp)) fun v S' ⟨ln, hln, e1, e2⟩ => ?_
          subst e1 e2
          repeat fail
          have pm : (sortD (ln.map plD)).Perm (ln.map plD) := List.mergeSort_perm _ _
          have eo := eqOk_la (l := o :: l) (xs := sortD (ln.map plD)) fun d hd => by
            obtain ⟨p, _, rfl⟩ := List.mem_map.mp (pm.mem_iff.mp hd)
            exact ⟨p, rfl⟩
          refine ⟨_, _, _, rfl, rfl, (show eqD _ _ = some _ by unfold eqD; rw [if_pos eo]), ?_⟩
          refine ⟨?_, cutS_self _ _⟩
          have le := line_eq hL.pw hln
          have e3 : PyData.eqv (.tuple (sortD (ln.map plD))) (laD (o :: l)) = hangB (o :: l) := by
            by_cases hh : Hangs (o :: l) o
            · rw [hangB_t hh, le.mpr hh]
            · rw [hangB_f hh]
              cases q : PyData.eqv (.tuple (sortD (ln.map plD))) (laD (o :: l)) with
              | false => rfl
              | true => exact absurd (le.mp q) hh
          rw [e3]
          unfold fitB
          rw [ew, h2', h3]; rfl
      · refine ⟨?_, cutS_self _ _⟩
        unfold fitB
        rw [ew, h2', h3]; rfl
  · have h1' : l = [] := of_decide_eq_true h1
    subst h1'
    repeat fail
    refine ⟨?_, cutS_self _ _⟩
    unfold fitB
    simp [hangB]

-- E1.lean
def fstD : D → D
  | .tuple (a :: _) => a
  | _ => .none
theorem comp_fstD {cs : List Cl} : ((cs.map cD).map Val.d).filterMap (gD fstD) = (cs.map (·.1)).map PyData.int := by
  rw [gD_map, List.map_map, List.map_map]; rfl
theorem law_holders_P (k : Nat) {rs : List (List Int)} {cu : List Int} {cs : List Cl} {od : Int} (S : Sto) (h : cs.length ≤ 12) : MS.run Gl Pr (k + 1) 51 [.d (peD rs cu cs od)] S = .ok (.d (.list ((hsOf cs).map PyData.int))) S := by
  refine W.ok (zwp_run (f := f_law_holders) rfl rfl ?_)
  unfold f_law_holders
  repeat fail
  refine zcomp_map (g := gD fstD) (fun x hx => ?_) ?_
  · obtain ⟨y, hy, rfl⟩ := List.mem_map.mp hx
    obtain ⟨c, hc, rfl⟩ := List.mem_map.mp hy
    refine zwp_turn rfl ?_
    repeat fail
    rfl
  · rw [comp_fstD]
    refine ⟨_, _, rfl, sort_fst h, ?_⟩
    repeat fail
    exact cutS_self _ _
/-- the lands that fit, as the law finds them -/
noncomputable def fitS (rs : List (List Int)) (cu : List Int) (cs : List Cl) (od h : Int) : List (List Pl) := (subsL (plP 0 99 rs)).filter fun l => fitB rs od (dueT rs cu cs h) (totH cu cs) l
noncomputable def gFit (rs : List (List Int)) (cu : List Int) (cs : List Cl) (od h : Int) : Val → Option D := gP fun d => fitB rs od (dueT rs cu cs h) (totH cu cs) (unLa d)
theorem gFit_map {rs : List (List Int)} {cu : List Int} {cs : List Cl} {od h : Int} : ∀ (L : List (List Pl)), ((L.map laD).map Val.d).filterMap (gFit rs cu cs od h) = (L.filter fun l => fitB rs od (dueT rs cu cs h) (totH cu cs) l).map laD
  | [] => rfl
  | l :: L => by
    rw [List.map_cons, List.map_cons, List.filterMap_cons, List.filter_cons, gFit_map L]
    simp only [gFit, gP, unLa_laD]
    cases fitB rs od (dueT rs cu cs h) (totH cu cs) l <;> rfl
theorem law_fit_lands_run (k : Nat) {rs : List (List Int)} {cu : List Int} {cs : List Cl} {od h : Int} {S : Sto} (hS : PureS S) (hp : GPe rs cu cs od) :
    MS.run Gl Pr (k + 5) 53 [.d (peD rs cu cs od), .d (.int h)] S = .ok (.d (.list ((fitS rs cu cs od h).map laD))) S := by
  have c10 := (cells_len hp.m).2
  refine W.ok (zwp_run (f := f_law_fit_lands) rfl rfl ?_)
  unfold f_law_fit_lands
  repeat fail
  refine zws_for ?_
  repeat fail
  refine W.of (law_cells_P _ hS hp.m) ?_
  repeat fail
  refine ⟨fun xs env S' => ∃ dn rest acc a b, plP 0 99 rs = dn ++ rest ∧ xs = (rest.map plD).map Val.d ∧ acc = subsL dn ∧ S' = S ∧ env = [some (.d (peD rs cu cs od)), some (.d (.int h)), some (.d (.list (acc.map laD))), a, b], ?_, ?_, ?_⟩
  · exact ⟨[], plP 0 99 rs, [[]], none, none, rfl, rfl, rfl, rfl, rfl⟩
  · intro x xs env S' ⟨dn, rest, acc, a, b, e1, e2, e3, e4, e5⟩
    cases rest with
    | nil => simp at e2
    | cons p rest =>
      simp only [List.map_cons, List.cons.injEq] at e2
      obtain ⟨rfl, e2⟩ := e2
      subst e3 e4 e5
      have ld : dn.length ≤ 10 := by
        have := congrArg List.length e1
        simp only [List.length_append, List.length_cons] at this
        omega
      have la := subs_len dn ld
      refine ⟨_, rfl, ?_⟩
      repeat fail
      refine zcomp_map (g := gD fun y => laD (unLa y ++ [p])) (fun x hx => ?_) ?_
      · obtain ⟨y, hy, rfl⟩ := List.mem_map.mp hx
        obtain ⟨l, hl, rfl⟩ := List.mem_map.mp hy
        have hle := (subs_sub hl).length_le
        refine zwp_turn rfl ?_
        repeat fail
        refine ⟨_, _, _, rfl, rfl, add_land (by omega), ?_⟩
        repeat fail
        simp only [gD, unLa_laD]
        trivial
      · rw [lands_go]
        refine ⟨_, _, _, rfl, rfl, add_lst ?_, ?_⟩
        · simp only [List.length_map]; unfold sLine; omega
        repeat fail
        refine ⟨dn ++ [p], rest, subsL dn ++ (subsL dn).map (fun l => l ++ [p]), some (.d (plD p)), b, by rw [e1]; simp, e2, ?_, rfl, ?_⟩
        · unfold subsL; rw [List.foldl_append]; rfl
        · rw [List.map_append]; rfl
  · intro env S' ⟨dn, rest, acc, a, b, e1, e2, e3, e4, e5⟩
    have hrr : rest = [] := by
      cases rest with
      | nil => rfl
      | cons _ _ => simp at e2
    subst hrr e3 e4 e5
    rw [List.append_nil] at e1
    rw [← e1]
    repeat fail
    refine zcomp_map (g := gFit rs cu cs od h) (fun x hx => ?_) ?_
    · obtain ⟨y, hy, rfl⟩ := List.mem_map.mp hx
      obtain ⟨l, hl, rfl⟩ := List.mem_map.mp hy
      have hL : Land rs l := ⟨subs_sub hl⟩
      refine zwp_turn rfl ?_
      repeat fail
      refine W.of (law_fits_run _ hS hp hL) ?_
      repeat fail
      refine zif (fun h1 => ?_) (fun h1 => ?_)
      · repeat fail
        refine ⟨?_, rfl⟩
        simp only [gFit, gP, unLa_laD, h1, if_true]
      · refine ⟨?_, rfl⟩
        have h1' : fitB rs od (dueT rs cu cs h) (totH cu cs) l = false := h1
        simp only [gFit, gP, unLa_laD, h1', Bool.false_eq_true, if_false]
    · rw [gFit_map]
      exact ⟨rfl, cutS_self _ _⟩
theorem fitS_land {rs : List (List Int)} {cu : List Int} {cs : List Cl} {od h : Int} {l : List Pl} (hl : l ∈ fitS rs cu cs od h) : Land rs l ∧ fitB rs od (dueT rs cu cs h) (totH cu cs) l = true :=
  ⟨⟨subs_sub (List.mem_filter.mp hl).1⟩, (List.mem_filter.mp hl).2⟩
/-! ### a pen ahead, rows behind -/
theorem draw_ap2 (k : Nat) {p : Nat} {m : Int} {S T : Sto} (h : Pn p S) (hT : PureS (S ++ T)) (h0 : 0 < m) (h1 : m < 2147483648) : W (MS.run Gl Pr (k + 1) 44 [.ref p, .d (.int m)] (S ++ T)) noX fun v S' => ∃ r S1, v = .d (.int r) ∧ 0 ≤ r ∧ r < m ∧ Gen p S S1 ∧ Pn p S1 ∧ PureS (S1 ++ T) ∧ S' = S1 ++ T := by
  obtain ⟨c, f, e⟩ := h.ob
  have hp : Pn p (S ++ T) := ⟨by have := h.lt; simp; omega, ⟨c, f, by rw [List.getElem?_append_left h.lt]; exact e⟩, hT⟩
  refine W.call (draw_run k hp h0 h1) fun v S' ⟨r, e, r0, r1, g⟩ => ?_
  have hp' := g.pn hp
  obtain ⟨S1, g1, e1⟩ := g.app h.lt
  subst e1
  exact ⟨r, S1, e, r0, r1, g1, g1.pn h, hp'.pu, rfl⟩
abbrev iv (r : List Int) : Ob := .lst ((r.map PyData.int).map Val.d)
def rfs (n L : Nat) : List Val := (List.range L).map fun i => Val.ref (n + 2 + i)
def TX (n w : Nat) (X : List (List Int)) : Sto := some (iv (List.replicate w (-1))) :: some (.lst (.ref n :: rfs n X.length)) :: X.map fun r => some (iv r)
theorem TX_len (n w : Nat) (X : List (List Int)) : (TX n w X).length = X.length + 2 := by simp [TX]
theorem iv_below (m : Nat) (r : List Int) : belowO m (some (iv r)) = true := pureO_below (pureO_d _)
theorem TX_pure {S : Sto} {w : Nat} {X : List (List Int)} (h : PureS S) : PureS (S ++ TX S.length w X) := by
  unfold PureS
  rw [belowS_iff, List.length_append, TX_len]
  intro o ho
  rcases List.mem_append.mp ho with z | z
  · exact belowO_mono (by omega) (belowS_iff.mp h o z)
  · simp only [TX, List.mem_cons, List.mem_map] at z
    rcases z with rfl | rfl | ⟨r, _, rfl⟩
    · exact iv_below _ _
    · simp only [belowO, Ob.below, List.all_eq_true, List.mem_cons]
      intro v hv
      rcases hv with rfl | hv
      · simp [Val.below]
      · obtain ⟨i, hi, rfl⟩ := List.mem_map.mp hv
        have := List.mem_range.mp hi
        simp [Val.below]; omega
    · exact iv_below _ _
theorem TX_rows {S T : Sto} {w : Nat} {X : List (List Int)} : stGet (S ++ (TX S.length w X ++ T)) (S.length + 1) = some (.lst (.ref S.length :: rfs S.length X.length)) := by
  unfold stGet
  rw [List.getElem?_append_right (by omega)]
  have : S.length + 1 - S.length = 1 := by omega
  rw [this]
  rfl
theorem TX_first {S T : Sto} {w : Nat} {X : List (List Int)} : stGet (S ++ (TX S.length w X ++ T)) S.length = some (iv (List.replicate w (-1))) := by
  unfold stGet
  rw [List.getElem?_append_right (by omega), Nat.sub_self]
  rfl
theorem TX_row {S T : Sto} {w i : Nat} {X : List (List Int)} {r : List Int} (h : X[i]? = some r) : stGet (S ++ (TX S.length w X ++ T)) (S.length + 2 + i) = some (iv r) := by
  unfold stGet
  have hi := (List.getElem?_eq_some_iff.mp h).1
  rw [List.getElem?_append_right (by omega)]
  have : S.length + 2 + i - S.length = i + 1 + 1 := by omega
  rw [this]
  unfold TX
  rw [List.cons_append, List.getElem?_cons_succ, List.cons_append, List.getElem?_cons_succ, List.getElem?_append_left (by simpa using hi), List.getElem?_map, h]
  rfl
theorem TX_set {S : Sto} {w i : Nat} {X : List (List Int)} {r : List Int} (h : i < X.length) : (S ++ TX S.length w X).set (S.length + 2 + i) (some (iv r)) = S ++ TX S.length w (X.set i r) := by
  rw [List.set_append_right _ _ (by omega)]
  have : S.length + 2 + i - S.length = i + 1 + 1 := by omega
  rw [this]
  unfold TX
  rw [List.set_cons_succ, List.set_cons_succ, List.length_set, ← List.map_set]
theorem rfs_succ (n L : Nat) : rfs n (L + 1) = rfs n L ++ [.ref (n + 2 + L)] := by
  unfold rfs
  rw [List.range_succ, List.map_append]; rfl
theorem TX_app {S : Sto} {w : Nat} {X : List (List Int)} {r : List Int} : ((S ++ TX S.length w X) ++ [some (iv r)]).set (S.length + 1) (some (.lst ((.ref S.length :: rfs S.length X.length) ++ [.ref (S ++ TX S.length w X).length]))) = S ++ TX S.length w (X ++ [r]) := by
  rw [List.append_assoc, List.set_append_right _ _ (by omega)]
  have : S.length + 1 - S.length = 0 + 1 := by omega
  rw [this]
  have e : (S ++ TX S.length w X).length = S.length + 2 + X.length := by rw [List.length_append, TX_len]; omega
  rw [e]
  unfold TX
  rw [List.cons_append, List.set_cons_succ, List.cons_append, List.set_cons_zero, List.length_append, List.length_singleton, rfs_succ]
  simp
theorem cntRow_set (r : List Int) (i : Nat) (v : Int) : cntRow (r.set i v) ≤ cntRow r + 1 := by
  unfold cntRow
  induction r generalizing i with
  | nil => simp
  | cons x r ih =>
    cases i with
    | zero =>
      simp only [List.set_cons_zero, List.filter_cons]
      split <;> split <;> simp <;> omega
    | succ i =>
      simp only [List.set_cons_succ, List.filter_cons]
      have := ih i
      split <;> simp <;> omega
theorem cntRow_pos {r : List Int} {i : Nat} {v : Int} (h : i < r.length) (hv : 0 ≤ v ∧ v ≤ 99) : 1 ≤ cntRow (r.set i v) := by
  unfold cntRow
  have hm : v ∈ (r.set i v).filter is0 := by
    rw [List.mem_filter]
    exact ⟨List.mem_set h v, by simp [is0, hv]⟩
  exact List.length_pos_of_mem hm
theorem cntRow_rep (w : Nat) (v : Int) (h : v < 0) : cntRow (List.replicate w v) = 0 := by
  unfold cntRow
  rw [List.length_eq_zero_iff, List.filter_eq_nil_iff]
  intro x hx
  rw [List.eq_of_mem_replicate hx]
  simp [is0]; omega

-- E2.lean
theorem rangeVs_nil (b : Int) : rangeVs b b = [] := by simp [rangeVs]
theorem rangeVs_cons {a b : Int} (h : a < b) : rangeVs a b = .d (.int a) :: rangeVs (a + 1) b := by
  unfold rangeVs
  have e : (b - a).toNat = (b - (a + 1)).toNat + 1 := by omega
  rw [e, List.range_succ_eq_map, List.map_cons, List.map_map]
  refine congr (congrArg List.cons ?_) ?_
  · simp
  · apply List.map_congr_left
    intro k _
    simp only [Function.comp]
    congr 2
    omega
structure LX (w a : Nat) (X : List (List Int)) : Prop where
  l : X.length * w ≤ a + w - 1
  z : 0 < a → 0 < X.length
  c : 0 < a → 1 ≤ (X.map cntRow).sum
  m : (X.map cntRow).sum ≤ a
  r : ∀ r ∈ X, r.length = w ∧ ∀ n ∈ r, -2 ≤ n ∧ n ≤ 99
theorem mul_one {v : Int} {w : Nat} (h : w ≤ 1000) : binD .mul (.list [.int v]) (.int (w : Nat)) = some (.list ((List.replicate w v).map PyData.int)) := by
  simp only [binD]
  rw [if_pos ⟨by omega, by omega, by simp⟩]
  congr 2
  rw [Int.toNat_natCast, List.map_replicate]
  induction w with
  | zero => rfl
  | succ w ih => rw [List.replicate_succ, List.flatten_cons, ih (by omega)]; rfl
theorem LX.nil (w : Nat) : LX w 0 [] := ⟨by simp, by omega, by omega, by simp, by simp⟩
theorem LX.app {w a : Nat} {X : List (List Int)} (h : LX w a X) (hw : 3 ≤ w ∧ w ≤ 4) (hm : a % w = 0) : (X ++ [List.replicate w (-2 : Int)]).length * w ≤ a + 1 + w - 1 ∧ ∀ r ∈ X ++ [List.replicate w (-2 : Int)], r.length = w ∧ ∀ n ∈ r, -2 ≤ n ∧ n ≤ 99 := by
  refine ⟨?_, fun r hr => ?_⟩
  · have := h.l
    rw [List.length_append, List.length_singleton]
    have : w = 3 ∨ w = 4 := by omega
    rcases this with rfl | rfl <;> omega
  · rcases List.mem_append.mp hr with z | z
    · exact h.r r z
    · rw [List.mem_singleton.mp z]
      refine ⟨by simp, fun n hn => ?_⟩
      rw [List.eq_of_mem_replicate hn]; omega
theorem sum_set (X : List (List Int)) : ∀ (i : Nat) (r : List Int) (q : List Int), X[i]? = some q → cntRow r ≤ cntRow q + 1 → ((X.set i r).map cntRow).sum ≤ (X.map cntRow).sum + 1 ∧ cntRow r ≤ ((X.set i r).map cntRow).sum := by
  induction X with
  | nil => intro i r q h; simp at h
  | cons x X ih =>
    intro i r q h hc
    cases i with
    | zero =>
      simp at h
      subst h
      simp only [List.set_cons_zero, List.map_cons, List.sum_cons]
      omega
    | succ i =>
      have := ih i r q (by simpa using h) hc
      simp only [List.set_cons_succ, List.map_cons, List.sum_cons]
      omega
/-- a row's place is set -/
theorem LX.set {w a j : Nat} {X : List (List Int)} {q : List Int} {v : Int} (hl : X.length * w ≤ a + 1 + w - 1) (hr : ∀ r ∈ X, r.length = w ∧ ∀ n ∈ r, -2 ≤ n ∧ n ≤ 99) (hm : (X.map cntRow).sum ≤ a) (hq : X[X.length - 1]? = some q) (hj : j < w) (hv : 0 ≤ v ∧ v ≤ 99) : LX w (a + 1) (X.set (X.length - 1) (q.set j v)) := by
  have hlt := (List.getElem?_eq_some_iff.mp hq).1
  have hqr := hr q (List.mem_of_getElem? hq)
  have s := sum_set X (X.length - 1) (q.set j v) q hq (cntRow_set q j v)
  have c1 := cntRow_pos (r := q) (i := j) (v := v) (by rw [hqr.1]; exact hj) hv
  refine ⟨by rw [List.length_set]; exact hl, fun _ => by rw [List.length_set]; omega, fun _ => by omega, by omega, fun r h => ?_⟩
  rcases List.mem_or_eq_of_mem_set h with z | z
  · exact hr r z
  · subst z
    refine ⟨by rw [List.length_set]; exact hqr.1, fun n hn => ?_⟩
    rcases List.mem_or_eq_of_mem_set hn with z | z
    · exact hqr.2 n z
    · rw [z]; omega
theorem last_rf {S : Sto} {n L m : Nat} {T : Sto} (h : stGet S m = some (.lst (.ref n :: rfs n (L + 1)))) : ixV S (.ref m) (.int (-1)) = some (.ref (n + 2 + L)) := by
  have e : (Val.ref n :: rfs n (L + 1)).length = L + 2 := by simp [rfs]
  have e2 : ixOf (L + 2) (-1) = some (L + 1) := by unfold ixOf; simp; omega
  have e3 : (Val.ref n :: rfs n (L + 1))[L + 1]? = some (.ref (n + 2 + L)) := by
    rw [List.getElem?_cons_succ]
    unfold rfs
    rw [List.getElem?_map, List.getElem?_range (by omega)]; rfl
  simp only [ixV, h, atD, e, e2, Option.bind_some, e3]
theorem loose_turns (k : Nat) {p m w : Nat} {S : Sto} (hp : Pn p S) (hw : 3 ≤ w ∧ w ≤ 4) (hm : 2 ≤ m ∧ m ≤ 6) {D' : En} {St0 : Sto} {env : MS.Env} (e0 : env = [some (.ref p), some (.ref (S.length + 1)), none, none, some (.d (.int (m : Nat))), some (.d (.int (w : Nat))), none, none, none, none, none]) (e1 : St0 = S ++ TX S.length w [])
    (q : ∀ X S1 a2 a6, Gen p S S1 → Pn p S1 → LX w m X → D'.nx [some (.ref p), some (.ref (S.length + 1)), a2, none, some (.d (.int (m : Nat))), some (.d (.int (w : Nat))), a6, none, none, none, none] (S1 ++ TX S1.length w X)) :
    Z (xS Gl (MS.run Gl Pr (k + 1)) (.fors (.name 2) (.range1 (.var 4)) (.cons (.ifs (.cmp .eq (.bin .mod (.var 2) (.var 5)) (.int 0)) (.cons (.app (.var 1) (.newc (.bin .mul (.lst (.cons (.neg (.int 2)) .nil)) (.var 5)))) .nil) .nil)
    (.cons (.set 6 (.lst (.cons (.bin .add (.int 1) (.call 44 (.cons (.var 0) (.cons (.int 3) .nil)))) (.cons (.call 44 (.cons (.var 0) (.cons (.int 30) .nil))) .nil))))
    (.cons (.setix (.ix (.var 1) (.neg (.int 1))) (.bin .mod (.var 2) (.var 5)) (.ix (.var 6) (.bi .int (.cmp .eq (.call 44 (.cons (.var 0) (.cons (.int 4) .nil))) (.int 0)))))
    .nil)))) env St0) D' := by
  subst e0 e1
  refine zws_for ?_
  repeat fail
  refine ⟨⟨by omega, by omega⟩, ?_⟩
  refine ⟨fun xs env S' => ∃ (a : Nat) (X : List (List Int)) (S1 : Sto) (a2 a6 : Option Val), xs = rangeVs (a : Nat) (m : Nat) ∧ a ≤ m ∧ Gen p S S1 ∧ Pn p S1 ∧ LX w a X ∧ S' = S1 ++ TX S1.length w X ∧ env = [some (.ref p), some (.ref (S.length + 1)), a2, none, some (.d (.int (m : Nat))), some (.d (.int (w : Nat))), a6, none, none, none, none], ?_, ?_, ?_⟩
  · exact ⟨0, [], S, none, none, rfl, by omega, Gen.refl hp, hp, LX.nil w, rfl, rfl⟩
  · intro x xs env S' ⟨a, X, S1, a2, a6, e1, ha, g, hp1, hX, e2, e3⟩
    have hl1 : S1.length = S.length := g.len
    have hlt : (a : Int) < (m : Int) := by
      by_cases z : a = m
      · subst z; rw [rangeVs_nil] at e1; cases e1
      · omega
    rw [rangeVs_cons hlt] at e1
    injection e1 with f1 f2
    subst f1 e2 e3
    refine ⟨_, rfl, ?_⟩
    repeat fail
    refine ⟨_, _, _, rfl, rfl, binD_mod (by omega), ?_⟩
    repeat fail
    -- the row, there already or new
    have nxt : ∀ (X' : List (List Int)), X'.length * w ≤ a + 1 + w - 1 → (∀ r ∈ X', r.length = w ∧ ∀ n ∈ r, -2 ≤ n ∧ n ≤ 99) → (X'.map cntRow).sum ≤ a → 0 < X'.length →
        Z (xSs Gl (MS.run Gl Pr (k + 1)) (.cons (.set 6 (.lst (.cons (.bin .add (.int 1) (.call 44 (.cons (.var 0) (.cons (.int 3) .nil)))) (.cons (.call 44 (.cons (.var 0) (.cons (.int 30) .nil))) .nil))))
    (.cons (.setix (.ix (.var 1) (.neg (.int 1))) (.bin .mod (.var 2) (.var 5)) (.ix (.var 6) (.bi .int (.cmp .eq (.call 44 (.cons (.var 0) (.cons (.int 4) .nil))) (.int 0)))))
    .nil)) [some (.ref p), some (.ref (S.length + 1)), some (.d (.int (a : Nat))), none, some (.d (.int (m : Nat))), some (.d (.int (w : Nat))), a6, none, none, none, none] (S1 ++ TX S1.length w X'))
          (D'.turn (fun env S' => ∃ (a : Nat) (X : List (List Int)) (S1 : Sto) (a2 a6 : Option Val), xs = rangeVs (a : Nat) (m : Nat) ∧ a ≤ m ∧ Gen p S S1 ∧ Pn p S1 ∧ LX w a X ∧ S' = S1 ++ TX S1.length w X ∧ env = [some (.ref p), some (.ref (S.length + 1)), a2, none, some (.d (.int (m : Nat))), some (.d (.int (w : Nat))), a6, none, none, none, none]) (S ++ TX S.length w []) []) := by
      intro X' hl' hr' hm' hz'
      repeat fail
      refine W.call (draw_ap2 _ hp1 (TX_pure hp1.pu) (by decide) (by decide)) fun v S2 ⟨r2, T2, e, r20, r21, g2, hp2, hu2, eS⟩ => ?_
      subst e eS
      repeat fail
      refine W.call (draw_ap2 _ hp2 hu2 (by decide) (by decide)) fun v S3 ⟨r3, T3, e, r30, r31, g3, hp3, hu3, eS⟩ => ?_
      subst e eS
      repeat fail
      refine W.call (draw_ap2 _ hp3 hu3 (by decide) (by decide)) fun v S4 ⟨r4, T4, e, r40, r41, g4, hp4, hu4, eS⟩ => ?_
      subst e eS
      have l4 : T4.length = S1.length := by rw [g4.len, g3.len, g2.len]
      rw [← l4]
      obtain ⟨L, hL⟩ : ∃ L, X'.length = L + 1 := ⟨X'.length - 1, by omega⟩
      obtain ⟨q, hq⟩ : ∃ q, X'[X'.length - 1]? = some q := ⟨X'[X'.length - 1], List.getElem?_eq_getElem (by omega)⟩
      have hq' : X'[L]? = some q := by rw [hL] at hq; simpa using hq
      have hql := (hr' q (List.mem_of_getElem? hq)).1
      have gR : stGet (T4 ++ TX T4.length w X') (S.length + 1) = some (.lst (.ref T4.length :: rfs T4.length (L + 1))) := by
        have := TX_rows (S := T4) (T := []) (w := w) (X := X')
        rw [List.append_nil, hL, l4, hl1] at this
        rw [l4, hl1]; exact this
      have gQ : stGet (T4 ++ TX T4.length w X') (T4.length + 2 + L) = some (iv q) := by
        have := TX_row (S := T4) (T := []) (w := w) hq'
        rw [List.append_nil] at this; exact this
      have hj : (a : Int) % (w : Int) = ((a % w : Nat) : Int) := by omega
      have hjl : a % w < w := Nat.mod_lt _ (by omega)
      have fin : ∀ v : Int, 0 ≤ v ∧ v ≤ 99 → ∃ (a' : Nat) (X : List (List Int)) (S1' : Sto) (a2 a6' : Option Val), xs = rangeVs (a' : Nat) (m : Nat) ∧ a' ≤ m ∧ Gen p S S1' ∧ Pn p S1' ∧ LX w a' X ∧ (T4 ++ TX T4.length w X').set (T4.length + 2 + L) (some (.lst (((q.map PyData.int).map Val.d).set (a % w) (.d (.int v))))) = S1' ++ TX S1'.length w X ∧ ([some (.ref p), some (.ref (S.length + 1)), some (.d (.int (a : Nat))), none, some (.d (.int (m : Nat))), some (.d (.int (w : Nat))), some (.d (.list [.int (1 + r2), .int r3])), none, none, none, none] : MS.Env) = [some (.ref p), some (.ref (S.length + 1)), a2, none, some (.d (.int (m : Nat))), some (.d (.int (w : Nat))), a6', none, none, none, none] := by
        intro v hv
        refine ⟨a + 1, X'.set (X'.length - 1) (q.set (a % w) v), T4, _, _, ?_, by omega, ((g.trans g2).trans g3).trans g4, hp4, LX.set hl' hr' hm' hq hjl hv, ?_, rfl⟩
        · rw [f2]; congr 1
        · have es : ((q.map PyData.int).map Val.d).set (a % w) (.d (.int v)) = ((q.set (a % w) v).map PyData.int).map Val.d := by rw [← List.map_set, ← List.map_set]
          rw [es]
          have := TX_set (S := T4) (w := w) (i := L) (X := X') (r := q.set (a % w) v) (by omega)
          rw [this, hL]
          simp
      repeat fail
      by_cases h4 : r4 = 0
      · subst h4
        repeat fail
        refine ⟨_, _, rfl, last_rf (T := []) gR, ?_⟩
        repeat fail
        refine ⟨_, _, _, rfl, rfl, binD_mod (by omega), ?_⟩
        refine ⟨_, _, _, a % w, rfl, rfl, gQ, ?_, ?_⟩
        · rw [hj]
          simp only [List.length_map, hql]
          exact ixOf_nat hjl
        · repeat fail
          exact fin _ ⟨by omega, by omega⟩
      · have h4' : PyData.eqv (.int r4) (.int 0) = false := by rw [eqv_int]; exact decide_eq_false h4
        rw [h4']
        repeat fail
        refine ⟨_, _, rfl, last_rf (T := []) gR, ?_⟩
        repeat fail
        refine ⟨_, _, _, rfl, rfl, binD_mod (by omega), ?_⟩
        refine ⟨_, _, _, a % w, rfl, rfl, gQ, ?_, ?_⟩
        · rw [hj]
          simp only [List.length_map, hql]
          exact ixOf_nat hjl
        · repeat fail
          exact fin _ ⟨by omega, by omega⟩
    refine zif (fun h1 => ?_) (fun h1 => ?_)
    · have h1' : a % w = 0 := by
        rw [eqv_int] at h1
        have := of_decide_eq_true h1
        omega
      repeat fail
      refine ⟨?_, ?_⟩
      · have := TX_rows (S := S1) (T := []) (w := w) (X := X)
        rw [List.append_nil, hl1] at this
        rw [hl1]
        show (match stGet (S1 ++ TX S.length w X) (S.length + 1) with | some (.lst _) => true | _ => false) = true
        rw [this]
      repeat fail
      refine ⟨_, _, _, rfl, rfl, mul_one (by omega), ?_⟩
      repeat fail
      refine ⟨_, .ref S1.length :: rfs S1.length X.length, rfl, ?_, ?_, ?_⟩
      · have := TX_rows (S := S1) (T := [some (iv (List.replicate w (-2)))]) (w := w) (X := X)
        rw [hl1] at this
        rw [List.append_assoc, hl1]; exact this
      · have : (Val.ref S1.length :: rfs S1.length X.length).length = X.length + 1 := by simp [rfs]
        rw [this]
        have := hX.l
        have : w = 3 ∨ w = 4 := by omega
        unfold sLine
        rcases this with rfl | rfl <;> omega
      · have e := TX_app (S := S1) (w := w) (X := X) (r := List.replicate w (-2))
        have e2 : ((S1 ++ TX S1.length w X) ++ [some (iv (List.replicate w (-2)))]).set (S.length + 1) (some (.lst ((.ref S1.length :: rfs S1.length X.length) ++ [.ref (S1 ++ TX S1.length w X).length]))) = S1 ++ TX S1.length w (X ++ [List.replicate w (-2)]) := by rw [← hl1]; exact e
        rw [e2]
        obtain ⟨q1, q2⟩ := hX.app hw h1'
        refine zws_nil ?_
        refine nxt _ q1 q2 ?_ (by simp)
        rw [List.map_append, List.sum_append, List.map_singleton, cntRow_rep _ _ (by omega)]
        have := hX.m
        simpa using this
    · have h1' : ¬ a % w = 0 := by
        rw [eqv_int] at h1
        have := of_decide_eq_false h1
        omega
      have ha0 : 0 < a := by
        cases a with
        | zero => simp at h1'
        | succ a => omega
      refine zws_nil ?_
      refine nxt X ?_ hX.r hX.m (hX.z ha0)
      have := hX.l
      omega
  · intro env S' ⟨a, X, S1, a2, a6, e1, ha, g, hp1, hX, e2, e3⟩
    have hae : a = m := by
      by_cases z : a < m
      · rw [rangeVs_cons (by omega)] at e1; cases e1
      · omega
    subst hae e2 e3
    exact q X S1 a2 a6 g hp1 hX

-- E3.lean
def gRow (S : Sto) : Val → Option D
  | .ref n => biV S .tuple (.ref n)
  | _ => none
theorem gRow_map {S : Sto} : ∀ {rows : List (Nat × List Int)}, (∀ q ∈ rows, stGet S q.1 = some (iv q.2)) → (rows.map fun q => Val.ref q.1).filterMap (gRow S) = (rows.map (·.2)).map rowD
  | [], _ => rfl
  | q :: rows, h => by
    have e : gRow S (.ref q.1) = some (rowD q.2) := by
      simp only [gRow, biV, view_ref (h q (by simp)), Option.bind_some, biD]
    rw [List.map_cons, List.filterMap_cons, e, gRow_map fun r hr => h r (by simp [hr])]
    rfl
theorem eq_nil_cl {cs : List Cl} : cmpD .eq (.list (cs.map cD)) (.list []) = some (decide (cs = [])) := by
  show eqD _ _ = _
  unfold eqD
  split
  · cases cs with
    | nil => rfl
    | cons p l => rfl
  · cases cs with
    | nil => rfl
    | cons p l => rfl
/-- claims in the order of their holders, one each -/
structure Lc (j : Int) (cs : List Cl) : Prop where
  l : (cs.length : Int) ≤ j
  b : ∀ c ∈ cs, 0 ≤ c.1 ∧ c.1 < j ∧ c.2.1 = 0 ∧ 1 ≤ c.2.2 ∧ c.2.2 ≤ 3
  p : cs.Pairwise pLt
theorem Lc.step {j m : Int} {cs : List Cl} (h : Lc j cs) (hj : 0 ≤ j) (hm : 1 ≤ m ∧ m ≤ 3) : Lc (j + 1) (cs ++ [(j, 0, m)]) := by
  refine ⟨by have := h.l; simp; omega, fun c hc => ?_, ?_⟩
  · rcases List.mem_append.mp hc with z | z
    · have := h.b c z; omega
    · rw [List.mem_singleton.mp z]; exact ⟨hj, by show j < j + 1; omega, rfl, hm⟩
  · rw [List.pairwise_append]
    refine ⟨h.p, List.pairwise_singleton _ _, fun a ha b hb => ?_⟩
    rw [List.mem_singleton.mp hb]
    exact .inl (h.b a ha).2.1
theorem Lc.skip {j : Int} {cs : List Cl} (h : Lc j cs) : Lc (j + 1) cs := ⟨by have := h.l; omega, fun c hc => by have := h.b c hc; omega, h.p⟩
theorem take3_lst {α : Type} (xs : List α) : cut xs none (some 3) = xs.take 3 := cut_take (by decide)
theorem loose_end (k : Nat) {p : Nat} {S U : Sto} (hp : Pn p S) (hU : PureS (S ++ U)) {rf : Nat} {rows : List (Nat × List Int)} (h1 : ∀ S' : Sto, S'.length = S.length → stGet (S' ++ U) rf = some (.lst (rows.map fun q => .ref q.1))) (h2 : ∀ S' : Sto, S'.length = S.length → ∀ q ∈ rows, rf ≠ q.1 ∧ stGet (S' ++ U) q.1 = some (iv q.2))
    (hg : goodRows (rows.map (·.2)) = true) {a2 a4 a5 a6 : Option Val} {D' : En}
    (q : ∀ cu cs od S1, GPe (rows.map (·.2)) cu cs od → cs.length ≤ 3 → Gen p S S1 → D'.rt (.d (peD (rows.map (·.2)) cu cs od)) (S1 ++ U)) :
    Z (xSs Gl (MS.run Gl Pr (k + 1)) (.cons (.setc 3 (.comp [9] (.name 9) (.range1 (.int 4)) (.cons (.cmp .eq (.call 44 (.cons (.var 0) (.cons (.int 2) .nil))) (.int 0)) .nil) (.tup (.cons (.var 9) (.cons (.int 0) (.cons (.bin .add (.int 1) (.call 44 (.cons (.var 0) (.cons (.int 3) .nil)))) .nil))))))
    (.cons (.ifs (.cmp .eq (.var 3) (.lst .nil)) (.cons (.set 3 (.lst (.cons (.tup (.cons (.call 44 (.cons (.var 0) (.cons (.int 4) .nil))) (.cons (.int 0) (.cons (.int 2) .nil)))) .nil)))
    .nil) .nil)
    (.cons (.par [7, 8] (.cons (.bi .tuple (.comp [10] (.name 10) (.over (.var 1)) .nil (.bi .tuple (.var 10)))) (.cons (.ix (.lst (.cons (.int 4) (.cons (.int 9) (.cons (.int 999) .nil)))) (.call 44 (.cons (.var 0) (.cons (.int 3) .nil)))) .nil)))
    (.cons (.ret (.tup (.cons (.var 7) (.cons (.tup (.cons (.bin .add (.int 1) (.call 44 (.cons (.var 0) (.cons (.int 3) .nil)))) .nil)) (.cons (.bi .tuple (.sl (.var 3) .no (.yes (.int 3)))) (.cons (.var 8) .nil))))))
    .nil)))) [some (.ref p), some (.ref rf), a2, none, a4, a5, a6, none, none, none, none] (S ++ U)) D' := by
  repeat fail
  refine ⟨⟨by decide, by decide⟩, ?_⟩
  refine zwp_compL (I := fun xs acc S' => ∃ (j : Int) (cs : List Cl) (S1 : Sto), xs = rangeVs j 4 ∧ 0 ≤ j ∧ j ≤ 4 ∧ acc = cs.map cD ∧ Lc j cs ∧ Gen p S S1 ∧ Pn p S1 ∧ PureS (S1 ++ U) ∧ S' = S1 ++ U) ⟨0, [], S, rfl, by omega, by omega, rfl, ⟨by simp, by simp, .nil⟩, Gen.refl hp, hp, hU, rfl⟩ (fun x r acc S' ⟨j, cs, S1, e1, j0, j4, e2, hc, g, hp1, hU1, e3⟩ => ?_) (fun acc S' ⟨j, cs, S1, e1, j0, j4, e2, hc, g, hp1, hU1, e3⟩ => ?_)
  · have hlt : j < 4 := by
      by_cases z : j = 4
      · subst z; rw [rangeVs_nil] at e1; cases e1
      · omega
    rw [rangeVs_cons hlt] at e1
    injection e1 with f1 f2
    subst f1 e2 e3
    refine zwp_turn rfl ?_
    repeat fail
    refine W.call (draw_ap2 _ hp1 hU1 (by decide) (by decide)) fun v S2 ⟨r2, T2, e, r20, r21, g2, hp2, hU2, eS⟩ => ?_
    subst e eS
    repeat fail
    refine zif (fun h => ?_) (fun h => ?_)
    · repeat fail
      refine W.call (draw_ap2 _ hp2 hU2 (by decide) (by decide)) fun v S3 ⟨r3, T3, e, r30, r31, g3, hp3, hU3, eS⟩ => ?_
      subst e eS
      repeat fail
      exact ⟨j + 1, cs ++ [(j, 0, 1 + r3)], T3, f2, by omega, by omega, by simp, hc.step j0 (by omega), (g.trans g2).trans g3, hp3, hU3, rfl⟩
    · exact ⟨j + 1, cs, T2, f2, by omega, by omega, rfl, hc.skip, g.trans g2, hp2, hU2, rfl⟩
  · have hj : j = 4 := by
      by_cases z : j < 4
      · rw [rangeVs_cons z] at e1; cases e1
      · omega
    subst hj e2 e3
    -- the end, whichever claims
    have fin : ∀ (cs : List Cl) (S1 : Sto), 1 ≤ cs.length → Lc 4 cs → Gen p S S1 → Pn p S1 → PureS (S1 ++ U) →
        Z (xSs Gl (MS.run Gl Pr (k + 1)) (.cons (.par [7, 8] (.cons (.bi .tuple (.comp [10] (.name 10) (.over (.var 1)) .nil (.bi .tuple (.var 10)))) (.cons (.ix (.lst (.cons (.int 4) (.cons (.int 9) (.cons (.int 999) .nil)))) (.call 44 (.cons (.var 0) (.cons (.int 3) .nil)))) .nil)))
    (.cons (.ret (.tup (.cons (.var 7) (.cons (.tup (.cons (.bin .add (.int 1) (.call 44 (.cons (.var 0) (.cons (.int 3) .nil)))) .nil)) (.cons (.bi .tuple (.sl (.var 3) .no (.yes (.int 3)))) (.cons (.var 8) .nil))))))
    .nil)) [some (.ref p), some (.ref rf), a2, some (.d (.list (cs.map cD))), a4, a5, a6, none, none, none, none] (S1 ++ U)) D' := by
      intro cs S1 hl hc g hp1 hU1
      have hl1 : S1.length = S.length := g.len
      repeat fail
      refine ⟨_, items_ref (h1 S1 hl1), ?_⟩
      repeat fail
      refine zcomp_map (g := gRow (lockS (S1 ++ U) [rf])) (fun x hx => ?_) ?_
      · obtain ⟨q, hq, rfl⟩ := List.mem_map.mp hx
        obtain ⟨q1, q2⟩ := h2 S1 hl1 q hq
        have q3 : stGet (lockS (S1 ++ U) [rf]) q.1 = some (iv q.2) := by
          show stGet ((S1 ++ U).set rf none) q.1 = _
          rw [stGet_ne q1]; exact q2
        have q4 : biV (lockS (S1 ++ U) [rf]) .tuple (.ref q.1) = some (rowD q.2) := by simp only [biV, view_ref q3, Option.bind_some, biD]
        refine zwp_turn rfl ?_
        repeat fail
        refine ⟨_, q4, ?_⟩
        repeat fail
        exact ⟨q4.symm, rfl⟩
      · rw [gRow_map (S := lockS (S1 ++ U) [rf]) (rows := rows) fun q hq => by
          obtain ⟨q1, q2⟩ := h2 S1 hl1 q hq
          show stGet ((S1 ++ U).set rf none) q.1 = _
          rw [stGet_ne q1]; exact q2]
        rw [unlock1 (h1 S1 hl1)]
        repeat fail
        refine W.call (draw_ap2 _ hp1 hU1 (by decide) (by decide)) fun v S2 ⟨r2, T2, e, r20, r21, g2, hp2, hU2, eS⟩ => ?_
        subst e eS
        obtain ⟨od, hod, ho⟩ : ∃ od : Int, ixV (T2 ++ U) (.d (.list [.int 4, .int 9, .int 999])) (.int r2) = some (.d (.int od)) ∧ 0 ≤ od ∧ od ≤ 999 := by
          have : r2 = 0 ∨ r2 = 1 ∨ r2 = 2 := by omega
          rcases this with rfl | rfl | rfl
          · exact ⟨4, rfl, by omega⟩
          · exact ⟨9, rfl, by omega⟩
          · exact ⟨999, rfl, by omega⟩
        refine ⟨_, _, rfl, hod, ?_⟩
        repeat fail
        refine W.call (draw_ap2 _ hp2 hU2 (by decide) (by decide)) fun v S3 ⟨r3, T3, e, r30, r31, g3, hp3, hU3, eS⟩ => ?_
        subst e eS
        repeat fail
        rw [take3_lst, ← List.map_take]
        have hs : (cs.take 3).Sublist cs := List.take_sublist _ _
        refine q [1 + r3] (cs.take 3) od T3 ⟨hg, ⟨by simp, by simp, by simp; omega⟩, ⟨?_, ?_, fun c hc' => ?_, hc.p.sublist hs, by simp⟩, ho⟩ (by simp; omega) ((g.trans g2).trans g3)
        · simp; omega
        · simp; omega
        · have := hc.b c (hs.subset hc')
          simp; omega
    have hl1 : S1.length = S.length := g.len
    refine zws_cons ?_
    refine zws_if ?_
    repeat fail
    refine ⟨_, _, _, rfl, rfl, eq_nil_cl, ?_⟩
    repeat fail
    refine zif (fun h => ?_) (fun h => ?_)
    · repeat fail
      refine W.call (draw_ap2 _ hp1 hU1 (by decide) (by decide)) fun v S2 ⟨r2, T2, e, r20, r21, g2, hp2, hU2, eS⟩ => ?_
      subst e eS
      iterate 9 fail
      have h' : cs = [] := of_decide_eq_true h
      subst h'
      exact fin [(r2, 0, 2)] T2 (by simp) ⟨by simp, by simp; omega, List.pairwise_singleton _ _⟩ (g.trans g2) hp2 hU2
    · refine zws_nil ?_
      have h' : ¬ cs = [] := of_decide_eq_false h
      exact fin cs S1 (by cases cs with | nil => exact absurd rfl h' | cons _ _ => simp) hc g hp1 hU1
theorem rows_good {w m : Nat} {X : List (List Int)} {rs : List (List Int)} (hw : 3 ≤ w ∧ w ≤ 4) (hm : 2 ≤ m ∧ m ≤ 6) (hX : LX w m X) (hr : rs.Perm (List.replicate w (-1) :: X)) (hl : X.length ≤ 2) : goodRows rs = true ∧ (plP 0 99 rs).length ≤ 6 := by
  have hlen : rs.length = X.length + 1 := by rw [hr.length_eq]; simp
  have hall : ∀ r ∈ rs, r.length = w ∧ ∀ n ∈ r, -2 ≤ n ∧ n ≤ 99 := by
    intro r h
    rcases List.mem_cons.mp (hr.mem_iff.mp h) with z | z
    · rw [z]
      refine ⟨by simp, fun n hn => ?_⟩
      rw [List.eq_of_mem_replicate hn]; omega
    · exact hX.r r z
  have hc : (rs.map cntRow).sum = (X.map cntRow).sum := by
    have := (hr.map cntRow).sum_nat
    rw [this, List.map_cons, List.sum_cons, cntRow_rep _ _ (by omega)]
    omega
  have hcnt : cnt rs = (X.map cntRow).sum := by unfold cnt; rw [plL_len, hc]
  have h1 := hX.c (by omega)
  have h2 := hX.m
  refine ⟨?_, ?_⟩
  · unfold goodRows
    simp only [Bool.and_eq_true, decide_eq_true_eq, List.all_eq_true]
    refine ⟨⟨⟨by omega, by omega⟩, fun r h => ?_⟩, by omega, by omega⟩
    have hh : (rs.headD []).length = w := by
      cases rs with
      | nil => cases h
      | cons r0 rs => exact (hall r0 (by simp)).1
    obtain ⟨a, b⟩ := hall r h
    unfold rowGood
    simp only [Bool.and_eq_true, decide_eq_true_eq, List.all_eq_true]
    refine ⟨⟨⟨by omega, by omega⟩, by omega⟩, fun n hn => ?_⟩
    have := b n hn
    simp [inSpan, this]
  · unfold plP
    rw [List.length_map, plL_len, hc]; omega
theorem law_loose_run (k : Nat) {p : Nat} {S : Sto} (hp : Pn p S) : W (MS.run Gl Pr (k + 2) 50 [.ref p] S) noX fun v S' => ∃ rs cu cs od, v = .d (peD rs cu cs od) ∧ GPe rs cu cs od ∧ (plP 0 99 rs).length ≤ 6 ∧ cs.length ≤ 3 ∧ Gen p S S' := by
  refine zwp_run (f := f_law_loose) rfl rfl ?_
  unfold f_law_loose
  repeat fail
  refine W.call (draw_run _ hp (by decide) (by decide)) fun v S1 ⟨r1, e, r10, r11, g1⟩ => ?_
  subst e
  have hp1 := g1.pn hp
  repeat fail
  refine W.call (draw_run _ hp1 (by decide) (by decide)) fun v S2 ⟨r2, e, r20, r21, g2⟩ => ?_
  subst e
  have hp2 := g2.pn hp1
  obtain ⟨m, hm, hm2⟩ : ∃ m : Nat, (2 + r1 : Int) = (m : Nat) ∧ 2 ≤ m ∧ m ≤ 6 := ⟨(2 + r1).toNat, by omega, by omega, by omega⟩
  obtain ⟨w, hw, hw2⟩ : ∃ w : Nat, (3 + r2 : Int) = (w : Nat) ∧ 3 ≤ w ∧ w ≤ 4 := ⟨(3 + r2).toNat, by omega, by omega, by omega⟩
  repeat fail
  rw [hm, hw]
  refine ⟨_, _, _, rfl, rfl, mul_one (by omega), ?_⟩
  repeat fail
  refine loose_turns _ hp2 hw2 hm2 (by simp) (by simp [TX, rfs]) fun X S3 a2 a6 g3 hp3 hX => ?_
  have hl3 : S3.length = S2.length := g3.len
  have gen : ∀ {S' : Sto}, Gen p S3 S' → Gen p S S' := fun g => ((g1.trans g2).trans g3).trans g
  have cutE : ∀ {S' U : Sto} {v : Val}, (∀ n, v ≠ .ref n) → Gen p S3 S' → cutS S.length v (S' ++ U) = S' := fun {S' U v} hv g => by
    have hl : S.length = S'.length := by rw [(gen g).len]
    rw [hl]
    exact cutS_app hv ((gen g).pn hp).pu rfl
  have hR : stGet (S3 ++ TX S3.length w X) (S2.length + 1) = some (.lst (.ref S3.length :: rfs S3.length X.length)) := by
    have := TX_rows (S := S3) (T := []) (w := w) (X := X)
    rw [List.append_nil] at this
    rw [← hl3]; exact this
  have hl1 := hX.z (by omega)
  have hl2 : X.length ≤ 2 := by
    have := hX.l
    have : w = 3 ∨ w = 4 := by omega
    rcases this with rfl | rfl <;> omega
  refine zws_cons ?_
  refine zws_if ?_
  repeat fail
  refine ⟨_, bi_len_ref' hR, ?_⟩
  repeat fail
  match X, hX, hl1, hl2, hR with
  | [A], hX, _, _, hR =>
    refine zif_f rfl ?_
    refine zws_nil ?_
    have hg := rows_good (rs := [List.replicate w (-1), A]) hw2 hm2 hX (List.Perm.refl _) (by simp)
    refine loose_end (rows := [(S3.length, List.replicate w (-1)), (S3.length + 2, A)]) _ hp3 (TX_pure hp3.pu) (fun S' hS' => ?_) (fun S' hS' q hq => ?_) hg.1 (fun cu cs od S4 hG h3 g4 => ?_)
    · have := TX_rows (S := S') (T := []) (w := w) (X := [A])
      rw [List.append_nil, hS', hl3] at this
      rw [hl3]; exact this
    · simp only [List.mem_cons, List.not_mem_nil, or_false] at hq
      rcases hq with rfl | rfl
      · refine ⟨by show S2.length + 1 ≠ S3.length; omega, ?_⟩
        have := TX_first (S := S') (T := []) (w := w) (X := [A])
        rw [List.append_nil, hS'] at this
        exact this
      · refine ⟨by show S2.length + 1 ≠ S3.length + 2; omega, ?_⟩
        have := TX_row (S := S') (T := []) (w := w) (i := 0) (X := [A]) rfl
        rw [List.append_nil, hS'] at this
        exact this
    · refine ⟨_, cu, cs, od, rfl, hG, hg.2, h3, ?_⟩
      rw [cutE (fun _ z => by cases z) g4]
      exact gen g4
  | [A, B], hX, _, _, hR =>
    refine zif_t rfl ?_
    have i0 : (Val.ref S3.length :: rfs S3.length [A, B].length)[0]? = some (.ref S3.length) := rfl
    have i1 : (Val.ref S3.length :: rfs S3.length [A, B].length)[1]? = some (.ref (S3.length + 2)) := rfl
    have i2 : (Val.ref S3.length :: rfs S3.length [A, B].length)[2]? = some (.ref (S3.length + 3)) := rfl
    repeat fail
    refine ⟨_, _, rfl, ixv_ref (i := 1) hR i1, ?_⟩
    repeat fail
    refine ⟨_, _, rfl, ixv_ref (i := 0) hR i0, ?_⟩
    repeat fail
    refine ⟨_, _, rfl, ixv_ref (i := 2) hR i2, ?_⟩
    iterate 2 fail
    have hg := rows_good (rs := [A, List.replicate w (-1), B]) hw2 hm2 hX (List.Perm.swap _ _ _) (by simp)
    have eL : (S3 ++ TX S3.length w [A, B]).length = S3.length + 4 := by rw [List.length_append, TX_len]; rfl
    rw [eL]
    have hU : PureS (S3 ++ (TX S3.length w [A, B] ++ [some (.lst [.ref (S3.length + 2), .ref S3.length, .ref (S3.length + 3)])])) := by
      rw [← List.append_assoc]
      refine (TX_pure hp3.pu).appR ?_
      rw [eL]
      simp only [belowO, Ob.below, List.all_cons, List.all_nil, Val.below, Bool.and_eq_true, decide_eq_true_eq, and_true]
      omega
    show Z (xSs _ _ _ _ ((S3 ++ TX S3.length w [A, B]) ++ [some (.lst [.ref (S3.length + 2), .ref S3.length, .ref (S3.length + 3)])])) _
    rw [List.append_assoc]
    refine loose_end (rows := [(S3.length + 2, A), (S3.length, List.replicate w (-1)), (S3.length + 3, B)]) _ hp3 hU (fun S' hS' => ?_) (fun S' hS' q hq => ?_) hg.1 (fun cu cs od S4 hG h3 g4 => ?_)
    · have e1 : S3.length + 4 = (S' ++ TX S'.length w [A, B]).length := by rw [List.length_append, TX_len, hS']; rfl
      rw [e1, ← hS', ← List.append_assoc]
      exact stGet_at
    · simp only [List.mem_cons, List.not_mem_nil, or_false] at hq
      rcases hq with rfl | rfl | rfl
      · refine ⟨by show S3.length + 4 ≠ S3.length + 2; omega, ?_⟩
        have := TX_row (S := S') (T := [some (.lst [.ref (S3.length + 2), .ref S3.length, .ref (S3.length + 3)])]) (w := w) (i := 0) (X := [A, B]) rfl
        rw [hS'] at this
        exact this
      · refine ⟨by show S3.length + 4 ≠ S3.length; omega, ?_⟩
        have := TX_first (S := S') (T := [some (.lst [.ref (S3.length + 2), .ref S3.length, .ref (S3.length + 3)])]) (w := w) (X := [A, B])
        rw [hS'] at this
        exact this
      · refine ⟨by show S3.length + 4 ≠ S3.length + 3; omega, ?_⟩
        have := TX_row (S := S') (T := [some (.lst [.ref (S3.length + 2), .ref S3.length, .ref (S3.length + 3)])]) (w := w) (i := 1) (X := [A, B]) rfl
        rw [hS'] at this
        exact this
    · refine ⟨_, cu, cs, od, rfl, hG, hg.2, h3, ?_⟩
      rw [cutE (fun _ z => by cases z) g4]
      exact gen g4
  | [], _, h, _, _ => exact absurd h (by simp)
  | _ :: _ :: _ :: _, _, _, h, _ => exact absurd h (by simp)

-- E4.lean
/-! ### partings -/
abbrev paD (ps : List Int) : D := .tuple (ps.map PyData.int)
def landH (cells : List Pl) (ps : List Int) (h : Int) : List Pl := ((cells.zip ps).filter fun q => decide (q.2 = h)).map (·.1)
theorem landH_cons (c : Pl) (cells : List Pl) (o : Int) (ps : List Int) (h : Int) : landH (c :: cells) (o :: ps) h = if o = h then c :: landH cells ps h else landH cells ps h := by
  unfold landH
  rw [List.zip_cons_cons, List.filter_cons]
  by_cases e : o = h <;> simp [e]
theorem landH_sub : ∀ (cells : List Pl) (ps : List Int) (h : Int), (landH cells ps h).Sublist cells
  | [], _, _ => by simp [landH]
  | c :: cells, [], _ => by simp [landH]
  | c :: cells, o :: ps, h => by
    rw [landH_cons]
    split
    · exact (landH_sub cells ps h).cons₂ c
    · exact (landH_sub cells ps h).cons c
theorem landH_land (rs : List (List Int)) (ps : List Int) (h : Int) : Land rs (landH (plP 0 99 rs) ps h) := ⟨landH_sub _ _ _⟩
def gOwn (h : Int) : Val → Option D
  | .d (.tuple [c, .int o]) => if o = h then some c else none
  | _ => none
theorem gOwn_map (h : Int) : ∀ (cells : List Pl) (ps : List Int), (zipD (cells.map plD) (ps.map PyData.int)).filterMap (gOwn h) = (landH cells ps h).map plD
  | [], _ => by simp [zipD, landH]
  | c :: cells, [] => by simp [zipD, landH]
  | c :: cells, o :: ps => by
    have ih := gOwn_map h cells ps
    have e : zipD ((c :: cells).map plD) ((o :: ps).map PyData.int) = .d (.tuple [plD c, .int o]) :: zipD (cells.map plD) (ps.map PyData.int) := rfl
    rw [e, List.filterMap_cons, ih, landH_cons]
    simp only [gOwn]
    by_cases z : o = h <;> simp [z]
theorem zip_mem {cells : List Pl} {ps : List Int} {x : Val} (hx : x ∈ zipD (cells.map plD) (ps.map PyData.int)) : ∃ c o, x = .d (.tuple [plD c, .int o]) ∧ c ∈ cells ∧ o ∈ ps := by
  unfold zipD at hx
  obtain ⟨⟨a, b⟩, hm, rfl⟩ := List.mem_map.mp hx
  obtain ⟨h1, h2⟩ := List.of_mem_zip hm
  obtain ⟨c, hc, rfl⟩ := List.mem_map.mp h1
  obtain ⟨o, ho, rfl⟩ := List.mem_map.mp h2
  exact ⟨c, o, rfl, hc, ho⟩
theorem land_by_holder_run (k : Nat) {rs : List (List Int)} {cu : List Int} {cs : List Cl} {od h : Int} {ps : List Int} {S : Sto} (hS : PureS S) (hr : goodRows rs = true) :
    MS.run Gl Pr (k + 3) 24 [.d (peD rs cu cs od), .d (paD ps), .d (.int h)] S = .ok (.d (laD (landH (plP 0 99 rs) ps h))) S := by
  refine W.ok (zwp_run (f := f_land_by_holder) rfl rfl ?_)
  unfold f_land_by_holder
  repeat fail
  refine W.of (cells_in_run _ hS hr) ?_
  repeat fail
  refine zcomp_map (g := gOwn h) (fun x hx => ?_) ?_
  · obtain ⟨c, o, rfl, _, _⟩ := zip_mem hx
    refine zwp_turn rfl ?_
    repeat fail
    refine zif (fun h1 => ?_) (fun h1 => ?_)
    · have h1' : o = h := by rw [eqv_int] at h1; exact of_decide_eq_true h1
      repeat fail
      simp [gOwn, h1']
    · have h1' : ¬ o = h := by rw [eqv_int] at h1; exact of_decide_eq_false h1
      simp [gOwn, h1']
  · rw [gOwn_map]
    repeat fail
    exact cutS_self _ _
/-- a row of holders, one for each cell -/
structure Row (rs : List (List Int)) (cs : List Cl) (ps : List Int) : Prop where
  l : ps.length = (plP 0 99 rs).length
  m : ∀ o ∈ ps, o ∈ hsOf cs
noncomputable def partB (rs : List (List Int)) (cu : List Int) (cs : List Cl) (od : Int) (ps : List Int) : Bool := (hsOf cs).all fun h => fitB rs od (dueT rs cu cs h) (totH cu cs) (landH (plP 0 99 rs) ps h)
theorem last_le : ∀ {ns : List Int}, ns.Pairwise (· < ·) → ∀ {n : Int}, n ∈ ns → ∃ m, ns.getLast? = some m ∧ n ≤ m
  | [], _, _, h => by cases h
  | [a], _, n, h => ⟨a, rfl, by rw [List.mem_singleton.mp h]; exact Int.le_refl _⟩
  | a :: b :: ns, hp, n, h => by
    obtain ⟨h1, h2⟩ := List.pairwise_cons.mp hp
    rcases List.mem_cons.mp h with z | z
    · subst z
      obtain ⟨m, e, hm⟩ := last_le h2 (n := b) (by simp)
      refine ⟨m, by rw [List.getLast?_cons_cons]; exact e, ?_⟩
      have := h1 b (by simp); omega
    · obtain ⟨m, e, hm⟩ := last_le h2 z
      exact ⟨m, by rw [List.getLast?_cons_cons]; exact e, hm⟩
theorem ix_lastD {S : Sto} {ns : List Int} {m : Int} (e : ns.getLast? = some m) : ixV S (.d (.list (ns.map PyData.int))) (.int (-1)) = some (.d (.int m)) := by
  have hne : ns ≠ [] := fun z => by rw [z] at e; cases e
  have hl : 0 < ns.length := List.length_pos_iff.mpr hne
  have e1 : ixOf (ns.map PyData.int).length (-1) = some (ns.length - 1) := by
    unfold ixOf
    simp only [List.length_map]
    rw [if_neg (by omega), if_pos (by omega)]
    congr 1 <;> omega
  have e2 : (ns.map PyData.int)[ns.length - 1]? = some (.int m) := by
    rw [List.getElem?_map]
    rw [List.getLast?_eq_getElem?] at e
    rw [e]; rfl
  simp only [ixV, ixD, atD, e1, Option.bind_some, e2, Option.map_some]
noncomputable def fitV (rs : List (List Int)) (cu : List Int) (cs : List Cl) (od : Int) (ps : List Int) : D → D
  | .int h => .bool (fitB rs od (dueT rs cu cs h) (totH cu cs) (landH (plP 0 99 rs) ps h))
  | _ => .none
theorem fitV_map {rs : List (List Int)} {cu : List Int} {cs : List Cl} {od : Int} {ps : List Int} (hs : List Int) : (hs.map PyData.int).map (fitV rs cu cs od ps) = (hs.map fun h => fitB rs od (dueT rs cu cs h) (totH cu cs) (landH (plP 0 99 rs) ps h)).map PyData.bool := by
  rw [List.map_map, List.map_map]; rfl
theorem is_parted_run (k : Nat) {rs : List (List Int)} {cu : List Int} {cs : List Cl} {od : Int} {ps : List Int} {S : Sto} (hS : PureS S) (hp : GPe rs cu cs od) (hr : Row rs cs ps) :
    MS.run Gl Pr (k + 6) 25 [.d (peD rs cu cs od), .d (paD ps)] S = .ok (.d (.bool (partB rs cu cs od ps))) S := by
  have c10 := cells_len hp.m
  refine W.ok (zwp_run (f := f_is_parted) rfl rfl ?_)
  unfold f_is_parted
  repeat fail
  refine W.of (cells_in_run _ hS hp.m) ?_
  repeat fail
  have e1 : PyData.eqv (.int ((ps.map PyData.int).length : Nat)) (.int (((plP 0 99 rs).map plD).length : Nat)) = true := by
    rw [eqv_int, List.length_map, List.length_map, hr.l]; simp
  refine zif_f (by show (!PyData.eqv (.int ((ps.map PyData.int).length : Nat)) (.int (((plP 0 99 rs).map plD).length : Nat))) = _; rw [e1]) ?_
  repeat fail
  refine W.of (holders_in_run _ _ hp.c.l2) ?_
  repeat fail
  refine zcomp_map (g := fun _ => some (.bool true)) (fun x hx => ?_) ?_
  · obtain ⟨y, hy, rfl⟩ := List.mem_map.mp hx
    obtain ⟨o, ho, rfl⟩ := List.mem_map.mp hy
    have hom := hr.m o ho
    obtain ⟨m, em, hm⟩ := last_le (pw_srtI _) hom
    have ho3 := hold_bd hp.c hom
    refine zwp_turn rfl ?_
    repeat fail
    refine ⟨_, _, rfl, ix_lastD (ns := hsOf cs) em, ?_⟩
    repeat fail
    refine W.of (is_from_run _ _ _ _ _) ?_
    repeat fail
    refine zif_t (by show numB (.int o) 0 m = true; simp [numB, ho3, hm]) ?_
    repeat fail
    refine ⟨_, _, _, rfl, rfl, (show inD _ _ = some _ from by unfold inD; rw [if_pos (by unfold inOk; rw [lay_ints]; rfl), any_ints, decide_eq_true hom]), ?_⟩
    repeat fail
    rfl
  · refine ⟨_, all_const _ (fun x hx => ?_), ?_⟩
    · obtain ⟨y, hy, rfl⟩ := List.mem_map.mp hx
      exact ⟨_, rfl⟩
    repeat fail
    refine zcomp_map (g := gD (fitV rs cu cs od ps)) (fun x hx => ?_) ?_
    · obtain ⟨y, hy, rfl⟩ := List.mem_map.mp hx
      obtain ⟨o, ho, rfl⟩ := List.mem_map.mp hy
      have hL := landH_land rs ps o
      refine zwp_turn rfl ?_
      repeat fail
      refine W.of (land_by_holder_run _ hS hp.m) ?_
      repeat fail
      refine W.of (is_fit_run _ hS hp hL.cell (hL.len hp.m) hL.nd) ?_
      repeat fail
      rfl
    · rw [gD_map, fitV_map]
      refine ⟨.bool (partB rs cu cs od ps), ?_, ?_⟩
      · simp only [biV, view_d, Option.bind_some, biD, allB_map, Option.map_some, List.all_map]
        rfl
      · exact ⟨rfl, cutS_self _ _⟩
theorem need_parting_run (k : Nat) {rs : List (List Int)} {cu : List Int} {cs : List Cl} {od : Int} {ps : List Int} {S : Sto} (hS : PureS S) (hp : GPe rs cu cs od) (hr : Row rs cs ps) (hb : partB rs cu cs od ps = true) :
    MS.run Gl Pr (k + 7) 27 [.d (peD rs cu cs od), .d (paD ps)] S = .ok (.d .none) S := by
  refine W.ok (zwp_run (f := f_need_parting) rfl rfl ?_)
  unfold f_need_parting
  repeat fail
  refine W.of (is_parted_run _ hS hp hr) ?_
  rw [hb]
  repeat fail
  exact cutS_self _ _
/-! ### houses and ways -/
structure GHo (hs : List Pl) : Prop where
  l : hs.length = 4
  b : ∀ p ∈ hs, (-99 ≤ p.1 ∧ p.1 ≤ 99) ∧ -99 ≤ p.2 ∧ p.2 ≤ 99
theorem is_house_run (k : Nat) {p : Pl} (S : Sto) (h : (-99 ≤ p.1 ∧ p.1 ≤ 99) ∧ -99 ≤ p.2 ∧ p.2 ≤ 99) : MS.run Gl Pr (k + 2) 28 [.d (plD p)] S = .ok (.d (.bool true)) S := by
  refine W.ok (zwp_run (f := f_is_house) rfl rfl ?_)
  unfold f_is_house
  repeat fail
  refine zcomp_map (g := fun _ => some (.bool true)) (fun x hx => ?_) ?_
  · obtain ⟨y, hy, rfl⟩ := List.mem_map.mp hx
    obtain ⟨i, rfl, hi⟩ : ∃ i, y = .int i ∧ -99 ≤ i ∧ i ≤ 99 := by
      simp only [List.mem_cons, List.not_mem_nil, or_false] at hy
      rcases hy with rfl | rfl
      · exact ⟨_, rfl, h.1⟩
      · exact ⟨_, rfl, h.2⟩
    refine zwp_turn rfl ?_
    repeat fail
    refine W.of (is_from_run _ _ _ _ _) ?_
    repeat fail
    refine ⟨?_, rfl⟩
    show some (PyData.bool (numB (.int i) (-99) 99)) = _
    simp [numB, hi]
  · refine ⟨_, all_const _ (fun x hx => ?_), ?_⟩
    · obtain ⟨y, hy, rfl⟩ := List.mem_map.mp hx
      exact ⟨_, rfl⟩
    exact ⟨rfl, cutS_self _ _⟩
theorem are_houses_run (k : Nat) {hs : List Pl} (S : Sto) (h : GHo hs) : MS.run Gl Pr (k + 3) 29 [.d (laD hs)] S = .ok (.d (.bool true)) S := by
  refine W.ok (zwp_run (f := f_are_houses) rfl rfl ?_)
  unfold f_are_houses
  repeat fail
  have e1 : PyData.eqv (.int ((hs.map plD).length : Nat)) (.int 4) = true := by rw [eqv_int, List.length_map, h.l]; rfl
  refine zif_t e1 ?_
  repeat fail
  refine zcomp_map (g := fun _ => some (.bool true)) (fun x hx => ?_) ?_
  · obtain ⟨y, hy, rfl⟩ := List.mem_map.mp hx
    obtain ⟨p, hp, rfl⟩ := List.mem_map.mp hy
    refine zwp_turn rfl ?_
    repeat fail
    refine W.of (is_house_run _ _ (h.b p hp)) ?_
    repeat fail
    rfl
  · refine ⟨_, all_const _ (fun x hx => ?_), ?_⟩
    · obtain ⟨y, hy, rfl⟩ := List.mem_map.mp hx
      exact ⟨_, rfl⟩
    exact ⟨rfl, cutS_self _ _⟩
theorem need_houses_run (k : Nat) {hs : List Pl} (S : Sto) (h : GHo hs) : MS.run Gl Pr (k + 4) 30 [.d (laD hs)] S = .ok (.d .none) S := by
  refine W.ok (zwp_run (f := f_need_houses) rfl rfl ?_)
  unfold f_need_houses
  repeat fail
  refine W.of (are_houses_run _ _ h) ?_
  repeat fail
  exact cutS_self _ _
def wayL (h : Pl) (l : List Pl) : List Int := l.map fun c => iabs (c.1 - h.1) + iabs (c.2 - h.2)
def wayM (h : Pl) (l : List Pl) : Int := (minI (wayL h l)).getD 0
theorem biV_min {S : Sto} {ns : List Int} (h : ns ≠ []) : biV S .min (.d (.list (ns.map PyData.int))) = some (.int ((minI ns).getD 0)) := by
  cases ns with
  | nil => exact absurd rfl h
  | cons n ns => simp only [biV, view_d, Option.bind_some, biD, allI_map]; rfl
theorem biV_max {S : Sto} {ns : List Int} (h : ns ≠ []) : biV S .max (.d (.list (ns.map PyData.int))) = some (.int ((maxI ns).getD 0)) := by
  cases ns with
  | nil => exact absurd rfl h
  | cons n ns => simp only [biV, view_d, Option.bind_some, biD, allI_map]; rfl
def wayD (h : Pl) (y : D) : D := .int (iabs ((unPl y).1 - h.1) + iabs ((unPl y).2 - h.2))
theorem wayD_map (h : Pl) (l : List Pl) : (l.map plD).map (wayD h) = (wayL h l).map PyData.int := by
  unfold wayL
  rw [List.map_map, List.map_map]; rfl
theorem wayL_ne {h : Pl} {l : List Pl} (hl : l ≠ []) : wayL h l ≠ [] := by unfold wayL; simpa using hl
theorem way_to_run (k : Nat) {h : Pl} {l : List Pl} (S : Sto) (hl : l ≠ []) : MS.run Gl Pr (k + 1) 31 [.d (plD h), .d (laD l)] S = .ok (.d (.int (wayM h l))) S := by
  refine W.ok (zwp_run (f := f_way_to) rfl rfl ?_)
  unfold f_way_to
  repeat fail
  refine zcomp_map (g := gD (wayD h)) (fun x hx => ?_) ?_
  · obtain ⟨y, hy, rfl⟩ := List.mem_map.mp hx
    obtain ⟨p, hp, rfl⟩ := List.mem_map.mp hy
    refine zwp_turn rfl ?_
    repeat fail
    rfl
  · rw [gD_map, wayD_map]
    refine ⟨_, biV_min (wayL_ne hl), ?_⟩
    exact ⟨rfl, cutS_self _ _⟩
/-- where a holder lives -/
def home (hs : List Pl) (h : Int) : Pl := hs.getD h.toNat (0, 0)
theorem ix_home {S : Sto} {hs : List Pl} {h : Int} (g : GHo hs) (hb : 0 ≤ h ∧ h ≤ 3) : ixV S (.d (laD hs)) (.int h) = some (.d (plD (home hs h))) := by
  obtain ⟨i, rfl⟩ := Int.eq_ofNat_of_zero_le hb.1
  have hi : i < hs.length := by rw [g.l]; omega
  refine ixv_tup ?_
  rw [List.getElem?_map, List.getElem?_eq_getElem hi]
  unfold home
  simp [List.getD_eq_getElem?_getD, List.getElem?_eq_getElem hi]
def wayP (rs : List (List Int)) (hs : List Pl) (ps : List Int) (h : Int) : Int := wayM (home hs h) (landH (plP 0 99 rs) ps h)
theorem way_of_run (k : Nat) {rs : List (List Int)} {cu : List Int} {cs : List Cl} {od h : Int} {ps : List Int} {hs : List Pl} {S : Sto} (hS : PureS S) (hr : goodRows rs = true) (g : GHo hs) (hb : 0 ≤ h ∧ h ≤ 3) (hl : landH (plP 0 99 rs) ps h ≠ []) :
    MS.run Gl Pr (k + 4) 32 [.d (peD rs cu cs od), .d (laD hs), .d (paD ps), .d (.int h)] S = .ok (.d (.int (wayP rs hs ps h))) S := by
  refine W.ok (zwp_run (f := f_way_of) rfl rfl ?_)
  unfold f_way_of
  repeat fail
  refine ⟨_, _, rfl, ix_home g hb, ?_⟩
  repeat fail
  refine W.of (land_by_holder_run _ hS hr) ?_
  repeat fail
  refine W.of (way_to_run _ _ hl) ?_
  exact ⟨rfl, cutS_self _ _⟩
theorem fit_ne {rs : List (List Int)} {od t b : Int} {l : List Pl} (h : fitB rs od t b l = true) : l ≠ [] := by
  intro z
  subst z
  unfold fitB at h
  simp [hangB] at h
theorem part_fit {rs : List (List Int)} {cu : List Int} {cs : List Cl} {od h : Int} {ps : List Int} (hb : partB rs cu cs od ps = true) (hm : h ∈ hsOf cs) : fitB rs od (dueT rs cu cs h) (totH cu cs) (landH (plP 0 99 rs) ps h) = true := by
  unfold partB at hb
  exact List.all_eq_true.mp hb h hm
theorem far_of_run (k : Nat) {rs : List (List Int)} {cu : List Int} {cs : List Cl} {od h : Int} {ps : List Int} {hs : List Pl} {S : Sto} (hS : PureS S) (hp : GPe rs cu cs od) (g : GHo hs) (hr : Row rs cs ps) (hb : partB rs cu cs od ps = true) (hm : h ∈ hsOf cs) :
    MS.run Gl Pr (k + 8) 33 [.d (peD rs cu cs od), .d (laD hs), .d (paD ps), .d (.int h)] S = .ok (.d (.int (wayP rs hs ps h))) S := by
  refine W.ok (zwp_run (f := f_far_of) rfl rfl ?_)
  unfold f_far_of
  repeat fail
  refine W.of (need_plea_run _ hS hp) ?_
  repeat fail
  refine W.of (need_houses_run _ _ g) ?_
  repeat fail
  refine W.of (need_parting_run _ hS hp hr hb) ?_
  repeat fail
  refine W.of (need_holder_run _ hS hp.c.l2 (hold_bd hp.c hm) hm) ?_
  repeat fail
  refine W.of (way_of_run _ hS hp.m g (hold_bd hp.c hm) (fit_ne (part_fit hb hm))) ?_
  exact ⟨rfl, cutS_self _ _⟩
def waysP (rs : List (List Int)) (cs : List Cl) (hs : List Pl) (ps : List Int) : List Int := (hsOf cs).map (wayP rs hs ps)
def wayV (rs : List (List Int)) (hs : List Pl) (ps : List Int) : D → D
  | .int h => .int (wayP rs hs ps h)
  | _ => .none
theorem wayV_map {rs : List (List Int)} {hs : List Pl} {ps : List Int} (ns : List Int) : (ns.map PyData.int).map (wayV rs hs ps) = (ns.map (wayP rs hs ps)).map PyData.int := by
  rw [List.map_map, List.map_map]; rfl
theorem hs_ne {n : Nat} {cs : List Cl} (h : GCl n cs) : hsOf cs ≠ [] := by
  intro z
  have l1 := h.l1
  cases cs with
  | nil => simp at l1
  | cons c cs =>
    have : c.1 ∈ hsOf (c :: cs) := mem_srtI.mpr (by simp)
    rw [z] at this; cases this

-- E5.lean
/-! ### owners by cells -/
abbrev Ow := List (Pl × Int)
def enc (own : Ow) : List (List Int × Val) := own.map fun q => ([q.1.1, q.1.2], Val.d (.int q.2))
theorem key_pl (c : Pl) : keyV (.d (plD c)) = some [c.1, c.2] := rfl
theorem key_eq (a c : Pl) : decide ([a.1, a.2] = [c.1, c.2]) = decide (a = c) := by
  obtain ⟨x, y⟩ := a
  obtain ⟨u, v⟩ := c
  refine decide_eq_decide.mpr ?_
  simp
theorem look_enc (own : Ow) (c : Pl) : lookD (enc own) [c.1, c.2] = (own.find? fun q => decide (q.1 = c)).map fun q => Val.d (.int q.2) := by
  unfold lookD enc
  rw [List.find?_map]
  have e : ((fun p : List Int × Val => decide (p.1 = [c.1, c.2])) ∘ fun q : Pl × Int => ([q.1.1, q.1.2], Val.d (.int q.2))) = fun q : Pl × Int => decide (q.1 = c) := by
    funext q
    exact key_eq q.1 c
  rw [e, Option.map_map]
  rfl
theorem has_enc (own : Ow) (c : Pl) : (lookD (enc own) [c.1, c.2]).isSome = decide (c ∈ own.map (·.1)) := by
  rw [look_enc, Option.isSome_map, Bool.eq_iff_iff, List.find?_isSome, decide_eq_true_eq, List.mem_map]
  constructor
  · rintro ⟨x, h1, h2⟩; exact ⟨x, h1, of_decide_eq_true h2⟩
  · rintro ⟨x, h1, h2⟩; exact ⟨x, h1, decide_eq_true h2⟩
theorem put_enc {own : Ow} {c : Pl} {h : Int} (hc : c ∉ own.map (·.1)) : putD (enc own) [c.1, c.2] (.d (.int h)) = enc (own ++ [(c, h)]) := by
  unfold putD
  have : ((enc own).any fun p => decide (p.1 = [c.1, c.2])) = false := by
    rw [Bool.eq_false_iff]
    intro z
    obtain ⟨x, hx, e⟩ := List.any_eq_true.mp z
    obtain ⟨q, hq, rfl⟩ := List.mem_map.mp hx
    refine hc (List.mem_map.mpr ⟨q, hq, ?_⟩)
    have e : decide ([q.1.1, q.1.2] = [c.1, c.2]) = true := e
    rw [key_eq] at e
    exact of_decide_eq_true e
  rw [this]
  simp [enc]
/-- lands dealt to some holders, one land each, that fits -/
structure GD (rs : List (List Int)) (cu : List Int) (cs : List Cl) (od : Int) (hd : List Int) (own : Ow) : Prop where
  nd : (own.map (·.1)).Nodup
  b : ∀ q ∈ own, q.1 ∈ plP 0 99 rs ∧ q.2 ∈ hd
  f : ∀ h ∈ hd, ∃ l, Land rs l ∧ fitB rs od (dueT rs cu cs h) (totH cu cs) l = true ∧ ∀ c, (c, h) ∈ own ↔ c ∈ l
theorem GD.nil {rs : List (List Int)} {cu : List Int} {cs : List Cl} {od : Int} : GD rs cu cs od [] [] := ⟨by simp, by simp, by simp⟩
theorem GD.len {rs : List (List Int)} {cu : List Int} {cs : List Cl} {od : Int} {hd : List Int} {own : Ow} (h : GD rs cu cs od hd own) : own.length ≤ (plP 0 99 rs).length := by
  have := nodup_len h.nd fun x hx => by
    obtain ⟨q, hq, rfl⟩ := List.mem_map.mp hx
    exact (h.b q hq).1
  rwa [List.length_map] at this
theorem cell_small {rs : List (List Int)} (hr : goodRows rs = true) {p : Pl} (h : p ∈ plP 0 99 rs) : smallK [p.1, p.2] = true := by
  obtain ⟨i, j, ns, n, rfl, e1, e2, _⟩ := cell_of h
  obtain ⟨_, l2, l3, _⟩ := good_parts hr
  have := (l3 ns (List.mem_of_getElem? e1)).2.1
  have := (List.getElem?_eq_some_iff.mp e1).1
  have := (List.getElem?_eq_some_iff.mp e2).1
  simp [smallK]; omega
theorem GD.small {rs : List (List Int)} {cu : List Int} {cs : List Cl} {od : Int} {hd : List Int} {own : Ow} (h : GD rs cu cs od hd own) (hr : goodRows rs = true) : ((enc own).all (fun p => smallK p.1) && decide ((enc own).length ≤ 64)) = true := by
  have l := h.len
  have := (cells_len hr).2
  rw [Bool.and_eq_true]
  refine ⟨?_, by unfold enc; rw [List.length_map]; exact decide_eq_true (by omega)⟩
  rw [List.all_eq_true]
  intro x hx
  obtain ⟨q, hq, rfl⟩ := List.mem_map.mp hx
  exact cell_small hr (h.b q hq).1
theorem GD.deal {rs : List (List Int)} {cu : List Int} {cs : List Cl} {od h : Int} {hd : List Int} {own : Ow} {l : List Pl} (g : GD rs cu cs od hd own) (hL : Land rs l) (hf : fitB rs od (dueT rs cu cs h) (totH cu cs) l = true) (hn : h ∉ hd) (hd' : ∀ c ∈ l, c ∉ own.map (·.1)) : GD rs cu cs od (hd ++ [h]) (own ++ l.map fun c => (c, h)) := by
  have e1 : ((own ++ l.map fun c => (c, h)).map (·.1)) = own.map (·.1) ++ l := by
    rw [List.map_append, List.map_map]
    congr 1
    exact List.map_id l
  refine ⟨?_, fun q hq => ?_, fun h' hh' => ?_⟩
  · rw [e1, List.nodup_append]
    exact ⟨g.nd, hL.nd, fun a ha b hb e => hd' b hb (e ▸ ha)⟩
  · rcases List.mem_append.mp hq with z | z
    · exact ⟨(g.b q z).1, List.mem_append_left _ (g.b q z).2⟩
    · obtain ⟨c, hc, rfl⟩ := List.mem_map.mp z
      exact ⟨hL.s.subset hc, by simp⟩
  · rcases List.mem_append.mp hh' with z | z
    · obtain ⟨m, m1, m2, m3⟩ := g.f h' z
      refine ⟨m, m1, m2, fun c => ?_⟩
      rw [← m3 c, List.mem_append]
      constructor
      · rintro (y | y)
        · exact y
        · obtain ⟨c', _, e⟩ := List.mem_map.mp y
          cases e
          exact absurd z hn
      · exact .inl
    · rw [List.mem_singleton.mp z]
      refine ⟨l, hL, hf, fun c => ?_⟩
      rw [List.mem_append]
      constructor
      · rintro (y | y)
        · exact absurd (g.b _ y).2 hn
        · obtain ⟨c', hc', e⟩ := List.mem_map.mp y
          cases e
          exact hc'
      · intro y
        exact .inr (List.mem_map.mpr ⟨c, y, rfl⟩)
/-- the row of owners -/
def rowOf (own : Ow) (cells : List Pl) : List Int := cells.map fun c => ((own.find? fun q => decide (q.1 = c)).map (·.2)).getD 0
theorem find_own {own : Ow} (hn : (own.map (·.1)).Nodup) {c : Pl} {h : Int} (hm : (c, h) ∈ own) : own.find? (fun q => decide (q.1 = c)) = some (c, h) := by
  induction own with
  | nil => cases hm
  | cons q own ih =>
    rw [List.map_cons, List.nodup_cons] at hn
    rw [List.find?_cons]
    rcases List.mem_cons.mp hm with z | z
    · subst z; simp
    · have : ¬ q.1 = c := fun e => hn.1 (e ▸ List.mem_map.mpr ⟨_, z, rfl⟩)
      rw [decide_eq_false this]
      exact ih hn.2 z
theorem landH_row {own : Ow} {h : Int} : ∀ {cells : List Pl}, (own.map (·.1)).Nodup → (∀ c ∈ cells, c ∈ own.map (·.1)) → landH cells (rowOf own cells) h = cells.filter fun c => decide ((c, h) ∈ own)
  | [], _, _ => by simp [landH]
  | c :: cells, hn, ha => by
    have ih := landH_row (h := h) (cells := cells) hn fun c' hc' => ha c' (by simp [hc'])
    obtain ⟨q, hq, e⟩ := List.mem_map.mp (ha c (by simp))
    obtain ⟨c', o⟩ := q
    have e : c' = c := e
    subst e
    have ef := find_own hn hq
    show landH (c' :: cells) (((own.find? fun q => decide (q.1 = c')).map (·.2)).getD 0 :: rowOf own cells) h = _
    rw [landH_cons, ih, ef, List.filter_cons]
    show (if o = h then _ else _) = _
    by_cases z : o = h
    · subst z
      rw [if_pos rfl, if_pos (decide_eq_true hq)]
    · have : ¬ (c', h) ∈ own := fun y => by
        have := find_own hn y
        rw [ef] at this
        cases this
        exact z rfl
      rw [if_neg z, if_neg (by simp [this])]
theorem filter_sub {cells l : List Pl} (hc : cells.Pairwise pLtP) (hl : l.Sublist cells) : cells.filter (fun c => decide (c ∈ l)) = l := by
  induction hl with
  | slnil => rfl
  | @cons l' cs a h ih =>
    obtain ⟨p1, p2⟩ := List.pairwise_cons.mp hc
    have : a ∉ l' := fun z => by
      have := p1 a (h.subset z)
      unfold pLtP at this
      omega
    rw [List.filter_cons, if_neg (by simp [this])]
    exact ih p2
  | @cons_cons l' cs a h ih =>
    obtain ⟨p1, p2⟩ := List.pairwise_cons.mp hc
    rw [List.filter_cons, if_pos (by simp)]
    congr 1
    have : cs.filter (fun c => decide (c ∈ a :: l')) = cs.filter (fun c => decide (c ∈ l')) := by
      refine List.filter_congr fun x hx => ?_
      have hne : x ≠ a := fun e => by
        have := p1 x hx
        subst e
        unfold pLtP at this
        omega
      simp [hne]
    rw [this, ih p2]
/-- all cells dealt: a parting -/
theorem GD.parting {rs : List (List Int)} {cu : List Int} {cs : List Cl} {od : Int} {own : Ow} (g : GD rs cu cs od (hsOf cs) own) (hl : own.length = (plP 0 99 rs).length) : Row rs cs (rowOf own (plP 0 99 rs)) ∧ partB rs cu cs od (rowOf own (plP 0 99 rs)) = true := by
  have hall : ∀ c ∈ plP 0 99 rs, c ∈ own.map (·.1) := fun c hc => by
    by_cases z : c ∈ own.map (·.1)
    · exact z
    · exfalso
      have := nodup_len (a := c :: own.map (·.1)) (b := plP 0 99 rs) (List.nodup_cons.mpr ⟨z, g.nd⟩) fun x hx => by
        rcases List.mem_cons.mp hx with rfl | hx
        · exact hc
        · obtain ⟨q, hq, rfl⟩ := List.mem_map.mp hx
          exact (g.b q hq).1
      simp only [List.length_cons, List.length_map] at this
      omega
  refine ⟨⟨by simp [rowOf], fun o ho => ?_⟩, ?_⟩
  · obtain ⟨c, hc, rfl⟩ := List.mem_map.mp ho
    obtain ⟨q, hq, e⟩ := List.mem_map.mp (hall c hc)
    obtain ⟨c', o⟩ := q
    have e : c' = c := e
    subst e
    rw [find_own g.nd hq]
    exact (g.b _ hq).2
  · unfold partB
    rw [List.all_eq_true]
    intro h hh
    obtain ⟨l, l1, l2, l3⟩ := g.f h hh
    rw [landH_row g.nd hall]
    have : (plP 0 99 rs).filter (fun c => decide ((c, h) ∈ own)) = l := by
      conv => rhs; rw [← filter_sub (cells_sorted rs) l1.s]
      refine List.filter_congr fun c _ => decide_eq_decide.mpr ?_
      rw [l3 c]
    rw [this]; exact l2

-- E6.lean
/-- references to dicts of owners -/
def LV (n : Nat) (P : Ow → Prop) (S' : Sto) (vs : List Val) : Prop := ∀ v ∈ vs, ∃ m own, v = .ref m ∧ n ≤ m ∧ m < S'.length ∧ stGet S' m = some (.dct (enc own)) ∧ P own
theorem LV.mono {n : Nat} {P : Ow → Prop} {S1 S2 : Sto} {vs : List Val} (h : LV n P S1 vs) (k : ∀ m es, stGet S1 m = some (.dct es) → stGet S2 m = some (.dct es)) (hl : S1.length ≤ S2.length) : LV n P S2 vs := by
  intro v hv
  obtain ⟨m, own, e, h1, h2, h3, h4⟩ := h v hv
  exact ⟨m, own, e, h1, by omega, k m _ h3, h4⟩
theorem LV.below {n : Nat} {P : Ow → Prop} {S' : Sto} {vs : List Val} (h : LV n P S' vs) : belowO S'.length (some (.lst vs)) = true := by
  simp only [belowO, Ob.below, List.all_eq_true]
  intro v hv
  obtain ⟨m, own, rfl, _, h2, _⟩ := h v hv
  simp [Val.below, h2]
theorem dct_below (m : Nat) (own : Ow) : belowO m (some (.dct (enc own))) = true := by
  simp only [belowO, Ob.below, List.all_eq_true]
  intro q hq
  obtain ⟨z, _, rfl⟩ := List.mem_map.mp hq
  rfl
theorem set_ge {S T : Sto} {i : Nat} {o : Option Ob} (h : S.length ≤ i) : (S ++ T).set i o = S ++ T.set (i - S.length) o := List.set_append_right _ _ h
theorem keep_push {S : Sto} {o : Option Ob} {m : Nat} {es : List (List Int × Val)} (h : stGet S m = some (.dct es)) : stGet (S ++ [o]) m = some (.dct es) := by
  have hm : m < S.length := by
    unfold stGet at h
    cases q : S[m]? with
    | none => rw [q] at h; cases h
    | some x => exact (List.getElem?_eq_some_iff.mp q).1
  rw [stGet_l hm]; exact h
theorem keep_set {S : Sto} {o : Option Ob} {a m : Nat} {vs : List Val} {es : List (List Int × Val)} (ha : stGet S a = some (.lst vs)) (h : stGet S m = some (.dct es)) : stGet (S.set a o) m = some (.dct es) := by
  have : a ≠ m := fun z => by
    rw [z, h] at ha; cases ha
  rw [stGet_ne this]; exact h
theorem st_lt {S : Sto} {m : Nat} {o : Ob} (h : stGet S m = some o) : m < S.length := by
  unfold stGet at h
  cases q : S[m]? with
  | none => rw [q] at h; cases h
  | some x => exact (List.getElem?_eq_some_iff.mp q).1
def gHas (own : Ow) : Val → Option D := gKeep fun c => decide (c ∈ own.map (·.1))
/-- all that one land adds -/
theorem deal_turn (k : Nat) {rs : List (List Int)} {cu : List Int} {cs : List Cl} {od h : Int} {hd : List Int} {l : List Pl} {S : Sto} {n L A : Nat} {lns acc0 : List Val} {St1 : Sto} {b : Nat} {D' : En} {env : MS.Env} {a2 a3 a8 a9 : Option Val} {cells : D}
    (hr : goodRows rs = true) (hL : Land rs l) (hf : fitB rs od (dueT rs cu cs h) (totH cu cs) l = true) (hn : h ∉ hd)
    (e0 : env = [some (.d (peD rs cu cs od)), some (.d (.int h)), a2, a3, some (.d cells), some (.ref L), some (.ref A), some (.d (laD l)), a8, a9])
    (eS : ∃ T, St1 = S ++ T) (pu : PureS St1) (gL : stGet St1 L = some (.lst lns)) (gA : stGet St1 A = some (.lst acc0)) (hLA : L ≠ A) (nL : S.length ≤ L) (nA : S.length ≤ A) (v1 : LV S.length (GD rs cu cs od hd) St1 lns) (v2 : LV S.length (GD rs cu cs od (hd ++ [h])) St1 acc0) (hb : acc0.length + lns.length ≤ b) (hb2 : b < sLine)
    (q : ∀ St2 acc a3 a8 a9, (∃ T, St2 = S ++ T) → PureS St2 → stGet St2 L = some (.lst lns) → stGet St2 A = some (.lst acc) → LV S.length (GD rs cu cs od hd) St2 lns → LV S.length (GD rs cu cs od (hd ++ [h])) St2 acc → acc.length ≤ acc0.length + lns.length → D'.nx [some (.d (peD rs cu cs od)), some (.d (.int h)), a2, a3, some (.d cells), some (.ref L), some (.ref A), some (.d (laD l)), a8, a9] St2) :
    Z (xS Gl (MS.run Gl Pr k) (.fors (.name 3) (.over (.var 5)) (.cons (.ifs (.cmp .eq (.comp [9] (.name 9) (.over (.var 7)) (.cons (.din false (.var 9) (.var 3)) .nil) (.var 9)) (.lst .nil)) (.cons (.set 8 (.dcpy (.var 3)))
    (.cons (.fors (.name 9) (.over (.var 7)) (.cons (.setd (.var 8) (.var 9) (.var 1))
    .nil))
    (.cons (.app (.var 6) (.var 8))
    .nil))) .nil)
    .nil)) env St1) D' := by
  subst e0
  refine zws_for ?_
  repeat fail
  refine ⟨_, items_ref gL, ?_⟩
  have pl : ∀ (m : Nat) (es : List (List Int × Val)), stGet St1 m = some (.dct es) → stGet (St1.set L none) m = some (.dct es) := fun m es z => keep_set gL z
  refine ⟨fun xs env S' => ∃ acc a3 a8 a9, (∃ T, S' = S ++ T) ∧ PureS S' ∧ L < S'.length ∧ stGet S' L = none ∧ stGet S' A = some (.lst acc) ∧ LV S.length (GD rs cu cs od hd) S' lns ∧ LV S.length (GD rs cu cs od hd) S' xs ∧ LV S.length (GD rs cu cs od (hd ++ [h])) S' acc ∧ acc.length + xs.length ≤ acc0.length + lns.length ∧ env = [some (.d (peD rs cu cs od)), some (.d (.int h)), a2, a3, some (.d cells), some (.ref L), some (.ref A), some (.d (laD l)), a8, a9], ?_, ?_, ?_⟩
  · have hlt := st_lt gL
    refine ⟨acc0, a3, a8, a9, ?_, pu.setR rfl, ?_, ?_, ?_, ?_, ?_, ?_, Nat.le_refl _, rfl⟩
    · obtain ⟨T, rfl⟩ := eS
      exact ⟨_, set_ge nL⟩
    · show L < (St1.set L none).length
      rw [List.length_set]; exact hlt
    · show stGet (St1.set L none) L = none
      unfold stGet; rw [List.getElem?_set_self hlt]; rfl
    · show stGet (St1.set L none) A = _
      rw [stGet_ne hLA]; exact gA
    · exact v1.mono pl (by show _ ≤ (St1.set L none).length; rw [List.length_set]; exact Nat.le_refl _)
    · exact v1.mono pl (by show _ ≤ (St1.set L none).length; rw [List.length_set]; exact Nat.le_refl _)
    · exact v2.mono pl (by show _ ≤ (St1.set L none).length; rw [List.length_set]; exact Nat.le_refl _)
  · intro x xs env S' ⟨acc, a3, a8, a9, ⟨T, eT⟩, pu', hlt, gL', gA', w1, w2, w3, hb', e5⟩
    subst e5
    obtain ⟨m, own, rfl, m1, m2, m3, hG⟩ := w2 x (by simp)
    have w2' : LV S.length (GD rs cu cs od hd) S' xs := fun v hv => w2 v (by simp [hv])
    have dv : dctV S' (.ref m) = some (enc own) := by simp only [dctV, m3]
    refine ⟨_, rfl, ?_⟩
    repeat fail
    refine zcomp_map (g := gHas own) (fun x hx => ?_) ?_
    · obtain ⟨y, hy, rfl⟩ := List.mem_map.mp hx
      obtain ⟨c, hc, rfl⟩ := List.mem_map.mp hy
      refine zwp_turn rfl ?_
      repeat fail
      refine ⟨_, _, dv, key_pl c, ?_⟩
      repeat fail
      rw [has_enc]
      refine zif (fun h1 => ?_) (fun h1 => ?_)
      · repeat fail
        refine ⟨?_, rfl⟩
        unfold gHas
        have h1' : decide (c ∈ own.map (·.1)) = true := h1
        rw [gKeep_pl, h1']; rfl
      · refine ⟨?_, rfl⟩
        unfold gHas
        have h1' : decide (c ∈ own.map (·.1)) = false := h1
        rw [gKeep_pl, h1']; rfl
    unfold gHas
    rw [gKeep_map]
    repeat fail
    refine ⟨_, _, _, rfl, rfl, eq_nilL, ?_⟩
    repeat fail
    refine zif (fun h1 => ?_) (fun h1 => ?_)
    · have h1' : ∀ c ∈ l, c ∉ own.map (·.1) := fun c hc => by
        have := List.filter_eq_nil_iff.mp (of_decide_eq_true h1) c hc
        simpa using this
      repeat fail
      refine ⟨_, dv, hG.small hr, ?_⟩
      repeat fail
      refine zws_for ?_
      repeat fail
      refine ⟨fun ys env S'' => ∃ dn rest a9, l = dn ++ rest ∧ ys = (rest.map plD).map Val.d ∧ S'' = S' ++ [some (.dct (enc (own ++ dn.map fun c => (c, h))))] ∧ env = [some (.d (peD rs cu cs od)), some (.d (.int h)), a2, some (.ref m), some (.d cells), some (.ref L), some (.ref A), some (.d (laD l)), some (.ref S'.length), a9], ?_, ?_, ?_⟩
      · exact ⟨[], l, a9, rfl, rfl, by simp; rfl, rfl⟩
      · intro y ys env S'' ⟨dn, rest, a9, f1, f2, f3, f4⟩
        cases rest with
        | nil => simp at f2
        | cons c rest =>
          simp only [List.map_cons, List.cons.injEq] at f2
          obtain ⟨rfl, f2⟩ := f2
          subst f3 f4
          have hcl : c ∈ l := by rw [f1]; simp
          have hnl := hL.nd
          rw [f1, List.nodup_append] at hnl
          have hnew : c ∉ (own ++ dn.map fun c => (c, h)).map (·.1) := by
            rw [List.map_append, List.map_map, List.mem_append]
            rintro (z | z)
            · exact h1' c hcl z
            · obtain ⟨d, hd1, hd2⟩ := List.mem_map.mp z
              have hd2 : d = c := hd2
              exact hnl.2.2 d hd1 c (by simp) hd2
          refine ⟨_, rfl, ?_⟩
          repeat fail
          refine ⟨_, _, _, rfl, key_pl c, stGet_at, ⟨?_, by simp⟩, ?_⟩
          · have l1 := hG.len
            have l2 := (cells_len hr).2
            have l3 := (hL.len hr)
            have l4 : dn.length ≤ l.length := by rw [f1]; simp
            unfold enc
            simp only [List.length_map, List.length_append]
            unfold sLine; omega
          rw [put_enc hnew, set_at]
          repeat fail
          refine ⟨dn ++ [c], rest, _, by rw [f1]; simp, f2, by simp, rfl⟩
      · intro env S'' ⟨dn, rest, a9, f1, f2, f3, f4⟩
        have hrr : rest = [] := by
          cases rest with
          | nil => rfl
          | cons _ _ => simp at f2
        subst hrr f3 f4
        rw [List.append_nil] at f1
        subst f1
        have hG' := hG.deal hL hf hn h1'
        have gA2 : stGet (S' ++ [some (.dct (enc (own ++ l.map fun c => (c, h))))]) A = some (.lst acc) := by rw [stGet_l (st_lt gA')]; exact gA'
        repeat fail
        refine ⟨?_, ?_⟩
        · show (match stGet (S' ++ [some (.dct (enc (own ++ l.map fun c => (c, h))))]) A with | some (.lst _) => true | _ => false) = true
          rw [gA2]
        repeat fail
        refine ⟨_, acc, rfl, gA2, ?_, ?_⟩
        · simp only [List.length_cons] at hb'
          omega
        repeat fail
        have kp : ∀ (m : Nat) (es : List (List Int × Val)), stGet S' m = some (.dct es) → stGet ((S' ++ [some (Ob.dct (enc (own ++ l.map fun c => (c, h))))]).set A (some (Ob.lst (acc ++ [Val.ref S'.length])))) m = some (.dct es) := fun m es z => keep_set gA2 (keep_push z)
        have hlen : ((S' ++ [some (Ob.dct (enc (own ++ l.map fun c => (c, h))))]).set A (some (Ob.lst (acc ++ [Val.ref S'.length])))).length = S'.length + 1 := by simp
        have w3' : LV S.length (GD rs cu cs od (hd ++ [h])) ((S' ++ [some (Ob.dct (enc (own ++ l.map fun c => (c, h))))]).set A (some (Ob.lst (acc ++ [Val.ref S'.length])))) (acc ++ [.ref S'.length]) := by
          intro v hv
          rcases List.mem_append.mp hv with z | z
          · exact (w3.mono kp (by rw [hlen]; omega)) v z
          · refine ⟨S'.length, _, List.mem_singleton.mp z, by rw [eT]; simp, by rw [hlen]; omega, keep_set gA2 stGet_at, hG'⟩
        have x1 : LV S.length (GD rs cu cs od hd) ((S' ++ [some (Ob.dct (enc (own ++ l.map fun c => (c, h))))]).set A (some (Ob.lst (acc ++ [Val.ref S'.length])))) lns := w1.mono kp (by rw [hlen]; omega)
        have x2 : LV S.length (GD rs cu cs od hd) ((S' ++ [some (Ob.dct (enc (own ++ l.map fun c => (c, h))))]).set A (some (Ob.lst (acc ++ [Val.ref S'.length])))) xs := w2'.mono kp (by rw [hlen]; omega)
        have y1 : ∃ T', ((S' ++ [some (Ob.dct (enc (own ++ l.map fun c => (c, h))))]).set A (some (Ob.lst (acc ++ [Val.ref S'.length])))) = S ++ T' := by
          refine ⟨(T ++ [some (Ob.dct (enc (own ++ l.map fun c => (c, h))))]).set (A - S.length) (some (Ob.lst (acc ++ [Val.ref S'.length]))), ?_⟩
          rw [← set_ge nA, eT, List.append_assoc]
        have y2 : PureS ((S' ++ [some (Ob.dct (enc (own ++ l.map fun c => (c, h))))]).set A (some (Ob.lst (acc ++ [Val.ref S'.length])))) := by
          have p1 : PureS (S' ++ [some (Ob.dct (enc (own ++ l.map fun c => (c, h))))]) := pu'.appR (dct_below _ _)
          refine p1.setR ?_
          have := w3'.below
          rw [hlen] at this
          simpa using this
        have y3 : L < (((S' ++ [some (Ob.dct (enc (own ++ l.map fun c => (c, h))))]).set A (some (Ob.lst (acc ++ [Val.ref S'.length])))) : Sto).length := by rw [hlen]; omega
        have y4 : stGet ((S' ++ [some (Ob.dct (enc (own ++ l.map fun c => (c, h))))]).set A (some (Ob.lst (acc ++ [Val.ref S'.length])))) L = none := by rw [stGet_ne (Ne.symm hLA), stGet_l hlt]; exact gL'
        have y5 : stGet ((S' ++ [some (Ob.dct (enc (own ++ l.map fun c => (c, h))))]).set A (some (Ob.lst (acc ++ [Val.ref S'.length])))) A = some (.lst (acc ++ [Val.ref S'.length])) := stGet_eq (by have := st_lt gA'; simp; omega)
        have y6 : (acc ++ [Val.ref S'.length]).length + xs.length ≤ acc0.length + lns.length := by simp only [List.length_cons] at hb'; simp; omega
        exact ⟨acc ++ [Val.ref S'.length], _, _, _, y1, y2, y3, y4, y5, x1, x2, w3', y6, rfl⟩
    · repeat fail
      exact ⟨acc, _, _, _, ⟨T, eT⟩, pu', hlt, gL', gA', w1, w2', w3, by simp only [List.length_cons] at hb'; omega, rfl⟩
  · intro env S' ⟨acc, a3, a8, a9, ⟨T, eT⟩, pu', hlt, gL', gA', w1, w2, w3, hb', e5⟩
    subst e5
    have eU : unlockS St1 S' [L] = S'.set L (some (.lst lns)) := by
      show S'.set L ((St1[L]?).join) = _
      have : (St1[L]?).join = some (.lst lns) := gL
      rw [this]
    show D'.nx _ (unlockS St1 S' [L])
    rw [eU]
    have kp : ∀ (m : Nat) (es : List (List Int × Val)), stGet S' m = some (.dct es) → stGet (S'.set L (some (.lst lns))) m = some (.dct es) := fun m es z => by
      have : L ≠ m := fun e => by rw [e] at gL'; rw [gL'] at z; cases z
      rw [stGet_ne this]; exact z
    have hlen : (S'.set L (some (Ob.lst lns))).length = S'.length := by simp
    refine q _ acc a3 a8 a9 ?_ (pu'.setR w1.below) (stGet_eq hlt) (by rw [stGet_ne hLA]; exact gA') (w1.mono kp (by omega)) (w3.mono kp (by omega)) (by simp at hb'; omega)
    exact ⟨_, by rw [eT]; exact set_ge nL⟩
theorem alike_ints : ∀ (l m : List Int), PySem.W.alikeAll (l.map PyData.int) (m.map PyData.int) = true
  | [], [] => by simp [PySem.W.alikeAll]
  | [], _ :: _ => by simp [PySem.W.alikeAll]
  | _ :: _, [] => by simp [PySem.W.alikeAll]
  | a :: l, b :: m => by
    simp only [List.map_cons, PySem.W.alikeAll, alike_ints l m, PySem.W.alike, Bool.and_self]
theorem depth_ints : ∀ (l : List Int), PyData.depthAll (l.map PyData.int) ≤ 1
  | [] => by simp [PyData.depthAll]
  | a :: l => by
    have := depth_ints l
    simp only [List.map_cons, PyData.depthAll, PyData.depth]
    omega
theorem sortOk_rows {out : List (List Int)} (h : out.length ≤ 1000000) (h0 : ∀ ps ∈ out, ps ≠ []) : sortOk (out.map paD) = true := by
  unfold sortOk
  simp only [Bool.and_eq_true, List.all_eq_true, Bool.or_eq_true, decide_eq_true_eq]
  refine ⟨⟨⟨fun a ha b hb => ?_, .inl (.inl fun a ha => ?_)⟩, ?_⟩, fun a ha => ?_⟩
  · obtain ⟨x, _, rfl⟩ := List.mem_map.mp ha
    obtain ⟨y, _, rfl⟩ := List.mem_map.mp hb
    show PySem.W.alike (.tuple (x.map PyData.int)) (.tuple (y.map PyData.int)) = true
    simp only [PySem.W.alike]
    exact alike_ints x y
  · obtain ⟨x, hx, rfl⟩ := List.mem_map.mp ha
    cases x with
    | nil => exact absurd rfl (h0 _ hx)
    | cons a x => rfl
  · rw [List.length_map]; unfold sLine; omega
  · obtain ⟨x, hx, rfl⟩ := List.mem_map.mp ha
    have := depth_ints x
    show PyData.depth (.tuple (x.map PyData.int)) ≤ 60
    simp only [PyData.depth]
    omega
theorem unmap_rows : ∀ {xs : List D} {P : List Int → Prop}, (∀ d ∈ xs, ∃ ps, d = paD ps ∧ P ps) → ∃ out : List (List Int), xs = out.map paD ∧ ∀ ps ∈ out, P ps
  | [], _, _ => ⟨[], rfl, by simp⟩
  | x :: xs, P, h => by
    obtain ⟨ps, rfl, hP⟩ := h x (by simp)
    obtain ⟨out, rfl, ho⟩ := unmap_rows (xs := xs) (P := P) fun d hd => h d (by simp [hd])
    refine ⟨ps :: out, rfl, fun q hq => ?_⟩
    rcases List.mem_cons.mp hq with rfl | z
    · exact hP
    · exact ho q z
theorem len_insI (x : Int) : ∀ (l : List Int), (insI x l).length ≤ l.length + 1
  | [] => by simp [insI]
  | y :: r => by
    have := len_insI x r
    unfold insI
    split
    · simp
    · split
      · simp
      · simp; omega
theorem len_srtI : ∀ (ns : List Int), (srtI ns).length ≤ ns.length
  | [] => by simp [srtI]
  | n :: ns => by
    have h1 := len_srtI ns
    have h2 := len_insI n (srtI ns)
    have : srtI (n :: ns) = insI n (srtI ns) := rfl
    rw [this, List.length_cons]; omega
theorem hs_len {cs : List Cl} : (hsOf cs).length ≤ cs.length := by
  have := len_srtI (cs.map (·.1))
  rw [List.length_map] at this
  exact this
theorem hs_nodup {cs : List Cl} : (hsOf cs).Nodup := by
  have := pw_srtI (cs.map (·.1))
  exact this.imp fun {a b} h => Int.ne_of_lt h
theorem fitS_len {rs : List (List Int)} {cu : List Int} {cs : List Cl} {od h : Int} (h6 : (plP 0 99 rs).length ≤ 6) : (fitS rs cu cs od h).length ≤ 64 := by
  have e := subs_len_go (plP 0 99 rs) [[]]
  have l1 : (fitS rs cu cs od h).length ≤ (subsL (plP 0 99 rs)).length := List.length_filter_le _ _
  have e2 : (subsL (plP 0 99 rs)).length = 2 ^ (plP 0 99 rs).length := by
    show ((plP 0 99 rs).foldl _ [[]]).length = _
    rw [e]; simp
  have : 2 ^ (plP 0 99 rs).length ≤ 2 ^ 6 := Nat.pow_le_pow_right (by decide) h6
  omega
/-- what the law tells as partings -/
def Found (rs : List (List Int)) (cu : List Int) (cs : List Cl) (od : Int) (out : List (List Int)) : Prop := ∀ ps ∈ out, Row rs cs ps ∧ partB rs cu cs od ps = true
theorem found_turn (k : Nat) {rs : List (List Int)} {cu : List Int} {cs : List Cl} {od : Int} {S : Sto} {L : Nat} {lns : List Val} {St1 : Sto} {D' : En} {env : MS.Env} {a1 a3 a6 a7 a8 a9 : Option Val}
    (hp : GPe rs cu cs od) (e0 : env = [some (.d (peD rs cu cs od)), a1, some (.ref St1.length), a3, some (.d (.list ((plP 0 99 rs).map plD))), some (.ref L), a6, a7, a8, a9])
    (eS : ∃ T, St1 = S ++ T) (gL : stGet St1 L = some (.lst lns)) (v1 : LV S.length (GD rs cu cs od (hsOf cs)) St1 lns) (hb : lns.length ≤ 300000)
    (q : ∀ out a3 a9, Found rs cu cs od out → out.length ≤ lns.length → D'.nx [some (.d (peD rs cu cs od)), a1, some (.ref St1.length), a3, some (.d (.list ((plP 0 99 rs).map plD))), some (.ref L), a6, a7, a8, a9] (St1 ++ [some (.lst ((out.map paD).map Val.d))])) :
    Z (xS Gl (MS.run Gl Pr k) (.fors (.name 3) (.over (.var 5)) (.cons (.ifs (.cmp .eq (.dlen (.var 3)) (.bi .len (.var 4))) (.cons (.app (.var 2) (.bi .tuple (.comp [9] (.name 9) (.over (.var 4)) .nil (.dget (.var 3) (.var 9)))))
    .nil) .nil)
    .nil)) env (St1 ++ [some (.lst [])])) D' := by
  subst e0
  have hlt := st_lt gL
  have gL1 : ∀ o, stGet (St1 ++ [o]) L = some (.lst lns) := fun o => by rw [stGet_l hlt]; exact gL
  refine zws_for ?_
  repeat fail
  refine ⟨_, items_ref (gL1 _), ?_⟩
  refine ⟨fun xs env S' => ∃ out a3 a9, Found rs cu cs od out ∧ LV S.length (GD rs cu cs od (hsOf cs)) St1 xs ∧ out.length + xs.length ≤ lns.length ∧ S' = (St1.set L none) ++ [some (.lst ((out.map paD).map Val.d))] ∧ env = [some (.d (peD rs cu cs od)), a1, some (.ref St1.length), a3, some (.d (.list ((plP 0 99 rs).map plD))), some (.ref L), a6, a7, a8, a9], ?_, ?_, ?_⟩
  · refine ⟨[], a3, a9, (fun ps h => nomatch h), v1, by simp, ?_, rfl⟩
    show (St1 ++ [some (Ob.lst [])]).set L none = _
    rw [List.set_append_left _ _ hlt]; rfl
  · intro x xs env S' ⟨out, a3, a9, hF, w2, hb', e1, e2⟩
    subst e1 e2
    obtain ⟨m, own, rfl, m1, m2, m3, hG⟩ := w2 x (by simp)
    have w2' : LV S.length (GD rs cu cs od (hsOf cs)) St1 xs := fun v hv => w2 v (by simp [hv])
    have hLm : L ≠ m := fun e => by rw [← e, gL] at m3; cases m3
    have g3 : stGet ((St1.set L none) ++ [some (.lst ((out.map paD).map Val.d))]) m = some (.dct (enc own)) := by
      rw [stGet_l (by rw [List.length_set]; exact m2), stGet_ne hLm]; exact m3
    have dv : dctV ((St1.set L none) ++ [some (.lst ((out.map paD).map Val.d))]) (.ref m) = some (enc own) := by simp only [dctV, g3]
    refine ⟨_, rfl, ?_⟩
    repeat fail
    refine ⟨_, dv, ?_⟩
    repeat fail
    have e3 : PyData.eqv (.int ((enc own).length : Nat)) (.int (((plP 0 99 rs).map plD).length : Nat)) = decide (own.length = (plP 0 99 rs).length) := by
      rw [eqv_int, List.length_map]
      unfold enc
      rw [List.length_map]
      exact decide_eq_decide.mpr (by omega)
    refine zif (fun h1 => ?_) (fun h1 => ?_)
    · have h1' : own.length = (plP 0 99 rs).length := by
        have : PyData.eqv (.int ((enc own).length : Nat)) (.int (((plP 0 99 rs).map plD).length : Nat)) = true := h1
        rw [e3] at this
        exact of_decide_eq_true this
      obtain ⟨hR, hB⟩ := hG.parting h1'
      have el : St1.length = (St1.set L none).length := by simp
      repeat fail
      refine ⟨by rw [el]; exact isLst_at, ?_⟩
      repeat fail
      refine zcomp_map (g := gD fun y => .int (((own.find? fun q => decide (q.1 = unPl y)).map (·.2)).getD 0)) (fun x hx => ?_) ?_
      · obtain ⟨y, hy, rfl⟩ := List.mem_map.mp hx
        obtain ⟨c, hc, rfl⟩ := List.mem_map.mp hy
        have hall : c ∈ own.map (·.1) := by
          by_cases z : c ∈ own.map (·.1)
          · exact z
          · exfalso
            have := nodup_len (a := c :: own.map (·.1)) (b := plP 0 99 rs) (List.nodup_cons.mpr ⟨z, hG.nd⟩) fun x hx => by
              rcases List.mem_cons.mp hx with rfl | hx
              · exact hc
              · obtain ⟨q, hq, rfl⟩ := List.mem_map.mp hx
                exact (hG.b q hq).1
            simp only [List.length_cons, List.length_map] at this
            omega
        obtain ⟨⟨c', o⟩, hq, e⟩ := List.mem_map.mp hall
        have e : c' = c := e
        subst e
        have ef := find_own hG.nd hq
        refine zwp_turn rfl ?_
        repeat fail
        refine ⟨_, _, _, dv, key_pl c', (look_enc own c').trans (by rw [ef]; rfl), ?_⟩
        repeat fail
        refine ⟨?_, rfl⟩
        show some (PyData.int o) = some (.int (((own.find? fun q => decide (q.1 = c')).map (·.2)).getD 0))
        rw [ef]; rfl
      · rw [gD_map]
        have em : ((plP 0 99 rs).map plD).map (fun y => PyData.int (((own.find? fun q => decide (q.1 = unPl y)).map (·.2)).getD 0)) = (rowOf own (plP 0 99 rs)).map PyData.int := by
          unfold rowOf
          rw [List.map_map, List.map_map]; rfl
        rw [em]
        repeat fail
        rw [el]
        refine ⟨_, _, rfl, stGet_at, ?_, ?_⟩
        · simp only [List.length_map]
          simp only [List.length_cons] at hb'
          unfold sLine; omega
        repeat fail
        refine ⟨out ++ [rowOf own (plP 0 99 rs)], _, _, ?_, w2', by simp only [List.length_cons] at hb'; simp; omega, ?_, by rw [← el]; rfl⟩
        · intro ps hps
          rcases List.mem_append.mp hps with z | z
          · exact hF ps z
          · rw [List.mem_singleton.mp z]; exact ⟨hR, hB⟩
        · show ((St1.set L none) ++ [some (Ob.lst ((out.map paD).map Val.d))]).set (St1.set L none).length _ = _
          rw [set_at]; simp
    · repeat fail
      exact ⟨out, _, _, hF, w2', by simp only [List.length_cons] at hb'; omega, rfl, rfl⟩
  · intro env S' ⟨out, a3, a9, hF, w2, hb', e1, e2⟩
    subst e1 e2
    have eU : unlockS (St1 ++ [some (Ob.lst [])]) ((St1.set L none) ++ [some (Ob.lst ((out.map paD).map Val.d))]) [L] = St1 ++ [some (Ob.lst ((out.map paD).map Val.d))] := by
      show ((St1.set L none) ++ [some (Ob.lst ((out.map paD).map Val.d))]).set L (((St1 ++ [some (Ob.lst [])])[L]?).join) = _
      have : (((St1 ++ [some (Ob.lst [])])[L]?).join) = some (.lst lns) := gL1 _
      rw [this, List.set_append_left _ _ (by rw [List.length_set]; exact hlt), List.set_set]
      congr 1
      exact set_self (stGet_iff.mp gL)
    show D'.nx _ (unlockS (St1 ++ [some (Ob.lst [])]) _ [L])
    rw [eU]
    exact q out a3 a9 hF (by simp at hb'; omega)
theorem law_partings_run (k : Nat) {rs : List (List Int)} {cu : List Int} {cs : List Cl} {od : Int} {S : Sto} (hS : PureS S) (hp : GPe rs cu cs od) (h6 : (plP 0 99 rs).length ≤ 6) (h3 : cs.length ≤ 3) :
    W (MS.run Gl Pr (k + 6) 54 [.d (peD rs cu cs od)] S) noX fun v S' => ∃ out, v = .d (.list (out.map paD)) ∧ Found rs cu cs od out ∧ out.length ≤ 262144 ∧ S' = S := by
  have hl3 : (hsOf cs).length ≤ 3 := Nat.le_trans hs_len h3
  refine zwp_run (f := f_law_partings) rfl rfl ?_
  unfold f_law_partings
  repeat fail
  refine W.of (law_cells_P _ hS hp.m) ?_
  repeat fail
  refine zws_for ?_
  repeat fail
  refine W.of (law_holders_P _ _ hp.c.l2) ?_
  repeat fail
  refine ⟨fun xs env S' => ∃ (L : Nat) (lns : List Val) (hd rest : List Int) (a1 a3 a6 a7 a8 a9 : Option Val), hsOf cs = hd ++ rest ∧ xs = (rest.map PyData.int).map Val.d ∧ (∃ T, S' = S ++ T) ∧ PureS S' ∧ S.length ≤ L ∧ stGet S' L = some (.lst lns) ∧ LV S.length (GD rs cu cs od hd) S' lns ∧ lns.length ≤ 64 ^ hd.length ∧ env = [some (.d (peD rs cu cs od)), a1, none, a3, some (.d (.list ((plP 0 99 rs).map plD))), some (.ref L), a6, a7, a8, a9], ?_, ?_, ?_⟩
  · refine ⟨S.length + 1, [.ref S.length], [], hsOf cs, none, none, none, none, none, none, rfl, rfl, ⟨[some (.dct []), some (.lst [.ref S.length])], by show (S ++ [_]) ++ [_] = _; simp⟩, ?_, by omega, ?_, ?_, by simp, by simp⟩
    · refine PureS.appR (PureS.appR hS rfl) ?_
      simp only [belowO, Ob.below, List.all_cons, List.all_nil, Val.below, Bool.and_true, decide_eq_true_eq]
      simp only [List.length_append, List.length_singleton]
      omega
    · have e : S.length + 1 = (S ++ [some (Ob.dct [])]).length := by simp
      rw [e]
      exact stGet_at
    · intro v hv
      refine ⟨S.length, [], List.mem_singleton.mp hv, Nat.le_refl _, by show S.length < ((S ++ [_]) ++ [_]).length; simp only [List.length_append, List.length_singleton]; omega, ?_, GD.nil⟩
      show stGet ((S ++ [some (Ob.dct [])]) ++ [some (.lst [.ref S.length])]) S.length = _
      rw [stGet_l (by simp)]
      exact stGet_at
  · intro x xs env S' ⟨L, lns, hd, rest, a1, a3, a6, a7, a8, a9, e1, e2, ⟨T, eT⟩, pu, nL, gL, v1, hb, e3⟩
    cases rest with
    | nil => simp at e2
    | cons h rest =>
      simp only [List.map_cons, List.cons.injEq] at e2
      obtain ⟨rfl, e2⟩ := e2
      subst e3
      have hnd := hs_nodup (cs := cs)
      rw [e1, List.nodup_append] at hnd
      have hn : h ∉ hd := fun z => hnd.2.2 h z h (by simp) rfl
      have hhd : hd.length ≤ 2 := by
        have := congrArg List.length e1
        simp only [List.length_append, List.length_cons] at this
        omega
      have hb2 : lns.length ≤ 4096 := by
        have : 64 ^ hd.length ≤ 64 ^ 2 := Nat.pow_le_pow_right (by decide) hhd
        omega
      have hltL := st_lt gL
      have pu1 : PureS (S' ++ [some (.lst [])]) := pu.app rfl
      have hf64 := fitS_len (rs := rs) (cu := cu) (cs := cs) (od := od) (h := h) h6
      refine ⟨_, rfl, ?_⟩
      repeat fail
      refine zws_for ?_
      repeat fail
      refine W.of (law_fit_lands_run _ pu1 hp) ?_
      repeat fail
      refine ⟨fun ys env S'' => ∃ (acc : List Val) (dn rst : List (List Pl)) (a3 a7 a8 a9 : Option Val), fitS rs cu cs od h = dn ++ rst ∧ ys = (rst.map laD).map Val.d ∧ (∃ T, S'' = S ++ T) ∧ PureS S'' ∧ stGet S'' L = some (.lst lns) ∧ stGet S'' S'.length = some (.lst acc) ∧ LV S.length (GD rs cu cs od hd) S'' lns ∧ LV S.length (GD rs cu cs od (hd ++ [h])) S'' acc ∧ acc.length ≤ dn.length * lns.length ∧ env = [some (.d (peD rs cu cs od)), some (.d (.int h)), none, a3, some (.d (.list ((plP 0 99 rs).map plD))), some (.ref L), some (.ref S'.length), a7, a8, a9], ?_, ?_, ?_⟩
      · refine ⟨[], [], fitS rs cu cs od h, a3, a7, a8, a9, rfl, rfl, ⟨T ++ [some (.lst [])], by show S' ++ [_] = _; rw [eT]; simp⟩, pu1, ?_, stGet_at, ?_, (fun v hv => nomatch hv), by simp, rfl⟩
        · show stGet (S' ++ [some (Ob.lst [])]) L = _
          rw [stGet_l hltL]; exact gL
        · exact v1.mono (fun m es z => keep_push z) (by show S'.length ≤ (S' ++ [_]).length; simp)
      · intro y ys env S'' ⟨acc, dn, rst, a3, a7, a8, a9, f1, f2, f3, pu2, gL2, gA2, w1, w2, hb3, f4⟩
        cases rst with
        | nil => simp at f2
        | cons l rst =>
          simp only [List.map_cons, List.cons.injEq] at f2
          obtain ⟨rfl, f2⟩ := f2
          subst f4
          obtain ⟨hL, hf⟩ := fitS_land (rs := rs) (cu := cu) (cs := cs) (od := od) (h := h) (l := l) (by rw [f1]; simp)
          have hdn : dn.length ≤ 63 := by
            have := congrArg List.length f1
            simp only [List.length_append, List.length_cons] at this
            omega
          have hm : dn.length * lns.length ≤ 63 * 4096 := Nat.mul_le_mul hdn hb2
          refine ⟨_, rfl, ?_⟩
          refine zws_cons ?_
          refine deal_turn (n := 0) (b := acc.length + lns.length) _ hp.m hL hf hn rfl f3 pu2 gL2 gA2 (by omega) nL (by rw [eT]; simp) w1 w2 (Nat.le_refl _) (by unfold sLine; omega) fun St2 acc' a3 a8 a9 q1 q2 q3 q4 q5 q6 q7 => ?_
          refine zws_nil ?_
          refine ⟨acc', dn ++ [l], rst, _, _, _, _, by rw [f1]; simp, f2, q1, q2, q3, q4, q5, q6, ?_, rfl⟩
          rw [List.length_append, List.length_singleton, Nat.succ_mul]
          omega
      · intro env S'' ⟨acc, dn, rst, a3, a7, a8, a9, f1, f2, f3, pu2, gL2, gA2, w1, w2, hb3, f4⟩
        have hrr : rst = [] := by
          cases rst with
          | nil => rfl
          | cons _ _ => simp at f2
        subst hrr f4
        rw [List.append_nil] at f1
        repeat fail
        refine ⟨S'.length, acc, hd ++ [h], rest, _, _, _, _, _, _, by rw [e1]; simp, e2, f3, pu2, by rw [eT]; simp, gA2, w2, ?_, rfl⟩
        rw [List.length_append, List.length_singleton, Nat.pow_succ, Nat.mul_comm]
        refine Nat.le_trans hb3 (Nat.mul_le_mul ?_ hb)
        rw [← f1]; exact hf64
  · intro env S' ⟨L, lns, hd, rest, a1, a3, a6, a7, a8, a9, e1, e2, ⟨T, eT⟩, pu, nL, gL, v1, hb, e3⟩
    have hrr : rest = [] := by
      cases rest with
      | nil => rfl
      | cons _ _ => simp at e2
    subst hrr e3
    rw [List.append_nil] at e1
    have hb2 : lns.length ≤ 262144 := by
      have : 64 ^ hd.length ≤ 64 ^ 3 := Nat.pow_le_pow_right (by decide) (by rw [← e1]; exact hl3)
      omega
    rw [← e1] at v1
    repeat fail
    refine found_turn (S := S) _ hp rfl ⟨T, eT⟩ gL v1 (by omega) fun out a3 a9 hF hlo => ?_
    repeat fail
    refine ⟨_, _, seqV_list (view_ref stGet_at), if_pos (sortOk_rows (by omega) fun ps hps z => ?_), ?_⟩
    · have := (hF ps hps).1.l
      have := (cells_len hp.m).1
      rw [z] at *
      simp at *
      omega
    repeat fail
    have pm : (sortD (out.map paD)).Perm (out.map paD) := List.mergeSort_perm _ _
    obtain ⟨out', eo, ho⟩ := unmap_rows (xs := sortD (out.map paD)) (P := fun ps => Row rs cs ps ∧ partB rs cu cs od ps = true) fun d hd => by
      obtain ⟨ps, hps, rfl⟩ := List.mem_map.mp (pm.mem_iff.mp hd)
      exact ⟨ps, rfl, hF ps hps⟩
    refine ⟨out', by rw [eo], ho, ?_, cutS_app (T := T ++ [some (.lst ((out.map paD).map Val.d))]) (fun _ z => by cases z) hS (by show S' ++ [_] = _; rw [eT, List.append_assoc])⟩
    have := pm.length_eq
    rw [eo] at this
    simp at this
    omega

-- E7.lean
/-! ### exchanges -/
def sw (a b o : Int) : Int := if o = a then b else if o = b then a else o
theorem get_sw (a b o : Int) : (lookI (mergeI [(a, .int b), (b, .int a)]) o).getD (.int o) = .int (sw a b o) := by
  unfold mergeI sw
  simp only [List.foldl_cons, List.foldl_nil]
  by_cases h : a = b
  · subst h
    have e : putI (putI [] (a, .int a)) (a, .int a) = [(.int a, .int a)] := by simp [putI, isKeyI]
    rw [e]
    unfold lookI
    by_cases z : o = a
    · subst z; simp [isKeyI]
    · have : ¬ a = o := fun y => z y.symm
      simp [isKeyI, z, this]
  · have e : putI (putI [] (a, .int b)) (b, .int a) = [(.int a, .int b), (.int b, .int a)] := by simp [putI, isKeyI, h]
    rw [e]
    unfold lookI
    by_cases z : o = a
    · subst z; simp [isKeyI]
    · have z' : ¬ a = o := fun y => z y.symm
      by_cases y : o = b
      · subst y; simp [isKeyI, z, z']
      · have y' : ¬ b = o := fun x => y x.symm
        simp [isKeyI, z, z', y, y']
def swD (a b : Int) : D → D
  | .int o => .int (sw a b o)
  | _ => .none
theorem swD_map (a b : Int) (ps : List Int) : (ps.map PyData.int).map (swD a b) = (ps.map (sw a b)).map PyData.int := by
  rw [List.map_map, List.map_map]; rfl
theorem swapped_run (k : Nat) {ps : List Int} {a b : Int} (S : Sto) : MS.run Gl Pr (k + 1) 34 [.d (paD ps), .d (.int a), .d (.int b)] S = .ok (.d (paD (ps.map (sw a b)))) S := by
  refine W.ok (zwp_run (f := f_swapped) rfl rfl ?_)
  unfold f_swapped
  repeat fail
  refine zcomp_map (g := gD (swD a b)) (fun x hx => ?_) ?_
  · obtain ⟨y, hy, rfl⟩ := List.mem_map.mp hx
    obtain ⟨o, ho, rfl⟩ := List.mem_map.mp hy
    refine zwp_turn rfl ?_
    repeat fail
    rw [get_sw]
    repeat fail
    rfl
  · rw [gD_map, swD_map]
    repeat fail
    exact cutS_self _ _
theorem Row.sw {rs : List (List Int)} {cs : List Cl} {ps : List Int} {a b : Int} (h : Row rs cs ps) (ha : a ∈ hsOf cs) (hb : b ∈ hsOf cs) : Row rs cs (ps.map (sw a b)) := by
  refine ⟨by rw [List.length_map]; exact h.l, fun o ho => ?_⟩
  obtain ⟨p, hp, rfl⟩ := List.mem_map.mp ho
  unfold Lw.sw
  split
  · exact hb
  · split
    · exact ha
    · exact h.m p hp
/-- whether two would -/
noncomputable def wouldB (rs : List (List Int)) (cu : List Int) (cs : List Cl) (od : Int) (hs : List Pl) (ps : List Int) (a b : Int) : Bool :=
  partB rs cu cs od (ps.map (sw a b)) && (decide (wayP rs hs (ps.map (sw a b)) a < wayP rs hs ps a) && decide (wayP rs hs (ps.map (sw a b)) b < wayP rs hs ps b))
def lessV (rs : List (List Int)) (hs : List Pl) (ps qs : List Int) : D → D
  | .int h => .bool (decide (wayP rs hs qs h < wayP rs hs ps h))
  | _ => .none
theorem both_would_run (k : Nat) {rs : List (List Int)} {cu : List Int} {cs : List Cl} {od a b : Int} {ps : List Int} {hs : List Pl} {S : Sto} (hS : PureS S) (hp : GPe rs cu cs od) (g : GHo hs) (hr : Row rs cs ps) (hB : partB rs cu cs od ps = true) (ha : a ∈ hsOf cs) (hb : b ∈ hsOf cs) :
    MS.run Gl Pr (k + 7) 35 [.d (peD rs cu cs od), .d (laD hs), .d (paD ps), .d (.int a), .d (.int b)] S = .ok (.d (.bool (wouldB rs cu cs od hs ps a b))) S := by
  refine W.ok (zwp_run (f := f_both_would) rfl rfl ?_)
  unfold f_both_would
  repeat fail
  refine W.of (swapped_run _ _) ?_
  repeat fail
  refine W.of (is_parted_run _ hS hp (hr.sw ha hb)) ?_
  repeat fail
  refine zif (fun h1 => ?_) (fun h1 => ?_)
  · have h1' : partB rs cu cs od (ps.map (sw a b)) = false := by
      have : (!partB rs cu cs od (ps.map (sw a b))) = true := h1
      simpa using this
    repeat fail
    refine ⟨?_, cutS_self _ _⟩
    unfold wouldB
    rw [h1']; rfl
  · have h1' : partB rs cu cs od (ps.map (sw a b)) = true := by
      have : (!partB rs cu cs od (ps.map (sw a b))) = false := h1
      simpa using this
    repeat fail
    refine zcomp_map (g := gD (lessV rs hs ps (ps.map (sw a b)))) (fun x hx => ?_) ?_
    · obtain ⟨y, hy, rfl⟩ := List.mem_map.mp hx
      obtain ⟨h, rfl, hh⟩ : ∃ h, y = .int h ∧ h ∈ hsOf cs := by
        simp only [List.mem_cons, List.not_mem_nil, or_false] at hy
        rcases hy with rfl | rfl
        · exact ⟨_, rfl, ha⟩
        · exact ⟨_, rfl, hb⟩
      refine zwp_turn rfl ?_
      repeat fail
      refine W.of (way_of_run _ hS hp.m g (hold_bd hp.c hh) (fit_ne (part_fit h1' hh))) ?_
      repeat fail
      refine W.of (way_of_run _ hS hp.m g (hold_bd hp.c hh) (fit_ne (part_fit hB hh))) ?_
      repeat fail
      rfl
    · rw [gD_map]
      repeat fail
      refine ⟨?_, cutS_self _ _⟩
      unfold wouldB
      rw [h1']
      simp
theorem need_two_run (k : Nat) {rs : List (List Int)} {cu : List Int} {cs : List Cl} {od a b : Int} {ps : List Int} {hs : List Pl} {S : Sto} (hS : PureS S) (hp : GPe rs cu cs od) (g : GHo hs) (hr : Row rs cs ps) (hB : partB rs cu cs od ps = true) (ha : a ∈ hsOf cs) (hb : b ∈ hsOf cs) (hne : a ≠ b) :
    MS.run Gl Pr (k + 8) 36 [.d (peD rs cu cs od), .d (laD hs), .d (paD ps), .d (.int a), .d (.int b)] S = .ok (.d .none) S := by
  refine W.ok (zwp_run (f := f_need_two) rfl rfl ?_)
  unfold f_need_two
  repeat fail
  refine W.of (need_plea_run _ hS hp) ?_
  repeat fail
  refine W.of (need_houses_run _ _ g) ?_
  repeat fail
  refine W.of (need_parting_run _ hS hp hr hB) ?_
  repeat fail
  refine W.of (need_holder_run _ hS hp.c.l2 (hold_bd hp.c ha) ha) ?_
  repeat fail
  refine W.of (need_holder_run _ hS hp.c.l2 (hold_bd hp.c hb) hb) ?_
  repeat fail
  refine zif_f (by show PyData.eqv (.int a) (.int b) = false; rw [eqv_int]; exact decide_eq_false hne) ?_
  repeat fail
  exact cutS_self _ _
theorem exchanged_yes (k : Nat) {rs : List (List Int)} {cu : List Int} {cs : List Cl} {od a b : Int} {ps : List Int} {hs : List Pl} {S : Sto} (hS : PureS S) (hp : GPe rs cu cs od) (g : GHo hs) (hr : Row rs cs ps) (hB : partB rs cu cs od ps = true) (ha : a ∈ hsOf cs) (hb : b ∈ hsOf cs) (hne : a ≠ b) (hw : wouldB rs cu cs od hs ps a b = true) :
    MS.run Gl Pr (k + 9) 37 [.d (peD rs cu cs od), .d (laD hs), .d (paD ps), .d (.int a), .d (.int b)] S = .ok (.d (paD (ps.map (sw a b)))) S := by
  refine W.ok (zwp_run (f := f_exchanged) rfl rfl ?_)
  unfold f_exchanged
  repeat fail
  refine W.of (need_two_run _ hS hp g hr hB ha hb hne) ?_
  repeat fail
  refine W.of (both_would_run _ hS hp g hr hB ha hb) ?_
  rw [hw]
  repeat fail
  refine W.of (swapped_run _ _) ?_
  exact ⟨rfl, cutS_self _ _⟩
theorem exchanged_no (k : Nat) {rs : List (List Int)} {cu : List Int} {cs : List Cl} {od a b : Int} {ps : List Int} {hs : List Pl} {S : Sto} (hS : PureS S) (hp : GPe rs cu cs od) (g : GHo hs) (hr : Row rs cs ps) (hB : partB rs cu cs od ps = true) (ha : a ∈ hsOf cs) (hb : b ∈ hsOf cs) (hne : a ≠ b) (hw : wouldB rs cu cs od hs ps a b = false) :
    MS.run Gl Pr (k + 9) 37 [.d (peD rs cu cs od), .d (laD hs), .d (paD ps), .d (.int a), .d (.int b)] S = .exc ⟨1005, []⟩ S := by
  refine W.okX (zwp_run (f := f_exchanged) rfl rfl ?_)
  unfold f_exchanged
  repeat fail
  refine W.of (need_two_run _ hS hp g hr hB ha hb hne) ?_
  repeat fail
  refine W.of (both_would_run _ hS hp g hr hB ha hb) ?_
  rw [hw]
  repeat fail
  rfl
/-- all who would -/
noncomputable def prsOf (rs : List (List Int)) (cu : List Int) (cs : List Cl) (od : Int) (hs : List Pl) (ps : List Int) (as : List Int) : List Pl :=
  as.flatMap fun a => ((hsOf cs).filter fun b => decide (a < b) && wouldB rs cu cs od hs ps a b).map fun b => (a, b)
noncomputable def gPr (rs : List (List Int)) (cu : List Int) (cs : List Cl) (od : Int) (hs : List Pl) (ps : List Int) (a : Int) : Val → Option D
  | .d (.int b) => if decide (a < b) && wouldB rs cu cs od hs ps a b then some (.tuple [.int a, .int b]) else none
  | _ => none
theorem gPr_map {rs : List (List Int)} {cu : List Int} {cs : List Cl} {od : Int} {hs : List Pl} {ps : List Int} {a : Int} : ∀ (bs : List Int), ((bs.map PyData.int).map Val.d).filterMap (gPr rs cu cs od hs ps a) = ((bs.filter fun b => decide (a < b) && wouldB rs cu cs od hs ps a b).map fun b => (a, b)).map plD
  | [] => rfl
  | b :: bs => by
    rw [List.map_cons, List.map_cons, List.filterMap_cons, gPr_map bs, List.filter_cons]
    simp only [gPr]
    cases (decide (a < b) && wouldB rs cu cs od hs ps a b) <;> rfl
theorem pairs_in_run (k : Nat) {rs : List (List Int)} {cu : List Int} {cs : List Cl} {od : Int} {ps : List Int} {hs : List Pl} {S : Sto} (hS : PureS S) (hp : GPe rs cu cs od) (g : GHo hs) (hr : Row rs cs ps) (hB : partB rs cu cs od ps = true) :
    MS.run Gl Pr (k + 8) 38 [.d (peD rs cu cs od), .d (laD hs), .d (paD ps)] S = .ok (.ref S.length) (S ++ [some (.lst (((prsOf rs cu cs od hs ps (hsOf cs)).map plD).map Val.d))]) := by
  have hl12 : (hsOf cs).length ≤ 12 := Nat.le_trans hs_len hp.c.l2
  refine W.ok (zwp_run (f := f_pairs_in) rfl rfl ?_)
  unfold f_pairs_in
  repeat fail
  have hS1 : ∀ xs : List D, PureS (S ++ [some (.lst (xs.map Val.d))]) := fun xs => hS.app (pureO_d _)
  refine W.of (holders_in_run _ _ hp.c.l2) ?_
  repeat fail
  refine zws_for ?_
  repeat fail
  refine ⟨fun xs env S' => ∃ dn rest a3 a6, hsOf cs = dn ++ rest ∧ xs = (rest.map PyData.int).map Val.d ∧ (prsOf rs cu cs od hs ps dn).length ≤ 12 * dn.length ∧ S' = S ++ [some (.lst (((prsOf rs cu cs od hs ps dn).map plD).map Val.d))] ∧ env = [some (.d (peD rs cu cs od)), some (.d (laD hs)), some (.d (paD ps)), a3, some (.ref S.length), some (.d (.list ((hsOf cs).map PyData.int))), a6], ?_, ?_, ?_⟩
  · exact ⟨[], hsOf cs, none, none, rfl, rfl, by simp [prsOf], rfl, rfl⟩
  · intro x xs env S' ⟨dn, rest, a3, a6, e1, e2, hb, e3, e4⟩
    cases rest with
    | nil => simp at e2
    | cons a rest =>
      simp only [List.map_cons, List.cons.injEq] at e2
      obtain ⟨rfl, e2⟩ := e2
      subst e3 e4
      have ha : a ∈ hsOf cs := by rw [e1]; simp
      have hdn : dn.length ≤ 12 := by
        have := congrArg List.length e1
        simp only [List.length_append, List.length_cons] at this
        omega
      have ec : prsOf rs cu cs od hs ps (dn ++ [a]) = prsOf rs cu cs od hs ps dn ++ ((hsOf cs).filter fun b => decide (a < b) && wouldB rs cu cs od hs ps a b).map fun b => (a, b) := by
        unfold prsOf
        rw [List.flatMap_append]
        simp
      have lf : ((hsOf cs).filter fun b => decide (a < b) && wouldB rs cu cs od hs ps a b).length ≤ 12 := Nat.le_trans (List.length_filter_le _ _) hl12
      refine ⟨_, rfl, ?_⟩
      repeat fail
      refine ⟨isLst_at, ?_⟩
      repeat fail
      refine zcomp_map (g := gPr rs cu cs od hs ps a) (fun x hx => ?_) ?_
      · obtain ⟨y, hy, rfl⟩ := List.mem_map.mp hx
        obtain ⟨b, hbm, rfl⟩ := List.mem_map.mp hy
        refine zwp_turn rfl ?_
        repeat fail
        refine zif (fun h1 => ?_) (fun h1 => ?_)
        · have h1' : decide (a < b) = true := h1
          repeat fail
          refine W.of (both_would_run _ (hS1 _) hp g hr hB ha hbm) ?_
          repeat fail
          refine zif (fun h2 => ?_) (fun h2 => ?_)
          · repeat fail
            refine ⟨?_, rfl⟩
            simp only [gPr, h1', h2, Bool.and_self, if_true]
          · refine ⟨?_, rfl⟩
            have h2' : wouldB rs cu cs od hs ps a b = false := h2
            simp only [gPr, h2', Bool.and_false, Bool.false_eq_true, if_false]
        · repeat fail
          refine zif_f h1 ?_
          refine ⟨?_, rfl⟩
          have h1' : decide (a < b) = false := h1
          simp only [gPr, h1', Bool.false_and, Bool.false_eq_true, if_false]
      · rw [gPr_map]
        refine ⟨_, _, _, rfl, rfl, stGet_at, ?_, ?_⟩
        · simp only [List.length_map]
          unfold sLine; omega
        repeat fail
        refine ⟨dn ++ [a], rest, _, _, by rw [e1]; simp, e2, ?_, ?_, rfl⟩
        · rw [ec, List.length_append, List.length_map, List.length_append, List.length_singleton]
          omega
        · show (S ++ [some (Ob.lst _)]).set S.length _ = _
          rw [set_at, ec]
          simp
  · intro env S' ⟨dn, rest, a3, a6, e1, e2, hb, e3, e4⟩
    have hrr : rest = [] := by
      cases rest with
      | nil => rfl
      | cons _ _ => simp at e2
    subst hrr e3 e4
    rw [List.append_nil] at e1
    rw [← e1]
    repeat fail
    rfl
theorem need_all_run (k : Nat) {rs : List (List Int)} {cu : List Int} {cs : List Cl} {od : Int} {ps : List Int} {hs : List Pl} {S : Sto} (hS : PureS S) (hp : GPe rs cu cs od) (g : GHo hs) (hr : Row rs cs ps) (hB : partB rs cu cs od ps = true) :
    MS.run Gl Pr (k + 8) 39 [.d (peD rs cu cs od), .d (laD hs), .d (paD ps)] S = .ok (.d .none) S := by
  refine W.ok (zwp_run (f := f_need_all) rfl rfl ?_)
  unfold f_need_all
  repeat fail
  refine W.of (need_plea_run _ hS hp) ?_
  repeat fail
  refine W.of (need_houses_run _ _ g) ?_
  repeat fail
  refine W.of (need_parting_run _ hS hp hr hB) ?_
  repeat fail
  exact cutS_self _ _
theorem who_would_run (k : Nat) {rs : List (List Int)} {cu : List Int} {cs : List Cl} {od : Int} {ps : List Int} {hs : List Pl} {S : Sto} (hS : PureS S) (hp : GPe rs cu cs od) (g : GHo hs) (hr : Row rs cs ps) (hB : partB rs cu cs od ps = true) :
    MS.run Gl Pr (k + 9) 40 [.d (peD rs cu cs od), .d (laD hs), .d (paD ps)] S = .ok (.ref S.length) (S ++ [some (.lst (((prsOf rs cu cs od hs ps (hsOf cs)).map plD).map Val.d))]) := by
  refine W.ok (zwp_run (f := f_who_would) rfl rfl ?_)
  unfold f_who_would
  repeat fail
  refine W.of (need_all_run _ hS hp g hr hB) ?_
  repeat fail
  refine W.of (pairs_in_run _ hS hp g hr hB) ?_
  exact ⟨rfl, rfl⟩

-- E8.lean
theorem law_contrary_run (k : Nat) {p : Nat} {rs : List (List Int)} {cu : List Int} {cs : List Cl} {od : Int} {S : Sto} (hp : Pn p S) (hr : goodRows rs = true) : W (MS.run Gl Pr (k + 2) 55 [.ref p, .d (peD rs cu cs od)] S) noX fun v S' => ∃ hs, v = .d (laD hs) ∧ GHo hs ∧ Gen p S S' := by
  have c10 := cells_len hr
  have lc : ((plP 0 99 rs).map plD).length = (plP 0 99 rs).length := by simp
  refine zwp_run (f := f_law_contrary) rfl rfl ?_
  unfold f_law_contrary
  repeat fail
  refine W.of (law_cells_P _ hp.pu hr) ?_
  repeat fail
  refine zws_for ?_
  repeat fail
  refine ⟨⟨by decide, by decide⟩, ?_⟩
  refine ⟨fun xs env S' => ∃ (j : Int) (hs : List Pl) (S2 : Sto) (a2 a5 a6 : Option Val), xs = rangeVs j 4 ∧ 0 ≤ j ∧ j ≤ 4 ∧ (hs.length : Int) = j ∧ (∀ p ∈ hs, (-99 ≤ p.1 ∧ p.1 ≤ 99) ∧ -99 ≤ p.2 ∧ p.2 ≤ 99) ∧ Gen p S S2 ∧ Pn p S2 ∧ S' = S2 ++ [some (.lst ((hs.map plD).map Val.d))] ∧ env = [some (.ref p), some (.d (peD rs cu cs od)), a2, some (.d (.list ((plP 0 99 rs).map plD))), some (.ref S.length), a5, a6], ?_, ?_, ?_⟩
  · exact ⟨0, [], S, none, none, none, rfl, by omega, by omega, rfl, by simp, Gen.refl hp, hp, rfl, rfl⟩
  · intro x xs env S' ⟨j, hs, S2, a2, a5, a6, e1, j0, j4, hl, hb, g, hp2, e2, e3⟩
    have hl2 : S2.length = S.length := g.len
    have hlt : j < 4 := by
      by_cases z : j = 4
      · subst z; rw [rangeVs_nil] at e1; cases e1
      · omega
    rw [rangeVs_cons hlt] at e1
    injection e1 with f1 f2
    subst f1 e2 e3
    refine ⟨_, rfl, ?_⟩
    repeat fail
    refine W.call (draw_ap2 _ hp2 (hp2.pu.app (pureO_d _)) (by rw [lc]; omega) (by rw [lc]; omega)) fun v S3 ⟨r3, T3, e, r30, r31, g3, hp3, hu3, eS⟩ => ?_
    subst e eS
    obtain ⟨i, rfl⟩ := Int.eq_ofNat_of_zero_le r30
    have hi : i < (plP 0 99 rs).length := by rw [lc] at r31; omega
    have ec : ((plP 0 99 rs).map plD)[i]? = some (plD (plP 0 99 rs)[i]) := by rw [List.getElem?_map, List.getElem?_eq_getElem hi]; rfl
    have hc := cell_of (List.getElem_mem hi)
    obtain ⟨ci, cj, ns, n, ecc, h1, h2, _⟩ := hc
    obtain ⟨_, l2, l3, _⟩ := good_parts hr
    have q1 := (l3 ns (List.mem_of_getElem? h1)).2.1
    have q2 := (List.getElem?_eq_some_iff.mp h1).1
    have q3 := (List.getElem?_eq_some_iff.mp h2).1
    refine ⟨_, _, rfl, ixv_list ec, ?_⟩
    rw [ecc]
    refine ⟨_, (rfl : setTg _ (.d (.tuple [.int ci, .int cj])) _ = _), ?_⟩
    repeat fail
    have hl3 : S.length = T3.length := by rw [g3.len, hl2]
    rw [hl3]
    refine ⟨isLst_at, ?_⟩
    repeat fail
    refine W.call (draw_ap2 _ hp3 hu3 (by decide) (by decide)) fun v S4 ⟨r4, T4, e, r40, r41, g4, hp4, hu4, eS⟩ => ?_
    subst e eS
    repeat fail
    refine W.call (draw_ap2 _ hp4 hu4 (by decide) (by decide)) fun v S5 ⟨r5, T5, e, r50, r51, g5, hp5, hu5, eS⟩ => ?_
    subst e eS
    repeat fail
    have hl5 : T3.length = T5.length := by rw [g5.len, g4.len]
    rw [hl5]
    refine ⟨_, _, rfl, stGet_at, ?_, ?_⟩
    · simp only [List.length_map]; unfold sLine; omega
    repeat fail
    refine ⟨j + 1, hs ++ [(ci + r4 - 1, cj + r5 - 1)], T5, _, _, _, f2, by omega, by omega, by simp; omega, fun q hq => ?_, ((g.trans g3).trans g4).trans g5, hp5, ?_, by rw [← hl5, ← hl3]; rfl⟩
    · rcases List.mem_append.mp hq with z | z
      · exact hb q z
      · rw [List.mem_singleton.mp z]
        show (-99 ≤ (ci : Int) + r4 - 1 ∧ (ci : Int) + r4 - 1 ≤ 99) ∧ -99 ≤ (cj : Int) + r5 - 1 ∧ (cj : Int) + r5 - 1 ≤ 99
        omega
    · rw [set_at]; simp [plD]
  · intro env S' ⟨j, hs, S2, a2, a5, a6, e1, j0, j4, hl, hb, g, hp2, e2, e3⟩
    have hl2 : S2.length = S.length := g.len
    have hj : j = 4 := by
      by_cases z : j < 4
      · rw [rangeVs_cons z] at e1; cases e1
      · omega
    subst hj e2 e3
    repeat fail
    rw [← hl2]
    refine ⟨.tuple (hs.map plD), by show (view (S2 ++ [some (.lst ((hs.map plD).map Val.d))]) _).bind _ = _; rw [view_ref stGet_at]; rfl, ?_⟩
    repeat fail
    refine ⟨⟨by omega, hb⟩, ?_⟩
    show Gen p S (cutS S.length _ (S2 ++ [some (.lst ((hs.map plD).map Val.d))]))
    rw [← hl2, cutS_app (fun _ z => by cases z) hp2.pu rfl]
    exact g

-- E9.lean
/-! ### settling -/
theorem sw_eq {a b o h : Int} (ha : h ≠ a) (hb : h ≠ b) : sw a b o = h ↔ o = h := by
  unfold sw
  constructor
  · intro e
    split at e
    · exact absurd e.symm hb
    · split at e
      · exact absurd e.symm ha
      · exact e
  · rintro rfl
    rw [if_neg ha, if_neg hb]
theorem landH_sw (a b h : Int) (ha : h ≠ a) (hb : h ≠ b) : ∀ (cells : List Pl) (ps : List Int), landH cells (ps.map (sw a b)) h = landH cells ps h
  | [], _ => by simp [landH]
  | c :: cells, [] => by simp [landH]
  | c :: cells, o :: ps => by
    rw [List.map_cons, landH_cons, landH_cons, landH_sw a b h ha hb cells ps]
    by_cases e : o = h
    · rw [if_pos e, if_pos ((sw_eq ha hb).mpr e)]
    · rw [if_neg e, if_neg (fun z => e ((sw_eq ha hb).mp z))]
theorem wayP_sw {rs : List (List Int)} {hs : List Pl} {ps : List Int} {a b h : Int} (ha : h ≠ a) (hb : h ≠ b) : wayP rs hs (ps.map (sw a b)) h = wayP rs hs ps h := by
  unfold wayP
  rw [landH_sw a b h ha hb]
theorem wouldB_ways {rs : List (List Int)} {cu : List Int} {cs : List Cl} {od : Int} {hs : List Pl} {ps : List Int} {a b : Int} (hw : wouldB rs cu cs od hs ps a b = true) (h : Int) :
    wayP rs hs (ps.map (sw a b)) h + (if h = a then 1 else 0) ≤ wayP rs hs ps h ∧ wayP rs hs (ps.map (sw a b)) h + (if h = b then 1 else 0) ≤ wayP rs hs ps h := by
  unfold wouldB at hw
  simp only [Bool.and_eq_true, decide_eq_true_eq] at hw
  obtain ⟨_, h1, h2⟩ := hw
  by_cases ha : h = a
  · subst ha
    refine ⟨by rw [if_pos rfl]; omega, ?_⟩
    split <;> omega
  · by_cases hb : h = b
    · subst hb
      refine ⟨by rw [if_neg ha]; omega, by rw [if_pos rfl]; omega⟩
    · rw [wayP_sw ha hb, if_neg ha, if_neg hb]
      omega
theorem wouldB_part {rs : List (List Int)} {cu : List Int} {cs : List Cl} {od : Int} {hs : List Pl} {ps : List Int} {a b : Int} (hw : wouldB rs cu cs od hs ps a b = true) : partB rs cu cs od (ps.map (sw a b)) = true := by
  unfold wouldB at hw
  simp only [Bool.and_eq_true] at hw
  exact hw.1
theorem sumI_less {f g : Int → Int} {a b : Int} (hne : a ≠ b) : ∀ (l : List Int), (∀ h ∈ l, f h + (if h = a then 1 else 0) ≤ g h ∧ f h + (if h = b then 1 else 0) ≤ g h) → (l.map f).sum + (l.count a : Int) + (l.count b : Int) ≤ (l.map g).sum
  | [], _ => by simp
  | x :: l, h => by
    have ih := sumI_less hne l fun y hy => h y (by simp [hy])
    obtain ⟨h1, h2⟩ := h x (by simp)
    simp only [List.map_cons, List.sum_cons, List.count_cons]
    by_cases ha : x = a
    · subst ha
      rw [if_pos rfl] at h1
      have : ¬ (x == b) = true := by simpa using hne
      rw [if_neg this]
      simp
      omega
    · by_cases hb : x = b
      · subst hb
        rw [if_pos rfl] at h2
        have : ¬ (x == a) = true := by simpa using ha
        rw [if_neg this]
        simp
        omega
      · have e1 : ¬ (x == a) = true := by simpa using ha
        have e2 : ¬ (x == b) = true := by simpa using hb
        rw [if_neg e1, if_neg e2]
        rw [if_neg ha] at h1
        simp
        omega
def sumP (rs : List (List Int)) (cs : List Cl) (hs : List Pl) (ps : List Int) : Int := (waysP rs cs hs ps).sum
theorem sumP_sw {rs : List (List Int)} {cu : List Int} {cs : List Cl} {od : Int} {hs : List Pl} {ps : List Int} {a b : Int} (ha : a ∈ hsOf cs) (hb : b ∈ hsOf cs) (hne : a ≠ b) (hw : wouldB rs cu cs od hs ps a b = true) : sumP rs cs hs (ps.map (sw a b)) + 2 ≤ sumP rs cs hs ps := by
  have := sumI_less (f := wayP rs hs (ps.map (sw a b))) (g := wayP rs hs ps) hne (hsOf cs) fun h _ => wouldB_ways hw h
  have c1 : 0 < (hsOf cs).count a := List.count_pos_iff.mpr ha
  have c2 : 0 < (hsOf cs).count b := List.count_pos_iff.mpr hb
  unfold sumP waysP
  omega
theorem minI_mem : ∀ {n : Int} {ns : List Int}, ∃ m ∈ (n :: ns), minI (n :: ns) = some m
  | n, [] => ⟨n, by simp, rfl⟩
  | n, m :: ns => by
    show ∃ k ∈ (n :: m :: ns), some (ns.foldl (fun a b => if b < a then b else a) (if m < n then m else n)) = some k
    by_cases h : m < n
    · rw [if_pos h]
      obtain ⟨k, hk, e⟩ := minI_mem (n := m) (ns := ns)
      have e : some (ns.foldl (fun a b => if b < a then b else a) m) = some k := e
      exact ⟨k, by simp only [List.mem_cons] at hk ⊢; exact .inr hk, e⟩
    · rw [if_neg h]
      obtain ⟨k, hk, e⟩ := minI_mem (n := n) (ns := ns)
      have e : some (ns.foldl (fun a b => if b < a then b else a) n) = some k := e
      exact ⟨k, by simp only [List.mem_cons] at hk ⊢; rcases hk with z | z; exact .inl z; exact .inr (.inr z), e⟩
theorem iabs_nn (i : Int) : 0 ≤ iabs i := by unfold iabs; split <;> omega
theorem wayM_mem {h : Pl} {l : List Pl} (hl : l ≠ []) : wayM h l ∈ wayL h l := by
  unfold wayM
  have hn := wayL_ne (h := h) hl
  cases e : wayL h l with
  | nil => exact absurd e hn
  | cons n ns =>
    obtain ⟨m, hm, e2⟩ := minI_mem (n := n) (ns := ns)
    rw [e2]; exact hm
theorem wayM_nn {h : Pl} {l : List Pl} (hl : l ≠ []) : 0 ≤ wayM h l := by
  have := wayM_mem (h := h) hl
  unfold wayL at this
  obtain ⟨c, _, e⟩ := List.mem_map.mp this
  rw [← e]
  have := iabs_nn (c.1 - h.1)
  have := iabs_nn (c.2 - h.2)
  omega
theorem wayP_nn {rs : List (List Int)} {cu : List Int} {cs : List Cl} {od h : Int} {hs : List Pl} {ps : List Int} (hB : partB rs cu cs od ps = true) (hm : h ∈ hsOf cs) : 0 ≤ wayP rs hs ps h := wayM_nn (fit_ne (part_fit hB hm))
theorem sumI_nn : ∀ {l : List Int}, (∀ x ∈ l, 0 ≤ x) → 0 ≤ l.sum
  | [], _ => by simp
  | x :: l, h => by
    have := sumI_nn (l := l) fun y hy => h y (by simp [hy])
    have := h x (by simp)
    simp only [List.sum_cons]; omega
theorem sumI_le : ∀ {l : List Int} {k : Int}, (∀ x ∈ l, x ≤ k) → 0 ≤ k → l.sum ≤ k * l.length
  | [], _, _, _ => by simp
  | x :: l, k, h, hk => by
    have := sumI_le (l := l) (k := k) (fun y hy => h y (by simp [hy])) hk
    have := h x (by simp)
    simp only [List.sum_cons, List.length_cons]
    rw [show ((l.length + 1 : Nat) : Int) = (l.length : Int) + 1 from rfl, Int.mul_add]
    omega
theorem sumP_nn {rs : List (List Int)} {cu : List Int} {cs : List Cl} {od : Int} {hs : List Pl} {ps : List Int} (hB : partB rs cu cs od ps = true) : 0 ≤ sumP rs cs hs ps := by
  refine sumI_nn fun x hx => ?_
  obtain ⟨h, hm, rfl⟩ := List.mem_map.mp hx
  exact wayP_nn hB hm
theorem wayP_le {rs : List (List Int)} {cu : List Int} {cs : List Cl} {od h : Int} {hs : List Pl} {ps : List Int} (hp : GPe rs cu cs od) (g : GHo hs) (hB : partB rs cu cs od ps = true) (hm : h ∈ hsOf cs) : wayP rs hs ps h ≤ 1000 := by
  have hl := fit_ne (part_fit hB hm)
  have := wayM_mem (h := home hs h) hl
  unfold wayL at this
  obtain ⟨c, hc, e⟩ := List.mem_map.mp this
  have hcell := cell_small hp.m ((landH_land rs ps h).s.subset hc)
  simp only [smallK, Bool.and_eq_true, decide_eq_true_eq] at hcell
  obtain ⟨⟨c1, c2⟩, c3, c4⟩ := hcell
  obtain ⟨b0, b3⟩ := hold_bd hp.c hm
  have hh : home hs h ∈ hs := by
    unfold home
    have : h.toNat < hs.length := by rw [g.l]; omega
    rw [List.getD_eq_getElem?_getD, List.getElem?_eq_getElem this]
    exact List.getElem_mem this
  obtain ⟨⟨d1, d2⟩, d3, d4⟩ := g.b _ hh
  have e1 : iabs (c.1 - (home hs h).1) ≤ 300 := by unfold iabs; split <;> omega
  have e2 : iabs (c.2 - (home hs h).2) ≤ 300 := by unfold iabs; split <;> omega
  show wayM (home hs h) (landH (plP 0 99 rs) ps h) ≤ 1000
  rw [← e]
  omega
theorem sumP_lt {rs : List (List Int)} {cu : List Int} {cs : List Cl} {od : Int} {hs : List Pl} {ps : List Int} (hp : GPe rs cu cs od) (g : GHo hs) (hB : partB rs cu cs od ps = true) : sumP rs cs hs ps ≤ 12000 := by
  have hl12 : (hsOf cs).length ≤ 12 := Nat.le_trans hs_len hp.c.l2
  have hb : ∀ x ∈ waysP rs cs hs ps, x ≤ 1000 := fun x hx => by
    obtain ⟨h, hm, rfl⟩ := List.mem_map.mp hx
    exact wayP_le hp g hB hm
  have := sumI_le (l := waysP rs cs hs ps) (k := 1000) hb (by decide)
  have e : (waysP rs cs hs ps).length = (hsOf cs).length := by unfold waysP; rw [List.length_map]
  unfold sumP
  omega
theorem prs_head {rs : List (List Int)} {cu : List Int} {cs : List Cl} {od : Int} {hs : List Pl} {ps : List Int} {p : Pl} (h : p ∈ prsOf rs cu cs od hs ps (hsOf cs)) : p.1 ∈ hsOf cs ∧ p.2 ∈ hsOf cs ∧ p.1 ≠ p.2 ∧ wouldB rs cu cs od hs ps p.1 p.2 = true := by
  unfold prsOf at h
  obtain ⟨a, ha, h⟩ := List.mem_flatMap.mp h
  obtain ⟨b, hb, rfl⟩ := List.mem_map.mp h
  obtain ⟨hb1, hb2⟩ := List.mem_filter.mp hb
  simp only [Bool.and_eq_true, decide_eq_true_eq] at hb2
  exact ⟨ha, hb1, fun z => by have := hb2.1; dsimp only at z; omega, hb2.2⟩
/-- exchanged again and again, by the first pair each time -/
inductive Stl (rs : List (List Int)) (cu : List Int) (cs : List Cl) (od : Int) (hs : List Pl) : List Int → List Int → Prop
  | done {ps : List Int} : prsOf rs cu cs od hs ps (hsOf cs) = [] → Stl rs cu cs od hs ps ps
  | step {ps qs : List Int} {p : Pl} {r : List Pl} : prsOf rs cu cs od hs ps (hsOf cs) = p :: r → Stl rs cu cs od hs (ps.map (sw p.1 p.2)) qs → Stl rs cu cs od hs ps qs
theorem Stl.det {rs : List (List Int)} {cu : List Int} {cs : List Cl} {od : Int} {hs : List Pl} {ps q1 q2 : List Int} (h1 : Stl rs cu cs od hs ps q1) (h2 : Stl rs cu cs od hs ps q2) : q1 = q2 := by
  induction h1 with
  | done e =>
    cases h2 with
    | done _ => rfl
    | step e2 _ => rw [e] at e2; cases e2
  | step e _ ih =>
    cases h2 with
    | done e2 => rw [e] at e2; cases e2
    | step e2 s2 => rw [e] at e2; cases e2; exact ih s2
/-- where a row of exchanges stands -/
structure Mid (rs : List (List Int)) (cu : List Int) (cs : List Cl) (od : Int) (hs : List Pl) (ps qs : List Int) : Prop where
  row : Row rs cs qs
  par : partB rs cu cs od qs = true
  way : ∀ h, wayP rs hs qs h ≤ wayP rs hs ps h
  go : ∀ r, Stl rs cu cs od hs qs r → Stl rs cu cs od hs ps r
theorem Mid.next {rs : List (List Int)} {cu : List Int} {cs : List Cl} {od : Int} {hs : List Pl} {ps qs : List Int} {p : Pl} {r : List Pl} (m : Mid rs cu cs od hs ps qs) (e : prsOf rs cu cs od hs qs (hsOf cs) = p :: r) : Mid rs cu cs od hs ps (qs.map (sw p.1 p.2)) ∧ sumP rs cs hs (qs.map (sw p.1 p.2)) + 2 ≤ sumP rs cs hs qs := by
  obtain ⟨h1, h2, h3, h4⟩ := prs_head (rs := rs) (cu := cu) (cs := cs) (od := od) (hs := hs) (ps := qs) (p := p) (by rw [e]; simp)
  refine ⟨⟨m.row.sw h1 h2, wouldB_part h4, fun h => ?_, fun r' s => m.go r' (.step e s)⟩, sumP_sw h1 h2 h3 h4⟩
  have w1 := (wouldB_ways h4 h).1
  have w2 := m.way h
  split at w1 <;> omega
theorem ne_nil_list {xs : List D} (h : PyData.canLayAll0 xs = true) : cmpD .ne (.list xs) (.list []) = some (!xs.isEmpty) := by
  have e : cmpD .ne (.list xs) (.list []) = (eqD (.list xs) (.list [])).map (!·) := rfl
  rw [e]
  unfold eqD eqOk
  have h1 : PyData.canLay0 (.list xs) = true := by simpa [PyData.canLay0] using h
  have h2 : (PyData.list []).canLay0 = true := by decide +kernel
  have h3 : decide ((PyData.list []).depth ≤ 64) = true := by decide +kernel
  rw [h1, h2, h3]
  simp only [Bool.and_self, Bool.or_true, if_true]
  cases xs with
  | nil => simp [PyData.eqv, PyData.eqvAll]
  | cons x xs => simp [PyData.eqv, PyData.eqvAll]
theorem lay_prs (l : List Pl) : PyData.canLayAll0 (l.map plD) = true := by
  refine lay_all fun x hx => ?_
  obtain ⟨p, _, rfl⟩ := List.mem_map.mp hx
  show PyData.canLay0 (plD p) = true
  simp [plD, PyData.canLay0, PyData.canLayAll0]
theorem ix_ref0 {S : Sto} {n : Nat} {x : D} {xs : List D} (h : stGet S n = some (.lst ((x :: xs).map Val.d))) : ixV S (.ref n) (.int 0) = some (.d x) := by
  simp only [ixV, h]
  have e : ixOf ((x :: xs).map Val.d).length 0 = some 0 := by
    unfold ixOf
    rw [if_pos (Int.le_refl 0), if_pos (by simp)]; rfl
  unfold atD
  rw [e]
  rfl
def unI : D → Int
  | .int i => i
  | _ => 0
def unPs : Option (Option Val) → List Int
  | some (some (.d (.tuple xs))) => xs.map unI
  | _ => []
theorem unPs_d (ps : List Int) : unPs (some (some (.d (paD ps)))) = ps := by
  unfold unPs
  simp only [List.map_map]
  exact (List.map_congr_left fun x _ => rfl).trans (List.map_id ps)
theorem settled_run (k : Nat) {rs : List (List Int)} {cu : List Int} {cs : List Cl} {od : Int} {ps : List Int} {hs : List Pl} {S : Sto} (hS : PureS S) (hp : GPe rs cu cs od) (g : GHo hs) (hr : Row rs cs ps) (hB : partB rs cu cs od ps = true) :
    ∃ qs, Mid rs cu cs od hs ps qs ∧ prsOf rs cu cs od hs qs (hsOf cs) = [] ∧ MS.run Gl Pr (k + 10) 41 [.d (peD rs cu cs od), .d (laD hs), .d (paD ps)] S = .ok (.d (paD qs)) S := by
  have : W (MS.run Gl Pr (k + 10) 41 [.d (peD rs cu cs od), .d (laD hs), .d (paD ps)] S) noX fun v S' => S' = S ∧ ∃ qs, v = .d (paD qs) ∧ Mid rs cu cs od hs ps qs ∧ prsOf rs cu cs od hs qs (hsOf cs) = [] := by
    refine zwp_run (f := f_settled) rfl rfl ?_
    unfold f_settled
    repeat fail
    refine W.of (need_all_run _ hS hp g hr hB) ?_
    repeat fail
    refine W.of (pairs_in_run _ hS hp g hr hB) ?_
    refine zws_cons ?_
    refine zws_while (fun env S' => ∃ qs n T, Mid rs cu cs od hs ps qs ∧ S' = S ++ T ∧ PureS (S ++ T) ∧ stGet S' n = some (.lst (((prsOf rs cu cs od hs qs (hsOf cs)).map plD).map Val.d)) ∧ env = [some (.d (peD rs cu cs od)), some (.d (laD hs)), some (.d (paD qs)), some (.ref n)]) (fun env _ => (sumP rs cs hs (unPs env[2]?)).toNat) ⟨ps, S.length, [some (.lst (((prsOf rs cu cs od hs ps (hsOf cs)).map plD).map Val.d))], ⟨hr, hB, fun _ => Int.le_refl _, fun _ s => s⟩, rfl, hS.app (pureO_d _), stGet_at, rfl⟩ ?_ ?_
    · show (sumP rs cs hs (unPs (some (some (.d (paD ps)))))).toNat < 100000
      rw [unPs_d]
      have := sumP_lt hp g hB
      omega
    · intro env S' ⟨qs, n, T, m, e1, hT, hn, e2⟩
      subst e1 e2
      repeat fail
      refine ⟨_, _, _, view_ref hn, rfl, ne_nil_list (lay_prs _), ?_⟩
      repeat fail
      cases q : prsOf rs cu cs od hs qs (hsOf cs) with
      | nil =>
        repeat fail
        exact ⟨cutS_app (fun _ z => by cases z) hS rfl, qs, rfl, m, q⟩
      | cons p r =>
        rw [q] at hn
        obtain ⟨m2, hl⟩ := m.next q
        repeat fail
        refine ⟨_, _, rfl, ix_ref0 hn, ?_⟩
        repeat fail
        refine ⟨_, _, rfl, ix_ref0 hn, ?_⟩
        repeat fail
        refine W.of (swapped_run _ _) ?_
        repeat fail
        refine W.of (pairs_in_run _ hT hp g m2.row m2.par) ?_
        repeat fail
        refine ⟨⟨_, (S ++ T).length, T ++ [some (.lst (((prsOf rs cu cs od hs (qs.map (sw p.1 p.2)) (hsOf cs)).map plD).map Val.d))], m2, by rw [List.append_assoc], by rw [← List.append_assoc]; exact hT.app (pureO_d _), stGet_at, rfl⟩, ?_⟩
        show (sumP rs cs hs (unPs (some (some (.d (paD (qs.map (sw p.1 p.2)))))))).toNat < (sumP rs cs hs (unPs (some (some (.d (paD qs)))))).toNat
        rw [unPs_d, unPs_d]
        have := sumP_nn (hs := hs) m2.par
        omega
  obtain ⟨v, S', e, rfl, qs, rfl, h1, h2⟩ := this.ex
  exact ⟨qs, h1, h2, e⟩

-- F1.lean
theorem mem_cut {α : Type} {xs : List α} {lo hi : Option Int} {x : α} (h : x ∈ cut xs lo hi) : x ∈ xs := by
  unfold cut at h
  exact List.mem_of_mem_drop (List.mem_of_mem_take h)
theorem eqvAll_ints : ∀ (a b : List Int), PyData.eqvAll (a.map PyData.int) (b.map PyData.int) = decide (a = b)
  | [], [] => by simp [PyData.eqvAll]
  | [], _ :: _ => by simp [PyData.eqvAll]
  | _ :: _, [] => by simp [PyData.eqvAll]
  | p :: l, q :: m => by
    rw [List.map_cons, List.map_cons, PyData.eqvAll, eqv_int, eqvAll_ints l m, ← Bool.decide_and]
    simp
theorem depthA_ints : ∀ (ns : List Int), PyData.depthAll (ns.map PyData.int) = 0
  | [] => by simp [PyData.depthAll]
  | n :: ns => by simp only [List.map_cons, PyData.depthAll, depthA_ints ns, PyData.depth]; rfl
theorem eqD_pa (a b : List Int) : eqD (paD a) (paD b) = some (decide (a = b)) := by
  unfold eqD
  have h : eqOk (paD a) (paD b) = true := by
    unfold eqOk
    have h1 : ∀ ns : List Int, PyData.canLay0 (paD ns) = true := fun ns => by
      have := lay_ints ns
      simpa [PyData.canLay0] using this
    have h2 : (paD a).depth ≤ 64 := by simp only [PyData.depth, depthA_ints]; decide
    rw [h1, h1, decide_eq_true h2]; rfl
  rw [if_pos h]
  have : PyData.eqv (paD a) (paD b) = PyData.eqvAll (a.map PyData.int) (b.map PyData.int) := by simp [PyData.eqv]
  rw [this, eqvAll_ints]
theorem law_ways_run (k : Nat) {rs : List (List Int)} {cu : List Int} {cs : List Cl} {od : Int} {ps : List Int} {hs : List Pl} {S : Sto} (hS : PureS S) (hp : GPe rs cu cs od) (g : GHo hs) (hr : Row rs cs ps) (hB : partB rs cu cs od ps = true) :
    MS.run Gl Pr (k + 9) 56 [.d (peD rs cu cs od), .d (laD hs), .d (paD ps)] S = .ok (.d (.list ((waysP rs cs hs ps).map PyData.int))) S := by
  refine W.ok (zwp_run (f := f_law_ways) rfl rfl ?_)
  unfold f_law_ways
  repeat fail
  refine W.of (law_holders_P _ _ hp.c.l2) ?_
  repeat fail
  refine zcomp_map (g := gD (wayV rs hs ps)) (fun x hx => ?_) ?_
  · obtain ⟨y, hy, rfl⟩ := List.mem_map.mp hx
    obtain ⟨o, ho, rfl⟩ := List.mem_map.mp hy
    refine zwp_turn rfl ?_
    repeat fail
    refine W.of (far_of_run _ hS hp g hr hB ho) ?_
    repeat fail
    rfl
  · rw [gD_map, wayV_map]
    exact ⟨rfl, cutS_self _ _⟩
theorem is_parting_run (k : Nat) {rs : List (List Int)} {cu : List Int} {cs : List Cl} {od : Int} {ps : List Int} {S : Sto} (hS : PureS S) (hp : GPe rs cu cs od) (hr : Row rs cs ps) :
    MS.run Gl Pr (k + 8) 26 [.d (peD rs cu cs od), .d (paD ps)] S = .ok (.d (.bool (partB rs cu cs od ps))) S := by
  refine W.ok (zwp_run (f := f_is_parting) rfl rfl ?_)
  unfold f_is_parting
  repeat fail
  refine W.of (need_plea_run _ hS hp) ?_
  repeat fail
  refine W.of (is_parted_run _ hS hp hr) ?_
  exact ⟨rfl, cutS_self _ _⟩
theorem zip_ways (f g : Int → Int) (h : ∀ x, f x ≤ g x) : ∀ (l : List Int), ((l.map f).map PyData.int).zip ((l.map g).map PyData.int) = l.map fun x => (PyData.int (f x), PyData.int (g x))
  | [] => rfl
  | x :: l => by simp only [List.map_cons, List.zip_cons_cons, zip_ways f g h l]
theorem right_run (k : Nat) {rs : List (List Int)} {cu : List Int} {cs : List Cl} {od : Int} {ps : List Int} {hs : List Pl} {S : Sto} (hS : PureS S) (hp : GPe rs cu cs od) (g : GHo hs) (hr : Row rs cs ps) (hB : partB rs cu cs od ps = true) :
    MS.run Gl Pr (k + 12) 57 [.d (peD rs cu cs od), .d (laD hs), .d (paD ps)] S = .ok (.d (.bool true)) S := by
  refine W.ok (zwp_run (f := f_law_right) rfl rfl ?_)
  unfold f_law_right
  repeat fail
  refine W.of (law_ways_run _ hS hp g hr hB) ?_
  refine ⟨_, biV_sumI, ?_⟩
  repeat fail
  refine W.of (who_would_run _ hS hp g hr hB) ?_
  refine zws_cons ?_
  refine zws_while (fun env S' => ∃ qs n T a8, Mid rs cu cs od hs ps qs ∧ S' = S ++ T ∧ PureS (S ++ T) ∧ stGet S' n = some (.lst (((prsOf rs cu cs od hs qs (hsOf cs)).map plD).map Val.d)) ∧ env = [some (.d (peD rs cu cs od)), some (.d (laD hs)), some (.d (paD ps)), some (.ref n), none, none, some (.d (paD qs)), some (.d (.int (sumP rs cs hs qs))), a8, none, none]) (fun env _ => (sumP rs cs hs (unPs env[6]?)).toNat) ⟨ps, S.length, [some (.lst (((prsOf rs cu cs od hs ps (hsOf cs)).map plD).map Val.d))], none, ⟨hr, hB, fun _ => Int.le_refl _, fun _ s => s⟩, rfl, hS.app (pureO_d _), stGet_at, rfl⟩ ?_ ?_
  · show (sumP rs cs hs (unPs (some (some (.d (paD ps)))))).toNat < 100000
    rw [unPs_d]
    have := sumP_lt hp g hB
    omega
  · intro env S' ⟨qs, n, T, a8, m, e1, hT, hn, e2⟩
    subst e1 e2
    repeat fail
    refine ⟨_, _, _, view_ref hn, rfl, ne_nil_list (lay_prs _), ?_⟩
    repeat fail
    cases q : prsOf rs cu cs od hs qs (hsOf cs) with
    | nil =>
      obtain ⟨ts, mt, zt, et⟩ := settled_run (k + 1) hT hp g hr hB
      have ets : ts = qs := (mt.go ts (.done zt)).det (m.go qs (.done q))
      subst ets
      obtain ⟨us, mu, zu, eu⟩ := settled_run (k + 1) hT hp g m.row m.par
      have eus : us = ts := (mu.go us (.done zu)).det (.done q)
      subst eus
      repeat fail
      refine W.of et ?_
      repeat fail
      refine ⟨_, _, _, rfl, rfl, (show (eqD (paD us) (paD us)).map (!·) = some _ by rw [eqD_pa]; rfl), ?_⟩
      refine ⟨_, rfl, ?_⟩
      refine zif_t (by simp) ?_
      repeat fail
      refine W.of (is_parting_run _ hT hp m.row) ?_
      rw [m.par]
      repeat fail
      refine W.of (law_ways_run _ hT hp g m.row m.par) ?_
      repeat fail
      refine W.of (law_ways_run _ hT hp g hr hB) ?_
      repeat fail
      refine zcomp_map (g := fun _ => none) (fun x hx => ?_) ?_
      · obtain ⟨y, hy, rfl⟩ := List.mem_map.mp hx
        unfold waysP at hy
        rw [zip_ways _ _ m.way, List.map_map] at hy
        obtain ⟨h, _, rfl⟩ := List.mem_map.mp hy
        have hw := m.way h
        refine zwp_turn rfl ?_
        repeat fail
        refine zif_f (by show decide (wayP rs hs ps h < wayP rs hs us h) = false; exact decide_eq_false (by omega)) ?_
        exact ⟨rfl, rfl⟩
      · rw [show ∀ l : List Val, l.filterMap (fun _ => (none : Option D)) = [] from fun l => by induction l with
          | nil => rfl
          | cons x l ih => rw [List.filterMap_cons]; exact ih]
        repeat fail
        refine W.of eu ?_
        repeat fail
        refine ⟨_, _, _, rfl, rfl, (show eqD (paD us) (paD us) = some _ by rw [eqD_pa]), ?_⟩
        refine ⟨?_, cutS_app (fun _ z => by cases z) hS rfl⟩
        simp
    | cons p r =>
      rw [q] at hn
      obtain ⟨m2, hl⟩ := m.next q
      obtain ⟨pa, pb, pn, pw⟩ := prs_head (rs := rs) (cu := cu) (cs := cs) (od := od) (hs := hs) (ps := qs) (p := p) (by rw [q]; simp)
      repeat fail
      refine ⟨_, _, rfl, ix_ref0 hn, ?_⟩
      repeat fail
      refine ⟨_, _, rfl, ix_ref0 hn, ?_⟩
      repeat fail
      refine W.of (exchanged_yes _ hT hp g m.row m.par pa pb pn pw) ?_
      repeat fail
      refine W.of (law_ways_run _ hT hp g m2.row m2.par) ?_
      refine ⟨_, biV_sumI, ?_⟩
      repeat fail
      refine zif_f (by show decide (sumP rs cs hs qs - 2 < sumP rs cs hs (qs.map (sw p.1 p.2))) = false; exact decide_eq_false (by omega)) ?_
      repeat fail
      refine W.of (who_would_run _ hT hp g m2.row m2.par) ?_
      repeat fail
      refine ⟨⟨_, (S ++ T).length, T ++ [some (.lst (((prsOf rs cu cs od hs (qs.map (sw p.1 p.2)) (hsOf cs)).map plD).map Val.d))], _, m2, by rw [List.append_assoc], by rw [← List.append_assoc]; exact hT.app (pureO_d _), stGet_at, rfl⟩, ?_⟩
      show (sumP rs cs hs (unPs (some (some (.d (paD (qs.map (sw p.1 p.2)))))))).toNat < (sumP rs cs hs (unPs (some (some (.d (paD qs)))))).toNat
      rw [unPs_d, unPs_d]
      have := sumP_nn (hs := hs) m2.par
      omega
theorem law_pure (ns : List Int) : ∃ S, MS.run Gl Pr 60 58 [.scr ns] [] = .ok (.d (.bool true)) S := by
  have : W (MS.run Gl Pr 60 58 [.scr ns] []) noX fun v _ => v = .d (.bool true) := by
    refine zwp_run (k := 59) (f := f_law) rfl rfl ?_
    unfold f_law
    repeat fail
    refine zws_for ?_
    repeat fail
    refine W.call (cell_run 58 ns []) fun v S' ⟨c, e, e2⟩ => ?_
    subst e e2
    repeat fail
    have c3 : (cut ns (some 1) (some 3)).length ≤ 2 := by
      unfold cut
      rw [List.length_take, sIx_nn (by decide), sIx_nn (by decide)]
      have : (3 : Int).toNat = 3 := rfl
      have : (1 : Int).toNat = 1 := rfl
      omega
    refine ⟨_, _, _, rfl, rfl, add_lst ?_, ?_⟩
    · show ([PyData.int c]).length + ((cut ns (some 1) (some 3)).map PyData.int).length ≤ sLine
      simp only [List.length_map, List.length_singleton]
      unfold sLine; omega
    repeat fail
    refine ⟨fun xs env S' => PureS S' ∧ (∀ x ∈ xs, ∃ n, x = .d (.int n)) ∧ ∃ a1 a2 a3 a4 a5 a6 a7, env = [some (.scr ns), a1, a2, a3, a4, a5, a6, a7], ?_, ?_, ?_⟩
    · refine ⟨PureS.nil, fun x hx => ?_, none, none, none, none, none, none, none, rfl⟩
      obtain ⟨y, hy, rfl⟩ := List.mem_map.mp hx
      have hy' : y ∈ [PyData.int c] ++ (cut ns (some 1) (some 3)).map PyData.int := hy
      rcases List.mem_append.mp hy' with z | z
      · exact ⟨c, by rw [List.mem_singleton.mp z]⟩
      · obtain ⟨m, _, rfl⟩ := List.mem_map.mp z
        exact ⟨m, rfl⟩
    · intro x rr env S0 ⟨hS, hx, a1, a2, a3, a4, a5, a6, a7, he⟩
      subst he
      obtain ⟨n, rfl⟩ := hx x (by simp)
      have hx' : ∀ y ∈ rr, ∃ n, y = .d (.int n) := fun y hy => hx y (by simp [hy])
      refine ⟨_, rfl, ?_⟩
      repeat fail
      refine W.call (pen_run 58 n hS) fun v S1 ⟨e1, hp⟩ => ?_
      subst e1
      repeat fail
      refine W.call (law_loose_run 57 hp) fun v S2 ⟨rs, cu, cs, od, e2, hq, h6, h3, g2⟩ => ?_
      subst e2
      have hp2 := g2.pn hp
      repeat fail
      refine W.call (law_contrary_run 57 hp2 hq.m) fun v S3 ⟨hs, e3, hg, g3⟩ => ?_
      subst e3
      have hp3 := g3.pn hp2
      repeat fail
      refine W.call (law_partings_run 53 hp3.pu hq h6 h3) fun v S4 ⟨out, e4, hF, hlo, e5⟩ => ?_
      subst e4 e5
      have ol : (out.map paD).length ≤ 262144 := by rw [List.length_map]; exact hlo
      repeat fail
      refine W.call (draw_run 58 hp3 (by omega) (by omega)) fun v S5 ⟨at_, e6, r0, r1, g5⟩ => ?_
      subst e6
      have hp5 := g5.pn hp3
      repeat fail
      refine zws_for ?_
      repeat fail
      have cl : ∀ {xs : List D} {lo hi : Option Int}, xs.length ≤ 262144 → (cut xs lo hi).length ≤ 262144 := fun h => Nat.le_trans (cut_len _ _ _) h
      refine ⟨_, _, _, rfl, rfl, add_lst ?_, ?_⟩
      · have l1 := cl (xs := out.map paD) (lo := none) (hi := some 1) ol
        have l2 := cl (xs := out.map paD) (lo := some at_) (hi := some (at_ + 2)) ol
        unfold sLine
        exact Nat.le_trans (Nat.add_le_add l1 l2) (by decide)
      repeat fail
      refine ⟨_, _, _, rfl, rfl, add_lst ?_, ?_⟩
      · have l1 := cl (xs := out.map paD) (lo := none) (hi := some 1) ol
        have l2 := cl (xs := out.map paD) (lo := some at_) (hi := some (at_ + 2)) ol
        have l3 := cl (xs := out.map paD) (lo := some (-1)) (hi := none) ol
        rw [List.length_append]
        unfold sLine
        exact Nat.le_trans (Nat.add_le_add (Nat.add_le_add l1 l2) l3) (by decide)
      repeat fail
      refine ⟨fun xs env S' => PureS S' ∧ (∀ x ∈ xs, ∃ ps ∈ out, x = .d (paD ps)) ∧ ∃ b1 b2 b4 b5 b7, env = [some (.scr ns), b1, b2, some (.d (peD rs cu cs od)), b4, b5, some (.d (laD hs)), b7], ?_, ?_, ?_⟩
      · refine ⟨hp5.pu, fun x hx => ?_, _, _, _, _, _, rfl⟩
        obtain ⟨y, hy, rfl⟩ := List.mem_map.mp hx
        have hm : y ∈ out.map paD := by
          rcases List.mem_append.mp hy with z | z
          · rcases List.mem_append.mp z with z | z
            · exact mem_cut z
            · exact mem_cut z
          · exact mem_cut z
        obtain ⟨ps, hps, rfl⟩ := List.mem_map.mp hm
        exact ⟨ps, hps, rfl⟩
      · intro x xs env S6 ⟨hS6, hxs, b1, b2, b4, b5, b7, he⟩
        subst he
        obtain ⟨ps, hps, rfl⟩ := hxs x (by simp)
        have hxs' : ∀ y ∈ xs, ∃ ps ∈ out, y = .d (paD ps) := fun y hy => hxs y (by simp [hy])
        obtain ⟨hR, hB⟩ := hF ps hps
        refine ⟨_, rfl, ?_⟩
        repeat fail
        refine W.of (right_run 47 hS6 hq hg hR hB) ?_
        repeat fail
        exact ⟨hS6, hxs', _, _, _, _, _, rfl⟩
      · intro env S6 ⟨hS6, hxs, b1, b2, b4, b5, b7, he⟩
        subst he
        repeat fail
        exact ⟨hS6, hx', _, _, _, _, _, _, _, rfl⟩
    · intro env S' ⟨hS, hx, a1, a2, a3, a4, a5, a6, a7, he⟩
      subst he
      repeat fail
      rfl
  obtain ⟨v, S, e, rfl⟩ := this.ex
  exact ⟨S, e⟩

end
section
open PySem PySem.Spec PyProof.Rows L2 MS
def topS (i : Nat) : Stmt := PySem.Challenge.pw_meadshares_k52_whole_settled_at_last.main.body.getD i (.Pass ⟨0, 0, 0, 0⟩)
def e_is_from : Ent := ⟨0, "is_from", ["thing", "least", "most"], ["thing", "least", "most"], topS 14⟩
def e_rises : Ent := ⟨1, "rises", ["thing"], ["thing", "at"], topS 15⟩
def e_places_of : Ent := ⟨2, "places_of", ["mead", "least", "most"], ["mead", "least", "most", "found", "row", "numbers", "column", "number"], topS 16⟩
def e_is_mead : Ent := ⟨3, "is_mead", ["thing"], ["thing", "row", "number"], topS 17⟩
def e_cells_in : Ent := ⟨4, "cells_in", ["mead"], ["mead"], topS 18⟩
def e_worth_in : Ent := ⟨5, "worth_in", ["mead", "places"], ["mead", "places", "row", "column"], topS 19⟩
def e_beside : Ent := ⟨6, "beside", ["place"], ["place", "row", "column"], topS 20⟩
def e_is_custom : Ent := ⟨7, "is_custom", ["thing"], ["thing", "count"], topS 27⟩
def e_is_claim : Ent := ⟨8, "is_claim", ["thing"], ["thing"], topS 28⟩
def e_are_claims : Ent := ⟨9, "are_claims", ["thing"], ["thing", "one"], topS 29⟩
def e_stand : Ent := ⟨10, "stand", ["custom", "claims"], ["custom", "claims", "holder", "sort", "many"], topS 30⟩
def e_holders_in : Ent := ⟨11, "holders_in", ["claims"], ["claims", "one"], topS 31⟩
def e_need_holder : Ent := ⟨12, "need_holder", ["claims", "holder"], ["claims", "holder"], topS 32⟩
def e_counted : Ent := ⟨13, "counted", ["custom", "claims", "holder"], ["custom", "claims", "holder", "one", "sort", "many"], topS 33⟩
def e_counted_all : Ent := ⟨14, "counted_all", ["custom", "claims"], ["custom", "claims", "one", "sort", "many"], topS 34⟩
def e_piece_from : Ent := ⟨15, "piece_from", ["land", "place"], ["land", "place", "line", "at", "one"], topS 36⟩
def e_is_whole : Ent := ⟨16, "is_whole", ["land"], ["land"], topS 37⟩
def e_lies_at_road : Ent := ⟨17, "lies_at_road", ["mead", "land"], ["mead", "land", "roads", "place", "one"], topS 38⟩
def e_is_plea : Ent := ⟨18, "is_plea", ["thing"], ["thing"], topS 41⟩
def e_need_plea : Ent := ⟨19, "need_plea", ["plea"], ["plea"], topS 42⟩
def e_due_in : Ent := ⟨20, "due_in", ["plea", "holder"], ["plea", "holder", "mead", "custom", "claims", "odd"], topS 43⟩
def e_is_worth : Ent := ⟨21, "is_worth", ["plea", "due", "land"], ["plea", "due", "land", "top", "bottom"], topS 44⟩
def e_fits_due : Ent := ⟨22, "fits_due", ["plea", "due", "land"], ["plea", "due", "land"], topS 45⟩
def e_is_fit : Ent := ⟨23, "is_fit", ["plea", "holder", "land"], ["plea", "holder", "land"], topS 46⟩
def e_land_by_holder : Ent := ⟨24, "land_by_holder", ["plea", "parting", "holder"], ["plea", "parting", "holder", "cell", "own"], topS 48⟩
def e_is_parted : Ent := ⟨25, "is_parted", ["plea", "thing"], ["plea", "thing", "holders", "holder", "own"], topS 49⟩
def e_is_parting : Ent := ⟨26, "is_parting", ["plea", "thing"], ["plea", "thing"], topS 50⟩
def e_need_parting : Ent := ⟨27, "need_parting", ["plea", "parting"], ["plea", "parting"], topS 51⟩
def e_is_house : Ent := ⟨28, "is_house", ["thing"], ["thing", "one"], topS 55⟩
def e_are_houses : Ent := ⟨29, "are_houses", ["thing"], ["thing", "one"], topS 56⟩
def e_need_houses : Ent := ⟨30, "need_houses", ["houses"], ["houses"], topS 57⟩
def e_way_to : Ent := ⟨31, "way_to", ["house", "land"], ["house", "land", "row", "column"], topS 58⟩
def e_way_of : Ent := ⟨32, "way_of", ["plea", "houses", "parting", "holder"], ["plea", "houses", "parting", "holder"], topS 59⟩
def e_far_of : Ent := ⟨33, "far_of", ["plea", "houses", "parting", "holder"], ["plea", "houses", "parting", "holder"], topS 60⟩
def e_swapped : Ent := ⟨34, "swapped", ["parting", "one", "other"], ["parting", "one", "other", "names", "holder"], topS 62⟩
def e_both_would : Ent := ⟨35, "both_would", ["plea", "houses", "parting", "one", "other"], ["plea", "houses", "parting", "one", "other", "later", "who"], topS 63⟩
def e_need_two : Ent := ⟨36, "need_two", ["plea", "houses", "parting", "one", "other"], ["plea", "houses", "parting", "one", "other"], topS 64⟩
def e_exchanged : Ent := ⟨37, "exchanged", ["plea", "houses", "parting", "one", "other"], ["plea", "houses", "parting", "one", "other"], topS 65⟩
def e_pairs_in : Ent := ⟨38, "pairs_in", ["plea", "houses", "parting"], ["plea", "houses", "parting", "one", "found", "some", "two"], topS 66⟩
def e_need_all : Ent := ⟨39, "need_all", ["plea", "houses", "parting"], ["plea", "houses", "parting"], topS 67⟩
def e_who_would : Ent := ⟨40, "who_would", ["plea", "houses", "parting"], ["plea", "houses", "parting"], topS 68⟩
def e_settled : Ent := ⟨41, "settled", ["plea", "houses", "parting"], ["plea", "houses", "parting", "some"], topS 69⟩
def e_law_cell : Ent := ⟨42, "_law_cell", ["_law_script", "_law_k"], ["_law_script", "_law_k"], topS 71⟩
def e_law_pen : Ent := ⟨43, "_law_pen", ["_law_cell_here"], ["_law_cell_here"], topS 72⟩
def e_law_draw : Ent := ⟨44, "_law_draw", ["_law_pen_here", "_law_many"], ["_law_pen_here", "_law_many", "_law_digit"], topS 73⟩
def e_law_cells : Ent := ⟨45, "_law_cells", ["_law_mead"], ["_law_mead", "_law_found", "_law_row", "_law_numbers", "_law_column", "_law_number"], topS 74⟩
def e_law_next : Ent := ⟨46, "_law_next", ["_law_one", "_law_other"], ["_law_one", "_law_other"], topS 75⟩
def e_law_piece : Ent := ⟨47, "_law_piece", ["_law_land", "_law_place"], ["_law_land", "_law_place", "_law_line", "_law_at", "_law_one"], topS 76⟩
def e_law_at_road : Ent := ⟨48, "_law_at_road", ["_law_mead", "_law_land"], ["_law_mead", "_law_land", "_law_row", "_law_numbers", "_law_column", "_law_number", "_law_near", "_law_place"], topS 77⟩
def e_law_worth : Ent := ⟨49, "_law_worth", ["_law_mead", "_law_land"], ["_law_mead", "_law_land", "_law_row", "_law_column"], topS 78⟩
def e_law_loose : Ent := ⟨50, "_law_loose", ["_law_pen_here"], ["_law_pen_here", "_law_rows", "_law_at", "_law_claims", "_law_many", "_law_wide", "_law_worths", "_law_mead", "_law_odd", "_law_holder", "_law_row"], topS 79⟩
def e_law_holders : Ent := ⟨51, "_law_holders", ["_law_plea"], ["_law_plea", "_law_claim"], topS 80⟩
def e_law_fits : Ent := ⟨52, "_law_fits", ["_law_plea", "_law_holder", "_law_land"], ["_law_plea", "_law_holder", "_law_land", "_law_own", "_law_every", "_law_total", "_law_mead", "_law_custom", "_law_claims", "_law_odd", "_law_who", "_law_sort", "_law_many"], topS 81⟩
def e_law_fit_lands : Ent := ⟨53, "_law_fit_lands", ["_law_plea", "_law_holder"], ["_law_plea", "_law_holder", "_law_lands", "_law_cell_here", "_law_land"], topS 82⟩
def e_law_partings : Ent := ⟨54, "_law_partings", ["_law_plea"], ["_law_plea", "_law_holder", "_law_found", "_law_owners", "_law_cells_here", "_law_lines", "_law_later", "_law_land", "_law_more", "_law_cell_here"], topS 83⟩
def e_law_contrary : Ent := ⟨55, "_law_contrary", ["_law_pen_here", "_law_plea"], ["_law_pen_here", "_law_plea", "_law_holder", "_law_cells_here", "_law_found", "_law_row", "_law_column"], topS 84⟩
def e_law_ways : Ent := ⟨56, "_law_ways", ["_law_plea", "_law_houses", "_law_parting"], ["_law_plea", "_law_houses", "_law_parting", "_law_holder"], topS 85⟩
def e_law_right : Ent := ⟨57, "_law_right", ["_law_plea", "_law_houses", "_law_parting"], ["_law_plea", "_law_houses", "_law_parting", "_law_some", "_law_told", "_law_ways_here", "_law_here", "_law_left", "_law_less", "_law_one", "_law_other"], topS 86⟩
def e_law : Ent := ⟨58, "law", ["_law_script"], ["_law_script", "_law_cell_here", "_law_pen_here", "_law_plea", "_law_at", "_law_parting", "_law_houses", "_law_some"], topS 87⟩
def ents : List Ent := [e_is_from, e_rises, e_places_of, e_is_mead, e_cells_in, e_worth_in, e_beside, e_is_custom, e_is_claim, e_are_claims, e_stand, e_holders_in, e_need_holder, e_counted, e_counted_all, e_piece_from, e_is_whole, e_lies_at_road, e_is_plea, e_need_plea, e_due_in, e_is_worth, e_fits_due, e_is_fit, e_land_by_holder, e_is_parted, e_is_parting, e_need_parting, e_is_house, e_are_houses, e_need_houses, e_way_to, e_way_of, e_far_of, e_swapped, e_both_would, e_need_two, e_exchanged, e_pairs_in, e_need_all, e_who_would, e_settled, e_law_cell, e_law_pen, e_law_draw, e_law_cells, e_law_next, e_law_piece, e_law_at_road, e_law_worth, e_law_loose, e_law_holders, e_law_fits, e_law_fit_lands, e_law_partings, e_law_contrary, e_law_ways, e_law_right, e_law]
def gls : List (Nat × Str) := [(0, "MOST_ROWS"), (1, "MOST_COLUMNS"), (2, "MOST_CELLS"), (3, "MOST_WORTH"), (4, "ROAD"), (5, "WATER"), (6, "MOST_SORTS"), (7, "MOST_COUNT"), (8, "MOST_HOLDER"), (9, "MOST_RIGHTS"), (10, "MOST_CLAIMS"), (11, "MOST_ODD"), (12, "MANY"), (13, "FAR")]
theorem b_is_from : BindOk e_is_from := fun _ _ _ _ _ _ us hl => match us, hl with | [_, _, _], _ => rfl
theorem b_rises : BindOk e_rises := fun _ _ _ _ _ _ us hl => match us, hl with | [_], _ => rfl
theorem b_places_of : BindOk e_places_of := fun _ _ _ _ _ _ us hl => match us, hl with | [_, _, _], _ => rfl
theorem b_is_mead : BindOk e_is_mead := fun _ _ _ _ _ _ us hl => match us, hl with | [_], _ => rfl
theorem b_cells_in : BindOk e_cells_in := fun _ _ _ _ _ _ us hl => match us, hl with | [_], _ => rfl
theorem b_worth_in : BindOk e_worth_in := fun _ _ _ _ _ _ us hl => match us, hl with | [_, _], _ => rfl
theorem b_beside : BindOk e_beside := fun _ _ _ _ _ _ us hl => match us, hl with | [_], _ => rfl
theorem b_is_custom : BindOk e_is_custom := fun _ _ _ _ _ _ us hl => match us, hl with | [_], _ => rfl
theorem b_is_claim : BindOk e_is_claim := fun _ _ _ _ _ _ us hl => match us, hl with | [_], _ => rfl
theorem b_are_claims : BindOk e_are_claims := fun _ _ _ _ _ _ us hl => match us, hl with | [_], _ => rfl
theorem b_stand : BindOk e_stand := fun _ _ _ _ _ _ us hl => match us, hl with | [_, _], _ => rfl
theorem b_holders_in : BindOk e_holders_in := fun _ _ _ _ _ _ us hl => match us, hl with | [_], _ => rfl
theorem b_need_holder : BindOk e_need_holder := fun _ _ _ _ _ _ us hl => match us, hl with | [_, _], _ => rfl
theorem b_counted : BindOk e_counted := fun _ _ _ _ _ _ us hl => match us, hl with | [_, _, _], _ => rfl
theorem b_counted_all : BindOk e_counted_all := fun _ _ _ _ _ _ us hl => match us, hl with | [_, _], _ => rfl
theorem b_piece_from : BindOk e_piece_from := fun _ _ _ _ _ _ us hl => match us, hl with | [_, _], _ => rfl
theorem b_is_whole : BindOk e_is_whole := fun _ _ _ _ _ _ us hl => match us, hl with | [_], _ => rfl
theorem b_lies_at_road : BindOk e_lies_at_road := fun _ _ _ _ _ _ us hl => match us, hl with | [_, _], _ => rfl
theorem b_is_plea : BindOk e_is_plea := fun _ _ _ _ _ _ us hl => match us, hl with | [_], _ => rfl
theorem b_need_plea : BindOk e_need_plea := fun _ _ _ _ _ _ us hl => match us, hl with | [_], _ => rfl
theorem b_due_in : BindOk e_due_in := fun _ _ _ _ _ _ us hl => match us, hl with | [_, _], _ => rfl
theorem b_is_worth : BindOk e_is_worth := fun _ _ _ _ _ _ us hl => match us, hl with | [_, _, _], _ => rfl
theorem b_fits_due : BindOk e_fits_due := fun _ _ _ _ _ _ us hl => match us, hl with | [_, _, _], _ => rfl
theorem b_is_fit : BindOk e_is_fit := fun _ _ _ _ _ _ us hl => match us, hl with | [_, _, _], _ => rfl
theorem b_land_by_holder : BindOk e_land_by_holder := fun _ _ _ _ _ _ us hl => match us, hl with | [_, _, _], _ => rfl
theorem b_is_parted : BindOk e_is_parted := fun _ _ _ _ _ _ us hl => match us, hl with | [_, _], _ => rfl
theorem b_is_parting : BindOk e_is_parting := fun _ _ _ _ _ _ us hl => match us, hl with | [_, _], _ => rfl
theorem b_need_parting : BindOk e_need_parting := fun _ _ _ _ _ _ us hl => match us, hl with | [_, _], _ => rfl
theorem b_is_house : BindOk e_is_house := fun _ _ _ _ _ _ us hl => match us, hl with | [_], _ => rfl
theorem b_are_houses : BindOk e_are_houses := fun _ _ _ _ _ _ us hl => match us, hl with | [_], _ => rfl
theorem b_need_houses : BindOk e_need_houses := fun _ _ _ _ _ _ us hl => match us, hl with | [_], _ => rfl
theorem b_way_to : BindOk e_way_to := fun _ _ _ _ _ _ us hl => match us, hl with | [_, _], _ => rfl
theorem b_way_of : BindOk e_way_of := fun _ _ _ _ _ _ us hl => match us, hl with | [_, _, _, _], _ => rfl
theorem b_far_of : BindOk e_far_of := fun _ _ _ _ _ _ us hl => match us, hl with | [_, _, _, _], _ => rfl
theorem b_swapped : BindOk e_swapped := fun _ _ _ _ _ _ us hl => match us, hl with | [_, _, _], _ => rfl
theorem b_both_would : BindOk e_both_would := fun _ _ _ _ _ _ us hl => match us, hl with | [_, _, _, _, _], _ => rfl
theorem b_need_two : BindOk e_need_two := fun _ _ _ _ _ _ us hl => match us, hl with | [_, _, _, _, _], _ => rfl
theorem b_exchanged : BindOk e_exchanged := fun _ _ _ _ _ _ us hl => match us, hl with | [_, _, _, _, _], _ => rfl
theorem b_pairs_in : BindOk e_pairs_in := fun _ _ _ _ _ _ us hl => match us, hl with | [_, _, _], _ => rfl
theorem b_need_all : BindOk e_need_all := fun _ _ _ _ _ _ us hl => match us, hl with | [_, _, _], _ => rfl
theorem b_who_would : BindOk e_who_would := fun _ _ _ _ _ _ us hl => match us, hl with | [_, _, _], _ => rfl
theorem b_settled : BindOk e_settled := fun _ _ _ _ _ _ us hl => match us, hl with | [_, _, _], _ => rfl
theorem b_law_cell : BindOk e_law_cell := fun _ _ _ _ _ _ us hl => match us, hl with | [_, _], _ => rfl
theorem b_law_pen : BindOk e_law_pen := fun _ _ _ _ _ _ us hl => match us, hl with | [_], _ => rfl
theorem b_law_draw : BindOk e_law_draw := fun _ _ _ _ _ _ us hl => match us, hl with | [_, _], _ => rfl
theorem b_law_cells : BindOk e_law_cells := fun _ _ _ _ _ _ us hl => match us, hl with | [_], _ => rfl
theorem b_law_next : BindOk e_law_next := fun _ _ _ _ _ _ us hl => match us, hl with | [_, _], _ => rfl
theorem b_law_piece : BindOk e_law_piece := fun _ _ _ _ _ _ us hl => match us, hl with | [_, _], _ => rfl
theorem b_law_at_road : BindOk e_law_at_road := fun _ _ _ _ _ _ us hl => match us, hl with | [_, _], _ => rfl
theorem b_law_worth : BindOk e_law_worth := fun _ _ _ _ _ _ us hl => match us, hl with | [_, _], _ => rfl
theorem b_law_loose : BindOk e_law_loose := fun _ _ _ _ _ _ us hl => match us, hl with | [_], _ => rfl
theorem b_law_holders : BindOk e_law_holders := fun _ _ _ _ _ _ us hl => match us, hl with | [_], _ => rfl
theorem b_law_fits : BindOk e_law_fits := fun _ _ _ _ _ _ us hl => match us, hl with | [_, _, _], _ => rfl
theorem b_law_fit_lands : BindOk e_law_fit_lands := fun _ _ _ _ _ _ us hl => match us, hl with | [_, _], _ => rfl
theorem b_law_partings : BindOk e_law_partings := fun _ _ _ _ _ _ us hl => match us, hl with | [_], _ => rfl
theorem b_law_contrary : BindOk e_law_contrary := fun _ _ _ _ _ _ us hl => match us, hl with | [_, _], _ => rfl
theorem b_law_ways : BindOk e_law_ways := fun _ _ _ _ _ _ us hl => match us, hl with | [_, _, _], _ => rfl
theorem b_law_right : BindOk e_law_right := fun _ _ _ _ _ _ us hl => match us, hl with | [_, _, _], _ => rfl
theorem b_law : BindOk e_law := fun _ _ _ _ _ _ us hl => match us, hl with | [_], _ => rfl
def xcs : List (Nat × Str) := [(1000, "MeadError"), (1001, "NoHolder"), (1002, "NoPlea"), (1003, "NoParting"), (1004, "NoHouses"), (1005, "NoWill")]
def sbs : List (Nat × Nat × Bool) := []
theorem bindAll : ∀ e ∈ ents, BindOk e := by
  intro e he
  simp only [ents, List.mem_cons, List.not_mem_nil, or_false] at he
  rcases he with rfl | rfl | rfl | rfl | rfl | rfl | rfl | rfl | rfl | rfl | rfl | rfl | rfl | rfl | rfl | rfl | rfl | rfl | rfl | rfl | rfl | rfl | rfl | rfl | rfl | rfl | rfl | rfl | rfl | rfl | rfl | rfl | rfl | rfl | rfl | rfl | rfl | rfl | rfl | rfl | rfl | rfl | rfl | rfl | rfl | rfl | rfl | rfl | rfl | rfl | rfl | rfl | rfl | rfl | rfl | rfl | rfl | rfl | rfl
  · exact b_is_from
  · exact b_rises
  · exact b_places_of
  · exact b_is_mead
  · exact b_cells_in
  · exact b_worth_in
  · exact b_beside
  · exact b_is_custom
  · exact b_is_claim
  · exact b_are_claims
  · exact b_stand
  · exact b_holders_in
  · exact b_need_holder
  · exact b_counted
  · exact b_counted_all
  · exact b_piece_from
  · exact b_is_whole
  · exact b_lies_at_road
  · exact b_is_plea
  · exact b_need_plea
  · exact b_due_in
  · exact b_is_worth
  · exact b_fits_due
  · exact b_is_fit
  · exact b_land_by_holder
  · exact b_is_parted
  · exact b_is_parting
  · exact b_need_parting
  · exact b_is_house
  · exact b_are_houses
  · exact b_need_houses
  · exact b_way_to
  · exact b_way_of
  · exact b_far_of
  · exact b_swapped
  · exact b_both_would
  · exact b_need_two
  · exact b_exchanged
  · exact b_pairs_in
  · exact b_need_all
  · exact b_who_would
  · exact b_settled
  · exact b_law_cell
  · exact b_law_pen
  · exact b_law_draw
  · exact b_law_cells
  · exact b_law_next
  · exact b_law_piece
  · exact b_law_at_road
  · exact b_law_worth
  · exact b_law_loose
  · exact b_law_holders
  · exact b_law_fits
  · exact b_law_fit_lands
  · exact b_law_partings
  · exact b_law_contrary
  · exact b_law_ways
  · exact b_law_right
  · exact b_law
abbrev tb : Tb := tbOf ents gls xcs sbs
theorem chk : (ents.all fun e => fnB tb e (Pr e.idx)) = true := by decide +kernel
theorem chkX : (xcs.all fun p => decide (p.1 < exI) && decide (tb.nm p.1 = p.2)) = true := by decide +kernel
theorem nd1 : (ents.map (·.idx)).Nodup := by decide +kernel
theorem nd2 : (gls.map (·.1)).Nodup := by decide +kernel

/-! ### the head -/
def dOf (e : Ent) : He.DefD := ⟨(e.nm, none), e.nm, e.nm, defArgs e.st, defBody e.st, defScope e.st, [], []⟩
def fnL : List He.DefD := ents.map dOf
def faL : List He.Fa := (ents.map fun e => He.Fa.glo e.nm) ++ (bltNames.map He.Fa.free) ++ [.int "MOST_ROWS" (4), .int "MOST_COLUMNS" (6), .int "MOST_CELLS" (10), .int "MOST_WORTH" (99), .int "ROAD" (-1), .int "WATER" (-2), .int "MOST_SORTS" (6), .int "MOST_COUNT" (100), .int "MOST_HOLDER" (3), .int "MOST_RIGHTS" (20), .int "MOST_CLAIMS" (12), .int "MOST_ODD" (999), .int "MANY" (4), .int "FAR" (99)]
abbrev Rw : PySem.W.OpenRow := PySem.W.OpenLaw.row PySem.Challenge.rw_meadshares_k52_whole_settled_at_last
def exL (K : PySem.W.Frag) : Bool := exB xcs sbs tb.nm K
abbrev hk : PySem.W.Hook := He.hookX 2 faL fnL [] [] exL
def ob (s : PySem.W.SharedT) : He.AlX := He.obsX 2 faL fnL [] [] exL (HandSHeadRun.getT s)
theorem ob_eq (s : PySem.W.SharedT) : ob s = hk.obs s.abs := He.obsX_eq (HandSHeadRun.getT_eq s)
def loose1 : List PySem.Str := (["__name__", "MeadError", "NoHolder", "NoPlea", "NoParting", "NoHouses", "NoWill", "MOST_ROWS", "MOST_COLUMNS", "MOST_CELLS", "MOST_WORTH", "ROAD", "WATER", "MOST_SORTS", "MOST_COUNT", "MOST_HOLDER"] : List PySem.Str) ++ (["MOST_RIGHTS", "MOST_CLAIMS", "MOST_ODD", "MANY", "FAR", "is_from", "rises", "places_of", "is_mead", "cells_in", "worth_in", "beside", "is_custom", "is_claim", "are_claims", "stand"] : List PySem.Str) ++ (["holders_in", "need_holder", "counted", "counted_all", "piece_from", "is_whole", "lies_at_road", "is_plea", "need_plea", "due_in", "is_worth", "fits_due", "is_fit", "land_by_holder", "is_parted", "is_parting"] : List PySem.Str) ++ (["need_parting", "is_house", "are_houses", "need_houses", "way_to", "way_of", "far_of", "swapped", "both_would", "need_two", "exchanged", "pairs_in", "need_all", "who_would", "settled", "_law_cell"] : List PySem.Str) ++ (["_law_pen", "_law_draw", "_law_cells", "_law_next", "_law_piece", "_law_at_road", "_law_worth", "_law_loose", "_law_holders", "_law_fits", "_law_fit_lands", "_law_partings", "_law_contrary", "_law_ways", "_law_right"] : List PySem.Str)
section
open PySem PySem.W PySem.Calls PyProof.Rows
abbrev vw : PySem.Program := PySem.W.view Rw.prog [87]
theorem run_a (w : World) (os : PySem.OsState) : (HandSHeadRun.endF (HandSHeadRun.stepQ (HandSHeadRun.denQ HandSHeadRun.tabQ) Rw.prog w) 4000 Rw.prog w os).map (fun s => HandSHeadRun.looksF Rw.prog (PySem.W.boot_heap w.params) s.abs) = some true := by kernel_rfl
theorem run_b (w : World) (os : PySem.OsState) : (HandSHeadRun.endF (HandSHeadRun.stepQ (HandSHeadRun.denQ HandSHeadRun.tabQ) Rw.prog w) 4000 Rw.prog w os).map (fun s => HandSHeadRun.seenQ vw loose1 (PySem.importedModules Rw.prog.main.body) (fun s => PySem.W.xlAt vw [] s && PySem.W.recOk Rw.toRowW.records s) s.abs) = some (PySem.W.openGood vw loose1) := by kernel_rfl
theorem run_c (w : World) (os : PySem.OsState) : (HandSHeadRun.endF (HandSHeadRun.stepQ (HandSHeadRun.denQ HandSHeadRun.tabQ) Rw.prog w) 4000 Rw.prog w os).map ob = some (hk.val w) := by kernel_rfl
theorem join3 {α β γ δ : Type} {o : Option α} {f : α → β} {g : α → γ} {h : α → δ} {x : β} {y : γ} {z : δ} (a : o.map f = some x) (b : o.map g = some y) (c : o.map h = some z) : o.map (fun s => (f s, g s, h s)) = some (x, y, z) := by
  cases o with
  | none => cases a
  | some s =>
    simp only [Option.map_some, Option.some.injEq] at a b c ⊢
    rw [a, b, c]
end
theorem run1 (w : World) : HandSHeadRun.RunEq Rw (PySem.W.view Rw.prog [87]) hk ob 4000 loose1 w := fun os => join3 (run_a w os) (run_b w os) (run_c w os)

/-! ### the end -/
theorem facts {K : PySem.W.Frag} {h : Heap} {mg : Str → Option Value} (X : K.In h) (G : h.Ns mainGlobals mg) (c : He.SaysD faL fnL K) (cx : exL K = true) : Facts K mg (fun i => He.fAd K (tb.nm i, none)) ents gls Gl xcs sbs := by
  refine ⟨fun e he => ?_, fun e he => ?_, fun g hg => ?_, fun x hx => ?_, (exB_ok X G cx chkX).1, (exB_ok X G cx chkX).2⟩
  · have q : tb.nm e.idx = e.nm := by simp only [tb, tbOf]; rw [ent_mem nd1 he rfl]
    show mg e.nm = some (.ref (He.fAd K (tb.nm e.idx, none)))
    rw [q]
    exact He.glo_ok X G (c.facts (f := .glo e.nm) (by unfold faL; simp only [List.mem_append, List.mem_map]; exact .inl (.inl ⟨e, he, rfl⟩)))
  · have q : tb.nm e.idx = e.nm := by simp only [tb, tbOf]; rw [ent_mem nd1 he rfl]
    show ∃ fd, FunD K e.nm e.nm (defArgs e.st) (defBody e.st) (defScope e.st) [] [] (He.fAd K (tb.nm e.idx, none)) fd
    rw [q]
    exact c.defs (d := dOf e) (List.mem_map_of_mem he)
  · simp only [gls, List.mem_cons, List.not_mem_nil, or_false] at hg
    rcases hg with rfl | rfl | rfl | rfl | rfl | rfl | rfl | rfl | rfl | rfl | rfl | rfl | rfl | rfl
    · obtain ⟨t, ht⟩ := He.int_ok X G (c.facts (f := .int "MOST_ROWS" (4)) (by unfold faL; simp only [List.mem_append]; exact .inr (by simp)))
      exact ⟨.int (4), .int (4), _, rfl, ht, ⟨t, rfl⟩, .int _⟩
    · obtain ⟨t, ht⟩ := He.int_ok X G (c.facts (f := .int "MOST_COLUMNS" (6)) (by unfold faL; simp only [List.mem_append]; exact .inr (by simp)))
      exact ⟨.int (6), .int (6), _, rfl, ht, ⟨t, rfl⟩, .int _⟩
    · obtain ⟨t, ht⟩ := He.int_ok X G (c.facts (f := .int "MOST_CELLS" (10)) (by unfold faL; simp only [List.mem_append]; exact .inr (by simp)))
      exact ⟨.int (10), .int (10), _, rfl, ht, ⟨t, rfl⟩, .int _⟩
    · obtain ⟨t, ht⟩ := He.int_ok X G (c.facts (f := .int "MOST_WORTH" (99)) (by unfold faL; simp only [List.mem_append]; exact .inr (by simp)))
      exact ⟨.int (99), .int (99), _, rfl, ht, ⟨t, rfl⟩, .int _⟩
    · obtain ⟨t, ht⟩ := He.int_ok X G (c.facts (f := .int "ROAD" (-1)) (by unfold faL; simp only [List.mem_append]; exact .inr (by simp)))
      exact ⟨.int (-1), .int (-1), _, rfl, ht, ⟨t, rfl⟩, .int _⟩
    · obtain ⟨t, ht⟩ := He.int_ok X G (c.facts (f := .int "WATER" (-2)) (by unfold faL; simp only [List.mem_append]; exact .inr (by simp)))
      exact ⟨.int (-2), .int (-2), _, rfl, ht, ⟨t, rfl⟩, .int _⟩
    · obtain ⟨t, ht⟩ := He.int_ok X G (c.facts (f := .int "MOST_SORTS" (6)) (by unfold faL; simp only [List.mem_append]; exact .inr (by simp)))
      exact ⟨.int (6), .int (6), _, rfl, ht, ⟨t, rfl⟩, .int _⟩
    · obtain ⟨t, ht⟩ := He.int_ok X G (c.facts (f := .int "MOST_COUNT" (100)) (by unfold faL; simp only [List.mem_append]; exact .inr (by simp)))
      exact ⟨.int (100), .int (100), _, rfl, ht, ⟨t, rfl⟩, .int _⟩
    · obtain ⟨t, ht⟩ := He.int_ok X G (c.facts (f := .int "MOST_HOLDER" (3)) (by unfold faL; simp only [List.mem_append]; exact .inr (by simp)))
      exact ⟨.int (3), .int (3), _, rfl, ht, ⟨t, rfl⟩, .int _⟩
    · obtain ⟨t, ht⟩ := He.int_ok X G (c.facts (f := .int "MOST_RIGHTS" (20)) (by unfold faL; simp only [List.mem_append]; exact .inr (by simp)))
      exact ⟨.int (20), .int (20), _, rfl, ht, ⟨t, rfl⟩, .int _⟩
    · obtain ⟨t, ht⟩ := He.int_ok X G (c.facts (f := .int "MOST_CLAIMS" (12)) (by unfold faL; simp only [List.mem_append]; exact .inr (by simp)))
      exact ⟨.int (12), .int (12), _, rfl, ht, ⟨t, rfl⟩, .int _⟩
    · obtain ⟨t, ht⟩ := He.int_ok X G (c.facts (f := .int "MOST_ODD" (999)) (by unfold faL; simp only [List.mem_append]; exact .inr (by simp)))
      exact ⟨.int (999), .int (999), _, rfl, ht, ⟨t, rfl⟩, .int _⟩
    · obtain ⟨t, ht⟩ := He.int_ok X G (c.facts (f := .int "MANY" (4)) (by unfold faL; simp only [List.mem_append]; exact .inr (by simp)))
      exact ⟨.int (4), .int (4), _, rfl, ht, ⟨t, rfl⟩, .int _⟩
    · obtain ⟨t, ht⟩ := He.int_ok X G (c.facts (f := .int "FAR" (99)) (by unfold faL; simp only [List.mem_append]; exact .inr (by simp)))
      exact ⟨.int (99), .int (99), _, rfl, ht, ⟨t, rfl⟩, .int _⟩
  · exact He.free_ok X G (c.facts (f := .free x) (by unfold faL; simp only [List.mem_append, List.mem_map]; exact .inl (.inr ⟨x, hx, rfl⟩)))
end
end Lw
open PySem PySem.W PySem.Calls PyProof.Rows
set_option maxHeartbeats 0 in
theorem PySem.Challenge.cw_meadshares_k52_whole_settled_at_last_holds : PySem.Challenge.rw_meadshares_k52_whole_settled_at_last.Holds := by
  w_on; o_law
  refine HandSHeadRun.head_any (r := OpenLaw.row PySem.Challenge.rw_meadshares_k52_whole_settled_at_last) (q := view (OpenLaw.row PySem.Challenge.rw_meadshares_k52_whole_settled_at_last).prog [87]) (H := Lw.hk) (ob := Lw.ob) (M := 4000) (loose := Lw.loose1) (d := HandSHeadRun.topDef (OpenLaw.row PySem.Challenge.rw_meadshares_k52_whole_settled_at_last).prog 87) (kwd := []) Lw.ob_eq
    (by kernel_rfl) (fun s => by kernel_rfl) Lw.run1 (by kernel_rfl) (by kernel_rfl) (by kernel_rfl) (by rfl) (by first | assumption | decide +kernel) (by decide +kernel) ⟨rfl, rfl, rfl, rfl, rfl, by decide +kernel⟩ ?hw ?hc
  case hw => w_witness2
  case hc =>
    refine MS.walkG (l := PySem.Challenge.rw_meadshares_k52_whole_settled_at_last) (n := 63) (k := 60) (x := "_law_script") rfl (by decide) (by kernel_rfl) ⟨rfl, by decide, by decide⟩ ?F
    intro w mg lf h Y G hmg0
    obtain ⟨K, KX, cX⟩ := Y
    have c : He.SaysD Lw.faL Lw.fnL K := congrArg (fun z : He.AlT => z.1) cX.t
    have hmg : mg ("law" : PySem.Str) = some (.ref lf) := by
      have e : (HandSHeadRun.topDef (OpenLaw.row PySem.Challenge.rw_meadshares_k52_whole_settled_at_last).prog 87).name = ("law" : PySem.Str) := by kernel_rfl
      rw [← e]
      exact hmg0
    have fc := Lw.facts KX G c cX.more
    have hl : lf = He.fAd K (Lw.tb.nm 58, none) := by
      have := fc.gl Lw.e_law (by simp [Lw.ents])
      have e2 : mg ("law" : PySem.Str) = _ := this
      rw [hmg] at e2
      cases e2
      rfl
    obtain ⟨fd0, FD⟩ := fc.fn Lw.e_law (by simp [Lw.ents])
    refine ⟨K, fd0, MS.spR K (fun i => He.fAd K (Lw.tb.nm i, none)) (MS.run Lw.Gl Lw.Pr 60 58), KX, fun s u => FD.bindsA (ps := ["_law_script"]) Lw.b_law s [u] rfl, fun H a ns hl hS => MS.sp_law hS (Lw.law_pure ns), fun base KB GB => ?_⟩
    obtain ⟨fd, h1, h2, h3⟩ := MS.fns_ok (P := (PySem.Challenge.rw_meadshares_k52_whole_settled_at_last).prog) (w := w) (base := base) fc Lw.nd1 Lw.nd2 Lw.bindAll Lw.chk Lw.chkX 60 Lw.e_law (by simp [Lw.ents])
    subst hl
    have : fd = fd0 := by
      obtain ⟨_, _, _, _, _, _, _, _, _, _, e1, k1, _⟩ := FD.ex
      obtain ⟨_, _, _, _, _, _, _, _, _, _, e2, k2, _⟩ := h2.ex
      rw [k1] at k2
      cases k2
      rfl
    subst this
    exact h3


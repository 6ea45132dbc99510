import PyProof.Rows.All
import Wide.All
import OpenK.AllK
import Wide.FinOn
import HandS.ForMost
import HandS.Wide
import HandS.TupAny
import HandS.TupMul
import HandS.Deep
import HandS.IsInst
import HandS.Exc
import HandS.WordsExc
import HandS.Flow
import HandS.Small
import HandS.DictTup
import HandS.SetFor
import HandS.TupSets
import KE.SortData
import KE.DataCmp
import KE.DataMinMax
import HandS.ExcOwn
import KE.GoesEnum
import HandS.CallSlots
import HandS.HeadEnd
import HandS.Defaults
import HandS.Style
import HandS.Zip
import HandS.ExcIs
import HandS.ExcField
import HandS.HeadHook4
import HandS.ExcInit
import KE.GoesZip
import KE.GoesMore
import HandS.Conv
import HandS.TupLen
import KE.KDictCopyH
import KE.KDictOf
import PyProof.DictMoreH
import KE.KDictZip
import KE.KDictItemsList
import HandS.ExcValue
import KE.KDictPairs
import HandS.ListItems
import HandS.List
import HandS.Words
import HandS.Head0
import HandS.Head1
import HandS.Head2
import HandS.HeadHook1
import HandS.HeadHook2
import HandS.HeadHook3
import PySem.Challenge.RW_meadshares_k05_whole_all_is_shared
set_option Elab.async false
set_option linter.all false
set_option maxRecDepth 100000
set_option maxHeartbeats 8000000
-- MsCore
/-! The deep embedding: data, values, store, syntax, the interpreter. -/
namespace MS
open PySem

abbrev D := PyData

structure Exc where
  cls : Nat
  args : List D

inductive Val where
  | d (x : D)
  | ref (n : Nat)
  | fn (i : Nat)
  | scr (ns : List Int)
  | exn (e : Exc)

inductive Ob where
  | lst (xs : List Val)
  | dct (kvs : List (List Int × Val))
  /-- t = 0: a dict whose keys are ints -/
  | kv (t : Nat) (kvs : List (Int × Val))

abbrev Sto := List (Option Ob)
abbrev Env := List (Option Val)

inductive R (α : Type) where
  | stuck
  | ok (a : α) (S : Sto)
  | exc (e : Exc) (S : Sto)

def R.bind {α β : Type} : R α → (α → Sto → R β) → R β
  | .stuck, _ => .stuck
  | .ok a S, f => f a S
  | .exc e S, _ => .exc e S
@[simp] theorem R.bind_ok {α β : Type} (a : α) (S : Sto) (f : α → Sto → R β) : (R.ok a S).bind f = f a S := rfl
@[simp] theorem R.bind_stuck {α β : Type} (f : α → Sto → R β) : (R.stuck : R α).bind f = .stuck := rfl
@[simp] theorem R.bind_exc {α β : Type} (e : Exc) (S : Sto) (f : α → Sto → R β) : (R.exc e S : R α).bind f = .exc e S := rfl

def R.ofO {α : Type} (o : Option α) (S : Sto) : R α := match o with
  | some a => .ok a S
  | none => .stuck
@[simp] theorem R.ofO_some {α : Type} (a : α) (S : Sto) : R.ofO (some a) S = .ok a S := rfl
@[simp] theorem R.ofO_none {α : Type} (S : Sto) : R.ofO (none : Option α) S = .stuck := rfl

/-- the end of a statement -/
inductive RS where
  | stuck
  | nx (env : Env) (S : Sto)
  | ret (v : Val) (S : Sto)
  | brk (env : Env) (S : Sto)
  | cnt (env : Env) (S : Sto)
  | exc (e : Exc) (env : Env) (S : Sto)

def RS.ofR {α : Type} (env : Env) : R α → (α → Sto → RS) → RS
  | .stuck, _ => .stuck
  | .ok a S, f => f a S
  | .exc e S, _ => .exc e env S
@[simp] theorem RS.ofR_ok {α : Type} (env : Env) (a : α) (S : Sto) (f : α → Sto → RS) : RS.ofR env (R.ok a S) f = f a S := rfl
@[simp] theorem RS.ofR_stuck {α : Type} (env : Env) (f : α → Sto → RS) : RS.ofR env (R.stuck : R α) f = .stuck := rfl
@[simp] theorem RS.ofR_exc {α : Type} (env : Env) (e : Exc) (S : Sto) (f : α → Sto → RS) : RS.ofR env (R.exc e S : R α) f = .exc e env S := rfl
def RS.seq : RS → (Env → Sto → RS) → RS
  | .nx env S, f => f env S
  | r, _ => r
@[simp] theorem RS.seq_nx (env : Env) (S : Sto) (f : Env → Sto → RS) : (RS.nx env S).seq f = f env S := rfl
@[simp] theorem RS.seq_stuck (f : Env → Sto → RS) : (RS.stuck).seq f = .stuck := rfl
@[simp] theorem RS.seq_ret (v : Val) (S : Sto) (f : Env → Sto → RS) : (RS.ret v S).seq f = .ret v S := rfl
@[simp] theorem RS.seq_brk (env : Env) (S : Sto) (f : Env → Sto → RS) : (RS.brk env S).seq f = .brk env S := rfl
@[simp] theorem RS.seq_cnt (env : Env) (S : Sto) (f : Env → Sto → RS) : (RS.cnt env S).seq f = .cnt env S := rfl
@[simp] theorem RS.seq_exc (e : Exc) (env : Env) (S : Sto) (f : Env → Sto → RS) : (RS.exc e env S).seq f = .exc e env S := rfl

/-! ### data -/
/-- the items of a list or tuple datum all pure -/
def pureVs : List Val → Option (List D)
  | [] => some []
  | .d x :: r => (pureVs r).map (x :: ·)
  | _ :: _ => none
@[simp] theorem pureVs_map (xs : List D) : pureVs (xs.map Val.d) = some xs := by
  induction xs with
  | nil => rfl
  | cons x r ih => simp [pureVs, ih]

def stGet (S : Sto) (n : Nat) : Option Ob := (S[n]?).join

/-- a value as a datum, read through the store -/
def view (S : Sto) : Val → Option D
  | .d x => some x
  | .ref n => match stGet S n with
    | some (.lst vs) => (pureVs vs).map .list
    | _ => none
  | _ => none
@[simp] theorem view_d (S : Sto) (x : D) : view S (.d x) = some x := rfl

def sLine : Nat := 16777216

def truthD : D → Option Bool
  | .none => some false
  | .bool b => some b
  | .int i => some (i != 0)
  | .str x => if x.length ≤ sLine then some (x.length != 0) else none
  | .list xs => some (!xs.isEmpty)
  | .tuple xs => some (!xs.isEmpty)
  | .dict _ => none

inductive BOp where
  | add | sub | mul | fdiv | mod | pow
  deriving DecidableEq
inductive COp where
  | lt | le | gt | ge | eq | ne | isin | notin | iss | isnot
  deriving DecidableEq
inductive Ty where
  | int | bool | tuple | list | str | dict
  deriving DecidableEq
inductive Bi where
  | len | all | any | sum | int | tuple | list | sorted | dict | abs | str | repr | min | max
  deriving DecidableEq

def mulOk (i j : Int) : Bool := decide (-18446744073709551616 < i ∧ i < 18446744073709551616) || decide (-18446744073709551616 < j ∧ j < 18446744073709551616)

def binD : BOp → D → D → Option D
  | .add, .int a, .int b => some (.int (a + b))
  | .add, .list xs, .list ys => if xs.length + ys.length ≤ sLine then some (.list (xs ++ ys)) else none
  | .add, .tuple xs, .tuple ys => if xs.length + ys.length ≤ sLine then some (.tuple (xs ++ ys)) else none
  | .add, .str x, .str y => if x.length + y.length ≤ sLine then some (.str (x ++ y)) else none
  | .sub, .int a, .int b => some (.int (a - b))
  | .mul, .int a, .int b => if mulOk a b then some (.int (a * b)) else none
  | .mul, .tuple xs, .int k => if 0 ≤ k ∧ k ≤ 1000 ∧ xs.length ≤ 1000 then some (.tuple (List.replicate k.toNat xs).flatten) else none
  | .mul, .list xs, .int k => if 0 ≤ k ∧ k ≤ 1000 ∧ xs.length ≤ 1000 then some (.list (List.replicate k.toNat xs).flatten) else none
  | .mul, .str x, .int k => if 0 ≤ k ∧ k ≤ 1000 ∧ x.length ≤ 1000 then some (.str ⟨(List.replicate k.toNat x.cps.toList).flatten.toArray⟩) else none
  | .fdiv, .int a, .int b => if 0 < b ∧ b < 2147483648 then some (.int (a / b)) else none
  | .mod, .int a, .int b => if 0 < b then some (.int (a % b)) else none
  | .pow, .int a, .int b => if 0 ≤ b ∧ b ≤ 1000000 ∧ a.natAbs < 18446744073709551616 then some (.int (a ^ b.toNat)) else none
  | _, _, _ => none

/-- == of two data without dicts inside, one of them at most 64 deep -/
def eqOk (a b : D) : Bool := a.canLay0 && b.canLay0 && (decide (a.depth ≤ 64) || decide (b.depth ≤ 64))
/-- == with the lengths alone -/
def eqE : D → D → Option Bool
  | .list xs, .list ys => if xs.length = ys.length then (if xs.isEmpty then some true else none) else some false
  | .tuple xs, .tuple [] => some xs.isEmpty
  | _, _ => none
def eqD (a b : D) : Option Bool := if eqOk a b then some (PyData.eqv a b) else eqE a b
def inOk (a : D) (xs : List D) : Bool := SeqAt.shaped a && PyData.canLayAll0 xs
def inD (a : D) (xs : List D) : Option Bool := if inOk a xs then some (xs.any fun z => PyData.eqv z a) else none

def isNoneD : D → Bool
  | .none => true
  | _ => false

/-- < of two tuples that are alike -/
def ltOk (a b : D) : Bool := PySem.W.alike a b && (decide (a.depth ≤ 64) || decide (b.depth ≤ 64))
def ltD (a b : D) : Option Bool := if ltOk a b then some (PySem.W.dataLt a b) else none

def cmpD : COp → D → D → Option Bool
  | .lt, .int a, .int b => some (decide (a < b))
  | .le, .int a, .int b => some (decide (a ≤ b))
  | .gt, .int a, .int b => some (decide (b < a))
  | .ge, .int a, .int b => some (decide (b ≤ a))
  | .lt, .tuple xs, .tuple ys => ltD (.tuple xs) (.tuple ys)
  | .eq, .str a, .str b => some (decide (a = b))
  | .ne, .str a, .str b => some (!decide (a = b))
  | .eq, a, b => eqD a b
  | .ne, a, b => (eqD a b).map (!·)
  | .isin, a, .list xs => inD a xs
  | .notin, a, .list xs => (inD a xs).map (!·)
  | .isin, a, .tuple xs => inD a xs
  | .notin, a, .tuple xs => (inD a xs).map (!·)
  | .iss, a, .none => some (isNoneD a)
  | .isnot, a, .none => some (!isNoneD a)
  | _, _, _ => none

def isTy : Ty → D → Bool
  | .int, .int _ => true
  | .int, .bool _ => true
  | .bool, .bool _ => true
  | .tuple, .tuple _ => true
  | .list, .list _ => true
  | .str, .str _ => true
  | .dict, .dict _ => true
  | _, _ => false

/-- the place that an index of any sign means -/
def ixOf (n : Nat) (i : Int) : Option Nat := if 0 ≤ i then (if i < n then some i.toNat else none) else if -(n : Int) ≤ i then some (i + n).toNat else none
def atD {α : Type} (xs : List α) (i : Int) : Option α := (ixOf xs.length i).bind fun j => xs[j]?
def sIx (n d : Nat) : Option Int → Nat
  | none => d
  | some v => if v < 0 then (v + (n : Int)).toNat else min v.toNat n
def cut {α : Type} (xs : List α) (lo hi : Option Int) : List α := (xs.drop (sIx xs.length 0 lo)).take (sIx xs.length xs.length hi - sIx xs.length 0 lo)

def ixD : D → D → Option D
  | .list xs, .int i => atD xs i
  | .tuple xs, .int i => atD xs i
  | .str x, .int i => if x.length ≤ sLine then (atD x.cps.toList i).map fun c => .str ⟨#[c]⟩ else none
  | _, _ => none
def slD : D → Option Int → Option Int → Option D
  | .list xs, lo, hi => some (.list (cut xs lo hi))
  | .tuple xs, lo, hi => some (.tuple (cut xs lo hi))
  | .str x, lo, hi => if x.length ≤ sLine then some (.str ⟨(cut x.cps.toList lo hi).toArray⟩) else none
  | _, _, _ => none

def allB : List D → Option (List Bool)
  | [] => some []
  | .bool b :: r => (allB r).map (b :: ·)
  | _ :: _ => none
@[simp] theorem allB_map (bs : List Bool) : allB (bs.map PyData.bool) = some bs := by
  induction bs with
  | nil => rfl
  | cons x r ih => simp [allB, ih]
def allI : List D → Option (List Int)
  | [] => some []
  | .int b :: r => (allI r).map (b :: ·)
  | _ :: _ => none
@[simp] theorem allI_map (bs : List Int) : allI (bs.map PyData.int) = some bs := by
  induction bs with
  | nil => rfl
  | cons x r ih => simp [allI, ih]
/-- a list of pairs whose keys are ints -/
def allPairs : List D → Option (List (Int × D))
  | [] => some []
  | .tuple [.int k, x] :: r => (allPairs r).map ((k, x) :: ·)
  | _ :: _ => none

def lenD : D → Option Nat
  | .list xs => some xs.length
  | .tuple xs => some xs.length
  | .str x => if x.length ≤ sLine then some x.length else none
  | _ => none

/-- what can be shown -/
def reprOk (x : D) : Bool := x.showable && decide (x.depth ≤ 60) && decide (x.shown.length ≤ sLine)
def maxI : List Int → Option Int
  | [] => none
  | n :: ns => some (ns.foldl (fun a b => if a < b then b else a) n)
def minI : List Int → Option Int
  | [] => none
  | n :: ns => some (ns.foldl (fun a b => if b < a then b else a) n)
/-- min(xs), xs a list of alike things -/
def minOk (ds : List D) : Bool := (ds.all fun a => ds.all fun b => PySem.W.alike a b) && (ds.all fun a => match a with | .none => false | _ => true) && decide (PyData.depthAll ds ≤ 60)
def minX : List D → Option D
  | [] => none
  | x :: xs => if minOk (x :: xs) then some (PySem.W.minD x xs) else none
def biD : Bi → D → Option D
  | .len, x => (lenD x).map fun n => .int n
  | .all, .list xs => (allB xs).map fun bs => .bool (bs.all id)
  | .any, .list xs => (allB xs).map fun bs => .bool (bs.any id)
  | .sum, .list xs => (allI xs).map fun ns => .int ns.sum
  | .int, .int i => some (.int i)
  | .int, .bool b => some (.int (if b then 1 else 0))
  | .tuple, .list xs => some (.tuple xs)
  | .tuple, .tuple xs => some (.tuple xs)
  | .list, .list xs => some (.list xs)
  | .list, .tuple xs => some (.list xs)
  | .abs, .int i => some (.int (if i < 0 then -i else i))
  | .repr, x => if reprOk x then some (.str x.shown) else none
  | .max, .list xs => (allI xs).bind fun ns => (maxI ns).map fun n => .int n
  | .max, .tuple xs => (allI xs).bind fun ns => (maxI ns).map fun n => .int n
  | .min, .list xs => ((allI xs).bind fun ns => (minI ns).map fun n => .int n).or (minX xs)
  | _, _ => none

/-! ### sorting -/
/-- into its place, once -/
def insI (x : Int) : List Int → List Int
  | [] => [x]
  | y :: r => if x < y then x :: y :: r else if x = y then y :: r else y :: insI x r
def srtI (ns : List Int) : List Int := ns.foldr insI []
/-- pairs of ints, small ones -/
def isPr : D → Option (Int × Int)
  | .tuple [.int a, .int b] => if 0 ≤ a ∧ a < 64 ∧ 0 ≤ b ∧ b < 64 then some (a, b) else none
  | _ => none
def prD (p : Int × Int) : D := .tuple [.int p.1, .int p.2]
def prLt (p q : Int × Int) : Bool := decide (p.1 < q.1) || (decide (p.1 = q.1) && decide (p.2 < q.2))
/-- into its place, once -/
def insP (x : Int × Int) : List (Int × Int) → List (Int × Int)
  | [] => [x]
  | y :: r => if prLt x y then x :: y :: r else if x = y then y :: r else y :: insP x r
def srtP (ns : List (Int × Int)) : List (Int × Int) := ns.foldr insP []
def isTup1 : D → Bool
  | .tuple (_ :: _) => true
  | _ => false
def isOther : D → Bool
  | .tuple _ => false
  | .none => false
  | _ => true
def isTup : D → Bool
  | .tuple _ => true
  | _ => false
/-- tuples, the first one empty -/
def fstE : List D → Bool
  | .tuple [] :: r => r.all isTup
  | _ => false
def sortOk (xs : List D) : Bool := (xs.all fun a => xs.all fun b => PySem.W.alike a b) && (xs.all isTup1 || xs.all isOther || fstE xs) && decide (xs.length ≤ sLine) && xs.all fun a => decide (a.depth ≤ 60)
def sortD (xs : List D) : List D := xs.mergeSort (PySem.W.dataLe false id)
/-- sorted(xs), sorted(set(xs)) -/
def sortX (st : Bool) (xs : List D) : Option (List D) := match st with
  | false => if sortOk xs then some (sortD xs) else none
  | true => (allI xs).bind fun ns => if ns.length < 64 then some ((srtI ns).map PyData.int) else none

/-! ### syntax -/
mutual
inductive Tg where
  | name (i : Nat)
  | tup (ts : Tgs)
inductive Tgs where
  | nil
  | cons (t : Tg) (ts : Tgs)
end

/-- further operations: by their arguments' values -/
inductive XOp where
  | lzip | kget | sdef | upd | dprs | ditm | dzip | lcnt | lidx
  deriving DecidableEq
mutual
inductive E where
  | var (i : Nat)
  | glob (g : Nat)
  | none
  | bool (b : Bool)
  | int (i : Int)
  | str (s : Str)
  | tup (es : Es)
  | lst (es : Es)
  | lstN (es : Es)
  | bin (o : BOp) (a b : E)
  | neg (a : E)
  | not (a : E)
  | bools (isAnd : Bool) (es : Es)
  | cmp (o : COp) (a b : E)
  | chain (o p : COp) (a b c : E)
  | ife (c a b : E)
  | ix (a i : E)
  | sl (a : E) (lo hi : Oe)
  | call (f : Nat) (es : Es)
  | bi (b : Bi) (a : E)
  | isi (a : E) (tys : List Ty)
  | lenSet (a : E)
  | dictOf (a : E)
  | dict1 (k v : E)
  | dict0
  | comp (own : List Nat) (tg : Tg) (it : It) (cs : Es) (elt : E)
  | fz (a : E)
  | isx (i : Nat) (yes no : List Nat) (d : Option Nat)
  | xfld (i w : Nat)
  | callP (f : Nat) (es : Es)
  | mm (isMax : Bool) (a b : E)
  | srt (st nw : Bool) (a : E)
  | dctN
  | newc (a : E)
  | rev (a : E)
  | srtP (a : E)
  | callL (fs : List Nat) (i : E) (es : Es)
  | dget (a k : E)
  | dgetZ (a k z : E)
  | din (neg : Bool) (k a : E)
  | dlen (a : E)
  | dcpy (a : E)
  | klst (a : E)
  | getI (a k z : E)
  | dict2 (a b c d : E)
  | xop (k : XOp) (a : E) (es : Es)
inductive Es where
  | nil
  | cons (e : E) (es : Es)
inductive Oe where
  | no
  | yes (e : E)
inductive It where
  | over (e : E)
  | range1 (e : E)
  | range2 (a b : E)
  | enum (e : E)
  | zip (a b : E)
  | items (e : E)
  | keys (e : E)
end

mutual
inductive St where
  | set (i : Nat) (e : E)
  | setc (i : Nat) (e : E)
  | unp (ts : Tgs) (e : E)
  | par (ts : List Nat) (es : Es)
  | setix (a i e : E)
  | setk (a : E) (ks : Es) (e : E)
  | setd (a k e : E)
  | st2 (a i b j : E) (es : Es)
  | expr (e : E)
  | app (a e : E)
  | ext (a e : E)
  | ifs (c : E) (t f : Sts)
  | fors (tg : Tg) (it : It) (b : Sts)
  | whil (n : Nat) (c : E) (b : Sts)
  | ret (e : E)
  | pass
  | brk
  | cnt
  | never
  | frzs (i : Nat) (s : St)
  | raise (c : Nat) (m : Str)
  | raise2 (c : Nat) (a b : E)
  | tri (b : Sts) (i : Nat) (yes no : List Nat) (d : Nat) (h : Sts)
inductive Sts where
  | nil
  | cons (s : St) (ss : Sts)
end

/-! ### the interpreter -/
abbrev Runner := Nat → List Val → Sto → R Val

def litI (G : List D) (g : Nat) : Option D := G[g]?

def truthV (S : Sto) (v : Val) : Option Bool := (view S v).bind truthD

def Val.plain : Val → Option Val
  | .exn _ => Option.none
  | v => some v
def Val.exc : Val → Option Exc
  | .exn e => some e
  | _ => Option.none
def lookE (env : Env) (i : Nat) : Option Val := ((env[i]?).join).bind Val.plain
/-- the slot of a caught exception -/
def lookX (env : Env) (i : Nat) : Option Exc := ((env[i]?).join).bind Val.exc
def noExn (env : Env) : Bool := env.all fun o => match o with | some (.exn _) => false | _ => true
def allO {α : Type} : List (Option α) → Option (List α)
  | [] => some []
  | some x :: r => (allO r).map (x :: ·)
  | Option.none :: _ => Option.none
/-- a value with all lists below it, read through the store -/
def deepV (S : Sto) : Nat → Val → Option D
  | _, .d x => some x
  | k + 1, .ref n => match stGet S n with
    | some (.lst vs) => (allO (vs.map (deepV S k))).map .list
    | _ => Option.none
  | _, _ => Option.none
def immB : D → Bool
  | .none => true
  | .bool _ => true
  | .int _ => true
  | .str _ => true
  | _ => false

def lenV (S : Sto) : Val → Option Nat
  | .scr ns => some ns.length
  | .ref n => match stGet S n with
    | some (.lst vs) => some vs.length
    | _ => Option.none
  | v => (view S v).bind lenD

def biV (S : Sto) (b : Bi) (v : Val) : Option D := match b, v with
  | .len, v => (lenV S v).map fun n => .int n
  | b, v => (view S v).bind (biD b)

def ixV (S : Sto) (v : Val) (i : D) : Option Val := match v, i with
  | .scr ns, .int i => (atD ns i).map fun n => .d (.int n)
  | .ref n, .int i => match stGet S n with
    | some (.lst vs) => atD vs i
    | _ => Option.none
  | .d x, i => (ixD x i).map .d
  | _, _ => Option.none

def slV (S : Sto) (v : Val) (lo hi : Option Int) : Option D := match v with
  | .scr ns => some (.list ((cut ns lo hi).map PyData.int))
  | v => (view S v).bind fun x => slD x lo hi

def isTyV (S : Sto) (tys : List Ty) (v : Val) : Option Bool := (view S v).map fun x => tys.any fun t => isTy t x

/-- what a for or a comprehension walks, and the store's lists that stand locked meanwhile -/
def itemsV (S : Sto) : Val → Option (List Val × List Nat)
  | .scr ns => some (ns.map (fun n => .d (.int n)), [])
  | .d (.list xs) => some (xs.map Val.d, [])
  | .d (.tuple xs) => some (xs.map Val.d, [])
  | .ref n => match stGet S n with
    | some (.lst vs) => some (vs, [n])
    | _ => Option.none
  | _ => Option.none

def pureItems (S : Sto) (v : Val) : Option (List D × List Nat) := (itemsV S v).bind fun p => (pureVs p.1).map fun xs => (xs, p.2)

def enumD (xs : List D) : List Val := (xs.zipIdx).map fun p => .d (.tuple [.int p.2, p.1])
def zipD (xs ys : List D) : List Val := (xs.zip ys).map fun p => .d (.tuple [p.1, p.2])

/-- two lists, or two tuples, of data -/
def zipV (S : Sto) (x y : Val) : Option (List Val × List Nat) := match x, y with
  | .d (.list xs), .d (.list ys) => some (zipD xs ys, [])
  | .d (.tuple xs), .d (.tuple ys) => some (zipD xs ys, [])
  | .d (.list xs), .d (.tuple ys) => some (zipD xs ys, [])
  | _, _ => none

/-- locked lists stand aside, and come back -/
def lockS (S : Sto) (l : List Nat) : Sto := l.foldl (fun S n => S.set n none) S
def unlockS (S0 S : Sto) (l : List Nat) : Sto := l.foldl (fun S n => S.set n ((S0[n]?).join)) S

def rangeVs (a b : Int) : List Val := (List.range (b - a).toNat).map fun (k : Nat) => .d (.int (a + k))

mutual
def setTg : Tg → Val → Env → Option Env
  | .name i, v, env => some (env.set i (some v))
  | .tup ts, .d (.tuple xs), env => setTgs ts xs env
  | _, _, _ => Option.none
def setTgs : Tgs → List D → Env → Option Env
  | .nil, [], env => some env
  | .cons t ts, x :: xs, env => (setTg t (.d x) env).bind fun env1 => setTgs ts xs env1
  | _, _, _ => Option.none
end

def wipeE (env : Env) : List Nat → Env
  | [] => env
  | v :: vs => (wipeE env vs).set v Option.none

def compL (f : Val → Sto → R (Option D)) : List Val → Sto → R (List D)
  | [], S => .ok [] S
  | x :: xs, S => (f x S).bind fun o S1 => (compL f xs S1).bind fun r S2 => .ok (match o with | some y => y :: r | Option.none => r) S2

/-- an exception out of a comprehension is not followed -/
def R.noexc {α : Type} : R α → R α
  | .exc _ _ => .stuck
  | r => r
@[simp] theorem R.noexc_ok {α : Type} (a : α) (S : Sto) : (R.ok a S).noexc = .ok a S := rfl
@[simp] theorem R.noexc_stuck {α : Type} : (R.stuck : R α).noexc = .stuck := rfl
@[simp] theorem R.noexc_exc {α : Type} (e : Exc) (S : Sto) : (R.exc e S : R α).noexc = .stuck := rfl

def firstStep (acc : List Int) (x : Int) : List Int := if acc.any (· == x) then acc else acc ++ [x]
def firsts (ns : List Int) : List Int := ns.foldl firstStep []
def isKeyI (k : Int) : D → Bool
  | .int j => j == k
  | _ => false
def putI (acc : List (D × D)) (kv : Int × D) : List (D × D) := if acc.any (fun p => isKeyI kv.1 p.1) then acc.map (fun p => if isKeyI kv.1 p.1 then (p.1, kv.2) else p) else acc ++ [(.int kv.1, kv.2)]
def mergeI (kvs : List (Int × D)) : List (D × D) := kvs.foldl putI []

/-- dicts of the store as data: their keys tuples of ints; ints -/
def encT (es : List (List Int × D)) : List (D × D) := es.map fun p => (.tuple (p.1.map PyData.int), p.2)
def encK (es : List (Int × D)) : List (D × D) := es.map fun p => (.int p.1, p.2)
def itemK : Int × Val → Option (Int × D)
  | (k, .d x) => some (k, x)
  | _ => Option.none
/-- the values of a dict; lists of the store among them become data -/
def fzVals : List (List Int × Val) → Sto → Option (List (List Int × D) × Sto)
  | [], S => some ([], S)
  | (k, .d x) :: r, S => (fzVals r S).map fun p => ((k, x) :: p.1, p.2)
  | (k, .ref m) :: r, S => match stGet S m with
    | some (.lst vs) => match pureVs vs with
      | some ds => (fzVals r (S.set m Option.none)).map fun p => ((k, .list ds) :: p.1, p.2)
      | Option.none => Option.none
    | _ => Option.none
  | _ :: _, _ => Option.none
/-- a list of the store becomes a datum: whoever else holds it loses it -/
def fzV (v : Val) (S : Sto) : R Val := match v with
  | .d x => .ok (.d x) S
  | .ref n => match stGet S n with
    | some (.lst vs) => match pureVs vs with
      | some ds => .ok (.d (.list ds)) (S.set n Option.none)
      | Option.none => .stuck
    | some (.dct es) => match fzVals es S with
      | some p => .ok (.d (.dict (encT p.1))) (p.2.set n Option.none)
      | Option.none => .stuck
    | some (.kv 0 es) => match allO (es.map itemK) with
      | some ds => .ok (.d (.dict (encK ds))) (S.set n Option.none)
      | Option.none => .stuck
    | _ => .stuck
  | _ => .stuck

/-- a dict's own place for a key, or its end -/
def putD (es : List (List Int × Val)) (k : List Int) (v : Val) : List (List Int × Val) :=
  if (es.any fun p => decide (p.1 = k)) = true then es.map (fun p => if p.1 = k then (p.1, v) else p) else es ++ [(k, v)]
def itemD : List Int × Val → Option D
  | (k, .d x) => some (.tuple [.tuple (k.map PyData.int), x])
  | _ => Option.none
/-- the pairs of a dict; the dict is not asked again -/
def itemsDV (S : Sto) (v : Val) : R (List Val × List Nat) := match v with
  | .ref n => match stGet S n with
    | some (.dct es) => match allO (es.map itemD) with
      | some ds => .ok (ds.map Val.d, []) (S.set n Option.none)
      | Option.none => .stuck
    | _ => .stuck
  | _ => .stuck
def srtV (st nw : Bool) (S : Sto) (x : Val) : R Val := match view S x with
  | some (.list xs) => match sortX st xs with
    | some ys => if nw then .ok (.ref S.length) (S ++ [some (.lst (ys.map Val.d))]) else .ok (.d (.list ys)) S
    | Option.none => .stuck
  | some (.tuple xs) => match sortX st xs with
    | some ys => if nw then .ok (.ref S.length) (S ++ [some (.lst (ys.map Val.d))]) else .ok (.d (.list ys)) S
    | Option.none => .stuck
  | _ => .stuck
/-- a list just made, as one of the store -/
def newV (v : Val) (S : Sto) : R Val := match v with
  | .d (.list ys) => .ok (.ref S.length) (S ++ [some (.lst (ys.map Val.d))])
  | .d (.dict []) => .ok (.ref S.length) (S ++ [some (.kv 0 [])])
  | _ => .stuck
/-- a call that sees the values as data and leaves the store -/
def callPV (C : Runner) (f : Nat) (vs : List Val) (S : Sto) : R Val := match allO (vs.map (deepV S 3)) with
  | some ds => match C f (ds.map Val.d) [] with
    | .ok (.d x) _ => if immB x then .ok (.d x) S else .stuck
    | _ => .stuck
  | Option.none => .stuck

/-- a key of a dict of the store -/
def keyV : Val → Option (List Int)
  | .d (.tuple ds) => allI ds
  | _ => Option.none
/-- the pairs of a dict whose keys are tuples of ints -/
def decT : List (D × D) → Option (List (List Int × Val))
  | [] => some []
  | (.tuple ds, x) :: r => match allI ds with
    | some ks => (decT r).map ((ks, .d x) :: ·)
    | Option.none => Option.none
  | _ :: _ => Option.none
/-- a dict of the store, or one as data -/
def dctV (S : Sto) : Val → Option (List (List Int × Val))
  | .d (.dict es) => decT es
  | .ref n => match stGet S n with
    | some (.dct es) => some es
    | _ => Option.none
  | _ => Option.none
def isDat : Val → Bool
  | .d _ => true
  | _ => false
/-- list(d), the keys tuples -/
def klstV (S : Sto) (x : Val) : Option Val := (dctV S x).bind fun es => if es.isEmpty && isDat x then none else some (.d (.list (es.map fun p => .tuple (p.1.map PyData.int))))
def lookD (es : List (List Int × Val)) (ks : List Int) : Option Val := (es.find? fun p => decide (p.1 = ks)).map (·.2)
/-- keys whose hashes are known to be apart -/
def smallK : List Int → Bool
  | [a, b] => decide (0 ≤ a) && decide (a < 8) && (decide (0 ≤ b) && decide (b < 8))
  | _ => false
def dcpyV (S : Sto) (x : Val) : R Val := match dctV S x with
  | some es => if es.all (fun p => smallK p.1) && decide (es.length ≤ 64) then .ok (.ref S.length) (S ++ [some (.dct es)]) else .stuck
  | Option.none => .stuck
/-- dicts as data, their keys ints -/
def lookI (es : List (D × D)) (k : Int) : Option D := (es.find? fun p => isKeyI k p.1).map (·.2)
def isDic : Val → Bool
  | .d (.dict ((.int _, _) :: _)) => true
  | _ => false
/-- the keys of a dict, ints, one at least -/
def keysI : List (D × D) → Option (List Int)
  | [] => some []
  | (.int k, _) :: r => (keysI r).map (k :: ·)
  | _ :: _ => Option.none
/-- .. tuples of ints -/
def keysT : List (D × D) → Option (List (List Int))
  | [] => some []
  | (.tuple ks, _) :: r => (allI ks).bind fun k => (keysT r).map (k :: ·)
  | _ :: _ => Option.none
def keysV : Val → Option (List Val × List Nat)
  | .d (.dict (p :: r)) => if (p :: r).length ≤ sLine then (match keysI (p :: r) with
    | some ks => some (ks.map fun k => .d (.int k), [])
    | Option.none => (keysT (p :: r)).map fun ks => (ks.map fun k => .d (.tuple (k.map PyData.int)), [])) else Option.none
  | _ => Option.none
def dlenV (S : Sto) : Val → Option Nat
  | .d (.dict es) => some es.length
  | x => (dctV S x).map (·.length)
def putKI (es : List (Int × Val)) (k : Int) (v : Val) : List (Int × Val) :=
  if (es.any fun p => decide (p.1 = k)) = true then es.map (fun p => if p.1 = k then (p.1, v) else p) else es ++ [(k, v)]
/-- d.setdefault(k, []) -/
def sdefV (x y : Val) (S : Sto) : R Val := match x, keyV y with
  | .ref n, some ks => match stGet S n with
    | some (.dct es) => match lookD es ks with
      | some v => .ok v S
      | Option.none => if es.length < sLine ∧ ks.length ≤ 1000 then .ok (.ref S.length) ((S ++ [some (Ob.lst [])]).set n (some (Ob.dct (putD es ks (Val.ref S.length))))) else .stuck
    | _ => .stuck
  | _, _ => .stuck
/-- d.update(e), e a datum -/
def putsD (es more : List (List Int × Val)) : List (List Int × Val) := more.foldl (fun acc p => putD acc p.1 p.2) es
def updV (x y : Val) (S : Sto) : R Val := match x, y with
  | .ref n, .d d => match stGet S n, dctV S (.d d) with
    | some (.dct es), some more => if more.all (fun p => smallK p.1) && decide (more.length ≤ 64) && decide (es.length ≤ 64) then .ok (.d .none) (S.set n (some (Ob.dct (putsD es more)))) else .stuck
    | _, _ => .stuck
  | _, _ => .stuck
def kgetV (x y : Val) : Option Val := match x, y with
  | .d (.dict es), .d (.int k) => (lookI es k).map Val.d
  | _, _ => Option.none
def isDct (S : Sto) : Val → Bool
  | .ref n => (dctV S (.ref n)).isSome
  | _ => false
def getIV (x y w : Val) : Option Val := match x, y, w with
  | .d (.dict es), .d (.int i), .d z => some (.d ((lookI es i).getD z))
  | _, _, _ => Option.none
def dict2V (x y z w : Val) : Option Val := match x, y, z, w with
  | .d (.int i), .d u, .d (.int j), .d g => some (.d (.dict (mergeI [(i, u), (j, g)])))
  | _, _, _, _ => Option.none
/-- sorted(set(xs)), xs a list of pairs -/
def srtPV (S : Sto) (x : Val) : R Val := match view S x with
  | some (.list xs) => match allO (xs.map isPr) with
    | some ps => if ps.length < 64 then .ok (.d (.list ((srtP ps).map prD))) S else .stuck
    | Option.none => .stuck
  | _ => .stuck
/-- list(zip(x, y)) -/
def lzV (x y : Val) : Option Val := match x, y with
  | .d (.list xs), .d (.list ys) => some (.d (.list ((xs.zip ys).map fun p => .tuple [p.1, p.2])))
  | .d (.tuple xs), .d (.tuple ys) => some (.d (.list ((xs.zip ys).map fun p => .tuple [p.1, p.2])))
  | _, _ => Option.none
/-- xs.count(b), xs.index(b): truths -/
def trusD : List D → Option (List Bool)
  | [] => some []
  | .bool b :: r => (trusD r).map (b :: ·)
  | _ :: _ => Option.none
def isLsD : Val → Bool
  | .d (.list _) => true
  | _ => false
def lcntV (x y : Val) : Option Val := match x, y with
  | .d (.list ds), .d (.bool b) => (trusD ds).map fun bs => .d (.int (bs.count b : Nat))
  | _, _ => Option.none
def lidxV (x y : Val) : Option Val := match x, y with
  | .d (.list ds), .d (.bool b) => (trusD ds).bind fun bs => if bs.contains b then some (.d (.int (bs.idxOf b : Nat))) else Option.none
  | _, _ => Option.none
/-- what is asked of the first value before the others are taken -/
def xopPre (k : XOp) (S : Sto) (x : Val) : Bool := match k with
  | .lzip => true
  | .kget => true
  | .sdef => isDct S x
  | .upd => isDct S x
  | .dprs => true
  | .ditm => true
  | .dzip => true
  | .lcnt => isLsD x
  | .lidx => isLsD x
/-- dict(a list of pairs): a dict of the store -/
def pairP : D → Option (List Int × Val)
  | .tuple [.tuple ks, v] => (allI ks).map fun k => (k, Val.d v)
  | _ => Option.none
def prsV (x : Val) (S : Sto) : R Val := match view S x with
  | some (.list ds) => match allO (ds.map pairP) with
    | some ps => .ok (.ref S.length) (S ++ [some (.dct (putsD [] ps))])
    | Option.none => .stuck
  | _ => .stuck
/-- dict(zip(a list of keys, a tuple)): a dict of the store -/
def tupK : D → Option (List Int)
  | .tuple ks => allI ks
  | _ => Option.none
def dzV (x y : Val) (S : Sto) : R Val := match x, y with
  | .d (.list ds), .d (.tuple es) => match allO (ds.map tupK) with
    | some ks => .ok (.ref S.length) (S ++ [some (.dct (putsD [] (ks.zip (es.map Val.d))))])
    | Option.none => .stuck
  | _, _ => .stuck
/-- list(d.items()) -/
def itmV (S : Sto) (x : Val) : Option Val := (dctV S x).bind fun es => (allO (es.map itemD)).map fun ds => .d (.list ds)
def xopV (k : XOp) (x : Val) (vs : List Val) (S : Sto) : R Val := match k, vs with
  | .lzip, [y] => .ofO (lzV x y) S
  | .kget, [y] => .ofO (kgetV x y) S
  | .sdef, [y] => sdefV x y S
  | .upd, [y] => updV x y S
  | .dzip, [y] => dzV x y S
  | .lcnt, [y] => .ofO (lcntV x y) S
  | .lidx, [y] => .ofO (lidxV x y) S
  | .dprs, [] => prsV x S
  | .ditm, [] => .ofO (itmV S x) S
  | _, _ => .stuck
/-- one def out of a list -/
def pickF (fs : List Nat) : Val → Option Nat
  | .d (.int j) => atD fs j
  | _ => Option.none
def revV : Val → Option Val
  | .d (.tuple xs) => some (.d (.tuple xs.reverse))
  | _ => Option.none

section
variable (G : List D) (C : Runner)
mutual
def evE : E → Env → Sto → R Val
  | .var i, env, S => .ofO (lookE env i) S
  | .glob g, _, S => .ofO ((litI G g).map Val.d) S
  | .none, _, S => .ok (.d .none) S
  | .bool b, _, S => .ok (.d (.bool b)) S
  | .int i, _, S => .ok (.d (.int i)) S
  | .str s, _, S => .ok (.d (.str s)) S
  | .tup es, env, S => (evEs es env S).bind fun vs S1 => .ofO ((pureVs vs).map fun xs => .d (.tuple xs)) S1
  | .lst es, env, S => (evEs es env S).bind fun vs S1 => .ofO ((pureVs vs).map fun xs => .d (.list xs)) S1
  | .lstN es, env, S => (evEs es env S).bind fun vs S1 => .ok (.ref S1.length) (S1 ++ [some (.lst vs)])
  | .bin o a b, env, S => (evE a env S).bind fun x S1 => (evE b env S1).bind fun y S2 =>
      .ofO (((view S2 x).bind fun x => (view S2 y).bind fun y => binD o x y).map Val.d) S2
  | .neg a, env, S => (evE a env S).bind fun x S1 => .ofO (match x with | .d (.int i) => some (.d (.int (-i))) | _ => Option.none) S1
  | .not a, env, S => (evE a env S).bind fun v S1 => (R.ofO (truthV S1 v) S1).bind fun b S2 => .ok (.d (.bool (!b))) S2
  | .bools k es, env, S => evB k es env S
  | .cmp o a b, env, S => (evE a env S).bind fun x S1 => (evE b env S1).bind fun y S2 =>
      .ofO (((view S2 x).bind fun x => (view S2 y).bind fun y => cmpD o x y).map fun b => .d (.bool b)) S2
  | .chain o p a b c, env, S => (evE a env S).bind fun x S1 => (evE b env S1).bind fun y S2 =>
      (R.ofO ((view S2 x).bind fun x => (view S2 y).bind fun y => cmpD o x y) S2).bind fun k S3 =>
        if k then (evE c env S3).bind fun z S4 => .ofO (((view S4 y).bind fun y => (view S4 z).bind fun z => cmpD p y z).map fun b => .d (.bool b)) S4 else .ok (.d (.bool false)) S3
  | .ife c a b, env, S => (evE c env S).bind fun v S0 => (R.ofO (truthV S0 v) S0).bind fun k S1 => if k then evE a env S1 else evE b env S1
  | .ix a i, env, S => (evE a env S).bind fun x S1 => (evE i env S1).bind fun y S2 => .ofO (match y with | .d (.int i) => ixV S2 x (.int i) | _ => Option.none) S2
  | .sl a lo hi, env, S => (evE a env S).bind fun x S1 => (evO lo env S1).bind fun l S2 => (evO hi env S2).bind fun h S3 => .ofO ((slV S3 x l h).map Val.d) S3
  | .call f es, env, S => (evEs es env S).bind fun vs S1 => C f vs S1
  | .bi b a, env, S => (evE a env S).bind fun x S1 => .ofO ((biV S1 b x).map Val.d) S1
  | .isi a tys, env, S => (evE a env S).bind fun x S1 => .ofO ((isTyV S1 tys x).map fun b => .d (.bool b)) S1
  | .lenSet a, env, S => (evE a env S).bind fun x S1 => .ofO (match view S1 x with | some (.list xs) => (allI xs).bind fun ns => if ns.length ≤ 4000 then some (.d (.int (firsts ns).length)) else Option.none | _ => Option.none) S1
  | .dictOf a, env, S => (evE a env S).bind fun x S1 => .ofO (match view S1 x with | some (.list xs) => (allPairs xs).map fun kvs => .d (.dict (mergeI kvs)) | _ => Option.none) S1
  | .dict1 k v, env, S => (evE k env S).bind fun x S1 => (evE v env S1).bind fun y S2 => .ofO (match x, y with | .d (.int i), .d z => some (.d (.dict [(.int i, z)])) | _, _ => Option.none) S2
  | .dict0, _, S => .ok (.d (.dict [])) S
  | .comp own tg it cs elt, env, S => (evI it env S).bind fun p S1 =>
      (compL (fun x S => match setTg tg x (wipeE env own) with
        | some e2 => ((evCs cs e2 S).bind fun k S1 => if k then (evE elt e2 S1).bind fun y S2 => .ofO ((match y with | .d y => some (some y) | _ => Option.none)) S2 else .ok Option.none S1).noexc
        | Option.none => .stuck) p.1 (lockS S1 p.2)).bind fun ys S2 => .ok (.d (.list ys)) (unlockS S1 S2 p.2)
  | .fz a, env, S => (evE a env S).bind fun v S1 => fzV v S1
  | .xfld i w, env, S => .ofO ((lookX env i).bind fun e => (e.args[w]?).map Val.d) S
  | .isx i yes no _, env, S => .ofO ((lookX env i).bind fun e => if yes.contains e.cls then some (.d (.bool true)) else if no.contains e.cls then some (.d (.bool false)) else Option.none) S
  | .callP f es, env, S => (evEs es env S).bind fun vs S1 => callPV C f vs S1
  | .mm k a b, env, S => (evE a env S).bind fun x S1 => (evE b env S1).bind fun y S2 =>
      .ofO (match x, y with | .d (.int i), .d (.int j) => some (.d (.int (if k then (if j > i then j else i) else (if j < i then j else i)))) | _, _ => Option.none) S2
  | .srt st nw a, env, S => (evE a env S).bind fun x S1 => srtV st nw S1 x
  | .dctN, _, S => .ok (.ref S.length) (S ++ [some (.dct [])])
  | .newc a, env, S => (evE a env S).bind fun v S1 => newV v S1
  | .rev a, env, S => (evE a env S).bind fun v S1 => .ofO (revV v) S1
  | .srtP a, env, S => (evE a env S).bind fun v S1 => srtPV S1 v
  | .dget a k, env, S => (evE a env S).bind fun x S1 => (evE k env S1).bind fun y S2 => .ofO ((dctV S2 x).bind fun es => (keyV y).bind fun ks => lookD es ks) S2
  | .dgetZ a k z, env, S => (evE a env S).bind fun x S1 => if (dctV S1 x).isSome then (evE k env S1).bind fun y S2 => (evE z env S2).bind fun w S3 => .ofO ((dctV S3 x).bind fun es => (keyV y).map fun ks => (lookD es ks).getD w) S3 else .stuck
  | .din neg k a, env, S => (evE k env S).bind fun y S1 => (evE a env S1).bind fun x S2 => .ofO ((dctV S2 x).bind fun es => (keyV y).map fun ks => .d (.bool (if neg then !(lookD es ks).isSome else (lookD es ks).isSome))) S2
  | .dlen a, env, S => (evE a env S).bind fun x S1 => .ofO ((dlenV S1 x).map fun (n : Nat) => Val.d (PyData.int (n : Int))) S1
  | .dcpy a, env, S => (evE a env S).bind fun x S1 => dcpyV S1 x
  | .klst a, env, S => (evE a env S).bind fun x S1 => .ofO (klstV S1 x) S1
  | .getI a k z, env, S => (evE a env S).bind fun x S1 => if isDic x then (evE k env S1).bind fun y S2 => (evE z env S2).bind fun w S3 => .ofO (getIV x y w) S3 else .stuck
  | .dict2 a b c d, env, S => (evE a env S).bind fun x S1 => (evE b env S1).bind fun y S2 => (evE c env S2).bind fun z S3 => (evE d env S3).bind fun w S4 => .ofO (dict2V x y z w) S4
  | .xop k a es, env, S => (evE a env S).bind fun x S1 => if xopPre k S1 x then (evEs es env S1).bind fun vs S2 => xopV k x vs S2 else .stuck
  | .callL fs i es, env, S => (evE i env S).bind fun y S1 => match pickF fs y with | some f => (evEs es env S1).bind fun vs S2 => C f vs S2 | Option.none => .stuck
/-- and, or: values -/
def evB (k : Bool) : Es → Env → Sto → R Val
  | .nil, _, _ => .stuck
  | .cons e .nil, env, S => evE e env S
  | .cons e es, env, S => (evE e env S).bind fun v S1 => (R.ofO (truthV S1 v) S1).bind fun b S2 => if b = k then evB k es env S2 else .ok v S2
/-- the ifs of a comprehension -/
def evCs : Es → Env → Sto → R Bool
  | .nil, _, S => .ok true S
  | .cons e .nil, env, S => (evE e env S).bind fun v S1 => .ofO (truthV S1 v) S1
  | _, _, _ => .stuck
def evEs : Es → Env → Sto → R (List Val)
  | .nil, _, S => .ok [] S
  | .cons e es, env, S => (evE e env S).bind fun v S1 => (evEs es env S1).bind fun vs S2 => .ok (v :: vs) S2
def evO : Oe → Env → Sto → R (Option Int)
  | .no, _, S => .ok Option.none S
  | .yes e, env, S => (evE e env S).bind fun v S1 => .ofO (match v with | .d (.int i) => some (some i) | _ => Option.none) S1
def evI : It → Env → Sto → R (List Val × List Nat)
  | .over e, env, S => (evE e env S).bind fun v S1 => .ofO (itemsV S1 v) S1
  | .range1 e, env, S => (evE e env S).bind fun v S1 => .ofO (match v with | .d (.int n) => if n ≤ 16777216 ∧ -16777216 ≤ n then some (rangeVs 0 n, []) else Option.none | _ => Option.none) S1
  | .range2 a b, env, S => (evE a env S).bind fun x S1 => (evE b env S1).bind fun y S2 =>
      .ofO (match x, y with | .d (.int i), .d (.int j) => if -8388608 ≤ i ∧ i ≤ 8388608 ∧ -8388608 ≤ j ∧ j ≤ 8388608 then some (rangeVs i j, []) else Option.none | _, _ => Option.none) S2
  | .enum e, env, S => (evE e env S).bind fun v S1 => .ofO ((pureItems S1 v).map fun p => (enumD p.1, p.2)) S1
  | .zip a b, env, S => (evE a env S).bind fun x S1 => (evE b env S1).bind fun y S2 =>
      .ofO (zipV S2 x y) S2
  | .items e, env, S => (evE e env S).bind fun v S1 => itemsDV S1 v
  | .keys e, env, S => (evE e env S).bind fun v S1 => .ofO (keysV v) S1
end

/-- a test -/
def evT (e : E) (env : Env) (S : Sto) : R Bool := (evE G C e env S).bind fun v S1 => .ofO (truthV S1 v) S1

def forL (f : Val → Env → Sto → RS) : List Val → Env → Sto → RS
  | [], env, S => .nx env S
  | x :: xs, env, S => match f x env S with
    | .nx env1 S1 => forL f xs env1 S1
    | .cnt env1 S1 => forL f xs env1 S1
    | .brk env1 S1 => .nx env1 S1
    | r => r
def whileL (c : Env → Sto → R Bool) (f : Env → Sto → RS) : Nat → Env → Sto → RS
  | 0, _, _ => .stuck
  | n + 1, env, S => RS.ofR env (c env S) fun b S1 => if b then (match f env S1 with
      | .nx env2 S2 => whileL c f n env2 S2
      | .cnt env2 S2 => whileL c f n env2 S2
      | .brk env2 S2 => .nx env2 S2
      | r => r) else .nx env S1

def RS.relock (S0 : Sto) (l : List Nat) : RS → RS
  | .nx env S => .nx env (unlockS S0 S l)
  | .ret v S => .ret v (unlockS S0 S l)
  | .exc e env S => .exc e env (unlockS S0 S l)
  | .brk env S => .brk env (unlockS S0 S l)
  | .cnt env S => .cnt env (unlockS S0 S l)
  | .stuck => .stuck

def isLst (S : Sto) : Val → Bool
  | .ref n => match stGet S n with
    | some (.lst _) => true
    | _ => false
  | _ => false
def appV (env : Env) (x v : Val) (S : Sto) : RS := match x with
  | .ref n => match stGet S n with
    | some (.lst vs) => if vs.length < sLine then .nx env (S.set n (some (.lst (vs ++ [v])))) else .stuck
    | _ => .stuck
  | _ => .stuck
def extV (env : Env) (x v : Val) (S : Sto) : RS := match x, view S v with
  | .ref n, some (.list ys) => match stGet S n with
    | some (.lst vs) => if vs.length + ys.length ≤ sLine then .nx env (S.set n (some (.lst (vs ++ ys.map Val.d)))) else .stuck
    | _ => .stuck
  | _, _ => .stuck
def sixV (env : Env) (x y v : Val) (S : Sto) : RS := match x, y with
  | .ref n, .d (.int j) => match stGet S n with
    | some (.lst vs) => match ixOf vs.length j with
      | some k => .nx env (S.set n (some (.lst (vs.set k v))))
      | Option.none => .stuck
    | _ => .stuck
  | _, _ => .stuck
def setkV (env : Env) (x : Val) (kv : List Val) (v : Val) (S : Sto) : RS := match x, (pureVs kv).bind allI with
  | .ref n, some ks => match stGet S n with
    | some (.dct es) => if es.length < sLine ∧ ks.length ≤ 1000 then .nx env (S.set n (some (.dct (putD es ks v)))) else .stuck
    | _ => .stuck
  | _, _ => .stuck
def setdV (env : Env) (x y v : Val) (S : Sto) : RS := match x with
  | .ref n => match stGet S n with
    | some (.dct es) => match keyV y with
      | some ks => if es.length < sLine ∧ ks.length ≤ 1000 then .nx env (S.set n (some (.dct (putD es ks v)))) else .stuck
      | Option.none => .stuck
    | some (.kv 0 es) => match y with
      | .d (.int k) => if es.length < sLine then .nx env (S.set n (some (.kv 0 (putKI es k v)))) else .stuck
      | _ => .stuck
    | _ => .stuck
  | _ => .stuck
/-- the end of an except suite -/
def sufS (i : Nat) : RS → RS
  | .nx env S => if noExn (env.set i Option.none) then .nx (env.set i Option.none) S else .stuck
  | .ret v S => .ret v S
  | _ => .stuck
def exc2 (c : Nat) (env : Env) : Val → Val → Sto → RS
  | .d (.int m), .d (.int n), S => .exc ⟨c, [.int m, .int n]⟩ env S
  | _, _, _ => .stuck
def triS (b h : Env → Sto → RS) (i : Nat) (yes no : List Nat) (env : Env) (S : Sto) : RS := match b env S with
  | .exc e env1 S1 => if noExn env1 then (if yes.contains e.cls then sufS i (h (env1.set i (some (.exn e))) S1) else if no.contains e.cls then .exc e env1 S1 else .stuck) else .stuck
  | r => r
mutual
def exS : St → Env → Sto → RS
  | .set i e, env, S => .ofR env (evE G C e env S) fun v S1 => .nx (env.set i (some v)) S1
  | .setc i e, env, S => .ofR env (evE G C e env S) fun v S1 => .nx (env.set i (some v)) S1
  | .unp ts e, env, S => .ofR env (evE G C e env S) fun v S1 => match setTg (.tup ts) v env with
      | some env1 => .nx env1 S1
      | Option.none => .stuck
  | .par ts es, env, S => .ofR env (evEs G C es env S) fun vs S1 => if vs.length = ts.length then .nx ((ts.zip vs).foldl (fun env p => env.set p.1 (some p.2)) env) S1 else .stuck
  | .setix a i e, env, S => .ofR env (evE G C e env S) fun v S1 => .ofR env (evE G C a env S1) fun x S2 => .ofR env (evE G C i env S2) fun y S3 => sixV env x y v S3
  | .st2 a i b j es, env, S => .ofR env (evEs G C es env S) fun vs S1 => match vs with
    | [v, w] => .ofR env (evE G C a env S1) fun x S2 => .ofR env (evE G C i env S2) fun y S3 => (sixV env x y v S3).seq fun env S4 =>
        .ofR env (evE G C b env S4) fun x S5 => .ofR env (evE G C j env S5) fun y S6 => sixV env x y w S6
    | _ => .stuck
  | .setk a ks e, env, S => .ofR env (evE G C e env S) fun v S1 => .ofR env (evE G C a env S1) fun x S2 => .ofR env (evEs G C ks env S2) fun kv S3 => setkV env x kv v S3
  | .setd a k e, env, S => .ofR env (evE G C e env S) fun v S1 => .ofR env (evE G C a env S1) fun x S2 => .ofR env (evE G C k env S2) fun y S3 => setdV env x y v S3
  | .expr e, env, S => .ofR env (evE G C e env S) fun _ S1 => .nx env S1
  | .app a e, env, S => .ofR env (evE G C a env S) fun x S1 => if isLst S1 x then .ofR env (evE G C e env S1) fun v S2 => appV env x v S2 else .stuck
  | .ext a e, env, S => .ofR env (evE G C a env S) fun x S1 => if isLst S1 x then .ofR env (evE G C e env S1) fun v S2 => extV env x v S2 else .stuck
  | .ifs c t f, env, S => .ofR env (evT G C c env S) fun b S1 => if b then exSs t env S1 else exSs f env S1
  | .fors tg it b, env, S => .ofR env (evI G C it env S) fun p S1 =>
      (forL (fun x env S => match setTg tg x env with
        | some env1 => exSs b env1 S
        | Option.none => .stuck) p.1 env (lockS S1 p.2)).relock S1 p.2
  | .whil n c b, env, S => whileL (fun env S => evT G C c env S) (fun env S => exSs b env S) n env S
  | .ret e, env, S => .ofR env (evE G C e env S) fun v S1 => .ret v S1
  | .pass, env, S => .nx env S
  | .brk, env, S => .brk env S
  | .cnt, env, S => .cnt env S
  | .never, _, _ => .stuck
  | .frzs i s, env, S => match lookE env i with
    | some v => .ofR env (fzV v S) fun w S1 => exS s (env.set i (some w)) S1
    | Option.none => .stuck
  | .raise c _, env, S => .exc ⟨c, []⟩ env S
  | .raise2 c a b, env, S => .ofR env (evE G C a env S) fun x S1 => .ofR env (evE G C b env S1) fun y S2 => exc2 c env x y S2
  | .tri b i yes no _ h, env, S => triS (fun env S => exSs b env S) (fun env S => exSs h env S) i yes no env S
def exSs : Sts → Env → Sto → RS
  | .nil, env, S => .nx env S
  | .cons s ss, env, S => (exS s env S).seq fun env1 S1 => exSs ss env1 S1
end
end

structure Fn where
  params : Nat
  slots : Nat
  body : Sts

/-- the references of a store's object lie below n -/
def Val.below (n : Nat) : Val → Bool
  | .ref m => decide (m < n)
  | _ => true
def Ob.below (n : Nat) : Ob → Bool
  | .lst vs => vs.all (Val.below n)
  | .dct kvs => kvs.all fun p => p.2.below n
  | .kv _ kvs => kvs.all fun p => p.2.below n
def belowS (n : Nat) (S : Sto) : Bool := S.all fun o => match o with | some o => o.below n | Option.none => true
/-- behind a call: what the callee made and did not hand back is forgotten -/
def cutS (n : Nat) (v : Val) (S : Sto) : Sto := match v with
  | .ref _ => S
  | _ => if belowS n (S.take n) then S.take n else S

def finish (n : Nat) : RS → R Val
  | .nx _ S => .ok (.d .none) (cutS n (.d .none) S)
  | .ret v S => .ok v (cutS n v S)
  | .exc e _ S => .exc e S
  | _ => .stuck

def run (G : List D) (P : Nat → Fn) : Nat → Runner
  | 0, _, _, _ => .stuck
  | k + 1, i, vs, S => if vs.length = (P i).params then
      finish S.length (exSs G (run G P k) (P i).body (vs.map some ++ List.replicate ((P i).slots - vs.length) Option.none) S)
    else .stuck
end MS

-- MsSim
/-! Representation of data in the abstract heap; the simulation relation; readings. -/
namespace MS
open PySem PySem.Spec PyProof.Rows L2

/-! ### data in the frozen part -/
def kD : Key → D
  | .inl i => .int i
  | .inr x => .str x
def tupI (ks : List Int) : D := .tuple (ks.map PyData.int)
mutual
inductive Rep (K : PySem.W.Frag) (F : Hp) : V → D → Prop
  | non : Rep K F .non .none
  | bl (b : Bool) : Rep K F (.bl b) (.bool b)
  | int (i : Int) : Rep K F (.int i) (.int i)
  | str (x : Str) : Rep K F (.str x) (.str x)
  | lst {a : Addr} {xs : List V} {ds : List D} : F a = some (.lst xs) → Reps K F xs ds → Rep K F (.ref a) (.list ds)
  | tup {a : Addr} {xs : List V} {ds : List D} : F a = some (.tup xs) → Reps K F xs ds → Rep K F (.ref a) (.tuple ds)
  | dct {a : Addr} {o : Obj} {ks : List Key} {xs : List V} {ds : List D} : F a = some (.frz o (.dK (ks.zip xs))) → ks.length = xs.length → Reps K F xs ds → Rep K F (.ref a) (.dict ((ks.map kD).zip ds))
  | dT {a : Addr} {o : Obj} {ks : List (List Int)} {xs : List V} {ds : List D} : F a = some (.frz o (.dT ((ks.map fun q => (q.map Sum.inl : List Key)).zip xs))) → ks.length = xs.length → Reps K F xs ds → Rep K F (.ref a) (.dict ((ks.map tupI).zip ds))
inductive Reps (K : PySem.W.Frag) (F : Hp) : List V → List D → Prop
  | nil : Reps K F [] []
  | cons {x : V} {xs : List V} {d : D} {ds : List D} : Rep K F x d → Reps K F xs ds → Reps K F (x :: xs) (d :: ds)
end

theorem SqT.mono {K : PySem.W.Frag} {F F' : Hp} (s : Same F F') {a : Addr} {xs : List V} (h : SqT K F a xs) : SqT K F' a xs := by
  rcases h with (h | ⟨o, h⟩) | h
  · exact .inl (.inl (s _ _ h))
  · exact .inl (.inr ⟨o, s _ _ h⟩)
  · exact .inr h
mutual
theorem Rep.mono {K : PySem.W.Frag} {F F' : Hp} (s : Same F F') : ∀ {x : V} {d : D}, Rep K F x d → Rep K F' x d
  | _, _, .non => .non
  | _, _, .bl b => .bl b
  | _, _, .int i => .int i
  | _, _, .str x => .str x
  | _, _, .lst h r => .lst (s _ _ h) (Reps.mono s r)
  | _, _, .tup h r => .tup (s _ _ h) (Reps.mono s r)
  | _, _, .dct h l r => .dct (s _ _ h) l (Reps.mono s r)
  | _, _, .dT h l r => .dT (s _ _ h) l (Reps.mono s r)
theorem Reps.mono {K : PySem.W.Frag} {F F' : Hp} (s : Same F F') : ∀ {x : List V} {d : List D}, Reps K F x d → Reps K F' x d
  | _, _, .nil => .nil
  | _, _, .cons h r => .cons (Rep.mono s h) (Reps.mono s r)
end
section
variable {K : PySem.W.Frag} {F : Hp}
theorem Reps.length : ∀ {xs : List V} {ds : List D}, Reps K F xs ds → xs.length = ds.length
  | _, _, .nil => rfl
  | _, _, .cons _ r => by simp [Reps.length r]
theorem Reps.append : ∀ {xs ys : List V} {ds es : List D}, Reps K F xs ds → Reps K F ys es → Reps K F (xs ++ ys) (ds ++ es)
  | _, _, _, _, .nil, s => s
  | _, _, _, _, .cons h r, s => .cons h (Reps.append r s)
theorem Reps.take : ∀ {xs : List V} {ds : List D} (n : Nat), Reps K F xs ds → Reps K F (xs.take n) (ds.take n)
  | _, _, 0, _ => by simp; exact .nil
  | _, _, n + 1, .nil => .nil
  | _, _, n + 1, .cons h r => .cons h (Reps.take n r)
theorem Reps.drop : ∀ {xs : List V} {ds : List D} (n : Nat), Reps K F xs ds → Reps K F (xs.drop n) (ds.drop n)
  | _, _, 0, r => r
  | _, _, n + 1, .nil => .nil
  | _, _, n + 1, .cons h r => Reps.drop n r
theorem Reps.get : ∀ {xs : List V} {ds : List D} {i : Nat} {d : D}, Reps K F xs ds → ds[i]? = some d → ∃ x, xs[i]? = some x ∧ Rep K F x d
  | _, _, _, _, .nil, e => by simp at e
  | _, _, 0, _, .cons h _, e => by simp at e; subst e; exact ⟨_, rfl, h⟩
  | _, _, i + 1, d, .cons _ t, e => by
    obtain ⟨x, h1, h2⟩ := Reps.get (i := i) (d := d) t (by simpa using e)
    exact ⟨x, by simpa using h1, h2⟩
theorem Reps.getV : ∀ {xs : List V} {ds : List D} {i : Nat} {x : V}, Reps K F xs ds → xs[i]? = some x → ∃ d, ds[i]? = some d ∧ Rep K F x d
  | _, _, _, _, .nil, e => by simp at e
  | _, _, 0, _, .cons h _, e => by simp at e; subst e; exact ⟨_, rfl, h⟩
  | _, _, i + 1, x, .cons _ t, e => by
    obtain ⟨d, h1, h2⟩ := Reps.getV (i := i) (x := x) t (by simpa using e)
    exact ⟨d, by simpa using h1, h2⟩
theorem Reps.rep_flat {xs : List V} {ds : List D} (r : Reps K F xs ds) : ∀ k : Nat, Reps K F (List.replicate k xs).flatten (List.replicate k ds).flatten
  | 0 => .nil
  | k + 1 => by
    rw [List.replicate_succ, List.replicate_succ, List.flatten_cons, List.flatten_cons]
    exact r.append (Reps.rep_flat r k)
theorem Reps.ints : ∀ {xs : List V} {ns : List Int}, Reps K F xs (ns.map PyData.int) → xs = ns.map V.int
  | _, [], h => by cases h; rfl
  | _, n :: ns, h => by
    cases h with
    | cons h r => cases h; rw [Reps.ints r]; rfl
theorem Reps.of_ints : ∀ (ns : List Int), Reps K F (ns.map V.int) (ns.map PyData.int)
  | [] => .nil
  | n :: ns => .cons (.int n) (Reps.of_ints ns)
theorem Reps.bools : ∀ {xs : List V} {ns : List Bool}, Reps K F xs (ns.map PyData.bool) → xs = ns.map V.bl
  | _, [], h => by cases h; rfl
  | _, n :: ns, h => by
    cases h with
    | cons h r => cases h; rw [Reps.bools r]; rfl
end

/-! ### values -/
/-- where the defs stand -/
abbrev FA := Nat → Addr
/-- the place of a caught exception -/
def exI : Nat := 1000000
/-- the place of its class -/
def exC : Nat := 1000001
/-- the place of its dict, one more; 0 where it has none -/
def exD : Nat := 1000002
def RepV (K : PySem.W.Frag) (fa : FA) (F : Hp) (ρ : Nat → Addr) (n : Nat) : V → Val → Prop
  | x, .d d => Rep K F x d
  | x, .ref m => m < n ∧ x = .ref (ρ m)
  | x, .fn i => i < exI ∧ x = .ref (fa i)
  | x, .scr ns => ∃ a, x = .ref a ∧ SqL K F a (ns.map V.int)
  | _, .exn _ => False
abbrev RepVs (K : PySem.W.Frag) (fa : FA) (F : Hp) (ρ : Nat → Addr) (n : Nat) : List V → List Val → Prop := Paired (RepV K fa F ρ n)
section
variable {K : PySem.W.Frag} {fa : FA} {F F' : Hp} {ρ ρ' : Nat → Addr} {n n' : Nat}
theorem RepV.mono (s : Same F F') (hr : ∀ m, m < n → ρ' m = ρ m) (hn : n ≤ n') : ∀ {x : V} {v : Val}, RepV K fa F ρ n x v → RepV K fa F' ρ' n' x v
  | _, .d _, h => Rep.mono s h
  | _, .ref m, ⟨h1, h2⟩ => ⟨Nat.lt_of_lt_of_le h1 hn, by rw [hr m h1]; exact h2⟩
  | _, .fn _, h => h
  | _, .scr _, ⟨a, h1, h2⟩ => ⟨a, h1, s.seq h2⟩
  | _, .exn _, h => h
theorem RepVs.mono (s : Same F F') (hr : ∀ m, m < n → ρ' m = ρ m) (hn : n ≤ n') {xs : List V} {vs : List Val} (h : RepVs K fa F ρ n xs vs) : RepVs K fa F' ρ' n' xs vs :=
  Paired.mapP h fun _ _ r => r.mono s hr hn
theorem RepVs.pure : ∀ {xs : List V} {vs : List Val} {ds : List D}, RepVs K fa F ρ n xs vs → pureVs vs = some ds → Reps K F xs ds
  | _, [], ds, .nil, e => by simp [pureVs] at e; subst e; exact .nil
  | _, .d x :: vs, ds, .cons h r, e => by
    simp only [pureVs] at e
    cases q : pureVs vs with
    | none => rw [q] at e; cases e
    | some es =>
      rw [q] at e
      simp at e
      subst e
      exact .cons h (RepVs.pure r q)
  | _, .ref _ :: _, _, .cons _ _, e => by simp [pureVs] at e
  | _, .fn _ :: _, _, .cons _ _, e => by simp [pureVs] at e
  | _, .scr _ :: _, _, .cons _ _, e => by simp [pureVs] at e
  | _, .exn _ :: _, _, .cons _ _, e => by simp [pureVs] at e
theorem RepVs.of_pure : ∀ {xs : List V} {ds : List D}, Reps K F xs ds → RepVs K fa F ρ n xs (ds.map Val.d)
  | _, _, .nil => .nil
  | _, _, .cons h r => .cons h (RepVs.of_pure r)
theorem RepVs.length {xs : List V} {vs : List Val} (h : RepVs K fa F ρ n xs vs) : xs.length = vs.length := Paired.length h
theorem RepVs.get : ∀ {xs : List V} {vs : List Val} {i : Nat} {v : Val}, RepVs K fa F ρ n xs vs → vs[i]? = some v → ∃ x, xs[i]? = some x ∧ RepV K fa F ρ n x v
  | _, _, _, _, .nil, e => by simp at e
  | _, _, 0, _, .cons h _, e => by simp at e; subst e; exact ⟨_, rfl, h⟩
  | _, _, i + 1, v, .cons _ t, e => by
    obtain ⟨x, h1, h2⟩ := RepVs.get (i := i) (v := v) t (by simpa using e)
    exact ⟨x, by simpa using h1, h2⟩
theorem RepVs.getV : ∀ {xs : List V} {vs : List Val} {i : Nat} {x : V}, RepVs K fa F ρ n xs vs → xs[i]? = some x → ∃ v, vs[i]? = some v ∧ RepV K fa F ρ n x v
  | _, _, _, _, .nil, e => by simp at e
  | _, _, 0, _, .cons h _, e => by simp at e; subst e; exact ⟨_, rfl, h⟩
  | _, _, i + 1, v, .cons _ t, e => by
    obtain ⟨x, h1, h2⟩ := RepVs.getV (i := i) (x := v) t (by simpa using e)
    exact ⟨x, by simpa using h1, h2⟩
theorem RepVs.append : ∀ {xs ys : List V} {vs ws : List Val}, RepVs K fa F ρ n xs vs → RepVs K fa F ρ n ys ws → RepVs K fa F ρ n (xs ++ ys) (vs ++ ws)
  | _, _, _, _, .nil, s => s
  | _, _, _, _, .cons h r, s => .cons h (RepVs.append r s)
theorem RepVs.set {x : V} {v : Val} (h : RepV K fa F ρ n x v) : ∀ {xs : List V} {vs : List Val} (i : Nat), RepVs K fa F ρ n xs vs → RepVs K fa F ρ n (xs.set i x) (vs.set i v)
  | _, _, _, .nil => .nil
  | _, _, 0, .cons _ t => .cons h t
  | _, _, i + 1, .cons q t => .cons q (RepVs.set h i t)
end

/-! ### the store -/
inductive RepO (K : PySem.W.Frag) (fa : FA) (F : Hp) (ρ : Nat → Addr) (n : Nat) : HO → Ob → Prop
  | lst {xs : List V} {vs : List Val} : RepVs K fa F ρ n xs vs → RepO K fa F ρ n (.lst xs) (.lst vs)
  | dct {kvs : List (List Key × V)} {es : List (List Int × Val)} : Paired (fun p q => p.1 = q.1.map Sum.inl ∧ RepV K fa F ρ n p.2 q.2) kvs es → RepO K fa F ρ n (.dT kvs) (.dct es)
  | kv0 {kvs : List (Key × V)} {es : List (Int × Val)} : Paired (fun p q => p.1 = Sum.inl q.1 ∧ RepV K fa F ρ n p.2 q.2) kvs es → RepO K fa F ρ n (.dK kvs) (.kv 0 es)
theorem RepO.mono {K : PySem.W.Frag} {fa : FA} {F F' : Hp} {ρ ρ' : Nat → Addr} {n n' : Nat} (s : Same F F') (hr : ∀ m, m < n → ρ' m = ρ m) (hn : n ≤ n') {h : HO} {o : Ob} (r : RepO K fa F ρ n h o) : RepO K fa F' ρ' n' h o := by
  cases r with
  | lst r => exact .lst (RepVs.mono s hr hn r)
  | dct r => exact .dct (Paired.mapP r fun _ _ z => ⟨z.1, z.2.mono s hr hn⟩)
  | kv0 r => exact .kv0 (Paired.mapP r fun _ _ z => ⟨z.1, z.2.mono s hr hn⟩)
theorem RepO.notTup {K : PySem.W.Frag} {fa : FA} {F : Hp} {ρ : Nat → Addr} {n : Nat} {xs : List V} {o : Ob} (r : RepO K fa F ρ n (.tup xs) o) : False := nomatch r

structure Sim (K : PySem.W.Frag) (fa : FA) (F H : Hp) (ρ : Nat → Addr) (S : Sto) : Prop where
  sub : Same F H
  off : ∀ n o, stGet S n = some o → F (ρ n) = none
  obj : ∀ n o, stGet S n = some o → ∃ h, H (ρ n) = some h ∧ RepO K fa F ρ S.length h o
  inj : ∀ n m o u, stGet S n = some o → stGet S m = some u → ρ n = ρ m → n = m

/-- what a piece of code may do to the heap and the store -/
structure Ext (F H : Hp) (ρ : Nat → Addr) (S : Sto) (F' H' : Hp) (ρ' : Nat → Addr) (S' : Sto) : Prop where
  fz : Same F F'
  rho : ∀ n, n < S.length → ρ' n = ρ n
  len : S.length ≤ S'.length
  frame : ∀ a o, H a = some o → (∀ n u, stGet S n = some u → a ≠ ρ n) → H' a = some o
  there : ∀ a o, H a = some o → ∃ o', H' a = some o'
  new : ∀ n u, stGet S' n = some u → (n < S.length ∧ ∃ u', stGet S n = some u') ∨ (S.length ≤ n ∧ H (ρ' n) = none)
  fnew : ∀ a o, F' a = some o → F a ≠ none ∨ H a = none ∨ (∃ n u, stGet S n = some u ∧ a = ρ n) ∨ ∃ xs, H a = some (.tup xs)

theorem stGet_lt {S : Sto} {n : Nat} {o : Ob} (h : stGet S n = some o) : n < S.length := by
  unfold stGet at h
  cases q : S[n]? with
  | none => rw [q] at h; cases h
  | some x => exact (List.getElem?_eq_some_iff.mp q).1
theorem Ext.refl (F H : Hp) (ρ : Nat → Addr) (S : Sto) : Ext F H ρ S F H ρ S :=
  ⟨Same.refl _, fun _ _ => rfl, Nat.le_refl _, fun _ _ h _ => h, fun _ o h => ⟨o, h⟩, fun n u h => .inl ⟨stGet_lt h, u, h⟩, fun a o h => .inl (by rw [h]; intro z; cases z)⟩
theorem Ext.trans {F H : Hp} {ρ : Nat → Addr} {S : Sto} {F1 H1 : Hp} {ρ1 : Nat → Addr} {S1 : Sto} {F2 H2 : Hp} {ρ2 : Nat → Addr} {S2 : Sto}
    (a : Ext F H ρ S F1 H1 ρ1 S1) (b : Ext F1 H1 ρ1 S1 F2 H2 ρ2 S2) : Ext F H ρ S F2 H2 ρ2 S2 where
  fz := a.fz.trans b.fz
  rho := fun n hn => (b.rho n (Nat.lt_of_lt_of_le hn a.len)).trans (a.rho n hn)
  len := Nat.le_trans a.len b.len
  frame := fun x o h hx => b.frame x o (a.frame x o h hx) fun n u hu e => by
    rcases a.new n u hu with ⟨h1, u', h2⟩ | ⟨h1, h2⟩
    · exact hx n u' h2 (by rw [e, a.rho n h1])
    · rw [← e, h] at h2; cases h2
  there := fun x o h => by
    obtain ⟨o', h'⟩ := a.there x o h
    exact b.there x o' h'
  new := fun n u hu => by
    rcases b.new n u hu with ⟨h1, u', h2⟩ | ⟨h1, h2⟩
    · rcases a.new n u' h2 with ⟨h3, q⟩ | ⟨h3, h4⟩
      · exact .inl ⟨h3, q⟩
      · exact .inr ⟨h3, by rw [b.rho n h1]; exact h4⟩
    · refine .inr ⟨Nat.le_trans a.len h1, ?_⟩
      cases q : H (ρ2 n) with
      | none => rfl
      | some o =>
        obtain ⟨o', h'⟩ := a.there _ _ q
        rw [h2] at h'; cases h'
  fnew := fun x o h => by
    rcases b.fnew x o h with h1 | h1 | ⟨n, u, h1, h2⟩ | ⟨xs, h1⟩
    · cases q : F1 x with
      | none => exact absurd q h1
      | some y => exact a.fnew x y q
    · refine .inr (.inl ?_)
      cases q : H x with
      | none => rfl
      | some y =>
        obtain ⟨o', h'⟩ := a.there _ _ q
        rw [h1] at h'; cases h'
    · rcases a.new n u h1 with ⟨h3, u', h4⟩ | ⟨h3, h4⟩
      · exact .inr (.inr (.inl ⟨n, u', h4, by rw [h2, a.rho n h3]⟩))
      · exact .inr (.inl (by rw [h2]; exact h4))
    · cases q : H x with
      | none => exact .inr (.inl rfl)
      | some y =>
        by_cases z : ∃ n u, stGet S n = some u ∧ x = ρ n
        · exact .inr (.inr (.inl z))
        · have := a.frame x y q fun n u hu e => z ⟨n, u, hu, e⟩
          rw [h1] at this
          cases this
          exact .inr (.inr (.inr ⟨xs, rfl⟩))

/-! ### slots -/
def xdO (a b : Int) : HO := .xd [("most", .int b), ("many", .int a)]
/-- what an exception brings: nothing, or two numbers in its dict -/
def XArgs (fa : FA) (F : Hp) (e : Exc) : Prop := (e.args = [] ∧ fa exD = 0) ∨ ∃ a b dd, e.args = [.int a, .int b] ∧ fa exD = dd + 1 ∧ F dd = some (xdO a b)
theorem XArgs.mono {fa : FA} {F F' : Hp} {e : Exc} (s : Same F F') (h : XArgs fa F e) : XArgs fa F' e := by
  rcases h with h | ⟨a, b, dd, h1, h2, h3⟩
  · exact .inl h
  · exact .inr ⟨a, b, dd, h1, h2, s _ _ h3⟩
structure EnvRep (K : PySem.W.Frag) (fa : FA) (F : Hp) (ρ : Nat → Addr) (n : Nat) (env : Env) (σ : L2.St) : Prop where
  len : env.length = σ.length
  look : ∀ i v, lookE env i = some v → ∃ x, σ[i]? = some (some x) ∧ RepV K fa F ρ n x v
  exn : ∀ i e, lookX env i = some e → σ[i]? = some (some (.ref (fa exI))) ∧ e.cls < exI ∧ fa e.cls = fa exC ∧ XArgs fa F e
section
variable {K : PySem.W.Frag} {fa : FA} {F F' : Hp} {ρ ρ' : Nat → Addr} {n n' : Nat} {env : Env} {σ : L2.St}
theorem EnvRep.mono (s : Same F F') (hr : ∀ m, m < n → ρ' m = ρ m) (hn : n ≤ n') (h : EnvRep K fa F ρ n env σ) : EnvRep K fa F' ρ' n' env σ :=
  ⟨h.len, fun i v e => let ⟨x, h1, h2⟩ := h.look i v e; ⟨x, h1, h2.mono s hr hn⟩, fun i e q => let ⟨h1, h2, h3, h4⟩ := h.exn i e q; ⟨h1, h2, h3, h4.mono s⟩⟩
theorem joinSet (env : Env) (i j : Nat) (o : Option Val) : ((env.set i o)[j]?).join = if i = j ∧ i < env.length then o else (env[j]?).join := by
  rw [List.getElem?_set]
  by_cases h : i = j
  · subst h
    by_cases h2 : i < env.length
    · simp [h2]
    · simp [h2]
  · simp [h]
theorem lookE_set (env : Env) (i j : Nat) (o : Option Val) : lookE (env.set i o) j = if i = j ∧ i < env.length then o.bind Val.plain else lookE env j := by
  unfold lookE
  rw [joinSet]
  split <;> rfl
theorem lookX_set (env : Env) (i j : Nat) (o : Option Val) : lookX (env.set i o) j = if i = j ∧ i < env.length then o.bind Val.exc else lookX env j := by
  unfold lookX
  rw [joinSet]
  split <;> rfl
theorem plain_some {v w : Val} (h : v.plain = some w) : w = v ∧ v.exc = none := by cases v <;> simp [Val.plain, Val.exc] at h ⊢ <;> exact h.symm
theorem RepV.plain {x : V} {v : Val} (r : RepV K fa F ρ n x v) : v.plain = some v ∧ v.exc = none := by
  cases v with
  | exn _ => exact r.elim
  | _ => exact ⟨rfl, rfl⟩
theorem EnvRep.put {x : V} {o : Option Val} (h : EnvRep K fa F ρ n env σ) (i : Nat) (ox : Option V) (r1 : ∀ v, o.bind Val.plain = some v → ∃ x, ox = some x ∧ RepV K fa F ρ n x v) (r2 : ∀ e, o.bind Val.exc = some e → ox = some (.ref (fa exI)) ∧ e.cls < exI ∧ fa e.cls = fa exC ∧ XArgs fa F e) : EnvRep K fa F ρ n (env.set i o) (σ.set i ox) := by
  have ne : ∀ j : Nat, ¬ (i = j ∧ i < env.length) → j < σ.length → (σ.set i ox)[j]? = σ[j]? := fun j q hj => by
    by_cases hij : i = j
    · subst hij
      exact absurd ⟨rfl, by rw [h.len]; exact hj⟩ q
    · rw [List.getElem?_set_ne hij]
  refine ⟨by simp [h.len], fun j w e => ?_, fun j w e => ?_⟩
  · rw [lookE_set] at e
    split at e
    · rename_i q
      obtain ⟨rfl, q2⟩ := q
      obtain ⟨x, e1, r⟩ := r1 w e
      exact ⟨x, by rw [List.getElem?_set_self (by rw [← h.len]; exact q2), e1], r⟩
    · rename_i q
      obtain ⟨y, h1, h2⟩ := h.look j w e
      exact ⟨y, by rw [ne j q (List.getElem?_eq_some_iff.mp h1).1]; exact h1, h2⟩
  · rw [lookX_set] at e
    split at e
    · rename_i q
      obtain ⟨rfl, q2⟩ := q
      obtain ⟨z1, z2⟩ := r2 w e
      exact ⟨by rw [List.getElem?_set_self (by rw [← h.len]; exact q2), z1], z2⟩
    · rename_i q
      obtain ⟨h1, h2⟩ := h.exn j w e
      exact ⟨by rw [ne j q (List.getElem?_eq_some_iff.mp h1).1]; exact h1, h2⟩
theorem EnvRep.set {x : V} {v : Val} (h : EnvRep K fa F ρ n env σ) (r : RepV K fa F ρ n x v) (i : Nat) : EnvRep K fa F ρ n (env.set i (some v)) (σ.set i (some x)) := by
  obtain ⟨p1, p2⟩ := r.plain
  refine h.put (x := x) i (some x) (fun w e => ?_) (fun e q => ?_)
  · simp only [Option.bind_some, p1] at e; cases e; exact ⟨x, rfl, r⟩
  · simp only [Option.bind_some, p2] at q; cases q
theorem EnvRep.unset (h : EnvRep K fa F ρ n env σ) (i : Nat) : EnvRep K fa F ρ n (env.set i none) (σ.set i none) :=
  h.put (x := .non) i none (fun w e => by cases e) (fun e q => by cases q)
theorem EnvRep.wipe (h : EnvRep K fa F ρ n env σ) : ∀ vs : List Nat, EnvRep K fa F ρ n (wipeE env vs) (wipe σ vs)
  | [] => h
  | v :: vs => by
    unfold wipeE L2.wipe
    exact (EnvRep.wipe h vs).unset v
end

/-! ### results -/
/-- how an exception is told: its class and its own dict's address -/
def RepX (fa : FA) (F : Hp) (c : Value) (d : Option Addr) (e : Exc) : Prop :=
  c = .ref (fa e.cls) ∧ ((e.args = [] ∧ d = none) ∨ ∃ a b dd, e.args = [.int a, .int b] ∧ d = some dd ∧ F dd = some (xdO a b))

def Post {α β : Type} (K : PySem.W.Frag) (fa : FA) (W : WX) (rep : Hp → (Nat → Addr) → Nat → β → α → Prop) (F H : Hp) (ρ : Nat → Addr) (S : Sto) (σ : L2.St) (r : R α) (Q : β → Hp → Prop) : Prop :=
  match r with
  | .stuck => False
  | .ok v S' => ∀ x F' H' ρ', Sim K fa F' H' ρ' S' → Ext F H ρ S F' H' ρ' S' → rep F' ρ' S'.length x v → Q x H'
  | .exc e S' => ∀ c d F' H' ρ', Sim K fa F' H' ρ' S' → Ext F H ρ S F' H' ρ' S' → RepX fa F' c d e → W c d σ H'
section
variable {α β γ δ : Type} {K : PySem.W.Frag} {fa : FA} {W : WX} {rep : Hp → (Nat → Addr) → Nat → β → α → Prop} {rep2 : Hp → (Nat → Addr) → Nat → δ → γ → Prop} {F H F1 H1 : Hp} {ρ ρ1 : Nat → Addr} {S S1 : Sto} {σ : L2.St}
theorem Post.shift {r : R α} {Q : β → Hp → Prop} (x : Ext F H ρ S F1 H1 ρ1 S1) (h : Post K fa W rep F H ρ S σ r Q) : Post K fa W rep F1 H1 ρ1 S1 σ r Q := by
  cases r with
  | stuck => exact h
  | ok v S' => exact fun y F' H' ρ' s e q => h y F' H' ρ' s (x.trans e) q
  | exc e S' => exact fun c d F' H' ρ' s e q => h c d F' H' ρ' s (x.trans e) q
theorem Post.bind {r : R α} {f : α → Sto → R γ} {Q : δ → Hp → Prop} {Q1 : β → Hp → Prop} (h : Post K fa W rep2 F H ρ S σ (r.bind f) Q)
    (k : ∀ v S1 x F1 H1 ρ1, Sim K fa F1 H1 ρ1 S1 → Ext F H ρ S F1 H1 ρ1 S1 → rep F1 ρ1 S1.length x v → Post K fa W rep2 F1 H1 ρ1 S1 σ (f v S1) Q → Q1 x H1) : Post K fa W rep F H ρ S σ r Q1 := by
  cases r with
  | stuck => exact h
  | ok v S' => exact fun x F' H' ρ' s e q => k v S' x F' H' ρ' s e q (Post.shift e h)
  | exc e S' => exact h
theorem Post.ofO {o : Option α} {Q : β → Hp → Prop} (h : Post K fa W rep F H ρ S σ (R.ofO o S) Q) : ∃ v, o = some v ∧ ∀ x F' H' ρ', Sim K fa F' H' ρ' S → Ext F H ρ S F' H' ρ' S → rep F' ρ' S.length x v → Q x H' := by
  cases o with
  | none => exact h.elim
  | some v => exact ⟨v, rfl, h⟩
theorem Post.imp {r : R α} {Q Q' : β → Hp → Prop} (h : Post K fa W rep F H ρ S σ r Q) (k : ∀ x H', Q x H' → Q' x H') : Post K fa W rep F H ρ S σ r Q' := by
  cases r with
  | stuck => exact h
  | ok v S' => exact fun y F' H' ρ' s e q => k _ _ (h y F' H' ρ' s e q)
  | exc e S' => exact h
end

abbrev M (α : Type) := Env → Sto → R α
/-- the reading of an expression by its meaning -/
def rdG {α β : Type} (K : PySem.W.Frag) (fa : FA) (W : WX) (rep : Hp → (Nat → Addr) → Nat → β → α → Prop) (m : M α) : L2.St → Hp → (β → Hp → Prop) → Prop := fun σ H Q =>
  ∃ env S F ρ, Sim K fa F H ρ S ∧ EnvRep K fa F ρ S.length env σ ∧ Post K fa W rep F H ρ S σ (m env S) Q
def repB : Hp → (Nat → Addr) → Nat → Bool → Bool → Prop := fun _ _ _ a b => a = b
abbrev rdE (K : PySem.W.Frag) (fa : FA) (W : WX) (m : M Val) : TE := rdG K fa W (RepV K fa) m
abbrev rdT (K : PySem.W.Frag) (fa : FA) (W : WX) (m : M Bool) : TT := rdG K fa W repB m
abbrev rdA (K : PySem.W.Frag) (fa : FA) (W : WX) (m : M (List Val)) : TA := rdG K fa W (RepVs K fa) m

/-- one after another: the first one's reading from the whole's -/
theorem rdG.bind {α β γ δ : Type} {K : PySem.W.Frag} {fa : FA} {W : WX} {rep : Hp → (Nat → Addr) → Nat → β → α → Prop} {rep2 : Hp → (Nat → Addr) → Nat → δ → γ → Prop} {σ : L2.St} {H : Hp}
    {m : M α} {f : Env → α → Sto → R γ} {Q : δ → Hp → Prop} {Q1 : β → Hp → Prop} (h : rdG K fa W rep2 (fun env S => (m env S).bind (f env)) σ H Q)
    (k : ∀ env v S1 x F1 H1 ρ1, Sim K fa F1 H1 ρ1 S1 → EnvRep K fa F1 ρ1 S1.length env σ → rep F1 ρ1 S1.length x v → Post K fa W rep2 F1 H1 ρ1 S1 σ (f env v S1) Q → Q1 x H1) : rdG K fa W rep m σ H Q1 := by
  obtain ⟨env, S, F, ρ, s, e, p⟩ := h
  exact ⟨env, S, F, ρ, s, e, p.bind fun v S1 x F1 H1 ρ1 s1 x1 r1 p1 => k env v S1 x F1 H1 ρ1 s1 (e.mono x1.fz x1.rho x1.len) r1 p1⟩
theorem rdG.mk {α β : Type} {K : PySem.W.Frag} {fa : FA} {W : WX} {rep : Hp → (Nat → Addr) → Nat → β → α → Prop} {m : M α} {σ : L2.St} {H : Hp} {Q : β → Hp → Prop} {env : Env} {S : Sto} {F : Hp} {ρ : Nat → Addr}
    (s : Sim K fa F H ρ S) (e : EnvRep K fa F ρ S.length env σ) (p : Post K fa W rep F H ρ S σ (m env S) Q) : rdG K fa W rep m σ H Q := ⟨env, S, F, ρ, s, e, p⟩

theorem PE.imp {X : Cx} {e : Expr} {t t' : TE} (h : PE X e t) (k : ∀ σ H Q, t' σ H Q → t σ H Q) : PE X e t' := ⟨fun pins s σ H Q I q => h.run pins s σ H Q I (k σ H Q q)⟩
theorem PT.imp {X : Cx} {e : Expr} {t t' : TT} (h : PT X e t) (k : ∀ σ H Q, t' σ H Q → t σ H Q) : PT X e t' := ⟨fun pins s σ H Q I q => h.run pins s σ H Q I (k σ H Q q)⟩
theorem PW.imp {X : Cx} {e : Expr} {t t' : TT} (h : PW X e t) (k : ∀ σ H Q, t' σ H Q → t σ H Q) : PW X e t' := ⟨fun wh pins s σ H Q I q => h.run wh pins s σ H Q I (k σ H Q q)⟩
theorem PA.imp {X : Cx} {e : List Expr} {t t' : TA} (h : PA X e t) (k : ∀ σ H Q, t' σ H Q → t σ H Q) : PA X e t' := ⟨fun pos pins s σ H Q I q => h.run pos pins s σ H Q I (k σ H Q q)⟩
theorem PS.imp {X : Cx} {e : Stmt} {t t' : TS} (h : PS X e t) (k : ∀ D σ H, t' D σ H → t D σ H) : PS X e t' := ⟨fun pins s σ H D I q => h.run pins s σ H D I (k D σ H q)⟩
theorem PSs.imp {X : Cx} {e : List Stmt} {t t' : TS} (h : PSs X e t) (k : ∀ D σ H, t' D σ H → t D σ H) : PSs X e t' := ⟨fun pins s σ H D I q => h.run pins s σ H D I (k D σ H q)⟩

/-- a fresh object joins the frozen part -/
theorem Sim.grow {K : PySem.W.Frag} {fa : FA} {F H : Hp} {ρ : Nat → Addr} {S : Sto} {p : Addr} {o : HO} (s : Sim K fa F H ρ S) (hp : H p = none) : Sim K fa (upd F p o) (upd H p o) ρ S ∧ Ext F H ρ S (upd F p o) (upd H p o) ρ S ∧ Same F (upd F p o) := by
  have fF : F p = none := s.sub.free hp
  have sF : Same F (upd F p o) := fun a u h => by rw [upd_ne (ne_of_none h fF)]; exact h
  have sH : Same H (upd H p o) := fun a u h => by rw [upd_ne (ne_of_none h hp)]; exact h
  have np : ∀ n u, stGet S n = some u → ρ n ≠ p := fun n u h => by
    obtain ⟨x, hx, _⟩ := s.obj n u h
    exact ne_of_none hx hp
  refine ⟨⟨fun a u h => ?_, fun n u h => ?_, fun n u h => ?_, s.inj⟩, ⟨sF, fun _ _ => rfl, Nat.le_refl _, fun a u h _ => sH a u h, fun a u h => ⟨u, sH a u h⟩, fun n u h => .inl ⟨stGet_lt h, u, h⟩, fun a u h => ?_⟩, sF⟩
  · by_cases e : a = p
    · subst e; rw [upd_same] at h ⊢; exact h
    · rw [upd_ne e] at h ⊢; exact s.sub a u h
  · rw [upd_ne (np n u h)]; exact s.off n u h
  · obtain ⟨x, hx, r⟩ := s.obj n u h
    exact ⟨x, by rw [upd_ne (np n u h)]; exact hx, r.mono sF (fun _ _ => rfl) (Nat.le_refl _)⟩
  · by_cases e : a = p
    · subst e; exact .inr (.inl hp)
    · rw [upd_ne e] at h; exact .inl (by rw [h]; intro z; cases z)
end MS

-- MsRep
namespace MS
open PySem PySem.Spec PyProof.Rows L2
theorem tuple_mul_same (l : Addr) (items : Array Value) (n : Nat) (dd : Option Addr) (sl : Array (Option Value)) (x : Int) (u : Tok) (c0 : (decide (x < -(2 ^ 63)) || decide (x ≥ 2 ^ 63)) = false) (c1 : (items.isEmpty || x == 1) = true) :
    Meets (Builtin.«tuple.__mul__» ⟨[.ref l, .int x u], []⟩) (fun _ R s => s.heap.get? l = some { cls := .type "tuple", dict := dd, data := .seq items n, slots := sl } ∧
      R (.ok (.ret (Value.ref l))) s) :=
  .of_wp fun prog w A R s h => by
    obtain ⟨hp, g, d, tk, os⟩ := s
    obtain ⟨hl, h⟩ := h
    have f1 := AutoSeq1.idx_int
    wp_walk using wpAny_loadPart' hl
    repeat (first
      | (refine wpAny_ite_false (decide_eq_false (by rw [c0]; exact Bool.false_ne_true)) ?_; wp_walk using wpAny_loadPart' hl)
      | (refine wpAny_ite_true (decide_eq_true c1) ?_; wp_walk using wpAny_loadPart' hl))
    exact ⟨_, rfl, h⟩
theorem tuple_mul_none (l : Addr) (items : Array Value) (n : Nat) (dd : Option Addr) (sl : Array (Option Value)) (x : Int) (u : Tok) (c0 : (decide (x < -(2 ^ 63)) || decide (x ≥ 2 ^ 63)) = false) (c1 : (items.isEmpty || x == 1) = false) (c2 : (decide (x ≤ 0) || items.isEmpty) = true) :
    Meets (Builtin.«tuple.__mul__» ⟨[.ref l, .int x u], []⟩) (fun _ R s => s.heap.get? l = some { cls := .type "tuple", dict := dd, data := .seq items n, slots := sl } ∧
      R (.ok (.ret (Value.ref s.heap.objs.size))) { s with heap := s.heap.push { cls := Value.type "tuple", data := Data.seq #[] }, toks := s.toks }) :=
  .of_wp fun prog w A R s h => by
    obtain ⟨hp, g, d, tk, os⟩ := s
    obtain ⟨hl, h⟩ := h
    have f1 := AutoSeq1.idx_int
    wp_walk using wpAny_loadPart' hl
    repeat (first
      | (refine wpAny_ite_false (decide_eq_false (by rw [c0]; exact Bool.false_ne_true)) ?_; wp_walk using wpAny_loadPart' hl)
      | (refine wpAny_ite_false (decide_eq_false (by rw [c1]; exact Bool.false_ne_true)) ?_; wp_walk using wpAny_loadPart' hl)
      | (refine wpAny_ite_true (decide_eq_true c2) ?_; wp_walk using wpAny_loadPart' hl)
      | (refine wpAny_ite_false (decide_eq_false (by decide)) ?_; wp_walk using wpAny_loadPart' hl))
    exact ⟨_, rfl, h⟩
section
variable {X : Cx}
/-- tuple * int of any small size -/
theorem op_repAny : OpR X (binaryOp .Mult) (fun x y H Q => ∃ l k xs, x = .ref l ∧ y = .int k ∧ SqT X.K H l xs ∧ 0 ≤ k ∧ k ≤ 1000 ∧ xs.length ≤ 1000 ∧
    (xs = [] ∨ k = 1 → Q (.ref l) H) ∧ ∀ p, H p = none → Q (.ref p) (upd H p (.tup (List.replicate k.toNat xs).flatten))) := by
  intro pins s σ H x y v u Q I rx ry ⟨l, k, xs, e1, e2, hT, h1, h2, hz, q1, q2⟩
  subst e1 e2
  by_cases hb : xs ≠ [] ∧ 2 ≤ k
  · exact op_repT pins s σ H _ _ v u Q I rx ry ⟨l, k, xs, rfl, rfl, hT, hb.1, hb.2, h2, hz, q2⟩
  cases rx
  obtain ⟨t, rfl⟩ := ry
  obtain ⟨its, r, ⟨⟨cls, dd, data, sl⟩, ho, hc, n, hd⟩, hs⟩ := I.tuple hT
  simp only at hc hd
  subst hc hd
  have hle : its.length = xs.length := r.length.symm
  have c0 : (decide (k < -(2 ^ 63)) || decide (k ≥ 2 ^ 63)) = false := by
    rw [decide_eq_false (by omega), decide_eq_false (by omega)] <;> rfl
  by_cases hb2 : xs = [] ∨ k = 1
  · have c1 : (its.toArray.isEmpty || k == 1) = true := by
      rcases hb2 with z | z
      · subst z
        cases its with
        | nil => rfl
        | cons _ _ => simp at hle
      · subst z; simp
    refine wpAny_binaryOp_repeat_ref (T := "tuple") (U := "int") (by decide) ⟨_, ho, rfl⟩ (fun s' => typeIs_int s' k t) noFill_tuple_mul F.fills_int_mul F.slot_int_rmul repeat_tuple F.slot_int_index.lookup
      (call_meets F.slot_int_rmul (typeIs_int s k t) F.entry_int_rmul (F.args_int_rmul_2 _ _) (int_rmul_tuple k t l its.toArray n dd sl)
        ⟨ho, rfl, ⟨_, ho, rfl⟩, call_meets F.slot_tuple_mul ⟨_, ho, rfl⟩ F.entry_tuple_mul (F.args_tuple_mul_2 _ _) (tuple_mul_same l its.toArray n dd sl k t c0 c1) ⟨ho, ?_⟩⟩)
    exact ⟨.ref l, H, I, rfl, q1 hb2⟩
  · have hk : k = 0 := by
      have := not_or.mp hb2
      have h3 : ¬ (2 ≤ k) := fun z => hb ⟨this.1, z⟩
      have h4 := this.2
      omega
    have hne : xs ≠ [] := fun z => hb2 (.inl z)
    have hi : its.toArray.isEmpty = false := by
      cases its with
      | nil => exact absurd (List.eq_nil_of_length_eq_zero hle.symm) hne
      | cons a b => rfl
    have c1 : (its.toArray.isEmpty || k == 1) = false := by rw [hi, hk]; rfl
    have c2 : (decide (k ≤ 0) || its.toArray.isEmpty) = true := by rw [hk]; rfl
    refine wpAny_binaryOp_repeat_ref (T := "tuple") (U := "int") (by decide) ⟨_, ho, rfl⟩ (fun s' => typeIs_int s' k t) noFill_tuple_mul F.fills_int_mul F.slot_int_rmul repeat_tuple F.slot_int_index.lookup
      (call_meets F.slot_int_rmul (typeIs_int s k t) F.entry_int_rmul (F.args_int_rmul_2 _ _) (int_rmul_tuple k t l its.toArray n dd sl)
        ⟨ho, rfl, ⟨_, ho, rfl⟩, call_meets F.slot_tuple_mul ⟨_, ho, rfl⟩ F.entry_tuple_mul (F.args_tuple_mul_2 _ _) (tuple_mul_none l its.toArray n dd sl k t c0 c1 c2) ⟨ho, ?_⟩⟩)
    have q3 := q2 _ (I.hok.fresh (Nat.le_refl _))
    have e0 : (List.replicate k.toNat xs).flatten = [] := by rw [hk]; rfl
    rw [e0] at q3
    refine ⟨.ref s.heap.objs.size, _, I.laid (t' := s.toks) (o := .tup []) (fun b ob q => Heap.get?_push_of_some _ q) (Nat.le_refl _) ?_, rfl, q3⟩
    exact ⟨Nat.zero_le _, [], .nil, IsTup.new _ _⟩
theorem rep_cps (z : Str) (k : Nat) : (List.replicate k z.cps).foldl (· ++ ·) #[] = ((List.replicate k z.cps.toList).flatten).toArray := by
  have g : ∀ (k : Nat) (acc : Array Nat), (List.replicate k z.cps).foldl (· ++ ·) acc = acc ++ ((List.replicate k z.cps.toList).flatten).toArray := by
    intro k
    induction k with
    | zero => intro acc; simp
    | succ k ih => intro acc; rw [List.replicate_succ, List.foldl_cons, ih, List.replicate_succ, List.flatten_cons]; apply Array.ext'; simp
  rw [g]; simp
theorem op_repStr : OpR X (binaryOp .Mult) (fun x y H Q => ∃ z k, x = .str z ∧ y = .int k ∧ 0 ≤ k ∧ k ≤ 1000 ∧ z.length ≤ 1000 ∧ Q (.str ⟨(List.replicate k.toNat z.cps.toList).flatten.toArray⟩) H) := by
  intro pins s σ H x y v u Q I rx ry ⟨z, k, e1, e2, h1, h2, hz, q⟩
  subst e1 e2
  obtain ⟨t, rfl⟩ := rx
  obtain ⟨t', rfl⟩ := ry
  have hzl : z.length = z.cps.size := rfl
  have hmul : z.length * k.toNat ≤ 1000 * 1000 := Nat.mul_le_mul hz (Int.toNat_le.mpr h2)
  refine PySem.P.mul_str (by rw [decide_eq_false (by omega), decide_eq_false (by omega)] <;> rfl) (fun hk _ => ?_) (fun hk _ => ?_) ?_
  · have h3 : (1 : Int) ≤ k := by omega
    have h4 : (9223372036854775807 : Int) / 1000 ≤ (2 ^ 63 - 1) / k := by
      refine Int.le_ediv_of_mul_le (by omega) ?_
      have : (9223372036854775807 : Int) / 1000 = 9223372036854775 := by decide
      rw [this]
      have : (9223372036854775 : Int) * k ≤ 9223372036854775 * 1000 := Int.mul_le_mul_of_nonneg_left h2 (by decide)
      omega
    have h5 : (9223372036854775807 : Int) / 1000 = 9223372036854775 := by decide
    omega
  · unfold Builtin.Str.tooLong
    rw [sizeLine_eq]
    exact decide_eq_false (by omega)
  · by_cases hk : k < 1
    · rw [if_pos hk]
      have : k = 0 := by omega
      subst this
      exact ⟨by decide, .str _, H, I.tok _, ⟨_, rfl⟩, q⟩
    · rw [if_neg hk]
      by_cases hc : (k == 1 || z.length == 0) = true
      · rw [if_pos hc]
        refine ⟨.str z, H, I, ⟨_, rfl⟩, ?_⟩
        have e : (⟨(List.replicate k.toNat z.cps.toList).flatten.toArray⟩ : Str) = z := by
          rcases (Bool.or_eq_true _ _).mp hc with c | c
          · have : k = 1 := by simpa using c
            subst this
            simp
          · have : z.cps.size = 0 := by simpa [hzl] using c
            have e0 : z.cps = #[] := Array.eq_empty_of_size_eq_zero this
            cases z with
            | mk cps => simp at e0; subst e0; simp
        rw [e] at q
        exact q
      · rw [if_neg hc, rep_cps]
        refine ⟨?_, .str _, H, I.tok _, ⟨_, rfl⟩, q⟩
        show _ ≤ _
        simp [Str.length]
        rw [sizeLine_eq]
        rw [hzl] at hmul
        rw [Nat.mul_comm]
        omega
end
end MS

-- MsOps
/-! Operators by values. -/
namespace MS
open PySem PySem.Spec PyProof.Rows L2

/-! ### reading a value as a datum -/
inductive VRep (K : PySem.W.Frag) (F H : Hp) : V → D → Prop
  | p {x : V} {d : D} : Rep K F x d → VRep K F H x d
  | r {a : Addr} {xs : List V} {ds : List D} : H a = some (.lst xs) → Reps K F xs ds → VRep K F H (.ref a) (.list ds)
/-- nothing, or a fresh frozen object, with a tuple that was there -/
def Grow (F H F' H' : Hp) : Prop := (F' = F ∧ H' = H) ∨ (∃ p o, H p = none ∧ F' = upd F p o ∧ H' = upd H p o) ∨ (∃ p o a xs, H p = none ∧ H a = some (.tup xs) ∧ F' = upd (upd F a (.tup xs)) p o ∧ H' = upd H p o) ∨ ∃ a xs, H a = some (.tup xs) ∧ F' = upd F a (.tup xs) ∧ H' = H
theorem Sim.take {K : PySem.W.Frag} {fa : FA} {F H : Hp} {ρ : Nat → Addr} {S : Sto} {a : Addr} {xs : List V} (s : Sim K fa F H ρ S) (ha : H a = some (.tup xs)) : Sim K fa (upd F a (.tup xs)) H ρ S ∧ Ext F H ρ S (upd F a (.tup xs)) H ρ S := by
  have np : ∀ n u, stGet S n = some u → ρ n ≠ a := fun n u h e => by
    obtain ⟨x, hx, r⟩ := s.obj n u h
    rw [e, ha] at hx
    cases hx
    exact r.notTup
  have sF : Same F (upd F a (.tup xs)) := fun b u h => by
    by_cases e : b = a
    · subst e
      have := s.sub _ _ h
      rw [ha] at this
      cases this
      exact upd_same
    · rw [upd_ne e]; exact h
  refine ⟨⟨fun b u h => ?_, fun n u h => ?_, fun n u h => ?_, s.inj⟩, ⟨sF, fun _ _ => rfl, Nat.le_refl _, fun a u h _ => h, fun a u h => ⟨u, h⟩, fun n u h => .inl ⟨stGet_lt h, u, h⟩, fun b u h => ?_⟩⟩
  · by_cases e : b = a
    · subst e; rw [upd_same] at h; cases h; exact ha
    · rw [upd_ne e] at h; exact s.sub b u h
  · rw [upd_ne (np n u h)]; exact s.off n u h
  · obtain ⟨x, hx, r⟩ := s.obj n u h
    exact ⟨x, hx, r.mono sF (fun _ _ => rfl) (Nat.le_refl _)⟩
  · by_cases e : b = a
    · subst e; exact .inr (.inr (.inr ⟨xs, ha⟩))
    · rw [upd_ne e] at h; exact .inl (by rw [h]; intro z; cases z)
section
variable {K : PySem.W.Frag} {fa : FA} {F H F' H' : Hp} {ρ : Nat → Addr} {S : Sto}
theorem Sim.of_grow (s : Sim K fa F H ρ S) (g : Grow F H F' H') : Sim K fa F' H' ρ S ∧ Ext F H ρ S F' H' ρ S := by
  rcases g with ⟨rfl, rfl⟩ | ⟨p, o, hp, rfl, rfl⟩ | ⟨p, o, a, xs, hp, ha, rfl, rfl⟩ | ⟨a, xs, ha, rfl, rfl⟩
  · exact ⟨s, Ext.refl ..⟩
  · exact ⟨(s.grow hp).1, (s.grow hp).2.1⟩
  · obtain ⟨s1, x1⟩ := s.take ha
    exact ⟨(s1.grow hp).1, x1.trans (s1.grow hp).2.1⟩
  · exact s.take ha
theorem Sim.view (s : Sim K fa F H ρ S) {x : V} {v : Val} {d : D} (r : RepV K fa F ρ S.length x v) (e : view S v = some d) : VRep K F H x d := by
  cases v with
  | d y => simp [MS.view] at e; subst e; exact .p r
  | fn i => simp [MS.view] at e
  | exn _ => exact (show False from r).elim
  | scr ns => simp [MS.view] at e
  | ref n =>
    obtain ⟨h1, rfl⟩ := r
    simp only [MS.view] at e
    cases q : stGet S n with
    | none => rw [q] at e; cases e
    | some o =>
      rw [q] at e
      cases o with
      | dct kvs => cases e
      | kv _ kvs => cases e
      | lst vs =>
        obtain ⟨ho, h2, r⟩ := s.obj n _ q
        cases r with
        | lst r =>
          simp only at e
          cases q2 : pureVs vs with
          | none => rw [q2] at e; cases e
          | some ds =>
            rw [q2] at e
            simp at e
            subst e
            exact .r h2 (RepVs.pure r q2)
theorem VRep.list {x : V} {ds : List D} (sub : Same F H) (h : VRep K F H x (.list ds)) : ∃ a xs, x = .ref a ∧ H a = some (.lst xs) ∧ Reps K F xs ds := by
  cases h with
  | p h => cases h with
    | lst h r => exact ⟨_, _, rfl, sub _ _ h, r⟩
  | r h r => exact ⟨_, _, rfl, h, r⟩
theorem VRep.tuple {x : V} {ds : List D} (sub : Same F H) (h : VRep K F H x (.tuple ds)) : ∃ a xs, x = .ref a ∧ SqT K H a xs ∧ F a = some (.tup xs) ∧ Reps K F xs ds := by
  cases h with
  | p h => cases h with
    | tup h r => exact ⟨_, _, rfl, SqT.of (sub _ _ h), h, r⟩
theorem VRep.int {x : V} {i : Int} (h : VRep K F H x (.int i)) : x = .int i := by
  cases h with
  | p h => cases h; rfl
theorem VRep.str {x : V} {i : Str} (h : VRep K F H x (.str i)) : x = .str i := by
  cases h with
  | p h => cases h; rfl
theorem VRep.bl {x : V} {i : Bool} (h : VRep K F H x (.bool i)) : x = .bl i := by
  cases h with
  | p h => cases h; rfl
theorem VRep.non {x : V} (h : VRep K F H x .none) : x = .non := by
  cases h with
  | p h => cases h; rfl
/-- a value's type, a locked dict with tuples for keys among them -/
def TyY (K : PySem.W.Frag) (H : Hp) (x : V) (t : Value) : Prop := TyX K H x t ∨ ∃ a o kvs, x = .ref a ∧ H a = some (.frz o (.dT kvs)) ∧ t = .type "dict"
theorem kit_ofY {X : Cx} {pins : List (Addr × Obj)} {σ : L2.St} {H : Hp} {s : Shared} {x : V} {u t : Value} (I : Inv X pins σ H s) (rx : RelV x u) (ty : TyY X.K H x t) : ∃ P : Heap → Prop, PySem.W.KitX X.K u t P ∧ P s.heap ∧ u ≠ .builtin "__main__.__loader__#opaque" := by
  rcases ty with ty | ⟨a, ob, kvs, rfl, ea, rfl⟩
  · exact kit_of I rx ty
  · cases (show u = Value.ref a from rx)
    obtain ⟨_, _, _, vs, _, o, es, ep, h1, h2, _⟩ := (show ObjOk X.prog X.w H s.heap a (.frz ob (.dT kvs)) from I.hok a _ ea)
    exact ⟨_, PySem.W.kitx_dict, ⟨o, h1, h2.1⟩, fun z => nomatch z⟩
def rIsiY (K : PySem.W.Frag) : List V → Hp → VK → Prop := fun xs H Q => ∃ (x c : V) (t u : Value) (b : Bool), xs = [x, c] ∧ ClsV c u ∧ TyY K H x t ∧ PySem.W.kitOne K t u = some b ∧ Q (.bl b) H
def rIsiTY (K : PySem.W.Frag) : List V → Hp → VK → Prop := fun xs H Q => ∃ (x : V) (tp : Addr) (cs : List V) (t : Value) (us : List Value) (b : Bool), xs = [x, .ref tp] ∧ H tp = some (.tup cs) ∧ Paired ClsV cs us ∧ TyY K H x t ∧ PySem.W.kitAny K t us = some b ∧ Q (.bl b) H
theorem call_isiY {X : Cx} : CallR X (.builtin "isinstance") (rIsiY X.K) := by
  intro pins s σ H xs us Q I r h
  obtain ⟨x, c, t, u, b, rfl, k, ty, e, q⟩ := h
  obtain ⟨u1, u2, rfl, r1, r2⟩ := vals2 r
  have e2 := k.eq r2
  subst e2
  obtain ⟨P, Z, p, hx⟩ := kit_ofY I r1 ty
  exact PySem.W.kia_one Z I.kIn p e hx fun tk => ⟨.bl b, H, I.tok tk, rfl, q⟩
theorem call_isiTY {X : Cx} : CallR X (.builtin "isinstance") (rIsiTY X.K) := by
  intro pins s σ H xs us Q I r h
  obtain ⟨x, tp, cs, t, ws, b, rfl, hT, k, ty, e, q⟩ := h
  obtain ⟨u1, u2, rfl, r1, r2⟩ := vals2 r
  cases (show u2 = Value.ref tp from r2)
  obtain ⟨P, Z, p, hx⟩ := kit_ofY I r1 ty
  obtain ⟨_, its, rv, o, h1, h2, n, h3⟩ := (show ObjOk X.prog X.w H s.heap tp (.tup cs) from I.hok tp _ hT)
  have e3 := ClsV.all k rv
  subst e3
  obtain ⟨oc, od, dt, sl⟩ := o
  simp only at h2 h3
  subst h2 h3
  exact PySem.W.kia_tup Z I.kIn p h1 e hx fun tk => ⟨.bl b, H, I.tok tk, rfl, q⟩
theorem VRep.dict {x : V} {kvs : List (D × D)} (sub : Same F H) (h : VRep K F H x (.dict kvs)) : TyY K H x (.type "dict") := by
  cases h with
  | p h => cases h with
    | dct h _ _ => exact .inl (.fDict (sub _ _ h))
    | dT h _ _ => exact .inr ⟨_, _, _, rfl, sub _ _ h, rfl⟩
end

/-- a fresh tuple, a fresh list -/
theorem fresh_tup {K : PySem.W.Frag} {F H : Hp} {xs : List V} {ds : List D} {Q : VK} (sub : Same F H) (r : Reps K F xs ds) (q : ∀ z F' H', Grow F H F' H' → Rep K F' z (.tuple ds) → Q z H') {p : Addr} (hp : H p = none) : Q (.ref p) (upd H p (.tup xs)) := by
  have sF : Same F (upd F p (.tup xs)) := fun a u h => by rw [upd_ne (ne_of_none h (sub.free hp))]; exact h
  exact q _ _ _ (.inr (.inl ⟨p, _, hp, rfl, rfl⟩)) (.tup upd_same (r.mono sF))
theorem fresh_lst {K : PySem.W.Frag} {F H : Hp} {xs : List V} {ds : List D} {Q : VK} (sub : Same F H) (r : Reps K F xs ds) (q : ∀ z F' H', Grow F H F' H' → Rep K F' z (.list ds) → Q z H') {p : Addr} (hp : H p = none) : Q (.ref p) (upd H p (.lst xs)) := by
  have sF : Same F (upd F p (.lst xs)) := fun a u h => by rw [upd_ne (ne_of_none h (sub.free hp))]; exact h
  exact q _ _ _ (.inr (.inl ⟨p, _, hp, rfl, rfl⟩)) (.lst upd_same (r.mono sF))

def opOf : BOp → Operator
  | .add => .Add
  | .sub => .Sub
  | .mul => .Mult
  | .fdiv => .FloorDiv
  | .mod => .Mod
  | .pow => .Pow
def rBin (K : PySem.W.Frag) (o : BOp) : R2 := fun x y H Q => ∃ F a b c, Same F H ∧ VRep K F H x a ∧ VRep K F H y b ∧ binD o a b = some c ∧ ∀ z F' H', Grow F H F' H' → Rep K F' z c → Q z H'

theorem sLine_eq : sLine = sizeLine := by rw [sizeLine_eq]; rfl
theorem mulOk_C {i j : Int} (h : mulOk i j = true) : CMul i j := by
  unfold mulOk at h
  unfold CMul
  rcases Bool.or_eq_true _ _ ▸ h with h | h
  · have := of_decide_eq_true h; left; omega
  · have := of_decide_eq_true h; right; omega
section
variable {X : Cx}
theorem op_bin (o : BOp) : OpR X (binaryOp (opOf o)) (rBin X.K o) := by
  intro pins s σ H x y v u Q I rx ry ⟨F, a, b, c, sub, ha, hb, e, q⟩
  have qs : ∀ z, Rep X.K F z c → Q z H := fun z r => q z F H (.inl ⟨rfl, rfl⟩) r
  unfold binD at e
  split at e
  · cases e
    cases ha.int; cases hb.int
    exact op_add pins s σ H _ _ v u Q I rx ry ⟨_, _, rfl, rfl, qs _ (.int _)⟩
  · split at e
    · rename_i hz
      cases e
      obtain ⟨l, xs', rfl, h1, r1⟩ := ha.list sub
      obtain ⟨m, ys', rfl, h2, r2⟩ := hb.list sub
      rw [sLine_eq, ← r1.length, ← r2.length] at hz
      exact op_cat pins s σ H _ _ v u Q I rx ry ⟨_, _, _, _, rfl, rfl, h1, h2, hz, fun p hp => fresh_lst sub (r1.append r2) q hp⟩
    · cases e
  · split at e
    · rename_i hz
      cases e
      obtain ⟨l, xs', rfl, h1, h1F, r1⟩ := ha.tuple sub
      obtain ⟨m, ys', rfl, h2, h2F, r2⟩ := hb.tuple sub
      rw [sLine_eq, ← r1.length, ← r2.length] at hz
      refine op_catA pins s σ H _ _ v u Q I rx ry ⟨_, _, _, _, rfl, rfl, h1, h2, hz, fun z => ?_, fun _ z => ?_, fun _ _ p hp => fresh_tup sub (r1.append r2) q hp⟩
      · subst z; cases r1; exact qs _ (.tup h2F r2)
      · subst z; cases r2; rw [List.append_nil] at qs; exact qs _ (.tup h1F r1)
    · cases e
  · split at e
    · rename_i hz
      cases e
      cases ha.str; cases hb.str
      rw [sLine_eq] at hz
      exact op_add_str pins s σ H _ _ v u Q I rx ry ⟨_, _, rfl, rfl, hz, qs _ (.str _)⟩
    · cases e
  · cases e
    cases ha.int; cases hb.int
    exact op_sub pins s σ H _ _ v u Q I rx ry ⟨_, _, rfl, rfl, qs _ (.int _)⟩
  · split at e
    · rename_i hz
      cases e
      cases ha.int; cases hb.int
      exact op_mul pins s σ H _ _ v u Q I rx ry ⟨_, _, rfl, rfl, mulOk_C hz, qs _ (.int _)⟩
    · cases e
  · split at e
    · rename_i hz
      cases e
      obtain ⟨l, xs', rfl, h1, h1F, r1⟩ := ha.tuple sub
      cases hb.int
      rw [← r1.length] at hz
      refine op_repAny pins s σ H _ _ v u Q I rx ry ⟨_, _, _, rfl, rfl, h1, hz.1, hz.2.1, hz.2.2, fun z => ?_, fun p hp => fresh_tup sub (r1.rep_flat _) q hp⟩
      rcases z with z | z
      · subst z
        cases r1
        have e0 : ∀ n : Nat, (List.replicate n ([] : List D)).flatten = [] := fun n => by simp
        rw [e0] at qs
        exact qs _ (.tup h1F .nil)
      · subst z
        exact qs _ (by simpa using Rep.tup h1F r1)
    · cases e
  · split at e
    · rename_i hz
      cases e
      obtain ⟨l, xs', rfl, h1, r1⟩ := ha.list sub
      cases hb.int
      rw [← r1.length] at hz
      refine op_rep pins s σ H _ _ v u Q I rx ry ⟨_, _, _, rfl, rfl, h1, by omega, by omega, ?_, fun p hp => fresh_lst sub (r1.rep_flat _) q hp⟩
      rw [sizeLine_eq]
      exact Nat.le_trans (Nat.mul_le_mul hz.2.2 (Int.toNat_le.mpr hz.2.1)) (by decide)
    · cases e
  · split at e
    · rename_i hz
      cases e
      cases ha.str; cases hb.int
      exact op_repStr pins s σ H _ _ v u Q I rx ry ⟨_, _, rfl, rfl, hz.1, hz.2.1, hz.2.2, qs _ (.str _)⟩
    · cases e
  · split at e
    · rename_i hz
      cases e
      cases ha.int; cases hb.int
      refine op_fdivW pins s σ H _ _ v u Q I rx ry ⟨_, _, rfl, rfl, wide_div (b := 31) hz.1 ?_ (by decide) (by decide), qs _ (.int _)⟩
      have := hz.2
      omega
    · cases e
  · split at e
    · rename_i hz
      cases e
      cases ha.int; cases hb.int
      exact op_mod pins s σ H _ _ v u Q I rx ry ⟨_, _, rfl, rfl, hz, qs _ (.int _)⟩
    · cases e
  · split at e
    · rename_i hz
      cases e
      cases ha.int; cases hb.int
      refine op_pow pins s σ H _ _ v u Q I rx ry ⟨_, _, rfl, rfl, ⟨hz.1, hz.2.1, ?_⟩, qs _ (.int _)⟩
      have := hz.2.2
      omega
    · cases e
  · cases e

theorem cpart {h : Heap} {a : Addr} {ks : List Key} {xs : List V} {vs : List (Key × Value)} {es : List DictEntry} {prog : Program} {w : World} (hl : ks.length = xs.length) (kv : KV (ks.zip xs) vs) (ps : Pairs (mixKind prog w) es vs) :
    (∃ as, ReadsAll h (es.map (·.key)) (ks.map kD) as) ∧ Vals xs (es.map (·.val)) := by
  induction ks generalizing xs vs es with
  | nil =>
    cases xs with
    | cons _ _ => simp at hl
    | nil =>
      cases kv
      cases ps
      exact ⟨⟨_, .nil⟩, .nil⟩
  | cons k ks ih =>
    cases xs with
    | nil => simp at hl
    | cons x xs =>
      cases kv with
      | cons r kv =>
        cases ps with
        | cons hk hv ps =>
          obtain ⟨⟨as, r1⟩, r2⟩ := ih (by simpa using hl) kv ps
          refine ⟨?_, .cons (by show L2.RelV x _; dsimp only; rw [hv]; exact r.2) r2⟩
          rw [← r.1] at hk
          rcases keyIs_shape hk with ⟨i, t, rfl, e⟩ | ⟨y, t, rfl, e⟩
          · exact ⟨_, ReadsAll.cons (by dsimp only; rw [e]; exact Reads.int i t) r1⟩
          · exact ⟨_, ReadsAll.cons (by dsimp only; rw [e]; exact Reads.str y t) r1⟩
theorem tent_keys {P : Program} {w : World} {es : Array DictEntry} {vs : List (List Key × Addr × Value)} (he : es.toList = vs.map (entryOfKey (tupleKind (mixKind P w)))) : es.toList.map (·.key) = vs.map fun q => Value.ref q.2.1 := by
  rw [he, List.map_map]; rfl
theorem tent_vals {P : Program} {w : World} {es : Array DictEntry} {vs : List (List Key × Addr × Value)} (he : es.toList = vs.map (entryOfKey (tupleKind (mixKind P w)))) : es.toList.map (·.val) = vs.map fun q => q.2.2 := by
  rw [he, List.map_map]; rfl
theorem reads_ints {h : Heap} : ∀ (ns : List Int) (us : List Value), Vals (ns.map V.int) us → ∃ as, ReadsAll h us (ns.map PyData.int) as
  | [], _, r => by cases r; exact ⟨_, ReadsAll.nil⟩
  | n :: ns, _, r => by
    cases r with
    | cons h1 h2 =>
      obtain ⟨t, rfl⟩ := h1
      obtain ⟨as, q⟩ := reads_ints ns _ h2
      exact ⟨_, ReadsAll.cons (Reads.int n t) q⟩
/-- the keys of a dict that are tuples of ints, and its values -/
theorem tpart {X : Cx} {pins : List (Addr × Obj)} {σ : L2.St} {H : Hp} {s : Shared} {h : Heap} (I : Inv X pins σ H s) {ks : List (List Int)} {xs : List V} {vs : List (List Key × Addr × Value)} (hl : ks.length = xs.length)
    (kv : Paired (fun (p : List Key × V) (q : List Key × Addr × Value) => p.1 = q.1 ∧ H q.2.1 = some (.tup (p.1.map kV)) ∧ RelV p.2 q.2.2) ((ks.map fun q => (q.map Sum.inl : List Key)).zip xs) vs) :
    (∃ as, ReadsAll s.heap (vs.map fun q => Value.ref q.2.1) (ks.map tupI) as) ∧ Vals xs (vs.map fun q => q.2.2) := by
  induction ks generalizing xs vs with
  | nil =>
    cases xs with
    | cons _ _ => simp at hl
    | nil => cases kv; exact ⟨⟨_, .nil⟩, .nil⟩
  | cons k ks ih =>
    cases xs with
    | nil => simp at hl
    | cons x xs =>
      cases kv with
      | cons r kv =>
        obtain ⟨⟨as, r1⟩, r2⟩ := ih (by simpa using hl) kv
        refine ⟨?_, .cons r.2.2 r2⟩
        have e : (k.map Sum.inl : List Key).map kV = k.map V.int := by rw [List.map_map]; rfl
        have ht := r.2.1
        rw [e] at ht
        obtain ⟨its, rv, ⟨o, ho, hc, n, hd⟩, _⟩ := I.tuple (SqT.of ht)
        obtain ⟨bs, hr⟩ := reads_ints (h := s.heap) k its rv
        exact ⟨_, ReadsAll.cons (Reads.tuple ho hc hd hr) r1⟩
mutual
theorem Rep.reads {pins : List (Addr × Obj)} {σ : L2.St} {F H : Hp} {s : Shared} (I : Inv X pins σ H s) (sub : Same F H) : ∀ {x : V} {d : D}, Rep X.K F x d → ∀ u : Value, RelV x u → ∃ as, Reads s.heap u d as
  | _, _, .non, _, r => by cases r; exact ⟨_, Reads.none⟩
  | _, _, .bl b, _, r => by cases r; exact ⟨_, Reads.bool b⟩
  | _, _, .int i, _, r => by obtain ⟨t, rfl⟩ := r; exact ⟨_, Reads.int i t⟩
  | _, _, .str x, _, r => by obtain ⟨t, rfl⟩ := r; exact ⟨_, Reads.str x t⟩
  | _, _, .lst h q, _, r => by
    cases r
    obtain ⟨its, rv, ⟨o, n, ho, hc, _, hd⟩, _⟩ := I.list (SqL.of (sub _ _ h))
    obtain ⟨as, hr⟩ := Reps.reads I sub q its rv
    exact ⟨_, Reads.list ho hc hd hr⟩
  | _, _, .tup h q, _, r => by
    cases r
    obtain ⟨its, rv, ⟨o, ho, hc, n, hd⟩, _⟩ := I.tuple (SqT.of (sub _ _ h))
    obtain ⟨as, hr⟩ := Reps.reads I sub q its rv
    exact ⟨_, Reads.tuple ho hc hd hr⟩
  | _, _, .dct h l q, _, r => by
    cases r
    obtain ⟨_, _, vs, kv, o, es, ep, ho, ⟨hc, _⟩, hd, _, ps, _⟩ := (I.hok _ _ (sub _ _ h)).2
    obtain ⟨⟨as, r1⟩, rv⟩ := cpart (h := s.heap) (a := 0) l kv ps
    obtain ⟨bs, hr⟩ := Reps.reads I sub q _ rv
    have hlen := q.length
    exact ⟨_, Reads.dict ho hc hd (by rw [List.map_fst_zip (by rw [List.length_map]; omega)]; exact r1) (by rw [List.map_snd_zip (by rw [List.length_map]; omega)]; exact hr)⟩
  | _, _, .dT h l q, _, r => by
    cases r
    obtain ⟨_, _, _, vs, kv, o, es, ep, ho, ⟨hc, _⟩, hd, he, _⟩ := I.hok _ _ (sub _ _ h)
    obtain ⟨⟨as, r1⟩, rv⟩ := tpart (h := s.heap) I l kv
    obtain ⟨bs, hr⟩ := Reps.reads I sub q _ rv
    have hlen := q.length
    rw [← tent_keys he] at r1
    rw [← tent_vals he] at hr
    exact ⟨_, Reads.dict ho hc hd (by rw [List.map_fst_zip (by rw [List.length_map]; omega)]; exact r1) (by rw [List.map_snd_zip (by rw [List.length_map]; omega)]; exact hr)⟩
theorem Reps.reads {pins : List (Addr × Obj)} {σ : L2.St} {F H : Hp} {s : Shared} (I : Inv X pins σ H s) (sub : Same F H) : ∀ {xs : List V} {ds : List D}, Reps X.K F xs ds → ∀ us : List Value, Vals xs us → ∃ as, ReadsAll s.heap us ds as
  | _, _, .nil, _, r => by cases r; exact ⟨_, ReadsAll.nil⟩
  | _, _, .cons h q, _, r => by
    cases r with
    | cons r1 r2 =>
      obtain ⟨as, q1⟩ := Rep.reads I sub h _ r1
      obtain ⟨bs, q2⟩ := Reps.reads I sub q _ r2
      exact ⟨_, ReadsAll.cons q1 q2⟩
end
theorem VRep.reads {pins : List (Addr × Obj)} {σ : L2.St} {F H : Hp} {s : Shared} (I : Inv X pins σ H s) (sub : Same F H) {x : V} {d : D} (h : VRep X.K F H x d) {u : Value} (r : RelV x u) : ∃ as, Reads s.heap u d as := by
  cases h with
  | p h => exact Rep.reads I sub h u r
  | r h q =>
    cases r
    obtain ⟨its, rv, ⟨o, n, ho, hc, _, hd⟩, _⟩ := I.list (SqL.of h)
    obtain ⟨as, hr⟩ := Reps.reads I sub q its rv
    exact ⟨_, Reads.list ho hc hd hr⟩

/-! ### comparisons -/
def cmpOf : COp → CmpOp
  | .lt => .Lt
  | .le => .LtE
  | .gt => .Gt
  | .ge => .GtE
  | .eq => .Eq
  | .ne => .NotEq
  | .isin => .In
  | .notin => .NotIn
  | .iss => .Is
  | .isnot => .IsNot
def rCmp (K : PySem.W.Frag) (o : COp) : R2 := fun x y H Q => ∃ F a b c, Same F H ∧ VRep K F H x a ∧ VRep K F H y b ∧ cmpD o a b = some c ∧ Q (.bl c) H
theorem eqOk_units {a b : D} {n m : Nat} (h : eqOk a b = true) (hu : n + 64 < m) : a.canLay0 = true ∧ b.canLay0 = true ∧ n + min a.depth b.depth < m := by
  unfold eqOk at h
  simp only [Bool.and_eq_true, Bool.or_eq_true, decide_eq_true_eq] at h
  obtain ⟨⟨h1, h2⟩, h3⟩ := h
  exact ⟨h1, h2, by omega⟩
theorem inOk_units {a : D} {xs : List D} {n m : Nat} (h : inOk a xs = true) (hu : n + 65 < m) : a.canLay0 = true ∧ PyData.canLayAll0 xs = true ∧ n + 1 + min (PyData.depthAll xs) a.depth < m := by
  unfold inOk at h
  rw [Bool.and_eq_true] at h
  have := SeqAt.depth_of_shaped h.1
  exact ⟨SeqAt.canLay_of_shaped h.1, h.2, by omega⟩
theorem eqD_some {a b : D} {c : Bool} (h : eqD a b = some c) : (eqOk a b = true ∧ c = PyData.eqv a b) ∨ eqE a b = some c := by
  unfold eqD at h
  split at h
  · cases h; exact .inl ⟨by assumption, rfl⟩
  · exact .inr h
theorem eqE_rc {da db : D} {c : Bool} {A : Around} {s : Shared} {a b : Value} {as bs : List Addr} (ra : Reads s.heap a da as) (rb : Reads s.heap b db bs) (h : eqE da db = some c) (hu : A.units < cLine) : SeqAt.RcAt A s a b c ∧ SeqAt.RcNeAt A s a b (!c) := by
  unfold eqE at h
  split at h
  · rename_i xs ys
    cases ra with
    | @list l o vs n _ as₁ h1 h2 h3 h4 =>
    cases rb with
    | @list l' o' vs' n' _ bs₁ k1 k2 k3 k4 =>
    have hl : s.heap.IsList l vs := ⟨_, h1, h2, _, h3⟩
    have hl' : s.heap.IsList l' vs' := ⟨_, k1, k2, _, k3⟩
    have n1 : vs.size = xs.length := by simpa using SeqAt.ReadsAll.length _ _ _ h4
    have n2 : vs'.size = ys.length := by simpa using SeqAt.ReadsAll.length _ _ _ k4
    split at h
    · split at h
      · rename_i e1 e2
        cases h
        have e3 : xs.length = 0 := by simpa using e2
        have hz : vs.size = 0 := by omega
        have he : ∀ j (j1 : j < vs.size) (j2 : j < vs'.size), SeqAt.EqAt A.in1 s vs[j] vs'[j] ((fun _ => true) j) := fun j j1 _ => by omega
        have r1 := SeqAt.RcAt.lists hl hl' (by omega) hu he
        have r2 := SeqAt.RcNeAt.lists hl hl' (by omega) hu he
        simpa [hz] using And.intro r1 r2
      · cases h
    · rename_i e1
      cases h
      have hz : (vs.size != vs'.size) = true := by simp; omega
      exact ⟨SeqAt.RcAt.lists_lengths hl hl' hz hu, SeqAt.RcNeAt.lists_lengths hl hl' hz hu⟩
  · rename_i xs
    cases ra with
    | @tuple l o vs n _ as₁ h1 h2 h3 h4 =>
    cases rb with
    | @tuple l' o' vs' n' _ bs₁ k1 k2 k3 k4 =>
    have hl : s.heap.IsTuple l vs := ⟨_, h1, h2, _, h3⟩
    have hl' : s.heap.IsTuple l' vs' := ⟨_, k1, k2, _, k3⟩
    have n1 : vs.size = xs.length := by simpa using SeqAt.ReadsAll.length _ _ _ h4
    have n2 : vs'.size = 0 := by simpa using SeqAt.ReadsAll.length _ _ _ k4
    have he : ∀ j (j1 : j < vs.size) (j2 : j < vs'.size), SeqAt.EqAt A.in1 s vs[j] vs'[j] ((fun _ => true) j) := fun j _ j2 => by omega
    have r1 := SeqAt.RcAt.tuples hl hl' hu he
    have r2 := SeqAt.RcNeAt.tuples hl hl' hu he
    have hc : c = (vs.size == vs'.size) := by
      cases h
      rw [n1, n2]
      cases xs <;> simp
    rw [hc]
    simpa [n2] using And.intro r1 r2
  · cases h
theorem inD_some {a : D} {xs : List D} {c : Bool} (h : inD a xs = some c) : inOk a xs = true ∧ c = (xs.any fun z => PyData.eqv z a) := by
  unfold inD at h
  split at h
  · cases h; exact ⟨by assumption, rfl⟩
  · cases h
theorem ltD_some {a b : D} {c : Bool} (h : ltD a b = some c) {n m : Nat} (hu : n + 64 < m) : PySem.W.alike a b = true ∧ n + min a.depth b.depth < m ∧ c = PySem.W.dataLt a b := by
  unfold ltD at h
  split at h
  · rename_i z
    cases h
    unfold ltOk at z
    simp only [Bool.and_eq_true, Bool.or_eq_true, decide_eq_true_eq] at z
    exact ⟨z.1, by omega, rfl⟩
  · cases h
theorem op_cmp (o : COp) (hu : X.A.units + 65 < cLine) : OpR X (compareOp (cmpOf o)) (rCmp X.K o) := by
  intro pins s σ H x y v u Q I rx ry ⟨F, a, b, c, sub, ha, hb, e, q⟩
  have fin : EP X pins σ Q (.bool c) s := ⟨.bl c, H, I, rfl, q⟩
  unfold cmpD at e
  split at e
  · cases e
    cases ha.int; cases hb.int
    exact op_lt pins s σ H _ _ v u Q I rx ry ⟨_, _, rfl, rfl, q⟩
  · cases e
    cases ha.int; cases hb.int
    exact op_le pins s σ H _ _ v u Q I rx ry ⟨_, _, rfl, rfl, q⟩
  · cases e
    cases ha.int; cases hb.int
    exact op_gt pins s σ H _ _ v u Q I rx ry ⟨_, _, rfl, rfl, q⟩
  · cases e
    cases ha.int; cases hb.int
    exact op_ge pins s σ H _ _ v u Q I rx ry ⟨_, _, rfl, rfl, q⟩
  · obtain ⟨c1, c2, rfl⟩ := ltD_some e (n := X.A.units) (m := cLine) (by omega)
    obtain ⟨as, r1⟩ := ha.reads I sub rx
    obtain ⟨bs, r2⟩ := hb.reads I sub ry
    exact PySem.W.lt_data r1 r2 c1 (fun z => nomatch z) c2 fin
  · cases e
    cases ha.str; cases hb.str
    refine op_eq pins s σ H _ _ v u Q I rx ry ⟨rfl, ?_⟩
    rename_i a b
    have : decide (V.str a = V.str b) = decide (a = b) := decide_eq_decide.mpr ⟨fun z => by cases z; rfl, fun z => by rw [z]⟩
    rw [this]; exact q
  · cases e
    cases ha.str; cases hb.str
    refine op_ne pins s σ H _ _ v u Q I rx ry ⟨rfl, ?_⟩
    rename_i a b
    have : decide (V.str a = V.str b) = decide (a = b) := decide_eq_decide.mpr ⟨fun z => by cases z; rfl, fun z => by rw [z]⟩
    rw [this]; exact q
  · obtain ⟨as, r1⟩ := ha.reads I sub rx
    obtain ⟨bs, r2⟩ := hb.reads I sub ry
    rcases eqD_some e with ⟨h1, rfl⟩ | h1
    · obtain ⟨c1, c2, c3⟩ := eqOk_units h1 (Nat.lt_of_succ_lt hu)
      exact SeqAt.compareEq_reads r1 r2 c1 c2 c3 fin
    · exact (eqE_rc r1 r2 h1 (by omega)).1 _ _ _ _ fin
  · cases q0 : eqD a b with
    | none => rw [q0] at e; cases e
    | some c0 =>
      rw [q0] at e
      cases e
      obtain ⟨as, r1⟩ := ha.reads I sub rx
      obtain ⟨bs, r2⟩ := hb.reads I sub ry
      rcases eqD_some q0 with ⟨h1, rfl⟩ | h1
      · obtain ⟨c1, c2, c3⟩ := eqOk_units h1 (Nat.lt_of_succ_lt hu)
        exact SeqAt.compareNe_reads r1 r2 c1 c2 c3 fin
      · exact (eqE_rc r1 r2 h1 (by omega)).2 _ _ _ _ fin
  · obtain ⟨h1, rfl⟩ := inD_some e
    obtain ⟨c1, c2, c3⟩ := inOk_units h1 hu
    obtain ⟨as, r1⟩ := ha.reads I sub rx
    obtain ⟨bs, r2⟩ := hb.reads I sub ry
    exact SeqAt.in_list_reads r2 r1 c2 c1 c3 fin
  · rename_i xs
    cases q0 : inD a xs with
    | none => rw [q0] at e; cases e
    | some c0 =>
      rw [q0] at e
      cases e
      obtain ⟨h1, rfl⟩ := inD_some q0
      obtain ⟨c1, c2, c3⟩ := inOk_units h1 hu
      obtain ⟨as, r1⟩ := ha.reads I sub rx
      obtain ⟨bs, r2⟩ := hb.reads I sub ry
      exact SeqAt.notIn_list_reads r2 r1 c2 c1 c3 fin
  · obtain ⟨h1, rfl⟩ := inD_some e
    obtain ⟨c1, c2, c3⟩ := inOk_units h1 hu
    obtain ⟨as, r1⟩ := ha.reads I sub rx
    obtain ⟨bs, r2⟩ := hb.reads I sub ry
    exact SeqAt.in_tuple_reads r2 r1 c2 c1 c3 fin
  · rename_i xs
    cases q0 : inD a xs with
    | none => rw [q0] at e; cases e
    | some c0 =>
      rw [q0] at e
      cases e
      obtain ⟨h1, rfl⟩ := inD_some q0
      obtain ⟨c1, c2, c3⟩ := inOk_units h1 hu
      obtain ⟨as, r1⟩ := ha.reads I sub rx
      obtain ⟨bs, r2⟩ := hb.reads I sub ry
      exact SeqAt.notIn_tuple_reads r2 r1 c2 c1 c3 fin
  · cases e
    cases hb.non
    refine op_isN pins s σ H _ _ v u Q I rx ry ⟨rfl, ?_⟩
    have e0 : decide (x = .non) = isNoneD a := by
      cases ha with
      | p ha => cases ha <;> simp [isNoneD]
      | r _ _ => simp [isNoneD]
    rw [e0]; exact q
  · cases e
    cases hb.non
    refine op_notN pins s σ H _ _ v u Q I rx ry ⟨rfl, ?_⟩
    have e0 : (!decide (x = .non)) = !isNoneD a := by
      cases ha with
      | p ha => cases ha <;> simp [isNoneD]
      | r _ _ => simp [isNoneD]
    rw [e0]; exact q
  · cases e
end
end MS

-- MsShow
/-! How data with dicts are shown. -/
namespace MS
open PySem PySem.Spec PyProof.Rows L2
/-- no dict among these is the table of modules -/
def NoSys (h : Heap) (as : List Addr) : Prop := ∀ a, a ∈ as → ∀ o es n, h.get? a = some o → o.data = .dict es n → (a == sysModules) = false
theorem NoSys.nil {h : Heap} : NoSys h [] := fun _ z => nomatch z
theorem NoSys.app {h : Heap} {l r : List Addr} (x : NoSys h l) (y : NoSys h r) : NoSys h (l ++ r) := fun a z => (List.mem_append.mp z).elim (x a) (y a)
theorem NoSys.left {h : Heap} {l r : List Addr} (x : NoSys h (l ++ r)) : NoSys h l := fun a z => x a (List.mem_append_left _ z)
theorem NoSys.right {h : Heap} {l r : List Addr} (x : NoSys h (l ++ r)) : NoSys h r := fun a z => x a (List.mem_append_right _ z)
theorem NoSys.tail {h : Heap} {b : Addr} {l : List Addr} (x : NoSys h (b :: l)) : NoSys h l := fun a z => x a (List.mem_cons_of_mem _ z)
section
variable {prog : Program} {w : World} {hp : Heap}
mutual
theorem rk_of : ∀ {v : Value} {d : PyData} {as : List Addr}, Reads hp v d as → d.showable = true → NoSys hp as → d.shown.length ≤ sizeLine → ∃ bs, ReadAtMost hp d.depth bs ∧ ReprK prog w bs hp d.depth v d.shown
  | _, _, _, .none, _, _, _ => ⟨[], (fun _ z => nomatch z), by rw [PyData.shown]; exact .of_is ReprIs.none _ _ _⟩
  | _, _, _, .bool b, _, _, _ => ⟨[], (fun _ z => nomatch z), by rw [PyData.shown]; exact .of_is (ReprIs.bool b) _ _ _⟩
  | _, _, _, .int i t, q, _, _ => ⟨[], (fun _ z => nomatch z), by rw [PyData.shown]; exact .of_is (ReprIs.int t (by simpa [PyData.showable] using q)) _ _ _⟩
  | _, _, _, .str x t, _, _, z => ⟨[], (fun _ z => nomatch z), by rw [PyData.shown]; exact .of_is (ReprIs.str x t (by simpa only [PyData.shown] using z)) _ _ _⟩
  | _, _, _, .list (a := a) (vs := vs) (xs := xs) g1 g2 g3 g4, q, ns, z => by
    have z' : (listText (PyData.shownAll xs)).length ≤ sizeLine := by rw [PyData.shown] at z; exact z
    obtain ⟨bs, p1, p2⟩ := rks_of g4 (by simpa [PyData.showable] using q) ns.tail fun t m => Nat.le_trans (listText_mem_le m) z'
    have rd : Reads hp (.ref a) (.list xs) _ := .list g1 g2 g3 g4
    have nm : a ∉ bs := not_mem_of_deeper rd (by rw [PyData.depth]; omega) p1
    refine ⟨a :: bs, ReadAtMost.cons rd (by rw [PyData.depth]; omega) p1, ?_⟩
    rw [PyData.depth, PyData.shown]
    obtain ⟨l⟩ := vs
    cases l with
    | nil =>
      have g5 : ReadsAll hp [] xs _ := g4
      cases g5
      rw [PyData.shownAll, listText_nil]
      exact ReprK.listEmpty g1 g2 g3
    | cons y l => exact ReprK.list g1 g2 g3 nm (by simpa using p2.length_eq) (fun i y e => p2.item i y (by simpa using e))
  | _, _, _, .tuple (a := a) (xs := xs) g1 g2 g3 g4, q, ns, z => by
    have z' : (tupleText (PyData.shownAll xs)).length ≤ sizeLine := by rw [PyData.shown] at z; exact z
    obtain ⟨bs, p1, p2⟩ := rks_of g4 (by simpa [PyData.showable] using q) ns fun t m => Nat.le_trans (tupleText_mem_le m) z'
    have rd : Reads hp (.ref a) (.tuple xs) _ := .tuple g1 g2 g3 g4
    have nm : a ∉ bs := not_mem_of_deeper rd (by rw [PyData.depth]; omega) p1
    refine ⟨a :: bs, ReadAtMost.cons rd (by rw [PyData.depth]; omega) p1, ?_⟩
    rw [PyData.depth, PyData.shown]
    exact ReprK.tuple g1 g2 g3 nm p2
  | _, _, _, .dict (a := a) (es := es) (kvs := kvs) g1 g2 g3 g4 g5, q, ns, z => by
    have z' : (dictText (PyData.shownKv kvs)).length ≤ sizeLine := by rw [PyData.shown] at z; exact z
    obtain ⟨q1, q2⟩ := PyData.showableKv_split kvs (by simpa [PyData.showable] using q)
    have nt := ns.tail
    obtain ⟨b1, p1, k1⟩ := rks_of g4 q1 nt.left fun t m => let ⟨p, i1, i2⟩ := PyData.shownKv_key_le kvs t m; Nat.le_trans i2 (Nat.le_trans (dictText_mem_le i1) z')
    obtain ⟨b2, p2, k2⟩ := rks_of g5 q2 nt.right fun t m => let ⟨p, i1, i2⟩ := PyData.shownKv_val_le kvs t m; Nat.le_trans i2 (Nat.le_trans (dictText_mem_le i1) z')
    have rd : Reads hp (.ref a) (.dict kvs) _ := .dict g1 g2 g3 g4 g5
    have pb := (p1.mono (PyData.depthAll_keys_le kvs)).append (p2.mono (PyData.depthAll_vals_le kvs))
    have nm : a ∉ b1 ++ b2 := not_mem_of_deeper rd (by rw [PyData.depth]; omega) pb
    refine ⟨a :: (b1 ++ b2), ReadAtMost.cons rd (by rw [PyData.depth]; omega) pb, ?_⟩
    rw [PyData.depth, PyData.shown, PyData.shownKv_eq]
    exact ReprK.dict g1 g2 g3 (ns a (List.mem_cons_self ..) _ _ _ g1 g3) nm (ReprEntriesK.of_two es.toList _ _
      (k1.more_le (fun b m => List.mem_append_left _ m) (PyData.depthAll_keys_le kvs)) (k2.more_le (fun b m => List.mem_append_right _ m) (PyData.depthAll_vals_le kvs)))
theorem rks_of : ∀ {vs : List Value} {ds : List PyData} {as : List Addr}, ReadsAll hp vs ds as → PyData.showableAll ds = true → NoSys hp as → (∀ t ∈ PyData.shownAll ds, t.length ≤ sizeLine) →
    ∃ bs, ReadAtMost hp (PyData.depthAll ds) bs ∧ ReprAllK prog w bs hp (PyData.depthAll ds) vs (PyData.shownAll ds)
  | _, _, _, .nil, _, _, _ => ⟨[], (fun _ z => nomatch z), by rw [PyData.shownAll]; exact .nil⟩
  | _, _, _, .cons (d := d) (ds := ds) r rs, q, ns, z => by
    have q' : d.showable = true ∧ PyData.showableAll ds = true := by simpa [PyData.showableAll] using q
    obtain ⟨b1, p1, k1⟩ := rk_of r q'.1 ns.left (z _ (by rw [PyData.shownAll]; exact List.mem_cons_self ..))
    obtain ⟨b2, p2, k2⟩ := rks_of rs q'.2 ns.right fun t m => z t (by rw [PyData.shownAll]; exact List.mem_cons_of_mem _ m)
    refine ⟨b1 ++ b2, ?_, ?_⟩
    · intro b m
      rw [PyData.depthAll]
      rcases List.mem_append.mp m with m | m
      · obtain ⟨d', as', r', e'⟩ := p1 b m
        exact ⟨d', as', r', Nat.le_trans e' (Nat.le_max_left _ _)⟩
      · obtain ⟨d', as', r', e'⟩ := p2 b m
        exact ⟨d', as', r', Nat.le_trans e' (Nat.le_max_right _ _)⟩
    · rw [PyData.depthAll, PyData.shownAll]
      exact .cons ((k1.more fun b m => List.mem_append_left _ m).level_le (Nat.le_max_left _ _)) (k2.more_le (fun b m => List.mem_append_right _ m) (Nat.le_max_right _ _))
end
theorem shows_of {a : Addr} {d : PyData} {as : List Addr} (r : Reads hp (.ref a) d as) (q : d.showable = true) (ns : NoSys hp as) (z : d.shown.length ≤ sizeLine) : ∃ T idr, ShowsBy prog w hp a d T idr := by
  cases r with
  | list g1 g2 g3 g4 =>
    rename_i o vs n xs bs0
    have z' : (listText (PyData.shownAll xs)).length ≤ sizeLine := by rw [PyData.shown] at z; exact z
    obtain ⟨bs, p1, p2⟩ := rks_of (prog := prog) (w := w) g4 (by simpa [PyData.showable] using q) ns.tail fun t m => Nat.le_trans (listText_mem_le m) z'
    have nm : a ∉ bs := not_mem_of_deeper (.list g1 g2 g3 g4) (by rw [PyData.depth]; omega) p1
    refine ⟨"list", "list.__repr__", F.slot_list_repr.toG, F.slot_list_str, F.slot_list_format, fun s k0 => ⟨o, k0 _ _ g1, g2⟩, fun A E s Q hg hu k0 hQ => ?_⟩
    rw [PyData.depth] at hu
    rw [PyData.shown] at hQ
    obtain ⟨l⟩ := vs
    cases l with
    | nil =>
      have g5 : ReadsAll hp [] xs _ := g4
      cases g5
      rw [PyData.shownAll, listText_nil] at hQ
      exact call_list_repr_empty ⟨o, k0 _ _ g1, g2⟩ (k0 _ _ g1) g3 (hQ s.heap _ _ fun _ _ e => e)
    | cons x l =>
      exact call_list_reprK g1 g2 g3 nm (by simpa using p2.length_eq) (fun i y e => p2.item i y (by simpa using e)) hg (fun b _ => Clear.nil b) hu k0 hQ z'
  | tuple g1 g2 g3 g4 =>
    rename_i o vs n xs
    have z' : (tupleText (PyData.shownAll xs)).length ≤ sizeLine := by rw [PyData.shown] at z; exact z
    obtain ⟨bs, p1, p2⟩ := rks_of (prog := prog) (w := w) g4 (by simpa [PyData.showable] using q) ns fun t m => Nat.le_trans (tupleText_mem_le m) z'
    have nm : a ∉ bs := not_mem_of_deeper (.tuple g1 g2 g3 g4) (by rw [PyData.depth]; omega) p1
    refine ⟨"tuple", "tuple.__repr__", F.slot_tuple_repr, F.slot_tuple_str, F.slot_tuple_format, fun s k0 => ⟨o, k0 _ _ g1, g2⟩, fun A E s Q hg hu k0 hQ => ?_⟩
    rw [PyData.depth] at hu
    rw [PyData.shown] at hQ
    exact call_tuple_reprK g1 g2 g3 nm p2 hg (fun b _ => Clear.nil b) hu k0 hQ z'
  | dict g1 g2 g3 g4 g5 =>
    rename_i o es n kvs as1 bs1
    have z' : (dictText (PyData.shownKv kvs)).length ≤ sizeLine := by rw [PyData.shown] at z; exact z
    obtain ⟨q1, q2⟩ := PyData.showableKv_split kvs (by simpa [PyData.showable] using q)
    have nt := ns.tail
    obtain ⟨b1, p1, k1⟩ := rks_of (prog := prog) (w := w) g4 q1 nt.left fun t m => let ⟨p, i1, i2⟩ := PyData.shownKv_key_le kvs t m; Nat.le_trans i2 (Nat.le_trans (dictText_mem_le i1) z')
    obtain ⟨b2, p2, k2⟩ := rks_of (prog := prog) (w := w) g5 q2 nt.right fun t m => let ⟨p, i1, i2⟩ := PyData.shownKv_val_le kvs t m; Nat.le_trans i2 (Nat.le_trans (dictText_mem_le i1) z')
    have pb := (p1.mono (PyData.depthAll_keys_le kvs)).append (p2.mono (PyData.depthAll_vals_le kvs))
    have nm : a ∉ b1 ++ b2 := not_mem_of_deeper (.dict g1 g2 g3 g4 g5) (by rw [PyData.depth]; omega) pb
    refine ⟨"dict", "dict.__repr__", F.slot_dict_repr, F.slot_dict_str, F.slot_dict_format, fun s k0 => ⟨o, k0 _ _ g1, g2⟩, fun A E s Q hg hu k0 hQ => ?_⟩
    rw [PyData.depth] at hu
    rw [PyData.shown, PyData.shownKv_eq] at hQ
    exact call_dict_reprK g1 g2 g3 (ns a (List.mem_cons_self ..) _ _ _ g1 g3) nm (ReprEntriesK.of_two es.toList _ _
      (k1.more_le (fun b m => List.mem_append_left _ m) (PyData.depthAll_keys_le kvs)) (k2.more_le (fun b m => List.mem_append_right _ m) (PyData.depthAll_vals_le kvs))) hg (fun b _ => Clear.nil b) hu k0 hQ (by rw [← PyData.shownKv_eq]; exact z')
/-- repr of whatever reads as a datum -/
theorem repr_any {A : Around} {E : Value → Shared → Prop} {s : Shared} {Q : Value → Shared → Prop} {u : Value} {d : PyData} {as : List Addr} (r : Reads s.heap u d as) (q : d.showable = true) (ns : NoSys s.heap as) (z : d.shown.length ≤ sizeLine)
    (hg : A.guards = some []) (hu : A.units + (d.depth + 1) < cLine) (hQ : ∀ h' t tk, (∀ b o, s.heap.get? b = some o → h'.get? b = some o) → Q (.str d.shown t) { s with heap := h', toks := tk }) : wpAny (model prog w) A (call (.builtin "repr") [u]) Q E s := by
  have rf : ∀ a, u = .ref a → wpAny (model prog w) A (call (.builtin "repr") [u]) Q E s := fun a ea => by
    subst ea
    obtain ⟨T, idr, S⟩ := shows_of (prog := prog) (w := w) r q ns z
    exact call_repr_slot (by omega) (S.typeIs s fun _ _ e => e) S.slotRepr (S.call A.in1 E s _ hg (by show A.units + 1 + d.depth < cLine; omega) (fun _ _ e => e) fun h' t tk k => ⟨_, _, rfl, hQ h' t tk k⟩)
  cases r with
  | none =>
    rw [PyData.shown] at hQ
    exact PySem.P.repr_of_none (hQ s.heap _ _ fun _ _ e => e)
  | bool b =>
    rw [PyData.shown] at hQ
    exact PySem.P.repr_of_bool (hQ s.heap _ _ fun _ _ e => e)
  | int i t =>
    rw [PyData.shown] at hQ
    exact PySem.P.repr_of_int (by simpa [PyData.showable] using q) (hQ s.heap _ _ fun _ _ e => e)
  | str x t =>
    rw [PyData.shown] at hQ z
    exact PySem.P.repr_of_str (hQ s.heap _ _ fun _ _ e => e) z
  | list _ _ _ _ => exact rf _ rfl
  | tuple _ _ _ _ => exact rf _ rfl
  | dict _ _ _ _ _ => exact rf _ rfl
end
theorem keys_none {h : Heap} : ∀ {ks : List Key} {us : List Value} {as : List Addr}, ReadsAll h us (ks.map kD) as → as = []
  | [], _, _, r => by cases r; rfl
  | k :: ks, _, _, r => by
    cases r with
    | cons r1 r2 =>
      rw [keys_none r2]
      cases k with
      | inl i => cases r1; rfl
      | inr x => cases r1; rfl
section
variable {X : Cx}
theorem reads_intsN {h : Heap} : ∀ (ns : List Int) (us : List Value), Vals (ns.map V.int) us → ReadsAll h us (ns.map PyData.int) []
  | [], _, r => by cases r; exact ReadsAll.nil
  | n :: ns, _, r => by
    cases r with
    | cons h1 h2 =>
      obtain ⟨t, rfl⟩ := h1
      exact ReadsAll.cons (Reads.int n t) (reads_intsN ns _ h2)
theorem tpartN {pins : List (Addr × Obj)} {σ : L2.St} {H : Hp} {s : Shared} {h : Heap} (I : Inv X pins σ H s) {ks : List (List Int)} {xs : List V} {vs : List (List Key × Addr × Value)} (hl : ks.length = xs.length)
    (kv : Paired (fun (p : List Key × V) (q : List Key × Addr × Value) => p.1 = q.1 ∧ H q.2.1 = some (.tup (p.1.map kV)) ∧ RelV p.2 q.2.2) ((ks.map fun q => (q.map Sum.inl : List Key)).zip xs) vs) :
    (∃ as, ReadsAll s.heap (vs.map fun q => Value.ref q.2.1) (ks.map tupI) as ∧ NoSys s.heap as) ∧ Vals xs (vs.map fun q => q.2.2) := by
  induction ks generalizing xs vs with
  | nil =>
    cases xs with
    | cons _ _ => simp at hl
    | nil => cases kv; exact ⟨⟨_, .nil, NoSys.nil⟩, .nil⟩
  | cons k ks ih =>
    cases xs with
    | nil => simp at hl
    | cons x xs =>
      cases kv with
      | cons r kv =>
        obtain ⟨⟨as, r1, n1⟩, r2⟩ := ih (by simpa using hl) kv
        refine ⟨?_, .cons r.2.2 r2⟩
        have e : (k.map Sum.inl : List Key).map kV = k.map V.int := by rw [List.map_map]; rfl
        have ht := r.2.1
        rw [e] at ht
        obtain ⟨its, rv, ⟨o, ho, hc, n, hd⟩, _⟩ := I.tuple (SqT.of ht)
        have hr := reads_intsN (h := s.heap) k its rv
        refine ⟨_, ReadsAll.cons (Reads.tuple ho hc hd hr) r1, fun a m o' es k' e1 e2 => ?_⟩
        rcases List.mem_append.mp m with m | m
        · exact nomatch m
        · exact n1 a m o' es k' e1 e2
mutual
theorem Rep.readsN {pins : List (Addr × Obj)} {σ : L2.St} {F H : Hp} {s : Shared} (I : Inv X pins σ H s) (sub : Same F H) : ∀ {x : V} {d : D}, Rep X.K F x d → ∀ u : Value, RelV x u → ∃ as, Reads s.heap u d as ∧ NoSys s.heap as
  | _, _, .non, _, r => by cases r; exact ⟨_, Reads.none, .nil⟩
  | _, _, .bl b, _, r => by cases r; exact ⟨_, Reads.bool b, .nil⟩
  | _, _, .int i, _, r => by obtain ⟨t, rfl⟩ := r; exact ⟨_, Reads.int i t, .nil⟩
  | _, _, .str x, _, r => by obtain ⟨t, rfl⟩ := r; exact ⟨_, Reads.str x t, .nil⟩
  | _, _, .lst h q, _, r => by
    cases r
    obtain ⟨its, rv, ⟨o, n, ho, hc, _, hd⟩, _⟩ := I.list (SqL.of (sub _ _ h))
    obtain ⟨as, hr, hn⟩ := Reps.readsN I sub q its rv
    refine ⟨_, Reads.list ho hc hd hr, fun a m o' es k e1 e2 => ?_⟩
    rcases List.mem_cons.mp m with e | m
    · subst e
      rw [ho] at e1
      cases e1
      rw [hd] at e2
      cases e2
    · exact hn a m o' es k e1 e2
  | _, _, .tup h q, _, r => by
    cases r
    obtain ⟨its, rv, ⟨o, ho, hc, n, hd⟩, _⟩ := I.tuple (SqT.of (sub _ _ h))
    obtain ⟨as, hr, hn⟩ := Reps.readsN I sub q its rv
    exact ⟨_, Reads.tuple ho hc hd hr, hn⟩
  | _, _, .dct h l q, _, r => by
    cases r
    obtain ⟨_, hsys, vs, kv, o, es, ep, ho, ⟨hc, _⟩, hd, _, ps, _⟩ := (I.hok _ _ (sub _ _ h)).2
    obtain ⟨⟨as, r1⟩, rv⟩ := cpart (h := s.heap) (a := 0) l kv ps
    obtain ⟨bs, hr, hn⟩ := Reps.readsN I sub q _ rv
    have hlen := q.length
    refine ⟨_, Reads.dict ho hc hd (by rw [List.map_fst_zip (by rw [List.length_map]; omega)]; exact r1) (by rw [List.map_snd_zip (by rw [List.length_map]; omega)]; exact hr), fun a m o' es k e1 e2 => ?_⟩
    have e0 := keys_none r1
    subst e0
    rcases List.mem_cons.mp m with e | m
    · subst e; exact hsys
    · exact hn a m o' es k e1 e2
  | _, _, .dT h l q, _, r => by
    cases r
    obtain ⟨_, _, hsys, vs, kv, o, es, ep, ho, ⟨hc, _⟩, hd, he, _⟩ := I.hok _ _ (sub _ _ h)
    obtain ⟨⟨as, r1, n1⟩, rv⟩ := tpartN (h := s.heap) I l kv
    obtain ⟨bs, hr, hn⟩ := Reps.readsN I sub q _ rv
    have hlen := q.length
    rw [← tent_keys he] at r1
    rw [← tent_vals he] at hr
    refine ⟨_, Reads.dict ho hc hd (by rw [List.map_fst_zip (by rw [List.length_map]; omega)]; exact r1) (by rw [List.map_snd_zip (by rw [List.length_map]; omega)]; exact hr), fun a m o' es k e1 e2 => ?_⟩
    rcases List.mem_cons.mp m with e | m
    · subst e; exact hsys
    · rcases List.mem_append.mp m with m | m
      · exact n1 a m o' es k e1 e2
      · exact hn a m o' es k e1 e2
theorem Reps.readsN {pins : List (Addr × Obj)} {σ : L2.St} {F H : Hp} {s : Shared} (I : Inv X pins σ H s) (sub : Same F H) : ∀ {xs : List V} {ds : List D}, Reps X.K F xs ds → ∀ us : List Value, Vals xs us → ∃ as, ReadsAll s.heap us ds as ∧ NoSys s.heap as
  | _, _, .nil, _, r => by cases r; exact ⟨_, ReadsAll.nil, .nil⟩
  | _, _, .cons h q, _, r => by
    cases r with
    | cons r1 r2 =>
      obtain ⟨as, q1, n1⟩ := Rep.readsN I sub h _ r1
      obtain ⟨bs, q2, n2⟩ := Reps.readsN I sub q _ r2
      exact ⟨_, ReadsAll.cons q1 q2, n1.app n2⟩
end
theorem VRep.readsN {pins : List (Addr × Obj)} {σ : L2.St} {F H : Hp} {s : Shared} (I : Inv X pins σ H s) (sub : Same F H) {x : V} {d : D} (h : VRep X.K F H x d) {u : Value} (r : RelV x u) : ∃ as, Reads s.heap u d as ∧ NoSys s.heap as := by
  cases h with
  | p h => exact Rep.readsN I sub h u r
  | r h q =>
    cases r
    obtain ⟨its, rv, ⟨o, n, ho, hc, _, hd⟩, _⟩ := I.list (SqL.of h)
    obtain ⟨as, hr, hn⟩ := Reps.readsN I sub q its rv
    refine ⟨_, Reads.list ho hc hd hr, fun a m o' es k e1 e2 => ?_⟩
    rcases List.mem_cons.mp m with e | m
    · subst e
      rw [ho] at e1
      cases e1
      rw [hd] at e2
      cases e2
    · exact hn a m o' es k e1 e2
end
end MS

-- MsBi
/-! Built-ins, subscripts, slices, truth, isinstance, by values. -/
namespace MS
open PySem PySem.Spec PyProof.Rows L2

section
variable {K : PySem.W.Frag} {F H : Hp}
theorem tru_of {x : V} {d : D} {k : Bool} (sub : Same F H) (h : VRep K F H x d) (e : truthD d = some k) : TruV K x H k := by
  cases d with
  | none => cases h.non; cases e; rfl
  | bool b => cases h.bl; cases e; rfl
  | int i => cases h.int; cases e; rfl
  | str y =>
    cases h.str
    simp only [truthD] at e
    split at e
    · rename_i hz
      cases e
      refine ⟨by rw [← sLine_eq]; exact hz, ?_⟩
      rw [Bool.eq_iff_iff]; simp
    · cases e
  | list ds =>
    obtain ⟨a, xs, rfl, h1, r⟩ := h.list sub
    cases e
    refine .inl ⟨xs, SqL.of h1, ?_⟩
    cases r <;> rfl
  | tuple ds =>
    obtain ⟨a, xs, rfl, h1, _, r⟩ := h.tuple sub
    cases e
    refine .inr (.inl ⟨xs, h1, ?_⟩)
    cases r <;> rfl
  | dict kvs => cases e
theorem allB_some : ∀ {ds : List D} {bs : List Bool}, allB ds = some bs → ds = bs.map PyData.bool
  | [], bs, e => by simp [allB] at e; subst e; rfl
  | .bool b :: r, bs, e => by
    simp only [allB] at e
    cases q : allB r with
    | none => rw [q] at e; cases e
    | some cs => rw [q] at e; simp at e; subst e; rw [allB_some q]; rfl
  | .none :: _, _, e => by simp [allB] at e
  | .int _ :: _, _, e => by simp [allB] at e
  | .str _ :: _, _, e => by simp [allB] at e
  | .list _ :: _, _, e => by simp [allB] at e
  | .tuple _ :: _, _, e => by simp [allB] at e
  | .dict _ :: _, _, e => by simp [allB] at e
theorem allI_some : ∀ {ds : List D} {bs : List Int}, allI ds = some bs → ds = bs.map PyData.int
  | [], bs, e => by simp [allI] at e; subst e; rfl
  | .int b :: r, bs, e => by
    simp only [allI] at e
    cases q : allI r with
    | none => rw [q] at e; cases e
    | some cs => rw [q] at e; simp at e; subst e; rw [allI_some q]; rfl
  | .none :: _, _, e => by simp [allI] at e
  | .bool _ :: _, _, e => by simp [allI] at e
  | .str _ :: _, _, e => by simp [allI] at e
  | .list _ :: _, _, e => by simp [allI] at e
  | .tuple _ :: _, _, e => by simp [allI] at e
  | .dict _ :: _, _, e => by simp [allI] at e
end

/-! ### built-in functions of one argument -/
def biName : Bi → Str
  | .len => "len" | .all => "all" | .any => "any" | .sum => "sum" | .int => "int" | .tuple => "tuple" | .list => "list" | .sorted => "sorted" | .dict => "dict" | .abs => "abs" | .str => "str" | .repr => "repr" | .min => "min" | .max => "max"
def biVal : Bi → Value
  | .len => .builtin "len" | .all => .builtin "all" | .any => .builtin "any" | .sum => .builtin "sum" | .int => .type "int" | .tuple => .type "tuple" | .list => .type "list" | .sorted => .builtin "sorted" | .dict => .type "dict" | .abs => .builtin "abs"
  | .str => .type "str" | .repr => .builtin "repr" | .min => .builtin "min" | .max => .builtin "max"
def rBi (K : PySem.W.Frag) (b : Bi) : List V → Hp → VK → Prop := fun vs H Q => ∃ F x a c, vs = [x] ∧ Same F H ∧ VRep K F H x a ∧ biD b a = some c ∧ ∀ z F' H', Grow F H F' H' → Rep K F' z c → Q z H'
theorem bi_boot (b : Bi) : bootBuiltins (biName b) = some (biVal b) := by
  cases b <;> decide +kernel
section
variable {X : Cx}
theorem fold_max : ∀ (ns : List Int) (n : Int), (ns.foldl (fun a b => if a < b then b else a) n = n ∨ ns.foldl (fun a b => if a < b then b else a) n ∈ ns) ∧ n ≤ ns.foldl (fun a b => if a < b then b else a) n ∧ ∀ y ∈ ns, y ≤ ns.foldl (fun a b => if a < b then b else a) n
  | [], n => by simp
  | m :: ns, n => by
    rw [List.foldl_cons]
    obtain ⟨h1, h2, h3⟩ := fold_max ns (if n < m then m else n)
    generalize ns.foldl (fun a b => if a < b then b else a) (if n < m then m else n) = r at h1 h2 h3
    refine ⟨?_, ?_, fun y hy => ?_⟩
    · rcases h1 with h1 | h1
      · split at h1
        · exact .inr (by rw [h1]; simp)
        · exact .inl h1
      · exact .inr (by simp [h1])
    · split at h2 <;> omega
    · rcases List.mem_cons.mp hy with rfl | hy
      · split at h2 <;> omega
      · exact h3 y hy
theorem fold_min : ∀ (ns : List Int) (n : Int), (ns.foldl (fun a b => if b < a then b else a) n = n ∨ ns.foldl (fun a b => if b < a then b else a) n ∈ ns) ∧ ns.foldl (fun a b => if b < a then b else a) n ≤ n ∧ ∀ y ∈ ns, ns.foldl (fun a b => if b < a then b else a) n ≤ y
  | [], n => by simp
  | m :: ns, n => by
    rw [List.foldl_cons]
    obtain ⟨h1, h2, h3⟩ := fold_min ns (if m < n then m else n)
    generalize ns.foldl (fun a b => if b < a then b else a) (if m < n then m else n) = r at h1 h2 h3
    refine ⟨?_, ?_, fun y hy => ?_⟩
    · rcases h1 with h1 | h1
      · split at h1
        · exact .inr (by rw [h1]; simp)
        · exact .inl h1
      · exact .inr (by simp [h1])
    · split at h2 <;> omega
    · rcases List.mem_cons.mp hy with rfl | hy
      · split at h2 <;> omega
      · exact h3 y hy
theorem maxI_ok {ns : List Int} {n : Int} (h : maxI ns = some n) : 0 < ns.length ∧ n ∈ ns ∧ ∀ y ∈ ns, y ≤ n := by
  cases ns with
  | nil => cases h
  | cons m ns =>
    cases h
    obtain ⟨h1, h2, h3⟩ := fold_max ns m
    refine ⟨by simp, ?_, fun y hy => ?_⟩
    · rcases h1 with h1 | h1
      · rw [h1]; simp
      · exact List.mem_cons_of_mem _ h1
    · rcases List.mem_cons.mp hy with rfl | hy
      · exact h2
      · exact h3 y hy
theorem minI_ok {ns : List Int} {n : Int} (h : minI ns = some n) : 0 < ns.length ∧ n ∈ ns ∧ ∀ y ∈ ns, n ≤ y := by
  cases ns with
  | nil => cases h
  | cons m ns =>
    cases h
    obtain ⟨h1, h2, h3⟩ := fold_min ns m
    refine ⟨by simp, ?_, fun y hy => ?_⟩
    · rcases h1 with h1 | h1
      · rw [h1]; simp
      · exact List.mem_cons_of_mem _ h1
    · rcases List.mem_cons.mp hy with rfl | hy
      · exact h2
      · exact h3 y hy
theorem min_at {prog : Program} {w : World} {A : Around} {E : Value → Shared → Prop} {s : Shared} {l : Addr} {vs : Array Value} {x : PyData} {xs : List PyData} {as : List Addr} {Q : Value → Shared → Prop} (hh : A.handled = none) (hl : s.heap.IsList l vs) (hr : ReadsAll s.heap vs.toList (x :: xs) as) (ha : PySem.W.AlikeAll (x :: xs)) (hu : A.units + 1 + PyData.depthAll (x :: xs) < cLine)
    (h : ∀ (i : Nat) v h' tk, vs[i]? = some v → (x :: xs).getD i .none = PySem.W.minD x xs → (∀ b o, s.heap.get? b = some o → h'.get? b = some o) → Q v { s with heap := h', toks := tk }) :
    wpAny (model prog w) A (call (.builtin "min") [.ref l]) Q E s := by
  have hn : vs.size = xs.length + 1 := PySem.W.readsAll_len hr
  refine call_min_walkH (PySem.W.iter_listW (A := A.in1) hh hl fun s₂ e W st hfp hw hk => ?_)
  refine ⟨_, _, _, _, _, _, _, s.heap, _, rfl, W, st, hfp, by omega, hw, hk, PySem.W.cmpIn_lt (A := A.in1) hr ha (by show A.units + 1 + _ < _; exact hu), fun v s' hP m => ?_⟩
  obtain ⟨h', tk, rfl, hk'⟩ := PySem.W.moved_old e rfl m
  have e1 : vs.size - 1 = xs.length := by omega
  have e2 := (PySem.W.argBest_fold PySem.W.dataLt PyData.none x xs xs.length (Nat.le_refl _)).2
  rw [List.take_length] at e2
  rw [e1] at hP
  exact h _ v h' tk hP e2 hk'
theorem max_at {prog : Program} {w : World} {A : Around} {E : Value → Shared → Prop} {s : Shared} {l : Addr} {vs : Array Value} {x : PyData} {xs : List PyData} {as : List Addr} {Q : Value → Shared → Prop} (hh : A.handled = none) (hl : s.heap.IsTuple l vs) (hr : ReadsAll s.heap vs.toList (x :: xs) as) (ha : PySem.W.AlikeAll (x :: xs)) (hu : A.units + 1 + PyData.depthAll (x :: xs) < cLine)
    (h : ∀ (i : Nat) v h' tk, vs[i]? = some v → (x :: xs).getD i .none = PySem.W.maxD x xs → (∀ b o, s.heap.get? b = some o → h'.get? b = some o) → Q v { s with heap := h', toks := tk }) :
    wpAny (model prog w) A (call (.builtin "max") [.ref l]) Q E s := by
  have hn : vs.size = xs.length + 1 := PySem.W.readsAll_len hr
  refine call_max_walkH (PySem.W.iter_tupleW (A := A.in1) hh hl fun s₂ e W st hfp hw hk => ?_)
  refine ⟨_, _, _, _, _, _, _, s.heap, _, rfl, W, st, hfp, by omega, hw, hk, PySem.W.cmpIn_gt (A := A.in1) hr ha (by show A.units + 1 + _ < _; exact hu), fun v s' hP m => ?_⟩
  obtain ⟨h', tk, rfl, hk'⟩ := PySem.W.moved_old e rfl m
  have e1 : vs.size - 1 = xs.length := by omega
  have e2 := (PySem.W.argBest_fold (fun a b => PySem.W.dataLt b a) PyData.none x xs xs.length (Nat.le_refl _)).2
  rw [List.take_length] at e2
  rw [e1] at hP
  exact h _ v h' tk hP e2 hk'
theorem maxD_ints : ∀ (ns : List Int) (n : Int), PySem.W.maxD (.int n) (ns.map PyData.int) = .int (ns.foldl (fun a b => if a < b then b else a) n)
  | [], _ => rfl
  | m :: ns, n => by
    have ih := maxD_ints ns (if n < m then m else n)
    unfold PySem.W.maxD at ih ⊢
    rw [List.map_cons, List.foldl_cons, List.foldl_cons, ← ih, PySem.W.dataLt_int]
    by_cases h : n < m <;> simp [h]
theorem reps_at {K : PySem.W.Frag} {F : Hp} : ∀ {xs : List V} {ds : List D} {us : List Value}, Reps K F xs ds → Vals xs us → ∀ (i : Nat) (v : Value), us[i]? = some v → ∃ y, RelV y v ∧ Rep K F y (ds.getD i .none)
  | _, _, _, .nil, .nil, i, v, h => by simp at h
  | _, _, _, .cons h r, .cons q t, 0, v, e => by
    have e := Option.some.inj (show some _ = some v from e)
    subst e
    exact ⟨_, q, h⟩
  | _, _, _, .cons h r, .cons q t, i + 1, v, e => by
    obtain ⟨y, a, b⟩ := reps_at r t i v (by simpa using e)
    exact ⟨y, a, by simpa using b⟩
theorem call_bi (b : Bi) (hc : X.calm = true) (hgu : b = .repr ∨ b = .min ∨ b = .max → X.A.guards = some [] ∧ X.A.units + 65 < cLine) : CallR X (biVal b) (rBi X.K b) := by
  intro pins s σ H vs us Q I r ⟨F, x, a, c, e0, sub, ha, e, q⟩
  subst e0
  have qs : ∀ z, Rep X.K F z c → Q z H := fun z r => q z F H (.inl ⟨rfl, rfl⟩) r
  unfold biD at e
  split at e
  · cases q0 : lenD a with
    | none => rw [q0] at e; cases e
    | some n =>
      rw [q0] at e
      cases e
      refine call_len pins s σ H _ us Q I r ⟨x, n, rfl, ?_, qs _ (.int _)⟩
      unfold lenD at q0
      split at q0
      · cases q0
        obtain ⟨l, xs', rfl, h1, r1⟩ := ha.list sub
        exact .inl ⟨_, SqL.of h1, r1.length.symm⟩
      · cases q0
        obtain ⟨l, xs', rfl, h1, _, r1⟩ := ha.tuple sub
        exact .inr ⟨_, h1, r1.length.symm⟩
      · split at q0
        · cases q0
          cases ha.str
          exact ⟨by rw [← sLine_eq]; assumption, rfl⟩
        · cases q0
      · cases q0
  · rename_i xs
    cases q0 : allB xs with
    | none => rw [q0] at e; cases e
    | some bs =>
      rw [q0] at e
      cases e
      rw [allB_some q0] at ha
      obtain ⟨l, xs', rfl, h1, r1⟩ := ha.list sub
      rw [r1.bools] at h1
      exact cr_all hc pins s σ H _ us Q I r ⟨_, bs, rfl, SqL.of h1, qs _ (.bl _)⟩
  · rename_i xs
    cases q0 : allB xs with
    | none => rw [q0] at e; cases e
    | some bs =>
      rw [q0] at e
      cases e
      rw [allB_some q0] at ha
      obtain ⟨l, xs', rfl, h1, r1⟩ := ha.list sub
      rw [r1.bools] at h1
      exact cr_any hc pins s σ H _ us Q I r ⟨_, bs, rfl, SqL.of h1, qs _ (.bl _)⟩
  · rename_i xs
    cases q0 : allI xs with
    | none => rw [q0] at e; cases e
    | some bs =>
      rw [q0] at e
      cases e
      rw [allI_some q0] at ha
      obtain ⟨l, xs', rfl, h1, r1⟩ := ha.list sub
      rw [r1.ints] at h1
      exact cr_sum hc pins s σ H _ us Q I r ⟨_, bs, rfl, SqL.of h1, qs _ (.int _)⟩
  · cases e
    cases ha.int
    exact call_int1 pins s σ H _ us Q I r (.inl ⟨_, rfl, qs _ (.int _)⟩)
  · cases e
    cases ha.bl
    exact call_int1 pins s σ H _ us Q I r (.inr ⟨_, rfl, qs _ (.int _)⟩)
  · cases e
    obtain ⟨l, xs', rfl, h1, r1⟩ := ha.list sub
    exact call_tuple_of pins s σ H _ us Q I r ⟨_, _, rfl, .inl ⟨SqL.of h1, fun p hp => fresh_tup sub r1 q hp⟩⟩
  · cases e
    obtain ⟨l, xs', rfl, h1, h1F, r1⟩ := ha.tuple sub
    exact call_tuple_of pins s σ H _ us Q I r ⟨_, _, rfl, .inr ⟨h1, qs _ (.tup h1F r1)⟩⟩
  · cases e
    obtain ⟨l, xs', rfl, h1, r1⟩ := ha.list sub
    exact call_list_of pins s σ H _ us Q I r ⟨_, _, rfl, .inl (SqL.of h1), fun p hp => fresh_lst sub r1 q hp⟩
  · cases e
    obtain ⟨l, xs', rfl, h1, h1F, r1⟩ := ha.tuple sub
    exact call_list_of pins s σ H _ us Q I r ⟨_, _, rfl, .inr h1, fun p hp => fresh_lst sub r1 q hp⟩
  · cases e
    cases ha.int
    exact call_abs pins s σ H _ us Q I r ⟨_, rfl, qs _ (.int _)⟩
  · split at e
    · rename_i ok
      cases e
      obtain ⟨hg1, hg2⟩ := hgu (.inl rfl)
      unfold reprOk at ok
      simp only [Bool.and_eq_true, decide_eq_true_eq] at ok
      obtain ⟨⟨o2, o4⟩, o5⟩ := ok
      cases r with
      | cons rx rn =>
        cases rn
        obtain ⟨as, hr, hns⟩ := ha.readsN I sub rx
        exact repr_any hr o2 hns (by rw [← sLine_eq]; exact o5) hg1 (by omega) (fun h' tk1 tk hk => ⟨.str _, H, I.kept (t' := tk) hk, ⟨_, rfl⟩, qs _ (.str _)⟩)
    · cases e
  · rename_i xs
    cases q0 : allI xs with
    | none => rw [q0] at e; cases e
    | some ns =>
      rw [q0, Option.bind_some] at e
      cases q1 : maxI ns with
      | none => rw [q1] at e; cases e
      | some n =>
        rw [q1] at e
        cases e
        rw [allI_some q0] at ha
        obtain ⟨l, xs', rfl, h1, r1⟩ := ha.list sub
        rw [r1.ints] at h1
        obtain ⟨m1, m2, m3⟩ := maxI_ok q1
        refine cr_max hc pins s σ H _ us Q I r ⟨_, ns, rfl, SqL.of h1, m1, fun m g1 g2 => ?_⟩
        have : m = n := Int.le_antisymm (m3 m g1) (g2 n m2)
        rw [this]; exact qs _ (.int _)
  · rename_i xs
    cases q0 : allI xs with
    | none => rw [q0] at e; cases e
    | some ns =>
      rw [q0, Option.bind_some] at e
      cases ns with
      | nil => cases e
      | cons n0 ns =>
        cases e
        rw [allI_some q0] at ha
        obtain ⟨l, xs', rfl, h1, h1F, r1⟩ := ha.tuple sub
        obtain ⟨its, rv, hl, _⟩ := I.tuple h1
        rw [Vals.ref1 r]
        obtain ⟨as, ra⟩ := Reps.reads I sub r1 its rv
        have hu := (hgu (.inr (.inr rfl))).2
        have hdp : ∀ l : List Int, PyData.depthAll (l.map PyData.int) ≤ 1 := fun l => by
          induction l with
          | nil => simp [PyData.depthAll]
          | cons a l ih => simp only [List.map_cons, PyData.depthAll, PyData.depth]; omega
        have hd := hdp (n0 :: ns)
        rw [List.map_cons] at hd ra
        refine max_at (A := X.A) (vs := its.toArray) (I.ok.hd hc) hl (by simpa using ra) ⟨fun a ha b hb => ?_, fun a ha z => ?_⟩ (by omega) fun i v h' tk hv ei hk => ?_
        · obtain ⟨y, _, rfl⟩ := List.mem_map.mp (show a ∈ (n0 :: ns).map PyData.int from ha)
          obtain ⟨z, _, rfl⟩ := List.mem_map.mp (show b ∈ (n0 :: ns).map PyData.int from hb)
          rfl
        · obtain ⟨y, _, e⟩ := List.mem_map.mp (show a ∈ (n0 :: ns).map PyData.int from ha)
          rw [← e] at z; cases z
        · obtain ⟨y, ry, hy⟩ := reps_at r1 rv i v (by simpa using hv)
          rw [List.map_cons, ei, maxD_ints] at hy
          exact ⟨y, H, I.kept hk, ry, qs _ hy⟩
  · rename_i xs
    cases q1 : (allI xs).bind fun ns => (minI ns).map fun n => PyData.int n with
    | none =>
      rw [q1, Option.none_or] at e
      obtain ⟨l, xs', rfl, h1, r1⟩ := ha.list sub
      cases xs with
      | nil => cases e
      | cons x xs =>
        simp only [minX] at e
        split at e
        · rename_i ok
          cases e
          unfold minOk at ok
          simp only [Bool.and_eq_true, List.all_eq_true, decide_eq_true_eq] at ok
          obtain ⟨⟨o1, o2⟩, o3⟩ := ok
          obtain ⟨its, rv, hl, _⟩ := I.list (SqL.of h1)
          rw [Vals.ref1 r]
          obtain ⟨as, ra⟩ := Reps.reads I sub r1 its rv
          have hu := (hgu (.inr (.inl rfl))).2
          refine min_at (A := X.A) (vs := its.toArray) (I.ok.hd hc) hl.isList (by simpa using ra) ⟨fun a ha b hb => o1 a ha b hb, fun a ha z => ?_⟩ (by omega) fun i v h' tk hv ei hk => ?_
          · subst z
            exact absurd (o2 _ ha) (by simp)
          · obtain ⟨y, ry, hy⟩ := reps_at r1 rv i v (by simpa using hv)
            exact ⟨y, H, I.kept hk, ry, qs _ (by rw [← ei]; exact hy)⟩
        · cases e
    | some d =>
      rw [q1, Option.some_or] at e
      cases e
      cases q0 : allI xs with
      | none => rw [q0] at q1; cases q1
      | some ns =>
        rw [q0, Option.bind_some] at q1
        cases q2 : minI ns with
        | none => rw [q2] at q1; cases q1
        | some n =>
          rw [q2] at q1
          cases q1
          rw [allI_some q0] at ha
          obtain ⟨l, xs', rfl, h1, r1⟩ := ha.list sub
          rw [r1.ints] at h1
          obtain ⟨m1, m2, m3⟩ := minI_ok q2
          refine cr_min hc pins s σ H _ us Q I r ⟨_, ns, rfl, SqL.of h1, m1, fun m g1 g2 => ?_⟩
          have : m = n := Int.le_antisymm (g2 n m2) (m3 m g1)
          rw [this]; exact qs _ (.int _)
  · cases e
/-- len of the script -/
theorem call_lenS : CallR X (.builtin "len") (fun vs H Q => ∃ (a : Addr) (xs : List V), vs = [.ref a] ∧ SqL X.K H a xs ∧ Q (.int xs.length) H) := by
  intro pins s σ H vs us Q I r ⟨a, xs, e0, h, q⟩
  subst e0
  exact call_len_seq pins s σ H _ us Q I r ⟨a, _, rfl, .inl h, q⟩

/-! ### subscripts -/
theorem ixOf_eq (n : Nat) (i : Int) : ixOf n i = ixN n i := rfl
theorem atD_rep {K : PySem.W.Frag} {F : Hp} {xs : List V} {ds : List D} {i : Int} {d : D} (r : Reps K F xs ds) (e : atD ds i = some d) : ∃ x, atI xs i = some x ∧ Rep K F x d := by
  unfold atD at e
  unfold atI
  rw [r.length, ← ixOf_eq]
  cases q : ixOf ds.length i with
  | none => rw [q] at e; cases e
  | some j =>
    rw [q] at e
    exact r.get e
theorem atD_repV {K : PySem.W.Frag} {fa : FA} {F : Hp} {ρ : Nat → Addr} {n : Nat} {xs : List V} {ds : List Val} {i : Int} {d : Val} (r : RepVs K fa F ρ n xs ds) (e : atD ds i = some d) : ∃ x, atI xs i = some x ∧ RepV K fa F ρ n x d := by
  unfold atD at e
  unfold atI
  rw [r.length, ← ixOf_eq]
  cases q : ixOf ds.length i with
  | none => rw [q] at e; cases e
  | some j =>
    rw [q] at e
    exact r.get e
theorem atD_ints {ns : List Int} {i n : Int} (e : atD ns i = some n) : atI (ns.map V.int) i = some (.int n) := by
  unfold atD at e
  unfold atI
  rw [List.length_map, ← ixOf_eq]
  cases q : ixOf ns.length i with
  | none => rw [q] at e; cases e
  | some j =>
    rw [q] at e
    have e' : ns[j]? = some n := e
    show (ns.map V.int)[j]? = _
    rw [List.getElem?_map, e']; rfl
def rIxV (K : PySem.W.Frag) (fa : FA) : R2 := fun x y H Q => ∃ F ρ S v i w, Sim K fa F H ρ S ∧ RepV K fa F ρ S.length x v ∧ y = .int i ∧ ixV S v (.int i) = some w ∧ ∀ z, RepV K fa F ρ S.length z w → Q z H
theorem ix_V (fa : FA) : IxR X (rIxV X.K fa) := by
  intro value slice pins s σ H x y v u Q I rx ry ⟨F, ρ, S, vv, i, w, sim, r, e0, e, q⟩ hs
  subst e0
  have go : rIx X.K x (.int i) H Q := by
    cases vv with
    | fn _ => simp [ixV] at e
    | exn _ => exact (show False from r).elim
    | scr ns =>
      obtain ⟨a, rfl, h⟩ := r
      simp only [ixV] at e
      cases q0 : atD ns i with
      | none => rw [q0] at e; cases e
      | some n =>
        rw [q0] at e
        cases e
        exact .inl ⟨a, _, i, _, rfl, rfl, sim.sub.seq h, atD_ints q0, q _ (.int _)⟩
    | ref n =>
      obtain ⟨h1, rfl⟩ := r
      simp only [ixV] at e
      cases q0 : stGet S n with
      | none => rw [q0] at e; cases e
      | some o =>
        rw [q0] at e
        cases o with
        | dct _ => cases e
        | kv _ _ => cases e
        | lst vs =>
          obtain ⟨ho, h2, r2⟩ := sim.obj n _ q0
          cases r2 with
          | lst r2 =>
            obtain ⟨z, hz, rz⟩ := atD_repV r2 e
            exact .inl ⟨_, _, i, _, rfl, rfl, SqL.of h2, hz, q _ rz⟩
    | d d =>
      simp only [ixV] at e
      cases q0 : ixD d (.int i) with
      | none => rw [q0] at e; cases e
      | some c =>
        rw [q0] at e
        cases e
        have r' : VRep X.K F H x d := .p r
        unfold ixD at q0
        split at q0
        · rename_i h
          injection h with h; subst h
          obtain ⟨l, xs', rfl, h1, r1⟩ := r'.list sim.sub
          obtain ⟨z, hz, rz⟩ := atD_rep r1 q0
          exact .inl ⟨_, _, _, _, rfl, rfl, SqL.of h1, hz, q _ rz⟩
        · rename_i h
          injection h with h; subst h
          obtain ⟨l, xs', rfl, h1, _, r1⟩ := r'.tuple sim.sub
          obtain ⟨z, hz, rz⟩ := atD_rep r1 q0
          exact .inr (.inl ⟨_, _, _, _, rfl, rfl, h1, hz, q _ rz⟩)
        · rename_i z j h
          injection h with h; subst h
          split at q0
          · rename_i hl
            cases r'.str
            cases q1 : atD z.cps.toList i with
            | none => rw [q1] at q0; cases q0
            | some cc =>
              rw [q1] at q0
              cases q0
              exact .inr (.inr ⟨z, i, cc, rfl, rfl, by rw [← sLine_eq]; exact hl, q1, q _ (.str _)⟩)
          · cases q0
        · cases q0
  exact ix_seq value slice pins s σ H x (.int i) v u Q I rx ry go hs

/-! ### slices -/
theorem sIx_eq (n d : Nat) (o : Option Int) : sIx n d o = HT.sIx n d o := by cases o <;> rfl
theorem cut_rep {K : PySem.W.Frag} {F : Hp} {xs : List V} {ds : List D} (r : Reps K F xs ds) (lo hi : Option Int) : Reps K F (cutV xs lo hi) (cut ds lo hi) := by
  unfold cutV cut
  rw [r.length, sIx_eq, sIx_eq]
  exact (r.drop _).take _
theorem cut_ints (ns : List Int) (lo hi : Option Int) : cutV (ns.map V.int) lo hi = (cut ns lo hi).map V.int := by
  unfold cutV cut
  rw [List.length_map, sIx_eq, sIx_eq, ← List.map_drop, ← List.map_take]
def rSlV (K : PySem.W.Frag) (fa : FA) : V → Option Int → Option Int → Hp → VK → Prop := fun x lo hi H Q => ∃ F ρ S v c, Sim K fa F H ρ S ∧ RepV K fa F ρ S.length x v ∧ slV S v lo hi = some c ∧ ∀ z F' H', Grow F H F' H' → Rep K F' z c → Q z H'
theorem sl_V (fa : FA) : SlR X (rSlV X.K fa) := by
  intro pins s σ H x v vl vu lo hi sl Q I rx hs pl pu ⟨F, ρ, S, vv, c, sim, r, e, q⟩
  have qs : ∀ z, Rep X.K F z c → Q z H := fun z r => q z F H (.inl ⟨rfl, rfl⟩) r
  cases hv : vv with
  | scr ns =>
    subst hv
    obtain ⟨a, rfl, h⟩ := r
    simp only [slV] at e
    cases e
    refine sl_list pins s σ H _ v vl vu lo hi sl Q I rx hs pl pu ⟨a, _, rfl, sim.sub.seq h, fun p hp => ?_⟩
    rw [cut_ints]
    exact fresh_lst sim.sub (Reps.of_ints _) q hp
  | _ =>
    all_goals
      have e' : ((view S vv).bind fun x => slD x lo hi) = some c := by rw [hv] at e ⊢; exact e
      cases q0 : view S vv with
      | none => rw [q0] at e'; cases e'
      | some d =>
        rw [q0] at e'
        have e2 : slD d lo hi = some c := e'
        have r' := sim.view r q0
        unfold slD at e2
        split at e2
        · cases e2
          obtain ⟨l, xs', rfl, h1, r1⟩ := r'.list sim.sub
          exact sl_list pins s σ H _ v vl vu lo hi sl Q I rx hs pl pu ⟨_, _, rfl, SqL.of h1, fun p hp => fresh_lst sim.sub (cut_rep r1 _ _) q hp⟩
        · cases e2
          obtain ⟨l, xs', rfl, h1, h1F, r1⟩ := r'.tuple sim.sub
          refine sl_tupA pins s σ H _ v vl vu lo hi sl Q I rx hs pl pu ⟨_, _, rfl, h1, fun hw => ?_, fun _ p hp => fresh_tup sim.sub (cut_rep r1 _ _) q hp⟩
          have ew : cut _ lo hi = _ := show cut (_ : List D) lo hi = _ from by
            unfold cut
            rw [sIx_eq, sIx_eq, ← r1.length, hw.1, hw.2, List.drop_zero, r1.length, Nat.sub_zero, List.take_length]
          rw [ew] at qs
          exact qs _ (.tup h1F r1)
        · split at e2
          · rename_i hl
            cases e2
            cases r'.str
            refine sl_str pins s σ H _ v vl vu lo hi sl Q I rx hs pl pu ⟨_, rfl, by rw [← sLine_eq]; exact hl, ?_⟩
            refine qs _ ?_
            exact .str _
          · cases e2
        · cases e2

/-! ### isinstance -/
def tyV1 : Ty → V
  | .int => .ty "int" | .bool => .ty "bool" | .tuple => .ty "tuple" | .list => .ty "list" | .str => .ty "str" | .dict => .ty "dict"
def tyN : Ty → String
  | .int => "int" | .bool => "bool" | .tuple => "tuple" | .list => "list" | .str => "str" | .dict => "dict"
def dTy : D → String
  | .none => "NoneType" | .bool _ => "bool" | .int _ => "int" | .str _ => "str" | .list _ => "list" | .tuple _ => "tuple" | .dict _ => "dict"
theorem tyx_of {K : PySem.W.Frag} {F H : Hp} {x : V} {d : D} (sub : Same F H) (h : VRep K F H x d) : TyY K H x (.type (dTy d)) := by
  cases d with
  | none => cases h.non; exact .inl <| .base .non
  | bool b => cases h.bl; exact .inl <| .base (.bl _)
  | int i => cases h.int; exact .inl <| .base (.int _)
  | str y => cases h.str; exact .inl <| .base (.str _)
  | list ds =>
    obtain ⟨a, xs, rfl, h1, r⟩ := h.list sub
    exact .inl <| .base (.lst h1)
  | tuple ds =>
    obtain ⟨a, xs, rfl, h1, _, r⟩ := h.tuple sub
    rcases h1 with (h1 | ⟨o, h1⟩) | ⟨o, its, n, h1, h2, _⟩
    · exact .inl <| .base (.tup h1)
    · exact .inl <| .fTuple h1
    · exact .inl <| .kTuple h1 h2
  | dict kvs =>
    exact h.dict sub
theorem kit_D (K : PySem.W.Frag) (t : Ty) (d : D) : PySem.W.kitOne K (.type (dTy d)) (.type (tyN t)) = some (isTy t d) := by
  cases t <;> cases d <;> (simp only [dTy, tyN, isTy]; exact kit_ty (by decide +kernel))
end
end MS

-- MsExpr
/-! Expressions: one lemma a construct. -/
namespace MS
open PySem PySem.Spec PyProof.Rows L2

/-! ### what the check asks of the syntax -/
def noStar : Expr → Bool
  | .Starred .. => false
  | _ => true
theorem starEach_cons {e : Expr} (h : noStar e = true) (es : List Expr) (env : PySem.Env) : starEach (e :: es) env = (false, eval e env) :: starEach es env := by
  cases e <;> first | rfl | (simp [noStar] at h)
theorem starEach_plain : ∀ (es : List Expr) (env : PySem.Env) (pos : Pos), es.all noStar = true → (backTo pos (starEach es env)).any (·.1) = false
  | [], _, _, _ => rfl
  | e :: es, env, pos, h => by
    rw [List.all_cons, Bool.and_eq_true] at h
    rw [starEach_cons h.1]
    have := starEach_plain es env pos h.2
    unfold backTo at this ⊢
    rw [List.map_cons, List.any_cons, this]; rfl
/-- heads at which a test is the value's truth -/
def plainTest : Expr → Bool
  | .UnaryOp .Not _ _ => false
  | .BoolOp .. => false
  | .IfExp .. => false
  | .Compare .. => false
  | _ => true
theorem plainTest_ok {e : Expr} (h : plainTest e = true) (env : PySem.Env) (whole : Sem Value) : isTrue e env whole = (do let v ← whole; standAt e.pos; holding [v] (truthy v)) := by
  cases e with
  | UnaryOp op x p => cases op <;> first | rfl | (simp [plainTest] at h)
  | BoolOp _ _ _ => simp [plainTest] at h
  | IfExp _ _ _ _ => simp [plainTest] at h
  | Compare _ _ _ _ => simp [plainTest] at h
  | _ => rfl
def noSlice : Expr → Bool
  | .Slice .. => false
  | _ => true
theorem noSlice_ok {e : Expr} (h : noSlice e = true) : PlainIx e := fun o i => by
  cases e <;> first | rfl | (simp [noSlice] at h)
def noSet : Expr → Bool
  | .Set .. => false
  | _ => true
theorem noSet_ok {e : Expr} (h : noSet e = true) (op : CmpOp) : behindInMarks op e = false := by
  cases e <;> first | rfl | (simp [noSet] at h)
theorem noSet_iter {e : Expr} (h : noSet e = true) (env : PySem.Env) (x : Value) : foldedSetIterable e env x = pure x := by
  cases e <;> first | rfl | (simp [noSet] at h)
def noComp : Expr → Bool
  | .ListComp .. | .SetComp .. | .DictComp .. => false
  | _ => true
theorem noComp_ok {e : Expr} (h : noComp e = true) (t : Option Expr) (n : Nat) (env : PySem.Env) : swapsWith e t n env = pure false := by
  cases e <;> first | rfl | (simp [noComp] at h)

/-! ### the judgements -/
structure SimE (fa : FA) (X : Cx) (pe : Expr) (m : M Val) : Prop where
  run : ∀ W, Takes X W → PE X pe (rdE X.K fa W m)
structure SimT (fa : FA) (X : Cx) (pe : Expr) (m : M Bool) : Prop where
  run : ∀ W, Takes X W → PT X pe (rdT X.K fa W m)
structure SimA (fa : FA) (X : Cx) (pes : List Expr) (m : M (List Val)) : Prop where
  run : ∀ W, Takes X W → PA X pes (rdA X.K fa W m)

def tru (m : M Val) : M Bool := fun env S => (m env S).bind fun v S1 => .ofO (truthV S1 v) S1
section
variable {fa : FA} {X : Cx} {pe a b c : Expr} {m ma mb mc : M Val} {pos : Pos}
theorem truV_of {F H : Hp} {ρ : Nat → Addr} {S : Sto} {x : V} {v : Val} {k : Bool} (s : Sim X.K fa F H ρ S) (r : RepV X.K fa F ρ S.length x v) (e : truthV S v = some k) : TruV X.K x H k := by
  unfold truthV at e
  cases q : view S v with
  | none => rw [q] at e; cases e
  | some d =>
    rw [q] at e
    exact tru_of s.sub (s.view r q) e
theorem SimT.of_E (h : SimE fa X pe m) (hp : plainTest pe = true) : SimT fa X pe (tru m) := by
  refine ⟨fun W tk => PT.imp (pt_truth (h.run W tk) (plainTest_ok hp X.env)) fun σ H Q q => ?_⟩
  refine q.bind (rep := RepV X.K fa) fun env v S1 x F1 H1 ρ1 s1 e1 r1 p1 => ?_
  obtain ⟨k, ek, q2⟩ := p1.ofO
  exact ⟨k, truV_of s1 r1 ek, q2 k F1 H1 ρ1 s1 (Ext.refl ..) rfl⟩

theorem sm_var {i : Nat} {x : Str} (hN : X.N[i]? = some x) (hv : Vis X.env.scope x) (hd : (x == ("__debug__" : Str)) = false) (hcd : (x == ("__classdict__" : Str)) = false) : SimE fa X (.Name x pos) (fun env S => .ofO (lookE env i) S) := by
  refine ⟨fun W tk => PE.imp (pe_var hN hv hd hcd) fun σ H Q q => ?_⟩
  obtain ⟨env, S, F, ρ, s, e, p⟩ := q
  obtain ⟨v, ev, q2⟩ := p.ofO
  obtain ⟨z, hz, r⟩ := e.look i v ev
  exact ⟨z, hz, q2 z F H ρ s (Ext.refl ..) r⟩
/-- a constant -/
theorem sm_const {v : V} {d : D} (h : PE X pe (tC v)) (r : Rep X.K (fun _ => none) v d) : SimE fa X pe (fun _ S => .ok (.d d) S) := by
  refine ⟨fun W tk => PE.imp h fun σ H Q q => ?_⟩
  obtain ⟨env, S, F, ρ, s, e, p⟩ := q
  exact p v F H ρ s (Ext.refl ..) (Rep.mono (fun _ _ z => by cases z) r)

/-- two operands, then an operation by values -/
theorem rd_op2 {r : R2} {W : WX} {f : Sto → Val → Val → Option Val} {σ : L2.St} {H : Hp} {Q : VK}
    (hr : ∀ F H ρ S x y v u w, Sim X.K fa F H ρ S → RepV X.K fa F ρ S.length x v → RepV X.K fa F ρ S.length y u → f S v u = some w → (∀ z F' H', Sim X.K fa F' H' ρ S → Ext F H ρ S F' H' ρ S → RepV X.K fa F' ρ S.length z w → Q z H') → r x y H Q)
    (q : rdE X.K fa W (fun env S => (ma env S).bind fun x S1 => (mb env S1).bind fun y S2 => .ofO (f S2 x y) S2) σ H Q) : tOp r (rdE X.K fa W ma) (rdE X.K fa W mb) σ H Q := by
  refine q.bind (rep := RepV X.K fa) fun env v S1 x F1 H1 ρ1 s1 e1 r1 p1 => ?_
  refine rdG.mk s1 e1 (p1.bind fun u S2 y F2 H2 ρ2 s2 x2 r2 p2 => ?_)
  obtain ⟨w, ew, q2⟩ := p2.ofO
  exact hr F2 H2 ρ2 S2 x y v u w s2 (r1.mono x2.fz x2.rho x2.len) r2 ew fun z F' H' s' x' r' => q2 z F' H' ρ2 s' x' r'

def binV (o : BOp) (S : Sto) (x y : Val) : Option Val := ((view S x).bind fun x => (view S y).bind fun y => binD o x y).map Val.d
theorem sm_bin {o : BOp} (ha : SimE fa X a ma) (hb : SimE fa X b mb) : SimE fa X (.BinOp a (opOf o) b pos) (fun env S => (ma env S).bind fun x S1 => (mb env S1).bind fun y S2 => .ofO (binV o S2 x y) S2) := by
  refine ⟨fun W tk => PE.imp (pe_op (op_bin o) (ha.run W tk) (hb.run W tk)) fun σ H Q q => rd_op2 (fun F H ρ S x y v u w s r1 r2 e k => ?_) q⟩
  unfold binV at e
  cases q1 : view S v with
  | none => rw [q1] at e; cases e
  | some d1 =>
    cases q2 : view S u with
    | none => rw [q1, q2] at e; cases e
    | some d2 =>
      rw [q1, q2] at e
      cases q3 : binD o d1 d2 with
      | none => simp [q3] at e
      | some c =>
        simp [q3] at e
        subst e
        exact ⟨F, d1, d2, c, s.sub, s.view r1 q1, s.view r2 q2, q3, fun z F' H' g r => k z F' H' (s.of_grow g).1 (s.of_grow g).2 r⟩
def cmpV (o : COp) (S : Sto) (x y : Val) : Option Bool := (view S x).bind fun x => (view S y).bind fun y => cmpD o x y
theorem cmpV_r {o : COp} {F H : Hp} {ρ : Nat → Addr} {S : Sto} {x y : V} {v u : Val} {c : Bool} {Q : VK} (s : Sim X.K fa F H ρ S) (r1 : RepV X.K fa F ρ S.length x v) (r2 : RepV X.K fa F ρ S.length y u) (e : cmpV o S v u = some c) (q : Q (.bl c) H) : rCmp X.K o x y H Q := by
  unfold cmpV at e
  cases q1 : view S v with
  | none => rw [q1] at e; cases e
  | some d1 =>
    cases q2 : view S u with
    | none => rw [q1, q2] at e; cases e
    | some d2 =>
      rw [q1, q2] at e
      exact ⟨F, d1, d2, c, s.sub, s.view r1 q1, s.view r2 q2, e, q⟩
def mcmp (o : COp) (ma mb : M Val) : M Val := fun env S => (ma env S).bind fun x S1 => (mb env S1).bind fun y S2 => .ofO ((cmpV o S2 x y).map fun b => .d (.bool b)) S2
theorem rd_cmp {o : COp} {W : WX} {σ : L2.St} {H : Hp} {Q : VK} (q : rdE X.K fa W (mcmp o ma mb) σ H Q) : tOp (rCmp X.K o) (rdE X.K fa W ma) (rdE X.K fa W mb) σ H Q := by
  refine rd_op2 (f := fun S x y => (cmpV o S x y).map fun b => .d (.bool b)) (fun F H ρ S x y v u w s r1 r2 e k => ?_) q
  cases q1 : cmpV o S v u with
  | none => rw [q1] at e; cases e
  | some c =>
    rw [q1] at e
    cases e
    exact cmpV_r s r1 r2 q1 (k _ F H s (Ext.refl ..) (.bl c))
theorem sm_cmp {o : COp} (ha : SimE fa X a ma) (hb : SimE fa X b mb) (hu : X.A.units + 65 < cLine) (hm : noSet b = true) : SimE fa X (.Compare a [cmpOf o] [b] pos) (mcmp o ma mb) :=
  ⟨fun W tk => PE.imp (pe_cmpR (op_cmp o hu) (ha.run W tk) (hb.run W tk) (noSet_ok hm _)) fun σ H Q q => rd_cmp q⟩
/-- a test's reading from the value's, where the value is a bool -/
theorem rd_tru_bool {W : WX} {σ : L2.St} {H : Hp} {Q : Bool → Hp → Prop} (hb : ∀ env S v S', m env S = .ok v S' → ∃ k, v = .d (.bool k)) (q : rdT X.K fa W (tru m) σ H Q) : rdE X.K fa W m σ H (fun x H' => ∃ k, x = .bl k ∧ Q k H') := by
  obtain ⟨env, S, F, ρ, s, e, p⟩ := q
  refine ⟨env, S, F, ρ, s, e, ?_⟩
  unfold tru at p
  cases q : m env S with
  | stuck => rw [q] at p; exact p
  | exc e S' => rw [q] at p; exact p
  | ok v S' =>
    rw [q] at p
    obtain ⟨k, rfl⟩ := hb _ _ _ _ q
    intro x F' H' ρ' s' x' r'
    cases (show Rep X.K F' x (.bool k) from r')
    exact ⟨k, rfl, p k F' H' ρ' s' x' rfl⟩
theorem mcmp_bool {o : COp} : ∀ env S v S', mcmp o ma mb env S = .ok v S' → ∃ k, v = .d (.bool k) := by
  intro env S v S' h
  unfold mcmp at h
  cases q1 : ma env S with
  | stuck => rw [q1] at h; cases h
  | exc _ _ => rw [q1] at h; cases h
  | ok x S1 =>
    rw [q1, R.bind_ok] at h
    cases q2 : mb env S1 with
    | stuck => rw [q2] at h; cases h
    | exc _ _ => rw [q2] at h; cases h
    | ok y S2 =>
      rw [q2, R.bind_ok] at h
      cases q3 : cmpV o S2 x y with
      | none => rw [q3] at h; cases h
      | some k => rw [q3] at h; cases h; exact ⟨k, rfl⟩
theorem st_cmp {o : COp} (ha : SimE fa X a ma) (hb : SimE fa X b mb) (hu : X.A.units + 65 < cLine) (hm : noSet b = true) : SimT fa X (.Compare a [cmpOf o] [b] pos) (tru (mcmp o ma mb)) :=
  ⟨fun W tk => PT.imp (pt_cmpR (op_cmp o hu) (ha.run W tk) (hb.run W tk) (noSet_ok hm _)) fun σ H Q q => rd_cmp (rd_tru_bool mcmp_bool q)⟩
/-- a op b op' c -/
def mchain (o p : COp) (ma mb mc : M Val) : M Val := fun env S => (ma env S).bind fun x S1 => (mb env S1).bind fun y S2 =>
  (R.ofO (cmpV o S2 x y) S2).bind fun k S3 => if k then (mc env S3).bind fun z S4 => .ofO ((cmpV p S4 y z).map fun b => .d (.bool b)) S4 else .ok (.d (.bool false)) S3
theorem mchain_bool {o p : COp} : ∀ env S v S', mchain o p ma mb mc env S = .ok v S' → ∃ k, v = .d (.bool k) := by
  intro env S v S' h
  unfold mchain at h
  cases q1 : ma env S with
  | stuck => rw [q1] at h; cases h
  | exc _ _ => rw [q1] at h; cases h
  | ok x S1 =>
    rw [q1, R.bind_ok] at h
    cases q2 : mb env S1 with
    | stuck => rw [q2] at h; cases h
    | exc _ _ => rw [q2] at h; cases h
    | ok y S2 =>
      rw [q2, R.bind_ok] at h
      cases q3 : cmpV o S2 x y with
      | none => rw [q3] at h; cases h
      | some k =>
        rw [q3] at h
        simp only [R.ofO_some, R.bind_ok] at h
        cases k with
        | false => simp at h; exact ⟨false, h.1.symm⟩
        | true =>
          simp only [if_true] at h
          cases q4 : mc env S2 with
          | stuck => rw [q4] at h; cases h
          | exc _ _ => rw [q4] at h; cases h
          | ok z S4 =>
            rw [q4, R.bind_ok] at h
            cases q5 : cmpV p S4 y z with
            | none => rw [q5] at h; cases h
            | some k2 => rw [q5] at h; cases h; exact ⟨k2, rfl⟩
theorem rd_chain {o p : COp} {W : WX} {σ : L2.St} {H : Hp} {Q : VK} (q : rdE X.K fa W (mchain o p ma mb mc) σ H Q) : tChain (rCmp X.K o) (rCmp X.K p) (rdE X.K fa W ma) (rdE X.K fa W mb) (rdE X.K fa W mc) σ H Q := by
  refine q.bind (rep := RepV X.K fa) fun env v S1 x F1 H1 ρ1 s1 e1 r1 p1 => ?_
  refine rdG.mk s1 e1 (p1.bind fun u S2 y F2 H2 ρ2 s2 x2 r2 p2 => ?_)
  cases q1 : cmpV o S2 v u with
  | none => rw [q1] at p2; exact p2.elim
  | some k =>
    rw [q1] at p2
    have r1' := r1.mono x2.fz x2.rho x2.len
    refine cmpV_r s2 r1' r2 q1 ⟨k, rfl, ?_⟩
    simp only [R.ofO_some, R.bind_ok] at p2
    cases k with
    | false =>
      rw [if_neg Bool.false_ne_true]
      exact p2 _ F2 H2 ρ2 s2 (Ext.refl ..) (.bl false)
    | true =>
      rw [if_pos rfl]
      simp only [if_true] at p2
      refine rdG.mk s2 (e1.mono x2.fz x2.rho x2.len) (p2.bind fun z S4 w F4 H4 ρ4 s4 x4 r4 p4 => ?_)
      obtain ⟨c, ec, q5⟩ := p4.ofO
      cases q6 : cmpV p S4 u z with
      | none => rw [q6] at ec; cases ec
      | some c2 =>
        rw [q6] at ec
        cases ec
        exact cmpV_r s4 (r2.mono x4.fz x4.rho x4.len) r4 q6 (q5 _ F4 H4 ρ4 s4 (Ext.refl ..) (.bl c2))
theorem lastM {op op' : CmpOp} (hm : noSet c = true) : lastMarks [op, op'] [b, c] = false := noSet_ok hm _
theorem sm_chain {o p : COp} (ha : SimE fa X a ma) (hb : SimE fa X b mb) (hc : SimE fa X c mc) (hu : X.A.units + 65 < cLine) (hm : noSet c = true) : SimE fa X (.Compare a [cmpOf o, cmpOf p] [b, c] pos) (mchain o p ma mb mc) :=
  ⟨fun W tk => PE.imp (pe_chain (op_cmp o hu) (op_cmp p hu) (ha.run W tk) (hb.run W tk) (hc.run W tk) (lastM hm)) fun σ H Q q => rd_chain q⟩
theorem st_chain {o p : COp} (ha : SimE fa X a ma) (hb : SimE fa X b mb) (hc : SimE fa X c mc) (hu : X.A.units + 65 < cLine) (hm : noSet c = true) : SimT fa X (.Compare a [cmpOf o, cmpOf p] [b, c] pos) (tru (mchain o p ma mb mc)) :=
  ⟨fun W tk => PT.imp (pt_chain (op_cmp o hu) (op_cmp p hu) (ha.run W tk) (hb.run W tk) (hc.run W tk) (lastM hm)) fun σ H Q q => rd_chain (rd_tru_bool mchain_bool q)⟩

/-! ### not, and, or, if -/
def mnot (m : M Val) : M Val := fun env S => (m env S).bind fun v S1 => (R.ofO (truthV S1 v) S1).bind fun b S2 => .ok (.d (.bool (!b))) S2
theorem sm_not (h : SimE fa X a ma) : SimE fa X (.UnaryOp .Not a pos) (mnot ma) := by
  refine ⟨fun W tk => PE.imp (pe_notT (h.run W tk)) fun σ H Q q => ?_⟩
  refine q.bind (rep := RepV X.K fa) fun env v S1 x F1 H1 ρ1 s1 e1 r1 p1 => ?_
  cases q1 : truthV S1 v with
  | none => rw [q1] at p1; exact p1.elim
  | some k =>
    rw [q1] at p1
    exact ⟨k, truV_of s1 r1 q1, p1 _ F1 H1 ρ1 s1 (Ext.refl ..) (.bl _)⟩
theorem st_not (h : SimT fa X a (tru ma)) : SimT fa X (.UnaryOp .Not a pos) (tru (mnot ma)) := by
  refine ⟨fun W tk => PT.imp (pt_not (h.run W tk)) fun σ H Q q => ?_⟩
  obtain ⟨env, S, F, ρ, s, e, p⟩ := q
  refine ⟨env, S, F, ρ, s, e, ?_⟩
  unfold tru mnot at p
  unfold tru
  cases q : ma env S with
  | stuck => rw [q] at p; exact p
  | exc e S' => rw [q] at p; exact p
  | ok v S' =>
    rw [q] at p
    simp only [R.bind_ok] at p ⊢
    cases q1 : truthV S' v with
    | none => rw [q1] at p; exact p
    | some k =>
      rw [q1] at p
      exact fun x F' H' ρ' s' x' r' => by
        cases (show x = k from r')
        exact p _ F' H' ρ' s' x' rfl
def boolOf (k : Bool) : BoolOp := if k then .And else .Or
def mbool (k : Bool) (ma mb : M Val) : M Val := fun env S => (ma env S).bind fun v S1 => (R.ofO (truthV S1 v) S1).bind fun b S2 => if b = k then mb env S2 else .ok v S2
theorem sm_bools {k : Bool} {rest : List Expr} (ha : SimE fa X a ma) (hb : SimE fa X (.BoolOp (boolOf k) (b :: rest) pos) mb) : SimE fa X (.BoolOp (boolOf k) (a :: b :: rest) pos) (mbool k ma mb) := by
  have key : ∀ W σ H Q, rdE X.K fa W (mbool k ma mb) σ H Q → rdE X.K fa W ma σ H fun x H1 => ∃ t, TruV X.K x H1 t ∧ if t = k then rdE X.K fa W mb σ H1 Q else Q x H1 := by
    intro W σ H Q q
    refine q.bind (rep := RepV X.K fa) fun env v S1 x F1 H1 ρ1 s1 e1 r1 p1 => ?_
    cases q1 : truthV S1 v with
    | none => rw [q1] at p1; exact p1.elim
    | some t =>
      rw [q1] at p1
      simp only [R.ofO_some, R.bind_ok] at p1
      refine ⟨t, truV_of s1 r1 q1, ?_⟩
      split
      · rename_i h; rw [if_pos h] at p1; exact rdG.mk s1 e1 p1
      · rename_i h; rw [if_neg h] at p1; exact p1 _ F1 H1 ρ1 s1 (Ext.refl ..) r1
  cases k with
  | true =>
    refine ⟨fun W tk => PE.imp (pe_andT (ha.run W tk) (hb.run W tk)) fun σ H Q q => ?_⟩
    exact key W σ H Q q
  | false =>
    refine ⟨fun W tk => PE.imp (pe_orT (ha.run W tk) (hb.run W tk)) fun σ H Q q => ?_⟩
    obtain ⟨env, S, F, ρ, s, e, p⟩ := key W σ H Q q
    refine ⟨env, S, F, ρ, s, e, p.imp ?_⟩
    rintro x H' ⟨t, ht, q⟩
    refine ⟨t, ht, ?_⟩
    cases t with
    | true => simpa using q
    | false => simpa using q
theorem sm_bool1 {k : Bool} (ha : SimE fa X a ma) : SimE fa X (.BoolOp (boolOf k) [a] pos) ma := ⟨fun W tk => pe_one (ha.run W tk)⟩
structure SimW (fa : FA) (X : Cx) (pe : Expr) (m : M Bool) : Prop where
  run : ∀ W, Takes X W → PW X pe (rdT X.K fa W m)
theorem SimW.t {m : M Bool} (h : SimW fa X pe m) : SimT fa X pe m := ⟨fun W tk => (h.run W tk).pt⟩
theorem st_bool1 {k : Bool} (ha : SimT fa X a (tru ma)) : SimW fa X (.BoolOp (boolOf k) [a] pos) (tru ma) := by
  cases k with
  | true => exact ⟨fun W tk => pw_and1 (ha.run W tk)⟩
  | false => exact ⟨fun W tk => pw_or1 (ha.run W tk)⟩
theorem st_bools {k : Bool} {rest : List Expr} (ha : SimT fa X a (tru ma)) (hb : SimW fa X (.BoolOp (boolOf k) (b :: rest) pos) (tru mb)) : SimW fa X (.BoolOp (boolOf k) (a :: b :: rest) pos) (tru (mbool k ma mb)) := by
  have key : ∀ W σ H Q, rdT X.K fa W (tru (mbool k ma mb)) σ H Q → rdT X.K fa W (tru ma) σ H fun t H1 => if t = k then rdT X.K fa W (tru mb) σ H1 Q else Q t H1 := by
    intro W σ H Q q
    obtain ⟨env, S, F, ρ, s, e, p⟩ := q
    refine ⟨env, S, F, ρ, s, e, ?_⟩
    unfold tru mbool at p
    unfold tru
    cases q : ma env S with
    | stuck => rw [q] at p; exact p
    | exc e S' => rw [q] at p; exact p
    | ok v S' =>
      rw [q] at p
      simp only [R.bind_ok] at p ⊢
      cases q1 : truthV S' v with
      | none => rw [q1] at p; exact p
      | some t =>
        rw [q1] at p
        simp only [R.ofO_some, R.bind_ok] at p
        intro x F' H' ρ' s' x' r'
        cases (show x = t from r')
        split
        · rename_i h
          rw [if_pos h] at p
          exact rdG.mk (m := fun env S => (mb env S).bind fun v S1 => .ofO (truthV S1 v) S1) s' (e.mono x'.fz x'.rho x'.len) (Post.shift x' p)
        · rename_i h
          rw [if_neg h] at p
          simp only [R.bind_ok, q1] at p
          exact p _ F' H' ρ' s' x' rfl
  cases k with
  | true =>
    refine ⟨fun W tk => PW.imp (pw_and (ha.run W tk) (hb.run W tk)) fun σ H Q q => ?_⟩
    obtain ⟨env, S, F, ρ, s, e, p⟩ := key W σ H Q q
    refine ⟨env, S, F, ρ, s, e, p.imp ?_⟩
    intro t H' q
    cases t with
    | true => exact q
    | false => simpa using q
  | false =>
    refine ⟨fun W tk => PW.imp (pw_or (ha.run W tk) (hb.run W tk)) fun σ H Q q => ?_⟩
    obtain ⟨env, S, F, ρ, s, e, p⟩ := key W σ H Q q
    refine ⟨env, S, F, ρ, s, e, p.imp ?_⟩
    intro t H' q
    cases t with
    | true => simpa using q
    | false => simpa using q
def mife (mt : M Val) (ma mb : M Val) : M Val := fun env S => (mt env S).bind fun v S0 => (R.ofO (truthV S0 v) S0).bind fun k S1 => if k then ma env S1 else mb env S1
theorem sm_ife {mt : M Val} (hc : SimT fa X c (tru mt)) (ha : SimE fa X a ma) (hb : SimE fa X b mb) : SimE fa X (.IfExp c a b pos) (mife mt ma mb) := by
  refine ⟨fun W tk => PE.imp (pe_ifExp (hc.run W tk) (ha.run W tk) (hb.run W tk)) fun σ H Q q => ?_⟩
  obtain ⟨env, S, F, ρ, s, e, p⟩ := q
  refine ⟨env, S, F, ρ, s, e, ?_⟩
  unfold mife at p
  unfold tru
  cases q : mt env S with
  | stuck => rw [q] at p; exact p
  | exc e S' => rw [q] at p; exact p
  | ok v S' =>
    rw [q] at p
    simp only [R.bind_ok] at p ⊢
    cases q1 : truthV S' v with
    | none => rw [q1] at p; exact p
    | some t =>
      rw [q1] at p
      simp only [R.ofO_some, R.bind_ok] at p
      intro x F' H' ρ' s' x' r'
      cases (show x = t from r')
      cases t with
      | true => exact rdG.mk s' (e.mono x'.fz x'.rho x'.len) (Post.shift x' p)
      | false => exact rdG.mk s' (e.mono x'.fz x'.rho x'.len) (Post.shift x' p)

/-! ### argument lists, displays -/
def mnil : M (List Val) := fun _ S => .ok [] S
def mcons (m : M Val) (ms : M (List Val)) : M (List Val) := fun env S => (m env S).bind fun v S1 => (ms env S1).bind fun vs S2 => .ok (v :: vs) S2
theorem sa_nil : SimA fa X [] mnil := by
  refine ⟨fun W tk => PA.imp pa_nil fun σ H Q q => ?_⟩
  obtain ⟨env, S, F, ρ, s, e, p⟩ := q
  exact p [] F H ρ s (Ext.refl ..) .nil
theorem sa_cons {es : List Expr} {ms : M (List Val)} (h : SimE fa X a ma) (hs : SimA fa X es ms) (hn : noStar a = true) : SimA fa X (a :: es) (mcons ma ms) := by
  refine ⟨fun W tk => PA.imp (pa_cons (h.run W tk) (hs.run W tk) (starEach_cons hn _ _)) fun σ H Q q => ?_⟩
  refine q.bind (rep := RepV X.K fa) fun env v S1 x F1 H1 ρ1 s1 e1 r1 p1 => ?_
  refine rdG.mk s1 e1 (p1.bind fun vs S2 xs F2 H2 ρ2 s2 x2 r2 p2 => ?_)
  exact p2 (x :: xs) F2 H2 ρ2 s2 (Ext.refl ..) (.cons (r1.mono x2.fz x2.rho x2.len) r2)
/-- fewer than so many -/
theorem sm_tup {es : List Expr} {ms : M (List Val)} {k : Nat} (h : SimA fa X es ms) (hl : ∀ env S vs S', ms env S = .ok vs S' → vs.length ≤ sLine) : SimE fa X (.Tuple es k pos) (fun env S => (ms env S).bind fun vs S1 => .ofO ((pureVs vs).map fun xs => .d (.tuple xs)) S1) := by
  refine ⟨fun W tk => PE.imp (pe_tup (h.run W tk)) fun σ H Q q => ?_⟩
  obtain ⟨env, S, F, ρ, s, e, p⟩ := q
  refine ⟨env, S, F, ρ, s, e, ?_⟩
  dsimp only at p
  have hl' := hl env S
  cases q0 : ms env S with
  | stuck => rw [q0] at p; exact p
  | exc e S' => rw [q0] at p; exact p
  | ok vs S1 =>
    rw [q0] at p
    intro xs F1 H1 ρ1 s1 x1 r1
    refine ⟨by rw [r1.length, ← sLine_eq]; exact hl' _ _ q0, fun a ha => ?_⟩
    obtain ⟨w, ew, q2⟩ := (Post.shift x1 p).ofO
    cases q3 : pureVs vs with
    | none => rw [q3] at ew; cases ew
    | some ds =>
      rw [q3] at ew
      cases ew
      exact fresh_tup s1.sub (r1.pure q3) (fun z F' H' g r => q2 z F' H' ρ1 (s1.of_grow g).1 (s1.of_grow g).2 r) ha
theorem sm_lst {es : List Expr} {ms : M (List Val)} (h : SimA fa X es ms) (hl : ∀ env S vs S', ms env S = .ok vs S' → vs.length ≤ sLine) : SimE fa X (.List es pos) (fun env S => (ms env S).bind fun vs S1 => .ofO ((pureVs vs).map fun xs => .d (.list xs)) S1) := by
  refine ⟨fun W tk => PE.imp (pe_lst (h.run W tk)) fun σ H Q q => ?_⟩
  obtain ⟨env, S, F, ρ, s, e, p⟩ := q
  refine ⟨env, S, F, ρ, s, e, ?_⟩
  dsimp only at p
  have hl' := hl env S
  cases q0 : ms env S with
  | stuck => rw [q0] at p; exact p
  | exc e S' => rw [q0] at p; exact p
  | ok vs S1 =>
    rw [q0] at p
    intro xs F1 H1 ρ1 s1 x1 r1
    refine ⟨by rw [r1.length, ← sLine_eq]; exact hl' _ _ q0, fun a ha => ?_⟩
    obtain ⟨w, ew, q2⟩ := (Post.shift x1 p).ofO
    cases q3 : pureVs vs with
    | none => rw [q3] at ew; cases ew
    | some ds =>
      rw [q3] at ew
      cases ew
      exact fresh_lst s1.sub (r1.pure q3) (fun z F' H' g r => q2 z F' H' ρ1 (s1.of_grow g).1 (s1.of_grow g).2 r) ha
/-- a new object of the store -/
theorem Sim.alloc {F H : Hp} {ρ : Nat → Addr} {S : Sto} {p : Addr} {h : HO} {o : Ob} (s : Sim X.K fa F H ρ S) (hp : H p = none) (r : RepO X.K fa F ρ S.length h o) :
    ∃ ρ', ρ' S.length = p ∧ Sim X.K fa F (upd H p h) ρ' (S ++ [some o]) ∧ Ext F H ρ S F (upd H p h) ρ' (S ++ [some o]) := by
  refine ⟨fun n => if n = S.length then p else ρ n, by simp, ?_⟩
  have hr : ∀ n, n < S.length → (if n = S.length then p else ρ n) = ρ n := fun n hn => if_neg (Nat.ne_of_lt hn)
  have gl : ∀ n u, stGet (S ++ [some o]) n = some u → (n < S.length ∧ stGet S n = some u) ∨ (n = S.length ∧ u = o) := fun n u hu => by
    unfold stGet at hu ⊢
    by_cases hn : n < S.length
    · rw [List.getElem?_append_left hn] at hu; exact .inl ⟨hn, hu⟩
    · rw [List.getElem?_append_right (Nat.not_lt.mp hn)] at hu
      by_cases h0 : n - S.length = 0
      · rw [h0] at hu; simp at hu; exact .inr ⟨by omega, hu.symm⟩
      · rw [List.getElem?_eq_none (by simp; omega)] at hu; cases hu
  have np : ∀ n u, stGet S n = some u → ρ n ≠ p := fun n u hu => by
    obtain ⟨x, hx, _⟩ := s.obj n u hu
    exact ne_of_none hx hp
  have sH : Same H (upd H p h) := fun a u hu => by rw [upd_ne (ne_of_none hu hp)]; exact hu
  have le : S.length ≤ (S ++ [some o]).length := by simp
  refine ⟨⟨s.sub.trans sH, fun n u hu => ?_, fun n u hu => ?_, fun n m u w hu hw he => ?_⟩, ⟨Same.refl _, hr, le, fun a u hu _ => sH a u hu, fun a u hu => ⟨u, sH a u hu⟩, fun n u hu => ?_, fun a u hu => .inl (by rw [hu]; intro z; cases z)⟩⟩
  · rcases gl n u hu with ⟨hn, q⟩ | ⟨rfl, rfl⟩
    · rw [hr n hn]; exact s.off n u q
    · rw [if_pos rfl]; exact s.sub.free hp
  · rcases gl n u hu with ⟨hn, q⟩ | ⟨rfl, rfl⟩
    · obtain ⟨x, hx, rx⟩ := s.obj n u q
      refine ⟨x, ?_, rx.mono (Same.refl _) hr le⟩
      rw [hr n hn, upd_ne (np n u q)]; exact hx
    · refine ⟨h, ?_, r.mono (Same.refl _) hr le⟩
      rw [if_pos rfl, upd_same]
  · rcases gl n u hu with ⟨hn, q⟩ | ⟨rfl, rfl⟩ <;> rcases gl m w hw with ⟨hm, q'⟩ | ⟨rfl, rfl⟩
    · rw [hr n hn, hr m hm] at he; exact s.inj n m u w q q' he
    · rw [hr n hn, if_pos rfl] at he; exact absurd he (np n u q)
    · rw [hr m hm, if_pos rfl] at he; exact absurd he.symm (np m w q')
    · rfl
  · rcases gl n u hu with ⟨hn, q⟩ | ⟨rfl, rfl⟩
    · exact .inl ⟨hn, u, q⟩
    · exact .inr ⟨Nat.le_refl _, by rw [if_pos rfl]; exact hp⟩
theorem sm_lstN {es : List Expr} {ms : M (List Val)} (h : SimA fa X es ms) (hl : ∀ env S vs S', ms env S = .ok vs S' → vs.length ≤ sLine) : SimE fa X (.List es pos) (fun env S => (ms env S).bind fun vs S1 => .ok (.ref S1.length) (S1 ++ [some (.lst vs)])) := by
  refine ⟨fun W tk => PE.imp (pe_lst (h.run W tk)) fun σ H Q q => ?_⟩
  obtain ⟨env, S, F, ρ, s, e, p⟩ := q
  refine ⟨env, S, F, ρ, s, e, ?_⟩
  dsimp only at p
  have hl' := hl env S
  cases q0 : ms env S with
  | stuck => rw [q0] at p; exact p
  | exc e S' => rw [q0] at p; exact p
  | ok vs S1 =>
    rw [q0] at p
    intro xs F1 H1 ρ1 s1 x1 r1
    refine ⟨by rw [r1.length, ← sLine_eq]; exact hl' _ _ q0, fun a ha => ?_⟩
    obtain ⟨ρ2, e2, s2, x2⟩ := s1.alloc ha (.lst r1)
    exact (Post.shift x1 p) _ F1 _ ρ2 s2 x2 ⟨by simp, by rw [e2]⟩
/-! ### subscripts, slices -/
theorem sm_ix (ha : SimE fa X a ma) (hb : SimE fa X b mb) (hs : noSlice b = true) : SimE fa X (.Subscript a b pos) (fun env S => (ma env S).bind fun x S1 => (mb env S1).bind fun y S2 => .ofO (match y with | .d (.int i) => ixV S2 x (.int i) | _ => none) S2) := by
  refine ⟨fun W tk => PE.imp (pe_ix (ix_V fa) (ha.run W tk) (hb.run W tk) (noSlice_ok hs)) fun σ H Q q => rd_op2 (f := fun S x y => match y with | .d (.int i) => ixV S x (.int i) | _ => none) (fun F H ρ S x y v u w s r1 r2 e k => ?_) q⟩
  cases u with
  | d u =>
    cases u with
    | int i =>
      cases (show Rep X.K F y (.int i) from r2)
      exact ⟨F, ρ, S, v, i, w, s, r1, rfl, e, fun z r => k z F H s (Ext.refl ..) r⟩
    | _ => cases e
  | _ => cases e
end
structure SimO (fa : FA) (X : Cx) (pe : Option Expr) (m : M (Option Int)) : Prop where
  run : ∀ W, Takes X W → PO X pe (rdG X.K fa W (fun _ _ _ a b => a = b) m)
section
variable {fa : FA} {X : Cx} {pe a b c : Expr} {m ma mb mc : M Val} {pos : Pos}
theorem PO.imp {e : Option Expr} {t t' : TO} (h : PO X e t) (k : ∀ σ H Q, t' σ H Q → t σ H Q) : PO X e t' := ⟨fun pins s σ H Q I q => h.run pins s σ H Q I (k σ H Q q)⟩
theorem so_no : SimO fa X none (fun _ S => .ok none S) := by
  refine ⟨fun W tk => PO.imp po_none fun σ H Q q => ?_⟩
  obtain ⟨env, S, F, ρ, s, e, p⟩ := q
  exact p none F H ρ s (Ext.refl ..) rfl
theorem so_yes (h : SimE fa X a ma) : SimO fa X (some a) (fun env S => (ma env S).bind fun v S1 => .ofO (match v with | .d (.int i) => some (some i) | _ => none) S1) := by
  refine ⟨fun W tk => PO.imp (po_some (h.run W tk)) fun σ H Q q => ?_⟩
  refine q.bind (rep := RepV X.K fa) fun env v S1 x F1 H1 ρ1 s1 e1 r1 p1 => ?_
  obtain ⟨w, ew, q2⟩ := p1.ofO
  cases v with
  | d u =>
    cases u with
    | int i =>
      cases (show Rep X.K F1 x (.int i) from r1)
      cases ew
      exact ⟨i, rfl, q2 _ F1 H1 ρ1 s1 (Ext.refl ..) rfl⟩
    | _ => cases ew
  | _ => cases ew
theorem sm_sl {lo hi : Option Expr} {ml mh : M (Option Int)} {p2 : Pos} (ha : SimE fa X a ma) (hl : SimO fa X lo ml) (hh : SimO fa X hi mh) :
    SimE fa X (.Subscript a (.Slice lo hi none p2) pos) (fun env S => (ma env S).bind fun x S1 => (ml env S1).bind fun l S2 => (mh env S2).bind fun h S3 => .ofO ((slV S3 x l h).map Val.d) S3) := by
  refine ⟨fun W tk => PE.imp (pe_slice (sl_V fa) (ha.run W tk) (hl.run W tk) (hh.run W tk)) fun σ H Q q => ?_⟩
  refine q.bind (rep := RepV X.K fa) fun env v S1 x F1 H1 ρ1 s1 e1 r1 p1 => ?_
  refine rdG.mk s1 e1 (p1.bind fun l S2 l' F2 H2 ρ2 s2 x2 r2 p2 => ?_)
  refine rdG.mk s2 (e1.mono x2.fz x2.rho x2.len) (p2.bind fun h S3 h' F3 H3 ρ3 s3 x3 r3 p3 => ?_)
  cases r2; cases r3
  obtain ⟨w, ew, q2⟩ := p3.ofO
  cases q3 : slV S3 v l h with
  | none => rw [q3] at ew; cases ew
  | some c =>
    rw [q3] at ew
    cases ew
    have x23 := x2.trans x3
    exact ⟨F3, ρ3, S3, v, c, s3, r1.mono x23.fz x23.rho x23.len, q3, fun z F' H' g r => q2 z F' H' ρ3 (s3.of_grow g).1 (s3.of_grow g).2 r⟩
theorem sm_neg (ha : SimE fa X a ma) : SimE fa X (.UnaryOp .USub a pos) (fun env S => (ma env S).bind fun x S1 => .ofO (match x with | .d (.int i) => some (.d (.int (-i))) | _ => none) S1) := by
  refine ⟨fun W tk => PE.imp (pe_un un_neg (ha.run W tk)) fun σ H Q q => ?_⟩
  refine q.bind (rep := RepV X.K fa) fun env v S1 x F1 H1 ρ1 s1 e1 r1 p1 => ?_
  obtain ⟨w, ew, q2⟩ := p1.ofO
  cases v with
  | d u =>
    cases u with
    | int i =>
      cases (show Rep X.K F1 x (.int i) from r1)
      cases ew
      exact ⟨i, rfl, q2 _ F1 H1 ρ1 s1 (Ext.refl ..) (.int _)⟩
    | _ => cases ew
  | _ => cases ew
/-! ### calls of built-ins -/
theorem pe_bi1 (b : Bi) {p : Pos} {r : List V → Hp → VK → Prop} {ta : TA} (hr : CallR X (biVal b) r) (hg : Gl X (biName b)) (hm : X.mg (biName b) = none) (ha : PA X [a] ta) (hn : noStar a = true) : PE X (.Call (.Name (biName b) p) [a] [] pos) (tCB r ta) := by
  have h1 : starEach [a] X.env = (false, eval a X.env) :: starEach [] X.env := starEach_cons hn _ _
  cases b <;> first
    | exact pe_callB hr hg hm (bi_boot _) ha (by decide) (by decide) h1 rfl
    | exact pe_callTy hr hg hm (bi_boot _) ha (by decide) (by decide) h1 rfl
def mbi (b : Bi) (ma : M Val) : M Val := fun env S => (ma env S).bind fun x S1 => .ofO ((biV S1 b x).map Val.d) S1
theorem sm_bi (b : Bi) {p : Pos} (hc : X.calm = true) (hgu : b = .repr ∨ b = .min ∨ b = .max → X.A.guards = some [] ∧ X.A.units + 65 < cLine) (hg : Gl X (biName b)) (hm : X.mg (biName b) = none) (ha : SimE fa X a ma) (hn : noStar a = true) : SimE fa X (.Call (.Name (biName b) p) [a] [] pos) (mbi b ma) := by
  have hs : CallR X (biVal b) (fun vs H Q => rBi X.K b vs H Q ∨ (b = .len ∧ ∃ (a : Addr) (xs : List V), vs = [.ref a] ∧ SqL X.K H a xs ∧ Q (.int xs.length) H)) := by
    intro pins s σ H vs us Q I r h
    rcases h with h | ⟨rfl, h⟩
    · exact call_bi b hc hgu pins s σ H vs us Q I r h
    · exact call_lenS pins s σ H vs us Q I r h
  refine ⟨fun W tk => PE.imp (pe_bi1 b hs hg hm ((sa_cons ha sa_nil hn).run W tk) hn) fun σ H Q q => ?_⟩
  obtain ⟨env, S, F, ρ, s, e, p⟩ := q
  refine ⟨env, S, F, ρ, s, e, ?_⟩
  unfold mbi at p
  unfold mcons mnil
  cases q0 : ma env S with
  | stuck => rw [q0] at p; exact p
  | exc e S' => rw [q0] at p; exact p
  | ok v S1 =>
    rw [q0] at p
    simp only [R.bind_ok] at p ⊢
    intro xs F1 H1 ρ1 s1 x1 r1
    obtain ⟨w, ew, q2⟩ := (Post.shift x1 p).ofO
    cases r1 with
    | cons r1 rn =>
      cases rn
      rename_i x
      cases q3 : biV S1 b v with
      | none => rw [q3] at ew; cases ew
      | some c =>
        rw [q3] at ew
        cases ew
        have view_case : ((view S1 v).bind (biD b)) = some c → rBi X.K b [x] H1 Q := fun h => by
          cases q4 : view S1 v with
          | none => rw [q4] at h; cases h
          | some d =>
            rw [q4] at h
            exact ⟨F1, x, d, c, rfl, s1.sub, s1.view r1 q4, h, fun z F' H' g r => q2 z F' H' ρ1 (s1.of_grow g).1 (s1.of_grow g).2 r⟩
        by_cases hb : b = .len
        · subst hb
          simp only [biV] at q3
          cases v with
          | exn _ => exact (show False from r1).elim
          | scr ns =>
            obtain ⟨a, rfl, h⟩ := r1
            simp [lenV] at q3
            subst q3
            refine .inr ⟨rfl, a, _, rfl, s1.sub.seq h, ?_⟩
            rw [List.length_map]
            exact q2 _ F1 H1 ρ1 s1 (Ext.refl ..) (.int _)
          | d y =>
            refine .inl (view_case ?_)
            simp only [lenV, view_d, Option.bind_some] at q3 ⊢
            simpa [biD] using q3
          | fn i => simp [lenV, view] at q3
          | ref n =>
            obtain ⟨h1, rfl⟩ := r1
            simp only [lenV] at q3
            cases q5 : stGet S1 n with
            | none => rw [q5] at q3; cases q3
            | some o =>
              rw [q5] at q3
              cases o with
              | dct _ => cases q3
              | kv _ _ => cases q3
              | lst vs =>
                cases q3
                obtain ⟨ho, h2, r2⟩ := s1.obj n _ q5
                cases r2 with
                | lst r2 =>
                  refine .inr ⟨rfl, _, _, rfl, SqL.of h2, ?_⟩
                  rw [r2.length]
                  exact q2 _ F1 H1 ρ1 s1 (Ext.refl ..) (.int _)
        · refine .inl (view_case ?_)
          unfold biV at q3
          split at q3
          · exact absurd rfl hb
          · exact q3
end
end MS

-- MsRev
/-! A tuple the other way round: t[::-1]. -/
namespace MS
open PySem PySem.Spec PyProof.Rows L2
section
variable {prog : Program} {w : World} {A : Around} {E : Value → Shared → Prop} {s : Shared}
theorem adj_rev (n : Nat) : Builtin.Slice.sliceAdjust none none (-1) (n : Int) = ((n : Int) - 1, -1) := by
  simp [Builtin.Slice.sliceAdjust]
theorem plc_rev (n : Nat) : Builtin.Slice.slicePlaces ((n : Int) - 1) (-1) (-1) = n := by
  unfold Builtin.Slice.slicePlaces
  by_cases h : (n : Int) - 1 > -1
  · simp only [show ¬ ((-1 : Int) > 0) by decide, if_false, h, if_true]
    have : ((n : Int) - 1 - -1 - 1) / (- -1) + 1 = n := by
      rw [show (- -1 : Int) = 1 by decide, Int.ediv_one]; omega
    rw [this]; simp
  · have : n = 0 := by omega
    subst this
    simp
theorem pick_rev (xs : Array Value) : ((List.range xs.size).filterMap fun (m : Nat) => xs[(((xs.size : Int) - 1) + (m : Int) * (-1)).toNat]?).toArray = xs.toList.reverse.toArray := by
  congr 1
  obtain ⟨l⟩ := xs
  show (List.range l.length).filterMap (fun (m : Nat) => (l.toArray)[(((l.length : Int) - 1) + (m : Int) * (-1)).toNat]?) = l.reverse
  apply List.ext_getElem?
  intro i
  have e : (List.range l.length).filterMap (fun (m : Nat) => (l.toArray)[(((l.length : Int) - 1) + (m : Int) * (-1)).toNat]?) = (List.range l.length).filterMap fun m => l.reverse[m]? := by
    have fc : ∀ {α β : Type} {f g : α → Option β} (r : List α), (∀ x ∈ r, f x = g x) → r.filterMap f = r.filterMap g := by
      intro α β f g r h
      induction r with
      | nil => rfl
      | cons a r ih => rw [List.filterMap_cons, List.filterMap_cons, h a (by simp), ih fun x hx => h x (by simp [hx])]
    refine fc _ fun m hm => ?_
    have hm := List.mem_range.mp hm
    rw [List.getElem?_reverse hm, List.getElem?_toArray]
    congr 1
    omega
  rw [e]
  have e2 : (List.range l.length).filterMap (fun m => l.reverse[m]?) = l.reverse := by
    have : ∀ (r : List Value), (List.range r.length).filterMap (fun m => r[m]?) = r := by
      intro r
      induction r with
      | nil => rfl
      | cons a r ih =>
        rw [List.length_cons, List.range_succ_eq_map, List.filterMap_cons]
        simp only [List.getElem?_cons_zero, List.filterMap_map]
        congr 1
    have h := this l.reverse
    rw [List.length_reverse] at h
    exact h
  rw [e2]
theorem getItem_tup_rev {t sl : Addr} {items : Array Value} {vl vu vs : Value} {Q : Value → Shared → Prop} (ht : IsTup s.heap t items) (hs : s.heap.IsSliceOf sl vl vu vs) (pl : IsPart vl none) (pu : IsPart vu none) (ps : IsPart vs (some (-1)))
    (h : Q (.ref s.heap.objs.size) { s with heap := s.heap.push { cls := .type "tuple", data := .seq items.toList.reverse.toArray } })
    (hz : items.size ≤ sizeLine) : wpAny (model prog w) A (getItem (.ref t) (.ref sl)) Q E s := by
  have fit : sizeOk (.seq items.toList.reverse.toArray) := by
    show items.toList.reverse.toArray.size ≤ sizeLine
    rw [List.size_toArray, List.length_reverse, Array.length_toList]; exact hz
  obtain ⟨os, hos, hcs, hds⟩ := id hs
  have tS : s.TypeIs (.ref sl) "slice" := ⟨os, hos, hcs⟩
  unfold getItem
  try with_reducible refine wpAny_holding ?_
  first | refine wpAny_bind (wpAny_pure ?_) | skip
  refine wpAny_bind (wpAny_sequenceKey ht.typeIs (by decide) ?_)
  refine wpAny_bind (wpAny_callSpecial?_slot (name := Str.ofString "__getitem__") ht.typeIs PyProof.Rows.slot_tuple_getitem (wpAny_call_entry PyProof.Rows.slot_tuple_getitem ht.typeIs PyProof.Rows.entry_tuple_getitem ?_ (PyProof.Rows.args_tuple_getitem _ _)))
  show wpAny _ _ (Builtin.Tuple.tupleItemsOf (.ref t) >>= _) _ _ s
  refine wpAny_bind (tupleItemsOf_ ht (wpAny_bind (wpAny_typeOf tS ?_)))
  rw [if_pos (by decide)]
  have ap : ∀ {A : Around} {R : Int × Int × Nat → Shared → Prop}, R ((items.size : Int) - 1, -1, items.size) s → wpAny (model prog w) A (Builtin.Slice.sliceApplied (.ref sl) (pure (items.size : Int))) R E s := fun {A} {R} hR => by
    unfold Builtin.Slice.sliceApplied Builtin.Slice.sliceFields
    refine wpAny_bind (wpAny_bind (wpAny_field hos hds (x := vl) rfl (wpAny_bind (wpAny_field hos hds (x := vu) rfl (wpAny_bind (wpAny_field hos hds (x := vs) rfl (wpAny_pure ?_)))))))
    refine wpAny_bind (HT.slicePart_ ps ?_)
    show wpAny _ _ (if ((-1 : Int) == 0) = true then _ else _) _ _ s
    rw [if_neg (by decide)]
    refine wpAny_bind (HT.slicePart_ pl (wpAny_bind (HT.slicePart_ pu (wpAny_bind (wpAny_pure ?_)))))
    show wpAny _ _ (match Builtin.Slice.sliceAdjust none none (-1) (items.size : Int) with | (lo, hi) => pure (lo, (-1 : Int), Builtin.Slice.slicePlaces lo hi (-1))) _ _ s
    rw [adj_rev]
    show wpAny _ _ (pure ((items.size : Int) - 1, (-1 : Int), Builtin.Slice.slicePlaces ((items.size : Int) - 1) (-1) (-1))) _ _ s
    rw [plc_rev]
    exact wpAny_pure hR
  refine wpAny_bind (ap ?_)
  show wpAny _ _ (if ((((items.size : Int) - 1) == 0 && (-1 : Int) == 1 && items.size == items.size) = true) then _ else _) _ _ s
  rw [if_neg (by simp), pick_rev]
  first
    | exact wpAny_bind (m := Builtin.Tuple.tupleExact _) (wpAny_newObj_type (wpAny_pure ⟨_, rfl, wpAny_pure h⟩) fit)
    | exact wpAny_bind (m := Builtin.Tuple.tupleExact _) (wpAny_newObj_type (wpAny_bind (wpAny_pure (wpAny_pure ⟨_, rfl, wpAny_pure h⟩))) fit)
    | exact wpAny_bind (wpAny_bind (m := Builtin.Tuple.tupleExact _) (wpAny_newObj_type (wpAny_pure (wpAny_pure ⟨_, rfl, wpAny_pure h⟩)) fit))
    | exact wpAny_bind (wpAny_bind (m := Builtin.Tuple.tupleExact _) (wpAny_newObj_type (wpAny_pure ⟨_, rfl, wpAny_pure h⟩) fit))
end
section
variable {X : Cx} {fa : FA} {a : Expr} {ma : M Val} {pos : Pos}
def tRevT (K : PySem.W.Frag) (te : TE) : TE := fun σ H Q => te σ H fun x H1 => ∃ b xs, x = .ref b ∧ SqT K H1 b xs ∧ ∀ p, H1 p = none → Q (.ref p) (upd H1 p (.tup xs.reverse))
theorem pe_revT {te : TE} {k : Nat} {p1 p2 p3 : Pos} (he : PE X a te) : PE X (.Subscript a (.Slice none none (some (.UnaryOp .USub (.Constant (.int 1) k p1) p2)) p3) pos) (tRevT X.K te) := by
  refine ⟨fun pins s σ H Q I h => ?_⟩
  refine Subscript_ (thn (he.run pins s σ H _ I h) fun v s1 ⟨x, H1, I1, r1, b, xs, ex, hx, q⟩ => ?_)
  subst ex
  cases r1
  have st : PO X (some (.UnaryOp .USub (.Constant (.int 1) k p1) p2)) (tPart (tUn (rU fun i => .int (-i)) (tC (.int 1)))) := po_some (pe_un un_neg pe_int)
  refine wpAny_Slice (thn (po_none.run pins s1 σ H1 (fun o G => o = none ∧ G = H1) I1 ⟨rfl, rfl⟩) fun vl s2 ⟨l, H2, I2, pl, el, e2⟩ => ?_)
  subst el e2
  refine thn (po_none.run pins s2 σ H2 (fun o G => o = none ∧ G = H2) I2 ⟨rfl, rfl⟩) fun vu s3 ⟨u, H3, I3, pu, eu, e3⟩ => ?_
  subst eu e3
  refine thn (st.run pins s3 σ H3 (fun o G => o = some (-1) ∧ G = H3) I3 ⟨1, rfl, -1, rfl, rfl, rfl⟩) fun vs s4 ⟨o, H4, I4, ps, eo, e4⟩ => ?_
  subst eo e4
  have I5 : Inv X pins σ H4 { s4 with heap := s4.heap.push { cls := .type "slice", data := .fields #[vl, vu, vs] } } := I4.kept (t' := s4.toks) fun b ob q => Heap.get?_push_of_some _ q
  obtain ⟨its, r, ht, hz⟩ := I5.tuple hx
  have hl := r.length
  show wpAny (model X.prog X.w) X.A (subscriptTail a (.Slice none none (some (.UnaryOp .USub (.Constant (.int 1) k p1) p2)) p3) (.ref b) (.ref s4.heap.objs.size)) (EP X pins σ Q) X.xe { s4 with heap := s4.heap.push { cls := .type "slice", data := .fields #[vl, vu, vs] } }
  refine tail_any (ops := [.ref b, .ref s4.heap.objs.size]) ht.typeIs PyProof.Rows.slot_tuple_getitem.lookup ?_ (by with_unfolding_all rfl)
  refine getItem_tup_rev ht (Heap.IsSliceOf.new _ vl vu vs) pl pu ps ?_ (by rw [List.size_toArray]; omega)
  refine ⟨.ref _, _, I5.laid (t' := s4.toks) (o := .tup xs.reverse) (fun b ob q => Heap.get?_push_of_some _ q) (Nat.le_refl _) ?_, rfl, q _ (I5.hok.fresh (Nat.le_refl _))⟩
  exact ⟨by rw [List.length_reverse]; exact hz, its.reverse, r.reverse, ⟨_, Heap.get?_push_size _ rfl, rfl, _, rfl⟩⟩
theorem Reps.reverse {K : PySem.W.Frag} {F : Hp} : ∀ {xs : List V} {ds : List D}, Reps K F xs ds → Reps K F xs.reverse ds.reverse
  | _, _, .nil => .nil
  | _, _, .cons h r => by
    rw [List.reverse_cons, List.reverse_cons]
    exact (Reps.reverse r).append (.cons h .nil)
theorem sm_rev {k : Nat} {p1 p2 p3 : Pos} (ha : SimE fa X a ma) : SimE fa X (.Subscript a (.Slice none none (some (.UnaryOp .USub (.Constant (.int 1) k p1) p2)) p3) pos) (fun env S => (ma env S).bind fun v S1 => .ofO (revV v) S1) := by
  refine ⟨fun W tk => PE.imp (pe_revT (ha.run W tk)) fun σ H Q q => ?_⟩
  refine q.bind (rep := RepV X.K fa) fun env v S1 x F1 H1 ρ1 s1 e1 r1 p => ?_
  cases v with
  | d d =>
    cases d with
    | tuple ds =>
      cases (show Rep X.K F1 x (.tuple ds) from r1) with
      | tup h rr =>
        refine ⟨_, _, rfl, SqT.of (s1.sub _ _ h), fun p' hp => ?_⟩
        obtain ⟨s2, x2, sF⟩ := s1.grow (o := .tup _) hp
        exact p _ _ _ ρ1 s2 x2 (Rep.tup upd_same (rr.reverse.mono sF))
    | _ => exact p.elim
  | _ => exact p.elim
/-- list(xs), a list of the store -/
theorem sm_listN {ma : M Val} {a : Expr} {p : Pos} (hg : Gl X "list") (hm : X.mg "list" = none) (ha : SimE fa X a ma) (hn : noStar a = true) :
    SimE fa X (.Call (.Name "list" p) [a] [] pos) (fun env S => (mbi .list ma env S).bind fun v S1 => newV v S1) := by
  refine ⟨fun W tk => PE.imp (pe_bi1 .list call_list_of hg hm ((sa_cons ha sa_nil hn).run W tk) hn) fun σ H Q q => ?_⟩
  obtain ⟨env, S, F, ρ, s, e, p⟩ := q
  refine ⟨env, S, F, ρ, s, e, ?_⟩
  unfold mbi at p
  dsimp only at p
  unfold mcons mnil
  cases q0 : ma env S with
  | stuck => rw [q0] at p; exact p
  | exc e S' => rw [q0] at p; exact p
  | ok v S1 =>
    rw [q0] at p
    simp only [R.bind_ok] at p ⊢
    intro xs F1 H1 ρ1 s1 x1 r1
    cases r1 with
    | cons r1 rn =>
      cases rn
      have p := Post.shift x1 p
      cases q3 : biV S1 .list v with
      | none => rw [q3] at p; exact p.elim
      | some c =>
        rw [q3] at p
        simp only [Option.map_some, R.ofO_some, R.bind_ok] at p
        have q3' : (view S1 v).bind (biD .list) = some c := by simpa [biV] using q3
        cases q4 : view S1 v with
        | none => rw [q4] at q3'; cases q3'
        | some d =>
          rw [q4, Option.bind_some] at q3'
          cases d with
          | list ds =>
            cases q3'
            obtain ⟨l, xs', rfl, h1, rr⟩ := (s1.view r1 q4).list s1.sub
            refine ⟨l, xs', rfl, .inl (SqL.of h1), fun p' hp => ?_⟩
            obtain ⟨ρ2, e2, s2, x2⟩ := s1.alloc hp (.lst (RepVs.of_pure rr))
            exact p _ F1 _ ρ2 s2 x2 ⟨by simp, by rw [e2]⟩
          | tuple ds =>
            cases q3'
            obtain ⟨l, xs', rfl, h1, h1F, rr⟩ := (s1.view r1 q4).tuple s1.sub
            refine ⟨l, xs', rfl, .inr h1, fun p' hp => ?_⟩
            obtain ⟨ρ2, e2, s2, x2⟩ := s1.alloc hp (.lst (RepVs.of_pure rr))
            exact p _ F1 _ ρ2 s2 x2 ⟨by simp, by rw [e2]⟩
          | _ => simp [biD] at q3'
theorem R.assoc {α β γ : Type} (r : R α) (f : α → Sto → R β) (g : β → Sto → R γ) : (r.bind f).bind g = r.bind fun a S => (f a S).bind g := by cases r <;> rfl
/-- xs * n, a list of the store -/
theorem sm_mulN {ma mb : M Val} {a b : Expr} (ha : SimE fa X a ma) (hb : SimE fa X b mb) :
    SimE fa X (.BinOp a .Mult b pos) (fun env S => ((ma env S).bind fun x S1 => (mb env S1).bind fun y S2 => .ofO (binV .mul S2 x y) S2).bind fun v S1 => newV v S1) := by
  refine ⟨fun W tk => PE.imp (pe_op op_rep (ha.run W tk) (hb.run W tk)) fun σ H Q q => ?_⟩
  simp only [R.assoc] at q
  refine q.bind (rep := RepV X.K fa) fun env v S1 x F1 H1 ρ1 s1 e1 r1 p1 => ?_
  refine rdG.mk s1 e1 (p1.bind fun u S2 y F2 H2 ρ2 s2 x2 r2 p2 => ?_)
  have r1 := r1.mono x2.fz x2.rho x2.len
  cases q3 : binV .mul S2 v u with
  | none => rw [q3] at p2; exact p2.elim
  | some c =>
    rw [q3] at p2
    simp only [R.ofO_some, R.bind_ok] at p2
    unfold binV at q3
    cases q4 : view S2 v with
    | none => rw [q4] at q3; cases q3
    | some d1 =>
      cases q5 : view S2 u with
      | none => rw [q4, q5] at q3; cases q3
      | some d2 =>
        rw [q4, q5] at q3
        simp only [Option.bind_some, Option.map_eq_some_iff] at q3
        obtain ⟨z, q3, rfl⟩ := q3
        cases d1 with
        | list ds =>
          cases d2 with
          | int k =>
            simp only [binD] at q3
            split at q3
            · rename_i hz
              cases q3
              obtain ⟨l, xs', rfl, h1, rr⟩ := (s2.view r1 q4).list s2.sub
              have hy := s2.view r2 q5
              cases hy.int
              rw [← rr.length] at hz
              refine ⟨_, _, _, rfl, rfl, h1, by omega, by omega, ?_, fun p' hp => ?_⟩
              · rw [sizeLine_eq]
                exact Nat.le_trans (Nat.mul_le_mul hz.2.2 (Int.toNat_le.mpr hz.2.1)) (by decide)
              · obtain ⟨ρ3, e3, s3, x3⟩ := s2.alloc hp (.lst (RepVs.of_pure (rr.rep_flat _)))
                exact p2 _ F2 _ ρ3 s3 x3 ⟨by simp, by rw [e3]⟩
            · cases q3
          | _ => simp [binD] at q3
        | int i =>
          cases d2 <;> simp only [binD] at q3 <;> first | (split at q3 <;> cases q3 <;> exact p2.elim) | cases q3
        | tuple ts =>
          cases d2 <;> simp only [binD] at q3 <;> first | (split at q3 <;> cases q3 <;> exact p2.elim) | cases q3
        | str ts =>
          cases d2 <;> simp only [binD] at q3 <;> first | (split at q3 <;> cases q3 <;> exact p2.elim) | cases q3
        | _ => cases d2 <;> simp [binD] at q3
/-- + of two lists -/
def binL (S : Sto) (x y : Val) : Option Val := match view S x, view S y with
  | some (.list ds), some (.list es) => if ds.length + es.length ≤ sLine then some (.d (.list (ds ++ es))) else none
  | _, _ => none
theorem binL_of {S : Sto} {x y c : Val} (e : binV .add S x y = some c) (h : ∃ ds, c = .d (.list ds)) : binL S x y = some c := by
  unfold binV at e
  unfold binL
  cases q1 : view S x with
  | none => rw [q1] at e; cases e
  | some d1 =>
    cases q2 : view S y with
    | none => rw [q1, q2] at e; cases e
    | some d2 =>
      rw [q1, q2] at e
      simp only [Option.bind_some, Option.map_eq_some_iff] at e
      obtain ⟨z, e, rfl⟩ := e
      obtain ⟨cs, h⟩ := h
      cases h
      cases d1 with
      | list ds =>
        cases d2 with
        | list es =>
          simp only [binD] at e
          split at e
          · rename_i hz
            cases e
            show (if ds.length + es.length ≤ sLine then some (Val.d (PyData.list (ds ++ es))) else none) = _
            rw [if_pos hz]
          · cases e
        | _ => simp [binD] at e
      | int i => cases d2 <;> simp only [binD] at e <;> first | (split at e <;> cases e) | cases e
      | tuple i => cases d2 <;> simp only [binD] at e <;> first | (split at e <;> cases e) | cases e
      | str i => cases d2 <;> simp only [binD] at e <;> first | (split at e <;> cases e) | cases e
      | _ => cases d2 <;> simp [binD] at e
theorem newL_eq {S : Sto} {x y : Val} : ((R.ofO (binV .add S x y) S).bind fun v S1 => newV v S1) = (R.ofO (binL S x y) S).bind fun v S1 => newV v S1 := by
  cases q : binV .add S x y with
  | none =>
    cases q2 : binL S x y with
    | none => rfl
    | some c =>
      exfalso
      unfold binL at q2
      split at q2
      · rename_i ds es q4 q5
        split at q2
        · rename_i hz
          unfold binV at q
          rw [q4, q5] at q
          simp only [Option.bind_some, binD, if_pos hz, Option.map_some] at q
          cases q
        · cases q2
      · cases q2
  | some c =>
    by_cases h : ∃ ds, c = .d (.list ds)
    · rw [binL_of q h]
    · have hs : newV c S = .stuck := by
        unfold newV
        split
        · exact absurd ⟨_, rfl⟩ h
        · exfalso
          unfold binV at q
          cases q1 : view S x with
          | none => rw [q1] at q; cases q
          | some d1 =>
            cases q2 : view S y with
            | none => rw [q1, q2] at q; cases q
            | some d2 =>
              rw [q1, q2] at q
              simp only [Option.bind_some, Option.map_eq_some_iff] at q
              obtain ⟨z, e, ez⟩ := q
              cases ez
              cases d1 with
              | list i => cases d2 <;> simp only [binD] at e <;> first | (split at e <;> cases e) | cases e
              | int i => cases d2 <;> simp only [binD] at e <;> first | (split at e <;> cases e) | cases e
              | tuple i => cases d2 <;> simp only [binD] at e <;> first | (split at e <;> cases e) | cases e
              | str i => cases d2 <;> simp only [binD] at e <;> first | (split at e <;> cases e) | cases e
              | _ => cases d2 <;> simp [binD] at e
        · rfl
      have e1 : ((R.ofO (some c) S).bind fun v S1 => newV v S1) = .stuck := hs
      rw [e1]
      cases q2 : binL S x y with
      | none => rfl
      | some c2 =>
        exfalso
        unfold binL at q2
        split at q2
        · rename_i ds es q4 q5
          split at q2
          · rename_i hz
            unfold binV at q
            rw [q4, q5] at q
            simp only [Option.bind_some, binD, if_pos hz, Option.map_some] at q
            cases q
            exact h ⟨_, rfl⟩
          · cases q2
        · cases q2
/-- xs + ys, a list of the store -/
theorem sm_addN {ma mb : M Val} {a b : Expr} (ha : SimE fa X a ma) (hb : SimE fa X b mb) :
    SimE fa X (.BinOp a .Add b pos) (fun env S => ((ma env S).bind fun x S1 => (mb env S1).bind fun y S2 => .ofO (binL S2 x y) S2).bind fun v S1 => newV v S1) := by
  refine ⟨fun W tk => PE.imp (pe_op op_cat (ha.run W tk) (hb.run W tk)) fun σ H Q q => ?_⟩
  simp only [R.assoc] at q
  refine q.bind (rep := RepV X.K fa) fun env v S1 x F1 H1 ρ1 s1 e1 r1 p1 => ?_
  refine rdG.mk s1 e1 (p1.bind fun u S2 y F2 H2 ρ2 s2 x2 r2 p2 => ?_)
  have r1 := r1.mono x2.fz x2.rho x2.len
  cases q3 : binL S2 v u with
  | none => rw [q3] at p2; exact p2.elim
  | some c =>
    rw [q3] at p2
    simp only [R.ofO_some, R.bind_ok] at p2
    unfold binL at q3
    split at q3
    · rename_i ds es q4 q5
      split at q3
      · rename_i hz
        cases q3
        obtain ⟨l, xs', rfl, h1, rr⟩ := (s2.view r1 q4).list s2.sub
        obtain ⟨m, ys', rfl, h2, rr2⟩ := (s2.view r2 q5).list s2.sub
        rw [sLine_eq, ← rr.length, ← rr2.length] at hz
        refine ⟨_, _, _, _, rfl, rfl, h1, h2, hz, fun p' hp => ?_⟩
        obtain ⟨ρ3, e3, s3, x3⟩ := s2.alloc hp (.lst (RepVs.of_pure (rr.append rr2)))
        exact p2 _ F2 _ ρ3 s3 x3 ⟨by simp, by rw [e3]⟩
      · cases q3
    · cases q3
end
end MS

-- MsIter
/-! What a for walks. -/
namespace MS
open PySem PySem.Spec PyProof.Rows L2

/-! ### enumerate of a tuple -/
theorem meets_enumerate_new1 {v : Value} {o : Obj} {H : Heap → Prop} (B : Begins v o H) :
    Meets (Builtin.«enumerate.__new__» ⟨[.type "enumerate", v], []⟩) (fun _ R s => H s.heap ∧
      R (.ok (.ret (.ref (s.heap.push o).objs.size))) { s with heap := (s.heap.push o).push { cls := .type "enumerate", data := .fields #[.none, .bool false, .ref s.heap.objs.size, rawInt 0, .none, .none] } }) :=
  .of_wp fun prog w A R s h => by
    obtain ⟨hp, g, d, tk, os⟩ := s; obtain ⟨h1, h⟩ := h
    have hsub := sub_enumerate
    have q1 : ∀ {A' : Around} {E : Value → Shared → Prop} {Q : Value → Shared → Prop}, Q (.ref hp.objs.size) ⟨hp.push o, g, d, tk, os⟩ → wpAny (model prog w) A' (pyIter v) Q E ⟨hp, g, d, tk, os⟩ :=
      fun q => B.iter prog w _ _ ⟨hp, g, d, tk, os⟩ _ h1 q
    wp_walk using q1
    refine wpAny_stack_any fun st => wpAny_pure ?_
    split
    · rename_i c _ _ _ _ _
      cases (c == Value.type "enumerate")
      · wp_walk using q1
        exact ⟨_, rfl, h⟩
      · wp_walk using q1
        exact ⟨_, rfl, h⟩
    · wp_walk using q1
      exact ⟨_, rfl, h⟩
theorem call_enumerate_B {prog : Program} {w : World} {A : Around} {E : Value → Shared → Prop} {s : Shared} {v : Value} {o : Obj} {H : Heap → Prop} {Q : Value → Shared → Prop} (B : Begins v o H) (h1 : H s.heap)
    (h : ∀ h', IsEnum h' (s.heap.objs.size + 1) s.heap.objs.size 0 .none → h'.get? s.heap.objs.size = some o → h'.objs.size = s.heap.objs.size + 2 →
      (∀ b o, s.heap.get? b = some o → h'.get? b = some o) → Q (.ref (s.heap.objs.size + 1)) { s with heap := h' }) :
    wpAny (model prog w) A (call (.type "enumerate") [v]) Q E s := by
  refine callType_new F.called_enumerate (by decide) (F.typeCall_enumerate_1 _) (F.newCall_enumerate_1 _) (fun obj => F.args_object_init_2 obj _) F.entry_enumerate_new
    (meets_enumerate_new1 B) ⟨h1, ?_⟩
  have hz : (s.heap.push o).objs.size = s.heap.objs.size + 1 := Heap.size_push ..
  show _ ∧ _
  rw [hz]
  have he : IsEnum ((s.heap.push o).push { cls := .type "enumerate", data := .fields #[.none, .bool false, .ref s.heap.objs.size, rawInt 0, .none, .none] }) (s.heap.objs.size + 1) s.heap.objs.size 0 .none := by
    have := Heap.get?_push_size (s.heap.push o) (o := { cls := .type "enumerate", data := .fields #[.none, .bool false, .ref s.heap.objs.size, rawInt 0, .none, .none] }) rfl
    rw [hz] at this; exact this
  refine ⟨⟨_, he, rfl⟩, h _ he (Heap.get?_push_of_some _ (Heap.get?_push_size _ B.free)) (by rw [Heap.size_push, hz]) fun b o x => Heap.get?_push_of_some _ (Heap.get?_push_of_some _ x)⟩

/-- the tuple at a, the items in new pairs -/
def IteT (K : PySem.W.Frag) (a : Addr) : L2.It :=
  ⟨fun i H => ∃ (xs : List V) (x : V), SqT K H a xs ∧ xs[i]? = some x, fun i H v H' => ∃ T x, v = .ref T ∧ H T = none ∧ H' = upd H T (.tup [.int (i : Nat), x]) ∧ ∀ xs, SqT K H a xs → xs[i]? = some x, fun i H => ∃ xs : List V, SqT K H a xs ∧ xs.length ≤ i⟩
theorem turn_enumT {P : Program} {w : World} {K : PySem.W.Frag} {elts : List Expr} {kk : Nat} {tpos : Pos} (a e it : Addr) :
    Turn P w K (.Tuple elts kk tpos) (IteT K a) [e, it] e (fun i h => (∃ old, IsEnum h e it ((i : Nat) : Int) old) ∧ h.IsTupleIter it a i ∧ e ≠ it) where
  mem := by simp
  obj := fun i h st b hb => by
    obtain ⟨⟨old, he⟩, ⟨o, ho, hc, hd⟩, _⟩ := st
    have e' : b = e ∨ b = it := by simpa using hb
    rcases e' with z | z
    · rw [z]; exact ⟨_, he, fun v q => nomatch q⟩
    · rw [z]; exact ⟨o, ho, fun v q => by rw [hd] at q; cases q⟩
  keep := fun i h h' st k => let ⟨⟨old, he⟩, hi, hne⟩ := st; ⟨⟨old, k e (by simp) _ he⟩, hi.at fun o q => k it (by simp) o q, hne⟩
  item := by
    intro X hP hw hK hc i pins s σ H E I hf st hg
    subst hP hw hK
    obtain ⟨⟨old, he⟩, hit, hne⟩ := st
    obtain ⟨xs, x, hq, hx⟩ := hg
    obtain ⟨its, rv, p, hz⟩ := I.tuple hq
    obtain ⟨u, hu, ru⟩ := rv.get hx
    have hel : e < s.heap.objs.size := Heap.lt_size he
    have hil : it < s.heap.objs.size := by obtain ⟨_, q, _⟩ := hit; exact Heap.lt_size q
    have hpT : s.heap.IsTuple a its.toArray := p
    have nai : a ≠ it := by
      rintro rfl
      obtain ⟨o1, q1, c1, _⟩ := hit
      obtain ⟨o2, q2, c2, _⟩ := p
      rw [q1] at q2; cases q2
      rw [c1] at c2; exact absurd c2 (by decide)
    have nae : a ≠ e := by
      rintro rfl
      obtain ⟨o2, q2, c2, _⟩ := p
      have he' := he
      unfold IsEnum at he'
      rw [he'] at q2; cases q2
      exact absurd (show Value.type "enumerate" = Value.type "tuple" from c2) (by decide)
    have D := Draws.tuple (prog := X.prog) (w := X.w) (A := X.A.in1) (show X.A.in1.handled = none from I.ok.hd hc) it a nai its.toArray
    have hlt : i < its.toArray.size := by
      have := (List.getElem?_eq_some_iff.mp hu).1
      simpa using this
    refine wpAny_pyNext_enum_itemD D he ⟨hit, hpT⟩ hlt hne (by simp; exact ⟨hne, Ne.symm nae⟩) fun y h' tk hy ho hst hT hsz hk => ?_
    have hyu : y = u := by
      have : its.toArray[i]? = some u := by simpa using hu
      rw [this] at hy; cases hy; rfl
    subst hyu
    refine ⟨_, rfl, wpAny_letOwnedTupleGo_enum (s := { s with heap := h', toks := tk + 1 }) ho fun h'' he' sb => ?_⟩
    have hT2 : h''.get? s.heap.objs.size = some { cls := .type "tuple", data := .seq #[.int i tk, y] } := (sb.2 _ (Nat.ne_of_gt hel)).trans hT
    have new : ObjOk X.prog X.w (upd H s.heap.objs.size (.tup [.int (i : Nat), x])) h'' s.heap.objs.size (.tup [.int (i : Nat), x]) :=
      ⟨by show 2 ≤ sizeLine; decide, [.int i tk, y], .cons ⟨_, rfl⟩ (.cons ru .nil), ⟨_, hT2, rfl, _, rfl⟩⟩
    have I1 : Inv X pins σ (upd H s.heap.objs.size (.tup [.int (i : Nat), x])) { s with heap := h'', toks := tk + 1 } :=
      I.turnedNew (ch := [e, it]) (fun b ob hb q => (sb.2 b (fun z => hb (by simp [z]))).trans (hk b ob (fun z => hb (by simp [z])) (fun z => hb (by simp [z])) q)) hf (Nat.le_refl _) new
    refine ⟨.ref s.heap.objs.size, _, I1, rfl, ⟨_, x, rfl, I.hok.fresh (Nat.le_refl _), rfl, fun ys hy => by rw [I.tuple_inj hy hq]; exact hx⟩, ⟨⟨y, ?_⟩, hst.1.at fun o q => (sb.2 it (Ne.symm hne)).trans q, hne⟩, fun b hb => ?_⟩
    · have e1 : ((i + 1 : Nat) : Int) = (i : Int) + 1 := by omega
      rw [e1]; exact he'
    · have hb' : b < s.heap.objs.size := by
        have e' : b = e ∨ b = it := by simpa using hb
        rcases e' with z | z
        · rw [z]; exact hel
        · rw [z]; exact hil
      rw [upd_ne (Nat.ne_of_lt hb')]
      exact (hf b hb).1
  done := by
    intro X hP hw hK hc i pins s σ H E I hf st hg
    subst hP hw hK
    obtain ⟨⟨old, he⟩, hit, hne⟩ := st
    obtain ⟨xs, hq, hx⟩ := hg
    obtain ⟨its, rv, p, hz⟩ := I.tuple hq
    obtain ⟨f0, f1, f2, f3, f4, f5⟩ := hf it (by simp)
    have hl := rv.length
    have hpT : s.heap.IsTuple a its.toArray := p
    unfold pyNext
    have hT : s.TypeIs (.ref e) "enumerate" := ⟨_, he, rfl⟩
    refine wpAny_bind (wpAny_attempt (wpAny_callSpecial?_slot (name := Str.ofString "__next__") hT F.slot_enumerate_next
      (wpAny_call_entry F.slot_enumerate_next hT F.entry_enumerate_next ?_ (F.args_enumerate_next_1 _))))
    show wpAny _ _ (field (.ref e) 2 >>= _) _ _ _
    refine wpAny_bind (wpAny_field he rfl (x := .ref it) rfl ?_)
    refine wpAny_bind (wpAny_nextOf_tuple_end (show X.A.in1.handled = none from I.ok.hd hc) hit hpT (by simp; omega) fun h' x he' hx' => ?_)
    obtain ⟨o, ho, hc⟩ := hx'
    refine wpAny_bind (wpAny_isInstance (T := "StopIteration") (b := true) ⟨o, ho, hc⟩ isSubtype_stop ?_)
    exact wpAny_pure ⟨rfl, I.turned (t' := s.toks) (fun b o hb q => he' b o hb q) f0 f1 f3 f4 f5⟩
  self := fun A i s Q E st h => let ⟨⟨_, he⟩, _⟩ := st; wpAny_pyIter_enum he h

section
variable {X : Cx}
/-- what a value may hold is no longer than the line -/
def Sized (K : PySem.W.Frag) (H : Hp) (x : V) : Prop := ∀ a xs, x = .ref a → (SqL K H a xs ∨ SqT K H a xs) → xs.length ≤ sizeLine
theorem Inv.sized {pins : List (Addr × Obj)} {σ : L2.St} {H : Hp} {s : Shared} (I : Inv X pins σ H s) (x : V) : Sized X.K H x := fun a xs _ h => by
  rcases h with h | h
  · obtain ⟨_, _, _, z⟩ := I.list h; exact z
  · obtain ⟨_, _, _, z⟩ := I.tuple h; exact z
theorem PE.size {e : Expr} {t : TE} (h : PE X e t) : PE X e (fun σ H Q => t σ H fun x H1 => Sized X.K H1 x → Q x H1) :=
  ⟨fun pins s σ H Q I q => thn (h.run pins s σ H _ I q) fun u s1 ⟨x, H1, I1, r, q1⟩ => ⟨x, H1, I1, r, q1 (Inv.sized I1 x)⟩⟩
theorem PA.size {e : List Expr} {t : TA} (h : PA X e t) : PA X e (fun σ H Q => t σ H fun xs H1 => (∀ x, Sized X.K H1 x) → Q xs H1) :=
  ⟨fun pos pins s σ H Q I q => thn (h.run pos pins s σ H _ I q) fun u s1 ⟨xs, H1, I1, r, q1⟩ => ⟨xs, H1, I1, r, q1 fun x => Inv.sized I1 x⟩⟩
end
section
variable {X : Cx} {tg : Expr}
def iSeq (K : PySem.W.Frag) (tl : TE) : TI := fun σ H R => tl σ H fun x H1 => ∃ a, x = .ref a ∧ (((∃ xs, SqL K H1 a xs) ∧ R (Itl K a) H1) ∨ ((∃ xs, SqT K H1 a xs) ∧ R (Itt K a) H1))
theorem pi_seq {l : Expr} {tl : TE} (hl : PE X l tl) : PI X tg l (iSeq X.K tl) := by
  refine ⟨fun pins s σ H R I h => ?_⟩
  refine thn (hl.run pins s σ H _ I h) fun v s1 ⟨x, H1, I1, r1, q1⟩ => ?_
  obtain ⟨a, e, q⟩ := q1
  subst e
  cases r1
  rcases q with ⟨⟨xs, hq⟩, q⟩ | ⟨⟨xs, hq⟩, q⟩
  · obtain ⟨its, rv, p, hz⟩ := I1.list hq
    refine wpAny_pyIter_list p.isList ?_
    refine ⟨s1.heap.objs.size, [s1.heap.objs.size], _, _, H1, rfl, I1.kept (t' := s1.toks) fun b o e => Heap.get?_push_of_some _ e, turn_list a _, ⟨_, Heap.get?_push_size _ rfl, rfl, rfl⟩, fun b hb => ?_, q⟩
    have e : b = s1.heap.objs.size := by simpa using hb
    subst e
    exact I1.fpOk (Nat.le_refl _) (I1.hok.fresh (Nat.le_refl _))
  · obtain ⟨its, rv, p, hz⟩ := I1.tuple hq
    refine wpAny_pyIter_tuple (show s1.heap.IsTuple a its.toArray from p) ?_
    refine ⟨s1.heap.objs.size, [s1.heap.objs.size], _, _, H1, rfl, I1.kept (t' := s1.toks) fun b o e => Heap.get?_push_of_some _ e, turn_tuple a _, ⟨_, Heap.get?_push_size _ rfl, rfl, rfl⟩, fun b hb => ?_, q⟩
    have e : b = s1.heap.objs.size := by simpa using hb
    subst e
    exact I1.fpOk (Nat.le_refl _) (I1.hok.fresh (Nat.le_refl _))
def iEnumA (K : PySem.W.Frag) (ta : TA) : TI := fun σ H R => ta σ H fun vs H1 => ∃ a, vs = [.ref a] ∧ (((∃ xs, SqL K H1 a xs) ∧ R (Ite K a) H1) ∨ ((∃ xs, SqT K H1 a xs) ∧ R (IteT K a) H1))
theorem pi_enumA {e : Expr} {ta : TA} {p pos tpos : Pos} {elts : List Expr} {kk : Nat} (hg : Gl X "enumerate") (hm : X.mg "enumerate" = none) (ha : PA X [e] ta) (hs : starEach [e] X.env = [(false, eval e X.env)]) :
    PI X (.Tuple elts kk tpos) (.Call (.Name "enumerate" p) [e] [] pos) (iEnumA X.K ta) := by
  refine ⟨fun pins s σ H R I h => ?_⟩
  refine Call_ (ld_blt I hg hm boot_enumerate (PyProof.Rows.callWith_type1 (thn (ha.run pos pins s σ H _ I h) fun us s1 ⟨vs, H1, I1, r1, q1⟩ => ?_) hs rfl))
  obtain ⟨a, ex, q⟩ := q1
  subst ex
  cases r1 with
  | cons r rr =>
    cases rr
    cases r
    have fin : ∀ {J : L2.It} {h' : Heap} {tn : Nat → Heap → Prop}, (∀ b o, s1.heap.get? b = some o → h'.get? b = some o) → R J H1 → Turn X.prog X.w X.K (.Tuple elts kk tpos) J [s1.heap.objs.size + 1, s1.heap.objs.size] (s1.heap.objs.size + 1) tn → tn 0 h' →
        PIE X pins σ (.Tuple elts kk tpos) R (.ref (s1.heap.objs.size + 1)) { s1 with heap := h' } := fun {J h' tn} hk q T st => by
      refine ⟨s1.heap.objs.size + 1, [s1.heap.objs.size + 1, s1.heap.objs.size], tn, J, H1, rfl, I1.kept (t' := s1.toks) hk, T, st, fun b hb => ?_, q⟩
      have e' : b = s1.heap.objs.size + 1 ∨ b = s1.heap.objs.size := by simpa using hb
      have hle : s1.heap.objs.size ≤ b := by
        rcases e' with z | z
        · rw [z]; exact Nat.le_add_right _ _
        · rw [z]; exact Nat.le_refl _
      exact I1.fpOk hle (I1.hok.fresh hle)
    rcases q with ⟨⟨xs, hq⟩, q⟩ | ⟨⟨xs, hq⟩, q⟩
    · obtain ⟨its, rv, p', hz⟩ := I1.list hq
      refine call_enumerate_list p'.isList fun h' he hit hsz hk => wpAny_pyIter_enum he ?_
      exact fin hk q (turn_enum a (s1.heap.objs.size + 1) s1.heap.objs.size) ⟨⟨.none, he⟩, hit, Nat.succ_ne_self _⟩
    · obtain ⟨its, rv, p', hz⟩ := I1.tuple hq
      refine call_enumerate_B (begins_tuple a its.toArray) (show s1.heap.IsTuple a its.toArray from p') fun h' he hit hsz hk => wpAny_pyIter_enum he ?_
      exact fin hk q (turn_enumT a (s1.heap.objs.size + 1) s1.heap.objs.size) ⟨⟨.none, he⟩, ⟨_, hit, rfl, rfl⟩, Nat.succ_ne_self _⟩
end

/-! ### locks -/
theorem lockS_length : ∀ (l : List Nat) (S : Sto), (lockS S l).length = S.length
  | [], _ => rfl
  | n :: l, S => by
    show (lockS (S.set n none) l).length = _
    rw [lockS_length l, List.length_set]
theorem stGet_set (S : Sto) (n m : Nat) (o : Option Ob) : stGet (S.set n o) m = if n = m ∧ n < S.length then o else stGet S m := by
  unfold stGet
  rw [List.getElem?_set]
  by_cases h : n = m
  · subst h
    by_cases h2 : n < S.length
    · simp [h2]
    · simp [h2]
  · simp [h]
theorem stGet_lock : ∀ (l : List Nat) (S : Sto) (n : Nat) (u : Ob), stGet (lockS S l) n = some u → stGet S n = some u ∧ n ∉ l
  | [], _, _, _, h => ⟨h, by simp⟩
  | m :: l, S, n, u, h => by
    obtain ⟨h1, h2⟩ := stGet_lock l (S.set m none) n u h
    rw [stGet_set] at h1
    split at h1
    · cases h1
    · rename_i hn
      refine ⟨h1, ?_⟩
      simp only [List.mem_cons, not_or]
      refine ⟨fun e => ?_, h2⟩
      subst e
      exact hn ⟨rfl, stGet_lt h1⟩
theorem unlockS_length : ∀ (l : List Nat) (S0 S : Sto), (unlockS S0 S l).length = S.length
  | [], _, _ => rfl
  | n :: l, S0, S => by
    show (unlockS S0 (S.set n (S0[n]?).join) l).length = _
    rw [unlockS_length l, List.length_set]
theorem stGet_unlock : ∀ (l : List Nat) (S0 S : Sto) (n : Nat) (u : Ob), stGet (unlockS S0 S l) n = some u → (stGet S n = some u ∧ n ∉ l) ∨ (n ∈ l ∧ stGet S0 n = some u)
  | [], _, _, _, _, h => .inl ⟨h, by simp⟩
  | m :: l, S0, S, n, u, h => by
    rcases stGet_unlock l S0 (S.set m (S0[m]?).join) n u h with ⟨h1, h2⟩ | ⟨h1, h2⟩
    · rw [stGet_set] at h1
      split at h1
      · rename_i hn
        obtain ⟨rfl, _⟩ := hn
        exact .inr ⟨by simp, h1⟩
      · rename_i hn
        by_cases e : m = n
        · subst e
          have := stGet_lt h1
          exact absurd ⟨rfl, this⟩ hn
        · exact .inl ⟨h1, by simp [h2, Ne.symm e]⟩
    · exact .inr ⟨by simp [h1], h2⟩
section
variable {K : PySem.W.Frag} {fa : FA} {F H F' H' : Hp} {ρ ρ' : Nat → Addr} {S S' : Sto}
theorem Sim.lock (s : Sim K fa F H ρ S) (l : List Nat) : Sim K fa F H ρ (lockS S l) :=
  ⟨s.sub, fun n o h => s.off n o (stGet_lock l S n o h).1, fun n o h => by rw [lockS_length]; exact s.obj n o (stGet_lock l S n o h).1, fun n m o u h h' => s.inj n m o u (stGet_lock l S n o h).1 (stGet_lock l S m u h').1⟩
theorem Sim.unlock (s : Sim K fa F H ρ S) (l : List Nat) (s' : Sim K fa F' H' ρ' S') (x : Ext F H ρ (lockS S l) F' H' ρ' S') : Sim K fa F' H' ρ' (unlockS S S' l) ∧ Ext F H ρ S F' H' ρ' (unlockS S S' l) := by
  have len : S.length ≤ S'.length := by have := x.len; rw [lockS_length] at this; exact this
  have rho : ∀ n, n < S.length → ρ' n = ρ n := fun n hn => x.rho n (by rw [lockS_length]; exact hn)
  have apart : ∀ n u, n ∈ l → stGet S n = some u → ∀ m w, stGet (lockS S l) m = some w → ρ n ≠ ρ m := fun n u hn hu m w hw e => by
    obtain ⟨h1, h2⟩ := stGet_lock l S m w hw
    have := s.inj n m u w hu h1 e
    subst this
    exact h2 hn
  have kept : ∀ n u, n ∈ l → stGet S n = some u → ∀ h, H (ρ n) = some h → H' (ρ n) = some h := fun n u hn hu h hh => x.frame _ _ hh fun m w hw => apart n u hn hu m w hw
  refine ⟨⟨s'.sub, fun n o h => ?_, fun n o h => ?_, fun n m o u h h' e => ?_⟩, ⟨x.fz, rho, by rw [unlockS_length]; exact len, fun a o h hn => x.frame a o h fun n u hu => hn n u (stGet_lock l S n u hu).1, x.there, fun n u h => ?_, fun a o h => ?_⟩⟩
  · rcases stGet_unlock l S S' n o h with ⟨h1, _⟩ | ⟨h1, h2⟩
    · exact s'.off n o h1
    · rw [rho n (stGet_lt h2)]
      cases q : F' (ρ n) with
      | none => rfl
      | some z =>
        rcases x.fnew _ _ q with c | c | ⟨m, w, c1, c2⟩ | ⟨ys, c⟩
        · exact absurd (s.off n o h2) c
        · obtain ⟨y, hy, _⟩ := s.obj n o h2
          rw [c] at hy; cases hy
        · exact absurd c2 (apart n o h1 h2 m w c1)
        · obtain ⟨y, hy, ry⟩ := s.obj n o h2
          rw [c] at hy; cases hy; exact ry.notTup.elim
  · rcases stGet_unlock l S S' n o h with ⟨h1, _⟩ | ⟨h1, h2⟩
    · rw [unlockS_length]; exact s'.obj n o h1
    · obtain ⟨y, hy, ry⟩ := s.obj n o h2
      rw [rho n (stGet_lt h2), unlockS_length]
      exact ⟨y, kept n o h1 h2 y hy, ry.mono x.fz rho len⟩
  · have key : ∀ n m o u, stGet S' n = some o → m ∈ l → stGet S m = some u → ρ' n ≠ ρ' m := fun n m o u h1 h2 h3 e => by
      rw [rho m (stGet_lt h3)] at e
      rcases x.new n o h1 with ⟨c1, w, c2⟩ | ⟨c1, c2⟩
      · rw [x.rho n c1] at e
        exact apart m u h2 h3 n w c2 e.symm
      · obtain ⟨y, hy, _⟩ := s.obj m u h3
        rw [e, hy] at c2; cases c2
    rcases stGet_unlock l S S' n o h with ⟨h1, _⟩ | ⟨h1, h2⟩ <;> rcases stGet_unlock l S S' m u h' with ⟨h3, _⟩ | ⟨h3, h4⟩
    · exact s'.inj n m o u h1 h3 e
    · exact absurd e (key n m o u h1 h3 h4)
    · exact absurd e.symm (key m n u o h3 h1 h2)
    · rw [rho n (stGet_lt h2), rho m (stGet_lt h4)] at e
      exact s.inj n m o u h2 h4 e
  · rcases stGet_unlock l S S' n u h with ⟨h1, _⟩ | ⟨h1, h2⟩
    · rcases x.new n u h1 with ⟨c1, w, c2⟩ | ⟨c1, c2⟩
      · exact .inl ⟨by rw [lockS_length] at c1; exact c1, w, (stGet_lock l S n w c2).1⟩
      · exact .inr ⟨by rw [lockS_length] at c1; exact c1, c2⟩
    · exact .inl ⟨stGet_lt h2, u, h2⟩
  · rcases x.fnew a o h with c | c | ⟨m, w, c1, c2⟩ | c
    · exact .inl c
    · exact .inr (.inl c)
    · exact .inr (.inr (.inl ⟨m, w, (stGet_lock l S m w c1).1, c2⟩))
    · exact .inr (.inr (.inr c))
end

/-! ### the meaning of an iterable -/
structure IterOk (K : PySem.W.Frag) (fa : FA) (F0 : Hp) (ρ : Nat → Addr) (n : Nat) (A0 : Hp) (J : L2.It) (items : List Val) : Prop where
  go : ∀ i H, Same A0 H → i < items.length → J.go i H
  stop : ∀ H, Same A0 H → J.stop items.length H
  yld : ∀ i H x H' v F, Same A0 H → Same F0 F → Same F H → items[i]? = some v → J.yld i H x H' → ∃ F', Grow F H F' H' ∧ RepV K fa F' ρ n x v
/-- behind the evaluation of the iterable -/
def ItRep (K : PySem.W.Frag) (fa : FA) (F H : Hp) (ρ : Nat → Addr) (S : Sto) (J : L2.It) (p : List Val × List Nat) : Prop :=
  p.1.length ≤ sizeLine ∧ ∃ A0, Same A0 H ∧ (∀ n u, stGet (lockS S p.2) n = some u → A0 (ρ n) = none) ∧ IterOk K fa F ρ S.length A0 J p.1
def PostI (K : PySem.W.Frag) (fa : FA) (W : WX) (F H : Hp) (ρ : Nat → Addr) (S : Sto) (σ : L2.St) (r : R (List Val × List Nat)) (Q : L2.It → Hp → Prop) : Prop :=
  match r with
  | .stuck => False
  | .ok p S' => ∀ J F' H' ρ', Sim K fa F' H' ρ' S' → Ext F H ρ S F' H' ρ' S' → ItRep K fa F' H' ρ' S' J p → Q J H'
  | .exc e S' => ∀ c d F' H' ρ', Sim K fa F' H' ρ' S' → Ext F H ρ S F' H' ρ' S' → RepX fa F' c d e → W c d σ H'
def rdI (K : PySem.W.Frag) (fa : FA) (W : WX) (m : M (List Val × List Nat)) : TI := fun σ H R =>
  ∃ env S F ρ, Sim K fa F H ρ S ∧ EnvRep K fa F ρ S.length env σ ∧ PostI K fa W F H ρ S σ (m env S) R
structure SimI (fa : FA) (X : Cx) (tg pe : Expr) (m : M (List Val × List Nat)) : Prop where
  run : ∀ W, Takes X W → PI X tg pe (rdI X.K fa W m)
theorem PI.imp {X : Cx} {tg e : Expr} {t t' : TI} (h : PI X tg e t) (k : ∀ σ H Q, t' σ H Q → t σ H Q) : PI X tg e t' := ⟨fun pins s σ H Q I q => h.run pins s σ H Q I (k σ H Q q)⟩
section
variable {K : PySem.W.Frag} {fa : FA} {F H : Hp} {ρ : Nat → Addr} {S : Sto}
/-- the frozen part stays -/
theorem it_list (s : Sim K fa F H ρ S) {a : Addr} {xs : List V} {vs : List Val} (h : SqL K F a xs) (r : RepVs K fa F ρ S.length xs vs) (hz : xs.length ≤ sizeLine) : ItRep K fa F H ρ S (Itl K a) (vs, []) := by
  refine ⟨by rw [← r.length]; exact hz, F, s.sub, fun n u hu => s.off n u hu, ⟨fun i H' hk hi => ?_, fun H' hk => ⟨xs, hk.seq h, by rw [r.length]; exact Nat.le_refl _⟩, fun i H' x H'' v F' hk hF sF hv hy => ?_⟩⟩
  · obtain ⟨x, hx, _⟩ := r.get (List.getElem?_eq_getElem hi)
    exact ⟨xs, x, hk.seq h, hx⟩
  · obtain ⟨rfl, hy⟩ := hy
    obtain ⟨x', hx', rx⟩ := r.get hv
    have := hy xs (hk.seq h)
    rw [hx'] at this; cases this
    exact ⟨F', .inl ⟨rfl, rfl⟩, rx.mono hF (fun _ _ => rfl) (Nat.le_refl _)⟩
theorem it_tup (s : Sim K fa F H ρ S) {a : Addr} {xs : List V} {vs : List Val} (h : SqT K F a xs) (r : RepVs K fa F ρ S.length xs vs) (hz : xs.length ≤ sizeLine) : ItRep K fa F H ρ S (Itt K a) (vs, []) := by
  refine ⟨by rw [← r.length]; exact hz, F, s.sub, fun n u hu => s.off n u hu, ⟨fun i H' hk hi => ?_, fun H' hk => ⟨xs, SqT.mono hk h, by rw [r.length]; exact Nat.le_refl _⟩, fun i H' x H'' v F' hk hF sF hv hy => ?_⟩⟩
  · obtain ⟨x, hx, _⟩ := r.get (List.getElem?_eq_getElem hi)
    exact ⟨xs, x, SqT.mono hk h, hx⟩
  · obtain ⟨rfl, hy⟩ := hy
    obtain ⟨x', hx', rx⟩ := r.get hv
    have := hy xs (SqT.mono hk h)
    rw [hx'] at this; cases this
    exact ⟨F', .inl ⟨rfl, rfl⟩, rx.mono hF (fun _ _ => rfl) (Nat.le_refl _)⟩
theorem it_ref (s : Sim K fa F H ρ S) {n : Nat} {vs : List Val} {xs : List V} (h : stGet S n = some (.lst vs)) (hx : H (ρ n) = some (.lst xs)) (r : RepVs K fa F ρ S.length xs vs) (hz : xs.length ≤ sizeLine) : ItRep K fa F H ρ S (Itl K (ρ n)) (vs, [n]) := by
  have hA : ∀ H' : Hp, Same (fun b => if b = ρ n then H b else none) H' → SqL K H' (ρ n) xs := fun H' hk => SqL.of (hk (ρ n) _ (by dsimp only; rw [if_pos rfl]; exact hx))
  refine ⟨by rw [← r.length]; exact hz, fun b => if b = ρ n then H b else none, fun b o hb => ?_, fun m u hu => ?_, ⟨fun i H' hk hi => ?_, fun H' hk => ⟨xs, hA H' hk, by rw [r.length]; exact Nat.le_refl _⟩, fun i H' x H'' v F' hk hF sF hv hy => ?_⟩⟩
  · dsimp only at hb
    split at hb
    · exact hb
    · cases hb
  · dsimp only
    obtain ⟨h1, h2⟩ := stGet_lock [n] S m u hu
    rw [if_neg]
    intro e
    have := s.inj m n u _ h1 h e
    subst this
    simp at h2
  · obtain ⟨x, hx', _⟩ := r.get (List.getElem?_eq_getElem hi)
    exact ⟨xs, x, hA H' hk, hx'⟩
  · obtain ⟨rfl, hy⟩ := hy
    obtain ⟨x', hx', rx⟩ := r.get hv
    have := hy xs (hA _ hk)
    rw [hx'] at this; cases this
    exact ⟨F', .inl ⟨rfl, rfl⟩, rx.mono hF (fun _ _ => rfl) (Nat.le_refl _)⟩
theorem it_range (s : Sim K fa F H ρ S) (a b : Int) (hz : (b - a).toNat ≤ sizeLine) : ItRep K fa F H ρ S (Itr a (b - a).toNat) (rangeVs a b, []) := by
  have hl : (rangeVs a b).length = (b - a).toNat := by simp [rangeVs]
  refine ⟨by rw [hl]; exact hz, fun _ => none, (fun _ _ z => by cases z), (fun _ _ _ => rfl), ⟨fun i H' _ hi => by rw [hl] at hi; exact hi, fun H' _ => by rw [hl]; exact Nat.le_refl _, fun i H' x H'' v F' _ hF sF hv hy => ?_⟩⟩
  obtain ⟨rfl, rfl⟩ := hy
  refine ⟨F', .inl ⟨rfl, rfl⟩, ?_⟩
  have hi : i < (b - a).toNat := by have := (List.getElem?_eq_some_iff.mp hv).1; rw [hl] at this; exact this
  unfold rangeVs at hv
  rw [List.getElem?_map, List.getElem?_range hi] at hv
  cases hv
  exact Rep.int _
/-- pairs of a count and an item -/
theorem it_enumL {A0 : Hp} {l : List Nat} (hA : Same A0 H) (hoff : ∀ n u, stGet (lockS S l) n = some u → A0 (ρ n) = none) {a : Addr} {xs : List V} {ds : List D} (h : ∀ H', Same A0 H' → SqL K H' a xs) (r : Reps K F xs ds) (hz : xs.length ≤ sizeLine) : ItRep K fa F H ρ S (Ite K a) (enumD ds, l) := by
  have hl : (enumD ds).length = xs.length := by simp [enumD, r.length]
  refine ⟨by rw [hl]; exact hz, A0, hA, hoff, ⟨fun i H' hk hi => ?_, fun H' hk => ⟨xs, h H' hk, by rw [hl]; exact Nat.le_refl _⟩, fun i H' x H'' v F' hk hF sF hv hy => ?_⟩⟩
  · rw [hl] at hi
    exact ⟨xs, xs[i], h H' hk, List.getElem?_eq_getElem hi⟩
  · obtain ⟨T, y, rfl, hT, rfl, hy⟩ := hy
    have hy' := hy xs (h _ hk)
    obtain ⟨d, hd, rd⟩ := r.getV hy'
    have hve : v = .d (.tuple [.int i, d]) := by
      unfold enumD at hv
      rw [List.getElem?_map, List.getElem?_zipIdx, hd] at hv
      simp at hv
      exact hv.symm
    subst hve
    refine ⟨upd F' T (.tup [.int (i : Nat), y]), .inr (.inl ⟨T, _, hT, rfl, rfl⟩), ?_⟩
    have fF : F' T = none := sF.free hT
    have sF' : Same F' (upd F' T (.tup [.int (i : Nat), y])) := fun b o hb => by rw [upd_ne (ne_of_none hb fF)]; exact hb
    exact Rep.tup upd_same (.cons (.int _) (.cons (rd.mono (hF.trans sF')) .nil))
theorem it_enumT {A0 : Hp} {l : List Nat} (hA : Same A0 H) (hoff : ∀ n u, stGet (lockS S l) n = some u → A0 (ρ n) = none) {a : Addr} {xs : List V} {ds : List D} (h : ∀ H', Same A0 H' → SqT K H' a xs) (r : Reps K F xs ds) (hz : xs.length ≤ sizeLine) : ItRep K fa F H ρ S (IteT K a) (enumD ds, l) := by
  have hl : (enumD ds).length = xs.length := by simp [enumD, r.length]
  refine ⟨by rw [hl]; exact hz, A0, hA, hoff, ⟨fun i H' hk hi => ?_, fun H' hk => ⟨xs, h H' hk, by rw [hl]; exact Nat.le_refl _⟩, fun i H' x H'' v F' hk hF sF hv hy => ?_⟩⟩
  · rw [hl] at hi
    exact ⟨xs, xs[i], h H' hk, List.getElem?_eq_getElem hi⟩
  · obtain ⟨T, y, rfl, hT, rfl, hy⟩ := hy
    have hy' := hy xs (h _ hk)
    obtain ⟨d, hd, rd⟩ := r.getV hy'
    have hve : v = .d (.tuple [.int i, d]) := by
      unfold enumD at hv
      rw [List.getElem?_map, List.getElem?_zipIdx, hd] at hv
      simp at hv
      exact hv.symm
    subst hve
    refine ⟨upd F' T (.tup [.int (i : Nat), y]), .inr (.inl ⟨T, _, hT, rfl, rfl⟩), ?_⟩
    have fF : F' T = none := sF.free hT
    have sF' : Same F' (upd F' T (.tup [.int (i : Nat), y])) := fun b o hb => by rw [upd_ne (ne_of_none hb fF)]; exact hb
    exact Rep.tup upd_same (.cons (.int _) (.cons (rd.mono (hF.trans sF')) .nil))
end
theorem repVs_ints {K : PySem.W.Frag} {fa : FA} {F : Hp} {ρ : Nat → Addr} {n : Nat} : ∀ ns : List Int, RepVs K fa F ρ n (ns.map V.int) (ns.map fun n => Val.d (.int n))
  | [] => .nil
  | n :: ns => .cons (Rep.int n) (repVs_ints ns)
section
variable {fa : FA} {X : Cx} {a b tg : Expr} {ma mb : M Val} {pos : Pos}
theorem si_over (ha : SimE fa X a ma) : SimI fa X tg a (fun env S => (ma env S).bind fun v S1 => .ofO (itemsV S1 v) S1) := by
  refine ⟨fun W tk => PI.imp (pi_seq (PE.size (ha.run W tk))) fun σ H Q q => ?_⟩
  obtain ⟨env, S, F, ρ, s, e, p⟩ := q
  refine ⟨env, S, F, ρ, s, e, ?_⟩
  dsimp only at p
  cases q0 : ma env S with
  | stuck => rw [q0] at p; exact p
  | exc e S' => rw [q0] at p; exact p
  | ok v S1 =>
    rw [q0] at p
    simp only [R.bind_ok] at p
    intro x F1 H1 ρ1 s1 x1 r1 hz
    cases q1 : itemsV S1 v with
    | none => rw [q1] at p; exact p.elim
    | some it =>
      rw [q1] at p
      have p' : ∀ J, ItRep X.K fa F1 H1 ρ1 S1 J it → Q J H1 := fun J hJ => p J F1 H1 ρ1 s1 x1 hJ
      cases v with
      | fn _ => cases q1
      | exn _ => cases q1
      | scr ns =>
        obtain ⟨l, rfl, h⟩ := r1
        cases q1
        exact ⟨l, rfl, .inl ⟨⟨_, s1.sub.seq h⟩, p' _ (it_list s1 h (repVs_ints ns) (hz _ _ rfl (.inl (s1.sub.seq h))))⟩⟩
      | ref n =>
        obtain ⟨h1, rfl⟩ := r1
        simp only [itemsV] at q1
        cases q2 : stGet S1 n with
        | none => rw [q2] at q1; cases q1
        | some o =>
          rw [q2] at q1
          cases o with
          | dct _ => cases q1
          | kv _ _ => cases q1
          | lst vs =>
            cases q1
            obtain ⟨ho, h2, r2⟩ := s1.obj n _ q2
            cases r2 with
            | lst r2 => exact ⟨_, rfl, .inl ⟨⟨_, SqL.of h2⟩, p' _ (it_ref s1 q2 h2 r2 (hz _ _ rfl (.inl (SqL.of h2))))⟩⟩
      | d d =>
        have r' : VRep X.K F1 H1 x d := .p r1
        cases d with
        | list ds =>
          cases q1
          cases (show Rep X.K F1 x (.list ds) from r1) with
          | lst h r => exact ⟨_, rfl, .inl ⟨⟨_, SqL.of (s1.sub _ _ h)⟩, p' _ (it_list s1 (SqL.of h) (RepVs.of_pure r) (hz _ _ rfl (.inl (SqL.of (s1.sub _ _ h)))))⟩⟩
        | tuple ds =>
          cases q1
          cases (show Rep X.K F1 x (.tuple ds) from r1) with
          | tup h r => exact ⟨_, rfl, .inr ⟨⟨_, SqT.of (s1.sub _ _ h)⟩, p' _ (it_tup s1 (SqT.of h) (RepVs.of_pure r) (hz _ _ rfl (.inr (SqT.of (s1.sub _ _ h)))))⟩⟩
        | _ => cases q1
theorem si_range1 {p : Pos} (hg : Gl X "range") (hm : X.mg "range" = none) (ha : SimE fa X a ma) (hn : noStar a = true) :
    SimI fa X tg (.Call (.Name "range" p) [a] [] pos) (fun env S => (ma env S).bind fun v S1 => .ofO (match v with | .d (.int n) => if n ≤ 16777216 ∧ -16777216 ≤ n then some (rangeVs 0 n, []) else none | _ => none) S1) := by
  refine ⟨fun W tk => PI.imp (pi_range1 hg hm ((sa_cons ha sa_nil hn).run W tk) (starEach_cons hn _ _)) fun σ H Q q => ?_⟩
  obtain ⟨env, S, F, ρ, s, e, p⟩ := q
  refine ⟨env, S, F, ρ, s, e, ?_⟩
  dsimp only at p
  unfold mcons mnil
  cases q0 : ma env S with
  | stuck => rw [q0] at p; exact p
  | exc e S' => rw [q0] at p; exact p
  | ok v S1 =>
    rw [q0] at p
    simp only [R.bind_ok] at p ⊢
    intro xs F1 H1 ρ1 s1 x1 r1
    cases r1 with
    | cons r1 rn =>
      cases rn
      cases v with
      | d d =>
        cases d with
        | int n =>
          cases (show Rep X.K F1 _ (.int n) from r1)
          dsimp only at p
          split at p
          · rename_i hz
            refine ⟨n, rfl, by omega, by omega, ?_⟩
            have := it_range s1 0 n (by rw [sizeLine_eq]; omega)
            rw [Int.sub_zero] at this
            exact p _ F1 H1 ρ1 s1 x1 this
          · exact p.elim
        | _ => exact p.elim
      | _ => exact p.elim
theorem si_range2 {p : Pos} (hg : Gl X "range") (hm : X.mg "range" = none) (ha : SimE fa X a ma) (hb : SimE fa X b mb) (hn : noStar a = true) (hn2 : noStar b = true) :
    SimI fa X tg (.Call (.Name "range" p) [a, b] [] pos) (fun env S => (ma env S).bind fun x S1 => (mb env S1).bind fun y S2 =>
      .ofO (match x, y with | .d (.int i), .d (.int j) => if -8388608 ≤ i ∧ i ≤ 8388608 ∧ -8388608 ≤ j ∧ j ≤ 8388608 then some (rangeVs i j, []) else none | _, _ => none) S2) := by
  refine ⟨fun W tk => PI.imp (pi_range2 hg hm ((sa_cons ha (sa_cons hb sa_nil hn2) hn).run W tk) (by rw [starEach_cons hn, starEach_cons hn2]; rfl) (starEach_cons hn2 _ _)) fun σ H Q q => ?_⟩
  obtain ⟨env, S, F, ρ, s, e, p⟩ := q
  refine ⟨env, S, F, ρ, s, e, ?_⟩
  dsimp only at p
  unfold mcons mnil
  cases q0 : ma env S with
  | stuck => rw [q0] at p; exact p
  | exc e S' => rw [q0] at p; exact p
  | ok v S1 =>
    rw [q0] at p
    simp only [R.bind_ok] at p ⊢
    cases q1 : mb env S1 with
    | stuck => rw [q1] at p; exact p
    | exc e S' => rw [q1] at p; exact p
    | ok u S2 =>
      rw [q1] at p
      simp only [R.bind_ok] at p ⊢
      intro xs F1 H1 ρ1 s1 x1 r1
      cases r1 with
      | cons r1 rn =>
        cases rn with
        | cons r2 rn =>
          cases rn
          cases v with
          | d d =>
            cases d with
            | int n =>
              cases u with
              | d d2 =>
                cases d2 with
                | int n2 =>
                  cases (show Rep X.K F1 _ (.int n) from r1)
                  cases (show Rep X.K F1 _ (.int n2) from r2)
                  dsimp only at p
                  split at p
                  · rename_i hz
                    exact ⟨n, n2, rfl, by omega, p _ F1 H1 ρ1 s1 x1 (it_range s1 n n2 (by rw [sizeLine_eq]; omega))⟩
                  · exact p.elim
                | _ => exact p.elim
              | _ => exact p.elim
            | _ => exact p.elim
          | _ => exact p.elim
theorem si_enum {p tpos : Pos} {elts : List Expr} {kk : Nat} (hg : Gl X "enumerate") (hm : X.mg "enumerate" = none) (ha : SimE fa X a ma) (hn : noStar a = true) :
    SimI fa X (.Tuple elts kk tpos) (.Call (.Name "enumerate" p) [a] [] pos) (fun env S => (ma env S).bind fun v S1 => .ofO ((pureItems S1 v).map fun p => (enumD p.1, p.2)) S1) := by
  refine ⟨fun W tk => PI.imp (pi_enumA hg hm (PA.size ((sa_cons ha sa_nil hn).run W tk)) (starEach_cons hn _ _)) fun σ H Q q => ?_⟩
  obtain ⟨env, S, F, ρ, s, e, p⟩ := q
  refine ⟨env, S, F, ρ, s, e, ?_⟩
  dsimp only at p
  unfold mcons mnil
  cases q0 : ma env S with
  | stuck => rw [q0] at p; exact p
  | exc e S' => rw [q0] at p; exact p
  | ok v S1 =>
    rw [q0] at p
    simp only [R.bind_ok] at p ⊢
    intro xs F1 H1 ρ1 s1 x1 r1 hz
    cases r1 with
    | cons r1 rn =>
      cases rn
      rename_i x
      cases q1 : pureItems S1 v with
      | none => rw [q1] at p; exact p.elim
      | some it =>
        rw [q1] at p
        have p' : ∀ J, ItRep X.K fa F1 H1 ρ1 S1 J (enumD it.1, it.2) → Q J H1 := fun J hJ => p J F1 H1 ρ1 s1 x1 hJ
        unfold pureItems at q1
        cases v with
        | fn _ => cases q1
        | exn _ => cases q1
        | scr ns =>
          obtain ⟨l, rfl, h⟩ := r1
          simp only [itemsV, Option.bind_some] at q1
          have e1 : (ns.map fun n => Val.d (.int n)) = (ns.map PyData.int).map Val.d := by rw [List.map_map]; rfl
          rw [e1, pureVs_map] at q1
          cases q1
          exact ⟨l, rfl, .inl ⟨⟨_, s1.sub.seq h⟩, p' _ (it_enumL (A0 := F1) (l := []) s1.sub (fun n u hu => s1.off n u hu) (fun H' hk => hk.seq h) (Reps.of_ints ns) (hz _ _ _ rfl (.inl (s1.sub.seq h))))⟩⟩
        | ref n =>
          obtain ⟨h1, rfl⟩ := r1
          simp only [itemsV] at q1
          cases q2 : stGet S1 n with
          | none => rw [q2] at q1; cases q1
          | some o =>
            rw [q2] at q1
            cases o with
            | dct _ => cases q1
            | kv _ _ => cases q1
            | lst vs =>
              simp only [Option.bind_some] at q1
              cases q3 : pureVs vs with
              | none => rw [q3] at q1; cases q1
              | some ds =>
                rw [q3] at q1
                cases q1
                obtain ⟨ho, h2, r2⟩ := s1.obj n _ q2
                cases r2 with
                | lst r2 =>
                  have hzz := hz _ _ _ rfl (.inl (SqL.of h2))
                  refine ⟨_, rfl, .inl ⟨⟨_, SqL.of h2⟩, p' _ (it_enumL (A0 := fun b => if b = ρ1 n then H1 b else none) (l := [n]) (fun b o hb => ?_) (fun m u hu => ?_) (fun H' hk => SqL.of (hk (ρ1 n) _ (by dsimp only; rw [if_pos rfl]; exact h2))) (r2.pure q3) hzz)⟩⟩
                  · dsimp only at hb
                    split at hb
                    · exact hb
                    · cases hb
                  · obtain ⟨h3, h4⟩ := stGet_lock [n] S1 m u hu
                    rw [if_neg]
                    intro e
                    have := s1.inj m n u _ h3 q2 e
                    subst this
                    simp at h4
        | d d =>
          cases d with
          | list ds =>
            simp only [itemsV, Option.bind_some, pureVs_map] at q1
            cases q1
            cases (show Rep X.K F1 x (.list ds) from r1) with
            | lst h r => exact ⟨_, rfl, .inl ⟨⟨_, SqL.of (s1.sub _ _ h)⟩, p' _ (it_enumL (A0 := F1) (l := []) s1.sub (fun n u hu => s1.off n u hu) (fun H' hk => hk.seq (SqL.of h)) r (hz _ _ _ rfl (.inl (SqL.of (s1.sub _ _ h)))))⟩⟩
          | tuple ds =>
            simp only [itemsV, Option.bind_some, pureVs_map] at q1
            cases q1
            cases (show Rep X.K F1 x (.tuple ds) from r1) with
            | tup h r => exact ⟨_, rfl, .inr ⟨⟨_, SqT.of (s1.sub _ _ h)⟩, p' _ (it_enumT (A0 := F1) (l := []) s1.sub (fun n u hu => s1.off n u hu) (fun H' hk => SqT.mono hk (SqT.of h)) r (hz _ _ _ rfl (.inr (SqT.of (s1.sub _ _ h)))))⟩⟩
          | _ => cases q1
end
end MS

-- MsFn
/-! Calls of defs, where no repr is under way (guards = []). -/
namespace MS
open PySem PySem.Spec PyProof.Rows L2

structure FnG (P : Program) (w : World) (K : PySem.W.Frag) (mg : Str → Option Value) (base : Heap) (k : Nat) (f : Addr) (fd : FuncData) (ps : List Str) (sp : Sp) : Prop where
  len : ∀ vs H Q E, sp vs H Q E → vs.length = ps.length
  run : ∀ (A : Around) (outer : List PySem.Env) (s : Shared) (H : Hp) (args : Args) (us : List Value) (vs : List V) (Q : VK) (E : XK), Room k A → A.guards = some [] →
    Env0 P w K mg base A outer s H → BindsTo s fd args (ps.zip us) → Vals vs us → sp vs H Q E →
    codeAny (model P w) A (.call (.ref f) args) (CR (L2.CX P w) outer P w H s Q E) s

theorem fnG_of {P : Program} {w : World} {K : PySem.W.Frag} {mg : Str → Option Value} {base : Heap} {x qual : Str} {params : Arguments} {body : List Stmt} {scope : Scope} {dvs : List V} {kws : List (Str × V)} {f : Addr} {fd : FuncData}
    {N ps : List Str} {k : Nat} {sp : Sp} (F : FunD K x qual params body scope dvs kws f fd) (S : FnScope N ps scope) (len : ∀ vs H Q E, sp vs H Q E → vs.length = ps.length)
    (hb : ∀ (cdv : Value) (A : Around) (outer : List PySem.Env) (s : Shared) (H : Hp) (vs : List V) (Q : VK) (E : XK), Room k (A.deeper (envOfC qual scope s.heap.objs.size f cdv)) → (A.deeper (envOfC qual scope s.heap.objs.size f cdv)).guards = some [] → sp vs H Q E →
      ∃ t, PSs (cxOf (L2.CX P w) P w K mg base N qual scope f cdv A outer s H E) body t ∧ t { nx := fun _ H' => Q .non H', rt := Q } (start N vs) H) :
    FnG P w K mg base (k + 1) f fd ps sp := by
  obtain ⟨oc, od, dV, kV, doc, pm, an, cdv, ct, osl, rfl, lk, hcd, _, _⟩ := F.ex
  refine ⟨len, fun A outer s H args us vs Q E hr hg e0 hbind r hsp => ?_⟩
  have keepb : ∀ b o, base.get? b = some o → s.heap.get? b = some o := fun b o e => (e0.bs b o e).1
  have KX : K.In s.heap := e0.mod.kin.keeps keepb
  refine codeAny_call_function hr.depth (KX _ _ lk) rfl S.co S.gen rfl (PySem.W.codeRec_of KX hcd) (hbind _ _ _ _ ?_)
  refine wpAny_newFunctionEnv_cells S.kind (fun ⟨n, v⟩ hy => ?_) fun env he s1 y => ?_
  · rcases S.par n (List.of_mem_zip hy).1 with q | q
    · exact .inl q
    · exact .inr ⟨q, PySem.W.cellsFrom_some _ _ _ (.inl q)⟩
  subst he
  refine ⟨(e0.mod.nolimit.keeps keepb).keeps y.toInCall.keep, codeAny_func ?_⟩
  obtain ⟨t, ht, hq⟩ := hb cdv A outer s H vs Q E (hr.deeper _) hg hsp
  refine wpAny_mono (ht.run [] s1 (start N vs) H _ (inv_start S hr.hd e0 (len _ _ _ _ hsp) r y) hq) (fun fl s' hs => ?_) fun e s' hs => hs
  cases fl with
  | ret u =>
    obtain ⟨v, σ', H', J, rv, q⟩ := hs
    exact ⟨v, H', J.os, J.bare, J.base, J.hok, rv, q⟩
  | next =>
    obtain ⟨σ', H', J, q⟩ := hs
    exact ⟨V.non, H', J.os, J.bare, J.base, J.hok, rfl, q⟩
  | brk => exact hs.elim fun _ z => z.elim fun _ z => z.2.elim
  | cont => exact hs.elim fun _ z => z.elim fun _ z => z.2.elim

section
variable {X : Cx} {k : Nat} {f : Addr} {fd : FuncData} {ps : List Str} {sp : Sp} {E : L2.St → XK} {x : Str} {p pos : Pos} {e : Expr} {es : List Expr} {t : TA}
def tCallG (sp : Sp) (E : L2.St → XK) (t : TA) : TE := fun σ H Q => t σ H fun vs H1 => sp vs H1 Q (E σ)
theorem run_G {pins : List (Addr × Obj)} {σ : L2.St} {H : Hp} {s : Shared} {Q : VK} {us : List Value} {vs : List V} (F : FnG X.prog X.w X.K X.mg X.base k f fd ps sp) (hr : Room k X.A) (hg : X.A.guards = some []) (hb : Binds X.K fd ps [])
    (hx : PassesAt (L2.CX X.prog X.w) X σ (E σ)) (I : Inv X pins σ H s) (r : Vals vs us) (h : sp vs H Q (E σ)) : wpAny (model X.prog X.w) X.A (call (.ref f) us) (EP X pins σ Q) X.xe s := by
  have hl : us.length = ps.length := r.length.symm.trans (F.len _ _ _ _ h)
  have b := hb s us I.kIn (by simpa using hl)
  rw [List.append_nil] at b
  refine wpAny_call (codeAny_mono (F.run X.A X.stack s H ⟨us, []⟩ us vs Q (E σ) hr hg I.env0 b r h) fun r s' hq => ?_)
  cases r with
  | error e => exact hx pins H s e s' I hq
  | ok fl => cases fl <;> first | exact I.after hq | exact False.elim hq
theorem pe_callG (F : FnG X.prog X.w X.K X.mg X.base k f fd ps sp) (hr : Room k X.A) (hgu : X.A.guards = some []) (hg : Gl X x) (hm : X.mg x = some (.ref f)) (hk : PySem.W.keepIn X.K (.ref f) = true) (hb : Binds X.K fd ps []) (hx : ∀ σ, PassesAt (L2.CX X.prog X.w) X σ (E σ))
    (ha : PA X (e :: es) t) (hdb : (x == ("__debug__" : Str)) = false) (he : starEach (e :: es) X.env = (false, eval e X.env) :: starEach es X.env) (hpl : (backTo pos (starEach es X.env)).any (·.1) = false) :
    PE X (.Call (.Name x p) (e :: es) [] pos) (tCallG sp E t) := by
  refine ⟨fun pins s σ H Q I h => wpAny_Call_Name_kw (ld_glob I hg hm ?_ hdb)⟩
  exact PySem.W.callWith_K (h₀ := X.base) I.ok.mod.kin hk (thn (ha.run pos pins s σ H _ I h) fun us s1 ⟨vs, H1, I1, r, q⟩ => ⟨I1.kIn, run_G F hr hgu hb (hx σ) I1 r q⟩) he hpl
theorem pe_callG0 (F : FnG X.prog X.w X.K X.mg X.base k f fd ps sp) (hr : Room k X.A) (hgu : X.A.guards = some []) (hg : Gl X x) (hm : X.mg x = some (.ref f)) (hk : PySem.W.keepIn X.K (.ref f) = true) (hb : Binds X.K fd ps []) (hx : ∀ σ, PassesAt (L2.CX X.prog X.w) X σ (E σ))
    (hdb : (x == ("__debug__" : Str)) = false) : PE X (.Call (.Name x p) [] [] pos) (tCallG sp E tNil) := by
  refine ⟨fun pins s σ H Q I h => wpAny_Call_Name_kw (ld_glob I hg hm ?_ hdb)⟩
  exact PySem.W.callWith_K0 I.kIn hk (run_G (us := []) F hr hgu hb (hx σ) I .nil h)
end

/-! ### a def's promise by its meaning -/
def spR (K : PySem.W.Frag) (fa : FA) (r : List Val → Sto → R Val) : Sp := fun vs H Q E =>
  ∃ args S F ρ, Sim K fa F H ρ S ∧ RepVs K fa F ρ S.length vs args ∧ Post K fa (fun c d _ H' => E c d H') (RepV K fa) F H ρ S [] (r args S) Q

/-- what stands behind the top: the defs of I keep their meaning C, up to level k -/
structure Lib (X : Cx) (fa : FA) (nm : Nat → Str) (ps : Nat → List Str) (I : List Nat) (C : Runner) (k : Nat) : Prop where
  mg : ∀ i ∈ I, X.mg (nm i) = some (.ref (fa i))
  kp : ∀ i ∈ I, PySem.W.keepIn X.K (.ref (fa i)) = true
  fn : ∀ i ∈ I, ∃ fd, Binds X.K fd (ps i) [] ∧ FnG X.prog X.w X.K X.mg X.base k (fa i) fd (ps i) (spR X.K fa (C i))

section
variable {fa : FA} {X : Cx} {pe a b c : Expr} {m ma mb mc : M Val} {pos : Pos} {nm : Nat → Str} {ps : Nat → List Str} {I : List Nat} {C : Runner} {k : Nat}
theorem rd_call {r : List Val → Sto → R Val} {W : WX} {ms : M (List Val)} {σ : L2.St} {H : Hp} {Q : VK} (q : rdE X.K fa W (fun env S => (ms env S).bind fun vs S1 => r vs S1) σ H Q) : tCallG (spR X.K fa r) (WE W) (rdA X.K fa W ms) σ H Q := by
  refine q.bind (rep := RepVs X.K fa) fun env vs S1 xs F1 H1 ρ1 s1 e1 r1 p1 => ?_
  refine ⟨vs, S1, F1, ρ1, s1, r1, ?_⟩
  cases hr : r vs S1 with
  | stuck => rw [hr] at p1; exact p1
  | ok v S2 => rw [hr] at p1; exact p1
  | exc e S2 => rw [hr] at p1; exact p1
theorem sm_call {i : Nat} {p : Pos} {e : Expr} {es : List Expr} {ms : M (List Val)} (L : Lib X fa nm ps I C k) (hi : i ∈ I) (hr : Room k X.A) (hgu : X.A.guards = some []) (hg : Gl X (nm i)) (hdb : (nm i == ("__debug__" : Str)) = false) (ha : SimA fa X (e :: es) ms) (hs : (e :: es).all noStar = true) :
    SimE fa X (.Call (.Name (nm i) p) (e :: es) [] pos) (fun env S => (ms env S).bind fun vs S1 => C i vs S1) := by
  obtain ⟨fd, hb, F⟩ := L.fn i hi
  rw [List.all_cons, Bool.and_eq_true] at hs
  exact ⟨fun W tk => PE.imp (pe_callG (E := WE W) F hr hgu hg (L.mg i hi) (L.kp i hi) hb (fun σ => passAt tk σ) (ha.run W tk) hdb (starEach_cons hs.1 _ _) (starEach_plain es X.env pos hs.2)) fun σ H Q q => rd_call q⟩
theorem sm_call0 {i : Nat} {p : Pos} (L : Lib X fa nm ps I C k) (hi : i ∈ I) (hr : Room k X.A) (hgu : X.A.guards = some []) (hg : Gl X (nm i)) (hdb : (nm i == ("__debug__" : Str)) = false) :
    SimE fa X (.Call (.Name (nm i) p) [] [] pos) (fun env S => C i [] S) := by
  obtain ⟨fd, hb, F⟩ := L.fn i hi
  refine ⟨fun W tk => PE.imp (pe_callG0 (E := WE W) F hr hgu hg (L.mg i hi) (L.kp i hi) hb (fun σ => passAt tk σ) hdb) fun σ H Q q => ?_⟩
  obtain ⟨env, S, F', ρ, s, e, p⟩ := q
  refine ⟨[], S, F', ρ, s, .nil, ?_⟩
  dsimp only at p
  cases hr : C i [] S with
  | stuck => rw [hr] at p; exact p
  | ok v S2 => rw [hr] at p; exact p
  | exc e S2 => rw [hr] at p; exact p
/-! ### a list frozen -/
theorem Sim.freeze {F H : Hp} {ρ : Nat → Addr} {S : Sto} {n : Nat} {vs : List Val} {ds : List D} (s : Sim X.K fa F H ρ S) (h : stGet S n = some (.lst vs)) (hp : pureVs vs = some ds) :
    ∃ F', Sim X.K fa F' H ρ (S.set n none) ∧ Ext F H ρ S F' H ρ (S.set n none) ∧ Rep X.K F' (.ref (ρ n)) (.list ds) := by
  obtain ⟨ho, h2, r2⟩ := s.obj n _ h
  cases r2 with
  | lst r =>
    rename_i xs
    have fF : F (ρ n) = none := s.off n _ h
    have sF : Same F (upd F (ρ n) (.lst xs)) := fun a u q => by rw [upd_ne (ne_of_none q fF)]; exact q
    have gl : ∀ m u, stGet (S.set n none) m = some u → stGet S m = some u ∧ m ≠ n := fun m u q => by
      rw [stGet_set] at q
      split at q
      · cases q
      · rename_i hn
        refine ⟨q, fun e => hn ⟨e.symm, stGet_lt h⟩⟩
    refine ⟨upd F (ρ n) (.lst xs), ⟨fun a u q => ?_, fun m u q => ?_, fun m u q => ?_, fun m m' u u' q q' e => s.inj m m' u u' (gl m u q).1 (gl m' u' q').1 e⟩,
      ⟨sF, fun _ _ => rfl, by simp, fun a u q _ => q, fun a u q => ⟨u, q⟩, fun m u q => .inl ⟨stGet_lt (gl m u q).1, u, (gl m u q).1⟩, fun a u q => ?_⟩, .lst upd_same ((r.pure hp).mono sF)⟩
    · by_cases e : a = ρ n
      · subst e; rw [upd_same] at q; cases q; exact h2
      · rw [upd_ne e] at q; exact s.sub a u q
    · obtain ⟨q1, q2⟩ := gl m u q
      rw [upd_ne (fun e => q2 (s.inj m n _ _ q1 h e))]
      exact s.off m u q1
    · obtain ⟨q1, q2⟩ := gl m u q
      obtain ⟨y, hy, ry⟩ := s.obj m u q1
      refine ⟨y, hy, ?_⟩
      rw [List.length_set]
      exact ry.mono sF (fun _ _ => rfl) (Nat.le_refl _)
    · by_cases e : a = ρ n
      · exact .inr (.inr (.inl ⟨n, _, h, e⟩))
      · rw [upd_ne e] at q; exact .inl (by rw [q]; intro z; cases z)
theorem upd_id {H : Hp} {a : Addr} {o : HO} (h : H a = some o) : upd H a o = H := by
  funext b
  by_cases e : b = a
  · subst e; rw [upd_same, h]
  · rw [upd_ne e]
/-- a thing of the store joins the frozen part, as h' -/
theorem Sim.frzW {F H : Hp} {ρ : Nat → Addr} {S : Sto} {n : Nat} {o : Ob} {h' : HO} (s : Sim X.K fa F H ρ S) (h : stGet S n = some o) :
    Sim X.K fa (upd F (ρ n) h') (upd H (ρ n) h') ρ (S.set n none) ∧ Ext F H ρ S (upd F (ρ n) h') (upd H (ρ n) h') ρ (S.set n none) ∧ Same F (upd F (ρ n) h') := by
  have fF : F (ρ n) = none := s.off n _ h
  have sF : Same F (upd F (ρ n) h') := fun a u q => by rw [upd_ne (ne_of_none q fF)]; exact q
  have gl : ∀ m u, stGet (S.set n none) m = some u → stGet S m = some u ∧ m ≠ n := fun m u q => by
    rw [stGet_set] at q
    split at q
    · cases q
    · rename_i hn
      refine ⟨q, fun e => hn ⟨e.symm, stGet_lt h⟩⟩
  have ne : ∀ m u, stGet (S.set n none) m = some u → ρ m ≠ ρ n := fun m u q e => by
    obtain ⟨q1, q2⟩ := gl m u q
    exact q2 (s.inj m n _ _ q1 h e)
  refine ⟨⟨fun a u q => ?_, fun m u q => ?_, fun m u q => ?_, fun m m' u u' q q' e => s.inj m m' u u' (gl m u q).1 (gl m' u' q').1 e⟩,
    ⟨sF, fun _ _ => rfl, by simp, fun a u q hx => ?_, fun a u q => ?_, fun m u q => .inl ⟨stGet_lt (gl m u q).1, u, (gl m u q).1⟩, fun a u q => ?_⟩, sF⟩
  · by_cases e : a = ρ n
    · subst e; rw [upd_same] at q ⊢; exact q
    · rw [upd_ne e] at q ⊢; exact s.sub a u q
  · rw [upd_ne (ne m u q)]
    exact s.off m u (gl m u q).1
  · obtain ⟨y, hy, ry⟩ := s.obj m u (gl m u q).1
    refine ⟨y, by rw [upd_ne (ne m u q)]; exact hy, ?_⟩
    rw [List.length_set]
    exact ry.mono sF (fun _ _ => rfl) (Nat.le_refl _)
  · rw [upd_ne (hx n o h)]; exact q
  · by_cases e : a = ρ n
    · subst e; exact ⟨_, upd_same⟩
    · exact ⟨u, by rw [upd_ne e]; exact q⟩
  · by_cases e : a = ρ n
    · exact .inr (.inr (.inl ⟨n, _, h, e⟩))
    · rw [upd_ne e] at q; exact .inl (by rw [q]; intro z; cases z)
theorem fzVals_dct : ∀ (es : List (List Int × Val)) (S : Sto) (p : List (List Int × D) × Sto), fzVals es S = some p → p.2.length = S.length ∧ ∀ n en, stGet S n = some (.dct en) → stGet p.2 n = some (.dct en)
  | [], S, p, h => by simp only [fzVals] at h; cases h; exact ⟨rfl, fun _ _ h => h⟩
  | (k, .d x) :: r, S, p, h => by
    simp only [fzVals] at h
    cases q : fzVals r S with
    | none => rw [q] at h; cases h
    | some w => rw [q] at h; cases h; exact fzVals_dct r S w q
  | (k, .ref m) :: r, S, p, h => by
    simp only [fzVals] at h
    cases q0 : stGet S m with
    | none => rw [q0] at h; cases h
    | some o =>
      rw [q0] at h
      cases o with
      | lst vs =>
        dsimp only at h
        cases q1 : pureVs vs with
        | none => rw [q1] at h; cases h
        | some ds =>
          rw [q1] at h
          dsimp only at h
          cases q : fzVals r (S.set m none) with
          | none => rw [q] at h; cases h
          | some w =>
            rw [q] at h
            cases h
            obtain ⟨h1, h2⟩ := fzVals_dct r _ w q
            refine ⟨by rw [h1, List.length_set], fun n en hn => h2 n en ?_⟩
            rw [stGet_set]
            split
            · rename_i z
              obtain ⟨rfl, _⟩ := z
              rw [q0] at hn; cases hn
            · exact hn
      | _ => cases h
  | (_, .fn _) :: _, _, _, h => by simp [fzVals] at h
  | (_, .scr _) :: _, _, _, h => by simp [fzVals] at h
  | (_, .exn _) :: _, _, _, h => by simp [fzVals] at h
theorem Sim.frzVals {H : Hp} {ρ : Nat → Addr} : ∀ (es : List (List Int × Val)) (S : Sto) (p : List (List Int × D) × Sto) {F : Hp} {kvs : List (List Key × V)}, Sim X.K fa F H ρ S → Paired (fun (p : List Key × V) (q : List Int × Val) => p.1 = q.1.map Sum.inl ∧ RepV X.K fa F ρ S.length p.2 q.2) kvs es → fzVals es S = some p →
    ∃ F', Sim X.K fa F' H ρ p.2 ∧ Ext F H ρ S F' H ρ p.2 ∧ Paired (fun (p : List Key × V) (q : List Int × D) => p.1 = q.1.map Sum.inl ∧ Rep X.K F' p.2 q.2) kvs p.1
  | [], S, p, F, _, s, .nil, h => by simp only [fzVals] at h; cases h; exact ⟨F, s, Ext.refl .., .nil⟩
  | (k, .d x) :: r, S, p, F, _, s, .cons h1 h2, h => by
    simp only [fzVals] at h
    cases q : fzVals r S with
    | none => rw [q] at h; cases h
    | some w =>
      rw [q] at h
      cases h
      obtain ⟨F', s', x', r'⟩ := Sim.frzVals r S w s h2 q
      exact ⟨F', s', x', .cons ⟨h1.1, Rep.mono x'.fz h1.2⟩ r'⟩
  | (k, .ref m) :: r, S, p, F, _, s, .cons h1 h2, h => by
    simp only [fzVals] at h
    cases q0 : stGet S m with
    | none => rw [q0] at h; cases h
    | some o =>
      rw [q0] at h
      cases o with
      | lst vs =>
        dsimp only at h
        cases q1 : pureVs vs with
        | none => rw [q1] at h; cases h
        | some ds =>
          rw [q1] at h
          dsimp only at h
          cases q : fzVals r (S.set m none) with
          | none => rw [q] at h; cases h
          | some w =>
            rw [q] at h
            cases h
            obtain ⟨F1, s1, x1, r1⟩ := s.freeze q0 q1
            have h2' := Paired.mapP (G := fun (p : List Key × V) (q : List Int × Val) => p.1 = q.1.map Sum.inl ∧ RepV X.K fa F1 ρ (S.set m none).length p.2 q.2) h2 fun a b z => ⟨z.1, z.2.mono x1.fz (fun _ _ => rfl) x1.len⟩
            obtain ⟨F', s', x', r'⟩ := Sim.frzVals r _ w s1 h2' q
            refine ⟨F', s', x1.trans x', .cons ⟨h1.1, ?_⟩ r'⟩
            obtain ⟨_, e⟩ := h1.2
            rw [e]
            exact r1.mono x'.fz
      | _ => cases h
  | (_, .fn _) :: _, _, _, _, _, _, _, h => by simp [fzVals] at h
  | (_, .scr _) :: _, _, _, _, _, _, _, h => by simp [fzVals] at h
  | (_, .exn _) :: _, _, _, _, _, _, _, h => by simp [fzVals] at h
theorem Rep.of_dT {K : PySem.W.Frag} {F : Hp} {a : Addr} {o : Obj} {kvs : List (List Key × V)} {ds : List (List Int × D)} (h : F a = some (.frz o (.dT kvs))) (r : Paired (fun (p : List Key × V) (q : List Int × D) => p.1 = q.1.map Sum.inl ∧ Rep K F p.2 q.2) kvs ds) : Rep K F (.ref a) (.dict (encT ds)) := by
  have g : kvs = ((ds.map (·.1)).map fun q => (q.map Sum.inl : List Key)).zip (kvs.map (·.2)) ∧ Reps K F (kvs.map (·.2)) (ds.map (·.2)) ∧ encT ds = ((ds.map (·.1)).map tupI).zip (ds.map (·.2)) ∧ (ds.map (·.1)).length = (kvs.map (·.2)).length := by
    clear h
    induction r with
    | nil => exact ⟨rfl, .nil, rfl, rfl⟩
    | @cons p q ps qs h1 h2 ih =>
      obtain ⟨i1, i2, i3, i4⟩ := ih
      obtain ⟨p1, p2⟩ := p
      dsimp only at h1
      refine ⟨?_, .cons h1.2 i2, ?_, by simpa using i4⟩
      · rw [h1.1]
        simp only [List.map_cons, List.zip_cons_cons, ← i1]
      · unfold encT at i3 ⊢
        simp only [List.map_cons, List.zip_cons_cons, ← i3]
        rfl
  obtain ⟨g1, g2, g3, g4⟩ := g
  rw [g3]
  exact .dT (by rw [← g1]; exact h) g4 g2
theorem Rep.of_dK {K : PySem.W.Frag} {F : Hp} {a : Addr} {o : Obj} {kvs : List (Key × V)} {ds : List (Int × D)} (h : F a = some (.frz o (.dK kvs))) (r : Paired (fun (p : Key × V) (q : Int × D) => p.1 = Sum.inl q.1 ∧ Rep K F p.2 q.2) kvs ds) : Rep K F (.ref a) (.dict (encK ds)) := by
  have g : kvs = ((ds.map (·.1)).map fun q => (Sum.inl q : Key)).zip (kvs.map (·.2)) ∧ Reps K F (kvs.map (·.2)) (ds.map (·.2)) ∧ encK ds = (((ds.map (·.1)).map fun q => (Sum.inl q : Key)).map kD).zip (ds.map (·.2)) ∧ ((ds.map (·.1)).map fun q => (Sum.inl q : Key)).length = (kvs.map (·.2)).length := by
    clear h
    induction r with
    | nil => exact ⟨rfl, .nil, rfl, rfl⟩
    | @cons p q ps qs h1 h2 ih =>
      obtain ⟨i1, i2, i3, i4⟩ := ih
      obtain ⟨p1, p2⟩ := p
      dsimp only at h1
      refine ⟨?_, .cons h1.2 i2, ?_, by simpa using i4⟩
      · rw [h1.1]
        simp only [List.map_cons, List.zip_cons_cons, ← i1]
      · unfold encK at i3 ⊢
        simp only [List.map_cons, List.zip_cons_cons, ← i3]
        rfl
  obtain ⟨g1, g2, g3, g4⟩ := g
  rw [g3]
  exact .dct (by rw [← g1]; exact h) g4 g2
theorem kv_items {K : PySem.W.Frag} {fa : FA} {F : Hp} {ρ : Nat → Addr} {n : Nat} {kvs : List (Key × V)} {es : List (Int × Val)} (r : Paired (fun (p : Key × V) (q : Int × Val) => p.1 = Sum.inl q.1 ∧ RepV K fa F ρ n p.2 q.2) kvs es) : ∀ {ds : List (Int × D)}, allO (es.map itemK) = some ds → Paired (fun (p : Key × V) (q : Int × D) => p.1 = Sum.inl q.1 ∧ Rep K F p.2 q.2) kvs ds := by
  induction r with
  | nil => intro ds h; simp only [List.map_nil, allO] at h; cases h; exact .nil
  | @cons p q ps qs h1 h2 ih =>
    intro ds h
    obtain ⟨k, v⟩ := q
    simp only [List.map_cons] at h
    cases v with
    | d x =>
      simp only [itemK, allO] at h
      cases q2 : allO (qs.map itemK) with
      | none => rw [q2] at h; cases h
      | some es2 =>
        rw [q2] at h
        cases h
        exact .cons ⟨h1.1, h1.2⟩ (ih q2)
    | _ => simp [itemK, allO] at h
/-- the value, its object locked or not -/
def tLockM (t : TE) : TE := fun σ H Q => t σ H fun x H1 => Q x H1 ∨ ∃ a u, x = .ref a ∧ H1 a = some u ∧ Mut (some u) ∧ ∀ od, Q x (upd H1 a (.frz od u))
theorem pe_lockM {e : Expr} {t : TE} (h : PE X e t) : PE X e (tLockM t) := by
  refine ⟨fun pins s σ H Q I hw => ?_⟩
  refine thn (h.run pins s σ _ _ I hw) fun v s1 ⟨x, H1, I2, r, q⟩ => ?_
  rcases q with q | ⟨a, u, ex, hu, mu, q⟩
  · exact ⟨x, _, I2, r, q⟩
  · obtain ⟨od, I3⟩ := I2.lock hu mu
    exact ⟨x, _, I3, r, q od⟩
/-- what freezing a value comes to -/
theorem fz_of {W : WX} {F H : Hp} {ρ : Nat → Addr} {S : Sto} {σ : L2.St} {x : V} {v : Val} {Q : VK} (s1 : Sim X.K fa F H ρ S) (r1 : RepV X.K fa F ρ S.length x v) (p1 : Post X.K fa W (RepV X.K fa) F H ρ S σ (fzV v S) Q) :
    Q x H ∨ ∃ a u, x = .ref a ∧ H a = some u ∧ Mut (some u) ∧ ∀ od, Q x (upd H a (.frz od u)) := by
  cases v with
  | d y => exact .inl (p1 x F H ρ s1 (Ext.refl ..) r1)
  | fn i => exact p1.elim
  | exn _ => exact p1.elim
  | scr ns => exact p1.elim
  | ref n =>
    obtain ⟨h1, rfl⟩ := r1
    unfold fzV at p1
    dsimp only at p1
    cases q1 : stGet S n with
    | none => rw [q1] at p1; exact p1.elim
    | some o =>
      rw [q1] at p1
      cases o with
      | kv t es =>
        cases t with
        | zero =>
          cases q2 : allO (es.map itemK) with
          | none => simp only [q2] at p1; exact p1.elim
          | some ds =>
            simp only [q2] at p1
            obtain ⟨ho, h2, rr⟩ := s1.obj n _ q1
            cases rr with
            | kv0 rr =>
              refine .inr ⟨_, _, rfl, h2, trivial, fun od => ?_⟩
              obtain ⟨s2, x2, sF⟩ := s1.frzW (h' := .frz od (.dK _)) q1
              refine p1 _ _ _ ρ s2 x2 (Rep.of_dK upd_same ?_)
              exact Paired.mapP (kv_items rr q2) fun a b z => ⟨z.1, z.2.mono sF⟩
        | succ t => exact p1.elim
      | dct es =>
        dsimp only at p1
        cases q2 : fzVals es S with
        | none => rw [q2] at p1; exact p1.elim
        | some p =>
          rw [q2] at p1
          obtain ⟨ho, h2, rr⟩ := s1.obj n _ q1
          cases rr with
          | dct rr =>
            obtain ⟨F', s', x', r'⟩ := Sim.frzVals es S p s1 rr q2
            obtain ⟨l', g'⟩ := fzVals_dct es S p q2
            refine .inr ⟨_, _, rfl, h2, trivial, fun od => ?_⟩
            obtain ⟨s2, x2, sF⟩ := s'.frzW (h' := .frz od (.dT _)) (g' n es q1)
            refine p1 _ _ _ ρ s2 (x'.trans x2) (Rep.of_dT upd_same ?_)
            exact Paired.mapP r' fun a b z => ⟨z.1, z.2.mono sF⟩
      | lst vs =>
        dsimp only at p1
        cases q2 : pureVs vs with
        | none => rw [q2] at p1; exact p1.elim
        | some ds =>
          rw [q2] at p1
          obtain ⟨F', s', x', r'⟩ := s1.freeze q1 q2
          exact .inl (p1 _ F' H ρ s' x' r')
theorem sm_fz (ha : SimE fa X a ma) : SimE fa X a (fun env S => (ma env S).bind fun v S1 => fzV v S1) := by
  refine ⟨fun W tk => PE.imp (pe_lockM (ha.run W tk)) fun σ H Q q => ?_⟩
  exact q.bind (rep := RepV X.K fa) fun env v S1 x F1 H1 ρ1 s1 e1 r1 p1 => fz_of s1 r1 p1
end
end MS

-- MsComp
/-! Targets, comprehensions. -/
namespace MS
open PySem PySem.Spec PyProof.Rows L2

/-! ### targets -/
mutual
def Tg.slots : Tg → List Nat
  | .name i => [i]
  | .tup ts => ts.slots
def Tgs.slots : Tgs → List Nat
  | .nil => []
  | .cons t ts => t.slots ++ ts.slots
end
def Tgs.length : Tgs → Nat
  | .nil => 0
  | .cons _ ts => ts.length + 1
theorem wipe_set {σ : L2.St} {i : Nat} {o : Option V} : ∀ {vs : List Nat}, i ∈ vs → wipe (σ.set i o) vs = wipe σ vs
  | v :: vs, h => by
    unfold wipe
    by_cases e : i ∈ vs
    · rw [wipe_set e]
    · have : i = v := by
        rcases List.mem_cons.mp h with z | z
        · exact z
        · exact absurd z e
      subst this
      have : ∀ ws : List Nat, wipe (σ.set i o) ws = (wipe σ ws).set i (if i ∈ ws then none else o) ∨ i ∈ ws := fun ws => by
        by_cases q : i ∈ ws
        · exact .inr q
        · refine .inl ?_
          rw [if_neg q]
          induction ws with
          | nil => rfl
          | cons w ws ih =>
            simp only [List.mem_cons, not_or] at q
            unfold wipe
            rw [ih q.2, List.set_comm _ _ (fun e => q.1 e)]
      rcases this vs with q | q
      · rw [q, if_neg e, List.set_set]
      · exact absurd q e
theorem wipe_comm (σ : L2.St) (v : Nat) : ∀ vs : List Nat, wipe (σ.set v none) vs = (wipe σ vs).set v none
  | [] => rfl
  | w :: vs => by
    unfold wipe
    rw [wipe_comm σ v vs]
    by_cases e : v = w
    · subst e; rfl
    · rw [List.set_comm _ _ e]
theorem wipe_wipe (σ : L2.St) : ∀ vs : List Nat, wipe (wipe σ vs) vs = wipe σ vs
  | [] => rfl
  | v :: vs => by
    show wipe ((wipe σ vs).set v none) (v :: vs) = (wipe σ vs).set v none
    rw [wipe_comm]
    show ((wipe (wipe σ vs) vs).set v none).set v none = _
    rw [wipe_wipe σ vs, List.set_set]

def rdGt (K : PySem.W.Frag) (fa : FA) (tg : Tg) : TG := fun x σ H Q => ∃ env env' v F ρ n, Same F H ∧ EnvRep K fa F ρ n env σ ∧ RepV K fa F ρ n x v ∧ setTg tg v env = some env' ∧
  ∀ σ', EnvRep K fa F ρ n env' σ' → (∀ vs : List Nat, (∀ i ∈ tg.slots, i ∈ vs) → wipe σ' vs = wipe σ vs) → Q σ' H
def rdGts (K : PySem.W.Frag) (fa : FA) (ts : Tgs) : TGs := fun xs σ H Q => ∃ env env' ds F ρ n, Same F H ∧ EnvRep K fa F ρ n env σ ∧ Reps K F xs ds ∧ setTgs ts ds env = some env' ∧
  ∀ σ', EnvRep K fa F ρ n env' σ' → (∀ vs : List Nat, (∀ i ∈ ts.slots, i ∈ vs) → wipe σ' vs = wipe σ vs) → Q σ' H
theorem PG.imp {X : Cx} {e : Expr} {t t' : TG} (h : PG X e t) (k : ∀ x σ H Q, t' x σ H Q → t x σ H Q) : PG X e t' := ⟨fun pins s σ H v u Q I r q => h.run pins s σ H v u Q I r (k v σ H Q q)⟩
theorem PGs.imp {X : Cx} {e : List Expr} {t t' : TGs} (h : PGs X e t) (k : ∀ x σ H Q, t' x σ H Q → t x σ H Q) : PGs X e t' := ⟨fun pins s σ H v u Q I r q => h.run pins s σ H v u Q I r (k v σ H Q q)⟩
def isNameTup : Expr → Bool
  | .Name _ _ => true
  | .Tuple _ _ _ => true
  | _ => false
theorem assignEach_cons {e : Expr} (h : noStar e = true) (es : List Expr) (env : PySem.Env) : assignEach (e :: es) env = (false, assign e env) :: assignEach es env := by
  cases e <;> first | rfl | (simp [noStar] at h)
theorem assignEach_length : ∀ (es : List Expr) (env : PySem.Env), es.all noStar = true → (assignEach es env).length = es.length ∧ (assignEach es env).findIdx? (·.1) = none
  | [], _, _ => ⟨rfl, rfl⟩
  | e :: es, env, h => by
    rw [List.all_cons, Bool.and_eq_true] at h
    obtain ⟨h1, h2⟩ := assignEach_length es env h.2
    rw [assignEach_cons h.1]
    refine ⟨by simp [h1], ?_⟩
    rw [List.findIdx?_cons, h2]; rfl
section
variable {fa : FA} {X : Cx} {pos : Pos}
theorem sg_name {i : Nat} {x : Str} (hN : X.N.Nodup) (hi : X.N[i]? = some x) (hx : Loc X.env.scope x) (hf : X.fn x = true ∨ X.env.scope.names.lookup x = some .local) : PG X (.Name x pos) (rdGt X.K fa (.name i)) := by
  refine PG.imp (pg_name hN hi hx hf) fun x σ H Q q => ?_
  obtain ⟨env, env', v, F, ρ, n, sub, e, r, h, q⟩ := q
  cases h
  exact q _ (e.set r i) fun vs hv => wipe_set (hv i (by simp [Tg.slots]))
theorem sgs_nil : PGs X [] (rdGts X.K fa .nil) := by
  refine PGs.imp pgs_nil fun x σ H Q q => ?_
  obtain ⟨env, env', ds, F, ρ, n, sub, e, r, h, q⟩ := q
  cases ds with
  | cons _ _ => simp [setTgs] at h
  | nil =>
    cases r
    simp [setTgs] at h
    subst h
    exact ⟨rfl, q σ e fun _ _ => rfl⟩
theorem sgs_cons {e : Expr} {es : List Expr} {t : Tg} {ts : Tgs} (h1 : PG X e (rdGt X.K fa t)) (h2 : PGs X es (rdGts X.K fa ts)) (hs : noStar e = true) : PGs X (e :: es) (rdGts X.K fa (.cons t ts)) := by
  refine PGs.imp (pgs_cons h1 h2 (by rw [assignEach_cons hs]; rfl)) fun xs σ H Q q => ?_
  obtain ⟨env, env', ds, F, ρ, n, sub, e, r, h, q⟩ := q
  cases ds with
  | nil => simp [setTgs] at h
  | cons d ds =>
    cases r with
    | cons r1 r2 =>
      simp only [setTgs] at h
      cases q1 : setTg t (.d d) env with
      | none => rw [q1] at h; cases h
      | some env1 =>
        rw [q1] at h
        refine ⟨_, _, rfl, env, env1, .d d, F, ρ, n, sub, e, r1, q1, fun σ1 e1 w1 => ?_⟩
        refine ⟨env1, env', ds, F, ρ, n, sub, e1, r2, h, fun σ2 e2 w2 => q σ2 e2 fun vs hv => ?_⟩
        rw [w2 vs fun i hi => hv i (by simp [Tgs.slots, hi]), w1 vs fun i hi => hv i (by simp [Tgs.slots, hi])]
theorem sg_tup {es : List Expr} {k : Nat} {ts : Tgs} (hc : X.calm = true) (h : PGs X es (rdGts X.K fa ts)) (hs : es.all noStar = true) (hl : es.length = ts.length) : PG X (.Tuple es k pos) (rdGt X.K fa (.tup ts)) := by
  obtain ⟨a1, a2⟩ := assignEach_length es X.env hs
  refine PG.imp (pg_tup (n := es.length) hc h a1 a2) fun x σ H Q q => ?_
  obtain ⟨env, env', v, F, ρ, n, sub, e, r, h, q⟩ := q
  cases v with
  | d d =>
    cases d with
    | tuple ds =>
      cases (show Rep X.K F x (.tuple ds) from r) with
      | tup hq rs =>
        refine ⟨_, _, rfl, SqT.of (sub _ _ hq), ?_, env, env', ds, F, ρ, n, sub, e, rs, h, q⟩
        rw [hl, rs.length]
        have : ∀ (ts : Tgs) (ds : List D) (env : MS.Env) (env' : MS.Env), setTgs ts ds env = some env' → ds.length = ts.length := by
          intro ts
          induction ts using Tgs.rec (motive_1 := fun _ => True) with
          | name _ => trivial
          | tup _ _ => trivial
          | nil =>
            intro ds env env' h
            cases ds with
            | nil => rfl
            | cons _ _ => simp [setTgs] at h
          | cons t ts _ ih =>
            intro ds env env' h
            cases ds with
            | nil => simp [setTgs] at h
            | cons d ds =>
              simp only [setTgs] at h
              cases q1 : setTg t (.d d) env with
              | none => rw [q1] at h; cases h
              | some env1 =>
                rw [q1] at h
                simp [Tgs.length, ih ds env1 env' h]
        exact this ts ds env env' h
    | _ => simp [setTg] at h
  | _ => simp [setTg] at h
end

/-! ### comprehensions -/
structure CompInv (K : PySem.W.Frag) (fa : FA) (Dd : Addr) (F1 H1 : Hp) (ρ1 : Nat → Addr) (L : Sto) (F H : Hp) (ρ : Nat → Addr) (S : Sto) (acc : List D) : Prop where
  sim : Sim K fa F H ρ S
  ext : Ext F1 H1 ρ1 L F H ρ S
  fr : F Dd = none
  st : ∀ n u, stGet S n = some u → ρ n ≠ Dd
  ob : ∃ xs, H Dd = some (.lst xs) ∧ Reps K F xs acc
section
variable {K : PySem.W.Frag} {fa : FA} {Dd : Addr} {F1 H1 F H F' H' : Hp} {ρ1 ρ ρ' : Nat → Addr} {L S S' : Sto} {acc : List D}
theorem CompInv.start (s : Sim K fa F1 H1 ρ1 L) (hD : H1 Dd = none) : CompInv K fa Dd F1 H1 ρ1 L F1 (upd H1 Dd (.lst [])) ρ1 L [] := by
  have sH : Same H1 (upd H1 Dd (.lst [])) := fun a u h => by rw [upd_ne (ne_of_none h hD)]; exact h
  have np : ∀ n u, stGet L n = some u → ρ1 n ≠ Dd := fun n u h => by
    obtain ⟨x, hx, _⟩ := s.obj n u h
    exact ne_of_none hx hD
  refine ⟨⟨s.sub.trans sH, s.off, fun n o h => ?_, s.inj⟩, ⟨Same.refl _, fun _ _ => rfl, Nat.le_refl _, fun a o h _ => sH a o h, fun a o h => ⟨o, sH a o h⟩, fun n u h => .inl ⟨stGet_lt h, u, h⟩, fun a o h => .inl (by rw [h]; intro z; cases z)⟩, s.sub.free hD, np, [], upd_same, .nil⟩
  obtain ⟨x, hx, r⟩ := s.obj n o h
  exact ⟨x, sH _ _ hx, r⟩
theorem CompInv.step (c : CompInv K fa Dd F1 H1 ρ1 L F H ρ S acc) (s : Sim K fa F' H' ρ' S') (x : Ext F H ρ S F' H' ρ' S') : CompInv K fa Dd F1 H1 ρ1 L F' H' ρ' S' acc := by
  obtain ⟨xs, h1, h2⟩ := c.ob
  refine ⟨s, c.ext.trans x, ?_, fun n u h e => ?_, xs, x.frame _ _ h1 (fun n u h e => c.st n u h e.symm), h2.mono x.fz⟩
  · cases q : F' Dd with
    | none => rfl
    | some o =>
      rcases x.fnew _ _ q with z | z | ⟨n, u, z1, z2⟩ | ⟨ys, z⟩
      · exact absurd c.fr z
      · rw [z] at h1; cases h1
      · exact absurd z2.symm (c.st n u z1)
      · rw [z] at h1; cases h1
  · rcases x.new n u h with ⟨z1, u', z2⟩ | ⟨z1, z2⟩
    · rw [x.rho n z1] at e; exact c.st n u' z2 e
    · rw [e, h1] at z2; cases z2
theorem CompInv.put (c : CompInv K fa Dd F1 H1 ρ1 L F H ρ S acc) (hD : H1 Dd = none) {xs : List V} {x : V} {d : D} (h : H Dd = some (.lst xs)) (rs : Reps K F xs acc) (r : Rep K F x d) : CompInv K fa Dd F1 H1 ρ1 L F (upd H Dd (.lst (xs ++ [x]))) ρ S (acc ++ [d]) := by
  have nD : ∀ a o, F a = some o → a ≠ Dd := fun a o q => ne_of_none q c.fr
  refine ⟨⟨fun a o q => ?_, c.sim.off, fun n o q => ?_, c.sim.inj⟩, ⟨c.ext.fz, c.ext.rho, c.ext.len, fun a o q hn => ?_, fun a o q => ?_, c.ext.new, c.ext.fnew⟩, c.fr, c.st, xs ++ [x], upd_same, rs.append (.cons r .nil)⟩
  · rw [upd_ne (nD a o q)]; exact c.sim.sub a o q
  · obtain ⟨y, hy, ry⟩ := c.sim.obj n o q
    exact ⟨y, by rw [upd_ne (c.st n o q)]; exact hy, ry⟩
  · rw [upd_ne (ne_of_none q hD)]; exact c.ext.frame a o q hn
  · rw [upd_ne (ne_of_none q hD)]; exact c.ext.there a o q
/-- the new list joins the frozen part -/
theorem CompInv.done (c : CompInv K fa Dd F1 H1 ρ1 L F H ρ S acc) (hD : H1 Dd = none) : ∃ F', Sim K fa F' H ρ S ∧ Ext F1 H1 ρ1 L F' H ρ S ∧ Rep K F' (.ref Dd) (.list acc) := by
  obtain ⟨xs, h1, h2⟩ := c.ob
  have sF : Same F (upd F Dd (.lst xs)) := fun a u q => by rw [upd_ne (ne_of_none q c.fr)]; exact q
  refine ⟨upd F Dd (.lst xs), ⟨fun a o q => ?_, fun n o q => ?_, fun n o q => ?_, c.sim.inj⟩, ⟨c.ext.fz.trans sF, c.ext.rho, c.ext.len, c.ext.frame, c.ext.there, c.ext.new, fun a o q => ?_⟩, .lst upd_same (h2.mono sF)⟩
  · by_cases e : a = Dd
    · subst e; rw [upd_same] at q; cases q; exact h1
    · rw [upd_ne e] at q; exact c.sim.sub a o q
  · rw [upd_ne (c.st n o q)]; exact c.sim.off n o q
  · obtain ⟨y, hy, ry⟩ := c.sim.obj n o q
    exact ⟨y, hy, ry.mono sF (fun _ _ => rfl) (Nat.le_refl _)⟩
  · by_cases e : a = Dd
    · rw [e]; exact .inr (.inl hD)
    · rw [upd_ne e] at q; exact c.ext.fnew a o q
end
def mturn (own : List Nat) (tg : Tg) (mc : M Bool) (me : M Val) (env : MS.Env) (x : Val) (S : Sto) : R (Option D) :=
  match setTg tg x (wipeE env own) with
  | some e2 => ((mc e2 S).bind fun k S1 => if k then (me e2 S1).bind fun y S2 => .ofO ((match y with | .d y => some (some y) | _ => Option.none)) S2 else .ok Option.none S1).noexc
  | Option.none => .stuck
def mcompN (nw : Bool) (own : List Nat) (tg : Tg) (mi : M (List Val × List Nat)) (mc : M Bool) (me : M Val) : M Val := fun env S =>
  (mi env S).bind fun p S1 => (compL (mturn own tg mc me env) p.1 (lockS S1 p.2)).bind fun ys S2 => cond nw (newV (.d (.list ys)) (unlockS S1 S2 p.2)) (.ok (.d (.list ys)) (unlockS S1 S2 p.2))
def mcomp (own : List Nat) (tg : Tg) (mi : M (List Val × List Nat)) (mc : M Bool) (me : M Val) : M Val := fun env S =>
  (mi env S).bind fun p S1 => (compL (mturn own tg mc me env) p.1 (lockS S1 p.2)).bind fun ys S2 => .ok (.d (.list ys)) (unlockS S1 S2 p.2)
/-- an object that nobody tracks joins the store -/
theorem Sim.adopt {K : PySem.W.Frag} {fa : FA} {F0 H0 F H : Hp} {ρ0 ρ : Nat → Addr} {S0 S : Sto} {p : Addr} {h : HO} {o : Ob} (s : Sim K fa F H ρ S) (x : Ext F0 H0 ρ0 S0 F H ρ S) (hp : H0 p = none) (ho : H p = some h) (hf : F p = none) (hn : ∀ n u, stGet S n = some u → ρ n ≠ p) (r : RepO K fa F ρ S.length h o) :
    ∃ ρ', ρ' S.length = p ∧ Sim K fa F H ρ' (S ++ [some o]) ∧ Ext F0 H0 ρ0 S0 F H ρ' (S ++ [some o]) := by
  refine ⟨fun n => if n = S.length then p else ρ n, by simp, ?_⟩
  have hr : ∀ n, n < S.length → (if n = S.length then p else ρ n) = ρ n := fun n hn => if_neg (Nat.ne_of_lt hn)
  have gl : ∀ n u, stGet (S ++ [some o]) n = some u → (n < S.length ∧ stGet S n = some u) ∨ (n = S.length ∧ u = o) := fun n u hu => by
    unfold stGet at hu ⊢
    by_cases hn : n < S.length
    · rw [List.getElem?_append_left hn] at hu; exact .inl ⟨hn, hu⟩
    · rw [List.getElem?_append_right (Nat.not_lt.mp hn)] at hu
      by_cases h0 : n - S.length = 0
      · rw [h0] at hu; simp at hu; exact .inr ⟨by omega, hu.symm⟩
      · rw [List.getElem?_eq_none (by simp; omega)] at hu; cases hu
  have le : S.length ≤ (S ++ [some o]).length := by simp
  refine ⟨⟨s.sub, fun n u hu => ?_, fun n u hu => ?_, fun n m u w hu hw he => ?_⟩, ⟨x.fz, fun n hn => (hr n (Nat.lt_of_lt_of_le hn x.len)).trans (x.rho n hn), Nat.le_trans x.len le, x.frame, x.there, fun n u hu => ?_, x.fnew⟩⟩
  · rcases gl n u hu with ⟨hn, q⟩ | ⟨rfl, rfl⟩
    · rw [hr n hn]; exact s.off n u q
    · rw [if_pos rfl]; exact hf
  · rcases gl n u hu with ⟨hn, q⟩ | ⟨rfl, rfl⟩
    · obtain ⟨y, hy, ry⟩ := s.obj n u q
      exact ⟨y, by rw [hr n hn]; exact hy, ry.mono (Same.refl _) hr le⟩
    · exact ⟨h, by rw [if_pos rfl]; exact ho, r.mono (Same.refl _) hr le⟩
  · rcases gl n u hu with ⟨h1, q⟩ | ⟨rfl, rfl⟩ <;> rcases gl m w hw with ⟨h2, q'⟩ | ⟨rfl, rfl⟩
    · rw [hr n h1, hr m h2] at he; exact s.inj n m u w q q' he
    · rw [hr n h1, if_pos rfl] at he; exact absurd he (hn n u q)
    · rw [hr m h2, if_pos rfl] at he; exact absurd he.symm (hn m w q')
    · rfl
  · rcases gl n u hu with ⟨h1, q⟩ | ⟨rfl, rfl⟩
    · rcases x.new n u q with z | ⟨z1, z2⟩
      · exact .inl z
      · exact .inr ⟨z1, by rw [hr n h1]; exact z2⟩
    · exact .inr ⟨x.len, by rw [if_pos rfl]; exact hp⟩
structure SimTs (fa : FA) (X : Cx) (pes : List Expr) (m : M Bool) : Prop where
  run : ∀ W, Takes X W → PTs X pes (rdT X.K fa W m)
theorem noexc_ok {α : Type} {r : R α} {Q : R α → Prop} (h : Q r.noexc) (hs : ¬ Q .stuck) (he : ∀ e S, r = .exc e S → r.noexc = .stuck) : Q r := by
  cases r with
  | stuck => exact h
  | ok a S => exact h
  | exc e S => exact absurd h hs
section
variable {fa : FA} {X : Cx} {pos : Pos}
theorem repsize {K : PySem.W.Frag} {F : Hp} {xs : List V} {ds : List D} (r : Reps K F xs ds) {n : Nat} (h : ds.length < n) : xs.length < n := by rw [r.length]; exact h
theorem compL_len {f : Val → Sto → R (Option D)} : ∀ {xs : List Val} {S : Sto} {ys : List D} {S' : Sto}, compL f xs S = .ok ys S' → ys.length ≤ xs.length
  | [], S, ys, S', h => by cases h; simp
  | x :: xs, S, ys, S', h => by
    unfold compL at h
    cases q : f x S with
    | stuck => rw [q] at h; cases h
    | exc _ _ => rw [q] at h; cases h
    | ok o S1 =>
      rw [q, R.bind_ok] at h
      cases q2 : compL f xs S1 with
      | stuck => rw [q2] at h; cases h
      | exc _ _ => rw [q2] at h; cases h
      | ok r S2 =>
        rw [q2, R.bind_ok] at h
        have := compL_len q2
        cases o with
        | none => cases h; simp; omega
        | some y => cases h; simp; omega
/-- one turn -/
theorem turn_rd {own : List Nat} {tg : Tg} {mc : M Bool} {me : M Val} {K : PySem.W.Frag} {F H : Hp} {ρ : Nat → Addr} {S : Sto} {env : MS.Env} {σ : L2.St} {x : V} {v : Val} {Dd : Addr} {F1 H1 : Hp} {ρ1 : Nat → Addr} {L : Sto} {acc : List D} {Nx : Hp → Prop} {o : Option D} {S2 : Sto}
    (c : CompInv K fa Dd F1 H1 ρ1 L F H ρ S acc) (hD : H1 Dd = none) (hz : acc.length < sizeLine) (e : EnvRep K fa F ρ S.length env σ) (rx : RepV K fa F ρ S.length x v) (hsl : ∀ i ∈ tg.slots, i ∈ own)
    (h : mturn own tg mc me env v S = .ok o S2) (hN : ∀ F' H' ρ', CompInv K fa Dd F1 H1 ρ1 L F' H' ρ' S2 (match o with | some y => acc ++ [y] | none => acc) → Nx H') :
    rdGt K fa tg x (wipe σ own) H fun σ2 H2 => wipe σ2 own = wipe σ own ∧ rdT K fa (fun _ _ _ _ => False) mc σ2 H2 fun b H3 =>
      if b = true then rdE K fa (fun _ _ _ _ => False) me σ2 H3 fun y H4 => ∃ ac, H4 Dd = some (.lst ac) ∧ ac.length < sizeLine ∧ Nx (upd H4 Dd (.lst (ac ++ [y]))) else Nx H3 := by
  unfold mturn at h
  cases q : setTg tg v (wipeE env own) with
  | none => rw [q] at h; cases h
  | some e2 =>
    rw [q] at h
    dsimp only at h
    refine ⟨wipeE env own, e2, v, F, ρ, S.length, c.sim.sub, e.wipe own, rx, q, fun σ2 es2 w2 => ⟨(w2 own hsl).trans (wipe_wipe σ own), ?_⟩⟩
    refine ⟨e2, S, F, ρ, c.sim, es2, ?_⟩
    cases q1 : mc e2 S with
    | stuck => rw [q1] at h; cases h
    | exc _ _ => rw [q1] at h; cases h
    | ok k S1 =>
      rw [q1, R.bind_ok] at h
      intro b F' H' ρ' s' x' rb
      cases (show b = k from rb)
      have c' := c.step s' x'
      cases k with
      | false =>
        simp only [Bool.false_eq_true, if_false] at h ⊢
        cases h
        exact hN F' H' ρ' c'
      | true =>
        simp only [if_true] at h ⊢
        refine ⟨e2, S1, F', ρ', s', es2.mono x'.fz x'.rho x'.len, ?_⟩
        cases q2 : me e2 S1 with
        | stuck => rw [q2] at h; cases h
        | exc _ _ => rw [q2] at h; cases h
        | ok y S3 =>
          rw [q2, R.bind_ok] at h
          intro z F3 H3 ρ3 s3 x3 rz
          have c3 := c'.step s3 x3
          cases y with
          | d y =>
            cases h
            obtain ⟨xs, h1, h2⟩ := c3.ob
            exact ⟨xs, h1, repsize h2 hz, hN F3 _ ρ3 (c3.put hD h1 h2 rz)⟩
          | _ => cases h
theorem rd_compN (nw : Bool) {tgE : Expr} {own : List Nat} {tg : Tg} {mi : M (List Val × List Nat)} {mc : M Bool} {me : M Val} {W : WX} {K : PySem.W.Frag} {σ : L2.St} {H : Hp} {Q : VK} (hsl : ∀ i ∈ tg.slots, i ∈ own)
    (q : rdE K fa W (mcompN nw own tg mi mc me) σ H Q) : tLc (rdI K fa W mi) (rdGt K fa tg) (rdT K fa (fun _ _ _ _ => False) mc) (rdE K fa (fun _ _ _ _ => False) me) own σ H Q := by
  obtain ⟨env, S, F, ρ, s, e, p⟩ := q
  refine ⟨env, S, F, ρ, s, e, ?_⟩
  unfold mcompN at p
  cases q0 : mi env S with
  | stuck => rw [q0] at p; exact p
  | exc e S' => rw [q0] at p; exact p
  | ok it S1 =>
    rw [q0, R.bind_ok] at p
    obtain ⟨items, l⟩ := it
    intro J F1 H1 ρ1 s1 x1 ⟨hz1, A0, hA, hoff, go, stop, yld⟩ Dd hD
    dsimp only at p hz1 hoff
    have p1 := Post.shift x1 p
    cases q1 : compL (mturn own tg mc me env) items (lockS S1 l) with
    | stuck => rw [q1] at p1; exact p1.elim
    | exc ee S' =>
      exfalso
      have : ∀ (xs : List Val) (S : Sto), compL (mturn own tg mc me env) xs S ≠ .exc ee S' := by
        intro xs
        induction xs with
        | nil => intro S h; cases h
        | cons x xs ih =>
          intro S h
          unfold compL at h
          cases q : mturn own tg mc me env x S with
          | stuck => rw [q] at h; cases h
          | exc e2 S2 =>
            unfold mturn at q
            split at q
            · rename_i e3 _
              generalize ((mc e3 S).bind fun k S1 => if k then (me e3 S1).bind fun y S2 => R.ofO ((match y with | .d y => some (some y) | _ => Option.none)) S2 else .ok Option.none S1) = r at q
              cases r <;> cases q
            · cases q
          | ok o S1 =>
            rw [q, R.bind_ok] at h
            cases q2 : compL (mturn own tg mc me env) xs S1 with
            | stuck => rw [q2] at h; cases h
            | exc e2 S2 => rw [q2] at h; simp at h; exact ih S1 (by rw [q2, h.1, h.2])
            | ok r S2 => rw [q2] at h; cases h
      exact this _ _ q1
    | ok ys S2 =>
      rw [q1, R.bind_ok] at p1
      have e1 := e.mono x1.fz x1.rho x1.len
      refine ⟨fun i m H => i + m = items.length ∧ ∃ F' ρ' S' acc r, CompInv K fa Dd F1 H1 ρ1 (lockS S1 l) F' H ρ' S' acc ∧ compL (mturn own tg mc me env) (items.drop i) S' = .ok r S2 ∧ acc ++ r = ys ∧ acc.length ≤ i,
        ⟨items.length, by simp, F1, ρ1, lockS S1 l, [], ys, CompInv.start (s1.lock l) hD, by simpa using q1, by simp, by simp⟩, fun i m Hi ⟨him, F', ρ', S', acc, r, c, hr, ha, hal⟩ => ?_⟩
      have sA : Same A0 Hi := fun a o h => c.ext.frame a o (hA a o h) fun n u hu e => by
        have := hoff n u hu
        rw [← e, h] at this; cases this
      by_cases hi : i < items.length
      · refine .inr ⟨go i Hi sA hi, fun H' => ∃ F' ρ' S' acc r, CompInv K fa Dd F1 H1 ρ1 (lockS S1 l) F' H' ρ' S' acc ∧ compL (mturn own tg mc me env) (items.drop (i + 1)) S' = .ok r S2 ∧ acc ++ r = ys ∧ acc.length ≤ i + 1,
          fun H' ⟨F2, ρ2, S3, ac, r2, z1, z2, z3, z4⟩ => ⟨m - 1, by omega, by omega, F2, ρ2, S3, ac, r2, z1, z2, z3, z4⟩, fun x H' hy => ?_⟩
        rw [List.drop_eq_getElem_cons hi] at hr
        unfold compL at hr
        cases q2 : mturn own tg mc me env items[i] S' with
        | stuck => rw [q2] at hr; cases hr
        | exc _ _ => rw [q2] at hr; cases hr
        | ok o S3 =>
          rw [q2, R.bind_ok] at hr
          cases q3 : compL (mturn own tg mc me env) (items.drop (i + 1)) S3 with
          | stuck => rw [q3] at hr; cases hr
          | exc _ _ => rw [q3] at hr; cases hr
          | ok r3 S4 =>
            rw [q3, R.bind_ok] at hr
            obtain ⟨F2, g2, rx⟩ := yld i Hi x H' items[i] F' sA c.ext.fz c.sim.sub (List.getElem?_eq_getElem hi) hy
            obtain ⟨s2, x2⟩ := c.sim.of_grow g2
            have c2 := c.step s2 x2
            have hlen : S1.length ≤ S'.length := by have := c2.ext.len; rw [lockS_length] at this; exact this
            have hrho : ∀ n, n < S1.length → ρ' n = ρ1 n := fun n hn => c2.ext.rho n (by rw [lockS_length]; exact hn)
            have rx2 := rx.mono (Same.refl _) hrho hlen
            have e2 := e1.mono c2.ext.fz hrho hlen
            refine turn_rd c2 hD (Nat.lt_of_lt_of_le (Nat.lt_of_le_of_lt hal hi) hz1) e2 rx2 hsl q2 fun F3 H3 ρ3 c3 => ?_
            cases hr
            refine ⟨F3, ρ3, S3, _, r3, c3, q3, ?_, ?_⟩
            · cases o with
              | none => exact ha
              | some y => simpa using ha
            · cases o with
              | none => exact Nat.le_succ_of_le hal
              | some y => simpa using hal
      · have hi' : i = items.length := by omega
        subst hi'
        refine .inl ⟨stop Hi sA, ?_⟩
        rw [List.drop_length] at hr
        cases hr
        rw [List.append_nil] at ha
        subst ha
        cases nw with
        | false =>
          obtain ⟨F2, s2, x2, r2⟩ := c.done hD
          obtain ⟨s3, x3⟩ := s1.unlock l s2 x2
          exact p1 _ F2 Hi ρ' s3 x3 r2
        | true =>
          obtain ⟨s3, x3⟩ := s1.unlock l c.sim c.ext
          obtain ⟨zs, z1, z2⟩ := c.ob
          obtain ⟨ρ4, e4, s4, x4⟩ := s3.adopt x3 hD z1 c.fr (fun n u hu e => by
            rcases x3.new n u hu with ⟨y1, y, y2⟩ | ⟨y1, y2⟩
            · rw [x3.rho n y1] at e
              obtain ⟨h, hh, _⟩ := s1.obj n y y2
              rw [e, hD] at hh; cases hh
            · rcases stGet_unlock l S1 S2 n u hu with ⟨w1, _⟩ | ⟨w1, w2⟩
              · exact c.st n u w1 e
              · exact absurd (stGet_lt w2) (Nat.not_lt.mpr y1)) (.lst (RepVs.of_pure z2))
          exact p1 _ F' Hi ρ4 s4 x4 ⟨by simp, by rw [e4]⟩
theorem rd_comp {tgE : Expr} {own : List Nat} {tg : Tg} {mi : M (List Val × List Nat)} {mc : M Bool} {me : M Val} {W : WX} {K : PySem.W.Frag} {σ : L2.St} {H : Hp} {Q : VK} (hsl : ∀ i ∈ tg.slots, i ∈ own)
    (q : rdE K fa W (mcomp own tg mi mc me) σ H Q) : tLc (rdI K fa W mi) (rdGt K fa tg) (rdT K fa (fun _ _ _ _ => False) mc) (rdE K fa (fun _ _ _ _ => False) me) own σ H Q :=
  rd_compN false (tgE := tgE) hsl q
theorem takes_blk {X : Cx} : Takes X (fun _ _ _ _ => False) := fun u s' x => by
  obtain ⟨_, _, _, _, _, _, _, _, _, _, _, _, _, _, _, _, z⟩ := x
  exact z.elim
end
end MS

-- MsStmt
/-! Statements. -/
namespace MS
open PySem PySem.Spec PyProof.Rows L2

abbrev MS_ := MS.Env → Sto → RS
def PostS (K : PySem.W.Frag) (fa : FA) (W : WX) (F H : Hp) (ρ : Nat → Addr) (S : Sto) (r : RS) (D : Ends) : Prop :=
  match r with
  | .stuck => False
  | .nx env S' => ∀ σ' F' H' ρ', Sim K fa F' H' ρ' S' → Ext F H ρ S F' H' ρ' S' → EnvRep K fa F' ρ' S'.length env σ' → D.nx σ' H'
  | .brk env S' => ∀ σ' F' H' ρ', Sim K fa F' H' ρ' S' → Ext F H ρ S F' H' ρ' S' → EnvRep K fa F' ρ' S'.length env σ' → D.bk σ' H'
  | .cnt env S' => ∀ σ' F' H' ρ', Sim K fa F' H' ρ' S' → Ext F H ρ S F' H' ρ' S' → EnvRep K fa F' ρ' S'.length env σ' → D.ct σ' H'
  | .ret v S' => ∀ x F' H' ρ', Sim K fa F' H' ρ' S' → Ext F H ρ S F' H' ρ' S' → RepV K fa F' ρ' S'.length x v → D.rt x H'
  | .exc e env S' => ∀ c d σ' F' H' ρ', Sim K fa F' H' ρ' S' → Ext F H ρ S F' H' ρ' S' → EnvRep K fa F' ρ' S'.length env σ' → RepX fa F' c d e → W c d σ' H'
def rdS (K : PySem.W.Frag) (fa : FA) (W : WX) (m : MS_) : TS := fun D σ H => ∃ env S F ρ, Sim K fa F H ρ S ∧ EnvRep K fa F ρ S.length env σ ∧ PostS K fa W F H ρ S (m env S) D
structure SimS (fa : FA) (X : Cx) (st : Stmt) (m : MS_) : Prop where
  run : ∀ W, Takes X W → PS X st (rdS X.K fa W m)
structure SimSs (fa : FA) (X : Cx) (sts : List Stmt) (m : MS_) : Prop where
  run : ∀ W, Takes X W → PSs X sts (rdS X.K fa W m)
section
variable {K : PySem.W.Frag} {fa : FA} {W : WX} {F H F1 H1 : Hp} {ρ ρ1 : Nat → Addr} {S S1 : Sto}
theorem PostS.shift {r : RS} {D : Ends} (x : Ext F H ρ S F1 H1 ρ1 S1) (h : PostS K fa W F H ρ S r D) : PostS K fa W F1 H1 ρ1 S1 r D := by
  cases r with
  | stuck => exact h
  | nx env S' => exact fun σ' F' H' ρ' s e q => h σ' F' H' ρ' s (x.trans e) q
  | brk env S' => exact fun σ' F' H' ρ' s e q => h σ' F' H' ρ' s (x.trans e) q
  | cnt env S' => exact fun σ' F' H' ρ' s e q => h σ' F' H' ρ' s (x.trans e) q
  | ret v S' => exact fun y F' H' ρ' s e q => h y F' H' ρ' s (x.trans e) q
  | exc e env S' => exact fun c d σ' F' H' ρ' s e q => h c d σ' F' H' ρ' s (x.trans e) q
theorem rdS.bind {α β : Type} {rep : Hp → (Nat → Addr) → Nat → β → α → Prop} {σ : L2.St} {m : M α} {f : MS.Env → α → Sto → RS} {D : Ends} {Q1 : β → Hp → Prop} (h : rdS K fa W (fun env S => RS.ofR env (m env S) (f env)) D σ H)
    (k : ∀ env v S1 x F1 H1 ρ1, Sim K fa F1 H1 ρ1 S1 → EnvRep K fa F1 ρ1 S1.length env σ → rep F1 ρ1 S1.length x v → PostS K fa W F1 H1 ρ1 S1 (f env v S1) D → Q1 x H1) : rdG K fa W rep m σ H Q1 := by
  obtain ⟨env, S, F, ρ, s, e, p⟩ := h
  refine ⟨env, S, F, ρ, s, e, ?_⟩
  dsimp only at p
  cases q : m env S with
  | stuck => rw [q] at p; exact p
  | ok v S1 =>
    rw [q] at p
    exact fun x F1 H1 ρ1 s1 x1 r1 => k env v S1 x F1 H1 ρ1 s1 (e.mono x1.fz x1.rho x1.len) r1 (PostS.shift x1 p)
  | exc ee S1 =>
    rw [q] at p
    exact fun c d F1 H1 ρ1 s1 x1 r1 => p c d σ F1 H1 ρ1 s1 x1 (e.mono x1.fz x1.rho x1.len) r1
theorem PostS.bind {α β : Type} {rep : Hp → (Nat → Addr) → Nat → β → α → Prop} {σ : L2.St} {env : MS.Env} {r : R α} {f : α → Sto → RS} {D : Ends} {Q1 : β → Hp → Prop} (e : EnvRep K fa F ρ S.length env σ) (h : PostS K fa W F H ρ S (RS.ofR env r f) D)
    (k : ∀ v S1 x F1 H1 ρ1, Sim K fa F1 H1 ρ1 S1 → Ext F H ρ S F1 H1 ρ1 S1 → rep F1 ρ1 S1.length x v → PostS K fa W F1 H1 ρ1 S1 (f v S1) D → Q1 x H1) : Post K fa W rep F H ρ S σ r Q1 := by
  cases r with
  | stuck => exact h
  | ok v S1 => exact fun x F1 H1 ρ1 s1 x1 r1 => k v S1 x F1 H1 ρ1 s1 x1 r1 (PostS.shift x1 h)
  | exc ee S1 => exact fun c d F1 H1 ρ1 s1 x1 r1 => h c d σ F1 H1 ρ1 s1 x1 (e.mono x1.fz x1.rho x1.len) r1
theorem PostS.nx_ {env : MS.Env} {D : Ends} {σ : L2.St} (s : Sim K fa F H ρ S) (e : EnvRep K fa F ρ S.length env σ) (h : PostS K fa W F H ρ S (.nx env S) D) : D.nx σ H := h σ F H ρ s (Ext.refl ..) e
end
section
variable {fa : FA} {X : Cx} {pe a b c : Expr} {m ma mb mc : M Val} {pos : Pos}
theorem ss_set {i : Nat} {x : Str} {p : Pos} (hN : X.N.Nodup) (hi : X.N[i]? = some x) (hx : Loc X.env.scope x) (hf : X.fn x = true ∨ X.env.scope.names.lookup x = some .local) (ha : SimE fa X a ma) (hs : swapsWith a (some (.Name x p)) pos.line X.env = pure false) :
    SimS fa X (.Assign [.Name x p] a pos) (fun env S => .ofR env (ma env S) fun v S1 => .nx (env.set i (some v)) S1) := by
  refine ⟨fun W tk => PS.imp (ps_set hN hi hx (ha.run W tk) hs hf) fun D σ H q => ?_⟩
  exact q.bind (rep := RepV X.K fa) fun env v S1 x F1 H1 ρ1 s1 e1 r1 p1 => p1.nx_ s1 (e1.set r1 i)
theorem ss_asg {tgE : Expr} {tg : Tg} (ha : SimE fa X a ma) (hg : PG X tgE (rdGt X.K fa tg)) (hs : swapsWithSole [tgE] a pos.line X.env = pure false) (hw : swappedStores [tgE] a X.env = pure none) (hn : noStar tgE = true) :
    SimS fa X (.Assign [tgE] a pos) (fun env S => .ofR env (ma env S) fun v S1 => match setTg tg v env with | some env1 => .nx env1 S1 | none => .stuck) := by
  refine ⟨fun W tk => PS.imp (ps_asg (ha.run W tk) hg hs hw (by rw [assignEach_cons hn]; rfl)) fun D σ H q => ?_⟩
  refine q.bind (rep := RepV X.K fa) fun env v S1 x F1 H1 ρ1 s1 e1 r1 p1 => ?_
  cases q1 : setTg tg v env with
  | none => rw [q1] at p1; exact p1.elim
  | some env1 =>
    rw [q1] at p1
    exact ⟨env, env1, v, F1, ρ1, S1.length, s1.sub, e1, r1, q1, fun σ' e' _ => p1.nx_ s1 e'⟩
theorem ss_expr (ha : SimE fa X a ma) (hs : noComp a = true) : SimS fa X (.Expr a pos) (fun env S => .ofR env (ma env S) fun _ S1 => .nx env S1) := by
  refine ⟨fun W tk => PS.imp (ps_expr (ha.run W tk) (noComp_ok hs _ _ _)) fun D σ H q => ?_⟩
  exact q.bind (rep := RepV X.K fa) fun env v S1 x F1 H1 ρ1 s1 e1 r1 p1 => p1.nx_ s1 e1
theorem ss_ret (ha : SimE fa X a ma) : SimS fa X (.Return (some a) pos) (fun env S => .ofR env (ma env S) fun v S1 => .ret v S1) := by
  refine ⟨fun W tk => PS.imp (ps_ret (ha.run W tk)) fun D σ H q => ?_⟩
  exact q.bind (rep := RepV X.K fa) fun env v S1 x F1 H1 ρ1 s1 e1 r1 p1 => p1 x F1 H1 ρ1 s1 (Ext.refl ..) r1
theorem ss_pass : SimS fa X (.Pass pos) (fun env S => .nx env S) :=
  ⟨fun W tk => PS.imp ps_pass fun D σ H q => by
    obtain ⟨env, S, F, ρ, s, e, p⟩ := q
    exact p σ F H ρ s (Ext.refl ..) e⟩
theorem ss_brk : SimS fa X (.Break pos) (fun env S => .brk env S) :=
  ⟨fun W tk => PS.imp ps_break fun D σ H q => by
    obtain ⟨env, S, F, ρ, s, e, p⟩ := q
    exact p σ F H ρ s (Ext.refl ..) e⟩
theorem ss_cnt : SimS fa X (.Continue pos) (fun env S => .cnt env S) :=
  ⟨fun W tk => PS.imp ps_continue fun D σ H q => by
    obtain ⟨env, S, F, ρ, s, e, p⟩ := q
    exact p σ F H ρ s (Ext.refl ..) e⟩
theorem ss_never {st : Stmt} : SimS fa X st (fun _ _ => .stuck) :=
  ⟨fun W tk => PS.imp ps_never fun D σ H q => by
    obtain ⟨env, S, F, ρ, s, e, p⟩ := q
    exact p⟩
theorem sss_nil : SimSs fa X [] (fun env S => .nx env S) :=
  ⟨fun W tk => PSs.imp pss_nil fun D σ H q => by
    obtain ⟨env, S, F, ρ, s, e, p⟩ := q
    exact p σ F H ρ s (Ext.refl ..) e⟩
theorem sss_cons {st : Stmt} {sts : List Stmt} {m1 m2 : MS_} (h1 : SimS fa X st m1) (h2 : SimSs fa X sts m2) : SimSs fa X (st :: sts) (fun env S => (m1 env S).seq m2) := by
  refine ⟨fun W tk => PSs.imp (pss_cons (h1.run W tk) (h2.run W tk)) fun D σ H q => ?_⟩
  obtain ⟨env, S, F, ρ, s, e, p⟩ := q
  refine ⟨env, S, F, ρ, s, e, ?_⟩
  dsimp only at p
  cases q : m1 env S with
  | stuck => rw [q] at p; exact p
  | nx env1 S1 =>
    rw [q] at p
    exact fun σ' F' H' ρ' s' x' e' => ⟨env1, S1, F', ρ', s', e', PostS.shift x' p⟩
  | ret v S1 => rw [q] at p; exact p
  | brk env1 S1 => rw [q] at p; exact p
  | cnt env1 S1 => rw [q] at p; exact p
  | exc ee env1 S1 => rw [q] at p; exact p
theorem ss_if {t f : List Stmt} {mt : M Bool} {m1 m2 : MS_} (hc : SimT fa X c mt) (h1 : SimSs fa X t m1) (h2 : SimSs fa X f m2) : SimS fa X (.If c t f pos) (fun env S => .ofR env (mt env S) fun b S1 => if b then m1 env S1 else m2 env S1) := by
  refine ⟨fun W tk => PS.imp (ps_if (hc.run W tk) (h1.run W tk) (h2.run W tk)) fun D σ H q => ?_⟩
  refine q.bind (rep := repB) fun env v S1 x F1 H1 ρ1 s1 e1 r1 p1 => ?_
  cases (show x = v from r1)
  cases v with
  | true => exact ⟨env, S1, F1, ρ1, s1, e1, p1⟩
  | false => exact ⟨env, S1, F1, ρ1, s1, e1, p1⟩
/-! ### loops -/
theorem ss_for {tgE iter : Expr} {tg : Tg} {mi : M (List Val × List Nat)} {body : List Stmt} {mb : MS_} (hp : PassesOwn (model X.prog X.w) X.A X.env X.xe) (hc : X.calm = true) (hi : SimI fa X tgE iter mi) (hg : PG X tgE (rdGt X.K fa tg)) (hb : SimSs fa X body mb) (hs : noSet iter = true) :
    SimS fa X (.For tgE iter body [] pos) (fun env S => .ofR env (mi env S) fun p S1 =>
      (forL (fun x env S => match setTg tg x env with | some env1 => mb env1 S | none => .stuck) p.1 env (lockS S1 p.2)).relock S1 p.2) := by
  refine ⟨fun W tk => PS.imp (ps_for hp hc (hi.run W tk) hg (hb.run W tk) (noSet_iter hs X.env)) fun D σ H q => ?_⟩
  obtain ⟨env, S, F, ρ, s, e, p⟩ := q
  refine ⟨env, S, F, ρ, s, e, ?_⟩
  dsimp only at p
  cases q0 : mi env S with
  | stuck => rw [q0] at p; exact p
  | exc ee S' =>
    rw [q0] at p
    exact fun c d F1 H1 ρ1 s1 x1 r1 => p c d σ F1 H1 ρ1 s1 x1 (e.mono x1.fz x1.rho x1.len) r1
  | ok it S1 =>
    rw [q0] at p
    obtain ⟨items, l⟩ := it
    intro J F1 H1 ρ1 s1 x1 ⟨_, A0, hA, hoff, go, stop, yld⟩
    dsimp only [RS.ofR_ok] at p hoff
    have p1 := PostS.shift x1 p
    refine ⟨fun i m σ H => i + m = items.length ∧ ∃ env F' ρ' S', Sim X.K fa F' H ρ' S' ∧ EnvRep X.K fa F' ρ' S'.length env σ ∧ Ext F1 H1 ρ1 (lockS S1 l) F' H ρ' S' ∧
        PostS X.K fa W F1 H1 ρ1 S1 ((forL (fun x env S => match setTg tg x env with | some env1 => mb env1 S | none => .stuck) (items.drop i) env S').relock S1 l) D,
      ⟨items.length, by simp, env, F1, ρ1, lockS S1 l, s1.lock l, by rw [lockS_length]; exact e.mono x1.fz x1.rho x1.len, Ext.refl .., by simpa using p1⟩, fun i m σi Hi ⟨him, env', F', ρ', S', s', e', x', pi⟩ => ?_⟩
    have sA : Same A0 Hi := fun a o h => x'.frame a o (hA a o h) fun n u hu e => by
      have := hoff n u hu
      rw [← e, h] at this; cases this
    have unl : ∀ {F2 H2 : Hp} {ρ2 : Nat → Addr} {S2 : Sto}, Sim X.K fa F2 H2 ρ2 S2 → Ext F' Hi ρ' S' F2 H2 ρ2 S2 → Sim X.K fa F2 H2 ρ2 (unlockS S1 S2 l) ∧ Ext F1 H1 ρ1 S1 F2 H2 ρ2 (unlockS S1 S2 l) :=
      fun s2 x2 => s1.unlock l s2 (x'.trans x2)
    by_cases hi : i < items.length
    · refine .inr ⟨go i Hi sA hi, fun σ' H' => ∃ env F2 ρ2 S2, Sim X.K fa F2 H' ρ2 S2 ∧ EnvRep X.K fa F2 ρ2 S2.length env σ' ∧ Ext F1 H1 ρ1 (lockS S1 l) F2 H' ρ2 S2 ∧
          PostS X.K fa W F1 H1 ρ1 S1 ((forL (fun x env S => match setTg tg x env with | some env1 => mb env1 S | none => .stuck) (items.drop (i + 1)) env S2).relock S1 l) D,
        fun σ' H' z => ⟨m - 1, by omega, by omega, z⟩, fun x H' hy => ?_⟩
      rw [List.drop_eq_getElem_cons hi] at pi
      unfold forL at pi
      obtain ⟨F2, g2, rx⟩ := yld i Hi x H' items[i] F' sA x'.fz s'.sub (List.getElem?_eq_getElem hi) hy
      obtain ⟨s2, x2⟩ := s'.of_grow g2
      have hlen : S1.length ≤ S'.length := by have := x'.len; rw [lockS_length] at this; exact this
      have hrho : ∀ n, n < S1.length → ρ' n = ρ1 n := fun n hn => x'.rho n (by rw [lockS_length]; exact hn)
      have rx2 := rx.mono (Same.refl _) hrho hlen
      have e2 := e'.mono x2.fz x2.rho x2.len
      cases q1 : setTg tg items[i] env' with
      | none => rw [q1] at pi; exact pi.elim
      | some env1 =>
        rw [q1] at pi
        refine ⟨env', env1, items[i], F2, ρ', S'.length, s2.sub, e2, rx2, q1, fun σ3 e3 _ => ?_⟩
        refine ⟨env1, S', F2, ρ', s2, e3, ?_⟩
        dsimp only at pi
        cases q2 : mb env1 S' with
        | stuck => rw [q2] at pi; exact pi
        | nx env2 S2 =>
          rw [q2] at pi
          exact fun σ' F3 H3 ρ3 s3 x3 e4 => ⟨env2, F3, ρ3, S2, s3, e4, (x'.trans x2).trans x3, pi⟩
        | cnt env2 S2 =>
          rw [q2] at pi
          exact fun σ' F3 H3 ρ3 s3 x3 e4 => ⟨env2, F3, ρ3, S2, s3, e4, (x'.trans x2).trans x3, pi⟩
        | brk env2 S2 =>
          rw [q2] at pi
          intro σ' F3 H3 ρ3 s3 x3 e4
          obtain ⟨s5, x5⟩ := unl s3 (x2.trans x3)
          exact pi σ' F3 H3 ρ3 s5 x5 (by rw [unlockS_length]; exact e4)
        | ret v S2 =>
          rw [q2] at pi
          intro y F3 H3 ρ3 s3 x3 r4
          obtain ⟨s5, x5⟩ := unl s3 (x2.trans x3)
          exact pi y F3 H3 ρ3 s5 x5 (by rw [unlockS_length]; exact r4)
        | exc ee env2 S2 =>
          rw [q2] at pi
          intro c d σ' F3 H3 ρ3 s3 x3 e4 r4
          obtain ⟨s5, x5⟩ := unl s3 (x2.trans x3)
          exact pi c d σ' F3 H3 ρ3 s5 x5 (by rw [unlockS_length]; exact e4) r4
    · have hi' : i = items.length := by omega
      subst hi'
      refine .inl ⟨stop Hi sA, ?_⟩
      rw [List.drop_length] at pi
      obtain ⟨s5, x5⟩ := unl s' (Ext.refl ..)
      exact pi σi F' Hi ρ' s5 x5 (by rw [unlockS_length]; exact e')
theorem ss_while {body : List Stmt} {mt : M Bool} {mb : MS_} (n : Nat) (hp : PassesOwn (model X.prog X.w) X.A X.env X.xe) (hc : SimT fa X c mt) (hb : SimSs fa X body mb) :
    SimS fa X (.While c body [] pos) (fun env S => whileL mt mb n env S) := by
  refine ⟨fun W tk => PS.imp (ps_while hp (hc.run W tk) (hb.run W tk)) fun D σ H q => ?_⟩
  refine ⟨fun m σ H => rdS X.K fa W (fun env S => whileL mt mb m env S) D σ H, ⟨n, q⟩, fun m σ H q => ?_⟩
  cases m with
  | zero =>
    obtain ⟨env, S, F, ρ, s, e, p⟩ := q
    exact p.elim
  | succ m =>
    have q' : rdS X.K fa W (fun env S => RS.ofR env (mt env S) fun b S1 => if b then (match mb env S1 with
      | .nx env2 S2 => whileL mt mb m env2 S2
      | .cnt env2 S2 => whileL mt mb m env2 S2
      | .brk env2 S2 => .nx env2 S2
      | r => r) else .nx env S1) D σ H := q
    refine q'.bind (rep := repB) fun env v S1 x F1 H1 ρ1 s1 e1 r1 p1 => ?_
    cases (show x = v from r1)
    cases v with
    | false => exact p1.nx_ s1 e1
    | true =>
      rw [if_pos rfl]
      refine ⟨fun σ' H' => rdS X.K fa W (fun env S => whileL mt mb m env S) D σ' H', fun σ' H' z => ⟨m, Nat.lt_succ_self _, z⟩, env, S1, F1, ρ1, s1, e1, ?_⟩
      simp only [if_true] at p1
      cases q2 : mb env S1 with
      | stuck => rw [q2] at p1; exact p1
      | nx env2 S2 =>
        rw [q2] at p1
        exact fun σ' F3 H3 ρ3 s3 x3 e4 => ⟨env2, S2, F3, ρ3, s3, e4, PostS.shift x3 p1⟩
      | cnt env2 S2 =>
        rw [q2] at p1
        exact fun σ' F3 H3 ρ3 s3 x3 e4 => ⟨env2, S2, F3, ρ3, s3, e4, PostS.shift x3 p1⟩
      | brk env2 S2 => rw [q2] at p1; exact p1
      | ret v S2 => rw [q2] at p1; exact p1
      | exc ee env2 S2 => rw [q2] at p1; exact p1
/-! ### several names at once -/
def setMany (env : MS.Env) (ts : List Nat) (vs : List Val) : MS.Env := (ts.zip vs).foldl (fun env p => env.set p.1 (some p.2)) env
theorem EnvRep.many {K : PySem.W.Frag} {F : Hp} {ρ : Nat → Addr} {n : Nat} : ∀ {ts : List Nat} {xs : List V} {vs : List Val} {env : MS.Env} {σ : L2.St}, EnvRep K fa F ρ n env σ → RepVs K fa F ρ n xs vs → EnvRep K fa F ρ n (setMany env ts vs) ((ts.zip xs).foldl (fun σ p => σ.set p.1 (some p.2)) σ)
  | [], _, _, _, _, e, _ => e
  | _ :: _, _, _, _, _, e, .nil => e
  | t :: ts, _, _, _, _, e, .cons r rs => EnvRep.many (ts := ts) (e.set r t) rs
def mpar (ts : List Nat) (ms : M (List Val)) : MS_ := fun env S => .ofR env (ms env S) fun vs S1 => if vs.length = ts.length then .nx (setMany env ts vs) S1 else .stuck
theorem ss_par2 {i j : Nat} {x y : Str} {ms : M (List Val)} {px py pt : Pos} {kt k2 pt2} (hc : X.calm = true) (hN : X.N.Nodup) (hi : X.N[i]? = some x) (hj : X.N[j]? = some y) (hij : i ≠ j)
    (hx : X.env.scope.names.lookup x = some .local) (hy : X.env.scope.names.lookup y = some .local) (ha : SimA fa X [a, b] ms)
    (hw : swappedStores [.Tuple [.Name x px, .Name y py] kt pt] (.Tuple [a, b] k2 pt2) X.env = pure (some [x, y])) :
    SimS fa X (.Assign [.Tuple [.Name x px, .Name y py] kt pt] (.Tuple [a, b] k2 pt2) pos) (mpar [i, j] ms) := by
  refine ⟨fun W tk => PS.imp (ps_par hc hN hi hj hij hx hy (ha.run W tk) hw rfl) fun D σ H q => ?_⟩
  refine q.bind (rep := RepVs X.K fa) fun env vs S1 xs F1 H1 ρ1 s1 e1 r1 p1 => ?_
  split at p1
  · rename_i hl
    have hl2 := r1.length.trans hl
    match xs, vs, r1 with
    | [u, v], _, r1 => exact ⟨u, v, rfl, p1.nx_ s1 (EnvRep.many (ts := [i, j]) e1 r1)⟩
  · exact p1.elim
theorem ss_par3 {i j l : Nat} {x y z : Str} {ms : M (List Val)} {px py pz pt : Pos} {kt k2 pt2} (hc : X.calm = true) (hN : X.N.Nodup) (hi : X.N[i]? = some x) (hj : X.N[j]? = some y) (hl : X.N[l]? = some z) (hij : i ≠ j) (hil : i ≠ l) (hjl : j ≠ l)
    (hx : X.env.scope.names.lookup x = some .local) (hy : X.env.scope.names.lookup y = some .local) (hz : X.env.scope.names.lookup z = some .local) (ha : SimA fa X [a, b, c] ms)
    (hw : swappedStores [.Tuple [.Name x px, .Name y py, .Name z pz] kt pt] (.Tuple [a, b, c] k2 pt2) X.env = pure (some [x, y, z])) :
    SimS fa X (.Assign [.Tuple [.Name x px, .Name y py, .Name z pz] kt pt] (.Tuple [a, b, c] k2 pt2) pos) (mpar [i, j, l] ms) := by
  refine ⟨fun W tk => PS.imp (ps_par3 hc hN hi hj hl hij hil hjl hx hy hz (ha.run W tk) hw rfl) fun D σ H q => ?_⟩
  refine q.bind (rep := RepVs X.K fa) fun env vs S1 xs F1 H1 ρ1 s1 e1 r1 p1 => ?_
  split at p1
  · rename_i hl
    have hl2 := r1.length.trans hl
    match xs, vs, r1 with
    | [u, v, w], _, r1 => exact ⟨u, v, w, rfl, p1.nx_ s1 (EnvRep.many (ts := [i, j, l]) e1 r1)⟩
  · exact p1.elim
/-- by a tuple: the names take its items -/
def rdNs (K : PySem.W.Frag) (fa : FA) (ts : List Nat) : TGs := fun xs σ H Q => ∃ env vs F ρ n, EnvRep K fa F ρ n env σ ∧ RepVs K fa F ρ n xs vs ∧ vs.length = ts.length ∧ ∀ σ', EnvRep K fa F ρ n (setMany env ts vs) σ' → Q σ' H
theorem sn_nil : PGs X [] (rdNs X.K fa []) := by
  refine PGs.imp pgs_nil fun xs σ H Q q => ?_
  obtain ⟨env, vs, F, ρ, n, e, r, hl, q⟩ := q
  cases r with
  | nil => exact ⟨rfl, q σ e⟩
  | cons _ _ => simp at hl
theorem sn_cons {i : Nat} {x : Str} {p : Pos} {es : List Expr} {ts : List Nat} (hN : X.N.Nodup) (hi : X.N[i]? = some x) (hx : Loc X.env.scope x) (hf : X.fn x = true ∨ X.env.scope.names.lookup x = some .local) (h : PGs X es (rdNs X.K fa ts)) : PGs X (.Name x p :: es) (rdNs X.K fa (i :: ts)) := by
  refine PGs.imp (pgs_cons (pg_name hN hi hx hf) h (by rw [assignEach_cons rfl]; rfl)) fun xs σ H Q q => ?_
  obtain ⟨env, vs, F, ρ, n, e, r, hl, q⟩ := q
  cases r with
  | nil => simp at hl
  | cons r rs => exact ⟨_, _, rfl, _, _, F, ρ, n, e.set r i, rs, by simpa using hl, q⟩
/-- an object that nobody tracks -/
theorem Sim.junk {K : PySem.W.Frag} {F H : Hp} {ρ : Nat → Addr} {S : Sto} {p : Addr} {o : HO} (s : Sim K fa F H ρ S) (hp : H p = none) : Sim K fa F (upd H p o) ρ S ∧ Ext F H ρ S F (upd H p o) ρ S := by
  have sH : Same H (upd H p o) := fun a u h => by rw [upd_ne (ne_of_none h hp)]; exact h
  refine ⟨⟨s.sub.trans sH, s.off, fun n o h => ?_, s.inj⟩, ⟨Same.refl _, fun _ _ => rfl, Nat.le_refl _, fun a o h _ => sH a o h, fun a o h => ⟨o, sH a o h⟩, fun n u h => .inl ⟨stGet_lt h, u, h⟩, fun a o h => .inl (by rw [h]; intro z; cases z)⟩⟩
  obtain ⟨x, hx, r⟩ := s.obj n o h
  exact ⟨x, sH _ _ hx, r⟩
theorem ss_parT {ts : List Nat} {tes es : List Expr} {ms : M (List Val)} {pt pt2 : Pos} {kt k2} (hc : X.calm = true) (hg : PGs X tes (rdNs X.K fa ts)) (hst : tes.all noStar = true) (hlt : tes.length = ts.length) (ha : SimA fa X es ms) (hz : ts.length ≤ 1000)
    (hw : swappedStores [.Tuple tes kt pt] (.Tuple es k2 pt2) X.env = pure none) : SimS fa X (.Assign [.Tuple tes kt pt] (.Tuple es k2 pt2) pos) (mpar ts ms) := by
  obtain ⟨a1, a2⟩ := assignEach_length tes X.env hst
  refine ⟨fun W tk => PS.imp (ps_asg (pe_tup (ha.run W tk)) (pg_tup (n := tes.length) hc hg a1 a2) rfl hw rfl) fun D σ H q => ?_⟩
  refine q.bind (rep := RepVs X.K fa) fun env vs S1 xs F1 H1 ρ1 s1 e1 r1 p1 => ?_
  split at p1
  · rename_i hl
    refine ⟨by rw [r1.length, hl, sizeLine_eq]; omega, fun p hp => ?_⟩
    obtain ⟨s2, x2⟩ := s1.junk (o := .tup xs) hp
    refine ⟨p, xs, rfl, SqT.of upd_same, by rw [r1.length, hl, hlt], env, vs, F1, ρ1, S1.length, e1, r1, hl, fun σ' e' => ?_⟩
    exact p1 σ' F1 _ ρ1 s2 x2 e'
  · exact p1.elim
/-! ### lists changed -/
/-- the list at n is changed -/
theorem Sim.put {K : PySem.W.Frag} {F H : Hp} {ρ : Nat → Addr} {S : Sto} {n : Nat} {o o' : Ob} {h' : HO} (s : Sim K fa F H ρ S) (h : stGet S n = some o) (r : RepO K fa F ρ S.length h' o') :
    Sim K fa F (upd H (ρ n) h') ρ (S.set n (some o')) ∧ Ext F H ρ S F (upd H (ρ n) h') ρ (S.set n (some o')) := by
  have hn := stGet_lt h
  have fF := s.off n _ h
  have gl : ∀ m u, stGet (S.set n (some o')) m = some u → (m = n ∧ u = o') ∨ (m ≠ n ∧ stGet S m = some u) := fun m u q => by
    rw [stGet_set] at q
    split at q
    · rename_i z; cases q; exact .inl ⟨z.1.symm, rfl⟩
    · rename_i z
      exact .inr ⟨fun e => z ⟨e.symm, hn⟩, q⟩
  have had : ∀ m u, stGet (S.set n (some o')) m = some u → ∃ u', stGet S m = some u' := fun m u q => by
    rcases gl m u q with ⟨rfl, _⟩ | ⟨_, q⟩
    · exact ⟨_, h⟩
    · exact ⟨_, q⟩
  refine ⟨⟨fun a u q => ?_, fun m u q => ?_, fun m u q => ?_, fun m m' u u' q q' e => ?_⟩, ⟨Same.refl _, fun _ _ => rfl, by simp, fun a u q hx => ?_, fun a u q => ?_, fun m u q => ?_, fun a u q => .inl (by rw [q]; intro z; cases z)⟩⟩
  · rw [upd_ne (ne_of_none q fF)]; exact s.sub a u q
  · obtain ⟨u', q'⟩ := had m u q
    exact s.off m u' q'
  · rw [List.length_set]
    rcases gl m u q with ⟨rfl, rfl⟩ | ⟨z, q⟩
    · exact ⟨h', upd_same, r⟩
    · obtain ⟨y, hy, ry⟩ := s.obj m u q
      exact ⟨y, by rw [upd_ne (fun e => z (s.inj m n _ _ q h e))]; exact hy, ry⟩
  · obtain ⟨v, q1⟩ := had m u q
    obtain ⟨v', q1'⟩ := had m' u' q'
    exact s.inj m m' v v' q1 q1' e
  · rw [upd_ne (hx n _ h)]; exact q
  · by_cases e : a = ρ n
    · subst e; exact ⟨_, upd_same⟩
    · exact ⟨u, by rw [upd_ne e]; exact q⟩
  · obtain ⟨u', q'⟩ := had m u q
    exact .inl ⟨stGet_lt q', u', q'⟩
def notCall0 : Expr → Bool
  | .Call _ [] [] _ => false
  | _ => true
theorem attrBase {o : Expr} (h : notCall0 o = true) (name : Str) (env : PySem.Env) (w : Sem Value) : attributeBase o name env w = w := by
  unfold attributeBase
  split
  · simp [notCall0] at h
  · rfl
theorem few1 {a : Expr} (h : noStar a = true) (env : PySem.Env) (pos : Pos) : ((backTo pos (starEach [a] env)).all (fun x => !x.1) && (backToKw pos (keywordEach [] env)).all (fun x => x.1.isSome) && decide (([a] : List Expr).length + ([] : List Keyword).length + (if ([] : List Keyword).isEmpty then 0 else 1) < 30)) = true := by
  rw [starEach_cons h]; rfl
theorem ofR_args {env : MS.Env} {S : Sto} {f : Val → Sto → RS} : (RS.ofR env (mb env S) f) = RS.ofR env ((mcons mb mnil) env S) fun vs S2 => match vs with | [v] => f v S2 | _ => .stuck := by
  unfold mcons mnil
  cases mb env S <;> rfl
theorem ss_bm {id : String} {nm : Str} {apos cpos : Pos} {r : V → List V → Hp → VK → Prop} {f : MS.Env → Val → Val → Sto → RS} (hm : MtR X id r) (slot : Slot "list" nm id) (hty : typeOf (.builtin id) = pure (.type "method_descriptor"))
    (ha : SimE fa X a ma) (hb : SimE fa X b mb) (h0 : notCall0 a = true) (hn : noStar b = true) (hl : (apos.endLine == cpos.line) = true)
    (hr : ∀ env x v S y z F H ρ W D σ, Sim X.K fa F H ρ S → EnvRep X.K fa F ρ S.length env σ → RepV X.K fa F ρ S.length y x → RepV X.K fa F ρ S.length z v → PostS X.K fa W F H ρ S (f env x v S) D → r y [z] H fun _ H' => D.nx σ H') :
    SimS fa X (.Expr (.Call (.Attribute a nm apos) [b] [] cpos) pos) (fun env S => .ofR env (ma env S) fun x S1 => if isLst S1 x then .ofR env (mb env S1) fun v S2 => f env x v S2 else .stuck) := by
  refine ⟨fun W tk => PS.imp (ps_expr (pe_bm PySem.F.plainAttrs_list slot hty hm (ha.run W tk) ((sa_cons hb sa_nil hn).run W tk) (attrBase h0 _ _ _) (few1 hn _ _) hl (starEach_cons hn _ _) rfl) rfl) fun D σ H q => ?_⟩
  refine q.bind (rep := RepV X.K fa) fun env x S1 xv F1 H1 ρ1 s1 e1 r1 p1 => ?_
  cases hx : isLst S1 x with
  | false => rw [hx] at p1; exact p1.elim
  | true =>
    rw [hx] at p1
    simp only [if_true] at p1
    refine ⟨?_, ?_⟩
    · cases x with
      | ref n =>
        obtain ⟨hn1, rfl⟩ := r1
        simp only [isLst] at hx
        cases q1 : stGet S1 n with
        | none => rw [q1] at hx; cases hx
        | some o =>
          rw [q1] at hx
          cases o with
          | dct _ => cases hx
          | kv _ _ => cases hx
          | lst vs =>
            obtain ⟨ho, h2, r2⟩ := s1.obj n _ q1
            cases r2 with
            | lst r2 => exact .inl ⟨rfl, _, SqL.of h2⟩
      | _ => cases hx
    · rw [ofR_args] at p1
      refine ⟨env, S1, F1, ρ1, s1, e1, PostS.bind e1 p1 fun vs S2 ys F2 H2 ρ2 s2 x2 r2 p2 => ?_⟩
      match vs, ys, r2 with
      | [v], _, .cons rz .nil => exact hr env x v S2 xv _ F2 H2 ρ2 W D σ s2 (e1.mono x2.fz x2.rho x2.len) (r1.mono x2.fz x2.rho x2.len) rz p2
      | [], _, _ => exact p2.elim
      | _ :: _ :: _, _, _ => exact p2.elim
theorem ss_app {apos cpos : Pos} (ha : SimE fa X a ma) (hb : SimE fa X b mb) (h0 : notCall0 a = true) (hn : noStar b = true) (hl : (apos.endLine == cpos.line) = true) : SimS fa X (.Expr (.Call (.Attribute a "append" apos) [b] [] cpos) pos)
    (fun env S => .ofR env (ma env S) fun x S1 => if isLst S1 x then .ofR env (mb env S1) fun v S2 => appV env x v S2 else .stuck) := by
  refine ss_bm mt_append PySem.F.slot_list_append PySem.F.type_list_append ha hb h0 hn hl fun env x v S y z F H ρ W D σ s e ry rz p => ?_
  unfold appV at p
  cases x with
  | ref n =>
    obtain ⟨hn1, rfl⟩ := ry
    dsimp only at p
    cases q1 : stGet S n with
    | none => rw [q1] at p; exact p.elim
    | some o =>
      rw [q1] at p
      cases o with
      | dct _ => exact p.elim
      | kv _ _ => exact p.elim
      | lst vs =>
        obtain ⟨ho, h2, r2⟩ := s.obj n _ q1
        cases r2 with
        | lst r2 =>
          dsimp only at p
          split at p
          · rename_i hz
            obtain ⟨s3, x3⟩ := s.put q1 (RepO.lst (r2.append (.cons rz .nil)))
            exact ⟨_, _, _, rfl, rfl, h2, by rw [r2.length, ← sLine_eq]; exact hz, p σ F _ ρ s3 x3 (by rw [List.length_set]; exact e)⟩
          · exact p.elim
  | _ => exact p.elim
theorem ss_ext {apos cpos : Pos} (ha : SimE fa X a ma) (hb : SimE fa X b mb) (h0 : notCall0 a = true) (hn : noStar b = true) (hl : (apos.endLine == cpos.line) = true) : SimS fa X (.Expr (.Call (.Attribute a "extend" apos) [b] [] cpos) pos)
    (fun env S => .ofR env (ma env S) fun x S1 => if isLst S1 x then .ofR env (mb env S1) fun v S2 => extV env x v S2 else .stuck) := by
  refine ss_bm mt_extend PySem.F.slot_list_extend PySem.F.type_list_extend ha hb h0 hn hl fun env x v S y z F H ρ W D σ s e ry rz p => ?_
  unfold extV at p
  cases x with
  | ref n =>
    obtain ⟨hn1, rfl⟩ := ry
    cases q0 : view S v with
    | none => rw [q0] at p; exact p.elim
    | some d =>
      rw [q0] at p
      cases d with
      | list ys =>
        dsimp only at p
        cases q1 : stGet S n with
        | none => rw [q1] at p; exact p.elim
        | some o =>
          rw [q1] at p
          cases o with
          | dct _ => exact p.elim
          | kv _ _ => exact p.elim
          | lst vs =>
            obtain ⟨ho, h2, r2⟩ := s.obj n _ q1
            cases r2 with
            | lst r2 =>
              dsimp only at p
              obtain ⟨l, zs, rfl, h3, r3⟩ := (s.view rz q0).list s.sub
              split at p
              · rename_i hz
                obtain ⟨s3, x3⟩ := s.put q1 (RepO.lst (r2.append (RepVs.of_pure r3)))
                exact ⟨_, _, _, _, rfl, rfl, h2, h3, by rw [r2.length, r3.length, ← sLine_eq]; exact hz, p σ F _ ρ s3 x3 (by rw [List.length_set]; exact e)⟩
              · exact p.elim
      | _ => exact p.elim
  | _ => exact p.elim
theorem ss_setix {c : Expr} {mc : M Val} {p2 : Pos} (hc : SimE fa X c mc) (ha : SimE fa X a ma) (hb : SimE fa X b mb) (hcc : noComp c = true) (hsl : noSlice b = true) (h1 : swappedStores [.Subscript a b p2] c X.env = pure none) : SimS fa X (.Assign [.Subscript a b p2] c pos)
    (fun env S => .ofR env (mc env S) fun v S1 => .ofR env (ma env S1) fun x S2 => .ofR env (mb env S2) fun y S3 => sixV env x y v S3) := by
  refine ⟨fun W tk => PS.imp (ps_asg (hc.run W tk) (pg_sub (ha.run W tk) (hb.run W tk) set_list (by clear hb; intro v; cases b <;> first | rfl | (simp [noSlice] at hsl))) (noComp_ok hcc (some (.Subscript a b p2)) pos.line X.env) h1 rfl) fun D σ H q => ?_⟩
  refine q.bind (rep := RepV X.K fa) fun env v S1 zv F1 H1 ρ1 s1 e1 r1 p1 => ?_
  refine ⟨env, S1, F1, ρ1, s1, e1, PostS.bind e1 p1 fun x S2 xv F2 H2 ρ2 s2 x2 r2 p2 => ?_⟩
  have e2 := e1.mono x2.fz x2.rho x2.len
  refine ⟨env, S2, F2, ρ2, s2, e2, PostS.bind e2 p2 fun y S3 yv F3 H3 ρ3 s3 x3 r3 p3 => ?_⟩
  have e3 := e2.mono x3.fz x3.rho x3.len
  have x23 := x2.trans x3
  have rz := r1.mono x23.fz x23.rho x23.len
  have rx := r2.mono x3.fz x3.rho x3.len
  unfold sixV at p3
  cases x with
  | ref n =>
    obtain ⟨hn1, rfl⟩ := rx
    cases y with
    | d y =>
      cases y with
      | int j =>
        cases (show Rep X.K F3 yv (.int j) from r3)
        dsimp only at p3
        cases q1 : stGet S3 n with
        | none => rw [q1] at p3; exact p3.elim
        | some o =>
          rw [q1] at p3
          cases o with
          | dct _ => exact p3.elim
          | kv _ _ => exact p3.elim
          | lst vs =>
            obtain ⟨ho, h2, r2⟩ := s3.obj n _ q1
            cases r2 with
            | lst r2 =>
              dsimp only at p3
              cases q2 : ixOf vs.length j with
              | none => rw [q2] at p3; exact p3.elim
              | some k =>
                rw [q2] at p3
                obtain ⟨s4, x4⟩ := s3.put q1 (RepO.lst (r2.set rz k))
                exact ⟨_, _, _, _, rfl, rfl, h2, by rw [r2.length]; exact q2, p3 σ F3 _ ρ3 s4 x4 (by rw [List.length_set]; exact e3)⟩
      | _ => exact p3.elim
    | _ => exact p3.elim
  | _ => exact p3.elim
/-- one item of a list set, and then the rest -/
theorem six_step {F H : Hp} {ρ : Nat → Addr} {S : Sto} {env : MS.Env} {x y v : Val} {xv yv zv : V} {W : WX} {D : Ends} {Q : Hp → Prop} {f : MS.Env → Sto → RS} (s : Sim X.K fa F H ρ S) (rx : RepV X.K fa F ρ S.length xv x) (ry : RepV X.K fa F ρ S.length yv y) (rv : RepV X.K fa F ρ S.length zv v)
    (p : PostS X.K fa W F H ρ S ((sixV env x y v S).seq f) D) (k : ∀ H' S', Sim X.K fa F H' ρ S' → S'.length = S.length → PostS X.K fa W F H' ρ S' (f env S') D → Q H') : rSetL xv yv zv H Q := by
  unfold sixV at p
  cases x with
  | ref n =>
    obtain ⟨hn1, rfl⟩ := rx
    cases y with
    | d y =>
      cases y with
      | int j =>
        cases (show Rep X.K F yv (.int j) from ry)
        dsimp only at p
        cases q1 : stGet S n with
        | none => rw [q1] at p; exact p.elim
        | some o =>
          rw [q1] at p
          cases o with
          | dct _ => exact p.elim
          | kv _ _ => exact p.elim
          | lst vs =>
            obtain ⟨ho, h2, r2⟩ := s.obj n _ q1
            cases r2 with
            | lst r2 =>
              dsimp only at p
              cases q2 : ixOf vs.length j with
              | none => rw [q2] at p; exact p.elim
              | some i =>
                rw [q2] at p
                obtain ⟨s4, x4⟩ := s.put q1 (RepO.lst (r2.set rv i))
                exact ⟨_, _, _, _, rfl, rfl, h2, by rw [r2.length]; exact q2, k _ _ s4 (by rw [List.length_set]) (PostS.shift x4 p)⟩
      | _ => exact p.elim
    | _ => exact p.elim
  | _ => exact p.elim
def mst2 (ms : M (List Val)) (ma mi mb mj : M Val) : MS_ := fun env S => .ofR env (ms env S) fun vs S1 => match vs with
    | [v, w] => .ofR env (ma env S1) fun x S2 => .ofR env (mi env S2) fun y S3 => (sixV env x y v S3).seq fun env S4 =>
        .ofR env (mb env S4) fun x S5 => .ofR env (mj env S5) fun y S6 => sixV env x y w S6
    | _ => .stuck
theorem RS.seq_self (r : RS) : r.seq (fun env S => .nx env S) = r := by cases r <;> rfl
theorem ss_st2 {i j : Expr} {mi mj : M Val} {es : List Expr} {ms : M (List Val)} {p1 p2 pt pt2 : Pos} {kt k2 : Nat} (hc : X.calm = true) (hs : SimA fa X es ms) (ha : SimE fa X a ma) (hi : SimE fa X i mi) (hb : SimE fa X b mb) (hj : SimE fa X j mj)
    (h1 : noSlice i = true) (h2 : noSlice j = true) (hw : swappedStores [.Tuple [.Subscript a i p1, .Subscript b j p2] kt pt] (.Tuple es k2 pt2) X.env = pure none) :
    SimS fa X (.Assign [.Tuple [.Subscript a i p1, .Subscript b j p2] kt pt] (.Tuple es k2 pt2) pos) (mst2 ms ma mi mb mj) := by
  refine ⟨fun W tk => PS.imp (ps_asg (pe_tup (hs.run W tk)) (pg_tup (n := 2) hc (pgs_cons (pg_sub (ha.run W tk) (hi.run W tk) set_list (by clear hi; intro v; cases i <;> first | rfl | (simp [noSlice] at h1))) (pgs_cons (pg_sub (hb.run W tk) (hj.run W tk) set_list (by clear hj; intro v; cases j <;> first | rfl | (simp [noSlice] at h2))) pgs_nil))) rfl hw rfl) fun D σ H q => ?_⟩
  refine q.bind (rep := RepVs X.K fa) fun env vs S1 xs F1 H1 ρ1 s1 e1 r1 p1 => ?_
  match xs, vs, r1 with
  | [v, w], [v', w'], .cons rv (.cons rw .nil) =>
    dsimp only at p1
    refine ⟨by rw [sizeLine_eq]; simp, fun p hp => ?_⟩
    obtain ⟨s2, x2⟩ := s1.junk (o := .tup [v, w]) hp
    have p2' := PostS.shift x2 p1
    refine ⟨p, [v, w], rfl, SqT.of upd_same, rfl, v, [w], rfl, ?_⟩
    refine ⟨env, S1, F1, ρ1, s2, e1, PostS.bind e1 p2' fun x S2 xv F2 H2 ρ2 s3 x3 r3 p3 => ?_⟩
    have e2 := e1.mono x3.fz x3.rho x3.len
    refine ⟨env, S2, F2, ρ2, s3, e2, PostS.bind e2 p3 fun y S3 yv F3 H3 ρ3 s4 x4 r4 p4 => ?_⟩
    have e3 := e2.mono x4.fz x4.rho x4.len
    have x34 := x3.trans x4
    refine six_step s4 (r3.mono x4.fz x4.rho x4.len) r4 (RepV.mono x34.fz x34.rho x34.len rv) p4 fun H4 S4 s5 l5 p5 => ?_
    have e4 : EnvRep X.K fa F3 ρ3 S4.length env σ := by rw [l5]; exact e3
    refine ⟨w, [], rfl, ?_⟩
    refine ⟨env, S4, F3, ρ3, s5, e4, PostS.bind e4 p5 fun x S5 xv F5 H5 ρ5 s6 x6 r6 p6 => ?_⟩
    have e5 := e4.mono x6.fz x6.rho x6.len
    refine ⟨env, S5, F5, ρ5, s6, e5, PostS.bind e5 p6 fun y S6 yv F6 H6 ρ6 s7 x7 r7 p7 => ?_⟩
    have e6 := e5.mono x7.fz x7.rho x7.len
    have x67 := x6.trans x7
    have rw' := RepV.mono x34.fz x34.rho x34.len rw
    rw [← l5] at rw'
    rw [← RS.seq_self (sixV env _ _ _ S6)] at p7
    refine six_step s7 (r6.mono x7.fz x7.rho x7.len) r7 (RepV.mono x67.fz x67.rho x67.len rw') p7 fun H7 S7 s8 l8 p8 => ?_
    exact ⟨rfl, p8.nx_ s8 (by rw [l8]; exact e6)⟩
  | [], [], .nil => exact p1.elim
  | [_], [_], .cons _ .nil => exact p1.elim
  | _ :: _ :: _ :: _, _ :: _ :: _ :: _, .cons _ (.cons _ (.cons _ _)) => exact p1.elim
end
end MS

-- MsMore
/-! isinstance, sets, dicts as data, comprehensions in place. -/
namespace MS
open PySem PySem.Spec PyProof.Rows L2

section
variable {fa : FA} {X : Cx} {pe a b c : Expr} {m ma mb mc : M Val} {pos : Pos}
/-! ### isinstance -/
def tyStr : Ty → Str
  | .int => "int" | .bool => "bool" | .tuple => "tuple" | .list => "list" | .str => "str" | .dict => "dict"
theorem boot_ty (t : Ty) : bootBuiltins (tyStr t) = some (.type (tyN t)) := by cases t <;> decide +kernel
theorem cls_ty (t : Ty) : ClsV (tyV1 t) (.type (tyN t)) := by cases t <;> exact ClsV.ty _
theorem pe_tyN {t : Ty} {p : Pos} (hg : Gl X (tyStr t)) (hm : X.mg (tyStr t) = none) : PE X (.Name (tyStr t) p) (tC (tyV1 t)) := by
  cases t <;> exact pe_bltn hg hm (boot_ty _) rfl (by decide) (by decide)
theorem boot_isinstance : bootBuiltins "isinstance" = some (.builtin "isinstance") := by decide +kernel
def misi (ma : M Val) (tys : List Ty) : M Val := fun env S => (ma env S).bind fun x S1 => .ofO ((isTyV S1 tys x).map fun b => .d (.bool b)) S1
theorem sm_isi1 {t : Ty} {p p2 : Pos} (hg : Gl X "isinstance") (hm : X.mg "isinstance" = none) (hgt : Gl X (tyStr t)) (hmt : X.mg (tyStr t) = none) (ha : SimE fa X a ma) (hn : noStar a = true) :
    SimE fa X (.Call (.Name "isinstance" p) [a, .Name (tyStr t) p2] [] pos) (misi ma [t]) := by
  refine ⟨fun W tk => PE.imp (pe_callB call_isiY hg hm boot_isinstance (pa_cons (ha.run W tk) (pa_cons (pe_tyN hgt hmt) pa_nil rfl) (starEach_cons hn _ _)) (by decide) (by decide) (starEach_cons hn _ _) rfl) fun σ H Q q => ?_⟩
  refine q.bind (rep := RepV X.K fa) fun env v S1 x F1 H1 ρ1 s1 e1 r1 p1 => ?_
  obtain ⟨w, ew, q2⟩ := p1.ofO
  unfold isTyV at ew
  cases q3 : view S1 v with
  | none => rw [q3] at ew; cases ew
  | some d =>
    rw [q3] at ew
    cases ew
    refine ⟨x, tyV1 t, _, _, isTy t d, rfl, cls_ty t, tyx_of s1.sub (s1.view r1 q3), kit_D X.K t d, q2 _ F1 H1 ρ1 s1 (Ext.refl ..) ?_⟩
    simp
    exact Rep.bl _
theorem kit_any (K : PySem.W.Frag) (d : D) : ∀ tys : List Ty, PySem.W.kitAny K (.type (dTy d)) (tys.map fun t => .type (tyN t)) = some (tys.any fun t => isTy t d)
  | [] => rfl
  | t :: ts => by
    refine kitAny_cons (b := isTy t d) (kit_D K t d) (fun h => ?_) (fun h => ?_)
    · rw [kit_any K d ts, List.any_cons, h]; rfl
    · rw [List.any_cons, h]; rfl
theorem pa_tys {ts : List Ty} {pes : List Expr} (h : Paired (fun t pe => ∃ p, pe = Expr.Name (tyStr t) p) ts pes) (hg : ∀ t ∈ ts, Gl X (tyStr t) ∧ X.mg (tyStr t) = none) : PA X pes (fun σ H Q => Q (ts.map tyV1) H) := by
  induction h with
  | nil => exact pa_nil
  | cons h1 h2 ih =>
    obtain ⟨p, rfl⟩ := h1
    exact pa_cons (pe_tyN (hg _ (by simp)).1 (hg _ (by simp)).2) (ih fun t ht => hg t (by simp [ht])) rfl
theorem sm_isiT {ts : List Ty} {pes : List Expr} {p p2 : Pos} {k : Nat} (hg : Gl X "isinstance") (hm : X.mg "isinstance" = none) (ht : Paired (fun t pe => ∃ p, pe = Expr.Name (tyStr t) p) ts pes) (hgt : ∀ t ∈ ts, Gl X (tyStr t) ∧ X.mg (tyStr t) = none) (hz : ts.length ≤ 1000) (ha : SimE fa X a ma) (hn : noStar a = true) :
    SimE fa X (.Call (.Name "isinstance" p) [a, .Tuple pes k p2] [] pos) (misi ma ts) := by
  refine ⟨fun W tk => PE.imp (pe_callB call_isiTY hg hm boot_isinstance (pa_cons (ha.run W tk) (pa_cons (pe_tup (pa_tys ht hgt)) pa_nil rfl) (starEach_cons hn _ _)) (by decide) (by decide) (starEach_cons hn _ _) rfl) fun σ H Q q => ?_⟩
  refine q.bind (rep := RepV X.K fa) fun env v S1 x F1 H1 ρ1 s1 e1 r1 p1 => ?_
  refine ⟨by rw [List.length_map, sizeLine_eq]; omega, fun tp hp => ?_⟩
  obtain ⟨w, ew, q2⟩ := p1.ofO
  unfold isTyV at ew
  cases q3 : view S1 v with
  | none => rw [q3] at ew; cases ew
  | some d =>
    rw [q3] at ew
    cases ew
    obtain ⟨s2, x2⟩ := s1.junk (o := .tup (ts.map tyV1)) hp
    have pr : ∀ ts : List Ty, Paired ClsV (ts.map tyV1) (ts.map fun t => .type (tyN t)) := fun ts => by
      induction ts with
      | nil => exact .nil
      | cons t ts ih => exact .cons (cls_ty t) ih
    exact ⟨x, tp, ts.map tyV1, _, _, ts.any fun t => isTy t d, rfl, upd_same, pr ts, tyx_of s2.sub (s2.view r1 q3), kit_any X.K d ts, q2 _ F1 _ ρ1 s2 x2 (Rep.bl _)⟩
/-! ### len(set(..)) of ints -/
theorem firstMet_firsts (ns : List Int) : ∀ i, i ≤ ns.length → PyProof.Rows.firstMet (fun i => ns.getD i 0) i = firsts (ns.take i)
  | 0, _ => rfl
  | i + 1, hi => by
    have hlt : i < ns.length := hi
    have e1 : ns.getD i 0 = ns[i] := by rw [List.getD_eq_getElem?_getD, List.getElem?_eq_getElem hlt] <;> rfl
    have e2 : ns.take (i + 1) = ns.take i ++ [ns[i]] := by rw [List.take_add_one, List.getElem?_eq_getElem hlt] <;> rfl
    rw [PyProof.Rows.firstMet_succ, firstMet_firsts ns i (Nat.le_of_lt hlt), e2]
    unfold firsts
    rw [List.foldl_append]
    show (if (List.foldl firstStep [] (ns.take i)).any (· == ns.getD i 0) then _ else _) = firstStep (List.foldl firstStep [] (ns.take i)) ns[i]
    rw [e1]; rfl
def tLenSet (K : PySem.W.Frag) (ta : TE) : TE := fun σ H Q => ta σ H fun x H1 => ∃ (l : Addr) (ns : List Int), x = .ref l ∧ SqL K H1 l (ns.map V.int) ∧ ns.length ≤ 4000 ∧ Q (.int ((firsts ns).length : Nat)) H1
theorem firsts_le (ns : List Int) : (firsts ns).length ≤ ns.length := by
  have g : ∀ (ns acc : List Int), (ns.foldl firstStep acc).length ≤ acc.length + ns.length := by
    intro ns
    induction ns with
    | nil => intro acc; simp
    | cons x ns ih =>
      intro acc
      rw [List.foldl_cons]
      have h1 := ih (firstStep acc x)
      have h2 : (firstStep acc x).length ≤ acc.length + 1 := by
        unfold firstStep; split <;> simp
      simp only [List.length_cons]; omega
  have := g ns []
  simpa [firsts] using this
theorem pe_lenSet {p p2 q : Pos} {ta : TE} (hg : Gl X "len") (hm : X.mg "len" = none) (hg2 : Gl X "set") (hm2 : X.mg "set" = none) (ha : PE X a ta) (hc : X.calm = true) (hn : noStar a = true) :
    PE X (.Call (.Name "len" p) [.Call (.Name "set" p2) [a] [] q] [] pos) (tLenSet X.K ta) := by
  have na : starEach [a] X.env = (false, eval a X.env) :: starEach [] X.env := starEach_cons hn _ _
  refine ⟨fun pins s σ H Q I h => Call_ (ld_blt I hg hm boot_len (PyProof.Rows.callWith_builtin1 (PyProof.Rows.args_cons (Call_ (ld_blt I hg2 hm2 boot_set ?_)) rfl) rfl rfl))⟩
  refine PyProof.Rows.callWith_type1 (PyProof.Rows.args_cons (thn (ha.run pins s σ H _ I h) fun v s1 ⟨x, H1, I1, r1, q1⟩ => PyProof.Rows.args_nil ?_) na) na rfl
  obtain ⟨l, ns, rfl, hq, hl, q1⟩ := q1
  cases r1
  obtain ⟨its, r, pl, hz⟩ := I1.list hq
  have hlen : its.toArray.size = ns.length := by rw [List.size_toArray, ← r.length, List.length_map]
  refine call_set_list (I1.ok.hd hc) pl.isList (by simpa using RZ.intsAre_vals r) (by rw [hlen]; unfold scanBound; omega) fun h' tk hS hk => PyProof.Rows.args_nil ?_
  rw [hlen, firstMet_firsts ns ns.length (Nat.le_refl _), List.take_length] at hS
  obtain ⟨o, es, ep, t, ho, hex, hd, _, _, _, hf, hn⟩ := hS
  have I2 : Inv X pins σ H1 { s1 with heap := h', toks := tk } := I1.kept fun b o e => hk b o (Heap.lt_size e) e
  have := firsts_le ns
  exact call_len_set ho hex hd hf (by rw [hn]; omega) ⟨.int (firsts ns).length, H1, I2.tok _, ⟨_, by rw [hn]⟩, q1⟩
theorem sm_lenSet {p p2 q : Pos} (hg : Gl X "len") (hm : X.mg "len" = none) (hg2 : Gl X "set") (hm2 : X.mg "set" = none) (ha : SimE fa X a ma) (hc : X.calm = true) (hn : noStar a = true) :
    SimE fa X (.Call (.Name "len" p) [.Call (.Name "set" p2) [a] [] q] [] pos) (fun env S => (ma env S).bind fun x S1 => .ofO (match view S1 x with | some (.list xs) => (allI xs).bind fun ns => if ns.length ≤ 4000 then some (.d (.int (firsts ns).length)) else none | _ => none) S1) := by
  refine ⟨fun W tk => PE.imp (pe_lenSet hg hm hg2 hm2 (ha.run W tk) hc hn) fun σ H Q q => ?_⟩
  refine q.bind (rep := RepV X.K fa) fun env v S1 x F1 H1 ρ1 s1 e1 r1 p1 => ?_
  obtain ⟨w, ew, q2⟩ := p1.ofO
  cases q3 : view S1 v with
  | none => rw [q3] at ew; cases ew
  | some d =>
    rw [q3] at ew
    cases d with
    | list xs =>
      dsimp only at ew
      cases q4 : allI xs with
      | none => rw [q4] at ew; cases ew
      | some ns =>
        rw [q4] at ew
        simp only [Option.bind_some] at ew
        split at ew
        · rename_i hz
          cases ew
          have r' := s1.view r1 q3
          rw [allI_some q4] at r'
          obtain ⟨l, xs', rfl, h1, rr⟩ := r'.list s1.sub
          rw [rr.ints] at h1
          exact ⟨l, ns, rfl, SqL.of h1, hz, q2 _ F1 H1 ρ1 s1 (Ext.refl ..) (Rep.int _)⟩
        · cases ew
    | _ => cases ew
/-! ### objects that nobody tracks -/
structure Loose (F H : Hp) (ρ : Nat → Addr) (S : Sto) (p : Addr) (o : HO) : Prop where
  nt : ∀ xs, o ≠ .tup xs
  h : H p = some o
  f : F p = none
  s : ∀ n u, stGet S n = some u → ρ n ≠ p
theorem Loose.step {F H F' H' : Hp} {ρ ρ' : Nat → Addr} {S S' : Sto} {p : Addr} {o : HO} (l : Loose F H ρ S p o) (x : Ext F H ρ S F' H' ρ' S') : Loose F' H' ρ' S' p o := by
  have hh := x.frame _ _ l.h (fun n u h e => l.s n u h e.symm)
  refine ⟨l.nt, hh, ?_, fun n u h e => ?_⟩
  · cases q : F' p with
    | none => rfl
    | some o =>
      rcases x.fnew _ _ q with z | z | ⟨n, u, z1, z2⟩ | ⟨ys, z⟩
      · exact absurd l.f z
      · have := l.h; rw [z] at this; cases this
      · exact absurd z2.symm (l.s n u z1)
      · have := l.h; rw [z] at this; cases this; exact absurd rfl (l.nt ys)
  · rcases x.new n u h with ⟨z1, u', z2⟩ | ⟨z1, z2⟩
    · rw [x.rho n z1] at e; exact l.s n u' z2 e
    · have := l.h; rw [e] at z2; rw [z2] at this; cases this
theorem Loose.new {K : PySem.W.Frag} {F H : Hp} {ρ : Nat → Addr} {S : Sto} {p : Addr} {o : HO} (s : Sim K fa F H ρ S) (hp : H p = none) (nt : ∀ xs, o ≠ .tup xs) : Loose F (upd H p o) ρ S p o := by
  refine ⟨nt, upd_same, s.sub.free hp, fun n u h => ?_⟩
  obtain ⟨x, hx, _⟩ := s.obj n u h
  exact ne_of_none hx hp
/-- it joins the frozen part, as o' -/
theorem Loose.adopt {K : PySem.W.Frag} {F0 H0 F H : Hp} {ρ0 ρ : Nat → Addr} {S0 S : Sto} {p : Addr} {o o' : HO} (l : Loose F H ρ S p o) (s : Sim K fa F H ρ S) (hp : H0 p = none) (x : Ext F0 H0 ρ0 S0 F H ρ S) :
    Sim K fa (upd F p o') (upd H p o') ρ S ∧ Ext F0 H0 ρ0 S0 (upd F p o') (upd H p o') ρ S ∧ Same F (upd F p o') := by
  have sF : Same F (upd F p o') := fun a u q => by rw [upd_ne (ne_of_none q l.f)]; exact q
  refine ⟨⟨fun a u q => ?_, fun n u q => ?_, fun n u q => ?_, s.inj⟩, ⟨x.fz.trans sF, x.rho, x.len, fun a u q hn => ?_, fun a u q => ?_, x.new, fun a u q => ?_⟩, sF⟩
  · by_cases e : a = p
    · subst e; rw [upd_same] at q ⊢; exact q
    · rw [upd_ne e] at q ⊢; exact s.sub a u q
  · rw [upd_ne (l.s n u q)]; exact s.off n u q
  · obtain ⟨y, hy, ry⟩ := s.obj n u q
    exact ⟨y, by rw [upd_ne (l.s n u q)]; exact hy, ry.mono sF (fun _ _ => rfl) (Nat.le_refl _)⟩
  · rw [upd_ne (ne_of_none q hp)]; exact x.frame a u q hn
  · rw [upd_ne (ne_of_none q hp)]; exact x.there a u q
  · by_cases e : a = p
    · rw [e]; exact .inr (.inl hp)
    · rw [upd_ne e] at q; exact x.fnew a u q
/-! ### dicts as data -/
abbrev KvRep (K : PySem.W.Frag) (F : Hp) : List (Key × V) → List (D × D) → Prop := Paired fun p q => q.1 = kD p.1 ∧ Rep K F p.2 q.2
theorem Rep.of_kv {K : PySem.W.Frag} {F : Hp} {a : Addr} {o : Obj} {kvs : List (Key × V)} {es : List (D × D)} (h : F a = some (.frz o (.dK kvs))) (r : KvRep K F kvs es) : Rep K F (.ref a) (.dict es) := by
  have g : ∀ {kvs : List (Key × V)} {es : List (D × D)}, KvRep K F kvs es → es = ((kvs.map (·.1)).map kD).zip (es.map (·.2)) ∧ Reps K F (kvs.map (·.2)) (es.map (·.2)) := by
    intro kvs es r
    induction r with
    | nil => exact ⟨rfl, .nil⟩
    | cons h1 h2 ih =>
      rename_i x y xs ys
      refine ⟨?_, .cons h1.2 ih.2⟩
      obtain ⟨y1, y2⟩ := y
      simp only [List.map_cons, List.zip_cons_cons, List.cons.injEq]
      exact ⟨by rw [← h1.1], ih.1⟩
  obtain ⟨h1, h2⟩ := g r
  rw [h1]
  refine Rep.dct (o := o) (ks := kvs.map (·.1)) (xs := kvs.map (·.2)) ?_ (by simp) h2
  rw [h]
  congr 3
  clear h1 h2 r h
  induction kvs with
  | nil => rfl
  | cons p kvs ih => simp only [List.map_cons, List.zip_cons_cons, ← ih]
theorem put_rep {K : PySem.W.Frag} {F : Hp} {kvs : List (Key × V)} {es : List (D × D)} {k : Int} {x : V} {d : D} (r : KvRep K F kvs es) (rx : Rep K F x d) : KvRep K F (putK kvs (.inl k) x) (putI es (k, d)) := by
  have key : ∀ (j : Key), isKeyI k (kD j) = decide (j = .inl k) := fun j => by
    cases j with
    | inl j => simp only [kD, isKeyI, key_ll]
    | inr j => simp [kD, isKeyI]
  have hany : (es.any fun p => isKeyI k p.1) = kvs.any fun kv => decide (kv.1 = .inl k) := by
    induction r with
    | nil => rfl
    | cons h1 h2 ih => rw [List.any_cons, List.any_cons, ih, h1.1, key]
  unfold putK putI
  dsimp only
  rw [hany]
  split
  · rename_i hh
    clear hany hh
    induction r with
    | nil => exact .nil
    | @cons p q ps qs h1 h2 ih =>
      refine .cons ?_ ih
      obtain ⟨p1, p2⟩ := p
      obtain ⟨q1, q2⟩ := q
      dsimp only at h1 ⊢
      rw [h1.1, key]
      by_cases e : p1 = .inl k
      · simp only [e, decide_true, if_true]
        exact ⟨trivial, rx⟩
      · simp only [e, decide_false, if_false, Bool.false_eq_true]
        exact ⟨trivial, h1.2⟩
  · have app : ∀ {a b : List (Key × V)} {c d : List (D × D)}, KvRep K F a c → KvRep K F b d → KvRep K F (a ++ b) (c ++ d) := by
      intro a b c d h1 h2
      induction h1 with
      | nil => exact h2
      | cons h _ ih => exact .cons h ih
    exact app r (.cons ⟨rfl, rx⟩ .nil)
theorem merge_rep {K : PySem.W.Frag} {F : Hp} {kvs : List (Key × V)} {ns : List (Int × D)} (r : Paired (fun p q => p.1 = Sum.inl q.1 ∧ Rep K F p.2 q.2) kvs ns) : ∀ {acc : List (Key × V)} {es : List (D × D)}, KvRep K F acc es → KvRep K F (mergeK acc kvs) (ns.foldl putI es) := by
  induction r with
  | nil => exact fun h => h
  | cons h1 h2 ih =>
    rename_i p q ps qs
    intro acc es h
    obtain ⟨p1, p2⟩ := p
    obtain ⟨q1, q2⟩ := q
    dsimp only at h1
    obtain ⟨rfl, h1⟩ := h1
    exact ih (put_rep h h1)
theorem pairs_rep {K : PySem.W.Frag} {F H : Hp} (sub : Same F H) : ∀ {xs : List V} {ds : List D} {ns : List (Int × D)}, Reps K F xs ds → allPairs ds = some ns →
    ∃ (ps : List Addr) (kvs : List (Key × V)), xs = ps.map V.ref ∧ Paired (fun p kv => SqT K H p [kV kv.1, kv.2]) ps kvs ∧ Paired (fun (p : Key × V) (q : Int × D) => p.1 = Sum.inl q.1 ∧ Rep K F p.2 q.2) kvs ns
  | _, [], ns, .nil, e => by simp [allPairs] at e; subst e; exact ⟨[], [], rfl, .nil, .nil⟩
  | _, d :: ds, ns, .cons r rs, e => by
    match d, r, e with
    | .tuple [.int k, x], r, e =>
      simp only [allPairs] at e
      cases q : allPairs ds with
      | none => rw [q] at e; cases e
      | some ms =>
        rw [q] at e
        simp at e
        subst e
        obtain ⟨ps, kvs, h1, h2, h3⟩ := pairs_rep sub rs q
        cases r with
        | tup ht hr =>
          cases hr with
          | cons r1 hr =>
            cases hr with
            | cons r2 hr =>
              cases hr
              cases r1
              rename_i a v
              exact ⟨a :: ps, (.inl k, v) :: kvs, by rw [h1]; rfl, .cons (SqT.of (sub _ _ ht)) h2, .cons ⟨rfl, r2⟩ h3⟩
/-- the value's object is locked from here on -/
def tLockV (t : TE) : TE := fun σ H Q => t σ H fun x H1 => ∃ a u, x = .ref a ∧ H1 a = some u ∧ Mut (some u) ∧ ∀ od, Q x (upd H1 a (.frz od u))
theorem pe_lockV {e : Expr} {t : TE} (h : PE X e t) : PE X e (tLockV t) := by
  refine ⟨fun pins s σ H Q I hw => ?_⟩
  refine thn (h.run pins s σ _ _ I hw) fun v s1 ⟨x, H1, I2, r, a, u, ex, hu, mu, q⟩ => ?_
  obtain ⟨od, I3⟩ := I2.lock hu mu
  exact ⟨x, _, I3, r, q od⟩
theorem upd_upd {H : Hp} {p : Addr} {o o' : HO} : upd (upd H p o) p o' = upd H p o' := by
  funext a
  by_cases e : a = p
  · subst e; rw [upd_same, upd_same]
  · rw [upd_ne e, upd_ne e, upd_ne e]
theorem boot_dict : bootBuiltins "dict" = some (.type "dict") := by decide +kernel
theorem sm_dictOf {p : Pos} (hg : Gl X "dict") (hm : X.mg "dict" = none) (ha : SimE fa X a ma) (hc : X.calm = true) (hn : noStar a = true) :
    SimE fa X (.Call (.Name "dict" p) [a] [] pos) (fun env S => (ma env S).bind fun x S1 => .ofO (match view S1 x with | some (.list xs) => (allPairs xs).map fun kvs => .d (.dict (mergeI kvs)) | _ => none) S1) := by
  refine ⟨fun W tk => PE.imp (pe_lockV (pe_callTy (call_dictP hc) hg hm boot_dict (pa_cons (ha.run W tk) pa_nil (starEach_cons hn _ _)) (by decide) (by decide) (starEach_cons hn _ _) rfl)) fun σ H Q q => ?_⟩
  refine q.bind (rep := RepV X.K fa) fun env v S1 x F1 H1 ρ1 s1 e1 r1 p1 => ?_
  obtain ⟨w, ew, q2⟩ := p1.ofO
  cases q3 : view S1 v with
  | none => rw [q3] at ew; cases ew
  | some d =>
    rw [q3] at ew
    cases d with
    | list xs =>
      dsimp only at ew
      cases q4 : allPairs xs with
      | none => rw [q4] at ew; cases ew
      | some ns =>
        rw [q4] at ew
        cases ew
        obtain ⟨l, xs', rfl, h1, rr⟩ := (s1.view r1 q3).list s1.sub
        obtain ⟨ps, kvs, rfl, z2, z3⟩ := pairs_rep s1.sub rr q4
        refine ⟨l, ps, kvs, rfl, SqL.of h1, z2, fun p hp => ⟨_, _, rfl, upd_same, trivial, fun od => ?_⟩⟩
        rw [upd_upd]
        obtain ⟨s2, x2, sF⟩ := s1.grow (o := .frz od (.dK (mergeK [] kvs))) hp
        exact q2 _ _ _ ρ1 s2 x2 (Rep.of_kv upd_same (merge_rep (L2.Paired.mapP z3 fun a b z => ⟨z.1, z.2.mono sF⟩) .nil))
    | _ => cases ew
theorem sm_dict0 : SimE fa X (.Dict [] [] pos) (fun _ S => .ok (.d (.dict [])) S) := by
  refine ⟨fun W tk => PE.imp (pe_lockV pe_dnewK) fun σ H Q q => ?_⟩
  obtain ⟨env, S, F, ρ, s, e, p⟩ := q
  refine fun d hd => ⟨_, _, rfl, upd_same, trivial, fun od => ?_⟩
  rw [upd_upd]
  obtain ⟨s2, x2, sF⟩ := s.grow (o := .frz od (.dK [])) hd
  exact p _ _ _ ρ s2 x2 (Rep.of_kv upd_same .nil)
theorem sm_dict1 (ha : SimE fa X a ma) (hb : SimE fa X b mb) : SimE fa X (.Dict [some a] [b] pos) (fun env S => (ma env S).bind fun x S1 => (mb env S1).bind fun y S2 => .ofO (match x, y with | .d (.int i), .d z => some (.d (.dict [(.int i, z)])) | _, _ => none) S2) := by
  have h15 : [some a].length ≤ 15 := by simp
  refine ⟨fun W tk => PE.imp (pe_lockV (pe_disp (pps_cons (ha.run W tk) (hb.run W tk) pps_nil) rfl rfl (fun z => nomatch z) h15)) fun σ H Q q => ?_⟩
  intro p hp
  obtain ⟨env, S, F, ρ, s, e, q⟩ := q
  obtain ⟨s', x'⟩ := s.junk (o := .dK []) hp
  have l0 : Loose F (upd H p (.dK [])) ρ S p (.dK []) := Loose.new s hp (fun _ z => nomatch z)
  refine ⟨env, S, F, ρ, s', e, ?_⟩
  dsimp only at q
  cases q0 : ma env S with
  | stuck => rw [q0] at q; exact q
  | exc ee S1 =>
    rw [q0] at q
    exact fun c d F1 H1 ρ1 s1 x1 r1 => q c d F1 H1 ρ1 s1 (x'.trans x1) r1
  | ok v S1 =>
    rw [q0, R.bind_ok] at q
    intro x F1 H1 ρ1 s1 x1 r1
    refine ⟨env, S1, F1, ρ1, s1, e.mono x1.fz x1.rho x1.len, ?_⟩
    cases q1 : mb env S1 with
    | stuck => rw [q1] at q; exact q
    | exc ee S2 =>
      rw [q1] at q
      exact fun c d F2 H2 ρ2 s2 x2 r2 => q c d F2 H2 ρ2 s2 ((x'.trans x1).trans x2) r2
    | ok u S2 =>
      rw [q1, R.bind_ok] at q
      intro y F2 H2 ρ2 s2 x2 r2
      have l2 := (l0.step x1).step x2
      cases v with
      | d v =>
        cases v with
        | int i =>
          cases u with
          | d u =>
            have rx : Rep X.K F1 x (.int i) := r1
            cases rx
            refine ⟨l2.h, [(.inl i, y)], rfl, by simp, _, _, rfl, upd_same, trivial, fun od => ?_⟩
            rw [upd_upd]
            obtain ⟨s3, x3, sF⟩ := l2.adopt (o' := .frz od (.dK (mergeK [] [(.inl i, y)]))) s2 hp ((x'.trans x1).trans x2)
            refine q _ _ _ ρ2 s3 x3 (Rep.of_kv upd_same ?_)
            have rz : Rep X.K F2 y u := r2
            exact .cons ⟨rfl, rz.mono sF⟩ .nil
          | _ => exact q.elim
        | _ => exact q.elim
      | _ => exact q.elim
/-! ### comprehensions in place -/
def ownN (N : List Str) (own : List Nat) : List (Str × Nat) := own.map fun i => (N.getD i "", i)
theorem ownN_snd (N : List Str) (own : List Nat) : (ownN N own).map (·.2) = own := by
  unfold ownN; rw [List.map_map]; induction own with
  | nil => rfl
  | cons i own ih => simp only [List.map_cons, ih]; rfl
structure SimC (fa : FA) (X : Cx) (scope : Scope) (ptg : Expr) (pifs : List Expr) (pelt : Expr) (tg : Tg) (mc : M Bool) (me : M Val) : Prop where
  g : ∀ (s : Shared) (H : Hp) (C : Addr) (cl : List (Str × Addr)) (fp : List Addr), PG (X.blk s H scope (compEnvC scope cl C X.env) fp) ptg (rdGt X.K fa tg)
  t : ∀ (s : Shared) (H : Hp) (C : Addr) (cl : List (Str × Addr)) (fp : List Addr), PTs (X.blk s H scope (compEnvC scope cl C X.env) fp) pifs (rdT X.K fa (fun _ _ _ _ => False) mc)
  e : ∀ (s : Shared) (H : Hp) (C : Addr) (cl : List (Str × Addr)) (fp : List Addr), PE (X.blk s H scope (compEnvC scope cl C X.env) fp) pelt (rdE X.K fa (fun _ _ _ _ => False) me)
theorem sm_comp {scope : Scope} {ptg piter pelt : Expr} {pifs : List Expr} {own : List Nat} {tg : Tg} {mi : M (List Val × List Nat)} {mc' : M Bool} {me : M Val} (hc : X.calm = true) (hN : X.N.Nodup) (hi : SimI fa X ptg piter mi) (ok : blkC X.N X.env.scope scope (ownN X.N own) = true)
    (hb : SimC fa X scope ptg pifs pelt tg mc' me) (hsl : ∀ i ∈ tg.slots, i ∈ own) (hs : noSet piter = true) : SimE fa X (.ListComp pelt [⟨ptg, piter, pifs, 0⟩] scope pos) (mcomp own tg mi mc' me) := by
  refine ⟨fun W tk => PE.imp (pe_lc hc hN (hi.run W tk) (blkOk_by ok) hb.g hb.t hb.e (noSet_iter hs X.env)) fun σ H Q q => ?_⟩
  rw [ownN_snd]
  exact rd_comp (tgE := ptg) hsl q
theorem sm_compN {scope : Scope} {ptg piter pelt : Expr} {pifs : List Expr} {own : List Nat} {tg : Tg} {mi : M (List Val × List Nat)} {mc' : M Bool} {me : M Val} (hc : X.calm = true) (hN : X.N.Nodup) (hi : SimI fa X ptg piter mi) (ok : blkC X.N X.env.scope scope (ownN X.N own) = true)
    (hb : SimC fa X scope ptg pifs pelt tg mc' me) (hsl : ∀ i ∈ tg.slots, i ∈ own) (hs : noSet piter = true) : SimE fa X (.ListComp pelt [⟨ptg, piter, pifs, 0⟩] scope pos) (mcompN true own tg mi mc' me) := by
  refine ⟨fun W tk => PE.imp (pe_lc hc hN (hi.run W tk) (blkOk_by ok) hb.g hb.t hb.e (noSet_iter hs X.env)) fun σ H Q q => ?_⟩
  rw [ownN_snd]
  exact rd_compN true (tgE := ptg) hsl q
theorem ss_setc {i : Nat} {y : Str} {py spos : Pos} {scope : Scope} {ptg piter pelt : Expr} {pifs : List Expr} {own : List Nat} {tg : Tg} {mi : M (List Val × List Nat)} {mc' : M Bool} {me : M Val} (hc : X.calm = true) (hN : X.N.Nodup) (hy : X.N[i]? = some y) (hyl : X.env.scope.names.lookup y = some .local) (hk : X.env.scope.kind = .function)
    (hln : (py.line == pos.line) = true) (hna : (scope.names.any fun (n, k) => n == y && (k == .local || k == .cell)) = false)
    (hi : SimI fa X ptg piter mi) (ok : blkC X.N X.env.scope scope (ownN X.N own) = true) (hb : SimC fa X scope ptg pifs pelt tg mc' me) (hsl : ∀ i ∈ tg.slots, i ∈ own) (hs : noSet piter = true) :
    SimS fa X (.Assign [.Name y py] (.ListComp pelt [⟨ptg, piter, pifs, 0⟩] scope pos) spos) (fun env S => .ofR env (mcomp own tg mi mc' me env S) fun v S1 => .nx (env.set i (some v)) S1) := by
  refine ⟨fun W tk => PS.imp (ps_setLc hc hN hy hyl (sw_true hk hyl hln hna) (hi.run W tk) (blkOk_by ok) hb.g hb.t hb.e (noSet_iter hs X.env)) fun D σ H q => ?_⟩
  rw [ownN_snd]
  refine rd_comp (tgE := ptg) (W := W) hsl ?_
  exact q.bind (rep := RepV X.K fa) fun env v S1 x F1 H1 ρ1 s1 e1 r1 p1 => p1.nx_ s1 (e1.set r1 i)
end
end MS

-- MsSet
/-! set(xs) of a list of ints, so that it can be sorted. -/
namespace MS
open PySem PySem.Spec PyProof.Rows L2
/-- the new set -/
abbrev nSet (w : World) : Obj := { cls := .type "set", dict := none, data := .set #[] 0 (.fresh 0 0 (!w.params.followText "set-order")) }
section
variable {P : Program} {w : World} {A : Around} {E : Value → Shared → Prop} {s : Shared}
/-- the walk through the list, once the set is there -/
theorem fill_list {l : Addr} {its : Array Value} {ns : List Int} {R : Result → Shared → Prop} (hh : A.handled = none) (hl : s.heap.IsList l its) (hi : IntsAre its.toList ns) (hb : ns.length + 1 < scanBound)
    (h : ∀ (h' : Heap) (tk c : Nat), SetR w h' s.heap.objs.size (fun j => decide (j ∈ ns)) c → c ≤ ns.length → (∀ b o, s.heap.get? b = some o → h'.get? b = some o) → R (.ok (.ret .none)) { s with heap := h', toks := tk }) :
    codeAny (model P w) A (.builtin "set.update.loop" ⟨[.ref s.heap.objs.size, .ref (s.heap.push (nSet w)).objs.size], []⟩) R
      { s with heap := (s.heap.push (nSet w)).push { cls := .type "list_iterator", data := .fields #[.ref l, .int 0 0] } } := by
  have sz : its.size = ns.length := by
    have := IntsAre.length hi
    rwa [Array.length_toList] at this
  have z1 : (s.heap.push (nSet w)).objs.size = s.heap.objs.size + 1 := Heap.size_push ..
  have hlt : l < s.heap.objs.size := by
    obtain ⟨o, ho, _⟩ := hl
    exact Heap.lt_size ho
  have l1 : (s.heap.push (nSet w)).IsList l its := hl.push _
  have ne1 : l ≠ (s.heap.push (nSet w)).objs.size := by rw [z1]; exact Nat.ne_of_lt (Nat.lt_succ_of_lt hlt)
  have out : s.heap.objs.size ∉ [(s.heap.push (nSet w)).objs.size, l] := by
    rw [z1]
    intro z
    rcases List.mem_cons.mp z with z | z
    · exact Nat.ne_of_lt (Nat.lt_succ_self _) z
    · exact Nat.ne_of_gt hlt (List.mem_singleton.mp z)
  have val : ∀ (i : Nat) (v : Value), its[i]? = some v → ∃ k t, ns[i]? = some k ∧ v = .int k t := fun i v hv => by
    have lt : i < ns.length := by rw [← sz]; exact (Array.getElem?_eq_some_iff.mp hv).1
    obtain ⟨t, e⟩ := IntsAre.int_at hi i v (by rw [Array.getElem?_toList]; exact hv)
    exact ⟨ns[i], t, List.getElem?_eq_getElem lt, by rw [e, List.getD_eq_getElem?_getD, List.getElem?_eq_getElem lt] <;> rfl⟩
  have at0 : ((s.heap.push (nSet w)).push { cls := .type "list_iterator", data := .fields #[.ref l, .int 0 0] }).get? s.heap.objs.size = some (nSet w) := Heap.get?_push_of_some _ (Heap.get?_push_size _ rfl)
  refine set_update_ints (A := A) ((Walks.list (by simp [hh]) _ l ne1 its).toS) s.heap.objs.size out ns sz hb val (its.size - 0) 0 _ (by omega) (Nat.zero_le _) ⟨⟨_, Heap.get?_push_size _ rfl, rfl, rfl⟩, l1.push _⟩ ⟨0, Nat.le_refl 0, setR_new_at at0⟩ fun s' c m hc hS => ?_
  obtain ⟨h', g, dr, tk, os⟩ := s'
  have e1 : g = s.gens := m.gens
  have e2 : dr = s.drawn := m.drawn
  have e3 : os = s.os := m.os
  subst e1 e2 e3
  refine h h' tk c hS (by rw [← sz]; exact hc) fun b o e => m.heap b o (fun z => ?_) (Heap.get?_push_of_some _ (Heap.get?_push_of_some _ e))
  have lt := Heap.lt_size e
  rcases List.mem_cons.mp z with z | z
  · exact Nat.ne_of_lt lt z
  · have q := List.mem_singleton.mp z
    rw [z1] at q
    exact Nat.ne_of_lt (Nat.lt_succ_of_lt lt) q
theorem set_of_list {l : Addr} {its : Array Value} {ns : List Int} {Q : Value → Shared → Prop} (hh : A.handled = none) (hl : s.heap.IsList l its) (hi : IntsAre its.toList ns) (hb : ns.length + 1 < scanBound)
    (h : ∀ (h' : Heap) (tk c : Nat), SetR w h' s.heap.objs.size (fun j => decide (j ∈ ns)) c → c ≤ ns.length → (∀ b o, s.heap.get? b = some o → h'.get? b = some o) → Q (.ref s.heap.objs.size) { s with heap := h', toks := tk }) :
    wpAny (model P w) A (call (.type "set") [.ref l]) Q E s := by
  obtain ⟨c0, t0, m0⟩ := F.called_set.mro
  have m1 := F.called_set.made; have m2 := F.called_set.sub; have m3 := F.called_set.notType; have m4 := F.called_set.canCreate
  have m5 := F.typeCall_set_1 (.ref l)
  refine wpAny_call (codeAny_of_tree ?_)
  show wpAny _ _ (callAny (.type "set") ⟨[.ref l], []⟩) _ _ _
  refine wpAny_pure ⟨Code.quiet_builtin _ (by decide +kernel), codeAny_builtin F.entry_type_call ?_⟩
  rw [Around.under_plain (weight_type_call_type "set" _ _) rfl]
  repeat (any_goals (first | wp_step | assumption))
  refine codeAny_mono (code_set_led1 (.ref l) (E := E) (Q₁ := fun v s1 => v = .ref s.heap.objs.size ∧ s1 = { s with heap := s.heap.push (nSet w) }) ⟨rfl, rfl⟩) fun r s1 hr => ?_
  rcases r with e | fl
  · exact hr
  rcases fl with _ | _ | v | _
  case ret v =>
    obtain ⟨rfl, rfl⟩ := hr
    have at1 : (s.heap.push (nSet w)).get? s.heap.objs.size = some (nSet w) := Heap.get?_push_size _ rfl
    have ty : Shared.TypeIs { s with heap := s.heap.push (nSet w) } (.ref s.heap.objs.size) "set" := ⟨_, at1, rfl⟩
    have i1 := F.called_set.init.lookup; have i2 := F.called_set.init.bind (.ref s.heap.objs.size)
    repeat (any_goals (first | wp_step | assumption))
    refine codeAny_mono (codeAny_call_builtin (R := wants (fun r s2 => r = .none ∧ ∃ h' tk c, s2 = { s with heap := h', toks := tk } ∧ SetR w h' s.heap.objs.size (fun j => decide (j ∈ ns)) c ∧ c ≤ ns.length ∧ ∀ b o, s.heap.get? b = some o → h'.get? b = some o) E) F.called_set.init.plain F.entry_set_init (check_set_init_1 ty ?_)) fun r2 s2 hr2 => ?_
    · obtain ⟨⟨k1, k2, k3, k4⟩, ho, hcl, nl, hdl⟩ := id hl
      simp only at hcl hdl
      subst hcl hdl
      have ho1 : (s.heap.push (nSet w)).get? l = some { cls := .type "list", dict := k2, data := .seq its nl, slots := k4 } := Heap.get?_push_of_some _ ho
      have n1 := F.sub_list_set; have n2 := F.sub_list_frozenset
      have n3 : (Value.type "list" == Value.type "dict") = false := by decide
      have l1 : (s.heap.push (nSet w)).IsList l its := hl.push _
      unfold Builtin.«set.__init__» noKeywords Builtin.Frozenset.updateFrom
      generalize hq : pyIter = PI
      wp_walk
      subst hq
      refine wpAny_pyIter_list l1 (wpAny_bind (wpAny_runValue ?_))
      refine fill_list (by simp [hh]) hl hi hb fun h' tk c hS hc hk => ?_
      show wpAny _ _ _ _ _ _
      refine wpAny_pure ?_
      show wpAny _ _ (ret Value.none) _ _ _
      exact wpAny_pure ⟨rfl, h', tk, c, rfl, hS, hc, hk⟩
    · rcases r2 with e | fl2
      · exact hr2
      rcases fl2 with _ | _ | v | _
      case ret v =>
        obtain ⟨rfl, h', tk, c, rfl, hS, hc, hk⟩ := hr2
        repeat (any_goals (first | wp_step | assumption))
        exact h _ _ _ hS hc hk
      all_goals exact hr2.elim
  all_goals exact hr.elim
end
end MS

-- MsSrt
/-! Sorting tuples of which the first is the empty one. -/
namespace MS
open PySem PySem.Spec PyProof.Rows L2 PySem.W PySem.SeqAt
section
variable {prog : Program} {w : World} {A : Around} {E : Value → Shared → Prop} {s : Shared}
theorem oneLt_tup {xs ys : List PyData} {u v : Value} {as bs : List Addr} {Q : Bool → Shared → Prop} (ra : Reads s.heap u (.tuple xs) as) (rb : Reads s.heap v (.tuple ys) bs) (h : alikeAll xs ys = true)
    (hu : A.units + min (PyData.depth (.tuple xs)) (PyData.depth (.tuple ys)) < cLine) (hq : Q (dataLt (.tuple xs) (.tuple ys)) s) : wpAny (model prog w) A (oneLt' true u v) Q E s := by
  cases ra with
  | @tuple l o is n _ as1 h1 h2 h3 h4 =>
    cases rb with
    | @tuple l' o' js m _ bs1 k1 k2 k3 k4 =>
      obtain ⟨c1, d1, e1, f1⟩ := o
      obtain ⟨c2, d2, e2, f2⟩ := o'
      simp only at h2 h3 k2 k3
      subst h2 h3 k2 k3
      have n1 : is.size = xs.length := by simpa using ReadsAll.length _ _ _ h4
      have n2 : js.size = ys.length := by simpa using ReadsAll.length _ _ _ k4
      rw [dataLt_tuple, ← firstLt_toks xs ys h, ← n1, ← n2] at hq
      rw [oneLt'_eq]
      simp only [if_true]
      refine wpAny_bind (wpAny_cRoomFor (room_here hu) (wpAny_bind (wpAny_callSpecialIfBound?_slot (T := "tuple") ⟨_, h1, rfl⟩ F.slot_tuple_lt ?_)))
      refine call_meets F.slot_tuple_lt ⟨_, h1, rfl⟩ F.entry_tuple_lt (F.args_tuple_lt_2 _ _) (tuple_ltAt l l' is js n m d1 d2 f1 f2 (pairEq xs ys) fun j => dataLt (xs.getD j .none) (ys.getD j .none)) ⟨h1, k1, fun j j1 j2 => ?_, fun j j1 j2 hj => ?_, wpAny_truthy_bool hq⟩
      · have z := eqAt_alikeAll xs ys A.in1 s is.toList js.toList _ _ h4 k4 h (room_in hu) j (by simpa using j1) (by simpa using j2)
        simpa using z
      · have z := rcLt_alikeAll xs ys A.in1 s is.toList js.toList _ _ h4 k4 h (room_in hu) j (by simpa using j1) (by simpa using j2) hj
        simpa using z
/-- what stands first in a tuple -/
def firstAt (h : Heap) : Value → Option Value
  | .ref a => match h.get? a with
    | some o => match o.data with
      | .seq xs _ => xs[0]?
      | _ => none
    | none => none
  | _ => none
theorem firsts_at {M : Model} : ∀ (vs : List Value) {Q : List (Option Value) → Shared → Prop}, (∀ v ∈ vs, ∃ a xs, v = .ref a ∧ s.heap.IsTuple a xs) → Q (vs.map (firstAt s.heap)) s → wpAny M A (vs.mapM firstOfTuple') Q E s
  | [], _, _, q => by rw [List.mapM_nil]; exact wpAny_pure q
  | v :: vs, Q, h, q => by
    obtain ⟨a, xs, e, o, ho, hc, n, hd⟩ := h v (List.mem_cons_self ..)
    subst e
    rw [List.mapM_cons]
    refine wpAny_bind ?_
    rw [kas_first_eq]
    refine wpAny_bind ((show Looks M s.heap (typeOf (.ref a)) o.cls from (Looks.ld ho).andThen .now).here ?_)
    rw [hc, if_neg (by simp)]
    refine wpAny_bind (listItems_at ho hd (wpAny_pure (wpAny_bind (firsts_at vs (fun v hv => h v (List.mem_cons_of_mem _ hv)) (wpAny_pure ?_)))))
    have e1 : firstAt s.heap (.ref a) = xs[0]? := by simp only [firstAt, ho, hd]
    rw [List.map_cons, e1] at q
    exact q
theorem kind_tupE {M : Model} {v : Value} {vs : List Value} {Q : SortKind → Shared → Prop} (ht : ∀ u ∈ v :: vs, ∃ a xs, u = .ref a ∧ s.heap.IsTuple a xs) (h0 : firstAt s.heap v = none) (q : Q oneType' s) : wpAny M A (keyKind' (v :: vs).toArray) Q E s := by
  rw [keyKind'_eq, List.mapM_toArray, map_eq_pure_bind]
  refine wpAny_bind (wpAny_bind (firsts_at _ ht (wpAny_pure ?_)))
  rw [List.map_cons, h0, if_neg (by simp), if_neg (by simp)]
  rw [oneTypeOnly'_eq, List.mapM_toArray, map_eq_pure_bind]
  refine wpAny_bind (wpAny_bind (wpAny_bind (kas_mapM (r := Value.type "tuple") _ (fun u hu Q' hq => ?_) (wpAny_pure ?_))))
  · obtain ⟨a, xs, rfl, o, ho, hc, _⟩ := ht u hu
    have := (show Looks M s.heap (typeOf (.ref a)) o.cls from (Looks.ld ho).andThen .now)
    rw [hc] at this
    exact this.here hq
  have e0 : (List.map (fun _ => Value.type "tuple") (v :: vs)).toArray[0]? = some (Value.type "tuple") := by simp
  have e1 : ((List.map (fun _ => Value.type "tuple") (v :: vs)).toArray.all fun x => x == Value.type "tuple") = true := by
    simp only [List.all_toArray, List.all_map, List.all_eq_true]
    intro _ _
    rfl
  rw [e0]
  simp only [e1, if_true]
  exact wpAny_pure (wpAny_pure q)
theorem sortsE {vs : List Value} {ds : List PyData} (e : EachIs (fun v d => ∃ as, Reads s.heap v d as) vs (.tuple [] :: ds)) (hal : AllAlike (.tuple [] :: ds)) (ht : ∀ d ∈ ds, ∃ xs, d = .tuple xs) (hu : ∀ d, d ∈ PyData.tuple [] :: ds → A.units + d.depth < cLine) : SortsAt prog w A s (dataKind s.heap (.tuple [] :: ds)) vs := by
  have ht' : ∀ d ∈ PyData.tuple [] :: ds, ∃ xs, d = .tuple xs := fun d hd => by
    rcases List.mem_cons.mp hd with rfl | hd
    · exact ⟨[], rfl⟩
    · exact ht d hd
  have rt : ∀ v ∈ vs, ∃ a xs, v = .ref a ∧ s.heap.IsTuple a xs := fun v hv => by
    obtain ⟨d, hd, as, r⟩ := e.left v hv
    obtain ⟨xs, rfl⟩ := ht' d hd
    cases r with
    | @tuple l o is n _ _ h1 h2 h3 h4 => exact ⟨l, is, rfl, o, h1, h2, n, h3⟩
  refine ⟨fun v hv => ?_, oneType', ?_, fun h2 E Q hq => ?_⟩
  · obtain ⟨d, hd, as, r⟩ := e.left v hv
    exact ⟨_, dataKind_some hal hd r⟩
  · intro E x y a b Q ha hb hq
    obtain ⟨d, as, hd, ra, rfl⟩ := dataKind_inv ha
    obtain ⟨d', as', hd', rb, rfl⟩ := dataKind_inv hb
    obtain ⟨xs, rfl⟩ := ht' d hd
    obtain ⟨ys, rfl⟩ := ht' d' hd'
    rw [keyLt'_oneType]
    exact oneLt_tup ra rb (by simpa [alike] using hal _ hd _ hd') (Nat.lt_of_le_of_lt (Nat.add_le_add_left (Nat.min_le_left _ _) _) (hu _ hd)) hq
  · cases e with
    | @cons v _ vs' _ r0 er =>
      refine kind_tupE rt ?_ hq
      obtain ⟨as, r⟩ := r0
      cases r with
      | @tuple l o is n _ _ h1 h2 h3 h4 =>
        have : is.toList = [] := by cases q : is.toList with
          | nil => rfl
          | cons _ _ => rw [q] at h4; cases h4
        simp only [firstAt, h1, h3]
        rw [← Array.getElem?_toList, this]; rfl
end
section
variable {pg : Program} {wd : World} {Ar : Around} {Ex : Value → Shared → Prop} {sg : Shared}
/-- what collect makes -/
abbrev colH (h : Heap) (us : List Value) : Heap := Heap.update (h.push (seqObj "list" #[] 0)) h.objs.size (Obj.mapSeq fun z => z ++ us.toArray)
/-- the items of a list or a tuple, gathered -/
def Gath (pg : Program) (wd : World) (Ar : Around) (sg : Shared) (t : Addr) (us : List Value) : Prop := ∀ (Ex : Value → Shared → Prop) (R : List Value → Shared → Prop), R us { sg with heap := colH sg.heap us } → wpAny (model pg wd) Ar (collect (.ref t)) R Ex sg
theorem gathL {t : Addr} {us : List Value} (ht : sg.heap.IsList t us.toArray) (hn : us.length ≤ sizeLine) : Gath pg wd Ar sg t us := fun Ex R k => collect_list ht k hn
theorem gathT {t : Addr} {us : List Value} (ht : sg.heap.IsTuple t us.toArray) (hn : us.length ≤ sizeLine) : Gath pg wd Ar sg t us := fun Ex R k => by
  obtain ⟨ob, g1, g2, ep, g3⟩ := id ht
  unfold collect
  refine wpAny_bind (wpAny_runValue (codeAny_builtin entry_proto_collect' ?run))
  case run =>
  show wpAny _ _ (newList [] >>= fun nl => again (.builtin "list.__iadd__" ⟨[nl, .ref t], []⟩)) _ _ sg
  refine wpAny_bind (wpAny_newList (wpAny_pure ⟨Code.quiet_builtin _ (by decide +kernel), codeAny_builtin entry_list_iadd' ?ext⟩))
  case ext =>
  show wpAny _ _ (Builtin.List.listExtendWith (.ref sg.heap.objs.size) (.ref t) (.ref sg.heap.objs.size)) _ _ { sg with heap := sg.heap.push (seqObj "list" #[] 0) }
  unfold Builtin.List.listExtendWith
  have g1' : Heap.get? (sg.heap.push (seqObj "list" #[] 0)) t = some ob := Heap.get?_push_of_some _ g1
  refine wpAny_bind (wpAny_typeOf (T := "tuple") ⟨ob, g1', g2⟩ ?ty)
  case ty =>
  have tt : (Value.type "tuple" == Value.type "tuple") = true := rfl
  have tl : (Value.type "tuple" == Value.type "list") = false := by decide +kernel
  rw [if_pos (by rw [tt]; simp)]
  refine wpAny_bind (listItems_at g1' g3 ?its)
  case its =>
  refine wpAny_bind (listItems_at (xs := #[]) (n := 0) (Heap.get?_push_size _ rfl) rfl ?its2)
  case its2 =>
  rw [if_neg (by simp)]
  refine wpAny_bind (listUpdate_at (xs := #[]) (n := 0) (Heap.get?_push_size _ rfl) rfl ?upd (Nat.zero_le _) (by show (#[] ++ us.toArray).size ≤ sizeLine + 1; rw [Array.size_append, List.size_toArray]; simp; omega))
  case upd =>
  refine wpAny_pure ?fin
  case fin =>
  refine wpAny_bind (wpAny_load (get?_update_seq (Heap.get?_push_size _ rfl) _) ?ld)
  case ld =>
  refine wpAny_pure ?_
  have e : ((#[] : Array Value) ++ us.toArray).toList = us := by simp
  rw [e]
  exact k
theorem sortedC {t : Addr} {us : List Value} {κ : PyProof.Rows.KeyKind} {R : Value → Shared → Prop} (col : ∀ A', Gath pg wd A' sg t us) (so : SortsAt pg wd Ar.in1.in1 { sg with heap := sortingHeap (copyHeap sg.heap us) (sg.heap.objs.size + 1) us } κ us) (hn : us.length ≤ sizeLine)
    (k : R (.ref (sg.heap.objs.size + 1)) { sg with heap := sortedAll sg.heap us (sortVals κ false us us).toArray }) : wpAny (model pg wd) Ar (call (.builtin "sorted") [.ref t]) R Ex sg := by
  refine call_function_entry_kw kind_sorted plain_sorted entry_sorted (args_sorted1 _) ?cl
  case cl =>
  unfold Builtin.«sorted»
  refine wpAny_bind (m := checkCount "sorted" 1 1 _) (wpAny_pure (wpAny_bind (col _ _ _ (wpAny_bind (wpAny_newList ?nl hn)))))
  case nl =>
  have z : (colH sg.heap us).objs.size = sg.heap.objs.size + 1 := by unfold colH; rw [Heap.size_update, size_push']
  show wpAny _ _ _ _ _ { sg with heap := copyHeap sg.heap us }
  rw [z]
  refine wpAny_bind (wpAny_holding (wpAny_call_entry_kw slot_list_sort ⟨_, copyHeap_at sg.heap us, rfl⟩ entry_list_sort ?so (args_list_sort _)))
  case so =>
  show wpAny (model pg wd) Ar.in1.in1 (Builtin.«list.sort» ⟨[.ref (sg.heap.objs.size + 1)], []⟩) _ _ _
  have body : ∀ E' : Value → Shared → Prop, wpAny (model pg wd) Ar.in1.in1 (Builtin.«list.sort» ⟨[.ref (sg.heap.objs.size + 1)], []⟩) (fun f s' => f = .done (.ret .none) ∧ R (.ref (sg.heap.objs.size + 1)) s') E' { sg with heap := copyHeap sg.heap us } :=
    fun _ => list_sort_vals (s := { sg with heap := copyHeap sg.heap us }) (copyHeap_at sg.heap us) so hn ⟨rfl, k⟩
  refine wpAny_mono (body _) (fun f s' hf => ?_) fun _ _ e => e
  obtain ⟨rfl, hq⟩ := hf
  exact ⟨_, rfl, wpAny_pure ⟨_, rfl, hq⟩⟩
end
/-- sorted(xs) of a list or a tuple -/
theorem sorted_dataC {prog : Program} {w : World} {A : Around} {E : Value → Shared → Prop} {s : Shared} {R : Value → PyData → Prop} {us : List Value} {ds : List PyData} {l : Addr} {Q : Value → Shared → Prop} (col : ∀ A', Gath prog w A' s l us) (e : EachIs R us ds) (er : EachIs (fun v d => ∃ as, Reads s.heap v d as) us ds)
    (hal : AllAlike ds) (ht : Sortable ds ∨ ∃ r, ds = .tuple [] :: r ∧ ∀ d ∈ r, ∃ xs, d = .tuple xs) (hL : ds.length ≤ sizeLine) (hu : ∀ d, d ∈ ds → A.units + 2 + d.depth < cLine)
    (h : ∀ out, out.length = ds.length → EachIs R out (ds.mergeSort (dataLe false id)) → Q (.ref (s.heap.objs.size + 1)) { s with heap := sortedAll s.heap us (List.toArray out) }) :
    wpAny (model prog w) A (call (.builtin "sorted") [.ref l]) Q E s := by
  have er' : EachIs (fun v d => ∃ as, Reads (sortingHeap (copyHeap s.heap us) (s.heap.objs.size + 1) us) v d as) us ds := er.mono fun _ _ ⟨as, r⟩ => ⟨as, PyProof.Rows.Reads.keeps (fun _ _ => sorting_copy_old) r⟩
  have lv : us.length = ds.length := e.length
  have hal' : AllAlike (ds.map id) := by rw [List.map_id]; exact hal
  have er2 : EachIs (fun v b => ∃ as, Reads (sortingHeap (copyHeap s.heap us) (s.heap.objs.size + 1) us) v (id b) as) us ds := er'
  have so : SortsAt prog w A.in1.in1 { s with heap := sortingHeap (copyHeap s.heap us) (s.heap.objs.size + 1) us } (dataKind (sortingHeap (copyHeap s.heap us) (s.heap.objs.size + 1) us) ds) us := by
    rcases ht with ht | ⟨r, rfl, ht⟩
    · exact SortsAt.data (s := { s with heap := sortingHeap (copyHeap s.heap us) (s.heap.objs.size + 1) us }) er' hal ht fun d hd => hu d hd
    · exact sortsE (s := { s with heap := sortingHeap (copyHeap s.heap us) (s.heap.objs.size + 1) us }) er' hal ht fun d hd => hu d hd
  refine sortedC col so (by rw [lv]; exact hL) ?_
  have z := sortVals_data false e er2 hal'
  rw [List.map_id] at z
  exact h _ (by rw [sortVals_length false rfl]; exact lv) z
end MS

-- MsIsE
/-! isinstance of a caught exception that may have a dict of its own. -/
namespace MS
open PySem PySem.Spec PySem.W PySem.Calls PyProof.Rows L2
section
variable {prog : Program} {w : World} {A : Around} {E : Value → Shared → Prop} {s : Shared} {K : Frag} {x D : Addr} {ox : Obj} {od : Option Obj}
theorem found_class (C : ExcC K D) : findObj K D od "__class__" = some (.bind (.builtin "getset_descriptor.__get__") (.builtin "object.__class__")) := by
  obtain ⟨cd, hc, _⟩ := any_some C.hd
  unfold findObj
  rw [hc, Option.bind_some, C.ha, Option.bind_some]
  simp [C.hn, C.ht]
theorem class_of_exc {Q : Option Value → Shared → Prop} (C : ExcC K D) (X : K.In s.heap) (I : InstAt s.heap x ox D od) (h : Q (some (.ref D)) { s with toks := s.toks + 1 }) : wpAny (model prog w) A (getAttr? (.ref x) "__class__") Q E s := by
  have hf := found_class (od := od) C
  obtain ⟨hp, g, d, t, os⟩ := s
  have L0 := I.type (M := model prog w)
  have L1 := looks_findIn (M := model prog w) X C.hg
  have L2 := looks_findIn (M := model prog w) X C.hk
  have L3 := looks_find (M := model prog w) X I hf
  have sub : Looks (model prog w) hp (isInstance (.ref x) (.type "BaseException")) true := L0.andThen (looks_subIn X C.hs)
  have hx0 : (false && onTheHeap (Value.builtin "BaseException.__getattribute__")) = false := rfl
  have hx2 : (Value.builtin "BaseException.__getattribute__" == Value.builtin "object.__getattribute__") = false := by decide +kernel
  have hx1 : (onTheHeap (Value.ref D) && Value.builtin "BaseException.__getattribute__" == Value.builtin "object.__getattribute__") = false := by rw [hx2]; rfl
  unfold getAttr? getAttrBy? getAttrBy
  refine wpAny_bind (wpAny_mkText (wpAny_bind (wpAny_attempt (wpAny_holding (wpAny_bind (L0.at (wpAny_bind (L1.at ?_))))))))
  show wpAny _ _ (if (onTheHeap (Value.ref D) && Value.builtin "BaseException.__getattribute__" == Value.builtin "object.__getattribute__") = true then _ else _) _ _ _
  rw [hx1, if_neg Bool.false_ne_true]
  unfold getAttrByItsOwn hookBefore
  refine wpAny_bind ?_
  rw [if_pos (show onTheHeap (Value.ref D) = true from rfl)]
  refine L2.at ?_
  refine wpAny_bind (wpAny_attempt (wpAny_holding ?_))
  unfold callGetattribute
  rw [hx0, if_neg Bool.false_ne_true]
  unfold boundAndCalled
  rw [PySem.F.excAttr_ValueError.ga.bind (.ref x)]
  refine wpAny_bind (wpAny_pure ?_)
  show wpAny _ _ (call (.builtin "BaseException.__getattribute__") [.ref x, .str "__class__" t]) _ _ _
  refine wpAny_call (codeAny_call_builtin PySem.F.excAttr_ValueError.ga.plain PySem.F.entry_bexc_ga ?_)
  refine @check_slot (model prog w) _ _ ⟨hp, g, d, t + 1, os⟩ "BaseException.__getattribute__" "BaseException" "__getattribute__" (.ref x) [.str "__class__" t] [] _ (by decide +kernel) (by decide +kernel) sub (PySem.F.args_bexc_ga (.ref x) (.str "__class__" t)) ?_
  unfold Builtin.«object.__getattribute__»
  refine wpAny_bind (wpAny_of_eq (a := ((Value.ref x : Value), [Value.str "__class__" t])) (by first | rfl | (simp only [slotArgs]; rfl)) ?_)
  refine wpAny_bind (wpAny_pure (wpAny_bind (L0.at (wpAny_bind (L3.at ?_)))))
  show wpAny _ _ (holding [Value.builtin "object.__class__"] (call (.builtin "getset_descriptor.__get__") [.builtin "object.__class__", .ref x, .ref D]) >>= ret) _ _ _
  refine wpAny_bind (wpAny_holding (wpAny_call (class_get (s := ⟨hp, g, d, t + 1, os⟩) (ox := ox) (od := od) X I C.hm ?_)))
  refine wpAny_pure ?_
  show wpAny _ _ (handedOut (.ref D)) _ _ _
  rw [handedOut_of (v := .ref D) rfl]
  first
    | exact wpAny_pure (wpAny_pure h)
    | exact wpAny_pure h
    | exact wpAny_pure (wpAny_bind (wpAny_pure (wpAny_pure h)))
theorem kit_exc (C : ExcC K D) : KitX K (.ref x) (.ref D) (fun h => InstAt h x ox D od) where
  ty := fun _ _ _ I => I.type
  it := fun _ _ X _ => by
    obtain ⟨cd, hc, _⟩ := any_some C.hd
    unfold clsIn at hc
    split at hc
    · rename_i ho
      intro A' Q' E' s' k q
      unfold isType loadHead
      exact wpAny_bind (wpAny_loadPart (k _ _ (X _ _ ho)) (wpAny_pure q))
    · cases hc
  ne := (handS_kitx_exc (x := x) (ox := ox) C.hg C.hk C.hs C.hd C.ha C.hn C.ht C.hm).ne
  ca := fun X I k => class_of_exc C X I k
end
/-- isinstance(e, c), e the exception that the suite holds, d its dict -/
def rIs2 (K : PySem.W.Frag) (D a : Addr) (d : Option Addr) : List V → Hp → VK → Prop := fun xs H Q => (∀ dd, d = some dd → ∃ fs, H dd = some (.xd fs)) ∧ ∃ (c : V) (cv : Value) (b : Bool), xs = [.ref a, c] ∧ (∀ u, RelV c u → u = cv) ∧ PySem.W.kitOne K (.ref D) cv = some b ∧ Q (.bl b) H
theorem call_isE2 {X : Cx} {a D : Addr} {oe : Obj} {d : Option Addr} {pn : List (Addr × Obj)} (C : ExcC X.K D) (hz : Zc (.ref D) d oe) (hf : ∃ vs, oe.data = .fields vs) : CallR (X.suite a ((a, oe) :: pn)) (.builtin "isinstance") (rIs2 X.K D a d) := by
  intro pins s σ H xs us Q I r h
  obtain ⟨hdd, c, cv, b, rfl, hcv, e, q⟩ := h
  cases r with
  | cons rx rr =>
    cases rr with
    | cons rt rr =>
      cases rr
      cases rx
      have ec := hcv _ rt
      subst ec
      obtain ⟨hget, _⟩ := I.pin (a, oe) (List.mem_append.mpr (.inl List.mem_cons_self))
      obtain ⟨vs, hv⟩ := hf
      have J : ∃ od, PySem.W.InstAt s.heap a oe D od := by
        obtain ⟨oc, odd, oda, osl⟩ := oe
        obtain ⟨h1, h2⟩ := hz
        dsimp only at h1 h2 hv
        subst h1 h2 hv
        cases odd with
        | none => exact ⟨none, hget, rfl, rfl, trivial⟩
        | some dd =>
          obtain ⟨fs, hx⟩ := hdd dd rfl
          have hx : ObjOk X.prog X.w H s.heap dd (.xd fs) := I.hok dd _ hx
          obtain ⟨mA, hns, _⟩ := hx
          obtain ⟨od, ho, _⟩ := lookIn_ns hns
          exact ⟨some od, hget, rfl, rfl, ho⟩
      obtain ⟨od, J⟩ := J
      exact PySem.W.kia_one (kit_exc C) I.kIn J e (fun z => nomatch z) fun tk => ⟨.bl b, H, I.kept (t' := tk) fun _ _ z => z, rfl, q⟩
end MS

-- MsExc
/-! raise, try, isinstance of what is caught; calls that see data; zip; max and min of two. -/
namespace MS
open PySem PySem.Spec PyProof.Rows L2

/-! ### the context of an except suite -/
def cdD : Option Addr → Nat
  | none => 0
  | some d => d + 1
def faX (fa : FA) (a c : Addr) (od : Option Addr) : FA := fun i => if i = exI then a else if i = exC then c else if i = exD then cdD od else fa i
theorem faX_i (fa : FA) (a c : Addr) (od : Option Addr) : faX fa a c od exI = a := if_pos rfl
theorem faX_c (fa : FA) (a c : Addr) (od : Option Addr) : faX fa a c od exC = c := by
  unfold faX
  rw [if_neg (by decide), if_pos rfl]
theorem faX_d (fa : FA) (a c : Addr) (od : Option Addr) : faX fa a c od exD = cdD od := by
  unfold faX
  rw [if_neg (by decide), if_neg (by decide), if_pos rfl]
theorem faX_lt (fa : FA) (a c : Addr) (od : Option Addr) {i : Nat} (h : i < exI) : faX fa a c od i = fa i := by
  unfold faX
  rw [if_neg (Nat.ne_of_lt h), if_neg (fun z => by rw [z] at h; exact absurd h (by decide)), if_neg (fun z => by rw [z] at h; exact absurd h (by decide))]
section
variable {K : PySem.W.Frag} {fa : FA} {a c : Addr} {od : Option Addr} {F H : Hp} {ρ : Nat → Addr} {n : Nat} {S : Sto}
theorem RepV.fax {x : V} {v : Val} : RepV K (faX fa a c od) F ρ n x v ↔ RepV K fa F ρ n x v := by
  cases v with
  | fn i => exact ⟨fun ⟨h1, h2⟩ => ⟨h1, by rw [faX_lt fa a c od h1] at h2; exact h2⟩, fun ⟨h1, h2⟩ => ⟨h1, by rw [faX_lt fa a c od h1]; exact h2⟩⟩
  | _ => exact Iff.rfl
theorem RepVs.fax {xs : List V} {vs : List Val} : RepVs K (faX fa a c od) F ρ n xs vs ↔ RepVs K fa F ρ n xs vs :=
  ⟨fun h => L2.Paired.mapP h fun _ _ r => RepV.fax.mp r, fun h => L2.Paired.mapP h fun _ _ r => RepV.fax.mpr r⟩
theorem Sim.fax : Sim K (faX fa a c od) F H ρ S ↔ Sim K fa F H ρ S := by
  refine ⟨fun s => ⟨s.sub, s.off, fun n o h => ?_, s.inj⟩, fun s => ⟨s.sub, s.off, fun n o h => ?_, s.inj⟩⟩
  · obtain ⟨y, hy, r⟩ := s.obj n o h
    refine ⟨y, hy, ?_⟩
    cases r with
    | lst r => exact .lst (RepVs.fax.mp r)
    | dct r => exact .dct (L2.Paired.mapP r fun _ _ z => ⟨z.1, RepV.fax.mp z.2⟩)
    | kv0 r => exact .kv0 (L2.Paired.mapP r fun _ _ z => ⟨z.1, RepV.fax.mp z.2⟩)
  · obtain ⟨y, hy, r⟩ := s.obj n o h
    refine ⟨y, hy, ?_⟩
    cases r with
    | lst r => exact .lst (RepVs.fax.mpr r)
    | dct r => exact .dct (L2.Paired.mapP r fun _ _ z => ⟨z.1, RepV.fax.mpr z.2⟩)
    | kv0 r => exact .kv0 (L2.Paired.mapP r fun _ _ z => ⟨z.1, RepV.fax.mpr z.2⟩)
theorem noExn_look {env : MS.Env} (h : noExn env = true) (i : Nat) : lookX env i = none := by
  unfold lookX
  cases q : (env[i]?).join with
  | none => rfl
  | some v =>
    have hm : some v ∈ env := by
      cases q2 : env[i]? with
      | none => rw [q2] at q; cases q
      | some z => rw [q2] at q; cases (show z = some v from q); exact List.mem_of_getElem? q2
    have := List.all_eq_true.mp h _ hm
    cases v with
    | exn e => simp at this
    | _ => rfl
theorem EnvRep.fax {env : MS.Env} {σ : L2.St} (hn : noExn env = true) : EnvRep K (faX fa a c od) F ρ n env σ ↔ EnvRep K fa F ρ n env σ :=
  ⟨fun h => ⟨h.len, fun i v e => let ⟨x, h1, h2⟩ := h.look i v e; ⟨x, h1, RepV.fax.mp h2⟩, fun i e q => by rw [noExn_look hn i] at q; cases q⟩,
   fun h => ⟨h.len, fun i v e => let ⟨x, h1, h2⟩ := h.look i v e; ⟨x, h1, RepV.fax.mpr h2⟩, fun i e q => by rw [noExn_look hn i] at q; cases q⟩⟩
end

/-! ### raise -/
/-- an own class of exceptions under ValueError -/
structure XC (K : PySem.W.Frag) (C : Addr) : Prop where
  f0 : PySem.W.findIn K (.ref C) "many" = some none
  f1 : PySem.W.findIn K (.ref C) "most" = some none
  kp : PySem.W.keepIn K (.ref C) = true
  sub : PySem.W.subIn K (.ref C) (.type "BaseException") = some true
  ty : PySem.W.typeIn K (.ref C) = some (.type "type")
  is : ExcC K C
section
variable {fa : FA} {X : Cx} {pe a b c : Expr} {m ma mb mc : M Val} {pos : Pos}
theorem ss_raise {k : Nat} {x ms : Str} {j : Nat} {p p2 cpos : Pos} (hc : X.calm = true) (hx : XC X.K (fa k)) (he : PySem.W.excIn X.K (fa k) He.veBase "ValueError.__new__" = true) (hm : X.mg x = some (.ref (fa k))) (hg : Gl X x) (hdb : (x == ("__debug__" : Str)) = false) :
    SimS fa X (.Raise (some (.Call (.Name x p) [.Constant (.str ms) j p2] [] cpos)) none pos) (fun env S => .exc ⟨k, []⟩ env S) := by
  refine ⟨fun W tk => PS.imp (ps_raise hc tk (pmk_own PySem.F.excBase_ValueError he hm hx.kp (raises_own hx.sub hx.ty) hg hdb)) fun D σ H q => ?_⟩
  obtain ⟨env, S, F, ρ, s, e, p⟩ := q
  exact p _ _ σ F H ρ s (Ext.refl ..) e ⟨rfl, .inl ⟨rfl, rfl⟩⟩

/-! ### try -/
theorem takes_none {X : Cx} : Takes X (fun _ _ _ _ => False) := fun u s' ⟨_, _, _, _, _, _, _, _, _, _, _, _, _, _, _, _, w⟩ => w.elim
theorem ss_try {i : Nat} {n x : Str} {cv : Value} {body suite : List Stmt} {b₀ : Stmt} {np pos' : Pos} {mb mh : MS_} {yes no : List Nat} (hs : X.stack = X.env :: X.outer) (hf : X.env.frame = some X.env.locals) (hN : X.N.Nodup) (hi : X.N[i]? = some n) (hln : X.env.kindOf n = some .local) (hc : Names X x cv)
    (hy : ∀ k ∈ yes, PySem.W.exmOne X.K (.ref (fa k)) cv = some true ∧ k < exI) (hno : ∀ k ∈ no, PySem.W.exmOne X.K (.ref (fa k)) cv = some false)
    (hb : ∀ (pn : List (Addr × Obj)) (xe : Value → Shared → Prop), PassesOwn (model X.prog X.w) X.A X.env xe → SimSs fa (X.tr pn xe) body mb)
    (hsu : ∀ (a : Addr) (oe : Obj) (od : Option Addr) (pn : List (Addr × Obj)) (k : Nat), k ∈ yes → Zc (.ref (fa k)) od oe → (∃ vs, oe.data = .fields vs) → SimSs (faX fa a (fa k) od) (X.suite a ((a, oe) :: pn)) (b₀ :: suite) mh) :
    SimS fa X (.Try body [.ExceptHandler (some (.Name x np)) (some n) (b₀ :: suite) pos'] [] [] pos) (triS mb mh i yes no) := by
  refine ⟨fun W tk => PS.imp (ps_try_as (tb := fun W => rdS X.K fa W mb) (ts := fun a cls d D σ H => ∃ k ∈ yes, cls = .ref (fa k) ∧ rdS X.K (faX fa a (fa k) d) (fun _ _ _ _ => False) mh D σ H) hs hf hN hi hln hc tk
    (fun W pn xe tk hp => (hb pn xe hp).run W tk) fun a oe cls d pn hz hd => ⟨fun pins s σ H D I ⟨k, hk, e1, q⟩ => ?_⟩) fun D σ H q => ?_⟩
  · subst e1
    exact ((hsu a oe d pn k hk hz hd).run _ takes_none).run pins s σ H D I q
  · obtain ⟨env, S, F, ρ, s, e, p⟩ := q
    refine ⟨env, S, F, ρ, s, e, ?_⟩
    unfold triS at p
    cases q0 : mb env S with
    | stuck => rw [q0] at p; exact p
    | nx env1 S1 => rw [q0] at p; exact p
    | ret v S1 => rw [q0] at p; exact p
    | brk env1 S1 => rw [q0] at p; exact p
    | cnt env1 S1 => rw [q0] at p; exact p
    | exc ee env1 S1 =>
      rw [q0] at p
      dsimp only at p
      split at p
      · rename_i hne
        intro cc d σ' F' H' ρ' s' x' e' r'
        obtain ⟨rfl, r'⟩ := r'
        split at p
        · rename_i hyes
          have hk : ee.cls ∈ yes := by simpa using hyes
          obtain ⟨h1, h2⟩ := hy _ hk
          refine ⟨true, h1, fun _ a ha => ⟨ee.cls, hk, rfl, env1.set i (some (.exn ee)), S1, F', ρ', Sim.fax.mpr s', ?_, ?_⟩, fun z => by cases z⟩
          · refine (((EnvRep.fax hne).mpr e').put (x := .ref a) i (some (.ref a)) (fun v z => by cases z) fun ev z => ?_)
            cases z
            refine ⟨by rw [faX_i], h2, by rw [faX_lt _ _ _ _ h2, faX_c], ?_⟩
            rcases r' with ⟨w1, w2⟩ | ⟨x1, x2, dd, w1, w2, w3⟩
            · exact .inl ⟨w1, by rw [faX_d, w2]; rfl⟩
            · exact .inr ⟨x1, x2, dd, w1, by rw [faX_d, w2]; rfl, w3⟩
          · have p1 := PostS.shift x' p
            cases q1 : mh (env1.set i (some (.exn ee))) S1 with
            | stuck => rw [q1] at p1; exact p1
            | brk _ _ => rw [q1] at p1; exact p1.elim
            | cnt _ _ => rw [q1] at p1; exact p1.elim
            | exc _ _ _ => rw [q1] at p1; exact p1.elim
            | ret v S2 =>
              rw [q1] at p1
              exact fun y F2 H2 ρ2 s2 x2 r2 => p1 y F2 H2 ρ2 (Sim.fax.mp s2) x2 (RepV.fax.mp r2)
            | nx env2 S2 =>
              rw [q1] at p1
              unfold sufS at p1
              dsimp only at p1
              split at p1
              · rename_i hne2
                exact fun σ2 F2 H2 ρ2 s2 x2 r2 => p1 _ F2 H2 ρ2 (Sim.fax.mp s2) x2 ((EnvRep.fax hne2).mp (r2.unset i))
              · exact p1.elim
        · split at p
          · rename_i _ hn
            have hk : ee.cls ∈ no := by simpa using hn
            exact ⟨false, hno _ hk, (fun z => by cases z), fun _ => p _ _ σ' F' H' ρ' s' x' e' ⟨rfl, r'⟩⟩
          · exact p.elim
      · exact p.elim

/-! ### isinstance in the suite -/
theorem sm_isx {a : Addr} {oe : Obj} {od : Option Addr} {pn : List (Addr × Obj)} {k i : Nat} {n x : Str} {cv : V} {u : Value} {p p1 p2 : Pos} {yes no : List Nat} (hx : ExcC X.K (fa k)) (hz : Zc (.ref (fa k)) od oe) (hd : ∃ vs, oe.data = .fields vs)
    (hg : Gl X "isinstance") (hm : X.mg "isinstance" = none) (hN : X.N[i]? = some n) (hv : Vis X.env.scope n) (hn1 : (n == ("__debug__" : Str)) = false) (hn2 : (n == ("__classdict__" : Str)) = false)
    (hc : PE (X.suite a ((a, oe) :: pn)) (.Name x p2) (tC cv)) (hu : ∀ w, RelV cv w → w = u)
    (hy : ∀ j ∈ yes, PySem.W.kitOne X.K (.ref (fa j)) u = some true) (hno : ∀ j ∈ no, PySem.W.kitOne X.K (.ref (fa j)) u = some false) :
    SimE (faX fa a (fa k) od) (X.suite a ((a, oe) :: pn)) (.Call (.Name "isinstance" p) [.Name n p1, .Name x p2] [] pos) (fun env S => .ofO ((lookX env i).bind fun e => if yes.contains e.cls then some (.d (.bool true)) else if no.contains e.cls then some (.d (.bool false)) else none) S) := by
  refine ⟨fun W tk => PE.imp (pe_callB (call_isE2 hx hz hd) hg hm boot_isinstance (pa_cons (pe_var (X := X.suite a ((a, oe) :: pn)) hN hv hn1 hn2) (pa_cons hc pa_nil rfl) rfl) (by decide) (by decide) rfl rfl) fun σ H Q q => ?_⟩
  obtain ⟨env, S, F, ρ, s, e, p⟩ := q
  obtain ⟨v, ev, q2⟩ := p.ofO
  cases q3 : lookX env i with
  | none => rw [q3] at ev; cases ev
  | some ee =>
    rw [q3] at ev
    obtain ⟨h1, h2, h3, h4⟩ := e.exn i ee q3
    have hdd : ∀ dd, od = some dd → ∃ fs, H dd = some (.xd fs) := fun dd z => by
      subst z
      rcases h4 with ⟨_, w⟩ | ⟨_, _, dd2, _, w, w2⟩
      · rw [faX_d] at w; cases w
      · rw [faX_d] at w; cases w
        exact ⟨_, s.sub _ _ w2⟩
    rw [faX_i] at h1
    rw [faX_c, faX_lt _ _ _ _ h2] at h3
    refine ⟨_, h1, ?_⟩
    simp only [Option.bind_some] at ev
    split at ev
    · rename_i hk
      cases ev
      refine ⟨hdd, cv, u, true, rfl, hu, ?_, q2 _ F H ρ s (Ext.refl ..) (Rep.bl true)⟩
      rw [← h3]; exact hy _ (by simpa using hk)
    · split at ev
      · rename_i hk
        cases ev
        refine ⟨hdd, cv, u, false, rfl, hu, ?_, q2 _ F H ρ s (Ext.refl ..) (Rep.bl false)⟩
        rw [← h3]; exact hno _ (by simpa using hk)
      · cases ev
end
end MS

-- MsTwo
/-! exceptions with two numbers: their making, their fields. -/
namespace MS
open PySem PySem.Spec PyProof.Rows L2

/-- what an own class's __init__ promises: self.many = the one, self.most = the other -/
def spI (K : PySem.W.Frag) (C : Addr) : Sp := fun vs H Q _ => ∃ (a : Addr) (m n : Int), vs = [.ref a, .int m, .int n] ∧ H a = some (exo a C none) ∧
  ∀ dx, H dx = none → dx ≠ a → Q .non (upd (upd (upd H dx (exd dx [("many", .int m)])) a (exo a C (some dx))) dx (exd dx [("most", .int n), ("many", .int m)]))
/-- an own class with this __init__ -/
structure XI (P : Program) (w : World) (K : PySem.W.Frag) (mg : Str → Option Value) (base : Heap) (C : Addr) (j : Nat) : Prop where
  o : OexC K C
  fn : ∃ fI fd, PySem.W.findIn K (.ref C) "__init__" = some (some (.ref fI)) ∧ PySem.W.typeIn K (.ref fI) = some (.type "function") ∧ Binds K fd ["self", "many", "most"] [] ∧ FnOk P w K mg base (L2.CX P w) j fI fd ["self", "many", "most"] (spI K C)
def fldS (w : Nat) : Str := if w = 0 then "many" else "most"
section
variable {fa : FA} {X : Cx} {pe a b c : Expr} {m ma mb mc : M Val} {pos : Pos}
theorem pass_none : Passes (L2.CX X.prog X.w) X (fun _ _ _ => False) := fun pins σ H s e s' I h => passAt (X := X) (takes_none (X := X)) σ pins H s e s' I h
theorem mk_final {H1 : Hp} {a C dx : Addr} {m n : Int} (ha : H1 a = none) (hd : dx ≠ a) : upd (del (upd (upd (upd (upd H1 a (exo a C none)) dx (exd dx [("many", .int m)])) a (exo a C (some dx))) dx (exd dx [("most", .int n), ("many", .int m)])) a) dx (.xd [("most", .int n), ("many", .int m)]) = upd H1 dx (xdO m n) := by
  funext b
  by_cases h1 : b = dx
  · subst h1; rw [upd_same, upd_same]; rfl
  · rw [upd_ne h1, upd_ne h1]
    by_cases h2 : b = a
    · subst h2; rw [del_same, ha]
    · rw [del_ne h2, upd_ne h1, upd_ne h2, upd_ne h1, upd_ne h2]
theorem ss_raise2 {k j : Nat} {x : Str} {p cpos : Pos} (hc : X.calm = true) (hx : XI X.prog X.w X.K X.mg X.base (fa k) j) (hr : Room (j + 1) X.A) (hm : X.mg x = some (.ref (fa k))) (hg : Gl X x) (hdb : (x == ("__debug__" : Str)) = false)
    (ha : SimE fa X a ma) (hb : SimE fa X b mb) (hn : noStar a = true) (hn2 : noStar b = true) :
    SimS fa X (.Raise (some (.Call (.Name x p) [a, b] [] cpos)) none pos) (fun env S => .ofR env (ma env S) fun x S1 => .ofR env (mb env S1) fun y S2 => exc2 k env x y S2) := by
  obtain ⟨fI, fd, h1, h2, h3, h4⟩ := hx.fn
  have hs : starEach [b] X.env = [(false, eval b X.env)] := by rw [starEach_cons hn2]; rfl
  refine ⟨fun W tk => PS.imp (ps_raise hc tk (pmk_oex hx.o h1 h2 h4 hr h3 .nil pass_none hg hm ((sa_cons ha (sa_cons hb sa_nil hn2) hn).run W tk) hdb (by rw [starEach_cons hn]) (starEach_plain [b] X.env cpos (by simp [hn2])))) fun D σ H q => ?_⟩
  obtain ⟨env, S, F, ρ, s, e, p⟩ := q
  refine ⟨env, S, F, ρ, s, e, ?_⟩
  dsimp only at p
  unfold mcons mnil
  cases q0 : ma env S with
  | stuck => rw [q0] at p; exact p
  | exc e1 S' =>
    rw [q0] at p
    exact fun c d F' H' ρ' s' x' r' => p c d σ F' H' ρ' s' x' (e.mono x'.fz x'.rho x'.len) r'
  | ok v S1 =>
    rw [q0] at p
    simp only [R.bind_ok]
    replace p : PostS X.K fa W F H ρ S (RS.ofR env (mb env S1) fun y S2 => exc2 k env v y S2) D := p
    cases q1 : mb env S1 with
    | stuck =>
      rw [q1] at p; exact p
    | exc e1 S' =>
      rw [q1] at p
      exact fun c d F' H' ρ' s' x' r' => p c d σ F' H' ρ' s' x' (e.mono x'.fz x'.rho x'.len) r'
    | ok u S2 =>
      rw [q1] at p
      simp only [R.bind_ok]
      intro xs F1 H1 ρ1 s1 x1 r1
      cases r1 with
      | cons r1 rn =>
        cases rn with
        | cons r2 rn =>
          cases rn
          cases v with
          | d d =>
            cases d with
            | int n =>
              cases u with
              | d d2 =>
                cases d2 with
                | int n2 =>
                  cases (show Rep X.K F1 _ (.int n) from r1)
                  cases (show Rep X.K F1 _ (.int n2) from r2)
                  refine ⟨(by decide : (2 : Nat) ≤ 1000), fun a0 hn0 => ⟨a0, n, n2, rfl, upd_same, fun dx hd0 hda => ⟨rfl, dx, [("most", .int n2), ("many", .int n)], ?_, upd_same, ?_, ?_⟩⟩⟩
                  · rw [upd_ne (Ne.symm hda), upd_same]
                  · rw [upd_ne hda] at hd0; exact hd0
                  · rw [mk_final hn0 hda]
                    rw [upd_ne hda] at hd0
                    obtain ⟨g1, g2, g3⟩ := s1.grow (o := xdO n n2) hd0
                    exact p _ _ σ _ _ ρ1 g1 (x1.trans g2) (e.mono (x1.trans g2).fz (x1.trans g2).rho (x1.trans g2).len) ⟨rfl, .inr ⟨n, n2, dx, rfl, rfl, upd_same⟩⟩
                | _ => exact p.elim
              | _ => exact p.elim
            | _ => exact p.elim
          | _ => exact p.elim
/-- e.many, e.most -/
theorem sm_xfld {a : Addr} {oe : Obj} {od : Option Addr} {pn : List (Addr × Obj)} {k i w : Nat} {n : Str} {p1 : Pos} (hx : ExcC X.K (fa k)) (hf : XC X.K (fa k)) (hz : Zc (.ref (fa k)) od oe) (hd : ∃ vs, oe.data = .fields vs)
    (hN : X.N[i]? = some n) (hv : Vis X.env.scope n) (hn1 : (n == ("__debug__" : Str)) = false) (hn2 : (n == ("__classdict__" : Str)) = false) (hw : w = 0 ∨ w = 1) :
    SimE (faX fa a (fa k) od) (X.suite a ((a, oe) :: pn)) (.Attribute (.Name n p1) (fldS w) pos) (fun env S => .ofO ((lookX env i).bind fun e => (e.args[w]?).map Val.d) S) := by
  have hno : PySem.W.findIn X.K (.ref (fa k)) (fldS w) = some none := by
    rcases hw with rfl | rfl
    · exact hf.f0
    · exact hf.f1
  refine ⟨fun W tk => PE.imp (pe_xf ⟨hx.hg, hx.hk, hx.hs, hx.hd⟩ hno hz hd (pe_var (X := X.suite a ((a, oe) :: pn)) hN hv hn1 hn2)) fun σ H Q q => ?_⟩
  obtain ⟨env, S, F, ρ, s, e, p⟩ := q
  obtain ⟨v, ev, q2⟩ := p.ofO
  cases q3 : lookX env i with
  | none => rw [q3] at ev; cases ev
  | some ee =>
    rw [q3] at ev
    obtain ⟨h1, h2, h3, h4⟩ := e.exn i ee q3
    rw [faX_i] at h1
    rw [faX_c, faX_lt _ _ _ _ h2] at h3
    rcases h4 with ⟨w1, _⟩ | ⟨x1, x2, dd, w1, w2, w3⟩
    · rw [Option.bind_some, w1] at ev
      simp at ev
    · rw [faX_d] at w2
      have eo : od = some dd := by
        cases od with
        | none => cases w2
        | some z => cases w2; rfl
      refine ⟨_, h1, rfl, rfl, dd, [("most", .int x2), ("many", .int x1)], if w = 0 then .int x1 else .int x2, eo, s.sub _ _ w3, ?_, ?_⟩
      · rcases hw with rfl | rfl <;> rfl
      · rw [Option.bind_some, w1] at ev
        rcases hw with rfl | rfl
        · cases ev
          exact q2 _ F H ρ s (Ext.refl ..) (Rep.int x1)
        · cases ev
          exact q2 _ F H ρ s (Ext.refl ..) (Rep.int x2)
end
end MS

-- MsZip
/-! zip of a list and a tuple. -/
namespace MS
open PySem PySem.Spec PyProof.Rows L2
/-- a list at a, a tuple at b -/
def ItM (K : PySem.W.Frag) (a b : Addr) : L2.It where
  go := fun j G => ∃ (us ws : List V) (u w : V), SqL K G a us ∧ SqT K G b ws ∧ us[j]? = some u ∧ ws[j]? = some w
  yld := fun j G v G' => ∃ T u w, v = .ref T ∧ G T = none ∧ G' = upd G T (.tup [u, w]) ∧ (∀ us, SqL K G a us → us[j]? = some u) ∧ ∀ ws, SqT K G b ws → ws[j]? = some w
  stop := fun j G => ∃ us ws : List V, SqL K G a us ∧ SqT K G b ws ∧ j = min us.length ws.length
theorem sep_of {z TI TO i1 i2 a b : Addr} (D : ZipApart z TI TO i1 i2 a b) : ZipSep2 z TI TO i1 i2 [i1, a] [i2, b] where
  TIz := D.TIz
  TOz := D.TOz
  TITO := D.TITO
  TIi1 := D.TIi1
  mem1 := by simp
  zf1 := by simp only [List.mem_cons, List.not_mem_nil, or_false, not_or]; exact ⟨D.i1z.symm, D.l1z.symm⟩
  Tf1 := by simp only [List.mem_cons, List.not_mem_nil, or_false, not_or]; exact ⟨D.TOi1, D.l1TO.symm⟩
  TIi2 := D.TIi2
  mem2 := by simp
  zf2 := by simp only [List.mem_cons, List.not_mem_nil, or_false, not_or]; exact ⟨D.i2z.symm, D.l2z.symm⟩
  Tf2 := by simp only [List.mem_cons, List.not_mem_nil, or_false, not_or]; exact ⟨D.TOi2, D.l2TO.symm⟩
  sep1_2 := by simp only [List.mem_cons, List.not_mem_nil, or_false, not_or]; exact ⟨D.i12, D.l2i1.symm⟩
  sep2_1 := by simp only [List.mem_cons, List.not_mem_nil, or_false, not_or]; exact ⟨D.i12.symm, D.l1i2.symm⟩
theorem turn_zipM {P : Program} {w : World} {K : PySem.W.Frag} {elts : List Expr} {kk : Nat} {tpos : Pos} {a b z TI TO i1 i2 : Addr} (D : ZipApart z TI TO i1 i2 a b) :
    Turn P w K (.Tuple elts kk tpos) (ItM K a b) [z, TI, TO, i1, i2] z (fun j h => IsZip h z TI TO .none ∧ IsPair h TI (.ref i1) (.ref i2) ∧ (∃ x y, IsPair h TO x y) ∧ h.IsListIter i1 a j ∧ h.IsTupleIter i2 b j) where
  mem := by simp
  obj := by
    rintro j h ⟨h0, hI, ⟨x, y, hO⟩, ⟨p1, q1, _, d1⟩, ⟨p2, q2, _, d2⟩⟩ c hc
    simp only [List.mem_cons, List.not_mem_nil, or_false] at hc
    rcases hc with rfl | rfl | rfl | rfl | rfl
    · exact ⟨_, h0, fun v q => nomatch q⟩
    · exact ⟨_, hI, fun v q => nomatch q⟩
    · exact ⟨_, hO, fun v q => nomatch q⟩
    · exact ⟨p1, q1, fun v q => by rw [d1] at q; cases q⟩
    · exact ⟨p2, q2, fun v q => by rw [d2] at q; cases q⟩
  keep := by
    rintro j h h' ⟨h0, hI, ⟨x, y, hO⟩, p1, p2⟩ k
    exact ⟨k z (by simp) _ h0, k TI (by simp) _ hI, ⟨x, y, k TO (by simp) _ hO⟩, p1.at fun o q => k i1 (by simp) o q, p2.at fun o q => k i2 (by simp) o q⟩
  item := by
    intro X hP hw hK hc j pins s σ H E I hf st hg
    subst hP hw hK
    obtain ⟨h0, hI, ⟨x0, y0, hO⟩, p1, p2⟩ := st
    obtain ⟨us, ws, x, y, hqx, hqy, hx, hy⟩ := hg
    obtain ⟨it1, rv1, l1, _⟩ := I.list hqx
    obtain ⟨it2, rv2, l2, _⟩ := I.tuple hqy
    obtain ⟨u, hu, ru⟩ := rv1.get hx
    obtain ⟨v, hv, rv⟩ := rv2.get hy
    have hzl : z < s.heap.objs.size := Heap.lt_size h0
    have hd := I.ok.hd hc
    have lu := (List.getElem?_eq_some_iff.mp hu).1
    have lv := (List.getElem?_eq_some_iff.mp hv).1
    refine wpAny_pyNext_zipD2_item (sep_of D) (Draws.list (A := X.A.in1) (items := it1.toArray) hd i1 a D.l1i1) (Draws.tuple (A := X.A.in1) (items := it2.toArray) hd i2 b D.l2i2) h0 hI hO ⟨p1, l1.isList⟩ ⟨p2, l2⟩ (by simpa using lu) (by simpa using lv) ?_
    intro u' v' h' tk e1 e2 z' TO' s1 s2 hT hsz hk
    have e1 : it1[j]? = some u' := by simpa using e1
    have e2 : it2[j]? = some v' := by simpa using e2
    obtain rfl : u' = u := by rw [hu] at e1; exact (Option.some.inj e1).symm
    obtain rfl : v' = v := by rw [hv] at e2; exact (Option.some.inj e2).symm
    refine ⟨_, rfl, wpAny_letOwnedTupleGo_zip (s := { s with heap := h', toks := tk }) z' fun h'' z'' sb => ?_⟩
    have hT2 : h''.get? s.heap.objs.size = some { cls := .type "tuple", data := .seq #[u', v'] } := (sb.2 _ (Nat.ne_of_gt hzl)).trans hT
    have I1 : Inv X pins σ (upd H s.heap.objs.size (.tup [x, y])) { s with heap := h'', toks := tk } := by
      refine I.turnedNew (t' := tk) (ch := [z, TI, TO, i1, i2]) (fun c o hb q => ?_) hf (Nat.le_refl _) ⟨by show 2 ≤ sizeLine; decide, [u', v'], .cons ru (.cons rv .nil), ⟨_, hT2, rfl, _, rfl⟩⟩
      simp only [List.mem_cons, List.not_mem_nil, or_false, not_or] at hb
      exact (sb.2 c hb.1).trans (hk c o hb.1 hb.2.2.1 hb.2.2.2.1 hb.2.2.2.2 q)
    refine ⟨.ref s.heap.objs.size, _, I1, rfl, ⟨_, x, y, rfl, I.hok.fresh (Nat.le_refl _), rfl, fun l hl => by rw [I.list_inj hl hqx]; exact hx, fun l hl => by rw [I.tuple_inj hl hqy]; exact hy⟩, ⟨z'', ?_, ⟨u', v', (sb.2 _ D.TOz).trans TO'⟩, ?_, ?_⟩, fun c hcm => ?_⟩
    · exact (sb.2 _ D.TIz).trans (hk _ _ D.TIz D.TITO D.TIi1 D.TIi2 hI)
    · exact s1.1.at fun o q => (sb.2 _ D.i1z).trans q
    · exact s2.1.at fun o q => (sb.2 _ D.i2z).trans q
    · have hlt : c < s.heap.objs.size := by
        have e' := hcm
        simp only [List.mem_cons, List.not_mem_nil, or_false] at e'
        rcases e' with q | q | q | q | q
        · rw [q]; exact hzl
        · rw [q]; exact Heap.lt_size hI
        · rw [q]; exact Heap.lt_size hO
        · obtain ⟨_, e1, _⟩ := p1; rw [q]; exact Heap.lt_size e1
        · obtain ⟨_, e2, _⟩ := p2; rw [q]; exact Heap.lt_size e2
      rw [upd_ne (Nat.ne_of_lt hlt)]
      exact (hf c hcm).1
  done := by
    intro X hP hw hK hc j pins s σ H E I hf st hg
    subst hP hw hK
    obtain ⟨h0, hI, ⟨x0, y0, hO⟩, p1, p2⟩ := st
    obtain ⟨us, ws, hqx, hqy, hend⟩ := hg
    obtain ⟨it1, rv1, l1, _⟩ := I.list hqx
    obtain ⟨it2, rv2, l2, _⟩ := I.tuple hqy
    have n1 := rv1.length
    have n2 := rv2.length
    have hd := I.ok.hd hc
    refine wpAny_pyNext_zipD2_end (i := j) (sep_of D) (Draws.list (A := X.A.in1) (items := it1.toArray) hd i1 a D.l1i1) (Draws.tuple (A := X.A.in1) (items := it2.toArray) hd i2 b D.l2i2) h0 hI hO ⟨p1, l1.isList⟩ ⟨p2, l2⟩ (by simp; omega) (by simp; omega) (by simp; omega) ?_
    intro h' tk hk
    refine ⟨rfl, I.turnedL (t' := tk) (ch := [z, TI, TO, i1, i2]) (fun c o hb q => ?_) hf⟩
    simp only [List.mem_cons, List.not_mem_nil, or_false, not_or] at hb
    exact hk c o hb.1 hb.2.2.1 hb.2.2.2.1 hb.2.2.2.2 q
  self := fun A i s Q E st h => wpAny_pyIter_zip st.1 h
/-- zip of two lists, of two tuples, of a list and a tuple -/
def iZipB (K : PySem.W.Frag) (ta : TA) : TI := fun σ H R => ta σ H fun vs H1 => ∃ a b xs ys, vs = [.ref a, .ref b] ∧
  ((SqL K H1 a xs ∧ SqL K H1 b ys ∧ R (Itz K a b) H1) ∨ (SqT K H1 a xs ∧ SqT K H1 b ys ∧ R (RZ.ItzT K a b) H1) ∨ (SqL K H1 a xs ∧ SqT K H1 b ys ∧ R (ItM K a b) H1))
theorem pi_zipB {X : Cx} {e e2 : Expr} {ta : TA} {p pos tpos : Pos} {elts : List Expr} {kk : Nat} (hg : Gl X "zip") (hm : X.mg "zip" = none) (ha : PA X [e, e2] ta)
    (hs : starEach [e, e2] X.env = (false, eval e X.env) :: starEach [e2] X.env) (hpl : (backTo pos (starEach [e2] X.env)).any (·.1) = false) :
    PI X (.Tuple elts kk tpos) (.Call (.Name "zip" p) [e, e2] [] pos) (iZipB X.K ta) := by
  constructor
  intro pins s σ H R I h
  refine Call_ (ld_blt I hg hm PyProof.Rows.boot_zip (PyProof.Rows.callWith_type1 (thn (ha.run pos pins s σ H _ I h) fun us s1 ⟨vs, H1, I1, r1, q1⟩ => ?_) hs hpl))
  obtain ⟨a, b, xs, ys, rfl, q1⟩ := q1
  cases r1 with
  | cons r rr =>
    cases rr with
    | cons r' rr =>
      cases rr
      cases r
      cases r'
      have n5 : ∀ c, c ∈ [s1.heap.objs.size + 4, s1.heap.objs.size + 2, s1.heap.objs.size + 3, s1.heap.objs.size, s1.heap.objs.size + 1] → FpOk X pins H1 c := fun c hcm => by
        simp only [List.mem_cons, List.not_mem_nil, or_false] at hcm
        have hle : s1.heap.objs.size ≤ c := by omega
        exact I1.fpOk hle (I1.hok.fresh hle)
      rcases q1 with ⟨hqx, hqy, q⟩ | ⟨hqx, hqy, q⟩ | ⟨hqx, hqy, q⟩
      · obtain ⟨it1, rv, l1, _⟩ := I1.list hqx
        obtain ⟨it2, rv2, l2, _⟩ := I1.list hqy
        refine call_zip_2 l1.isList l2.isList fun h' g1 g2 g3 g4 g5 hsz hk => wpAny_pyIter_zip g1 ?_
        exact ⟨s1.heap.objs.size + 4, _, _, _, H1, rfl, I1.kept (t' := s1.toks) hk, turn_zip (PySem.W.ktu_apart s1.heap.objs.size a b l1.lt l2.lt), ⟨g1, g2, ⟨_, _, g3⟩, g4, g5⟩, n5, q⟩
      · obtain ⟨it1, rv, l1, _⟩ := I1.tuple hqx
        obtain ⟨it2, rv2, l2, _⟩ := I1.tuple hqy
        obtain ⟨o1, ho1, _⟩ := id l1
        obtain ⟨o2, ho2, _⟩ := id l2
        refine RZ.call_zipT (xs := it1.toArray) (ys := it2.toArray) l1 l2 fun h' g1 g2 g3 g4 g5 hsz hk => wpAny_pyIter_zip g1 ?_
        exact ⟨s1.heap.objs.size + 4, _, _, _, H1, rfl, I1.kept (t' := s1.toks) hk, RZ.turn_zipT (PySem.W.ktu_apart s1.heap.objs.size a b (Heap.lt_size ho1) (Heap.lt_size ho2)), ⟨g1, g2, ⟨_, _, g3⟩, g4, g5⟩, n5, q⟩
      · obtain ⟨it1, rv, l1, _⟩ := I1.list hqx
        obtain ⟨it2, rv2, l2, _⟩ := I1.tuple hqy
        obtain ⟨o2, ho2, _⟩ := id l2
        refine zip_begins2 (begins_list a it1.toArray) (begins_tuple b it2.toArray) l1.isList l2 fun h' g1 g2 g3 g4 g5 hsz hk => wpAny_pyIter_zip g1 ?_
        exact ⟨s1.heap.objs.size + 4, _, _, _, H1, rfl, I1.kept (t' := s1.toks) hk, turn_zipM (PySem.W.ktu_apart s1.heap.objs.size a b l1.lt (Heap.lt_size ho2)), ⟨g1, g2, ⟨_, _, g3⟩, ⟨_, g4, rfl, rfl⟩, ⟨_, g5, rfl, rfl⟩⟩, n5, q⟩
end MS

-- MsExc2
/-! calls that see data; zip; max and min of two. -/
namespace MS
open PySem PySem.Spec PyProof.Rows L2

/-! ### calls that see data -/
section
variable {K : PySem.W.Frag} {fa : FA} {F H : Hp} {ρ : Nat → Addr} {S : Sto}
theorem deep_reps {n : Nat} {f : Val → Option D} (hf : ∀ x v d, RepV K fa F ρ n x v → f v = some d → Rep K H x d) : ∀ {xs : List V} {vs : List Val} {ds : List D}, RepVs K fa F ρ n xs vs → allO (vs.map f) = some ds → Reps K H xs ds
  | _, [], ds, .nil, e => by simp [allO] at e; subst e; exact .nil
  | _, v :: vs, ds, .cons r rs, e => by
    rw [List.map_cons] at e
    cases q : f v with
    | none => rw [q] at e; simp [allO] at e
    | some d =>
      rw [q] at e
      simp only [allO] at e
      cases q2 : allO (vs.map f) with
      | none => rw [q2] at e; cases e
      | some es =>
        rw [q2] at e
        cases e
        exact .cons (hf _ _ _ r q) (deep_reps hf rs q2)
theorem deep_rep (s : Sim K fa F H ρ S) : ∀ (k : Nat) (x : V) (v : Val) (d : D), RepV K fa F ρ S.length x v → deepV S k v = some d → Rep K H x d
  | 0, x, .d y, d, r, e => by simp [deepV] at e; subst e; exact Rep.mono s.sub r
  | k + 1, x, .d y, d, r, e => by simp [deepV] at e; subst e; exact Rep.mono s.sub r
  | 0, x, .ref n, d, r, e => by simp [deepV] at e
  | 0, x, .fn n, d, r, e => by simp [deepV] at e
  | 0, x, .scr n, d, r, e => by simp [deepV] at e
  | k + 1, x, .fn n, d, r, e => by simp [deepV] at e
  | k + 1, x, .scr n, d, r, e => by simp [deepV] at e
  | _, x, .exn n, d, r, e => (show False from r).elim
  | k + 1, x, .ref n, d, r, e => by
    obtain ⟨_, rfl⟩ := r
    simp only [deepV] at e
    cases q : stGet S n with
    | none => rw [q] at e; cases e
    | some o =>
      rw [q] at e
      cases o with
      | dct _ => cases e
      | kv _ _ => cases e
      | lst vs =>
        dsimp only at e
        cases q2 : allO (vs.map (deepV S k)) with
        | none => rw [q2] at e; cases e
        | some ds =>
          rw [q2] at e
          cases e
          obtain ⟨ho, h2, r2⟩ := s.obj n _ q
          cases r2 with
          | lst r2 => exact .lst h2 (deep_reps (fun x v d r e => deep_rep s k x v d r e) r2 q2)
theorem Rep.imm {F' : Hp} {x : V} {d : D} (r : Rep K F x d) (h : immB d = true) : Rep K F' x d := by
  cases r with
  | non => exact .non
  | bl b => exact .bl b
  | int i => exact .int i
  | str x => exact .str x
  | lst _ _ => cases h
  | tup _ _ => cases h
  | dct _ _ _ => cases h
  | dT _ _ _ => cases h
end
section
variable {fa : FA} {X : Cx} {pe a b c : Expr} {m ma mb mc : M Val} {pos : Pos} {nm : Nat → Str} {ps : Nat → List Str} {I : List Nat} {C : Runner} {k : Nat}
theorem rd_callP {i : Nat} {W : WX} {ms : M (List Val)} {σ : L2.St} {H : Hp} {Q : VK} (q : rdE X.K fa W (fun env S => (ms env S).bind fun vs S1 => callPV C i vs S1) σ H Q) : tCallG (spR X.K fa (C i)) (WE W) (rdA X.K fa W ms) σ H Q := by
  refine q.bind (rep := RepVs X.K fa) fun env vs S1 xs F1 H1 ρ1 s1 e1 r1 p1 => ?_
  unfold callPV at p1
  cases q1 : allO (vs.map (deepV S1 3)) with
  | none => rw [q1] at p1; exact p1.elim
  | some ds =>
    rw [q1] at p1
    dsimp only at p1
    have nn : ∀ n u, stGet ([] : Sto) n = some u → False := fun n u z => by simp [stGet] at z
    refine ⟨ds.map Val.d, [], H1, ρ1, ⟨Same.refl _, fun n o z => (nn n o z).elim, fun n o z => (nn n o z).elim, fun n m o u z => (nn n o z).elim⟩, RepVs.of_pure (deep_reps (fun x v d r e => deep_rep s1 3 x v d r e) r1 q1), ?_⟩
    cases q2 : C i (ds.map Val.d) [] with
    | stuck => rw [q2] at p1; exact p1
    | exc _ _ => rw [q2] at p1; exact p1.elim
    | ok v S2 =>
      rw [q2] at p1
      cases v with
      | d x =>
        dsimp only at p1
        split at p1
        · rename_i hi
          intro y F' H' ρ' s' x' r'
          have kp : ∀ a o, H1 a = some o → H' a = some o := fun a o h => x'.frame a o h fun n u z => (nn n u z).elim
          refine p1 y F1 H' ρ1 ⟨fun a o h => kp a o (s1.sub a o h), s1.off, fun n o h => ?_, s1.inj⟩ ⟨Same.refl _, fun _ _ => rfl, Nat.le_refl _, fun a o h _ => kp a o h, fun a o h => ⟨o, kp a o h⟩, fun n u h => .inl ⟨stGet_lt h, u, h⟩, fun a o h => .inl (by rw [h]; intro z; cases z)⟩ (Rep.imm (show Rep X.K F' y x from r') hi)
          obtain ⟨z, hz, rz⟩ := s1.obj n o h
          exact ⟨z, kp _ _ hz, rz⟩
        · exact p1.elim
      | _ => exact p1.elim
theorem sm_callP {i : Nat} {p : Pos} {e : Expr} {es : List Expr} {ms : M (List Val)} (L : Lib X fa nm ps I C k) (hi : i ∈ I) (hr : Room k X.A) (hgu : X.A.guards = some []) (hg : Gl X (nm i)) (hdb : (nm i == ("__debug__" : Str)) = false) (ha : SimA fa X (e :: es) ms) (hs : (e :: es).all noStar = true) :
    SimE fa X (.Call (.Name (nm i) p) (e :: es) [] pos) (fun env S => (ms env S).bind fun vs S1 => callPV C i vs S1) := by
  obtain ⟨fd, hb, F⟩ := L.fn i hi
  rw [List.all_cons, Bool.and_eq_true] at hs
  exact ⟨fun W tk => PE.imp (pe_callG (E := WE W) F hr hgu hg (L.mg i hi) (L.kp i hi) hb (fun σ => passAt tk σ) (ha.run W tk) hdb (starEach_cons hs.1 _ _) (starEach_plain es X.env pos hs.2)) fun σ H Q q => rd_callP q⟩

/-! ### max, min of two -/
def mmS (k : Bool) : Str := if k then "max" else "min"
theorem boot_max : bootBuiltins "max" = some (.builtin "max") := by decide +kernel
theorem boot_min : bootBuiltins "min" = some (.builtin "min") := by decide +kernel
theorem sm_mm (k : Bool) {p : Pos} (hc : X.calm = true) (hg : Gl X (mmS k)) (hm : X.mg (mmS k) = none) (ha : SimE fa X a ma) (hb : SimE fa X b mb) (hn : noStar a = true) (hn2 : noStar b = true) :
    SimE fa X (.Call (.Name (mmS k) p) [a, b] [] pos) (fun env S => (ma env S).bind fun x S1 => (mb env S1).bind fun y S2 =>
      .ofO (match x, y with | .d (.int i), .d (.int j) => some (.d (.int (if k then (if j > i then j else i) else (if j < i then j else i)))) | _, _ => none) S2) := by
  have key : ∀ {W : WX} {r : List V → Hp → VK → Prop} {σ : L2.St} {H : Hp} {Q : VK}, (∀ i j H Q, Q (.int (if k then (if j > i then j else i) else (if j < i then j else i))) H → r [.int i, .int j] H Q) →
      rdE X.K fa W (fun env S => (ma env S).bind fun x S1 => (mb env S1).bind fun y S2 => .ofO (match x, y with | .d (.int i), .d (.int j) => some (.d (.int (if k then (if j > i then j else i) else (if j < i then j else i)))) | _, _ => none) S2) σ H Q →
      rdA X.K fa W (mcons ma (mcons mb mnil)) σ H (fun xs H1 => r xs H1 Q) := by
    intro W r σ H Q hr q
    obtain ⟨env, S, F, ρ, s, e, p⟩ := q
    refine ⟨env, S, F, ρ, s, e, ?_⟩
    dsimp only at p
    unfold mcons mnil
    cases q0 : ma env S with
    | stuck => rw [q0] at p; exact p
    | exc e S' => rw [q0] at p; exact p
    | ok v S1 =>
      rw [q0] at p
      simp only [R.bind_ok] at p ⊢
      cases q1 : mb env S1 with
      | stuck => rw [q1] at p; exact p
      | exc e S' => rw [q1] at p; exact p
      | ok u S2 =>
        rw [q1] at p
        simp only [R.bind_ok] at p ⊢
        intro xs F1 H1 ρ1 s1 x1 r1
        cases r1 with
        | cons r1 rn =>
          cases rn with
          | cons r2 rn =>
            cases rn
            cases v with
            | d d =>
              cases d with
              | int n =>
                cases u with
                | d d2 =>
                  cases d2 with
                  | int n2 =>
                    cases (show Rep X.K F1 _ (.int n) from r1)
                    cases (show Rep X.K F1 _ (.int n2) from r2)
                    exact hr _ _ _ _ (p _ F1 H1 ρ1 s1 x1 (Rep.int _))
                  | _ => exact p.elim
                | _ => exact p.elim
              | _ => exact p.elim
            | _ => exact p.elim
  have hs : starEach [b] X.env = [(false, eval b X.env)] := by rw [starEach_cons hn2]; rfl
  cases k with
  | true => exact ⟨fun W tk => PE.imp (pe_callB (call_max2 hc) hg hm boot_max ((sa_cons ha (sa_cons hb sa_nil hn2) hn).run W tk) (by decide) (by decide) (by rw [starEach_cons hn]) (starEach_plain [b] X.env pos (by simp [hn2]))) fun σ H Q q => key (r := fun xs H Q => ∃ i j, xs = [V.int i, V.int j] ∧ Q (V.int (if j > i then j else i)) H) (fun i j H Q z => ⟨i, j, rfl, z⟩) q⟩
  | false => exact ⟨fun W tk => PE.imp (pe_callB (call_min2 hc) hg hm boot_min ((sa_cons ha (sa_cons hb sa_nil hn2) hn).run W tk) (by decide) (by decide) (by rw [starEach_cons hn]) (starEach_plain [b] X.env pos (by simp [hn2]))) fun σ H Q q => key (r := fun xs H Q => ∃ i j, xs = [V.int i, V.int j] ∧ Q (V.int (if j < i then j else i)) H) (fun i j H Q z => ⟨i, j, rfl, z⟩) q⟩

/-! ### zip -/
theorem zipD_get {xs ys : List D} {i : Nat} {v : Val} (h : (zipD xs ys)[i]? = some v) : ∃ x y, xs[i]? = some x ∧ ys[i]? = some y ∧ v = .d (.tuple [x, y]) := by
  unfold zipD at h
  rw [List.getElem?_map] at h
  cases q : (xs.zip ys)[i]? with
  | none => rw [q] at h; cases h
  | some z =>
    rw [q] at h
    cases h
    obtain ⟨x, y⟩ := z
    rw [List.getElem?_zip_eq_some] at q
    exact ⟨x, y, q.1, q.2, rfl⟩
theorem it_zip {K : PySem.W.Frag} {F H : Hp} {ρ : Nat → Addr} {S : Sto} {J : L2.It} {Sq Sq2 : Hp → Addr → List V → Prop} {l m : Addr} {xs ys : List V} {ds es : List D} (s : Sim K fa F H ρ S) (h1 : ∀ H', Same F H' → Sq H' l xs) (h2 : ∀ H', Same F H' → Sq2 H' m ys) (r1 : Reps K F xs ds) (r2 : Reps K F ys es) (hz : xs.length ≤ sizeLine)
    (hgo : ∀ i H, (∃ (xs ys : List V) (x y : V), Sq H l xs ∧ Sq2 H m ys ∧ xs[i]? = some x ∧ ys[i]? = some y) → J.go i H) (hst : ∀ i H, (∃ xs ys : List V, Sq H l xs ∧ Sq2 H m ys ∧ i = min xs.length ys.length) → J.stop i H)
    (hyl : ∀ i H v H', J.yld i H v H' → ∃ T x y, v = .ref T ∧ H T = none ∧ H' = upd H T (.tup [x, y]) ∧ (∀ xs, Sq H l xs → xs[i]? = some x) ∧ ∀ ys, Sq2 H m ys → ys[i]? = some y) : ItRep K fa F H ρ S J (zipD ds es, []) := by
  have hl : (zipD ds es).length = min xs.length ys.length := by simp [zipD, r1.length, r2.length]
  refine ⟨by rw [hl]; omega, F, s.sub, fun n u hu => s.off n u hu, ⟨fun i H' hk hi => ?_, fun H' hk => hst _ _ ⟨xs, ys, h1 H' hk, h2 H' hk, hl⟩, fun i H' x H'' v F' hk hF sF hv hy => ?_⟩⟩
  · rw [hl] at hi
    exact hgo _ _ ⟨xs, ys, xs[i]'(by omega), ys[i]'(by omega), h1 H' hk, h2 H' hk, List.getElem?_eq_getElem _, List.getElem?_eq_getElem _⟩
  · obtain ⟨T, u, w, rfl, hT, rfl, hu, hw⟩ := hyl _ _ _ _ hy
    obtain ⟨d, e, hd, he, rfl⟩ := zipD_get hv
    obtain ⟨u', hu', ru⟩ := r1.get hd
    obtain ⟨w', hw', rw'⟩ := r2.get he
    have z1 := hu xs (h1 _ hk)
    have z2 := hw ys (h2 _ hk)
    rw [hu'] at z1; cases z1
    rw [hw'] at z2; cases z2
    refine ⟨upd F' T (.tup [u, w]), .inr (.inl ⟨T, _, hT, rfl, rfl⟩), ?_⟩
    have fF : F' T = none := sF.free hT
    have sF' : Same F' (upd F' T (.tup [u, w])) := fun b o hb => by rw [upd_ne (ne_of_none hb fF)]; exact hb
    exact Rep.tup upd_same (.cons (ru.mono (hF.trans sF')) (.cons (rw'.mono (hF.trans sF')) .nil))
theorem si_zip {p tpos : Pos} {elts : List Expr} {kk : Nat} (hg : Gl X "zip") (hm : X.mg "zip" = none) (ha : SimE fa X a ma) (hb : SimE fa X b mb) (hn : noStar a = true) (hn2 : noStar b = true) :
    SimI fa X (.Tuple elts kk tpos) (.Call (.Name "zip" p) [a, b] [] pos) (fun env S => (ma env S).bind fun x S1 => (mb env S1).bind fun y S2 => .ofO (zipV S2 x y) S2) := by
  refine ⟨fun W tk => PI.imp (pi_zipB hg hm (PA.size ((sa_cons ha (sa_cons hb sa_nil hn2) hn).run W tk)) (by rw [starEach_cons hn]) (starEach_plain [b] X.env pos (by simp [hn2]))) fun σ H Q q => ?_⟩
  obtain ⟨env, S, F, ρ, s, e, p⟩ := q
  refine ⟨env, S, F, ρ, s, e, ?_⟩
  dsimp only at p
  unfold mcons mnil
  cases q0 : ma env S with
  | stuck => rw [q0] at p; exact p
  | exc e S' => rw [q0] at p; exact p
  | ok v S1 =>
    rw [q0] at p
    simp only [R.bind_ok] at p ⊢
    cases q1 : mb env S1 with
    | stuck => rw [q1] at p; exact p
    | exc e S' => rw [q1] at p; exact p
    | ok u S2 =>
      rw [q1] at p
      simp only [R.bind_ok] at p ⊢
      intro xs F1 H1 ρ1 s1 x1 r1 hz
      cases r1 with
      | cons r1 rn =>
        cases rn with
        | cons r2 rn =>
          cases rn
          unfold zipV at p
          split at p
          · cases (show Rep X.K F1 _ (.list _) from r1) with
            | lst h1 q1 =>
              cases (show Rep X.K F1 _ (.list _) from r2) with
              | lst h2 q2 =>
                refine ⟨_, _, _, _, rfl, .inl ⟨SqL.of (s1.sub _ _ h1), SqL.of (s1.sub _ _ h2), p _ F1 H1 ρ1 s1 x1 (it_zip (Sq := fun H a xs => SqL X.K H a xs) (Sq2 := fun H a xs => SqL X.K H a xs) s1 (fun H' hk => SqL.of (hk _ _ h1)) (fun H' hk => SqL.of (hk _ _ h2)) q1 q2 (hz _ _ _ rfl (.inl (SqL.of (s1.sub _ _ h1)))) (fun i H z => z) (fun i H ⟨xs, ys, z1, z2, z3⟩ => ⟨xs, ys, z1, z2, by omega⟩) fun i H v H' z => z)⟩⟩
          · cases (show Rep X.K F1 _ (.tuple _) from r1) with
            | tup h1 q1 =>
              cases (show Rep X.K F1 _ (.tuple _) from r2) with
              | tup h2 q2 =>
                refine ⟨_, _, _, _, rfl, .inr (.inl ⟨SqT.of (s1.sub _ _ h1), SqT.of (s1.sub _ _ h2), p _ F1 H1 ρ1 s1 x1 (it_zip (Sq := fun H a xs => SqT X.K H a xs) (Sq2 := fun H a xs => SqT X.K H a xs) s1 (fun H' hk => SqT.of (hk _ _ h1)) (fun H' hk => SqT.of (hk _ _ h2)) q1 q2 (hz _ _ _ rfl (.inr (SqT.of (s1.sub _ _ h1)))) (fun i H z => z) (fun i H ⟨xs, ys, z1, z2, z3⟩ => ⟨xs, ys, z1, z2, by omega⟩) fun i H v H' z => z)⟩)⟩
          · cases (show Rep X.K F1 _ (.list _) from r1) with
            | lst h1 q1 =>
              cases (show Rep X.K F1 _ (.tuple _) from r2) with
              | tup h2 q2 =>
                refine ⟨_, _, _, _, rfl, .inr (.inr ⟨SqL.of (s1.sub _ _ h1), SqT.of (s1.sub _ _ h2), p _ F1 H1 ρ1 s1 x1 (it_zip (Sq := fun H a xs => SqL X.K H a xs) (Sq2 := fun H a xs => SqT X.K H a xs) s1 (fun H' hk => SqL.of (hk _ _ h1)) (fun H' hk => SqT.of (hk _ _ h2)) q1 q2 (hz _ _ _ rfl (.inl (SqL.of (s1.sub _ _ h1)))) (fun i H z => z) (fun i H z => z) fun i H v H' z => z)⟩)⟩
          · exact p.elim
end
end MS

-- MsDic
/-! Sorting; dicts of the store. -/
namespace MS
open PySem PySem.Spec PyProof.Rows L2
/-! ### sorted(xs) -/
/-- a value that stands for a datum -/
def StV (K : PySem.W.Frag) (F : Hp) (u : Value) (d : D) : Prop := ∃ x, RelV x u ∧ Rep K F x d
theorem each_of {K : PySem.W.Frag} {F : Hp} : ∀ {xs : List V} {us : List Value} {ds : List D}, Reps K F xs ds → Vals xs us → PySem.W.EachIs (StV K F) us ds
  | _, _, _, .nil, .nil => .nil
  | _, _, _, .cons h r, .cons q t => .cons ⟨_, q, h⟩ (each_of r t)
theorem of_each {K : PySem.W.Frag} {F : Hp} : ∀ {us : List Value} {ds : List D}, PySem.W.EachIs (StV K F) us ds → ∃ xs, Vals xs us ∧ Reps K F xs ds
  | _, _, .nil => ⟨[], .nil, .nil⟩
  | _, _, .cons ⟨x, q, h⟩ r => let ⟨xs, a, b⟩ := of_each r; ⟨x :: xs, .cons q a, .cons h b⟩
theorem sortOk_parts {ds : List D} (h : sortOk ds = true) : PySem.W.AllAlike ds ∧ (PySem.W.Sortable ds ∨ ∃ r, ds = .tuple [] :: r ∧ ∀ d ∈ r, ∃ xs, d = .tuple xs) ∧ ds.length ≤ sLine ∧ ∀ d ∈ ds, d.depth ≤ 60 := by
  unfold sortOk at h
  simp only [Bool.and_eq_true, List.all_eq_true, Bool.or_eq_true, decide_eq_true_eq] at h
  obtain ⟨⟨⟨h1, h2⟩, h3⟩, h4⟩ := h
  refine ⟨fun a ha b hb => h1 a ha b hb, ?_, h3, h4⟩
  rcases h2 with (h2 | h2) | h2
  · refine .inl (.inl fun d hd => ?_)
    have := h2 d hd
    unfold isTup1 at this
    split at this
    · exact ⟨_, _, rfl⟩
    · cases this
  · refine .inl (.inr fun d hd => ?_)
    have := h2 d hd
    refine ⟨fun z => ?_, fun xs z => ?_⟩
    · subst z; cases this
    · subst z; cases this
  · unfold fstE at h2
    split at h2
    · rename_i r
      refine .inr ⟨r, rfl, fun d hd => ?_⟩
      have := List.all_eq_true.mp h2 d hd
      unfold isTup at this
      split at this
      · exact ⟨_, rfl⟩
      · cases this
    · cases h2
section
variable {X : Cx} {fa : FA} {a : Expr} {ma : M Val} {pos : Pos}
theorem call_sortedD (hu : X.A.units + 65 < cLine) : CallR X (.builtin "sorted") (fun vs H Q => ∃ F l xs ds, vs = [.ref l] ∧ Same F H ∧ (SqL X.K H l xs ∨ SqT X.K H l xs) ∧ Reps X.K F xs ds ∧ sortOk ds = true ∧ ∀ p ys, H p = none → Reps X.K F ys (sortD ds) → Q (.ref p) (upd H p (.lst ys))) := by
  intro pins s σ H vs us Q I r ⟨F, l, xs, ds, e, sub, hl, rs, ok, q⟩
  subst e
  rw [Vals.ref1 r]
  obtain ⟨o1, o2, o3, o4⟩ := sortOk_parts ok
  obtain ⟨its, rv, col⟩ : ∃ its : List Value, Vals xs its ∧ ∀ A', Gath X.prog X.w A' s l its := by
    rcases hl with hl | hl
    · obtain ⟨its, rv, pl, hz⟩ := I.list hl
      exact ⟨its, rv, fun A' => gathL pl.isList (by rw [← rv.length]; exact hz)⟩
    · obtain ⟨its, rv, pl, hz⟩ := I.tuple hl
      exact ⟨its, rv, fun A' => gathT pl (by rw [← rv.length]; exact hz)⟩
  have ev := each_of rs rv
  have er : PySem.W.EachIs (fun v d => ∃ as, Reads s.heap v d as) its ds := ev.mono fun u d ⟨x, h1, h2⟩ => Rep.reads I sub h2 u h1
  have fin : ∀ out : List Value, out.length = ds.length → PySem.W.EachIs (StV X.K F) out (sortD ds) → EP X pins σ Q (.ref (s.heap.objs.size + 1)) { s with heap := sortedAll s.heap its (List.toArray out) } := fun out ho eo => by
    obtain ⟨ys, r1, r2⟩ := of_each eo
    obtain ⟨c, hc⟩ := sortedAll_at s.heap its (List.toArray out)
    have hn : H (s.heap.objs.size + 1) = none := I.hok.fresh (Nat.le_succ _)
    refine ⟨.ref (s.heap.objs.size + 1), _, I.laid (a := s.heap.objs.size + 1) (o := .lst ys) (t' := s.toks) (fun b u e => sortedAll_old e) (Nat.le_succ _) ⟨?_, out, c, r1, hc⟩, rfl, q _ ys hn r2⟩
    rw [r1.length, ho, ← sLine_eq]; exact o3
  exact sorted_dataC col ev er o1 o2 (by rw [← sLine_eq]; exact o3) (fun d hd => by have := o4 d hd; omega) fin
theorem sm_srt (nw : Bool) {p : Pos} (hu : X.A.units + 65 < cLine) (hg : Gl X "sorted") (hm : X.mg "sorted" = none) (ha : SimE fa X a ma) (hn : noStar a = true) :
    SimE fa X (.Call (.Name "sorted" p) [a] [] pos) (fun env S => (ma env S).bind fun x S1 => srtV false nw S1 x) := by
  refine ⟨fun W tk => PE.imp (pe_bi1 .sorted (call_sortedD hu) hg hm ((sa_cons ha sa_nil hn).run W tk) hn) fun σ H Q q => ?_⟩
  obtain ⟨env, S, F, ρ, s, e, p⟩ := q
  refine ⟨env, S, F, ρ, s, e, ?_⟩
  dsimp only at p
  unfold mcons mnil
  cases q0 : ma env S with
  | stuck => rw [q0] at p; exact p
  | exc e S' => rw [q0] at p; exact p
  | ok v S1 =>
    rw [q0] at p
    simp only [R.bind_ok] at p ⊢
    intro xs F1 H1 ρ1 s1 x1 r1
    cases r1 with
    | cons r1 rn =>
      cases rn
      rename_i x
      have p := Post.shift x1 p
      unfold srtV at p
      cases q3 : view S1 v with
      | none => rw [q3] at p; exact p.elim
      | some d =>
        rw [q3] at p
        cases d with
        | list ds =>
          dsimp only at p
          cases q4 : sortX false ds with
          | none => rw [q4] at p; exact p.elim
          | some ys =>
            rw [q4] at p
            dsimp only at p
            unfold sortX at q4
            dsimp only at q4
            split at q4
            · rename_i ok
              cases q4
              obtain ⟨l, xs', rfl, h1, rr⟩ := (s1.view r1 q3).list s1.sub
              refine ⟨F1, l, xs', ds, rfl, s1.sub, .inl (SqL.of h1), rr, ok, fun p' zs hp rz => ?_⟩
              cases nw with
              | true =>
                obtain ⟨ρ2, e2, s2, x2⟩ := s1.alloc hp (.lst (RepVs.of_pure rz))
                exact p _ F1 _ ρ2 s2 x2 ⟨by simp, by rw [e2]⟩
              | false =>
                obtain ⟨s2, x2, sF⟩ := s1.grow (o := .lst zs) hp
                exact p _ _ _ ρ1 s2 x2 (Rep.lst upd_same (rz.mono sF))
            · cases q4
        | tuple ds =>
          dsimp only at p
          cases q4 : sortX false ds with
          | none => rw [q4] at p; exact p.elim
          | some ys =>
            rw [q4] at p
            dsimp only at p
            unfold sortX at q4
            dsimp only at q4
            split at q4
            · rename_i ok
              cases q4
              obtain ⟨l, xs', rfl, h1, h1F, rr⟩ := (s1.view r1 q3).tuple s1.sub
              refine ⟨F1, l, xs', ds, rfl, s1.sub, .inr h1, rr, ok, fun p' zs hp rz => ?_⟩
              cases nw with
              | true =>
                obtain ⟨ρ2, e2, s2, x2⟩ := s1.alloc hp (.lst (RepVs.of_pure rz))
                exact p _ F1 _ ρ2 s2 x2 ⟨by simp, by rw [e2]⟩
              | false =>
                obtain ⟨s2, x2, sF⟩ := s1.grow (o := .lst zs) hp
                exact p _ _ _ ρ1 s2 x2 (Rep.lst upd_same (rz.mono sF))
            · cases q4
        | _ => exact p.elim
/-! ### sorted(set(xs)) of ints -/
theorem mem_insI {x k : Int} : ∀ {l : List Int}, k ∈ insI x l ↔ k = x ∨ k ∈ l
  | [] => by simp [insI]
  | y :: r => by
    unfold insI
    split
    · simp
    · split
      · rename_i h1 h2
        subst h2
        simp
      · rw [List.mem_cons, mem_insI, List.mem_cons]
        constructor
        · rintro (h | h | h)
          · exact .inr (.inl h)
          · exact .inl h
          · exact .inr (.inr h)
        · rintro (h | h | h)
          · exact .inr (.inl h)
          · exact .inl h
          · exact .inr (.inr h)
theorem pw_insI {x : Int} : ∀ {l : List Int}, l.Pairwise (· < ·) → (insI x l).Pairwise (· < ·)
  | [], _ => by simp [insI]
  | y :: r, h => by
    obtain ⟨h1, h2⟩ := List.pairwise_cons.mp h
    unfold insI
    split
    · rename_i z
      refine List.pairwise_cons.mpr ⟨fun k hk => ?_, h⟩
      rcases List.mem_cons.mp hk with rfl | hk
      · exact z
      · exact Int.lt_trans z (h1 k hk)
    · split
      · exact h
      · refine List.pairwise_cons.mpr ⟨fun k hk => ?_, pw_insI h2⟩
        rcases mem_insI.mp hk with rfl | hk
        · omega
        · exact h1 k hk
theorem mem_srtI {k : Int} : ∀ {ns : List Int}, k ∈ srtI ns ↔ k ∈ ns
  | [] => by simp [srtI]
  | n :: ns => by
    show k ∈ insI n (srtI ns) ↔ _
    rw [mem_insI, mem_srtI, List.mem_cons]
theorem pw_srtI : ∀ (ns : List Int), (srtI ns).Pairwise (· < ·)
  | [] => List.Pairwise.nil
  | n :: ns => pw_insI (pw_srtI ns)
theorem strict_ext : ∀ {a b : List Int}, a.Pairwise (· < ·) → b.Pairwise (· < ·) → (∀ k, k ∈ a ↔ k ∈ b) → a = b
  | [], [], _, _, _ => rfl
  | [], y :: b, _, _, h => by have := (h y).mpr (by simp); simp at this
  | x :: a, [], _, _, h => by have := (h x).mp (by simp); simp at this
  | x :: a, y :: b, ha, hb, h => by
    obtain ⟨a1, a2⟩ := List.pairwise_cons.mp ha
    obtain ⟨b1, b2⟩ := List.pairwise_cons.mp hb
    have e : x = y := by
      rcases List.mem_cons.mp ((h x).mp (by simp)) with z | z
      · exact z
      · rcases List.mem_cons.mp ((h y).mpr (by simp)) with w | w
        · exact w.symm
        · have := b1 x z; have := a1 y w; omega
    subst e
    rw [strict_ext a2 b2 fun k => ⟨fun z => ?_, fun z => ?_⟩]
    · rcases List.mem_cons.mp ((h k).mp (by simp [z])) with w | w
      · have := a1 k z; omega
      · exact w
    · rcases List.mem_cons.mp ((h k).mpr (by simp [z])) with w | w
      · have := b1 k z; omega
      · exact w
def tSrtSet (K : PySem.W.Frag) (ta : TE) : TE := fun σ H Q => ta σ H fun x H1 => ∃ (l : Addr) (ns : List Int), x = .ref l ∧ (SqL K H1 l (ns.map V.int) ∨ SqT K H1 l (ns.map V.int)) ∧ ns.length < 64 ∧ ∀ p, H1 p = none → Q (.ref p) (upd H1 p (.lst ((srtI ns).map V.int)))
theorem boot_sorted : bootBuiltins "sorted" = some (.builtin "sorted") := by decide +kernel
theorem vals_ints : ∀ {us : List Value} {ns : List Int}, IntsAre us ns → Vals (ns.map V.int) us
  | _, _, .nil => .nil
  | _, _, .cons _ _ h => .cons ⟨_, rfl⟩ (vals_ints h)
theorem pe_srtSet {p p2 q : Pos} {ta : TE} (hg : Gl X "sorted") (hm : X.mg "sorted" = none) (hg2 : Gl X "set") (hm2 : X.mg "set" = none) (ha : PE X a ta) (hc : X.calm = true) (hn : noStar a = true) :
    PE X (.Call (.Name "sorted" p) [.Call (.Name "set" p2) [a] [] q] [] pos) (tSrtSet X.K ta) := by
  have na : starEach [a] X.env = (false, eval a X.env) :: starEach [] X.env := starEach_cons hn _ _
  refine ⟨fun pins s σ H Q I h => Call_ (ld_blt I hg hm boot_sorted (PyProof.Rows.callWith_builtin1 (PyProof.Rows.args_cons (Call_ (ld_blt I hg2 hm2 boot_set ?_)) rfl) rfl rfl))⟩
  refine PyProof.Rows.callWith_type1 (PyProof.Rows.args_cons (thn (ha.run pins s σ H _ I h) fun v s1 ⟨x, H1, I1, r1, q1⟩ => PyProof.Rows.args_nil ?_) na) na rfl
  obtain ⟨l, ns, rfl, hq, hl, q1⟩ := q1
  cases r1
  have hset : ∀ {Q' : Value → Shared → Prop}, (∀ (h' : Heap) (tk c : Nat), SetR X.w h' s1.heap.objs.size (fun j => decide (j ∈ ns)) c → c ≤ ns.length → (∀ b o, s1.heap.get? b = some o → h'.get? b = some o) → Q' (.ref s1.heap.objs.size) { s1 with heap := h', toks := tk }) →
      wpAny (model X.prog X.w) X.A (call (.type "set") [.ref l]) Q' X.xe s1 := fun {Q'} k => by
    rcases hq with hq | hq
    · obtain ⟨its, r, pl, hz⟩ := I1.list hq
      exact set_of_list (I1.ok.hd hc) pl.isList (by simpa using RZ.intsAre_vals r) (by unfold scanBound; omega) k
    · obtain ⟨its, r, pl, hz⟩ := I1.tuple hq
      exact call_set_tupI ns (I1.ok.hd hc) pl (by simpa using RZ.intsAre_vals r) (by unfold scanBound; omega) k
  refine hset fun h' tk c hS hcl hk => PyProof.Rows.args_nil ?_
  have I2 : Inv X pins σ H1 { s1 with heap := h', toks := tk } := I1.kept fun b o e => hk b o e
  refine sorted_set hS (I1.ok.hd hc) (by omega) fun s' p out cc ms k g o hp hgp hI hpw hmem hlen => ?_
  have em : ms = srtI ns := strict_ext hpw (pw_srtI ns) fun j => by rw [hmem, mem_srtI, decide_eq_true_eq]
  have hfree : H1 p = none := I2.hok.fresh hp
  have hv : Vals ((srtI ns).map V.int) out.toList := by rw [← em]; exact vals_ints hI
  have hle : ((srtI ns).map V.int).length ≤ sizeLine := by rw [List.length_map, ← em, hlen, sizeLine_eq]; omega
  have J : Inv X pins σ (upd H1 p (.lst ((srtI ns).map V.int))) { ({ s1 with heap := h', toks := tk } : Shared) with heap := s'.heap, gens := s'.gens, drawn := s'.drawn, toks := s'.toks } :=
    I2.call (ch := []) (Un.laid k hp hfree) (I2.hok.laid k hp ⟨hle, out.toList, cc, hv, hgp⟩) (by rw [g]; exact I2.bare) (fun _ z => nomatch z)
  have es : s' = { ({ s1 with heap := h', toks := tk } : Shared) with heap := s'.heap, gens := s'.gens, drawn := s'.drawn, toks := s'.toks } := by
    cases s'; cases s1; cases o; rfl
  rw [es]
  exact ⟨.ref p, _, J, rfl, q1 p hfree⟩
theorem sm_srtSet (nw : Bool) {p p2 q : Pos} (hg : Gl X "sorted") (hm : X.mg "sorted" = none) (hg2 : Gl X "set") (hm2 : X.mg "set" = none) (ha : SimE fa X a ma) (hc : X.calm = true) (hn : noStar a = true) :
    SimE fa X (.Call (.Name "sorted" p) [.Call (.Name "set" p2) [a] [] q] [] pos) (fun env S => (ma env S).bind fun x S1 => srtV true nw S1 x) := by
  refine ⟨fun W tk => PE.imp (pe_srtSet hg hm hg2 hm2 (ha.run W tk) hc hn) fun σ H Q q => ?_⟩
  refine q.bind (rep := RepV X.K fa) fun env v S1 x F1 H1 ρ1 s1 e1 r1 p => ?_
  unfold srtV at p
  cases q3 : view S1 v with
  | none => rw [q3] at p; exact p.elim
  | some d =>
    rw [q3] at p
    cases d with
    | list ds =>
      dsimp only at p
      cases q4 : sortX true ds with
      | none => rw [q4] at p; exact p.elim
      | some ys =>
        rw [q4] at p
        dsimp only at p
        unfold sortX at q4
        dsimp only at q4
        cases q5 : allI ds with
        | none => rw [q5] at q4; cases q4
        | some ns =>
          rw [q5, Option.bind_some] at q4
          split at q4
          · rename_i hz
            cases q4
            have r' := s1.view r1 q3
            rw [allI_some q5] at r'
            obtain ⟨l, xs', rfl, h1, rr⟩ := r'.list s1.sub
            rw [rr.ints] at h1
            refine ⟨l, ns, rfl, .inl (SqL.of h1), hz, fun p' hp => ?_⟩
            cases nw with
            | true =>
              obtain ⟨ρ2, e2, s2, x2⟩ := s1.alloc hp (.lst (RepVs.of_pure (Reps.of_ints (K := X.K) (F := F1) (srtI ns))))
              exact p _ F1 _ ρ2 s2 x2 ⟨by simp, by rw [e2]⟩
            | false =>
              obtain ⟨s2, x2, sF⟩ := s1.grow (o := .lst ((srtI ns).map V.int)) hp
              exact p _ _ _ ρ1 s2 x2 (Rep.lst upd_same (Reps.of_ints _))
          · cases q4
    | tuple ds =>
      dsimp only at p
      cases q4 : sortX true ds with
      | none => rw [q4] at p; exact p.elim
      | some ys =>
        rw [q4] at p
        dsimp only at p
        unfold sortX at q4
        dsimp only at q4
        cases q5 : allI ds with
        | none => rw [q5] at q4; cases q4
        | some ns =>
          rw [q5, Option.bind_some] at q4
          split at q4
          · rename_i hz
            cases q4
            have r' := s1.view r1 q3
            rw [allI_some q5] at r'
            obtain ⟨l, xs', rfl, h1, h1F, rr⟩ := r'.tuple s1.sub
            rw [rr.ints] at h1
            refine ⟨l, ns, rfl, .inr h1, hz, fun p' hp => ?_⟩
            cases nw with
            | true =>
              obtain ⟨ρ2, e2, s2, x2⟩ := s1.alloc hp (.lst (RepVs.of_pure (Reps.of_ints (K := X.K) (F := F1) (srtI ns))))
              exact p _ F1 _ ρ2 s2 x2 ⟨by simp, by rw [e2]⟩
            | false =>
              obtain ⟨s2, x2, sF⟩ := s1.grow (o := .lst ((srtI ns).map V.int)) hp
              exact p _ _ _ ρ1 s2 x2 (Rep.lst upd_same (Reps.of_ints _))
          · cases q4
    | _ => exact p.elim
/-! ### dicts of the store -/
theorem sm_dctN : SimE fa X (.Dict [] [] pos) (fun _ S => .ok (.ref S.length) (S ++ [some (.dct [])])) := by
  refine ⟨fun W tk => PE.imp pe_dnewT fun σ H Q q => ?_⟩
  obtain ⟨env, S, F, ρ, s, e, p⟩ := q
  intro d hd
  obtain ⟨ρ2, e2, s2, x2⟩ := s.alloc hd (.dct .nil)
  exact p _ F _ ρ2 s2 x2 ⟨by simp, by rw [e2]⟩
theorem putD_rep {K : PySem.W.Frag} {F : Hp} {ρ : Nat → Addr} {n : Nat} {kvs : List (List Key × V)} {es : List (List Int × Val)} {ks : List Int} {x : V} {v : Val} (r : Paired (fun p q => p.1 = q.1.map Sum.inl ∧ RepV K fa F ρ n p.2 q.2) kvs es) (rx : RepV K fa F ρ n x v) :
    Paired (fun p q => p.1 = q.1.map Sum.inl ∧ RepV K fa F ρ n p.2 q.2) (putK kvs (ks.map Sum.inl) x) (putD es ks v) := by
  have inj : ∀ a b : List Int, (a.map Sum.inl : List Key) = b.map Sum.inl ↔ a = b := fun a b => by
    constructor
    · intro h
      induction a generalizing b with
      | nil =>
        cases b with
        | nil => rfl
        | cons _ _ => cases h
      | cons i a ih =>
        cases b with
        | nil => cases h
        | cons j b =>
          simp only [List.map_cons, List.cons.injEq, Sum.inl.injEq] at h
          rw [h.1, ih b h.2]
    · intro h; rw [h]
  have hany : (kvs.any fun kv => decide (kv.1 = ks.map Sum.inl)) = es.any fun p => decide (p.1 = ks) := by
    induction r with
    | nil => rfl
    | cons h1 h2 ih =>
      rw [List.any_cons, List.any_cons, ih, h1.1]
      congr 1
      exact decide_eq_decide.mpr (inj _ _)
  unfold putK putD
  rw [hany]
  split
  · rename_i hh
    clear hany hh
    induction r with
    | nil => exact .nil
    | @cons p q ps qs h1 h2 ih =>
      refine .cons ?_ ih
      obtain ⟨p1, p2⟩ := p
      obtain ⟨q1, q2⟩ := q
      dsimp only at h1 ⊢
      by_cases e : q1 = ks
      · rw [if_pos e, if_pos (by rw [h1.1, e])]
        exact ⟨h1.1, rx⟩
      · rw [if_neg e, if_neg (fun z => e ((inj _ _).mp (h1.1.symm.trans z)))]
        exact h1
  · have app : ∀ {a b : List (List Key × V)} {c d : List (List Int × Val)}, Paired (fun p q => p.1 = q.1.map Sum.inl ∧ RepV K fa F ρ n p.2 q.2) a c → Paired (fun p q => p.1 = q.1.map Sum.inl ∧ RepV K fa F ρ n p.2 q.2) b d → Paired (fun p q => p.1 = q.1.map Sum.inl ∧ RepV K fa F ρ n p.2 q.2) (a ++ b) (c ++ d) := by
      intro a b c d h1 h2
      induction h1 with
      | nil => exact h2
      | cons h _ ih => exact .cons h ih
    exact app r (.cons ⟨rfl, rx⟩ .nil)
theorem ints_kV (ks : List Int) : ((ks.map Sum.inl : List Key).map kV) = ks.map V.int := by
  rw [List.map_map]; rfl
theorem ss_setk {c : Expr} {mc : M Val} {es : List Expr} {mk : M (List Val)} {p2 p3 : Pos} {kk : Nat} (hu : X.A.units + 65 < cLine) (hc : SimE fa X c mc) (ha : SimE fa X a ma) (hk : SimA fa X es mk) (hcc : noComp c = true)
    (h1 : swappedStores [.Subscript a (.Tuple es kk p3) p2] c X.env = pure none) : SimS fa X (.Assign [.Subscript a (.Tuple es kk p3) p2] c pos)
    (fun env S => .ofR env (mc env S) fun v S1 => .ofR env (ma env S1) fun x S2 => .ofR env (mk env S2) fun kv S3 => setkV env x kv v S3) := by
  refine ⟨fun W tk => PS.imp (ps_asg (hc.run W tk) (pg_sub (ha.run W tk) (pe_tup (hk.run W tk)) (set_dict (by omega)) (fun v => rfl)) (noComp_ok hcc (some (.Subscript a (.Tuple es kk p3) p2)) pos.line X.env) h1 rfl) fun D σ H q => ?_⟩
  refine q.bind (rep := RepV X.K fa) fun env v S1 zv F1 H1 ρ1 s1 e1 r1 p1 => ?_
  refine ⟨env, S1, F1, ρ1, s1, e1, PostS.bind e1 p1 fun x S2 xv F2 H2 ρ2 s2 x2 r2 p2 => ?_⟩
  have e2 := e1.mono x2.fz x2.rho x2.len
  refine ⟨env, S2, F2, ρ2, s2, e2, PostS.bind (rep := RepVs X.K fa) e2 p2 fun kv S3 xs F3 H3 ρ3 s3 x3 r3 p3 => ?_⟩
  have e3 := e2.mono x3.fz x3.rho x3.len
  have x23 := x2.trans x3
  have rz := r1.mono x23.fz x23.rho x23.len
  have rx := r2.mono x3.fz x3.rho x3.len
  unfold setkV at p3
  cases x with
  | ref n =>
    obtain ⟨hn1, rfl⟩ := rx
    cases q1 : pureVs kv with
    | none => rw [q1] at p3; exact p3.elim
    | some ds =>
      rw [q1, Option.bind_some] at p3
      cases q2 : allI ds with
      | none => rw [q2] at p3; exact p3.elim
      | some ks =>
        rw [q2] at p3
        dsimp only at p3
        cases q3 : stGet S3 n with
        | none => rw [q3] at p3; exact p3.elim
        | some o =>
          rw [q3] at p3
          cases o with
          | lst _ => exact p3.elim
          | kv _ _ => exact p3.elim
          | dct en =>
            dsimp only at p3
            split at p3
            · rename_i hz
              have rk := r3.pure q1
              rw [allI_some q2] at rk
              have ek : xs = (ks.map Sum.inl : List Key).map kV := by rw [ints_kV]; exact rk.ints
              refine ⟨by rw [ek, List.length_map, List.length_map, sizeLine_eq]; omega, fun b hb => ?_⟩
              obtain ⟨s4, x4, sF⟩ := s3.grow (o := .tup xs) hb
              obtain ⟨ho, h2, rr⟩ := s4.obj n _ q3
              cases rr with
              | dct rr =>
                obtain ⟨s5, x5⟩ := s4.put q3 (RepO.dct (putD_rep (ks := ks) rr (rz.mono sF (fun _ _ => rfl) (Nat.le_refl _))))
                refine ⟨_, _, rfl, DPut.t (k := ks.map Sum.inl) h2 (by rw [upd_same, ek]) (by rw [Paired.length rr, ← sLine_eq]; exact hz.1), ?_⟩
                exact p3 σ _ _ ρ3 s5 (x4.trans x5) (by rw [List.length_set]; exact e3.mono sF (fun _ _ => rfl) (Nat.le_refl _))
            · exact p3.elim
  | _ => exact p3.elim
end
end MS

-- MsItm
/-! The pairs of a dict with tuples for keys. -/
namespace MS
open PySem PySem.Spec PyProof.Rows L2
/-- each pair a new tuple, the key as it lies in the dict -/
def ItiT (d : Addr) (o : Obj) (kvs : List (List Key × V)) : L2.It where
  go i H := H d = some (.frz o (.dT kvs)) ∧ i < kvs.length
  yld i H x H' := ∃ T k v q, kvs[i]? = some (k, v) ∧ x = .ref T ∧ H T = none ∧ H q = some (.tup (k.map kV)) ∧ H' = upd H T (.tup [.ref q, v])
  stop i H := H d = some (.frz o (.dT kvs)) ∧ kvs.length ≤ i
section
variable {X : Cx} {pins : List (Addr × Obj)} {σ : L2.St} {H : Hp} {s : Shared} {d : Addr} {o : Obj}
theorem frzT2 {kvs : List (List Key × V)} (I : Inv X pins σ H s) (h : H d = some (.frz o (.dT kvs))) :
    (d == sysModules) = false ∧ s.heap.get? d = some o ∧ (o.ExactDict ∧ kvs.length ≤ sizeLine) ∧ ∃ (es : Array DictEntry) (ep : Nat), o.data = .dict es ep ∧ es.size = kvs.length ∧
      ∀ (i : Nat) (k : List Key) (v : V), kvs[i]? = some (k, v) → ∃ (en : DictEntry) (q : Addr), es[i]? = some en ∧ en.key = .ref q ∧ H q = some (.tup (k.map kV)) ∧ RelV v en.val := by
  obtain ⟨g1, g2, g3, xs, g4, o', es, ep, g5, g6, g7, g8, g9⟩ := I.hok d _ h
  rw [g1] at g5
  cases g5
  have e1 : es.size = xs.length := size_of_entries g8
  have e2 : kvs.length = xs.length := Paired.length g4
  refine ⟨g3, g1, ⟨g6, g2⟩, es, ep, g7, e1.trans e2.symm, fun i k v e => ?_⟩
  obtain ⟨b, b1, b2, b3, b4⟩ := L2.paired_get g4 e
  have e3 := entry_at g8 i
  rw [b1] at e3
  exact ⟨_, b.2.1, e3, rfl, b3, b4⟩
end
section
variable {P : Program} {w : World} {K : PySem.W.Frag} {d : Addr} {o : Obj} {es : Array DictEntry} {ep : Nat}
theorem turn_itemsT {kvs : List (List Key × V)} {elts : List Expr} {kk : Nat} {tpos : Pos} (it : Addr) (hod : o.data = .dict es ep) :
    Turn P w K (.Tuple elts kk tpos) (ItiT d o kvs) [it] it (fun i h => ∃ ok ov, IsItemIter h it d i kvs.length ep ok ov) where
  mem := List.mem_singleton.mpr rfl
  obj := fun i h ⟨ok, ov, e⟩ b hb => by
    obtain rfl : b = it := List.mem_singleton.mp hb
    exact ⟨_, e, fun v z => nomatch z⟩
  keep := fun i h h' ⟨ok, ov, e⟩ k => ⟨ok, ov, k it (List.mem_singleton.mpr rfl) _ e⟩
  item := by
    intro X hP hw hK hc i pins s σ H E I hf st hg
    subst hP hw hK
    obtain ⟨hd, hi⟩ := hg
    obtain ⟨g1, g2, ⟨g3, gz⟩, es', ep', g4, g5, g6⟩ := frzT2 I hd
    obtain ⟨rfl, rfl⟩ := dict_ep hod g4
    obtain ⟨⟨k, v⟩, hkv⟩ : ∃ p, kvs[i]? = some p := ⟨_, List.getElem?_eq_getElem hi⟩
    obtain ⟨en, q, h1, h2, h3, h4⟩ := g6 i k v hkv
    obtain ⟨ok, ov, he⟩ := st
    rw [← g5] at he
    have hie : i < es'.size := by rw [g5]; exact hi
    have een : es'[i] = en := by
      rw [Array.getElem?_eq_getElem hie] at h1
      exact Option.some.inj h1
    have lt : it < s.heap.objs.size := Heap.lt_size he
    refine DT.nextI he ⟨o, g2, g3, g4⟩ hie fun h' ho hT hz hk => ?_
    refine ⟨_, rfl, wpAny_letOwnedTupleGo_items (s := { s with heap := h' }) ho fun h2' he' sb => ?_⟩
    have at2 : h2'.get? s.heap.objs.size = some { cls := .type "tuple", data := .seq #[es'[i].key, es'[i].val] } := (sb.2 _ (Nat.ne_of_gt lt)).trans hT
    rw [een, h2] at at2
    have nw : ObjOk X.prog X.w (upd H s.heap.objs.size (.tup [.ref q, v])) h2' s.heap.objs.size (.tup [.ref q, v]) :=
      ⟨by rw [sizeLine_eq]; simp, [.ref q, en.val], .cons rfl (.cons h4 .nil), ⟨_, at2, rfl, _, rfl⟩⟩
    have J : Inv X pins σ (upd H s.heap.objs.size (.tup [.ref q, v])) { s with heap := h2' } :=
      I.turnedNew (t' := s.toks) (ch := [it]) (fun b ob hb e => (sb.2 b (fun z => hb (List.mem_singleton.mpr z))).trans (hk b ob (fun z => hb (List.mem_singleton.mpr z)) e)) hf (Nat.le_refl _) nw
    refine ⟨.ref s.heap.objs.size, _, J, rfl, ⟨_, k, v, q, hkv, rfl, I.hok.fresh (Nat.le_refl _), h3, rfl⟩, ⟨es'[i].key, es'[i].val, ?_⟩, fun b hb => ?_⟩
    · rw [← g5]; exact he'
    · rw [List.mem_singleton.mp hb, upd_ne (Nat.ne_of_lt lt)]
      exact (hf it (List.mem_singleton.mpr rfl)).1
  done := by
    intro X hP hw hK hc i pins s σ H E I hf st hg
    subst hP hw hK
    obtain ⟨hd, hi⟩ := hg
    obtain ⟨f0, f1, f2, f3, f4, f5⟩ := hf it (List.mem_singleton.mpr rfl)
    obtain ⟨g1, g2, ⟨g3, gz⟩, es', ep', g4, g5, g6⟩ := frzT2 I hd
    obtain ⟨rfl, rfl⟩ := dict_ep hod g4
    obtain ⟨ok, ov, he⟩ := st
    rw [← g5] at he
    exact DT.endI (I.ok.hd hc) he ⟨o, g2, g3, g4⟩ (by rw [g5]; exact hi) fun h' eb => ⟨rfl, I.turned (t' := s.toks) (fun b ob hb e => eb b ob hb e) f0 f1 f3 f4 f5⟩
  self := fun A i s Q E ⟨_, _, e⟩ h => PySem.W.kcp_self e h
end
section
variable {X : Cx} {e : Expr} {td : TE} {apos cpos : Pos}
def iItemsT (td : TE) : TI := fun σ H R => td σ H fun x H1 => ∃ d kvs, x = .ref d ∧ H1 d = some (.dT kvs) ∧ ∀ o, kvs.length ≤ sizeLine → R (ItiT d o kvs) (upd H1 d (.frz o (.dT kvs)))
theorem pi_itemsT {elts : List Expr} {kk : Nat} {tpos : Pos} (he : PE X e td) (hb : attributeBase e "items" X.env (eval e X.env) = eval e X.env) (hl : (apos.endLine == cpos.line) = true) :
    PI X (.Tuple elts kk tpos) (.Call (.Attribute e "items" apos) [] [] cpos) (iItemsT td) := by
  refine ⟨fun pins s σ H R I h => ?_⟩
  refine wpAny_Call_method (T := "dict") (id := "dict.items") hb rfl hl F.plainAttrs_dict F.slot_dict_items F.type_dict_items (thn (he.run pins s σ H _ I h) fun u s1 ⟨x, H1, I0, rx, d, kvs, ex, hd0, q⟩ => ?_)
  subst ex
  cases rx
  obtain ⟨o, I1⟩ := I0.lock hd0 trivial
  have hd : upd H1 d (.frz o (.dT kvs)) d = some (.frz o (.dT kvs)) := upd_same
  obtain ⟨g1, g2, ⟨g3, gz⟩, es, ep, g4, g5, g6⟩ := frzT2 I1 hd
  have raw : DT.Raw s1.heap d es ep := ⟨o, g2, g3, g4⟩
  refine ⟨raw.typeIs, ?_, ?_⟩
  · intro b z
    cases z
    exact ⟨o, g2, g3.2.1⟩
  have I2 : Inv X pins σ (upd H1 d (.frz o (.dT kvs))) { s1 with heap := s1.heap.push { cls := .type "dict_items", data := .fields #[.ref d] } } := I1.kept (t' := s1.toks) fun b ob z => Heap.get?_push_of_some _ z
  have fin : wpAny (model X.prog X.w) X.A (pyIter (.ref s1.heap.objs.size)) (PIE X pins σ (.Tuple elts kk tpos) R) X.xe { s1 with heap := s1.heap.push { cls := .type "dict_items", data := .fields #[.ref d] } } := by
    refine DT.iterI (d := d) (es := es) (ep := ep) ⟨_, Heap.get?_push_size _ rfl, rfl, rfl⟩ (raw.push _) (pi_one (tk := s1.toks) I2 _ (turn_itemsT _ g4) ⟨.none, .none, ?_⟩ (q o gz))
    rw [← g5]
    exact Heap.get?_push_size _ rfl
  show wpAny _ _ (callWith cpos (.builtin "dict.items") [.ref d] [] []) _ X.xe s1
  exact method_meetsIn F.slot_dict_items F.entry_dict_items rfl (PySem.evalArgs_none ⟨rfl, raw.typeIs, F.args_dict_items_1 _, _, DT.meetsItems (es := es) (ep := ep) g1, raw, fin⟩)
theorem allO_get {α β : Type} {f : α → Option β} : ∀ {l : List α} {r : List β}, allO (l.map f) = some r → r.length = l.length ∧ ∀ (i : Nat) (y : β), r[i]? = some y → ∃ x, l[i]? = some x ∧ f x = some y
  | [], r, h => by simp [allO] at h; subst h; simp
  | a :: l, r, h => by
    rw [List.map_cons] at h
    cases q : f a with
    | none => rw [q] at h; simp [allO] at h
    | some b =>
      rw [q] at h
      simp only [allO] at h
      cases q2 : allO (l.map f) with
      | none => rw [q2] at h; cases h
      | some r' =>
        rw [q2] at h
        cases h
        obtain ⟨h1, h2⟩ := allO_get q2
        refine ⟨by simp [h1], fun i y hy => ?_⟩
        cases i with
        | zero => simp at hy; subst hy; exact ⟨a, by simp, q⟩
        | succ i => simp at hy ⊢; exact h2 i y hy
variable {fa : FA} {ma : M Val}
theorem si_items {elts : List Expr} {kk : Nat} {tpos : Pos} (ha : SimE fa X e ma) (h0 : notCall0 e = true) (hl : (apos.endLine == cpos.line) = true) :
    SimI fa X (.Tuple elts kk tpos) (.Call (.Attribute e "items" apos) [] [] cpos) (fun env S => (ma env S).bind fun v S1 => itemsDV S1 v) := by
  refine ⟨fun W tk => PI.imp (pi_itemsT (ha.run W tk) (attrBase h0 "items" X.env _) hl) fun σ H Q q => ?_⟩
  obtain ⟨env, S, F, ρ, s, e, p⟩ := q
  refine ⟨env, S, F, ρ, s, e, ?_⟩
  dsimp only at p
  cases q0 : ma env S with
  | stuck => rw [q0] at p; exact p
  | exc e S' => rw [q0] at p; exact p
  | ok v S1 =>
    rw [q0] at p
    simp only [R.bind_ok] at p
    intro x F1 H1 ρ1 s1 x1 r1
    unfold itemsDV at p
    cases v with
    | ref n =>
      obtain ⟨hn, rfl⟩ := r1
      dsimp only at p
      cases q1 : stGet S1 n with
      | none => rw [q1] at p; exact p.elim
      | some ob =>
        rw [q1] at p
        cases ob with
        | lst _ => exact p.elim
        | kv _ _ => exact p.elim
        | dct es =>
          dsimp only at p
          cases q2 : allO (es.map itemD) with
          | none => rw [q2] at p; exact p.elim
          | some ds =>
            rw [q2] at p
            obtain ⟨ho, h2, rr⟩ := s1.obj n _ q1
            cases rr with
            | @dct kvs es rr =>
              obtain ⟨l1, l2⟩ := allO_get q2
              have lk : kvs.length = es.length := Paired.length rr
              refine ⟨_, kvs, rfl, h2, fun o hz => ?_⟩
              have gl : ∀ m u, stGet (S1.set n none) m = some u → stGet S1 m = some u ∧ ρ1 m ≠ ρ1 n := fun m u h => by
                rw [stGet_set] at h
                split at h
                · cases h
                · rename_i z
                  refine ⟨h, fun e => z ?_⟩
                  have := s1.inj m n u _ h q1 e
                  subst this
                  exact ⟨rfl, hn⟩
              have s2 : Sim X.K fa F1 (upd H1 (ρ1 n) (.frz o (.dT kvs))) ρ1 (S1.set n none) := by
                refine ⟨fun a u h => ?_, fun m u h => s1.off m u (gl m u h).1, fun m u h => ?_, fun m k u w h h' e => s1.inj m k u w (gl m u h).1 (gl k w h').1 e⟩
                · rw [upd_ne (ne_of_none h (s1.off n _ q1))]; exact s1.sub a u h
                · obtain ⟨y, hy, ry⟩ := s1.obj m u (gl m u h).1
                  exact ⟨y, by rw [upd_ne (gl m u h).2]; exact hy, by rw [List.length_set]; exact ry⟩
              have x2 : Ext F1 H1 ρ1 S1 F1 (upd H1 (ρ1 n) (.frz o (.dT kvs))) ρ1 (S1.set n none) := by
                refine ⟨Same.refl _, fun _ _ => rfl, by rw [List.length_set]; exact Nat.le_refl _, fun a u h hx => ?_, fun a u h => ?_, fun m u h => .inl ⟨by have := stGet_lt h; rwa [List.length_set] at this, u, (gl m u h).1⟩, fun a u h => .inl (by rw [h]; intro z; cases z)⟩
                · rw [upd_ne (hx n _ q1)]; exact h
                · by_cases e : a = ρ1 n
                  · rw [e]; exact ⟨_, upd_same⟩
                  · exact ⟨u, by rw [upd_ne e]; exact h⟩
              refine p _ F1 _ ρ1 s2 (x1.trans x2) ⟨?_, fun b => if b = ρ1 n then some (.frz o (.dT kvs)) else none, fun b u h => ?_, fun m u h => ?_, ⟨fun i H' hk hi => ?_, fun H' hk => ?_, fun i H' y H'' v F' hk hF sF hv hy => ?_⟩⟩
              · show (ds.map Val.d).length ≤ _
                rw [List.length_map, l1, ← lk]; exact hz
              · dsimp only at h
                split at h
                · rename_i z; rw [z, upd_same]; exact h
                · cases h
              · exact if_neg (gl m u h).2
              · exact ⟨hk _ _ (if_pos rfl), by rw [lk, ← l1]; simpa using hi⟩
              · exact ⟨hk _ _ (if_pos rfl), by rw [lk, ← l1]; simp⟩
              · obtain ⟨T, k, w, q, hkv, rfl, hT, hq, rfl⟩ := hy
                rw [List.getElem?_map] at hv
                cases q3 : ds[i]? with
                | none => rw [q3] at hv; cases hv
                | some dd =>
                  rw [q3] at hv
                  cases hv
                  obtain ⟨⟨ek, ev⟩, he1, he2⟩ := l2 i dd q3
                  obtain ⟨en, hen, h3, h4⟩ := L2.paired_get rr hkv
                  rw [he1] at hen
                  cases hen
                  cases ev with
                  | d z =>
                    cases he2
                    dsimp only at h3 h4
                    refine ⟨upd (upd F' q (.tup (k.map kV))) T (.tup [.ref q, w]), .inr (.inr (.inl ⟨T, _, q, _, hT, hq, rfl, rfl⟩)), ?_⟩
                    have nqT : q ≠ T := ne_of_none hq hT
                    have fT : F' T = none := sF.free hT
                    have sF2 : Same F' (upd (upd F' q (.tup (k.map kV))) T (.tup [.ref q, w])) := fun b u hb => by
                      rw [upd_ne (ne_of_none hb fT)]
                      by_cases e : b = q
                      · subst e
                        have := sF _ _ hb
                        rw [hq] at this
                        cases this
                        exact upd_same
                      · rw [upd_ne e]; exact hb
                    refine Rep.tup upd_same (.cons (Rep.tup (by rw [upd_ne nqT, upd_same]) ?_) (.cons (Rep.mono (hF.trans sF2) h4) .nil))
                    rw [h3, ints_kV]
                    exact Reps.of_ints ek
                  | _ => cases he2
    | _ => exact p.elim
end
end MS

-- MsPrs
/-! sorted(set(xs)), xs a list of pairs of small ints. -/
namespace MS
open PySem PySem.Spec PyProof.Rows L2
/-! ### the pairs in order -/
theorem prLt_iff {p q : Int × Int} : prLt p q = true ↔ p.1 < q.1 ∨ (p.1 = q.1 ∧ p.2 < q.2) := by
  unfold prLt; simp
theorem prLt_trans {p q r : Int × Int} (a : prLt p q = true) (b : prLt q r = true) : prLt p r = true := by
  rw [prLt_iff] at *; omega
theorem mem_insP {x k : Int × Int} : ∀ {l : List (Int × Int)}, k ∈ insP x l ↔ k = x ∨ k ∈ l
  | [] => by simp [insP]
  | y :: r => by
    unfold insP
    split
    · simp
    · split
      · rename_i h1 h2
        subst h2
        simp
      · rw [List.mem_cons, mem_insP, List.mem_cons]
        constructor
        · rintro (h | h | h)
          · exact .inr (.inl h)
          · exact .inl h
          · exact .inr (.inr h)
        · rintro (h | h | h)
          · exact .inr (.inl h)
          · exact .inl h
          · exact .inr (.inr h)
theorem pw_insP {x : Int × Int} : ∀ {l : List (Int × Int)}, l.Pairwise (fun p q => prLt p q = true) → (insP x l).Pairwise (fun p q => prLt p q = true)
  | [], _ => by simp [insP]
  | y :: r, h => by
    obtain ⟨h1, h2⟩ := List.pairwise_cons.mp h
    unfold insP
    split
    · rename_i z
      refine List.pairwise_cons.mpr ⟨fun k hk => ?_, h⟩
      rcases List.mem_cons.mp hk with rfl | hk
      · exact z
      · exact prLt_trans z (h1 k hk)
    · split
      · exact h
      · rename_i z1 z2
        refine List.pairwise_cons.mpr ⟨fun k hk => ?_, pw_insP h2⟩
        rcases mem_insP.mp hk with rfl | hk
        · rw [prLt_iff] at z1 ⊢
          have : ¬ (k.1 = y.1 ∧ k.2 = y.2) := fun z => z2 (Prod.ext z.1 z.2)
          omega
        · exact h1 k hk
theorem mem_srtP {k : Int × Int} : ∀ {ns : List (Int × Int)}, k ∈ srtP ns ↔ k ∈ ns
  | [] => by simp [srtP]
  | n :: ns => by
    show k ∈ insP n (srtP ns) ↔ _
    rw [mem_insP, mem_srtP, List.mem_cons]
theorem pw_srtP : ∀ (ns : List (Int × Int)), (srtP ns).Pairwise (fun p q => prLt p q = true)
  | [] => List.Pairwise.nil
  | n :: ns => pw_insP (pw_srtP ns)
theorem prLt_irr {p : Int × Int} : ¬ prLt p p = true := by rw [prLt_iff]; omega
theorem prLt_asym {p q : Int × Int} (a : prLt p q = true) (b : prLt q p = true) : False := prLt_irr (prLt_trans a b)
theorem strictP_ext : ∀ {a b : List (Int × Int)}, a.Pairwise (fun p q => prLt p q = true) → b.Pairwise (fun p q => prLt p q = true) → (∀ k, k ∈ a ↔ k ∈ b) → a = b
  | [], [], _, _, _ => rfl
  | [], y :: b, _, _, h => by have := (h y).mpr (by simp); simp at this
  | x :: a, [], _, _, h => by have := (h x).mp (by simp); simp at this
  | x :: a, y :: b, ha, hb, h => by
    obtain ⟨a1, a2⟩ := List.pairwise_cons.mp ha
    obtain ⟨b1, b2⟩ := List.pairwise_cons.mp hb
    have e : x = y := by
      rcases List.mem_cons.mp ((h x).mp (by simp)) with z | z
      · exact z
      · rcases List.mem_cons.mp ((h y).mpr (by simp)) with w | w
        · exact w.symm
        · exact (prLt_asym (b1 x z) (a1 y w)).elim
    subst e
    rw [strictP_ext a2 b2 fun k => ⟨fun z => ?_, fun z => ?_⟩]
    · rcases List.mem_cons.mp ((h k).mp (by simp [z])) with w | w
      · subst w; exact (prLt_irr (a1 _ z)).elim
      · exact w
    · rcases List.mem_cons.mp ((h k).mpr (by simp [z])) with w | w
      · subst w; exact (prLt_irr (b1 _ z)).elim
      · exact w
def smallP (p : Int × Int) : Prop := (0 ≤ p.1 ∧ p.1 < 64) ∧ 0 ≤ p.2 ∧ p.2 < 64
section
variable {X : Cx} {fa : FA} {a : Expr} {ma : M Val} {pos : Pos}
def tSrtP (K : PySem.W.Frag) (ta : TE) : TE := fun σ H Q => ta σ H fun x H1 => ∃ (l : Addr) (ks : List (Addr × Int × Int)), x = .ref l ∧ SqL K H1 l (ks.map fun p => V.ref p.1) ∧ (∀ p ∈ ks, SqT K H1 p.1 [V.int p.2.1, V.int p.2.2] ∧ smallP p.2) ∧ ks.length < 64 ∧
  ∀ (b : Addr) (o : HO) (p : Addr) (L : List (Addr × Int × Int)), H1 b = none → upd H1 b o p = none → L.map (·.2) = srtP (ks.map (·.2)) → (∀ q ∈ L, q ∈ ks) → Q (.ref p) (upd (upd H1 b o) p (.lst (L.map fun q => V.ref q.1)))
theorem pe_srtP {p p2 q : Pos} {ta : TE} (hg : Gl X "sorted") (hm : X.mg "sorted" = none) (hg2 : Gl X "set") (hm2 : X.mg "set" = none) (ha : PE X a ta) (hc : X.calm = true) (hu : X.A.units + 65 < cLine) (hn : noStar a = true) :
    PE X (.Call (.Name "sorted" p) [.Call (.Name "set" p2) [a] [] q] [] pos) (tSrtP X.K ta) := by
  have na : starEach [a] X.env = (false, eval a X.env) :: starEach [] X.env := starEach_cons hn _ _
  refine ⟨fun pins s σ H Q I h => Call_ (ld_blt I hg hm boot_sorted (PyProof.Rows.callWith_builtin1 (PyProof.Rows.args_cons (Call_ (ld_blt I hg2 hm2 boot_set ?_)) rfl) rfl rfl))⟩
  refine PyProof.Rows.callWith_type1 (PyProof.Rows.args_cons (thn (ha.run pins s σ H _ I h) fun v s1 ⟨x, H1, I1, r1, q1⟩ => PyProof.Rows.args_nil ?_) na) na rfl
  obtain ⟨l, ks, rfl, hq, hk, hl, q1⟩ := q1
  have hk' : ∀ r ∈ ks.map (fun p => (p.1, [p.2.1, p.2.2])), ∃ p ∈ ks, r = (p.1, [p.2.1, p.2.2]) := fun r hr => by
    obtain ⟨p, hp, rfl⟩ := List.mem_map.mp hr
    exact ⟨p, hp, rfl⟩
  refine thn (cr_setOfT hc (by omega) pins s1 σ H1 [.ref l] [v] (fun y H2 => ∃ (b : Addr) (L : List (Addr × List Int)), y = .ref b ∧ H1 b = none ∧ (∀ p ∈ L, p ∈ ks.map (fun p => (p.1, [p.2.1, p.2.2]))) ∧ (∀ p ∈ ks, [p.2.1, p.2.2] ∈ L.map (·.2)) ∧ H2 = upd H1 b (SetTO X.prog X.w b L)) I1 (.cons r1 .nil)
    ⟨l, ks.map (fun p => (p.1, [p.2.1, p.2.2])), rfl, by rw [List.map_map]; exact hq, fun r hr => by
      obtain ⟨p, hp, rfl⟩ := hk' r hr
      exact (hk p hp).1, by rw [List.length_map]; exact hl, fun b L hb h1 h2 => ⟨b, L, rfl, hb, h1, fun p hp => h2 (p.1, [p.2.1, p.2.2]) (List.mem_map.mpr ⟨p, hp, rfl⟩), rfl⟩⟩) fun v2 s2 ⟨y, H2, I2, r2, b, L, ey, hb, h1, h2, e2⟩ => PyProof.Rows.args_nil ?_
  subst ey e2
  have sm : Same H1 (upd H1 b (SetTO X.prog X.w b L)) := fun c u z => by rw [upd_ne (ne_of_none z hb)]; exact z
  refine cr_sortedT hc pins s2 σ _ [.ref b] [v2] Q I2 (.cons r2 .nil) ⟨b, L, 2, 64, rfl, upd_same, fun r hr => ?_, by decide, fun r hr => ?_, fun L' p' pm nd l64 pw hp' => ?_⟩
  · obtain ⟨p, hp, rfl⟩ := hk' r (h1 r hr)
    exact SqT.mono sm (hk p hp).1
  · obtain ⟨p, hp, rfl⟩ := hk' r (h1 r hr)
    obtain ⟨_, ⟨b1, b2⟩, b3, b4⟩ := hk p hp
    refine ⟨rfl, fun n hn => ?_⟩
    simp only [List.mem_cons, List.not_mem_nil, or_false] at hn
    rcases hn with rfl | rfl
    · exact ⟨b1, b2⟩
    · exact ⟨b3, b4⟩
  · have back : ∀ r ∈ L', ∃ p ∈ ks, r = (p.1, [p.2.1, p.2.2]) := fun r hr => hk' r (h1 r (pm.mem_iff.mp hr))
    have hL : ∀ r ∈ L', (r.1, r.2.headD 0, r.2.getD 1 0) ∈ ks ∧ r.2 = [r.2.headD 0, r.2.getD 1 0] := fun r hr => by
      obtain ⟨p, hp, rfl⟩ := back r hr
      exact ⟨hp, rfl⟩
    have e1 : (L'.map fun q => V.ref q.1) = (L'.map fun r => (r.1, r.2.headD 0, r.2.getD 1 0)).map fun q => V.ref q.1 := by rw [List.map_map]; rfl
    rw [e1]
    refine q1 b _ p' (L'.map fun r => (r.1, r.2.headD 0, r.2.getD 1 0)) hb hp' (strictP_ext ?_ (pw_srtP _) fun k => ?_) fun r hr => ?_
    · rw [List.map_map, List.pairwise_map]
      rw [List.Nodup, List.pairwise_map] at nd
      have pw2 := pw.and nd
      refine pw2.imp_of_mem fun {r t} hr ht z => ?_
      obtain ⟨p, hp, rfl⟩ := back r hr
      obtain ⟨p2, hp2, rfl⟩ := back t ht
      obtain ⟨_, c1, c2⟩ := hk p hp
      obtain ⟨_, c3, c4⟩ := hk p2 hp2
      exact prLt_iff.mpr (pair_lt z.1 z.2 c1 c2 c3 c4)
    · rw [mem_srtP]
      constructor
      · intro z
        obtain ⟨r, hr, rfl⟩ := List.mem_map.mp z
        obtain ⟨t, ht, rfl⟩ := List.mem_map.mp hr
        exact List.mem_map.mpr ⟨_, (hL t ht).1, rfl⟩
      · intro z
        obtain ⟨p, hp, rfl⟩ := List.mem_map.mp z
        obtain ⟨t, ht, et⟩ := List.mem_map.mp (h2 p hp)
        refine List.mem_map.mpr ⟨_, List.mem_map.mpr ⟨t, pm.mem_iff.mpr ht, rfl⟩, ?_⟩
        rw [et]; rfl
    · obtain ⟨t, ht, rfl⟩ := List.mem_map.mp hr
      exact (hL t ht).1
theorem isPr_some {d : D} {p : Int × Int} (h : isPr d = some p) : d = .tuple [.int p.1, .int p.2] ∧ smallP p := by
  unfold isPr at h
  split at h
  · split at h
    · rename_i z
      cases h
      exact ⟨rfl, ⟨z.1, z.2.1⟩, z.2.2⟩
    · cases h
  · cases h
theorem prs_rep {K : PySem.W.Frag} {F : Hp} : ∀ {xs : List V} {ds : List D} {ps : List (Int × Int)}, Reps K F xs ds → allO (ds.map isPr) = some ps → ∃ ks : List (Addr × Int × Int), xs = ks.map (fun p => V.ref p.1) ∧ ps = ks.map (·.2) ∧ ∀ p ∈ ks, F p.1 = some (.tup [V.int p.2.1, V.int p.2.2]) ∧ smallP p.2
  | _, _, ps, .nil, e => by
    simp [allO] at e; subst e
    exact ⟨[], rfl, rfl, fun _ z => nomatch z⟩
  | _, _, ps, .cons (d := d) (ds := ds) h r, e => by
    rw [List.map_cons] at e
    cases q : isPr d with
    | none => rw [q] at e; simp [allO] at e
    | some p =>
      rw [q] at e
      simp only [allO] at e
      cases q2 : allO (ds.map isPr) with
      | none => rw [q2] at e; cases e
      | some ps' =>
        rw [q2] at e
        cases e
        obtain ⟨ks, e1, e2, e3⟩ := prs_rep r q2
        obtain ⟨rfl, sp⟩ := isPr_some q
        cases h with
        | @tup b ys _ h rr =>
          have : ys = [V.int p.1, V.int p.2] := Reps.ints (ns := [p.1, p.2]) rr
          subst this
          refine ⟨(b, p) :: ks, by rw [e1]; rfl, by rw [e2]; rfl, fun z hz => ?_⟩
          rcases List.mem_cons.mp hz with rfl | hz
          · exact ⟨h, sp⟩
          · exact e3 z hz
theorem rep_prs {K : PySem.W.Frag} {F : Hp} : ∀ {L : List (Addr × Int × Int)}, (∀ p ∈ L, F p.1 = some (.tup [V.int p.2.1, V.int p.2.2])) → Reps K F (L.map fun q => V.ref q.1) ((L.map (·.2)).map prD)
  | [], _ => .nil
  | p :: L, h => .cons (.tup (h p (List.mem_cons_self ..)) (.cons (.int _) (.cons (.int _) .nil))) (rep_prs fun q hq => h q (List.mem_cons_of_mem _ hq))
theorem sm_srtP {p p2 q : Pos} (hg : Gl X "sorted") (hm : X.mg "sorted" = none) (hg2 : Gl X "set") (hm2 : X.mg "set" = none) (ha : SimE fa X a ma) (hc : X.calm = true) (hu : X.A.units + 65 < cLine) (hn : noStar a = true) :
    SimE fa X (.Call (.Name "sorted" p) [.Call (.Name "set" p2) [a] [] q] [] pos) (fun env S => (ma env S).bind fun x S1 => srtPV S1 x) := by
  refine ⟨fun W tk => PE.imp (pe_srtP hg hm hg2 hm2 (ha.run W tk) hc hu hn) fun σ H Q q => ?_⟩
  refine q.bind (rep := RepV X.K fa) fun env v S1 x F1 H1 ρ1 s1 e1 r1 p => ?_
  unfold srtPV at p
  cases q3 : view S1 v with
  | none => rw [q3] at p; exact p.elim
  | some d =>
    rw [q3] at p
    cases d with
    | list ds =>
      dsimp only at p
      cases q4 : allO (ds.map isPr) with
      | none => rw [q4] at p; exact p.elim
      | some ps =>
        rw [q4] at p
        dsimp only at p
        split at p
        · rename_i hz
          obtain ⟨l, xs', rfl, h1, rr⟩ := (s1.view r1 q3).list s1.sub
          obtain ⟨ks, e2, e3, e4⟩ := prs_rep rr q4
          subst e2 e3
          refine ⟨l, ks, rfl, SqL.of h1, fun p hp => ⟨SqT.of (s1.sub _ _ (e4 p hp).1), (e4 p hp).2⟩, by simpa using hz, fun b o p' L hb hp' eL mL => ?_⟩
          obtain ⟨s2, x2⟩ := s1.junk (o := o) hb
          obtain ⟨s3, x3, sF⟩ := s2.grow (o := .lst (L.map fun q => V.ref q.1)) hp'
          refine p _ _ _ ρ1 s3 (x2.trans x3) (Rep.lst upd_same ?_)
          rw [← eL]
          exact (rep_prs fun z hz => (e4 z (mL z hz)).1).mono sF
        · exact p.elim
    | _ => exact p.elim
end
end MS

-- MsCal
/-! A call of one def out of a list: [f, g, h][i](x). -/
namespace MS
open PySem PySem.Spec PyProof.Rows L2
section
variable {X : Cx} {fa : FA} {pos : Pos} {nm : Nat → Str} {ps : Nat → List Str} {I : List Nat} {C : Runner} {k : Nat}
/-- the names of these defs -/
def defsB (nm : Nat → Str) : List Nat → List Expr → Bool
  | [], [] => true
  | f :: fs, .Name x _ :: es => decide (x = nm f) && defsB nm fs es
  | _, _ => false
def tDefs (fa : FA) (fs : List Nat) : TA := fun σ H Q => Q (fs.map fun f => V.ref (fa f)) H
theorem pe_def {i : Nat} {p : Pos} (L : Lib X fa nm ps I C k) (hi : i ∈ I) (hg : Gl X (nm i)) (hdb : (nm i == ("__debug__" : Str)) = false) : PE X (.Name (nm i) p) (fun σ H Q => Q (.ref (fa i)) H) :=
  ⟨fun pins s σ H Q J h => ld_glob J hg (L.mg i hi) ⟨.ref (fa i), H, J, rfl, h⟩ hdb⟩
theorem pa_defs (L : Lib X fa nm ps I C k) : ∀ {fs : List Nat} {es : List Expr}, defsB nm fs es = true → (∀ f ∈ fs, f ∈ I ∧ Gl X (nm f) ∧ (nm f == ("__debug__" : Str)) = false) → PA X es (tDefs fa fs)
  | [], [], _, _ => PA.imp pa_nil fun σ H Q q => q
  | [], _ :: _, h, _ => by simp [defsB] at h
  | _ :: _, [], h, _ => by simp [defsB] at h
  | f :: fs, e :: es, h, hI => by
    cases e with
    | Name x p =>
      simp only [defsB, Bool.and_eq_true, decide_eq_true_eq] at h
      obtain ⟨rfl, h2⟩ := h
      obtain ⟨i1, i2, i3⟩ := hI f (List.mem_cons_self ..)
      exact PA.imp (pa_cons (pe_def (p := p) L i1 i2 i3) (pa_defs L h2 fun g hg => hI g (List.mem_cons_of_mem _ hg)) (starEach_cons rfl _ _)) fun σ H Q q => q
    | _ => simp [defsB] at h
theorem atD_map {α β : Type} (f : α → β) (xs : List α) (i : Int) : atD (xs.map f) i = (atD xs i).map f := by
  unfold atD
  rw [List.length_map]
  cases ixOf xs.length i with
  | none => rfl
  | some j => simp
theorem mem_atD {α : Type} {xs : List α} {i : Int} {x : α} (h : atD xs i = some x) : x ∈ xs := by
  unfold atD at h
  cases q : ixOf xs.length i with
  | none => rw [q] at h; cases h
  | some j => rw [q] at h; exact List.mem_of_getElem? h
theorem sm_callL {fs : List Nat} {nes : List Expr} {ie e : Expr} {es : List Expr} {mi : M Val} {ms : M (List Val)} {p1 p2 : Pos} (L : Lib X fa nm ps I C k) (hd : defsB nm fs nes = true) (hI : ∀ f ∈ fs, f ∈ I ∧ Gl X (nm f) ∧ (nm f == ("__debug__" : Str)) = false) (hl : fs.length ≤ 1000)
    (hr : Room k X.A) (hgu : X.A.guards = some []) (hi : SimE fa X ie mi) (hsl : noSlice ie = true) (ha : SimA fa X (e :: es) ms) (hs : (e :: es).all noStar = true) :
    SimE fa X (.Call (.Subscript (.List nes p1) ie p2) (e :: es) [] pos) (fun env S => (mi env S).bind fun y S1 => match pickF fs y with | some f => (ms env S1).bind fun vs S2 => C f vs S2 | none => .stuck) := by
  rw [List.all_cons, Bool.and_eq_true] at hs
  refine ⟨fun W tk => ⟨fun pins s σ H Q J q => Call_ ?_⟩⟩
  obtain ⟨env, S, F, ρ, s0, e0, p⟩ := q
  have h1 : tOp (rIxL X.K) (tLst (tDefs fa fs)) (rdE X.K fa W mi) σ H (fun v H2 => ∃ f, f ∈ fs ∧ v = .ref (fa f) ∧ rdE X.K fa W (fun env S => (ms env S).bind fun vs S1 => C f vs S1) σ H2 Q) := by
    refine ⟨by rw [List.length_map, sizeLine_eq]; omega, fun a hz => ?_⟩
    obtain ⟨s1, x1⟩ := s0.junk (o := .lst (fs.map fun f => V.ref (fa f))) hz
    refine ⟨env, S, F, ρ, s1, e0, ?_⟩
    have p' := Post.shift x1 p
    dsimp only at p'
    cases q0 : mi env S with
    | stuck => rw [q0] at p'; exact p'
    | exc e S' => rw [q0] at p'; exact p'
    | ok y S1 =>
      rw [q0] at p'
      simp only [R.bind_ok] at p'
      intro yv F2 H2 ρ2 s2 x2 r2
      have p2 := Post.shift x2 p'
      unfold pickF at p2
      cases y with
      | d d =>
        cases d with
        | int j =>
          cases (show Rep X.K F2 yv (.int j) from r2)
          dsimp only at p2
          cases q1 : atD fs j with
          | none => rw [q1] at p2; exact p2.elim
          | some f =>
            rw [q1] at p2
            have fr : H2 a = some (.lst (fs.map fun f => V.ref (fa f))) := x2.frame a _ upd_same fun n u hu ea => by
              obtain ⟨o, ho, _⟩ := s0.obj n u hu
              rw [← ea, hz] at ho
              cases ho
            refine ⟨a, _, j, .ref (fa f), rfl, rfl, SqL.of fr, ?_, f, mem_atD q1, rfl, env, S1, F2, ρ2, s2, e0.mono x2.fz x2.rho x2.len, p2⟩
            have := atD_map (fun f => V.ref (fa f)) fs j
            rw [q1] at this
            exact this
        | _ => exact p2.elim
      | _ => exact p2.elim
  refine thn ((pe_ix ix_list (pe_lst (pa_defs L hd hI)) (hi.run W tk) (noSlice_ok hsl)).run pins s σ H _ J h1) fun fv s1 ⟨x, H1, J1, r1, f, hf, ex, q1⟩ => ?_
  subst ex
  cases r1
  obtain ⟨i1, i2, i3⟩ := hI f hf
  obtain ⟨fd, hb, Fn⟩ := L.fn f i1
  exact PySem.W.callWith_K (h₀ := X.base) J1.ok.mod.kin (L.kp f i1) (thn ((ha.run W tk).run pos pins s1 σ H1 _ J1 (rd_call q1)) fun us s2 ⟨vs, H2, J2, r, q⟩ => ⟨J2.kIn, run_G (E := WE W) Fn hr hgu hb (passAt tk σ) J2 r q⟩) (starEach_cons hs.1 _ _) (starEach_plain es X.env pos hs.2)
end
end MS

-- MsDgt
/-! Dicts of the store, asked and copied: keys are tuples of ints. -/
namespace MS
open PySem PySem.Spec PyProof.Rows L2
theorem inl_inj : ∀ {a b : List Int}, (a.map Sum.inl : List Key) = b.map Sum.inl → a = b
  | [], [], _ => rfl
  | [], _ :: _, h => by cases h
  | _ :: _, [], h => by cases h
  | i :: a, j :: b, h => by
    simp only [List.map_cons, List.cons.injEq, Sum.inl.injEq] at h
    rw [h.1, inl_inj h.2]
abbrev PrD (K : PySem.W.Frag) (fa : FA) (F : Hp) (ρ : Nat → Addr) (n : Nat) (kvs : List (List Key × V)) (es : List (List Int × Val)) : Prop := Paired (fun p q => p.1 = q.1.map Sum.inl ∧ RepV K fa F ρ n p.2 q.2) kvs es
theorem look_rep {K : PySem.W.Frag} {fa : FA} {F : Hp} {ρ : Nat → Addr} {n : Nat} {kvs : List (List Key × V)} {es : List (List Int × Val)} (r : PrD K fa F ρ n kvs es) (ks : List Int) :
    (∀ v, lookD es ks = some v → ∃ x, valV kvs (ks.map Sum.inl) = some x ∧ RepV K fa F ρ n x v) ∧ (lookD es ks = none → valV kvs (ks.map Sum.inl) = none) := by
  induction r with
  | nil => exact ⟨fun v h => by simp [lookD] at h, fun _ => rfl⟩
  | @cons p q ps qs h1 h2 ih =>
    obtain ⟨p1, p2⟩ := p
    obtain ⟨q1, q2⟩ := q
    dsimp only at h1
    unfold lookD valV at *
    simp only [List.find?_cons]
    by_cases e : q1 = ks
    · rw [decide_eq_true e, decide_eq_true (show p1 = ks.map Sum.inl by rw [h1.1, e])]
      exact ⟨fun v h => by cases h; exact ⟨p2, rfl, h1.2⟩, fun h => by cases h⟩
    · rw [decide_eq_false e, decide_eq_false (show ¬ p1 = ks.map Sum.inl from fun z => e (inl_inj (h1.1.symm.trans z)))]
      exact ih
theorem key_rep {K : PySem.W.Frag} {fa : FA} {F : Hp} {ρ : Nat → Addr} {n : Nat} {y : V} {v : Val} {ks : List Int} (r : RepV K fa F ρ n y v) (e : keyV v = some ks) : ∃ b, y = .ref b ∧ F b = some (.tup ((ks.map Sum.inl : List Key).map kV)) := by
  unfold keyV at e
  split at e
  · rename_i ds
    have r' : Rep K F y (.tuple ds) := r
    cases r' with
    | tup h rr =>
      rw [allI_some e] at rr
      refine ⟨_, rfl, ?_⟩
      rw [h, ints_kV, rr.ints]
  · cases e
/-- a dict whose keys are tuples; an empty one, of whatever kind -/
def TRd (H : Hp) (a : Addr) (kvs : List (List Key × V)) : Prop := Rd H a (.dT kvs) ∨ (kvs = [] ∧ ∃ o, H a = some (.frz o (.dK [])))
theorem decT_zip {K : PySem.W.Frag} {fa : FA} {F : Hp} {ρ : Nat → Addr} {n : Nat} : ∀ {ks : List (List Int)} {xs : List V} {ds : List D}, ks.length = xs.length → Reps K F xs ds → decT ((ks.map tupI).zip ds) = some (ks.zip (ds.map Val.d)) ∧ PrD K fa F ρ n ((ks.map fun q => (q.map Sum.inl : List Key)).zip xs) (ks.zip (ds.map Val.d))
  | [], _, _, l, .nil => ⟨rfl, .nil⟩
  | k :: ks, _, _, l, .cons h r => by
    obtain ⟨h1, h2⟩ := decT_zip (fa := fa) (ρ := ρ) (n := n) (ks := ks) (by simpa using l) r
    refine ⟨?_, .cons ⟨rfl, h⟩ h2⟩
    simp only [List.map_cons, List.zip_cons_cons]
    unfold tupI
    simp only [decT, allI_map]
    have h1' : decT ((ks.map tupI).zip _) = _ := h1
    unfold tupI at h1'
    rw [h1']; rfl
  | _ :: _, _, _, l, .nil => by simp at l
  | [], _, _, l, .cons _ _ => by simp at l
theorem dct_at {K : PySem.W.Frag} {fa : FA} {F H : Hp} {ρ : Nat → Addr} {S : Sto} {x : V} {v : Val} {es : List (List Int × Val)} (s : Sim K fa F H ρ S) (r : RepV K fa F ρ S.length x v) (e : dctV S v = some es) :
    ∃ a kvs, x = .ref a ∧ TRd H a kvs ∧ PrD K fa F ρ S.length kvs es := by
  unfold dctV at e
  cases v with
  | ref n =>
    dsimp only at e
    obtain ⟨h1, rfl⟩ := r
    cases q : stGet S n with
    | none => rw [q] at e; cases e
    | some o =>
      rw [q] at e
      cases o with
      | lst _ => cases e
      | kv _ _ => cases e
      | dct es' =>
        cases e
        obtain ⟨h, h2, rr⟩ := s.obj n _ q
        cases rr with
        | dct rr => exact ⟨_, _, rfl, .inl (.inl h2), rr⟩
  | d d =>
    cases d with
    | dict des =>
      dsimp only at e
      have r' : Rep K F x (.dict des) := r
      cases r' with
      | dct h l rr =>
        rename_i a o ks xs ds
        cases ks with
        | nil =>
          cases xs with
          | nil =>
            simp only [List.map_nil, List.zip_nil_left, decT] at e
            cases e
            exact ⟨a, [], rfl, .inr ⟨rfl, o, s.sub _ _ h⟩, .nil⟩
          | cons _ _ => simp at l
        | cons k ks =>
          cases xs with
          | nil => simp at l
          | cons x xs =>
            cases rr with
            | cons r1 rr =>
              simp only [List.map_cons, List.zip_cons_cons] at e
              cases k <;> simp [kD, decT] at e
      | dT h l rr =>
        obtain ⟨h1, h2⟩ := decT_zip (fa := fa) (ρ := ρ) (n := S.length) l rr
        rw [h1] at e
        cases e
        exact ⟨_, _, rfl, .inl (.inr ⟨_, s.sub _ _ h⟩), h2⟩
    | _ => cases e
  | _ => cases e
/-! ### asked -/
section
variable {P : Program} {w : World} {H : Hp} {h : Heap} {a : Addr}
theorem dt_rdX {kvs : List (List Key × V)} (ok : HOk P w H h) (e : TRd H a kvs) : kvs.length ≤ sizeLine ∧ (a == sysModules) = false ∧ ∃ xs, KT H kvs xs ∧ h.DictOfH (tupleKind (mixKind P w)) a xs := by
  rcases e with e | ⟨rfl, o, e⟩
  · exact dt_rd ok e
  · obtain ⟨z, y, vs, rel, ob, es, ep, h1, h2, h3, _, h5, _⟩ := dk_rd ok (.inr ⟨o, e⟩)
    cases rel
    refine ⟨by simp, y, [], .nil, ob, es, ep, h1, h2, h3, ?_, (fun x hx => nomatch hx), List.nodup_nil⟩
    cases q : es.toList with
    | nil => rfl
    | cons _ _ => rw [q] at h5; cases h5
end
/-- what the dict at a holds at the key y -/
def TGet (H : Hp) (a : Addr) (y : V) (r : Option V) : Prop := ∃ kvs k b, TRd H a kvs ∧ y = .ref b ∧ H b = some (.tup (k.map kV)) ∧ r = valV kvs k
section
variable {X : Cx} {pins : List (Addr × Obj)} {σ : L2.St} {H : Hp} {s : Shared} {a : Addr} {y v d : V} {u r : Value} {o : Option V} {A : Around} {E : Value → Shared → Prop}
theorem trd_typeIs {kvs : List (List Key × V)} (I : Inv X pins σ H s) (g : TRd H a kvs) : s.TypeIs (.ref a) "dict" := by
  obtain ⟨_, _, xs, _, dd⟩ := dt_rdX I.hok g
  exact dd.typeIs
theorem trd_noDict {kvs : List (List Key × V)} (I : Inv X pins σ H s) (g : TRd H a kvs) : ∀ b, Value.ref a = .ref b → ∃ ob, s.heap.get? b = some ob ∧ ob.dict = none := fun b q => by
  cases q
  obtain ⟨_, _, xs, _, ob, _, _, h1, h2, _⟩ := dt_rdX I.hok g
  exact ⟨ob, h1, h2.2.1⟩
theorem t_getItem {Q : Value → Shared → Prop} (hu : A.units + 1 < cLine) (I : Inv X pins σ H s) (g : TGet H a y (some v)) (ry : RelV y u) (h : ∀ w' s', Inv X pins σ H s' → RelV v w' → Q w' s') :
    wpAny (model X.prog X.w) A (getItem (.ref a) u) Q E s := by
  obtain ⟨kvs, k, b, e, ey, eb, l⟩ := g
  subst ey
  cases (show u = Value.ref b from ry)
  obtain ⟨z, hd, xs, rel, dd⟩ := dt_rdX I.hok e
  obtain ⟨w', hw, rw'⟩ := RelO.some_of (v := v) (o := (atKey xs k).map (·.2)) (by rw [l]; exact rel.val k)
  obtain ⟨p, hp, hp2⟩ := Option.map_eq_some_iff.mp hw
  refine wpAny_getItem_heap (tupleKind_room_in1 hu) (key_of I.hok eb) dd hp ?_
  rw [hp2]
  exact h w' _ (I.tok _) rw'
theorem t_in {Q : Value → Shared → Prop} (hu : A.units + 1 < cLine) (I : Inv X pins σ H s) (g : TGet H a y o) (ry : RelV y u) (h : ∀ s', Inv X pins σ H s' → Q (.bool o.isSome) s') :
    wpAny (model X.prog X.w) A (compareOp .In u (.ref a)) Q E s := by
  obtain ⟨kvs, k, b, e, ey, eb, l⟩ := g
  subst ey
  cases (show u = Value.ref b from ry)
  obtain ⟨z, hd, xs, rel, dd⟩ := dt_rdX I.hok e
  refine wpAny_in_heap (tupleKind_room_in1 hu) (key_of I.hok eb) hd dd ?_
  have q := (rel.val k).isSome_eq
  rw [Option.isSome_map] at q
  rw [← q, ← l]
  exact h _ (I.tok _)
theorem t_notIn {Q : Value → Shared → Prop} (hu : A.units + 1 < cLine) (I : Inv X pins σ H s) (g : TGet H a y o) (ry : RelV y u) (h : ∀ s', Inv X pins σ H s' → Q (.bool (!o.isSome)) s') :
    wpAny (model X.prog X.w) A (compareOp .NotIn u (.ref a)) Q E s := by
  obtain ⟨kvs, k, b, e, ey, eb, l⟩ := g
  subst ey
  cases (show u = Value.ref b from ry)
  obtain ⟨z, hd, xs, rel, dd⟩ := dt_rdX I.hok e
  refine wpAny_notIn_heap (tupleKind_room_in1 hu) (key_of I.hok eb) hd dd ?_
  have q := (rel.val k).isSome_eq
  rw [Option.isSome_map] at q
  rw [← q, ← l]
  exact h _ (I.tok _)
theorem t_get2 {Q : Value → Shared → Prop} (hu : A.units + 1 < cLine) (I : Inv X pins σ H s) (g : TGet H a y o) (ry : RelV y u) (rd : RelV d r) (h : ∀ w' s', Inv X pins σ H s' → RelV (o.getD d) w' → Q w' s') :
    wpAny (model X.prog X.w) A (call (.builtin "dict.get") [.ref a, u, r]) Q E s := by
  obtain ⟨kvs, k, b, e, ey, eb, l⟩ := g
  subst ey
  cases (show u = Value.ref b from ry)
  obtain ⟨z, hd, xs, rel, dd⟩ := dt_rdX I.hok e
  refine call_meetsIn PySem.F.slot_dict_get dd.typeIs PySem.F.entry_dict_get (PySem.F.args_dict_get_3 _ _ _) (meetsH_dict_get_default (tupleKind (mixKind X.prog X.w)) a b hd r) ⟨tupleKind_room_in1 hu, k, xs, key_of I.hok eb, dd, h _ _ (I.tok _) ?_⟩
  rw [l]
  exact (rel.val k).getD rd
end
def tTGet (td ty : TE) : TE := fun σ H Q => td σ H fun x H1 => ty σ H1 fun y H2 => ∃ a v, x = .ref a ∧ TGet H2 a y (some v) ∧ Q v H2
def tTIn (ty td : TE) : TE := fun σ H Q => ty σ H fun y H1 => td σ H1 fun x H2 => ∃ a o, x = .ref a ∧ TGet H2 a y o ∧ Q (.bl o.isSome) H2
def tTNotIn (ty td : TE) : TE := fun σ H Q => ty σ H fun y H1 => td σ H1 fun x H2 => ∃ a o, x = .ref a ∧ TGet H2 a y o ∧ Q (.bl (!o.isSome)) H2
def tTGet2 (td ty tx : TE) : TE := fun σ H Q => td σ H fun x H1 => ∃ a kvs, x = .ref a ∧ TRd H1 a kvs ∧ ty σ H1 fun y H2 => tx σ H2 fun z H3 => ∃ o, TGet H3 a y o ∧ Q (o.getD z) H3
section
variable {X : Cx} {o i e f : Expr} {pos apos cpos : Pos} {td ty tx : TE}
theorem pe_tget (hu : X.A.units + 1 < cLine) (ho : PE X o td) (hi : PE X i ty) (hs : NoSl i) : PE X (.Subscript o i pos) (tTGet td ty) := by
  refine ⟨fun pins s σ H Q I h => ?_⟩
  refine subD_of PySem.F.slot_dict_getitem.lookup hs (thn (ho.run pins s σ H _ I h) fun u s1 ⟨x, H1, I1, rx, q1⟩ => thn (hi.run pins s1 σ H1 _ I1 q1) fun iv s2 ⟨y, H2, I2, ry, a, v, ex, g, q2⟩ => ?_)
  subst ex
  obtain rfl : u = Value.ref a := rx
  exact ⟨let ⟨_, _, _, e, _⟩ := g; trd_typeIs I2 e, t_getItem hu I2 g ry fun w' s3 I3 rw' => ⟨v, H2, I3, rw', q2⟩⟩
theorem pc_tin (hu : X.A.units + 1 < cLine) (hi : PE X i ty) (ho : PE X o td) : PC X .In i o (tTIn ty td) := by
  refine ⟨fun pins s σ H Q I h => ?_⟩
  refine thn (hi.run pins s σ H _ I h) fun iv s1 ⟨y, H1, I1, ry, q1⟩ => thn (ho.run pins s1 σ H1 _ I1 q1) fun u s2 ⟨x, H2, I2, rx, a, ov, ex, g, q2⟩ => ?_
  subst ex
  obtain rfl : u = Value.ref a := rx
  exact t_in hu I2 g ry fun s3 I3 => ⟨.bl ov.isSome, H2, I3, rfl, q2⟩
theorem pc_tnotin (hu : X.A.units + 1 < cLine) (hi : PE X i ty) (ho : PE X o td) : PC X .NotIn i o (tTNotIn ty td) := by
  refine ⟨fun pins s σ H Q I h => ?_⟩
  refine thn (hi.run pins s σ H _ I h) fun iv s1 ⟨y, H1, I1, ry, q1⟩ => thn (ho.run pins s1 σ H1 _ I1 q1) fun u s2 ⟨x, H2, I2, rx, a, ov, ex, g, q2⟩ => ?_
  subst ex
  obtain rfl : u = Value.ref a := rx
  exact t_notIn hu I2 g ry fun s3 I3 => ⟨.bl (!ov.isSome), H2, I3, rfl, q2⟩
theorem pe_tget2 (hu : X.A.units + 1 < cLine) (ho : PE X o td) (he : PE X e ty) (hf : PE X f tx) (m : M2 X o "get" apos e f cpos) : PE X (.Call (.Attribute o "get" apos) [e, f] [] cpos) (tTGet2 td ty tx) := by
  refine ⟨fun pins s σ H Q I h => ?_⟩
  refine wpAny_Call_method m.base m.few m.line PySem.F.plainAttrs_dict PySem.F.slot_dict_get PySem.F.type_dict_get (thn (ho.run pins s σ H _ I h) fun u s1 ⟨x, H1, I1, rx, a, kvs, ex, d, q1⟩ => ?_)
  subst ex
  obtain rfl : u = Value.ref a := rx
  refine ⟨trd_typeIs I1 d, trd_noDict I1 d, ?_⟩
  rw [m.trees]
  refine Calls.callWith_builtin rfl (Calls.evalArgs_plain (Calls.spliced_cons (thn (he.run pins s1 σ H1 _ I1 q1) fun iv s2 ⟨y, H2, I2, ry, q2⟩ =>
    Calls.spliced_cons (thn (hf.run pins s2 σ H2 _ I2 q2) fun fv s3 ⟨z, H3, I3, rz, ov, g, q3⟩ => Calls.spliced_nil ?_))))
  exact t_get2 hu I3 g ry rz fun w' s4 I4 rw' => ⟨_, H3, I4, rw', q3⟩
/-- len of a dict -/
def rLenX : List V → Hp → VK → Prop := fun xs H Q => ∃ p n, xs = [.ref p] ∧ ((∃ kvs, Rd H p (.dK kvs) ∧ n = kvs.length) ∨ ∃ kvs, TRd H p kvs ∧ n = kvs.length) ∧ Q (.int (n : Nat)) H
theorem call_len_X : CallR X (.builtin "len") rLenX := by
  intro pins s σ H xs us Q I r h
  obtain ⟨p, n, rfl, hp, q⟩ := h
  obtain ⟨u, rfl, rx⟩ := vals1 r
  obtain rfl : u = .ref p := rx
  rcases hp with ⟨kvs, hp, rfl⟩ | ⟨kvs, hp, rfl⟩
  · exact d_len I hp fun t s' I' => ⟨.int ((kvs.length : Nat) : Int), H, I', ⟨_, rfl⟩, q⟩
  · obtain ⟨z, hd, ys, rel, dd⟩ := dt_rdX I.hok hp
    have hl : kvs.length = ys.length := Paired.length rel
    refine call_len_dictH hd dd (by rw [← hl]; rw [sizeLine_eq] at z; omega) ?_
    rw [← hl]
    exact ⟨.int ((kvs.length : Nat) : Int), H, I.tok _, ⟨_, rfl⟩, q⟩
end
section
variable {fa : FA} {X : Cx} {a b c : Expr} {ma mb mc : M Val} {pos : Pos}
theorem sm_dget (hu : X.A.units + 65 < cLine) (ha : SimE fa X a ma) (hb : SimE fa X b mb) (hs : noSlice b = true) :
    SimE fa X (.Subscript a b pos) (fun env S => (ma env S).bind fun x S1 => (mb env S1).bind fun y S2 => .ofO ((dctV S2 x).bind fun es => (keyV y).bind fun ks => lookD es ks) S2) := by
  refine ⟨fun W tk => PE.imp (pe_tget (by omega) (ha.run W tk) (hb.run W tk) (noSlice_ok hs)) fun σ H Q q => ?_⟩
  refine q.bind (rep := RepV X.K fa) fun env v S1 x F1 H1 ρ1 s1 e1 r1 p1 => ?_
  refine rdG.mk s1 e1 (p1.bind fun w S2 y F2 H2 ρ2 s2 x2 r2 p2 => ?_)
  obtain ⟨u, eu, q2⟩ := p2.ofO
  cases q3 : dctV S2 v with
  | none => rw [q3] at eu; cases eu
  | some es =>
    rw [q3, Option.bind_some] at eu
    cases q4 : keyV w with
    | none => rw [q4] at eu; cases eu
    | some ks =>
      rw [q4, Option.bind_some] at eu
      obtain ⟨a', kvs, rfl, h2, rr⟩ := dct_at s2 (r1.mono x2.fz x2.rho x2.len) q3
      obtain ⟨b', rfl, hb'⟩ := key_rep r2 q4
      obtain ⟨z, hz, rz⟩ := (look_rep rr ks).1 u eu
      exact ⟨_, z, rfl, ⟨kvs, _, b', h2, rfl, s2.sub _ _ hb', hz.symm⟩, q2 z F2 H2 ρ2 s2 (Ext.refl ..) rz⟩
theorem sm_dgetZ {apos : Pos} (hu : X.A.units + 65 < cLine) (ha : SimE fa X a ma) (hb : SimE fa X b mb) (hc : SimE fa X c mc) (m : M2 X a "get" apos b c pos) :
    SimE fa X (.Call (.Attribute a "get" apos) [b, c] [] pos) (fun env S => (ma env S).bind fun x S1 => if (dctV S1 x).isSome then (mb env S1).bind fun y S2 => (mc env S2).bind fun w S3 => .ofO ((dctV S3 x).bind fun es => (keyV y).map fun ks => (lookD es ks).getD w) S3 else .stuck) := by
  refine ⟨fun W tk => PE.imp (pe_tget2 (by omega) (ha.run W tk) (hb.run W tk) (hc.run W tk) m) fun σ H Q q => ?_⟩
  refine q.bind (rep := RepV X.K fa) fun env v S1 x F1 H1 ρ1 s1 e1 r1 p1 => ?_
  cases q0 : dctV S1 v with
  | none => rw [q0] at p1; exact p1.elim
  | some es0 =>
    rw [q0] at p1
    simp only [Option.isSome_some, if_true] at p1
    obtain ⟨a0, kvs0, rfl, h2, rr0⟩ := dct_at s1 r1 q0
    refine ⟨_, _, rfl, h2, rdG.mk s1 e1 (p1.bind fun w S2 y F2 H2 ρ2 s2 x2 r2 p2 => ?_)⟩
    refine rdG.mk s2 (e1.mono x2.fz x2.rho x2.len) (p2.bind fun u S3 z F3 H3 ρ3 s3 x3 r3 p3 => ?_)
    have x23 := x2.trans x3
    obtain ⟨t, et, q2⟩ := p3.ofO
    cases q3 : dctV S3 v with
    | none => rw [q3] at et; cases et
    | some es =>
      rw [q3, Option.bind_some] at et
      cases q4 : keyV w with
      | none => rw [q4] at et; cases et
      | some ks =>
        rw [q4] at et
        cases et
        obtain ⟨a', kvs, e10, h4, rr⟩ := dct_at s3 (r1.mono x23.fz x23.rho x23.len) q3
        injection e10 with e10
        subst e10
        obtain ⟨b', rfl, hb'⟩ := key_rep (r2.mono x3.fz x3.rho x3.len) q4
        refine ⟨_, ⟨kvs, _, b', h4, rfl, s3.sub _ _ hb', rfl⟩, q2 _ F3 H3 ρ3 s3 (Ext.refl ..) ?_⟩
        show RepV X.K fa F3 ρ3 S3.length _ ((lookD es ks).getD u)
        cases q5 : lookD es ks with
        | none => rw [(look_rep rr ks).2 q5]; exact r3
        | some v5 =>
          obtain ⟨z5, hz, rz⟩ := (look_rep rr ks).1 v5 q5
          rw [hz]; exact rz
def dinV (neg : Bool) (S : Sto) (y x : Val) : Option Val := (dctV S x).bind fun es => (keyV y).map fun ks => .d (.bool (if neg then !(lookD es ks).isSome else (lookD es ks).isSome))
theorem look_some {K : PySem.W.Frag} {F : Hp} {ρ : Nat → Addr} {n : Nat} {kvs : List (List Key × V)} {es : List (List Int × Val)} (r : PrD K fa F ρ n kvs es) (ks : List Int) : (valV kvs (ks.map Sum.inl)).isSome = (lookD es ks).isSome := by
  cases q5 : lookD es ks with
  | none => rw [(look_rep r ks).2 q5]; rfl
  | some v5 =>
    obtain ⟨z5, hz, rz⟩ := (look_rep r ks).1 v5 q5
    rw [hz]; rfl
theorem din_bool {neg : Bool} : ∀ env S v S', (fun env S => (mb env S).bind fun y S1 => (ma env S1).bind fun x S2 => R.ofO (dinV neg S2 y x) S2) env S = .ok v S' → ∃ k, v = .d (.bool k) := by
  intro env S v S' h
  dsimp only at h
  cases q1 : mb env S with
  | stuck => rw [q1] at h; cases h
  | exc _ _ => rw [q1] at h; cases h
  | ok x S1 =>
    rw [q1, R.bind_ok] at h
    cases q2 : ma env S1 with
    | stuck => rw [q2] at h; cases h
    | exc _ _ => rw [q2] at h; cases h
    | ok y S2 =>
      rw [q2, R.bind_ok] at h
      unfold dinV at h
      cases q3 : dctV S2 y with
      | none => rw [q3] at h; cases h
      | some es =>
        rw [q3, Option.bind_some] at h
        cases q4 : keyV x with
        | none => rw [q4] at h; cases h
        | some ks => rw [q4] at h; cases h; exact ⟨_, rfl⟩
theorem rd_din {W : WX} {σ : L2.St} {H : Hp} {Q : VK} {neg : Bool} (q : rdE X.K fa W (fun env S => (mb env S).bind fun y S1 => (ma env S1).bind fun x S2 => R.ofO (dinV neg S2 y x) S2) σ H Q) :
    rdE X.K fa W mb σ H fun y H1 => rdE X.K fa W ma σ H1 fun x H2 => ∃ a o, x = .ref a ∧ TGet H2 a y o ∧ Q (.bl (if neg then !o.isSome else o.isSome)) H2 := by
  refine q.bind (rep := RepV X.K fa) fun env v S1 x F1 H1 ρ1 s1 e1 r1 p1 => ?_
  refine rdG.mk s1 e1 (p1.bind fun w S2 y F2 H2 ρ2 s2 x2 r2 p2 => ?_)
  obtain ⟨u, eu, q2⟩ := p2.ofO
  unfold dinV at eu
  cases q3 : dctV S2 w with
  | none => rw [q3] at eu; cases eu
  | some es =>
    rw [q3, Option.bind_some] at eu
    cases q4 : keyV v with
    | none => rw [q4] at eu; cases eu
    | some ks =>
      rw [q4] at eu
      cases eu
      obtain ⟨a', kvs, rfl, h2, rr⟩ := dct_at s2 r2 q3
      obtain ⟨b', rfl, hb'⟩ := key_rep (r1.mono x2.fz x2.rho x2.len) q4
      refine ⟨_, _, rfl, ⟨kvs, _, b', h2, rfl, s2.sub _ _ hb', rfl⟩, ?_⟩
      rw [look_some rr ks]
      exact q2 _ F2 H2 ρ2 s2 (Ext.refl ..) (Rep.bl _)
theorem sm_din (neg : Bool) (hu : X.A.units + 65 < cLine) (hb : SimE fa X b mb) (ha : SimE fa X a ma) (hm : noSet a = true) :
    SimE fa X (.Compare b [if neg then .NotIn else .In] [a] pos) (fun env S => (mb env S).bind fun y S1 => (ma env S1).bind fun x S2 => R.ofO (dinV neg S2 y x) S2) := by
  cases neg with
  | true => exact ⟨fun W tk => PE.imp (pe_cmp (pc_tnotin (by omega) (hb.run W tk) (ha.run W tk)) (noSet_ok hm _)) fun σ H Q q => rd_din q⟩
  | false => exact ⟨fun W tk => PE.imp (pe_cmp (pc_tin (by omega) (hb.run W tk) (ha.run W tk)) (noSet_ok hm _)) fun σ H Q q => rd_din q⟩
theorem st_din (neg : Bool) (hu : X.A.units + 65 < cLine) (hb : SimE fa X b mb) (ha : SimE fa X a ma) (hm : noSet a = true) :
    SimT fa X (.Compare b [if neg then .NotIn else .In] [a] pos) (tru (fun env S => (mb env S).bind fun y S1 => (ma env S1).bind fun x S2 => R.ofO (dinV neg S2 y x) S2)) := by
  cases neg with
  | true => exact ⟨fun W tk => PT.imp (pt_cmp (pc_tnotin (by omega) (hb.run W tk) (ha.run W tk)) (noSet_ok hm _)) fun σ H Q q => rd_din (rd_tru_bool din_bool q)⟩
  | false => exact ⟨fun W tk => PT.imp (pt_cmp (pc_tin (by omega) (hb.run W tk) (ha.run W tk)) (noSet_ok hm _)) fun σ H Q q => rd_din (rd_tru_bool din_bool q)⟩
theorem dlen_at {F H : Hp} {ρ : Nat → Addr} {S : Sto} {x : V} {v : Val} {n : Nat} (s : Sim X.K fa F H ρ S) (r : RepV X.K fa F ρ S.length x v) (e : dlenV S v = some n) :
    ∃ p, x = .ref p ∧ ((∃ kvs, Rd H p (.dK kvs) ∧ n = kvs.length) ∨ ∃ kvs, TRd H p kvs ∧ n = kvs.length) := by
  have viaD : ∀ es, dctV S v = some es → n = es.length → ∃ p, x = .ref p ∧ ((∃ kvs, Rd H p (.dK kvs) ∧ n = kvs.length) ∨ ∃ kvs, TRd H p kvs ∧ n = kvs.length) := fun es q hn => by
    obtain ⟨a', kvs, rfl, h2, rr⟩ := dct_at s r q
    exact ⟨_, rfl, .inr ⟨kvs, h2, by rw [hn, Paired.length rr]⟩⟩
  have other : dlenV S v = (dctV S v).map (·.length) → ∃ p, x = .ref p ∧ ((∃ kvs, Rd H p (.dK kvs) ∧ n = kvs.length) ∨ ∃ kvs, TRd H p kvs ∧ n = kvs.length) := fun z => by
    rw [z] at e
    cases q : dctV S v with
    | none => rw [q] at e; cases e
    | some es => rw [q] at e; cases e; exact viaD es q rfl
  cases v with
  | d d =>
    cases d with
    | dict es =>
      have e : some es.length = some n := e
      cases e
      have r' : Rep X.K F x (.dict es) := r
      cases r' with
      | dct h l rr =>
        refine ⟨_, rfl, .inl ⟨_, .inr ⟨_, s.sub _ _ h⟩, ?_⟩⟩
        have := rr.length
        simp only [List.length_zip, List.length_map]; omega
      | dT h l rr =>
        refine ⟨_, rfl, .inr ⟨_, .inl (.inr ⟨_, s.sub _ _ h⟩), ?_⟩⟩
        have := rr.length
        simp only [List.length_zip, List.length_map]; omega
    | _ => exact other rfl
  | _ => exact other rfl
theorem sm_dlen {p : Pos} (hg : Gl X "len") (hm : X.mg "len" = none) (ha : SimE fa X a ma) (hn : noStar a = true) :
    SimE fa X (.Call (.Name "len" p) [a] [] pos) (fun env S => (ma env S).bind fun x S1 => .ofO ((dlenV S1 x).map fun (n : Nat) => Val.d (PyData.int (n : Int))) S1) := by
  refine ⟨fun W tk => PE.imp (pe_bi1 .len call_len_X hg hm ((sa_cons ha sa_nil hn).run W tk) hn) fun σ H Q q => ?_⟩
  obtain ⟨env, S, F, ρ, s, e, p⟩ := q
  refine ⟨env, S, F, ρ, s, e, ?_⟩
  dsimp only at p
  unfold mcons mnil
  cases q0 : ma env S with
  | stuck => rw [q0] at p; exact p
  | exc e S' => rw [q0] at p; exact p
  | ok v S1 =>
    rw [q0] at p
    simp only [R.bind_ok] at p ⊢
    intro xs F1 H1 ρ1 s1 x1 r1
    cases r1 with
    | cons r1 rn =>
      cases rn
      have p := Post.shift x1 p
      obtain ⟨u, eu, q2⟩ := p.ofO
      cases q3 : dlenV S1 v with
      | none => rw [q3] at eu; cases eu
      | some n =>
        rw [q3] at eu
        cases eu
        obtain ⟨a', rfl, hh⟩ := dlen_at s1 r1 q3
        exact ⟨_, n, rfl, hh, q2 _ F1 H1 ρ1 s1 (Ext.refl ..) (Rep.int _)⟩
end
/-! ### dict(d) -/
/-- the hash of a pair of ints -/
def hashP (i j : Int) : Int := reduceHash (Builtin.Tuple.tupleHashOf [hashInt i, hashInt j])
theorem hashP_apart : ∀ i : Fin 8, ∀ j : Fin 8, ∀ k : Fin 8, ∀ l : Fin 8, hashP (i.val : Int) (j.val : Int) = hashP (k.val : Int) (l.val : Int) → i = k ∧ j = l := by decide +kernel
theorem smallK_pair {ks : List Int} (h : smallK ks = true) : ∃ i j : Fin 8, ks = [(i.val : Int), (j.val : Int)] := by
  unfold smallK at h
  split at h
  · rename_i a b
    simp only [Bool.and_eq_true, decide_eq_true_eq] at h
    obtain ⟨⟨h1, h2⟩, h3, h4⟩ := h
    refine ⟨⟨a.toNat, by omega⟩, ⟨b.toNat, by omega⟩, ?_⟩
    have e1 : ((a.toNat : Nat) : Int) = a := Int.toNat_of_nonneg h1
    have e2 : ((b.toNat : Nat) : Int) = b := Int.toNat_of_nonneg h3
    simp only [e1, e2]
  · cases h
theorem hash_apart {P : Program} {w : World} {ks ls : List Int} (h1 : smallK ks = true) (h2 : smallK ls = true) (e : (tupleKind (mixKind P w)).hash (ks.map Sum.inl) = (tupleKind (mixKind P w)).hash (ls.map Sum.inl)) : ks = ls := by
  obtain ⟨i, j, rfl⟩ := smallK_pair h1
  obtain ⟨k, l, rfl⟩ := smallK_pair h2
  have e' : hashP (i.val : Int) (j.val : Int) = hashP (k.val : Int) (l.val : Int) := e
  obtain ⟨rfl, rfl⟩ := hashP_apart i j k l e'
  rfl
section
variable {pg : Program} {wd : World} {Ar : Around} {Ex : Value → Shared → Prop} {sg : Shared} {κ : Type} [DecidableEq κ] {kd : HeapKind pg wd κ}
theorem dictH {t : Addr} {ms : List (κ × Addr × Value)} {R : Value → Shared → Prop} (lo : (t == sysModules) = false) (dt : sg.heap.DictOfH kd t ms) (room : kd.room Ar.in1.in1) (kp : ∀ (h' : Heap), (∀ b o, sg.heap.get? b = some o → h'.get? b = some o) → ∀ x ∈ ms, kd.is h' x.1 x.2.1) (tt : ∀ x ∈ ms, sg.TypeIs (.ref x.2.1) "tuple") (ap : (ms.map fun x => kd.hash x.1).Nodup) (le : ms.length ≤ sizeLine)
    (k : ∀ h', h'.DictOfH kd sg.heap.objs.size ms → (∀ b o, sg.heap.get? b = some o → h'.get? b = some o) → R (.ref sg.heap.objs.size) { sg with heap := h' }) : wpAny (model pg wd) Ar (call (.type "dict") [.ref t]) R Ex sg := by
  refine callType_codes (Q₁ := fun ob s1 => ob = .ref sg.heap.objs.size ∧ s1 = { sg with heap := Heap.push sg.heap { cls := .type "dict", data := .dict #[] } }) F.kt_called_dict (F.kt_typeCall_dict_1 _) F.entry_dict_init (kt_code_dict_new _ ⟨rfl, rfl⟩) ?nx
  case nx =>
  rintro ob s1 ⟨rfl, rfl⟩
  have old : ∀ b o, sg.heap.get? b = some o → (Heap.push sg.heap { cls := .type "dict", data := .dict #[] }).get? b = some o := fun b o z => Heap.get?_push_of_some _ z
  have fresh : (Heap.push sg.heap { cls := .type "dict", data := .dict #[] }).DictOfH kd sg.heap.objs.size [] := Heap.DictOfH.new sg.heap
  have src : (Heap.push sg.heap { cls := .type "dict", data := .dict #[] }).DictOfH kd t ms := dt.at' (old t) (kp _ old)
  have ne : sg.heap.objs.size ≠ t := by
    obtain ⟨_, _, _, hg, _⟩ := dt
    exact fun e => absurd (Heap.lt_size hg) (by rw [e]; exact Nat.lt_irrefl _)
  have nd : (ms.map (·.1)).Nodup := dt.nodup
  refine ⟨fresh.typeIs, F.args_dict_init_2 _ _, ?go⟩
  case go =>
  unfold Builtin.«dict.__init__»
  refine wpAny_bind ?sel
  case sel =>
  unfold Builtin.Dict.selfAndRest
  refine wpAny_bind (wpAny_notOrdered_dict fresh.typeIs ?no)
  case no =>
  show wpAny _ _ (pure (sg.heap.objs.size, [Value.ref t])) _ _ _
  refine wpAny_pure ?pu
  case pu =>
  refine updateFrom_dictH (A := Ar.in1) .none room ne lo fresh src (.inr ⟨fun x hx => ?ty, ap⟩) (by simpa using le) fun h' d1 d2 sb => ?fin
  case ty =>
    obtain ⟨o, h1, h2⟩ := tt x hx
    exact ⟨o, old _ _ h1, h2⟩
  case fin =>
  rw [storedAllH_nil_of_nodup ms nd] at d1
  exact ⟨rfl, k h' d1 fun b o z => (sb.2 b (Nat.ne_of_lt (Heap.lt_size z))).trans (old b o z)⟩
end
section
variable {fa : FA} {X : Cx} {a b c : Expr} {ma mb mc : M Val} {pos : Pos}
theorem keys_pair {K : PySem.W.Frag} {F : Hp} {ρ : Nat → Addr} {n : Nat} {kvs : List (List Key × V)} {es : List (List Int × Val)} (r : PrD K fa F ρ n kvs es) : kvs.map (·.1) = es.map fun q => q.1.map Sum.inl := by
  induction r with
  | nil => rfl
  | cons h _ ih => rw [List.map_cons, List.map_cons, ih, h.1]
theorem call_dictT (hu : X.A.units + 65 < cLine) : CallR X (.type "dict") (fun xs H Q => ∃ (t : Addr) (kvs : List (List Key × V)) (ls : List (List Int)), xs = [.ref t] ∧ TRd H t kvs ∧ kvs.map (·.1) = ls.map (fun q => q.map Sum.inl) ∧ (∀ l ∈ ls, smallK l = true) ∧ ∀ p, H p = none → Q (.ref p) (upd H p (.dT kvs))) := by
  intro pins s σ H xs us Q I r ⟨t, kvs, ls, ex, hd, ek, hk, q⟩
  subst ex
  obtain ⟨u, eu, rx⟩ := vals1 r
  subst eu
  cases rx
  obtain ⟨z, lo, ys, rel, dd⟩ := dt_rdX I.hok hd
  have hl : kvs.length = ys.length := Paired.length rel
  have hkeys : ys.map (·.1) = kvs.map (·.1) := by
    clear dd z hl ek hd q
    induction rel with
    | nil => rfl
    | cons h _ ih => rw [List.map_cons, List.map_cons, ih, h.1]
  have htup : ∀ y ∈ ys, ∃ k, H y.2.1 = some (.tup (k.map kV)) ∧ y.1 = k := by
    clear dd z hl ek hd q hkeys
    induction rel with
    | nil => intro y hy; cases hy
    | @cons p q ps qs h _ ih =>
      intro y hy
      rcases List.mem_cons.mp hy with rfl | hy
      · exact ⟨p.1, h.2.1, h.1.symm⟩
      · exact ih y hy
  refine dictH lo dd (by show X.A.in1.in1.units < cLine; show X.A.units + 1 + 1 < cLine; omega) (fun h' kp y hy => ?_) (fun y hy => ?_) ?_ (by rw [← hl]; exact z) fun h' d' kp => ?_
  · obtain ⟨k, h1, rfl⟩ := htup y hy
    obtain ⟨o, its, n, g1, g2, g3, g4⟩ := key_of I.hok h1
    exact ⟨o, its, n, kp _ _ g1, g2, g3, g4⟩
  · obtain ⟨k, h1, rfl⟩ := htup y hy
    obtain ⟨o, its, n, g1, g2, g3, g4⟩ := key_of I.hok h1
    exact ⟨o, g1, g2⟩
  · have nd : (ys.map (·.1)).Nodup := dd.nodup
    rw [hkeys, ek] at nd
    have e : (ys.map fun x => (tupleKind (mixKind X.prog X.w)).hash x.1) = ls.map fun l => (tupleKind (mixKind X.prog X.w)).hash (l.map Sum.inl) := by
      have : (ys.map fun x => (tupleKind (mixKind X.prog X.w)).hash x.1) = (ys.map (·.1)).map (tupleKind (mixKind X.prog X.w)).hash := by rw [List.map_map]; rfl
      rw [this, hkeys, ek, List.map_map]; rfl
    rw [e]
    refine List.pairwise_map.mpr ((List.pairwise_map.mp nd).imp_of_mem fun {x y} hx hy ne z => ne ?_)
    rw [hash_apart (hk x hx) (hk y hy) z]
  · have hm : (s.heap.objs.size == sysModules) = false := beq_eq_false_iff_ne.mpr (Nat.ne_of_gt I.big)
    obtain ⟨o, es, ep, h1, h2, h3, h4, h5, h6⟩ := d'
    have fr : H s.heap.objs.size = none := I.hok.fresh (Nat.le_refl _)
    refine ⟨.ref s.heap.objs.size, upd H s.heap.objs.size (.dT kvs), I.laid (t' := s.toks) kp (Nat.le_refl _) (show ObjOk X.prog X.w _ _ _ (.dT kvs) from ⟨z, hm, ys, ?_, o, es, ep, h1, h2, h3, h4, h6⟩), rfl, q _ fr⟩
    refine Paired.mapP rel fun p q w => ⟨w.1, ?_, w.2.2⟩
    rw [upd_ne (ne_of_none w.2.1 fr)]; exact w.2.1
theorem sm_dcpy {p : Pos} (hu : X.A.units + 65 < cLine) (hg : Gl X "dict") (hm : X.mg "dict" = none) (ha : SimE fa X a ma) (hn : noStar a = true) :
    SimE fa X (.Call (.Name "dict" p) [a] [] pos) (fun env S => (ma env S).bind fun x S1 => dcpyV S1 x) := by
  refine ⟨fun W tk => PE.imp (pe_bi1 .dict (call_dictT hu) hg hm ((sa_cons ha sa_nil hn).run W tk) hn) fun σ H Q q => ?_⟩
  obtain ⟨env, S, F, ρ, s, e, p⟩ := q
  refine ⟨env, S, F, ρ, s, e, ?_⟩
  dsimp only at p
  unfold mcons mnil
  cases q0 : ma env S with
  | stuck => rw [q0] at p; exact p
  | exc e S' => rw [q0] at p; exact p
  | ok v S1 =>
    rw [q0] at p
    simp only [R.bind_ok] at p ⊢
    intro xs F1 H1 ρ1 s1 x1 r1
    cases r1 with
    | cons r1 rn =>
      cases rn
      have pp := Post.shift x1 p
      clear p
      have p := pp
      clear pp
      unfold dcpyV at p
      cases q3 : dctV S1 v with
      | none => rw [q3] at p; exact p.elim
      | some es =>
        rw [q3] at p
        dsimp only at p
        split at p
        · rename_i hs
          rw [Bool.and_eq_true, List.all_eq_true] at hs
          obtain ⟨a', kvs, rfl, h2, rr⟩ := dct_at s1 r1 q3
          refine ⟨_, kvs, es.map (·.1), rfl, h2, by rw [keys_pair rr, List.map_map]; rfl, fun l hl => ?_, fun p' hp => ?_⟩
          · obtain ⟨q, hq, rfl⟩ := List.mem_map.mp hl
            exact hs.1 q hq
          · obtain ⟨ρ2, e2, s2, x2⟩ := s1.alloc hp (.dct rr)
            exact p _ F1 _ ρ2 s2 x2 ⟨by simp, by rw [e2]⟩
        · exact p.elim
theorem keys_pin {K : PySem.W.Frag} {fa : FA} {H : Hp} {ρ : Nat → Addr} {S : Sto} : ∀ {kvs : List (List Key × V)} {es : List (List Int × Val)} {bs : List Addr} {F : Hp}, Paired (fun (p : List Key × V) (q : List Int × Val) => p.1 = q.1.map Sum.inl) kvs es → IsKeys H kvs bs → Sim K fa F H ρ S →
    ∃ F', Sim K fa F' H ρ S ∧ Ext F H ρ S F' H ρ S ∧ Reps K F' (bs.map V.ref) (es.map fun p => .tuple (p.1.map PyData.int))
  | _, _, _, F, .nil, .nil, s => ⟨F, s, Ext.refl .., .nil⟩
  | _, _, _, F, .cons (b := q) h t, .cons (b := b) hb tb, s => by
    obtain ⟨s1, x1⟩ := s.take hb
    obtain ⟨F', s2, x2, r⟩ := keys_pin t tb s1
    refine ⟨F', s2, x1.trans x2, .cons (.tup (x2.fz _ _ upd_same) ?_) r⟩
    rw [h, List.map_map]
    exact Reps.of_ints q.1
theorem sm_klst {p : Pos} (hc : X.calm = true) (hg : Gl X "list") (hm : X.mg "list" = none) (ha : SimE fa X a ma) (hn : noStar a = true) :
    SimE fa X (.Call (.Name "list" p) [a] [] pos) (fun env S => (ma env S).bind fun x S1 => .ofO (klstV S1 x) S1) := by
  refine ⟨fun W tk => PE.imp (pe_bi1 .list (call_list_dT hc) hg hm ((sa_cons ha sa_nil hn).run W tk) hn) fun σ H Q q => ?_⟩
  obtain ⟨env, S, F, ρ, s, e, p⟩ := q
  refine ⟨env, S, F, ρ, s, e, ?_⟩
  dsimp only at p
  unfold mcons mnil
  cases q0 : ma env S with
  | stuck => rw [q0] at p; exact p
  | exc e S' => rw [q0] at p; exact p
  | ok v S1 =>
    rw [q0] at p
    simp only [R.bind_ok] at p ⊢
    intro xs F1 H1 ρ1 s1 x1 r1
    cases r1 with
    | cons r1 rn =>
      cases rn
      have pp := Post.shift x1 p
      clear p
      have p := pp
      clear pp
      unfold klstV at p
      cases q3 : dctV S1 v with
      | none => rw [q3] at p; exact p.elim
      | some es =>
        rw [q3] at p
        rw [Option.bind_some] at p
        split at p
        · exact p.elim
        rename_i hne
        obtain ⟨a', kvs, rfl, h2, rr⟩ := dct_at s1 r1 q3
        have h2' : Rd H1 a' (.dT kvs) := by
          cases v with
          | d dd =>
            rcases h2 with h2 | ⟨rfl, _⟩
            · exact h2
            · cases rr
              exact absurd rfl hne
          | ref n =>
            rcases h2 with h2 | ⟨rfl, o, h2⟩
            · exact h2
            · exfalso
              obtain ⟨_, er⟩ := r1
              cases er
              simp only [dctV] at q3
              cases z : stGet S1 n with
              | none => rw [z] at q3; cases q3
              | some ob =>
                obtain ⟨hh, e1, e2⟩ := s1.obj n ob z
                rw [h2] at e1
                cases e1
                cases e2
          | scr _ => simp only [dctV] at q3; cases q3
          | fn _ => simp only [dctV] at q3; cases q3
          | exn _ => simp only [dctV] at q3; cases q3
        refine ⟨a', kvs, rfl, h2', fun p' bs hp hk => ?_⟩
        obtain ⟨F2, s2, x2, r2⟩ := keys_pin (Paired.mapP rr fun _ _ z => z.1) hk s1
        obtain ⟨s3, x3, sF⟩ := s2.grow (o := .lst (bs.map V.ref)) hp
        exact p _ _ _ ρ1 s3 (x2.trans x3) (.lst upd_same (r2.mono sF))
theorem putKI_rep {K : PySem.W.Frag} {fa : FA} {F : Hp} {ρ : Nat → Addr} {n : Nat} {kvs : List (Key × V)} {es : List (Int × Val)} {k : Int} {x : V} {v : Val} (r : Paired (fun (p : Key × V) (q : Int × Val) => p.1 = Sum.inl q.1 ∧ RepV K fa F ρ n p.2 q.2) kvs es) (rx : RepV K fa F ρ n x v) :
    Paired (fun (p : Key × V) (q : Int × Val) => p.1 = Sum.inl q.1 ∧ RepV K fa F ρ n p.2 q.2) (putK kvs (.inl k) x) (putKI es k v) := by
  have hany : (es.any fun p => decide (p.1 = k)) = kvs.any fun kv => decide (kv.1 = .inl k) := by
    induction r with
    | nil => rfl
    | @cons p q ps qs h1 h2 ih =>
      rw [List.any_cons, List.any_cons, ih, h1.1]
      simp [Sum.inl.injEq]
  unfold putK putKI
  rw [hany]
  split
  · rename_i hh
    clear hany hh
    induction r with
    | nil => exact .nil
    | @cons p q ps qs h1 h2 ih =>
      refine .cons ?_ ih
      obtain ⟨p1, p2⟩ := p
      obtain ⟨q1, q2⟩ := q
      dsimp only at h1 ⊢
      obtain ⟨rfl, h1⟩ := h1
      by_cases e : q1 = k
      · subst e
        simp only [if_true]
        exact ⟨trivial, rx⟩
      · have e' : ¬ (Sum.inl q1 : Key) = Sum.inl k := fun z => e (by injection z)
        rw [if_neg e, if_neg e']
        exact ⟨rfl, h1⟩
  · have app : ∀ {a b : List (Key × V)} {c d : List (Int × Val)}, Paired (fun (p : Key × V) (q : Int × Val) => p.1 = Sum.inl q.1 ∧ RepV K fa F ρ n p.2 q.2) a c → Paired (fun (p : Key × V) (q : Int × Val) => p.1 = Sum.inl q.1 ∧ RepV K fa F ρ n p.2 q.2) b d → Paired (fun (p : Key × V) (q : Int × Val) => p.1 = Sum.inl q.1 ∧ RepV K fa F ρ n p.2 q.2) (a ++ b) (c ++ d) := by
      intro a b c d h1 h2
      induction h1 with
      | nil => exact h2
      | cons h _ ih => exact .cons h ih
    exact app r (.cons ⟨rfl, rx⟩ .nil)
theorem ss_setd {p2 : Pos} (hu : X.A.units + 65 < cLine) (hc : SimE fa X c mc) (ha : SimE fa X a ma) (hb : SimE fa X b mb) (hcc : noComp c = true) (hsl : noSlice b = true)
    (h1 : swappedStores [.Subscript a b p2] c X.env = pure none) : SimS fa X (.Assign [.Subscript a b p2] c pos)
    (fun env S => .ofR env (mc env S) fun v S1 => .ofR env (ma env S1) fun x S2 => .ofR env (mb env S2) fun y S3 => setdV env x y v S3) := by
  refine ⟨fun W tk => PS.imp (ps_asg (hc.run W tk) (pg_sub (ha.run W tk) (hb.run W tk) (set_dict (by omega)) (by clear hb; intro v; cases b <;> first | rfl | (simp [noSlice] at hsl))) (noComp_ok hcc (some (.Subscript a b p2)) pos.line X.env) h1 rfl) fun D σ H q => ?_⟩
  refine q.bind (rep := RepV X.K fa) fun env v S1 zv F1 H1 ρ1 s1 e1 r1 p1 => ?_
  refine ⟨env, S1, F1, ρ1, s1, e1, PostS.bind e1 p1 fun x S2 xv F2 H2 ρ2 s2 x2 r2 p2 => ?_⟩
  have e2 := e1.mono x2.fz x2.rho x2.len
  refine ⟨env, S2, F2, ρ2, s2, e2, PostS.bind e2 p2 fun y S3 yv F3 H3 ρ3 s3 x3 r3 p3 => ?_⟩
  have e3 := e2.mono x3.fz x3.rho x3.len
  have x23 := x2.trans x3
  have rz := r1.mono x23.fz x23.rho x23.len
  have rx := r2.mono x3.fz x3.rho x3.len
  unfold setdV at p3
  cases x with
  | ref n =>
    obtain ⟨hn1, rfl⟩ := rx
    dsimp only at p3
    cases q3 : stGet S3 n with
    | none => rw [q3] at p3; exact p3.elim
    | some o =>
      rw [q3] at p3
      cases o with
      | lst _ => exact p3.elim
      | dct en =>
        dsimp only at p3
        cases q1 : keyV y with
        | none => rw [q1] at p3; exact p3.elim
        | some ks =>
          rw [q1] at p3
          dsimp only at p3
          split at p3
          · rename_i hz
            obtain ⟨b', rfl, hb'⟩ := key_rep r3 q1
            obtain ⟨ho, h2, rr⟩ := s3.obj n _ q3
            cases rr with
            | dct rr =>
              obtain ⟨s5, x5⟩ := s3.put q3 (RepO.dct (putD_rep (ks := ks) rr rz))
              refine ⟨_, _, rfl, DPut.t (k := ks.map Sum.inl) h2 (s3.sub _ _ hb') (by rw [Paired.length rr, ← sLine_eq]; exact hz.1), ?_⟩
              exact p3 σ _ _ ρ3 s5 x5 (by rw [List.length_set]; exact e3)
          · exact p3.elim
      | kv t en =>
        cases t with
        | succ t => exact p3.elim
        | zero =>
          cases y with
          | d y =>
            cases y with
            | int k =>
              simp only at p3
              split at p3
              · rename_i hz
                cases (show Rep X.K F3 yv (.int k) from r3)
                obtain ⟨ho, h2, rr⟩ := s3.obj n _ q3
                cases rr with
                | kv0 rr =>
                  obtain ⟨s5, x5⟩ := s3.put q3 (RepO.kv0 (putKI_rep (k := k) rr rz))
                  refine ⟨_, _, rfl, DPut.k (k := .inl k) h2 (by rw [Paired.length rr, ← sLine_eq]; exact hz), ?_⟩
                  exact p3 σ _ _ ρ3 s5 x5 (by rw [List.length_set]; exact e3)
              · exact p3.elim
            | _ => exact p3.elim
          | _ => exact p3.elim
  | _ => exact p3.elim
end
end MS

-- MsGet
/-! dicts as data: displays of two, asked with .get. -/
namespace MS
open PySem PySem.Spec PyProof.Rows L2
theorem m2_ok {X : Cx} {o e f : Expr} {m : Str} {apos cpos : Pos} (h0 : notCall0 o = true) (h1 : noStar e = true) (h2 : noStar f = true) (hl : (apos.endLine == cpos.line) = true) : M2 X o m apos e f cpos where
  base := attrBase h0 _ _ _
  few := by
    have e1 : starEach [e, f] X.env = [(false, eval e X.env), (false, eval f X.env)] := by rw [starEach_cons h1, starEach_cons h2]; rfl
    rw [e1]; rfl
  line := hl
  trees := by
    have e1 : starEach [e, f] X.env = [(false, eval e X.env), (false, eval f X.env)] := by rw [starEach_cons h1, starEach_cons h2]; rfl
    rw [e1]; rfl
theorem kv_zip {K : PySem.W.Frag} {F : Hp} : ∀ {ks : List Key} {xs : List V} {ds : List D}, ks.length = xs.length → Reps K F xs ds → KvRep K F (ks.zip xs) ((ks.map kD).zip ds)
  | [], _, _, _, .nil => .nil
  | k :: ks, _, _, l, .cons h1 h2 => .cons ⟨rfl, h1⟩ (kv_zip (ks := ks) (by simpa using l) h2)
  | _ :: _, _, _, l, .nil => by simp at l
  | [], _, _, l, .cons _ _ => by simp at l
theorem Rep.kv {K : PySem.W.Frag} {F : Hp} {x : V} {k : Int} {z : D} {es : List (D × D)} (r : Rep K F x (.dict ((.int k, z) :: es))) : ∃ a o kvs, x = .ref a ∧ F a = some (.frz o (.dK kvs)) ∧ KvRep K F kvs ((.int k, z) :: es) := by
  generalize hq : ((PyData.int k, z) :: es) = q at r ⊢
  cases r with
  | dct h l rr => exact ⟨_, _, _, rfl, h, kv_zip l rr⟩
  | dT h l rr =>
    rename_i ks xs ds
    exfalso
    cases ks with
    | nil => cases hq
    | cons k ks =>
      cases ds with
      | nil => cases hq
      | cons d ds =>
        simp only [List.map_cons, List.zip_cons_cons, List.cons.injEq, Prod.mk.injEq] at hq
        exact nomatch hq.1.1
theorem lookI_rep {K : PySem.W.Frag} {F : Hp} {kvs : List (Key × V)} {es : List (D × D)} (r : KvRep K F kvs es) (k : Int) :
    (∀ d, lookI es k = some d → ∃ x, valV kvs (.inl k) = some x ∧ Rep K F x d) ∧ (lookI es k = none → valV kvs (.inl k) = none) := by
  have key : ∀ (j : Key), isKeyI k (kD j) = decide (j = .inl k) := fun j => by
    cases j with
    | inl j => simp only [kD, isKeyI, key_ll]
    | inr j => simp [kD, isKeyI]
  unfold lookI valV
  induction r with
  | nil => exact ⟨fun d h => by simp at h, fun _ => rfl⟩
  | @cons p q ps qs h1 h2 ih =>
    rw [List.find?_cons, List.find?_cons, h1.1, key]
    by_cases e : p.1 = .inl k
    · rw [decide_eq_true e]
      exact ⟨fun d h => ⟨p.2, rfl, by cases h; exact h1.2⟩, fun h => by cases h⟩
    · rw [decide_eq_false e]
      exact ih
section
variable {fa : FA} {X : Cx} {a b c d : Expr} {ma mb mc md : M Val} {pos : Pos}
theorem sm_getI {apos : Pos} (hu : X.A.units + 65 < cLine) (ha : SimE fa X a ma) (hb : SimE fa X b mb) (hc : SimE fa X c mc) (m : M2 X a "get" apos b c pos) :
    SimE fa X (.Call (.Attribute a "get" apos) [b, c] [] pos) (fun env S => (ma env S).bind fun x S1 => if isDic x then (mb env S1).bind fun y S2 => (mc env S2).bind fun w S3 => .ofO (getIV x y w) S3 else .stuck) := by
  refine ⟨fun W tk => PE.imp (pe_dget2 (by omega) (ha.run W tk) (hb.run W tk) (hc.run W tk) m) fun σ H Q q => ?_⟩
  refine q.bind (rep := RepV X.K fa) fun env v S1 x F1 H1 ρ1 s1 e1 r1 p1 => ?_
  cases v with
  | d v =>
    cases v with
    | dict es =>
      match es, r1, p1 with
      | (.int k0, z0) :: es, r1, p1 =>
      simp only [isDic, if_true] at p1
      obtain ⟨l, o0, kvs, rfl, h1, rr⟩ := Rep.kv (show Rep X.K F1 x (.dict ((.int k0, z0) :: es)) from r1)
      refine ⟨_, rfl, .inl ⟨kvs, .inr ⟨o0, s1.sub _ _ h1⟩⟩, rdG.mk s1 e1 (p1.bind fun w S2 y F2 H2 ρ2 s2 x2 r2 p2 => ?_)⟩
      refine rdG.mk s2 (e1.mono x2.fz x2.rho x2.len) (p2.bind fun u S3 z F3 H3 ρ3 s3 x3 r3 p3 => ?_)
      have x23 := x2.trans x3
      obtain ⟨t, et, q2⟩ := p3.ofO
      cases w with
      | d w =>
        cases w with
        | int i =>
          cases u with
          | d u =>
            simp only [getIV] at et
            cases et
            cases (show Rep X.K F2 y (.int i) from r2)
            have hk := s3.sub _ _ (x23.fz _ _ h1)
            refine ⟨_, .inl ⟨kvs, .inl i, .inr ⟨o0, hk⟩, rfl, rfl⟩, q2 _ F3 H3 ρ3 s3 (Ext.refl ..) ?_⟩
            show Rep X.K F3 _ ((lookI ((.int k0, z0) :: es) i).getD u)
            have lr := lookI_rep rr i
            cases q5 : lookI ((.int k0, z0) :: es) i with
            | none => rw [lr.2 q5]; exact r3
            | some d5 =>
              obtain ⟨z5, hz, rz⟩ := lr.1 d5 q5
              rw [hz]; exact rz.mono x23.fz
          | _ => cases et
        | _ => cases et
      | _ => cases et
    | _ => exact p1.elim
  | _ => exact p1.elim
theorem sm_dict2 (ha : SimE fa X a ma) (hb : SimE fa X b mb) (hc : SimE fa X c mc) (hd : SimE fa X d md) :
    SimE fa X (.Dict [some a, some c] [b, d] pos) (fun env S => (ma env S).bind fun x S1 => (mb env S1).bind fun y S2 => (mc env S2).bind fun z S3 => (md env S3).bind fun w S4 => .ofO (dict2V x y z w) S4) := by
  have h15 : [some a, some c].length ≤ 15 := by simp
  refine ⟨fun W tk => PE.imp (pe_lockV (pe_disp (pps_cons (ha.run W tk) (hb.run W tk) (pps_cons (hc.run W tk) (hd.run W tk) pps_nil)) rfl rfl (fun z => nomatch z) h15)) fun σ H Q q => ?_⟩
  intro p hp
  obtain ⟨env, S, F, ρ, s, e, q⟩ := q
  obtain ⟨s', x'⟩ := s.junk (o := .dK []) hp
  have l0 : Loose F (upd H p (.dK [])) ρ S p (.dK []) := Loose.new s hp (fun _ z => nomatch z)
  refine ⟨env, S, F, ρ, s', e, ?_⟩
  dsimp only at q
  cases q0 : ma env S with
  | stuck => rw [q0] at q; exact q
  | exc ee S1 =>
    rw [q0] at q
    exact fun c d F1 H1 ρ1 s1 x1 r1 => q c d F1 H1 ρ1 s1 (x'.trans x1) r1
  | ok v S1 =>
    rw [q0, R.bind_ok] at q
    intro x F1 H1 ρ1 s1 x1 r1
    refine ⟨env, S1, F1, ρ1, s1, e.mono x1.fz x1.rho x1.len, ?_⟩
    cases q1 : mb env S1 with
    | stuck => rw [q1] at q; exact q
    | exc ee S2 =>
      rw [q1] at q
      exact fun c d F2 H2 ρ2 s2 x2 r2 => q c d F2 H2 ρ2 s2 ((x'.trans x1).trans x2) r2
    | ok u S2 =>
      rw [q1, R.bind_ok] at q
      intro y F2 H2 ρ2 s2 x2 r2
      have x12 := x1.trans x2
      refine ⟨env, S2, F2, ρ2, s2, e.mono x12.fz x12.rho x12.len, ?_⟩
      cases q2 : mc env S2 with
      | stuck => rw [q2] at q; exact q
      | exc ee S3 =>
        rw [q2] at q
        exact fun c d F3 H3 ρ3 s3 x3 r3 => q c d F3 H3 ρ3 s3 (((x'.trans x1).trans x2).trans x3) r3
      | ok t S3 =>
        rw [q2, R.bind_ok] at q
        intro z F3 H3 ρ3 s3 x3 r3
        have x13 := x12.trans x3
        refine ⟨env, S3, F3, ρ3, s3, e.mono x13.fz x13.rho x13.len, ?_⟩
        cases q3 : md env S3 with
        | stuck => rw [q3] at q; exact q
        | exc ee S4 =>
          rw [q3] at q
          exact fun c d F4 H4 ρ4 s4 x4 r4 => q c d F4 H4 ρ4 s4 ((((x'.trans x1).trans x2).trans x3).trans x4) r4
        | ok g S4 =>
          rw [q3, R.bind_ok] at q
          intro w F4 H4 ρ4 s4 x4 r4
          have l4 := (((l0.step x1).step x2).step x3).step x4
          have x24 := x3.trans x4
          have x34 := x4
          cases v with
          | d v =>
            cases v with
            | int i =>
              cases u with
              | d u =>
                cases t with
                | d t =>
                  cases t with
                  | int j =>
                    cases g with
                    | d g =>
                      cases (show Rep X.K F1 x (.int i) from r1)
                      cases (show Rep X.K F3 z (.int j) from r3)
                      refine ⟨l4.h, [(.inl i, y), (.inl j, w)], rfl, by simp, _, _, rfl, upd_same, trivial, fun od => ?_⟩
                      rw [upd_upd]
                      obtain ⟨s5, x5, sF⟩ := l4.adopt (o' := .frz od (.dK (mergeK [] [(.inl i, y), (.inl j, w)]))) s4 hp ((((x'.trans x1).trans x2).trans x3).trans x4)
                      refine q _ _ _ ρ4 s5 x5 (Rep.of_kv upd_same ?_)
                      have ry : Rep X.K F2 y u := r2
                      have rw' : Rep X.K F4 w g := r4
                      exact merge_rep (ns := [(i, u), (j, g)]) (.cons ⟨rfl, (ry.mono x24.fz).mono sF⟩ (.cons ⟨rfl, rw'.mono sF⟩ .nil)) .nil
                    | _ => exact q.elim
                  | _ => exact q.elim
                | _ => exact q.elim
              | _ => exact q.elim
            | _ => exact q.elim
          | _ => exact q.elim
end
end MS

-- MsKd
/-! Dicts whose keys are ints; setdefault; things frozen ahead of a statement. -/
namespace MS
open PySem PySem.Spec PyProof.Rows L2
section
variable {fa : FA} {X : Cx} {a b c tg : Expr} {ma mb mc : M Val} {pos : Pos}
theorem sm_newK : SimE fa X (.Dict [] [] pos) (fun _ S => .ok (.ref S.length) (S ++ [some (.kv 0 [])])) := by
  refine ⟨fun W tk => PE.imp pe_dnewK fun σ H Q q => ?_⟩
  obtain ⟨env, S, F, ρ, s, e, p⟩ := q
  intro d hd
  obtain ⟨ρ2, e2, s2, x2⟩ := s.alloc hd (.kv0 .nil)
  exact p _ F _ ρ2 s2 x2 ⟨by simp, by rw [e2]⟩
/-! ### for k in d -/
theorem keysI_zip {ks : List Key} {ds : List D} : ∀ {ns : List Int}, ks.length = ds.length → keysI ((ks.map kD).zip ds) = some ns → ks = ns.map Sum.inl := by
  induction ks generalizing ds with
  | nil => intro ns _ h; simp only [List.map_nil, List.zip_nil_left, keysI] at h; cases h; rfl
  | cons k ks ih =>
    intro ns l h
    cases ds with
    | nil => simp at l
    | cons d ds =>
      simp only [List.map_cons, List.zip_cons_cons] at h
      cases k with
      | inr x => simp [kD, keysI] at h
      | inl i =>
        simp only [kD, keysI] at h
        cases q : keysI ((ks.map kD).zip ds) with
        | none => rw [q] at h; cases h
        | some ms =>
          rw [q] at h
          cases h
          rw [ih (by simpa using l) q]; rfl
theorem keysI_len : ∀ {es : List (D × D)} {ns : List Int}, keysI es = some ns → ns.length = es.length
  | [], ns, h => by simp only [keysI] at h; cases h; rfl
  | (.int k, _) :: r, ns, h => by
    simp only [keysI] at h
    cases q : keysI r with
    | none => rw [q] at h; cases h
    | some ms => rw [q] at h; cases h; simp [keysI_len q]
  | (.none, _) :: _, _, h => by simp [keysI] at h
  | (.bool _, _) :: _, _, h => by simp [keysI] at h
  | (.str _, _) :: _, _, h => by simp [keysI] at h
  | (.list _, _) :: _, _, h => by simp [keysI] at h
  | (.tuple _, _) :: _, _, h => by simp [keysI] at h
  | (.dict _, _) :: _, _, h => by simp [keysI] at h
theorem it_keys {K : PySem.W.Frag} {fa : FA} {F H : Hp} {ρ : Nat → Addr} {S : Sto} (s : Sim K fa F H ρ S) {d : Addr} {o : Obj} {kvs : List (Key × V)} {ns : List Int} (h : F d = some (.frz o (.dK kvs))) (hk : kvs.map (·.1) = ns.map Sum.inl) (hz : ns.length ≤ sizeLine) : ItRep K fa F H ρ S (Itk d o kvs) (ns.map fun k => .d (.int k), []) := by
  have hl : kvs.length = ns.length := by have := congrArg List.length hk; simpa using this
  refine ⟨by rw [List.length_map]; exact hz, F, s.sub, fun n u hu => s.off n u hu, ⟨fun i H' hq hi => ?_, fun H' hq => ⟨hq _ _ h, by rw [List.length_map, hl]; exact Nat.le_refl _⟩, fun i H' x H'' v F' hq hF sF hv hy => ?_⟩⟩
  · exact ⟨hq _ _ h, by rw [hl]; simpa using hi⟩
  · obtain ⟨rfl, k, w, h1, h2⟩ := hy
    have e1 : (kvs.map (·.1))[i]? = some k := by rw [List.getElem?_map, h1]; rfl
    rw [hk, List.getElem?_map] at e1
    rw [List.getElem?_map] at hv
    cases q : ns[i]? with
    | none => rw [q] at hv; cases hv
    | some n =>
      rw [q] at hv e1
      cases hv
      cases e1
      subst h2
      exact ⟨F', .inl ⟨rfl, rfl⟩, Rep.int n⟩
theorem keysT_len : ∀ {es : List (D × D)} {ns : List (List Int)}, keysT es = some ns → ns.length = es.length
  | [], ns, h => by simp only [keysT] at h; cases h; rfl
  | (.tuple ks, _) :: r, ns, h => by
    simp only [keysT] at h
    cases q0 : allI ks with
    | none => rw [q0] at h; cases h
    | some k =>
      rw [q0, Option.bind_some] at h
      cases q : keysT r with
      | none => rw [q] at h; cases h
      | some ms => rw [q] at h; cases h; simp [keysT_len q]
  | (.none, _) :: _, _, h => by simp [keysT] at h
  | (.bool _, _) :: _, _, h => by simp [keysT] at h
  | (.str _, _) :: _, _, h => by simp [keysT] at h
  | (.list _, _) :: _, _, h => by simp [keysT] at h
  | (.int _, _) :: _, _, h => by simp [keysT] at h
  | (.dict _, _) :: _, _, h => by simp [keysT] at h
theorem keysT_zip : ∀ {ks : List (List Int)} {ds : List D} {ns : List (List Int)}, ks.length = ds.length → keysT ((ks.map tupI).zip ds) = some ns → ks = ns
  | [], _, ns, _, h => by simp only [List.map_nil, List.zip_nil_left, keysT] at h; cases h; rfl
  | k :: ks, [], _, l, _ => by simp at l
  | k :: ks, d :: ds, ns, l, h => by
    simp only [List.map_cons, List.zip_cons_cons] at h
    unfold tupI at h
    simp only [keysT, allI_map, Option.bind_some] at h
    cases q : keysT ((ks.map fun ks => (PyData.tuple (ks.map PyData.int))).zip ds) with
    | none => rw [q] at h; cases h
    | some ms =>
      rw [q] at h
      cases h
      rw [keysT_zip (by simpa using l) q]
theorem it_keysT {K : PySem.W.Frag} {fa : FA} {F H : Hp} {ρ : Nat → Addr} {S : Sto} (s : Sim K fa F H ρ S) {d : Addr} {o : Obj} {kvs : List (List Key × V)} {ns : List (List Int)} (h : F d = some (.frz o (.dT kvs))) (hk : kvs.map (·.1) = ns.map fun k => (k.map Sum.inl : List Key)) (hz : ns.length ≤ sizeLine) : ItRep K fa F H ρ S (Itkt d o kvs) (ns.map fun k => .d (.tuple (k.map PyData.int)), []) := by
  have hl : kvs.length = ns.length := by have := congrArg List.length hk; simpa using this
  refine ⟨by rw [List.length_map]; exact hz, F, s.sub, fun n u hu => s.off n u hu, ⟨fun i H' hq hi => ?_, fun H' hq => ⟨hq _ _ h, by rw [List.length_map, hl]; exact Nat.le_refl _⟩, fun i H' x H'' v F' hq hF sF hv hy => ?_⟩⟩
  · exact ⟨hq _ _ h, by rw [hl]; simpa using hi⟩
  · obtain ⟨rfl, k, w, q', h1, h2, h3⟩ := hy
    have e1 : (kvs.map (·.1))[i]? = some k := by rw [List.getElem?_map, h1]; rfl
    rw [hk, List.getElem?_map] at e1
    rw [List.getElem?_map] at hv
    cases q : ns[i]? with
    | none => rw [q] at hv; cases hv
    | some n =>
      rw [q] at hv e1
      cases hv
      cases e1
      subst h2
      refine ⟨upd F' q' (.tup (n.map V.int)), .inr (.inr (.inr ⟨q', _, ?_, rfl, rfl⟩)), ?_⟩
      · rw [h3, ints_kV]
      · exact Rep.tup upd_same (Reps.of_ints n)
theorem si_keys (ha : SimE fa X a ma) : SimI fa X tg a (fun env S => (ma env S).bind fun v S1 => .ofO (keysV v) S1) := by
  refine ⟨fun W tk => PI.imp (pi_keys (ha.run W tk)) fun σ H Q q => ?_⟩
  obtain ⟨env, S, F, ρ, s, e, p⟩ := q
  refine ⟨env, S, F, ρ, s, e, ?_⟩
  dsimp only at p
  cases q0 : ma env S with
  | stuck => rw [q0] at p; exact p
  | exc e S' => rw [q0] at p; exact p
  | ok v S1 =>
    rw [q0] at p
    simp only [R.bind_ok] at p
    intro x F1 H1 ρ1 s1 x1 r1
    cases q1 : keysV v with
    | none => rw [q1] at p; exact p.elim
    | some it =>
      rw [q1] at p
      have p' : ∀ J, ItRep X.K fa F1 H1 ρ1 S1 J it → Q J H1 := fun J hJ => p J F1 H1 ρ1 s1 x1 hJ
      unfold keysV at q1
      split at q1
      · rename_i pp rr
        split at q1
        · rename_i hz
          have hz' : (pp :: rr).length ≤ sizeLine := by rw [← sLine_eq]; exact hz
          cases q2 : keysI (pp :: rr) with
          | none =>
            rw [q2] at q1
            dsimp only at q1
            cases q3 : keysT (pp :: rr) with
            | none => rw [q3] at q1; cases q1
            | some ns =>
              rw [q3] at q1
              cases q1
              have hn : ns.length ≤ sizeLine := by rw [keysT_len q3]; exact hz'
              have r' : Rep X.K F1 x (.dict (pp :: rr)) := r1
              generalize hq : (pp :: rr) = es at r' q3
              cases r' with
              | dct h l rs =>
                rename_i a' o ks xs ds
                exfalso
                cases ks with
                | nil => cases hq
                | cons k ks =>
                  cases ds with
                  | nil => cases hq
                  | cons d ds => cases k <;> simp [kD, keysT] at q3
              | dT h l rs =>
                rename_i a' o ks xs ds
                have l2 := rs.length
                have hk := keysT_zip (ks := ks) (ds := ds) (by omega) q3
                subst hk
                refine ⟨a', o, rfl, .inr ⟨_, s1.sub _ _ h, p' _ (it_keysT s1 h ?_ hn)⟩⟩
                rw [List.map_fst_zip (by rw [List.length_map]; omega)]
          | some ns =>
            rw [q2] at q1
            dsimp only at q1
            cases q1
            have hn : ns.length ≤ sizeLine := by rw [keysI_len q2]; exact hz'
            have r' : Rep X.K F1 x (.dict (pp :: rr)) := r1
            generalize hq : (pp :: rr) = es at r' q2
            cases r' with
            | dct h l rs =>
              rename_i a' o ks xs ds
              have l2 := rs.length
              have hk := keysI_zip (ks := ks) (ds := ds) (by omega) q2
              refine ⟨a', o, rfl, .inl ⟨_, s1.sub _ _ h, p' _ (it_keys s1 h ?_ hn)⟩⟩
              rw [List.map_fst_zip (by omega)]; exact hk
            | dT h l rs =>
              rename_i a' o ks xs ds
              exfalso
              cases ks with
              | nil => cases hq
              | cons k ks =>
                cases ds with
                | nil => cases hq
                | cons d ds => simp [tupI, keysI] at q2
        · cases q1
      · cases q1
/-! ### d[k] of an int -/
theorem lookI_tup {k : Int} : ∀ {ks : List (List Int)} {ds : List D}, lookI ((ks.map tupI).zip ds) k = none
  | [], _ => rfl
  | _ :: _, [] => by simp [lookI]
  | q :: ks, d :: ds => by
    have := lookI_tup (k := k) (ks := ks) (ds := ds)
    unfold lookI at this ⊢
    simp only [List.map_cons, List.zip_cons_cons, List.find?_cons]
    have e : isKeyI k (tupI q) = false := rfl
    rw [e]; exact this
theorem sm_kget (hu : X.A.units + 65 < cLine) (ha : SimE fa X a ma) (hb : SimE fa X b mb) (hs : noSlice b = true) :
    SimE fa X (.Subscript a b pos) (fun env S => (ma env S).bind fun x S1 => (mb env S1).bind fun y S2 => .ofO (kgetV x y) S2) := by
  refine ⟨fun W tk => PE.imp (pe_dget (by omega) (ha.run W tk) (hb.run W tk) (noSlice_ok hs)) fun σ H Q q => ?_⟩
  refine q.bind (rep := RepV X.K fa) fun env v S1 x F1 H1 ρ1 s1 e1 r1 p1 => ?_
  refine rdG.mk s1 e1 (p1.bind fun w S2 y F2 H2 ρ2 s2 x2 r2 p2 => ?_)
  obtain ⟨u, eu, q2⟩ := p2.ofO
  unfold kgetV at eu
  split at eu
  · rename_i es k
    cases q3 : lookI es k with
    | none => rw [q3] at eu; cases eu
    | some d =>
      rw [q3] at eu
      cases eu
      cases (show Rep X.K F2 y (.int k) from r2)
      have r' : Rep X.K F2 x (.dict es) := Rep.mono x2.fz r1
      cases r' with
      | dct h l rr =>
        obtain ⟨z, hz, rz⟩ := (lookI_rep (kv_zip l rr) k).1 d q3
        exact ⟨_, z, rfl, .inl ⟨_, .inl k, .inr ⟨_, s2.sub _ _ h⟩, rfl, hz.symm⟩, q2 z F2 H2 ρ2 s2 (Ext.refl ..) rz⟩
      | dT h l rr => rw [lookI_tup] at q3; cases q3
  · cases eu
end
/-! ### d.setdefault(k, []) -/
def tSdef (td ty tx : TE) : TE := fun σ H Q => td σ H fun x H1 => ∃ a kvs0, x = .ref a ∧ H1 a = some (.dT kvs0) ∧ ty σ H1 fun y H2 => tx σ H2 fun z H3 => ∃ kvs k b, H3 a = some (.dT kvs) ∧ y = .ref b ∧ H3 b = some (.tup (k.map kV)) ∧
  (∀ v, valV kvs k = some v → Q v H3) ∧ (valV kvs k = none → kvs.length < sizeLine ∧ Q z (upd H3 a (.dT (putK kvs k z))))
section
variable {X : Cx} {o e f : Expr} {apos cpos : Pos} {td ty tx : TE}
theorem pe_sdef (hu : X.A.units + 1 < cLine) (ho : PE X o td) (he : PE X e ty) (hf : PE X f tx) (m : M2 X o "setdefault" apos e f cpos) : PE X (.Call (.Attribute o "setdefault" apos) [e, f] [] cpos) (tSdef td ty tx) := by
  refine ⟨fun pins s σ H Q I h => ?_⟩
  refine wpAny_Call_method m.base m.few m.line PySem.F.plainAttrs_dict PySem.F.slot_dict_setdefault PySem.F.type_dict_setdefault (thn (ho.run pins s σ H _ I h) fun u s1 ⟨x, H1, I1, rx, a, kvs0, ex, d, q1⟩ => ?_)
  subst ex
  obtain rfl : u = Value.ref a := rx
  refine ⟨trd_typeIs I1 (.inl (.inl d)), trd_noDict I1 (.inl (.inl d)), ?_⟩
  rw [m.trees]
  refine Calls.callWith_builtin rfl (Calls.evalArgs_plain (Calls.spliced_cons (thn (he.run pins s1 σ H1 _ I1 q1) fun iv s2 ⟨y, H2, I2, ry, q2⟩ =>
    Calls.spliced_cons (thn (hf.run pins s2 σ H2 _ I2 q2) fun fv s3 ⟨z, H3, I3, rz, kvs, k, b, ed, ey, eb, g1, g2⟩ => Calls.spliced_nil ?_))))
  subst ey
  cases (show iv = Value.ref b from ry)
  obtain ⟨zl, hd, xs, rel, dd⟩ := dt_of I3.hok ed
  have hz : xs.length ≤ sizeLine := by rw [← Paired.length rel]; exact zl
  refine call_setdefault_heap (hsz := hz) (tupleKind_room_in1 hu) (key_of I3.hok eb) hd dd (fun p hp => ?_) fun hn h' dd' hs => ?_
  · have rv := rel.val k
    rw [hp] at rv
    cases hv : valV kvs k with
    | none => rw [hv] at rv; exact rv.elim
    | some v => rw [hv] at rv; exact ⟨v, H3, I3.tok _, rv, g1 v hv⟩
  · have rv := rel.val k
    rw [hn] at rv
    have hv : valV kvs k = none := by
      cases hv : valV kvs k with
      | none => rfl
      | some v => rw [hv] at rv; exact rv.elim
    obtain ⟨l, g⟩ := g2 hv
    have hl : (putK kvs k z).length ≤ sizeLine := by have := length_putK kvs k z; omega
    obtain ⟨q, es, ep, hq, h2, h3, h4, _, h5⟩ := dd'
    refine ⟨z, _, d_write (ob := .dT (putK kvs k z)) I3 (by rw [ed]; exact True.intro) hs ⟨q, hq⟩ ⟨hl, hd, _, (rel.put k eb rz).keeps fun c ys ec => ?_, q, es, ep, hq, h2, h3, h4, h5⟩, rz, g⟩
    rw [upd_ne (ne_of ec ed (fun z => nomatch z))]
    exact ec
end
section
variable {fa : FA} {X : Cx} {a b c : Expr} {ma mb mc : M Val} {pos : Pos}
theorem sm_sdef {apos lp : Pos} (hu : X.A.units + 65 < cLine) (ha : SimE fa X a ma) (hb : SimE fa X b mb) (m : M2 X a "setdefault" apos b (.List [] lp) pos) :
    SimE fa X (.Call (.Attribute a "setdefault" apos) [b, .List [] lp] [] pos) (fun env S => (ma env S).bind fun x S1 => if isDct S1 x then (mb env S1).bind fun y S2 => sdefV x y S2 else .stuck) := by
  refine ⟨fun W tk => PE.imp (pe_sdef (by omega) (ha.run W tk) (hb.run W tk) (pe_lst pa_nil) m) fun σ H Q q => ?_⟩
  refine q.bind (rep := RepV X.K fa) fun env v S1 x F1 H1 ρ1 s1 e1 r1 p1 => ?_
  cases v with
  | ref n =>
    cases q0 : dctV S1 (.ref n) with
    | none => simp only [isDct, q0] at p1; exact p1.elim
    | some es0 =>
      simp only [isDct, q0, Option.isSome_some, if_true] at p1
      have at_ : ∀ {S : Sto} {F H : Hp} {ρ : Nat → Addr} {es : List (List Int × Val)}, Sim X.K fa F H ρ S → stGet S n = some (.dct es) → ∃ kvs, H (ρ n) = some (.dT kvs) ∧ PrD X.K fa F ρ S.length kvs es := fun {S F H ρ es} s h => by
        obtain ⟨ho, h2, rr⟩ := s.obj n _ h
        cases rr with
        | dct rr => exact ⟨_, h2, rr⟩
      have g0 : ∃ es, stGet S1 n = some (.dct es) := by
        simp only [dctV] at q0
        cases z : stGet S1 n with
        | none => rw [z] at q0; cases q0
        | some o => rw [z] at q0; cases o with
          | dct es => exact ⟨es, rfl⟩
          | _ => cases q0
      obtain ⟨es0', g0⟩ := g0
      obtain ⟨hn1, rfl⟩ := r1
      obtain ⟨kvs0, h20, _⟩ := at_ s1 g0
      refine ⟨_, kvs0, rfl, h20, rdG.mk s1 e1 (p1.bind fun w S2 y F2 H2 ρ2 s2 x2 r2 p2 => ?_)⟩
      have hρ : ρ2 n = ρ1 n := x2.rho n hn1
      refine ⟨by simp, fun p hp => ?_⟩
      unfold sdefV at p2
      cases q1 : keyV w with
      | none => rw [q1] at p2; exact p2.elim
      | some ks =>
        rw [q1] at p2
        dsimp only at p2
        cases q3 : stGet S2 n with
        | none => rw [q3] at p2; exact p2.elim
        | some ob =>
          rw [q3] at p2
          cases ob with
          | dct es =>
            dsimp only at p2
            obtain ⟨b', rfl, hb'⟩ := key_rep r2 q1
            obtain ⟨s3, x3⟩ := s2.junk (o := .lst []) hp
            obtain ⟨kvs, h2, rr⟩ := at_ s3 q3
            rw [hρ] at h2
            refine ⟨kvs, ks.map Sum.inl, b', h2, rfl, s3.sub _ _ hb', fun v hv => ?_, fun hv => ?_⟩
            · cases q4 : lookD es ks with
              | none => rw [(look_rep rr ks).2 q4] at hv; cases hv
              | some u =>
                rw [q4] at p2
                obtain ⟨z, hz, rz⟩ := (look_rep rr ks).1 u q4
                rw [hz] at hv
                cases hv
                exact p2 _ _ _ ρ2 s3 x3 rz
            · cases q4 : lookD es ks with
              | some u =>
                obtain ⟨z, hz, rz⟩ := (look_rep rr ks).1 u q4
                rw [hz] at hv; cases hv
              | none =>
                rw [q4] at p2
                dsimp only at p2
                split at p2
                · rename_i hz
                  refine ⟨by rw [Paired.length rr, ← sLine_eq]; exact hz.1, ?_⟩
                  obtain ⟨ρ4, e4, s4, x4⟩ := s2.alloc hp (.lst .nil)
                  have q5 : stGet (S2 ++ [some (Ob.lst [])]) n = some (.dct es) := by
                    unfold stGet at q3 ⊢
                    rw [List.getElem?_append_left (stGet_lt q3)]; exact q3
                  have hn2 : n < S2.length := stGet_lt q3
                  have hρ4 : ρ4 n = ρ1 n := (x4.rho n hn2).trans hρ
                  obtain ⟨kvs', h2', rr'⟩ := at_ s4 q5
                  rw [hρ4, h2] at h2'
                  cases h2'
                  have rp : RepV X.K fa F2 ρ4 (S2 ++ [some (Ob.lst [])]).length (.ref p) (.ref S2.length) := ⟨by simp, by rw [e4]⟩
                  obtain ⟨s5, x5⟩ := s4.put q5 (RepO.dct (putD_rep (ks := ks) rr' rp))
                  rw [hρ4] at s5 x5
                  exact p2 _ _ _ ρ4 s5 (x4.trans x5) ⟨by simp, by rw [e4]⟩
                · exact p2.elim
          | _ => exact p2.elim
  | _ => exact p1.elim
/-! ### d.update(e) -/
def putsK (kvs more : List (List Key × V)) : List (List Key × V) := more.foldl (fun acc p => putK acc p.1 p.2) kvs
theorem length_putsK : ∀ (more kvs : List (List Key × V)), (putsK kvs more).length ≤ kvs.length + more.length
  | [], _ => Nat.le_refl _
  | p :: more, kvs => by
    have h1 := length_putsK more (putK kvs p.1 p.2)
    have h2 := length_putK kvs p.1 p.2
    show (putsK (putK kvs p.1 p.2) more).length ≤ _
    simp only [List.length_cons]
    omega
theorem kt_puts {H : Hp} {more : List (List Key × V)} {ys : List (List Key × Addr × Value)} (r2 : KT H more ys) : ∀ {kvs : List (List Key × V)} {xs : List (List Key × Addr × Value)}, KT H kvs xs → KT H (putsK kvs more) (storedAllH xs ys) := by
  induction r2 with
  | nil => intro kvs xs r; exact r
  | @cons p q ps qs h t ih =>
    intro kvs xs r
    obtain ⟨h1, h2, h3⟩ := h
    show KT H (putsK (putK kvs p.1 p.2) ps) (storedAllH (storedH xs q.1 q.2.1 q.2.2) qs)
    rw [← h1]
    exact ih (r.put p.1 h2 h3)
theorem puts_rep {K : PySem.W.Frag} {fa : FA} {F : Hp} {ρ : Nat → Addr} {n : Nat} {more : List (List Key × V)} {es2 : List (List Int × Val)} (r2 : PrD K fa F ρ n more es2) : ∀ {kvs : List (List Key × V)} {es : List (List Int × Val)}, PrD K fa F ρ n kvs es → PrD K fa F ρ n (putsK kvs more) (putsD es es2) := by
  induction r2 with
  | nil => intro kvs es r; exact r
  | @cons p q ps qs h t ih =>
    intro kvs es r
    show PrD K fa F ρ n (putsK (putK kvs p.1 p.2) ps) (putsD (putD es q.1 q.2) qs)
    rw [h.1]
    exact ih (putD_rep r h.2)
theorem m1_ok {X : Cx} {o e : Expr} {m : Str} {apos cpos : Pos} (h0 : notCall0 o = true) (h1 : noStar e = true) (hl : (apos.endLine == cpos.line) = true) : M1 X o m apos e cpos where
  base := attrBase h0 _ _ _
  few := by
    have e1 : starEach [e] X.env = [(false, eval e X.env)] := by rw [starEach_cons h1]; rfl
    rw [e1]; rfl
  line := hl
  trees := by
    have e1 : starEach [e] X.env = [(false, eval e X.env)] := by rw [starEach_cons h1]; rfl
    rw [e1]; rfl
def tUpd (td ty : TE) : TE := fun σ H Q => td σ H fun x H1 => ∃ a kvs0, x = .ref a ∧ H1 a = some (.dT kvs0) ∧ ty σ H1 fun y H2 => ∃ (t : Addr) (kvs more : List (List Key × V)) (ls : List (List Int)), y = .ref t ∧ a ≠ t ∧ H2 a = some (.dT kvs) ∧ TRd H2 t more ∧ more.map (·.1) = ls.map (fun q => q.map Sum.inl) ∧ (∀ l ∈ ls, smallK l = true) ∧ kvs.length + more.length ≤ sizeLine ∧ Q .non (upd H2 a (.dT (putsK kvs more)))
section
variable {X : Cx} {o e : Expr} {apos cpos : Pos} {td ty : TE}
theorem pe_upd (hu : X.A.units + 65 < cLine) (ho : PE X o td) (he : PE X e ty) (m : M1 X o "update" apos e cpos) : PE X (.Call (.Attribute o "update" apos) [e] [] cpos) (tUpd td ty) := by
  refine ⟨fun pins s σ H Q I h => ?_⟩
  refine wpAny_Call_method m.base m.few m.line PySem.F.plainAttrs_dict PySem.F.slot_dict_update PySem.F.type_dict_update (thn (ho.run pins s σ H _ I h) fun u s1 ⟨x, H1, I1, rx, a, kvs0, ex, d, q1⟩ => ?_)
  subst ex
  obtain rfl : u = Value.ref a := rx
  refine ⟨trd_typeIs I1 (.inl (.inl d)), trd_noDict I1 (.inl (.inl d)), ?_⟩
  rw [m.trees]
  refine Calls.callWith_builtin rfl (Calls.evalArgs_plain (Calls.spliced_cons (thn (he.run pins s1 σ H1 _ I1 q1) fun iv s2 ⟨y, H2, I2, ry, t, kvs, more, ls, ey, hat, ed, et, ek, hk, hz, g⟩ => Calls.spliced_nil ?_)))
  subst ey
  cases (show iv = Value.ref t from ry)
  obtain ⟨zl, hd, xs, rel, dd⟩ := dt_of I2.hok ed
  obtain ⟨zl2, hd2, ys, rel2, dd2⟩ := dt_rdX I2.hok et
  have hkeys : ys.map (·.1) = more.map (·.1) := by
    clear dd2 zl2 ek et hz g
    induction rel2 with
    | nil => rfl
    | cons h _ ih => rw [List.map_cons, List.map_cons, ih, h.1]
  have htup : ∀ y ∈ ys, ∃ k, H2 y.2.1 = some (.tup (k.map kV)) ∧ y.1 = k := by
    clear dd2 zl2 ek et hz g hkeys
    induction rel2 with
    | nil => intro y hy; cases hy
    | @cons p q ps qs h _ ih =>
      intro y hy
      rcases List.mem_cons.mp hy with rfl | hy
      · exact ⟨p.1, h.2.1, h.1.symm⟩
      · exact ih y hy
  refine call_update_dictH (knd := tupleKind (mixKind X.prog X.w)) (by show X.A.in1.units < cLine; show X.A.units + 1 < cLine; omega) hat hd2 dd dd2 (.inr ⟨fun y hy => ?_, ?_⟩) (by rw [← Paired.length rel, ← Paired.length rel2]; exact hz) fun h' d1 d2 hs => ?_
  · obtain ⟨k, h1, rfl⟩ := htup y hy
    obtain ⟨o, its, n, g1, g2, g3, g4⟩ := key_of I2.hok h1
    exact ⟨o, g1, g2⟩
  · have nd : (ys.map (·.1)).Nodup := dd2.nodup
    rw [hkeys, ek] at nd
    have e : (ys.map fun x => (tupleKind (mixKind X.prog X.w)).hash x.1) = ls.map fun l => (tupleKind (mixKind X.prog X.w)).hash (l.map Sum.inl) := by
      have : (ys.map fun x => (tupleKind (mixKind X.prog X.w)).hash x.1) = (ys.map (·.1)).map (tupleKind (mixKind X.prog X.w)).hash := by rw [List.map_map]; rfl
      rw [this, hkeys, ek, List.map_map]; rfl
    rw [e]
    refine List.pairwise_map.mpr ((List.pairwise_map.mp nd).imp_of_mem fun {x y} hx hy ne z => ne ?_)
    rw [hash_apart (hk x hx) (hk y hy) z]
  · have hl : (putsK kvs more).length ≤ sizeLine := Nat.le_trans (length_putsK more kvs) hz
    obtain ⟨q, es, ep, hq, h2, h3, h4, _, h5⟩ := d1
    refine ⟨.non, _, d_write (ob := .dT (putsK kvs more)) I2 (by rw [ed]; exact True.intro) hs ⟨q, hq⟩ ⟨hl, hd, _, (kt_puts rel2 rel).keeps fun c ys ec => ?_, q, es, ep, hq, h2, h3, h4, h5⟩, rfl, g⟩
    rw [upd_ne (ne_of ec ed (fun z => nomatch z))]
    exact ec
end
section
variable {fa : FA} {X : Cx} {a b c : Expr} {ma mb mc : M Val} {pos : Pos}
theorem sm_upd {apos : Pos} (hu : X.A.units + 65 < cLine) (ha : SimE fa X a ma) (hb : SimE fa X b mb) (m : M1 X a "update" apos b pos) :
    SimE fa X (.Call (.Attribute a "update" apos) [b] [] pos) (fun env S => (ma env S).bind fun x S1 => if isDct S1 x then (mb env S1).bind fun y S2 => updV x y S2 else .stuck) := by
  refine ⟨fun W tk => PE.imp (pe_upd hu (ha.run W tk) (hb.run W tk) m) fun σ H Q q => ?_⟩
  refine q.bind (rep := RepV X.K fa) fun env v S1 x F1 H1 ρ1 s1 e1 r1 p1 => ?_
  cases v with
  | ref n =>
    cases q0 : dctV S1 (.ref n) with
    | none => simp only [isDct, q0] at p1; exact p1.elim
    | some es0 =>
      simp only [isDct, q0, Option.isSome_some, if_true] at p1
      have at_ : ∀ {S : Sto} {F H : Hp} {ρ : Nat → Addr} {es : List (List Int × Val)}, Sim X.K fa F H ρ S → stGet S n = some (.dct es) → ∃ kvs, H (ρ n) = some (.dT kvs) ∧ PrD X.K fa F ρ S.length kvs es := fun {S F H ρ es} s h => by
        obtain ⟨ho, h2, rr⟩ := s.obj n _ h
        cases rr with
        | dct rr => exact ⟨_, h2, rr⟩
      have g0 : ∃ es, stGet S1 n = some (.dct es) := by
        simp only [dctV] at q0
        cases z : stGet S1 n with
        | none => rw [z] at q0; cases q0
        | some o => rw [z] at q0; cases o with
          | dct es => exact ⟨es, rfl⟩
          | _ => cases q0
      obtain ⟨es0', g0⟩ := g0
      obtain ⟨hn1, rfl⟩ := r1
      obtain ⟨kvs0, h20, _⟩ := at_ s1 g0
      refine ⟨_, kvs0, rfl, h20, rdG.mk s1 e1 (p1.bind fun w S2 y F2 H2 ρ2 s2 x2 r2 p2 => ?_)⟩
      have hρ : ρ2 n = ρ1 n := x2.rho n hn1
      unfold updV at p2
      cases w with
      | d dd =>
        dsimp only at p2
        cases q3 : stGet S2 n with
        | none => rw [q3] at p2; exact p2.elim
        | some ob =>
          rw [q3] at p2
          cases ob with
          | dct es =>
            cases q4 : dctV S2 (.d dd) with
            | none => rw [q4] at p2; exact p2.elim
            | some more =>
              rw [q4] at p2
              dsimp only at p2
              split at p2
              · rename_i hc
                simp only [Bool.and_eq_true, decide_eq_true_eq, List.all_eq_true] at hc
                obtain ⟨⟨c1, c2⟩, c3⟩ := hc
                obtain ⟨kvs, h2, rr⟩ := at_ s2 q3
                obtain ⟨t, mo, rfl, ht, rm⟩ := dct_at s2 r2 q4
                have off := s2.off n _ q3
                have hne : ρ1 n ≠ t := fun e => by
                  have r3 : Rep X.K F2 (.ref t) dd := r2
                  rw [hρ, e] at off
                  cases r3 with
                  | lst h _ => rw [h] at off; cases off
                  | tup h _ => rw [h] at off; cases off
                  | dct h _ _ => rw [h] at off; cases off
                  | dT h _ _ => rw [h] at off; cases off
                have l1 : kvs.length = es.length := Paired.length rr
                have l2 : mo.length = more.length := Paired.length rm
                obtain ⟨s3, x3⟩ := s2.put q3 (RepO.dct (puts_rep rm rr))
                rw [hρ] at h2 s3 x3
                refine ⟨t, kvs, mo, more.map (·.1), rfl, hne, h2, ht, by rw [keys_pair rm, List.map_map]; rfl, fun l hl => ?_, by rw [sizeLine_eq]; omega, ?_⟩
                · obtain ⟨p, hp, rfl⟩ := List.mem_map.mp hl
                  exact c1 p hp
                · exact p2 _ _ _ ρ2 s3 x3 .non
              · exact p2.elim
          | _ => exact p2.elim
      | _ => exact p2.elim
  | _ => exact p1.elim
end
/-! ### a local's thing frozen ahead of a statement -/
def frzM (i : Nat) (ms : MS_) : MS_ := fun env S => match lookE env i with
  | some v => .ofR env (fzV v S) fun w S1 => ms (env.set i (some w)) S1
  | none => .stuck
theorem ss_frz {st : Stmt} {ms : MS_} {i : Nat} (h : SimS fa X st ms) : SimS fa X st (frzM i ms) := by
  refine ⟨fun W tk => ⟨fun pins s σ H D I q => ?_⟩⟩
  obtain ⟨env, S, F, ρ, s0, e, p⟩ := q
  unfold frzM at p
  cases q0 : lookE env i with
  | none => rw [q0] at p; exact p.elim
  | some v =>
    rw [q0] at p
    dsimp only at p
    obtain ⟨x, hx, r⟩ := e.look i v q0
    have pp : Post X.K fa W (RepV X.K fa) F H ρ S σ (fzV v S) (fun x' H1 => x' = x → rdS X.K fa W ms D σ H1) := PostS.bind e p fun w S1 x' F1 H1 ρ1 s1 x1 r1 p1 => fun ex => by
      subst ex
      refine ⟨env.set i (some w), S1, F1, ρ1, s1, ?_, p1⟩
      have ee := (e.mono x1.fz x1.rho x1.len).set r1 i
      have es : σ.set i (some x') = σ := by
        refine List.ext_getElem? fun j => ?_
        by_cases hj : i = j
        · subst hj
          rw [List.getElem?_set_self (List.getElem?_eq_some_iff.mp hx).1, hx]
        · rw [List.getElem?_set_ne hj]
      rw [es] at ee
      exact ee
    rcases fz_of s0 r pp with q | ⟨a', u, ex, hu, mu, q⟩
    · exact (h.run W tk).run pins s σ H D I (q rfl)
    · obtain ⟨od, I1⟩ := I.lock hu mu
      exact (h.run W tk).run pins s σ _ D I1 (q od rfl)
end
end MS

-- MsLz
/-! list(zip(a, b)). -/
namespace MS
open PySem PySem.Spec PyProof.Rows L2
section
variable {prog : Program} {w : World} {A : Around} {E : Value → Shared → Prop} {s : Shared} {z TI TO i1 i2 : Addr} {fp1 fp2 : List Addr} {n1 n2 i : Nat} {P1 P2 : Nat → Value → Prop} {St1 St2 : Nat → Heap → Prop} {a1 a2 : Value}
theorem zipD2_held_item {T : Addr} {f : Bool} {oT : Obj} {Q : Value → Shared → Prop} (S : ZipSep2 z TI TO i1 i2 fp1 fp2) (D1 : Draws prog w A i1 fp1 n1 P1 St1) (D2 : Draws prog w A i2 fp2 n2 P2 St2)
    (hz : IsZipHeld s.heap z TI TO T f) (hT : s.heap.get? T = some oT) (hTI : IsTupOf2 s.heap TI (.ref i1) (.ref i2)) (st1 : St1 i s.heap) (st2 : St2 i s.heap) (hlt1 : i < n1) (hlt2 : i < n2)
    (hQ : ∀ x1 x2 h' tk, P1 i x1 → P2 i x2 → IsZipHeld h' z TI TO T true → St1 (i + 1) h' → St2 (i + 1) h' → IsTupOf2 h' s.heap.objs.size x1 x2 → h'.objs.size = s.heap.objs.size + 1 →
      (∀ c o, c ≠ z → c ≠ i1 → c ≠ i2 → s.heap.get? c = some o → h'.get? c = some o) → Q (.ref s.heap.objs.size) { s with heap := h', toks := tk }) :
    wpAny (model prog w) A (Builtin.«zip.__next__» ⟨[.ref z], []⟩) (fun fin s' => ∃ v, fin = .done (.ret v) ∧ Q v s') E s := by
  obtain ⟨hp, g, d, tk0, os⟩ := s
  show wpAny _ _ (field (.ref z) 2 >>= _) _ _ _
  refine wpAny_bind (wpAny_field hz rfl (x := .bool false) rfl ?_)
  show wpAny _ _ (field (.ref z) 3 >>= _) _ _ _
  refine wpAny_bind (wpAny_field hz rfl (x := .ref TI) rfl ?_)
  refine wpAny_bind (wpAny_seqItems hTI rfl ?_)
  show wpAny _ _ (Builtin.SmallTypes.ownedTupleIsFree (.ref z) >>= _) _ _ _
  refine wpAny_bind (wpAny_tupleHeld_zip hz hT fun h₁ hz₁ hs₁ => ?_)
  replace hs₁ : Heap.SameBut z hp h₁ := hs₁
  simp only [Bool.false_eq_true, if_false]
  refine wpAny_bind ?_
  rw [← Array.forIn_toList]
  simp only [List.forIn_cons, List.forIn_nil]
  refine wpAny_bind (wpAny_bind (wpAny_holding ?_))
  show wpAny _ _ (Builtin.SmallTypes.nextOf (.ref i1) >>= _) _ _ ⟨h₁, g, d, tk0, os⟩
  refine wpAny_bind (D1.item i _ _ _ hlt1 (D1.over st1 hs₁ S.zf1) fun x1 p1 tk1 hx1 sn1 hp1 => wpAny_pure ?_)
  replace hp1 : Heap.SameBut i1 h₁ p1 := hp1
  refine wpAny_pure ?_
  refine wpAny_bind (wpAny_bind (wpAny_holding ?_))
  show wpAny _ _ (Builtin.SmallTypes.nextOf (.ref i2) >>= _) _ _ ⟨p1, g, d, tk1, os⟩
  refine wpAny_bind (D2.item i _ _ _ hlt2 (D2.over (D2.over st2 hs₁ S.zf2) hp1 S.sep1_2) fun x2 p2 tk2 hx2 sn2 hp2 => wpAny_pure ?_)
  replace hp2 : Heap.SameBut i2 p1 p2 := hp2
  refine wpAny_pure (wpAny_pure ?_)
  show wpAny _ _ (newTuple [x1, x2] >>= _) _ _ ⟨p2, g, d, tk2, os⟩
  refine wpAny_bind (wpAny_newTuple ?_)
  have hsz : p2.objs.size = hp.objs.size := by rw [hp2.1, hp1.1, hs₁.1]
  have hz₃ : IsZipHeld p2 z TI TO T true := hp2.extBut _ _ S.zi2 (hp1.extBut _ _ S.zi1 hz₁)
  have hk : ∀ c o, c ≠ z → c ≠ i1 → c ≠ i2 → hp.get? c = some o → p2.get? c = some o := fun c o c1 c2 c3 e => hp2.extBut _ _ c3 (hp1.extBut _ _ c2 (hs₁.extBut _ _ c1 e))
  have hj1 : St1 (i + 1) p2 := D1.over sn1 hp2 S.sep2_1
  refine wpAny_pure ⟨_, rfl, ?_⟩
  show Q (.ref p2.objs.size) ⟨p2.push { cls := .type "tuple", data := .seq #[x1, x2] }, g, d, tk2, os⟩
  have hp : IsTupOf2 (p2.push { cls := .type "tuple", data := .seq #[x1, x2] }) p2.objs.size x1 x2 := Heap.get?_push_size _ rfl
  have hz4 : (p2.push { cls := .type "tuple", data := .seq #[x1, x2] }).objs.size = p2.objs.size + 1 := Heap.size_push ..
  rw [hsz] at hp hz4 ⊢
  exact hQ x1 x2 _ tk2 hx1 hx2 (Heap.get?_push_of_some _ hz₃) (D1.frame _ _ _ hj1 fun b _ o e => Heap.get?_push_of_some _ e) (D2.frame _ _ _ sn2 fun b _ o e => Heap.get?_push_of_some _ e) hp hz4 fun c o c1 c2 c3 e => Heap.get?_push_of_some _ (hk c o c1 c2 c3 e)
theorem zipD2_held_end {T : Addr} {f : Bool} {oT : Obj} {Q : Fin → Shared → Prop} (S : ZipSep2 z TI TO i1 i2 fp1 fp2) (D1 : Draws prog w A i1 fp1 n1 P1 St1) (D2 : Draws prog w A i2 fp2 n2 P2 St2)
    (hz : IsZipHeld s.heap z TI TO T f) (hT : s.heap.get? T = some oT) (hTI : IsTupOf2 s.heap TI (.ref i1) (.ref i2)) (st1 : St1 i s.heap) (st2 : St2 i s.heap) (hle1 : i ≤ n1) (hle2 : i ≤ n2) (hend : i = n1 ∨ i = n2)
    (hE : ∀ h' tk e, (∀ c o, c ≠ z → c ≠ i1 → c ≠ i2 → s.heap.get? c = some o → h'.get? c = some o) → (∃ o, h'.get? e = some o ∧ o.cls = .type "StopIteration") → E (.ref e) { s with heap := h', toks := tk }) :
    wpAny (model prog w) A (Builtin.«zip.__next__» ⟨[.ref z], []⟩) Q E s := by
  obtain ⟨hp, g, d, tk0, os⟩ := s
  show wpAny _ _ (field (.ref z) 2 >>= _) _ _ _
  refine wpAny_bind (wpAny_field hz rfl (x := .bool false) rfl ?_)
  show wpAny _ _ (field (.ref z) 3 >>= _) _ _ _
  refine wpAny_bind (wpAny_field hz rfl (x := .ref TI) rfl ?_)
  refine wpAny_bind (wpAny_seqItems hTI rfl ?_)
  show wpAny _ _ (Builtin.SmallTypes.ownedTupleIsFree (.ref z) >>= _) _ _ _
  refine wpAny_bind (wpAny_tupleHeld_zip hz hT fun h₁ hz₁ hs₁ => ?_)
  replace hs₁ : Heap.SameBut z hp h₁ := hs₁
  simp only [Bool.false_eq_true, if_false]
  refine wpAny_bind ?_
  rw [← Array.forIn_toList]
  simp only [List.forIn_cons, List.forIn_nil]
  refine wpAny_bind (wpAny_bind (wpAny_holding ?_))
  show wpAny _ _ (Builtin.SmallTypes.nextOf (.ref i1) >>= _) _ _ ⟨h₁, g, d, tk0, os⟩
  by_cases hlt1 : i < n1
  · refine wpAny_bind (D1.item i _ _ _ hlt1 (D1.over st1 hs₁ S.zf1) fun x1 p1 tk1 hx1 sn1 hp1 => wpAny_pure ?_)
    replace hp1 : Heap.SameBut i1 h₁ p1 := hp1
    refine wpAny_pure ?_
    have hi2 : i = n2 := by omega
    refine wpAny_bind (wpAny_bind (wpAny_holding ?_))
    show wpAny _ _ (Builtin.SmallTypes.nextOf (.ref i2) >>= _) _ _ ⟨p1, g, d, tk1, os⟩
    refine wpAny_bind (D2.done ⟨p1, g, d, tk1, os⟩ _ _ (by rw [← hi2]; exact D2.over (D2.over st2 hs₁ S.zf2) hp1 S.sep1_2) fun q e hq he => ?_)
    exact hE q tk1 e (fun c o c1 c2 c3 x => hq _ _ c3 (hp1.extBut _ _ c2 (hs₁.extBut _ _ c1 x))) he
  · have hi1 : i = n1 := by omega
    refine wpAny_bind (D1.done ⟨h₁, g, d, tk0, os⟩ _ _ (by rw [← hi1]; exact D1.over st1 hs₁ S.zf1) fun q e hq he => ?_)
    exact hE q tk0 e (fun c o c1 c2 c3 x => hq _ _ c2 (hs₁.extBut _ _ c1 x)) he
end
/-! ### a zip whose tuples stay -/
def ZlSt (h : Heap) (z TI TO i1 i2 S : Addr) (St1 St2 : Nat → Heap → Prop) (i : Nat) : Prop :=
  IsTupOf2 h TI (.ref i1) (.ref i2) ∧ St1 i h ∧ St2 i h ∧ ((∃ a1 a2, IsZip h z TI TO .none ∧ IsTupOf2 h TO a1 a2) ∨ ∃ T f oT, IsZipHeld h z TI TO T f ∧ h.get? T = some oT ∧ S < T)
/-- the cells of the zip lie below S -/
structure ZlLow (z TI TO i1 i2 S : Addr) (fp1 fp2 : List Addr) : Prop where
  z : z < S
  TI : TI < S
  TO : TO < S
  i1 : i1 < S
  i2 : i2 < S
  f1 : ∀ b ∈ fp1, b < S
  f2 : ∀ b ∈ fp2, b < S
section
variable {prog : Program} {w : World} {A : Around} {E : Value → Shared → Prop} {s : Shared} {z TI TO i1 i2 S : Addr} {fp1 fp2 : List Addr} {n1 n2 i : Nat} {P1 P2 : Nat → Value → Prop} {St1 St2 : Nat → Heap → Prop}
theorem ZlSt.keep {h h' : Heap} (L : ZlLow z TI TO i1 i2 S fp1 fp2) (D1 : Draws prog w A i1 fp1 n1 P1 St1) (D2 : Draws prog w A i2 fp2 n2 P2 St2) (x : ZlSt h z TI TO i1 i2 S St1 St2 i) (hk : ∀ b o, b ≠ S → h.get? b = some o → h'.get? b = some o) : ZlSt h' z TI TO i1 i2 S St1 St2 i := by
  obtain ⟨g1, g2, g3, g4⟩ := x
  refine ⟨hk _ _ (Nat.ne_of_lt L.TI) g1, D1.frame _ _ _ g2 fun b hb o e => hk b o (Nat.ne_of_lt (L.f1 b hb)) e, D2.frame _ _ _ g3 fun b hb o e => hk b o (Nat.ne_of_lt (L.f2 b hb)) e, ?_⟩
  rcases g4 with ⟨a1, a2, q1, q2⟩ | ⟨T, f, oT, q1, q2, q3⟩
  · exact .inl ⟨a1, a2, hk _ _ (Nat.ne_of_lt L.z) q1, hk _ _ (Nat.ne_of_lt L.TO) q2⟩
  · exact .inr ⟨T, f, oT, hk _ _ (Nat.ne_of_lt L.z) q1, hk _ _ (Nat.ne_of_gt q3) q2, q3⟩
theorem zl_item {Q : Option Value → Shared → Prop} (L : ZlLow z TI TO i1 i2 S fp1 fp2) (Sp : ZipSep2 z TI TO i1 i2 fp1 fp2) (D1 : Draws prog w A.in1 i1 fp1 n1 P1 St1) (D2 : Draws prog w A.in1 i2 fp2 n2 P2 St2)
    (hst : ZlSt s.heap z TI TO i1 i2 S St1 St2 i) (hS : S < s.heap.objs.size) (hlt1 : i < n1) (hlt2 : i < n2)
    (hQ : ∀ x1 x2 h' tk, P1 i x1 → P2 i x2 → ZlSt h' z TI TO i1 i2 S St1 St2 (i + 1) → IsTupOf2 h' s.heap.objs.size x1 x2 → h'.objs.size = s.heap.objs.size + 1 →
      (∀ c o, c ≠ z → c ≠ TO → c ≠ i1 → c ≠ i2 → s.heap.get? c = some o → h'.get? c = some o) → Q (some (.ref s.heap.objs.size)) { s with heap := h', toks := tk }) :
    wpAny (model prog w) A (pyNext (.ref z)) Q E s := by
  obtain ⟨g1, g2, g3, g4⟩ := hst
  rcases g4 with ⟨a1, a2, q1, q2⟩ | ⟨T, f, oT, q1, q2, q3⟩
  · refine wpAny_pyNext_zipD2_item Sp D1 D2 q1 g1 q2 g2 g3 hlt1 hlt2 fun x1 x2 h' tk y1 y2 b1 b2 d1 d2 b5 b6 b7 => ?_
    exact hQ x1 x2 h' tk y1 y2 ⟨b7 _ _ Sp.TIz Sp.TITO Sp.TIi1 Sp.TIi2 g1, d1, d2, .inr ⟨_, false, _, b1, b5, hS⟩⟩ b5 b6 b7
  · have hT : s.TypeIs (.ref z) "zip" := ⟨_, q1, rfl⟩
    unfold pyNext
    refine wpAny_bind (wpAny_attempt (wpAny_callSpecial?_slot (name := Str.ofString "__next__") hT F.slot_zip_next
      (wpAny_call_entry F.slot_zip_next hT F.entry_zip_next
        (zipD2_held_item Sp D1 D2 q1 q2 g1 g2 g3 hlt1 hlt2 fun x1 x2 h' tk y1 y2 b1 d1 d2 b5 b6 b7 => wpAny_pure ?_) (F.args_zip_next_1 _))))
    refine hQ x1 x2 h' tk y1 y2 ⟨b7 _ _ Sp.TIz Sp.TIi1 Sp.TIi2 g1, d1, d2, .inr ⟨T, true, oT, b1, b7 _ _ ?_ ?_ ?_ q2, q3⟩⟩ b5 b6 fun c o c1 _ c3 c4 e => b7 c o c1 c3 c4 e
    · exact Nat.ne_of_gt (Nat.lt_trans L.z q3)
    · exact Nat.ne_of_gt (Nat.lt_trans L.i1 q3)
    · exact Nat.ne_of_gt (Nat.lt_trans L.i2 q3)
theorem zl_done {Q : Option Value → Shared → Prop} (Sp : ZipSep2 z TI TO i1 i2 fp1 fp2) (D1 : Draws prog w A.in1 i1 fp1 n1 P1 St1) (D2 : Draws prog w A.in1 i2 fp2 n2 P2 St2)
    (hst : ZlSt s.heap z TI TO i1 i2 S St1 St2 i) (hle1 : i ≤ n1) (hle2 : i ≤ n2) (hend : i = n1 ∨ i = n2)
    (hQ : ∀ h' tk, (∀ c o, c ≠ z → c ≠ TO → c ≠ i1 → c ≠ i2 → s.heap.get? c = some o → h'.get? c = some o) → Q none { s with heap := h', toks := tk }) : wpAny (model prog w) A (pyNext (.ref z)) Q E s := by
  obtain ⟨g1, g2, g3, g4⟩ := hst
  rcases g4 with ⟨a1, a2, q1, q2⟩ | ⟨T, f, oT, q1, q2, q3⟩
  · exact wpAny_pyNext_zipD2_end Sp D1 D2 q1 g1 q2 g2 g3 hle1 hle2 hend hQ
  · have hT : s.TypeIs (.ref z) "zip" := ⟨_, q1, rfl⟩
    unfold pyNext
    refine wpAny_bind (wpAny_attempt (wpAny_callSpecial?_slot (name := Str.ofString "__next__") hT F.slot_zip_next
      (wpAny_call_entry F.slot_zip_next hT F.entry_zip_next (zipD2_held_end Sp D1 D2 q1 q2 g1 g2 g3 hle1 hle2 hend fun h' tk e hk he => ?_) (F.args_zip_next_1 _))))
    obtain ⟨o, ho, hc⟩ := he
    refine wpAny_bind (wpAny_isInstance (T := "StopIteration") (b := true) ⟨o, ho, hc⟩ isSubtype_stop ?_)
    exact wpAny_pure (hQ _ _ fun c o c1 _ c3 c4 e => hk c o c1 c3 c4 e)
/-- the tuples given out -/
structure ZlG (P1 P2 : Nat → Value → Prop) (lo : Addr) (h : Heap) (as : List Addr) : Prop where
  rise : as.Pairwise (· < ·)
  above : ∀ a ∈ as, lo < a
  pairs : ∀ (j : Nat) (a : Addr), as[j]? = some a → ∃ x1 x2, P1 j x1 ∧ P2 j x2 ∧ IsTupOf2 h a x1 x2
theorem ZlG.there {lo : Addr} {h : Heap} {as : List Addr} (g : ZlG P1 P2 lo h as) {a : Addr} (ha : a ∈ as) : a < h.objs.size := by
  obtain ⟨j, hj⟩ := List.mem_iff_getElem?.mp ha
  obtain ⟨_, _, _, _, e⟩ := g.pairs j a hj
  exact Heap.lt_size e
theorem zip_no_len : typeLookup (.type "zip") "__len__" = pure none := am_miss_of_fast (by decide +kernel)
theorem zip_no_hint : typeLookup (.type "zip") "__length_hint__" = pure none := am_miss_of_fast (by decide +kernel)
theorem zl_hint {r : Addr} {Q : Bool → Shared → Prop} (hT : s.TypeIs (.ref r) "zip") (h : Q true s) : wpAny (model prog w) A (Builtin.List.listLengthHint (.ref r)) Q E s := by
  unfold Builtin.List.listLengthHint
  refine wpAny_bind (wpAny_specialOf hT zip_no_len ?_)
  refine wpAny_bind (wpAny_specialOf hT zip_no_hint ?_)
  exact wpAny_pure h
theorem zl_loop {R : Result → Shared → Prop} (hh : A.handled = none) (L : ZlLow z TI TO i1 i2 S fp1 fp2) (Sp : ZipSep2 z TI TO i1 i2 fp1 fp2) (D1 : ∀ A : Around, A.handled = none → Draws prog w A i1 fp1 n1 P1 St1) (D2 : ∀ A : Around, A.handled = none → Draws prog w A i2 fp2 n2 P2 St2)
    (hn : min n1 n2 ≤ sizeLine) (res : Value) {h₁ : Heap}
    (hR : ∀ h' tk acc c as, (∀ b o, b ≠ S → b ≠ z → b ≠ TO → b ≠ i1 → b ≠ i2 → h₁.get? b = some o → h'.get? b = some o) → h'.get? S = some { cls := .type "list", dict := none, data := .seq acc c, slots := #[] } → as.length = min n1 n2 → ZlG P1 P2 S h' as →
      acc.toList = as.map Value.ref → R (.ok (.ret res)) { s with heap := h', toks := tk }) :
    ∀ (k i : Nat) (h : Heap) (tk c : Nat) (acc : Array Value) (as : List Addr), min n1 n2 - i = k → i ≤ min n1 n2 → ZlSt h z TI TO i1 i2 S St1 St2 i → (∀ b o, b ≠ S → b ≠ z → b ≠ TO → b ≠ i1 → b ≠ i2 → h₁.get? b = some o → h.get? b = some o) →
      h.get? S = some { cls := .type "list", dict := none, data := .seq acc c, slots := #[] } → acc.toList = as.map Value.ref → as.length = i → ZlG P1 P2 S h as →
      codeAny (model prog w) A (.builtin "list.extend.loop" ⟨[.ref S, .ref z, res], []⟩) R { s with heap := h, toks := tk } := by
  have d1 := D1 A.in1.in1 hh
  have d2 := D2 A.in1.in1 hh
  have far : ∀ {a : Addr}, S < a → a ≠ S ∧ a ≠ z ∧ a ≠ TO ∧ a ≠ i1 ∧ a ≠ i2 := fun h => ⟨Nat.ne_of_gt h, Nat.ne_of_gt (Nat.lt_trans L.z h), Nat.ne_of_gt (Nat.lt_trans L.TO h), Nat.ne_of_gt (Nat.lt_trans L.i1 h), Nat.ne_of_gt (Nat.lt_trans L.i2 h)⟩
  intro k
  induction k with
  | zero =>
    intro i h tk c acc as hk hi hst hkeep hS hacc hal hG
    refine codeAny_builtin PySem.F.entry_extend_loop ?_
    rw [Around.under_plainId PySem.F.plain_extend_loop _]
    show wpAny _ A.in1 (pyNext (.ref z) >>= _) _ _ _
    refine wpAny_bind (zl_done (s := { s with heap := h, toks := tk }) (A := A.in1) Sp d1 d2 hst (by omega) (by omega) (by omega) fun h' tk' he => ?_)
    refine wpAny_pure (hR h' tk' acc c as (fun b o b1 b2 b3 b4 b5 e => he b o b2 b3 b4 b5 (hkeep b o b1 b2 b3 b4 b5 e)) (he S _ (Nat.ne_of_gt L.z) (Nat.ne_of_gt L.TO) (Nat.ne_of_gt L.i1) (Nat.ne_of_gt L.i2) hS) (by omega) ⟨hG.rise, hG.above, fun j a hj => ?_⟩ hacc)
    obtain ⟨x1, x2, y1, y2, e3⟩ := hG.pairs j a hj
    obtain ⟨_, m1, m2, m3, m4⟩ := far (hG.above a (List.mem_of_getElem? hj))
    exact ⟨x1, x2, y1, y2, he a _ m1 m2 m3 m4 e3⟩
  | succ k ih =>
    intro i h tk c acc as hk hi hst hkeep hS hacc hal hG
    have hsz : acc.size = i := by rw [← Array.length_toList, hacc, List.length_map, hal]
    refine codeAny_builtin PySem.F.entry_extend_loop ?_
    rw [Around.under_plainId PySem.F.plain_extend_loop _]
    show wpAny _ A.in1 (pyNext (.ref z) >>= _) _ _ _
    have hSl : S < h.objs.size := Heap.lt_size hS
    refine wpAny_bind (zl_item (s := { s with heap := h, toks := tk }) L Sp d1 d2 hst hSl (by omega) (by omega) fun x1 x2 h' tk' y1 y2 hst' ht hz hkp => ?_)
    dsimp only at ht hz hkp ⊢
    have hS' := hkp S _ (Nat.ne_of_gt L.z) (Nat.ne_of_gt L.TO) (Nat.ne_of_gt L.i1) (Nat.ne_of_gt L.i2) hS
    have up : ∀ b o, b ≠ S → h'.get? b = some o → (h'.update S (Obj.mapSeq (·.push (Value.ref h.objs.size)))).get? b = some o := fun b o hb e => (Heap.get?_update_other _ _ (Ne.symm hb)).trans e
    show wpAny _ A.in1 (updateSeq S (·.push (Value.ref h.objs.size)) >>= _) _ _ _
    refine wpAny_bind ?_
    refine wpAny_updateSeq hS' rfl (wpAny_pure ⟨plainId_quiet PySem.F.plain_extend_loop _, ih (i + 1) _ tk' _ (acc.push (Value.ref h.objs.size)) (as ++ [h.objs.size]) (by omega) (by omega) (hst'.keep L d1 d2 up)
      (fun b o b1 b2 b3 b4 b5 e => up b o b1 (hkp b o b2 b3 b4 b5 (hkeep b o b1 b2 b3 b4 b5 e))) (Heap.get?_update_self _ hS' rfl) (by rw [Array.toList_push, hacc, List.map_append]; rfl) (by rw [List.length_append, hal]; rfl) ⟨?_, ?_, ?_⟩⟩) (by rw [hsz]; omega) (by show (acc.push (Value.ref h.objs.size)).size ≤ sizeLine + 1; rw [Array.size_push, hsz]; omega)
    · refine List.pairwise_append.mpr ⟨hG.rise, List.pairwise_singleton _ _, fun a ha b hb => ?_⟩
      rw [List.mem_singleton.mp hb]
      exact hG.there ha
    · intro a ha
      rcases List.mem_append.mp ha with ha | ha
      · exact hG.above a ha
      · rw [List.mem_singleton.mp ha]; exact hSl
    · intro j b hj
      rcases Nat.lt_trichotomy j as.length with h1 | h1 | h1
      · rw [List.getElem?_append_left h1] at hj
        obtain ⟨u1, u2, v1, v2, e3⟩ := hG.pairs j b hj
        obtain ⟨m0, m1, m2, m3, m4⟩ := far (hG.above b (List.mem_of_getElem? hj))
        exact ⟨u1, u2, v1, v2, up b _ m0 (hkp b _ m1 m2 m3 m4 e3)⟩
      · subst h1
        have hb : h.objs.size = b := by simpa using hj
        subst hb
        exact ⟨x1, x2, by rw [hal]; exact y1, by rw [hal]; exact y2, up _ _ (Nat.ne_of_gt hSl) ht⟩
      · have hnone : (as ++ [h.objs.size])[j]? = none := List.getElem?_eq_none (by rw [List.length_append, List.length_singleton]; omega)
        rw [hnone] at hj; cases hj
end
section
variable {prog : Program} {w : World} {A : Around} {E : Value → Shared → Prop} {s : Shared} {z TI TO i1 i2 S : Addr} {fp1 fp2 : List Addr} {n1 n2 i : Nat} {P1 P2 : Nat → Value → Prop} {St1 St2 : Nat → Heap → Prop} {a1 a2 : Value}
theorem zl_extend {R : Result → Shared → Prop} (hh : A.handled = none) (L : ZlLow z TI TO i1 i2 S fp1 fp2) (Sp : ZipSep2 z TI TO i1 i2 fp1 fp2) (D1 : ∀ A : Around, A.handled = none → Draws prog w A i1 fp1 n1 P1 St1) (D2 : ∀ A : Around, A.handled = none → Draws prog w A i2 fp2 n2 P2 St2)
    (hn : min n1 n2 ≤ sizeLine) (res : Value) (c₀ : Nat) (hS : s.heap.get? S = some { cls := .type "list", data := .seq #[] c₀ }) (hz : IsZip s.heap z TI TO .none) (hTI : IsTupOf2 s.heap TI (.ref i1) (.ref i2)) (hTO : IsTupOf2 s.heap TO a1 a2) (st1 : St1 0 s.heap) (st2 : St2 0 s.heap)
    (hR : ∀ h' tk acc c as, (∀ b o, b ≠ S → b ≠ z → b ≠ TO → b ≠ i1 → b ≠ i2 → s.heap.get? b = some o → h'.get? b = some o) → h'.get? S = some { cls := .type "list", dict := none, data := .seq acc c, slots := #[] } → as.length = min n1 n2 → ZlG P1 P2 S h' as →
      acc.toList = as.map Value.ref → R (.ok (.ret res)) { s with heap := h', toks := tk }) :
    wpAny (model prog w) A.in1 (Builtin.List.listExtendWith (.ref S) (.ref z) res)
      (fun fin s' => match fin with | .done f => R (.ok f) s' | .again c' => c'.quiet = true ∧ codeAny (model prog w) A c' R s') (fun e s' => R (.error e) s') s := by
  have hst : ZlSt s.heap z TI TO i1 i2 S St1 St2 0 := ⟨hTI, st1, st2, .inl ⟨a1, a2, hz, hTO⟩⟩
  have key : ∀ (h : Heap) (c₁ tk : Nat), (∀ b o, b ≠ S → s.heap.get? b = some o → h.get? b = some o) →
      h.get? S = some { cls := .type "list", data := .seq #[] c₁ } → codeAny (model prog w) A (.builtin "list.extend.loop" ⟨[.ref S, .ref z, res], []⟩) R { s with heap := h, toks := tk } := by
    intro h c₁ tk hk hS₁
    exact zl_loop (s := s) hh L Sp D1 D2 hn res (h₁ := s.heap) hR (min n1 n2) 0 h tk c₁ #[] [] (Nat.sub_zero _) (Nat.zero_le _) (hst.keep L (D1 A hh) (D2 A hh) hk) (fun b o b1 _ _ _ _ e => hk b o b1 e) hS₁ rfl rfl
      ⟨List.Pairwise.nil, (fun _ ha => nomatch ha), (fun j a hj => by simp at hj)⟩
  unfold Builtin.List.listExtendWith
  refine wpAny_bind (wpAny_typeOf (T := "zip") ⟨_, hz, rfl⟩ ?_)
  have h1 : Builtin.List.listSameRef (.ref S) (.ref z) = false := by simp [Builtin.List.listSameRef, Nat.ne_of_gt L.z]
  have h2 : (Value.type "zip" == Value.type "list") = false := by decide
  have h3 : (Value.type "zip" == Value.type "tuple") = false := by decide
  simp only [h1, h2, h3, Bool.or_false, Bool.false_eq_true, if_false]
  refine wpAny_bind (wpAny_pyIter_zip hz ?_)
  refine wpAny_bind (wpAny_holding (zl_hint ⟨_, hz, rfl⟩ ?_))
  refine wpAny_ite_split (fun _ => ?_) (fun _ => wpAny_pure ⟨plainId_quiet PySem.F.plain_extend_loop _, key _ c₀ _ (fun b o _ e => e) hS⟩)
  refine wpAny_bind (wpAny_rule ?_)
  refine wpAny_bind ?_
  show wpAny _ _ (updateSeq S (·.push .none) >>= fun _ => updateSeq S (·.pop)) _ _ _
  refine wpAny_bind (wpAny_updateSeq hS rfl ?_)
  have hS₂ := Heap.get?_update_self (Obj.mapSeq (·.push Value.none)) hS rfl
  refine wpAny_updateSeq (hz := by seq_fits) hS₂ rfl ?_
  have hS₃ := Heap.get?_update_self (Obj.mapSeq (·.pop)) hS₂ rfl
  refine wpAny_pure ⟨plainId_quiet PySem.F.plain_extend_loop _, key _ _ _ (fun b o hb e => ?_) hS₃⟩
  exact (Heap.get?_update_other _ _ (Ne.symm hb)).trans ((Heap.get?_update_other _ _ (Ne.symm hb)).trans e)
theorem zl_init {R : Result → Shared → Prop} (hh : A.handled = none) (L : ZlLow z TI TO i1 i2 S fp1 fp2) (Sp : ZipSep2 z TI TO i1 i2 fp1 fp2) (D1 : ∀ A : Around, A.handled = none → Draws prog w A i1 fp1 n1 P1 St1) (D2 : ∀ A : Around, A.handled = none → Draws prog w A i2 fp2 n2 P2 St2)
    (hn : min n1 n2 ≤ sizeLine) (hS : s.heap.get? S = some { cls := .type "list", data := .seq #[] }) (hz : IsZip s.heap z TI TO .none) (hTI : IsTupOf2 s.heap TI (.ref i1) (.ref i2)) (hTO : IsTupOf2 s.heap TO a1 a2) (st1 : St1 0 s.heap) (st2 : St2 0 s.heap)
    (hR : ∀ h' tk acc c as, (∀ b o, b ≠ S → b ≠ z → b ≠ TO → b ≠ i1 → b ≠ i2 → s.heap.get? b = some o → h'.get? b = some o) → h'.get? S = some { cls := .type "list", dict := none, data := .seq acc c, slots := #[] } → as.length = min n1 n2 → ZlG P1 P2 S h' as →
      acc.toList = as.map Value.ref → R (.ok (.ret .none)) { s with heap := h', toks := tk }) :
    wpAny (model prog w) A.in1 (Builtin.«list.__init__» ⟨[.ref S, .ref z], []⟩)
      (fun fin s' => match fin with | .done f => R (.ok f) s' | .again c' => c'.quiet = true ∧ codeAny (model prog w) A c' R s') (fun e s' => R (.error e) s') s := by
  show wpAny _ _ (do let old ← Builtin.List.listItems (.ref S); Builtin.List.listUpdate (.ref S) (fun _ => #[]); letGo old.toList.reverse; Builtin.List.listExtendWith (.ref S) (.ref z) .none) _ _ s
  refine wpAny_bind ?_
  unfold Builtin.List.listItems
  refine wpAny_bind (wpAny_seqItems hS rfl (wpAny_pure ?_))
  show wpAny _ _ (updateSeq S (fun _ => #[]) >>= fun _ => letGo (#[] : Array Value).toList.reverse >>= fun _ => Builtin.List.listExtendWith (.ref S) (.ref z) .none) _ _ s
  refine wpAny_bind (wpAny_updateSeq hS rfl ?_)
  have hS₂ := Heap.get?_update_self (Obj.mapSeq (fun _ => (#[] : Array Value))) hS rfl
  have oth : ∀ b o, b ≠ S → s.heap.get? b = some o → (s.heap.update S (Obj.mapSeq (fun _ => (#[] : Array Value)))).get? b = some o :=
    fun b o hb e => (Heap.get?_update_other _ _ (Ne.symm hb)).trans e
  refine wpAny_bind (wpAny_letGo ?_)
  refine zl_extend (a1 := a1) (a2 := a2) hh L Sp D1 D2 hn .none _ hS₂ (oth _ _ (Nat.ne_of_lt L.z) hz) (oth _ _ (Nat.ne_of_lt L.TI) hTI) (oth _ _ (Nat.ne_of_lt L.TO) hTO) ((D1 A hh).frame _ _ _ st1 fun b hb o e => oth b o (Nat.ne_of_lt (L.f1 b hb)) e) ((D2 A hh).frame _ _ _ st2 fun b hb o e => oth b o (Nat.ne_of_lt (L.f2 b hb)) e) (fun h' tk acc c as hk hS' hl hG hacc => ?_)
  exact hR h' tk acc c as (fun b o b1 b2 b3 b4 b5 e => hk b o b1 b2 b3 b4 b5 (oth b o b1 e)) hS' hl hG hacc
theorem zl_call {Q : Value → Shared → Prop} (hh : A.handled = none) (L : ZlLow z TI TO i1 i2 s.heap.objs.size fp1 fp2) (Sp : ZipSep2 z TI TO i1 i2 fp1 fp2) (D1 : ∀ A : Around, A.handled = none → Draws prog w A i1 fp1 n1 P1 St1) (D2 : ∀ A : Around, A.handled = none → Draws prog w A i2 fp2 n2 P2 St2)
    (hn : min n1 n2 ≤ sizeLine) (hz : IsZip s.heap z TI TO .none) (hTI : IsTupOf2 s.heap TI (.ref i1) (.ref i2)) (hTO : IsTupOf2 s.heap TO a1 a2) (st1 : St1 0 s.heap) (st2 : St2 0 s.heap)
    (hQ : ∀ h' tk acc c as, (∀ b o, b ≠ z → b ≠ TO → b ≠ i1 → b ≠ i2 → s.heap.get? b = some o → h'.get? b = some o) → h'.get? s.heap.objs.size = some { cls := .type "list", dict := none, data := .seq acc c, slots := #[] } → as.length = min n1 n2 → ZlG P1 P2 s.heap.objs.size h' as →
      acc.toList = as.map Value.ref → Q (.ref s.heap.objs.size) { s with heap := h', toks := tk }) :
    wpAny (model prog w) A (call (.type "list") [.ref z]) Q E s := by
  refine callType_codes (Q₁ := fun obj s₁ => obj = .ref s.heap.objs.size ∧ s₁ = { s with heap := s.heap.push { cls := .type "list", data := .seq #[] } }) PySem.F.called_list (PySem.F.typeCall_list_1 _) PySem.F.entry_list_init
    (code_list_new _ ⟨rfl, rfl⟩) fun obj s₁ h₁ => ?_
  obtain ⟨rfl, rfl⟩ := h₁
  have hS : (s.heap.push { cls := .type "list", data := .seq #[] }).get? s.heap.objs.size = some { cls := .type "list", data := .seq #[] } := Heap.get?_push_size _ rfl
  have up : ∀ b o, s.heap.get? b = some o → (s.heap.push { cls := .type "list", data := .seq #[] }).get? b = some o := fun b o e => Heap.get?_push_of_some _ e
  refine ⟨⟨_, hS, rfl⟩, PySem.F.args_list_init_2 _ _, zl_init (A := A.in1) (a1 := a1) (a2 := a2) (s := { s with heap := s.heap.push { cls := .type "list", data := .seq #[] } }) hh L Sp D1 D2 hn hS (up _ _ hz) (up _ _ hTI) (up _ _ hTO) ((D1 A hh).frame _ _ _ st1 fun b _ o e => up b o e) ((D2 A hh).frame _ _ _ st2 fun b _ o e => up b o e) (fun h' tk acc c as hk hS' hl hG hacc => ?_)⟩
  exact ⟨rfl, hQ h' tk acc c as (fun b o b2 b3 b4 b5 e => hk b o (Nat.ne_of_lt (Heap.lt_size e)) b2 b3 b4 b5 (up b o e)) hS' hl hG hacc⟩
end
end MS

-- MsLzP
/-! list(zip(a, b)) as an expression. -/
namespace MS
open PySem PySem.Spec PyProof.Rows L2
theorem neN {a b : Nat} (h : a ≠ b) : a ≠ b := h
theorem ltN {a b : Nat} (h : a < b) : a < b := h
theorem leN {a b : Nat} (h : a ≤ b) : a ≤ b := h
theorem eqN {a b : Nat} (h : a = b) : a = b := h
/-- tuples of two laid one behind the other -/
def layT : Hp → List Addr → List (V × V) → Hp
  | H, a :: as, p :: ps => layT (upd H a (.tup [p.1, p.2])) as ps
  | H, _, _ => H
theorem layT_ne : ∀ (as : List Addr) (ps : List (V × V)) (H : Hp) (b : Addr), b ∉ as → layT H as ps b = H b
  | [], _, _, _, _ => by simp [layT]
  | a :: as, [], _, _, _ => by simp [layT]
  | a :: as, p :: ps, H, b, h => by
    simp only [List.mem_cons, not_or] at h
    rw [layT, layT_ne as ps _ b h.2, upd_ne h.1]
theorem layInv {X : Cx} {pins : List (Addr × Obj)} {σ : L2.St} : ∀ (as : List Addr) (ps : List (V × V)) (H : Hp) (s : Shared) (G' : Heap), Inv X pins σ H s → (∀ b o, s.heap.get? b = some o → G'.get? b = some o) → as.Nodup →
    (∀ a ∈ as, s.heap.get? a = none ∧ H a = none) → Paired (fun a p => ∃ u v, RelV p.1 u ∧ RelV p.2 v ∧ IsTupOf2 G' a u v) as ps →
    ∃ G : Heap, (∀ b o, G.get? b = some o → G'.get? b = some o) ∧ (∀ b, b ∉ as → s.heap.get? b = none → G.get? b = none) ∧ Inv X pins σ (layT H as ps) { s with heap := G }
  | [], [], H, s, G', I, k, _, _, _ => ⟨s.heap, k, fun _ _ h => h, I⟩
  | a :: as, p :: ps, H, s, G', I, k, nd, hf, pr => by
    cases pr with
    | cons hp pr =>
      obtain ⟨u, v, ru, rv, ht⟩ := hp
      obtain ⟨hn1, hn2⟩ := List.nodup_cons.mp nd
      obtain ⟨h1, h2⟩ := hf a (by simp)
      obtain ⟨G, g1, g2⟩ := restrict G' fun b => (s.heap.get? b).isSome || decide (b = a)
      have kG : ∀ b o, s.heap.get? b = some o → G.get? b = some o := fun b o e => by rw [g1 b (by rw [e]; rfl)]; exact k b o e
      have ga : G.get? a = some { cls := .type "tuple", data := .seq #[u, v] } := by rw [g1 a (by simp)]; exact ht
      have gG : ∀ b o, G.get? b = some o → G'.get? b = some o := fun b o e => by
        cases q : ((s.heap.get? b).isSome || decide (b = a)) with
        | true => rw [← g1 b q]; exact e
        | false => rw [g2 b q] at e; cases e
      have I1 : Inv X pins σ (upd H a (.tup [p.1, p.2])) { s with heap := G } := by
        refine I.laidN (t' := s.toks) kG h1 h2 ⟨by show 2 ≤ sizeLine; decide, [u, v], .cons ru (.cons rv .nil), ⟨_, ga, rfl, _, rfl⟩⟩
      have hf2 : ∀ b ∈ as, ({ s with heap := G } : Shared).heap.get? b = none ∧ upd H a (.tup [p.1, p.2]) b = none := fun b hb => by
        have hba : b ≠ a := fun z => hn1 (by rw [← z]; exact hb)
        obtain ⟨w1, w2⟩ := hf b (by simp [hb])
        exact ⟨g2 b (by rw [w1]; simp [hba]), by rw [upd_ne hba]; exact w2⟩
      obtain ⟨G2, q1, q2, q3⟩ := layInv as ps _ { s with heap := G } G' I1 gG hn2 hf2 pr
      refine ⟨G2, q1, fun b hb hz => q2 b (fun z => hb (by simp [z])) ?_, q3⟩
      have hba : b ≠ a := fun z => hb (by simp [z])
      exact g2 b (by rw [hz]; simp [hba])
  | [], _ :: _, _, _, _, _, _, _, _, h => by cases h
  | _ :: _, [], _, _, _, _, _, _, _, h => by cases h
def rLz (K : PySem.W.Frag) : List V → Hp → VK → Prop := fun vs H1 Q => ∃ a b xs ys, vs = [.ref a, .ref b] ∧ ((SqL K H1 a xs ∧ SqL K H1 b ys) ∨ (SqT K H1 a xs ∧ SqT K H1 b ys)) ∧
  ∀ as p, as.length = (xs.zip ys).length → as.Nodup → (∀ a ∈ as, H1 a = none) → p ∉ as → H1 p = none → Q (.ref p) (upd (layT H1 as (xs.zip ys)) p (.lst (as.map V.ref)))
def tLz (K : PySem.W.Frag) (ta : TA) : TE := fun σ H Q => ta σ H fun vs H1 => rLz K vs H1 Q
theorem vals_refs : ∀ as : List Addr, Vals (as.map V.ref) (as.map Value.ref)
  | [] => .nil
  | a :: as => .cons rfl (vals_refs as)
theorem zl_pairs {P1 P2 : Nat → Value → Prop} {xs ys : List V} {us ws : List Value} (h1 : Vals xs us) (h2 : Vals ys ws) {lo : Addr} {h : Heap} {as : List Addr} (g : ZlG (fun i v => us.toArray[i]? = some v) (fun i v => ws.toArray[i]? = some v) lo h as) (hl : as.length = min us.length ws.length) :
    Paired (fun a p => ∃ u v, RelV p.1 u ∧ RelV p.2 v ∧ IsTupOf2 h a u v) as (xs.zip ys) := by
  have l1 := h1.length
  have l2 := h2.length
  have lz : as.length = (xs.zip ys).length := by rw [List.length_zip, l1, l2]; exact hl
  have key : ∀ (as : List Addr) (zs : List (V × V)), as.length = zs.length → (∀ (j : Nat) (a : Addr) (p : V × V), as[j]? = some a → zs[j]? = some p → ∃ u v, RelV p.1 u ∧ RelV p.2 v ∧ IsTupOf2 h a u v) → Paired (fun a p => ∃ u v, RelV p.1 u ∧ RelV p.2 v ∧ IsTupOf2 h a u v) as zs := by
    intro as
    induction as with
    | nil => intro zs h _; cases zs with
      | nil => exact .nil
      | cons _ _ => simp at h
    | cons a as ih => intro zs h k; cases zs with
      | nil => simp at h
      | cons p zs => exact .cons (k 0 a p rfl rfl) (ih zs (by simpa using h) fun j b q hb hq => k (j + 1) b q (by simpa using hb) (by simpa using hq))
  refine key as _ lz fun j a p ha hp => ?_
  obtain ⟨x1, x2, y1, y2, e⟩ := g.pairs j a ha
  obtain ⟨p1, p2⟩ := List.getElem?_zip_eq_some.mp hp
  obtain ⟨u', hu, ru⟩ := h1.get p1
  obtain ⟨v', hv, rv⟩ := h2.get p2
  have y1 : us[j]? = some x1 := by simpa using y1
  have y2 : ws[j]? = some x2 := by simpa using y2
  rw [hu] at y1; cases y1
  rw [hv] at y2; cases y2
  exact ⟨_, _, ru, rv, e⟩
section
variable {X : Cx}
theorem pe_lz {e e2 : Expr} {ta : TA} {p p2 pos q : Pos} (hg : Gl X "list") (hm : X.mg "list" = none) (hg2 : Gl X "zip") (hm2 : X.mg "zip" = none) (hc : X.calm = true) (ha : PA X [e, e2] ta)
    (hs : starEach [e, e2] X.env = (false, eval e X.env) :: starEach [e2] X.env) (hpl : (backTo q (starEach [e2] X.env)).any (·.1) = false) :
    PE X (.Call (.Name "list" p) [.Call (.Name "zip" p2) [e, e2] [] q] [] pos) (tLz X.K ta) := by
  refine ⟨fun pins s σ H Q I h => Call_ (ld_blt I hg hm PyProof.Rows.boot_list (PyProof.Rows.callWith_type1 (PyProof.Rows.args_cons (Call_ (ld_blt I hg2 hm2 PyProof.Rows.boot_zip ?_)) rfl) rfl rfl))⟩
  refine PyProof.Rows.callWith_type1 (thn (ha.run q pins s σ H _ I h) fun us s1 ⟨vs, H1, I1, r1, q1⟩ => ?_) hs hpl
  obtain ⟨a, b, xs, ys, rfl, hq, q1⟩ := q1
  cases r1 with
  | cons r rr =>
    cases rr with
    | cons r' rr =>
      cases rr
      cases r
      cases r'
      have hd := I1.ok.hd hc
      have fin : ∀ {its1 its2 : List Value} {h5 h' : Heap} {tk c : Nat} {acc : Array Value} {as : List Addr}, Vals xs its1 → Vals ys its2 → xs.length ≤ sizeLine →
          h5.objs.size = s1.heap.objs.size + 5 → (∀ c o, s1.heap.get? c = some o → h5.get? c = some o) → (∀ b o, b ≠ s1.heap.objs.size + 4 → b ≠ s1.heap.objs.size + 3 → b ≠ s1.heap.objs.size → b ≠ s1.heap.objs.size + 1 → h5.get? b = some o → h'.get? b = some o) →
          h'.get? h5.objs.size = some { cls := .type "list", dict := none, data := .seq acc c, slots := #[] } → as.length = min its1.length its2.length → ZlG (fun i v => its1.toArray[i]? = some v) (fun i v => its2.toArray[i]? = some v) h5.objs.size h' as → acc.toList = as.map Value.ref →
          ∃ v H', Inv X pins σ H' { s1 with heap := h', toks := tk } ∧ RelV v (Value.ref h5.objs.size) ∧ Q v H' := by
        intro its1 its2 h5 h' tk c acc as v1 v2 hzl hsz hk hk2 hS hl hG hacc
        have old : ∀ b o, s1.heap.get? b = some o → h'.get? b = some o := fun b o e => by
          have hb : @LT.lt Nat _ b s1.heap.objs.size := Heap.lt_size e
          exact hk2 b o (neN (by omega)) (neN (by omega)) (neN (by omega)) (neN (by omega)) (hk b o e)
        have nd : as.Nodup := hG.rise.imp fun h => Nat.ne_of_lt h
        have fre : ∀ {a : Addr}, s1.heap.objs.size ≤ a → s1.heap.get? a = none := fun {a} ha => by
          cases q : s1.heap.get? a with
          | none => rfl
          | some o => exact absurd (Heap.lt_size q) (Nat.not_lt.mpr ha)
        have abv : ∀ a ∈ as, s1.heap.objs.size ≤ a := fun a ha => leN (by have : @LT.lt Nat _ h5.objs.size a := hG.above a ha; omega)
        have hfr : ∀ a ∈ as, s1.heap.get? a = none ∧ H1 a = none := fun a ha => ⟨fre (abv a ha), I1.hok.fresh (abv a ha)⟩
        have hSas : h5.objs.size ∉ as := fun z => Nat.lt_irrefl _ (hG.above _ z)
        have pr := zl_pairs (P1 := fun _ _ => True) (P2 := fun _ _ => True) v1 v2 hG hl
        obtain ⟨G, g1, g2, I2⟩ := layInv as (xs.zip ys) H1 s1 h' I1 old nd hfr pr
        have lz : as.length = (xs.zip ys).length := by rw [List.length_zip, v1.length, v2.length]; exact hl
        have hp : H1 h5.objs.size = none := I1.hok.fresh (leN (by omega))
        have I3 : Inv X pins σ (upd (layT H1 as (xs.zip ys)) h5.objs.size (.lst (as.map V.ref))) { s1 with heap := h', toks := tk } := by
          refine I2.laidN (t' := tk) g1 (g2 _ hSas (fre (leN (by omega)))) (by rw [layT_ne as _ _ _ hSas]; exact hp) ⟨?_, as.map Value.ref, c, vals_refs as, ?_⟩
          · rw [List.length_map, lz, List.length_zip]; exact Nat.le_trans (Nat.min_le_left _ _) hzl
          · rw [hS, ← hacc]
        exact ⟨.ref h5.objs.size, _, I3, rfl, q1 as _ lz nd (fun a ha => (hfr a ha).2) hSas hp⟩
      have low : ∀ {N a b : Nat}, a < N → b < N → ZlLow (N + 4) (N + 2) (N + 3) N (N + 1) (N + 5) [N, a] [N + 1, b] := fun {N a b} h1 h2 => by
        have h1 : @LT.lt Nat _ a N := h1
        have h2 : @LT.lt Nat _ b N := h2
        refine ⟨ltN (by omega), ltN (by omega), ltN (by omega), ltN (by omega), ltN (by omega), fun c hc => ltN ?_, fun c hc => ltN ?_⟩
        all_goals (simp only [List.mem_cons, List.not_mem_nil, or_false] at hc; rcases hc with hc | hc <;> (have hc : @Eq Nat c _ := hc) <;> omega)
      rcases hq with ⟨hqx, hqy⟩ | ⟨hqx, hqy⟩
      · obtain ⟨it1, rv, l1, z1⟩ := I1.list hqx
        obtain ⟨it2, rv2, l2, z2⟩ := I1.list hqy
        refine call_zip_2 l1.isList l2.isList fun h5 g1 g2 g3 g4 g5 hsz hk => PyProof.Rows.args_nil ?_
        have D := PySem.W.ktu_apart s1.heap.objs.size a b l1.lt l2.lt
        refine zl_call (s := { s1 with heap := h5 }) (n1 := it1.length) (n2 := it2.length) hd (by show ZlLow _ _ _ _ _ h5.objs.size _ _; rw [hsz]; exact low l1.lt l2.lt) (sep_of D) (fun A hA => Draws.list hA _ _ D.l1i1 it1.toArray) (fun A hA => Draws.list hA _ _ D.l2i2 it2.toArray) ?_ g1 g2 g3 ⟨g4, l1.isList.at fun o e => hk _ _ e⟩ ⟨g5, l2.isList.at fun o e => hk _ _ e⟩ fun h' tk acc c as hk2 hS hl hG hacc => ?_
        · rw [← rv.length]; exact Nat.le_trans (Nat.min_le_left _ _) z1
        · exact fin rv rv2 z1 hsz hk hk2 hS hl hG hacc
      · obtain ⟨it1, rv, l1, z1⟩ := I1.tuple hqx
        obtain ⟨it2, rv2, l2, z2⟩ := I1.tuple hqy
        obtain ⟨o1, ho1, _⟩ := id l1
        obtain ⟨o2, ho2, _⟩ := id l2
        refine RZ.call_zipT (xs := it1.toArray) (ys := it2.toArray) l1 l2 fun h5 g1 g2 g3 g4 g5 hsz hk => PyProof.Rows.args_nil ?_
        have D := PySem.W.ktu_apart s1.heap.objs.size a b (Heap.lt_size ho1) (Heap.lt_size ho2)
        refine zl_call (s := { s1 with heap := h5 }) (n1 := it1.length) (n2 := it2.length) hd (by show ZlLow _ _ _ _ _ h5.objs.size _ _; rw [hsz]; exact low (Heap.lt_size ho1) (Heap.lt_size ho2)) (sep_of D) (fun A hA => Draws.tuple hA _ _ D.l1i1 it1.toArray) (fun A hA => Draws.tuple hA _ _ D.l2i2 it2.toArray) ?_ g1 g2 g3 ⟨g4, let ⟨o, ho, x⟩ := l1; ⟨o, hk _ _ ho, x⟩⟩ ⟨g5, let ⟨o, ho, x⟩ := l2; ⟨o, hk _ _ ho, x⟩⟩ fun h' tk acc c as hk2 hS hl hG hacc => ?_
        · rw [← rv.length]; exact Nat.le_trans (Nat.min_le_left _ _) z1
        · exact fin rv rv2 z1 hsz hk hk2 hS hl hG hacc
end
/-! ### its meaning -/
theorem Reps.zipD {K : PySem.W.Frag} {F : Hp} : ∀ {xs ys : List V} {ds es : List D}, Reps K F xs ds → Reps K F ys es → Paired (fun (p : V × V) (q : D × D) => Rep K F p.1 q.1 ∧ Rep K F p.2 q.2) (xs.zip ys) (ds.zip es)
  | _, _, _, _, .nil, _ => by simp; exact .nil
  | _, _, _, _, .cons _ _, .nil => by simp; exact .nil
  | _, _, _, _, .cons h r, .cons h2 r2 => by simp only [List.zip_cons_cons]; exact .cons ⟨h, h2⟩ (Reps.zipD r r2)
theorem Sim.layT {K : PySem.W.Frag} {fa : FA} : ∀ (as : List Addr) (zs : List (V × V)) (ds : List (D × D)) {F H : Hp} {ρ : Nat → Addr} {S : Sto}, Sim K fa F H ρ S → as.Nodup → (∀ a ∈ as, H a = none) → as.length = zs.length → Paired (fun (p : V × V) (q : D × D) => Rep K F p.1 q.1 ∧ Rep K F p.2 q.2) zs ds →
    Sim K fa (MS.layT F as zs) (MS.layT H as zs) ρ S ∧ Ext F H ρ S (MS.layT F as zs) (MS.layT H as zs) ρ S ∧ Reps K (MS.layT F as zs) (as.map V.ref) (ds.map fun p => .tuple [p.1, p.2])
  | [], [], _, F, H, ρ, S, s, _, _, _, .nil => ⟨s, Ext.refl .., .nil⟩
  | a :: as, z :: zs, d :: ds, F, H, ρ, S, s, nd, hf, hl, .cons h r => by
    obtain ⟨hn1, hn2⟩ := List.nodup_cons.mp nd
    obtain ⟨s1, x1, sF⟩ := s.grow (o := .tup [z.1, z.2]) (hf a (by simp))
    have ne : ∀ b ∈ as, upd H a (.tup [z.1, z.2]) b = none := fun b hb => by
      rw [upd_ne (fun e => hn1 (by rw [← e]; exact hb))]; exact hf b (by simp [hb])
    obtain ⟨s2, x2, r2⟩ := Sim.layT as zs ds s1 hn2 ne (by simpa using hl) (Paired.mapP r fun _ _ q => ⟨q.1.mono sF, q.2.mono sF⟩)
    refine ⟨s2, x1.trans x2, ?_⟩
    rw [List.map_cons, List.map_cons]
    refine .cons (.tup (xs := [z.1, z.2]) (x2.fz _ _ upd_same) ?_) r2
    exact .cons (h.1.mono (sF.trans x2.fz)) (.cons (h.2.mono (sF.trans x2.fz)) .nil)
  | [], _ :: _, _, _, _, _, _, _, _, _, hl, _ => by simp at hl
  | _ :: _, [], _, _, _, _, _, _, _, _, hl, _ => by simp at hl
section
variable {fa : FA} {X : Cx} {pe a b c : Expr} {m ma mb mc : M Val} {pos : Pos}
theorem lz_of {F H : Hp} {ρ : Nat → Addr} {S : Sto} {x y : V} {v u w : Val} {Q : VK} (s : Sim X.K fa F H ρ S) (r1 : RepV X.K fa F ρ S.length x v) (r2 : RepV X.K fa F ρ S.length y u) (e : lzV v u = some w)
    (q : ∀ z F' H', Sim X.K fa F' H' ρ S → Ext F H ρ S F' H' ρ S → RepV X.K fa F' ρ S.length z w → Q z H') : rLz X.K [x, y] H Q := by
  have main : ∀ {xs ys : List V} {ds es : List D} {l1 l2 : Addr}, Reps X.K F xs ds → Reps X.K F ys es → w = .d (.list ((ds.zip es).map fun p => .tuple [p.1, p.2])) →
      ((SqL X.K H l1 xs ∧ SqL X.K H l2 ys) ∨ (SqT X.K H l1 xs ∧ SqT X.K H l2 ys)) → rLz X.K [.ref l1, .ref l2] H Q := by
    intro xs ys ds es l1 l2 h1 h2 ew hs
    refine ⟨l1, l2, xs, ys, rfl, hs, fun as p hl nd hf hp1 hp2 => ?_⟩
    obtain ⟨s2, x2, rr⟩ := Sim.layT as (xs.zip ys) (ds.zip es) s nd hf hl (h1.zipD h2)
    obtain ⟨s3, x3, sF⟩ := s2.grow (p := p) (o := .lst (as.map V.ref)) (by rw [layT_ne as _ _ _ hp1]; exact hp2)
    subst ew
    exact q _ _ _ s3 (x2.trans x3) (.lst upd_same (rr.mono sF))
  cases v with
  | d dv =>
    cases u with
    | d du =>
      cases dv with
      | list xs =>
        cases du with
        | list ys =>
          cases e
          cases (show Rep X.K F x (.list xs) from r1) with
          | lst h1 k1 =>
            cases (show Rep X.K F y (.list ys) from r2) with
            | lst h2 k2 => exact main k1 k2 rfl (.inl ⟨SqL.of (s.sub _ _ h1), SqL.of (s.sub _ _ h2)⟩)
        | _ => cases e
      | tuple xs =>
        cases du with
        | tuple ys =>
          cases e
          cases (show Rep X.K F x (.tuple xs) from r1) with
          | tup h1 k1 =>
            cases (show Rep X.K F y (.tuple ys) from r2) with
            | tup h2 k2 => exact main k1 k2 rfl (.inr ⟨SqT.of (s.sub _ _ h1), SqT.of (s.sub _ _ h2)⟩)
        | _ => cases e
      | _ => cases e
    | _ => cases dv <;> cases e
  | _ => cases e
theorem sm_lz {p p2 q : Pos} (hg : Gl X "list") (hm : X.mg "list" = none) (hg2 : Gl X "zip") (hm2 : X.mg "zip" = none) (hc : X.calm = true) (ha : SimE fa X a ma) (hb : SimE fa X b mb) (hn : noStar a = true) (hn2 : noStar b = true) :
    SimE fa X (.Call (.Name "list" p) [.Call (.Name "zip" p2) [a, b] [] q] [] pos) (fun env S => (ma env S).bind fun x S1 => (mb env S1).bind fun y S2 => .ofO (lzV x y) S2) := by
  refine ⟨fun W tk => PE.imp (pe_lz hg hm hg2 hm2 hc ((sa_cons ha (sa_cons hb sa_nil hn2) hn).run W tk) (starEach_cons hn _ _) (starEach_plain [b] _ _ (by rw [List.all_cons, hn2]; rfl))) fun σ H Q q => ?_⟩
  obtain ⟨env, S, F, ρ, s, e, p⟩ := q
  refine ⟨env, S, F, ρ, s, e, ?_⟩
  dsimp only at p
  unfold mcons mnil
  cases q0 : ma env S with
  | stuck => rw [q0] at p; exact p
  | exc e S' => rw [q0] at p; exact p
  | ok v S1 =>
    rw [q0] at p
    simp only [R.bind_ok] at p ⊢
    cases q1 : mb env S1 with
    | stuck => rw [q1] at p; exact p
    | exc e S' => rw [q1] at p; exact p
    | ok u S2 =>
      rw [q1] at p
      simp only [R.bind_ok] at p ⊢
      intro xs F1 H1 ρ1 s1 x1 r1
      have p := Post.shift x1 p
      cases r1 with
      | cons r1 rn =>
        cases rn with
        | cons r2 rn =>
          cases rn
          obtain ⟨w, ew, q2⟩ := p.ofO
          exact lz_of s1 r1 r2 ew fun z F' H' s' x' r' => q2 z F' H' ρ1 s' x' r'
end
end MS

-- MsPairs
/-! dict(xs): xs a list of pairs, the keys tuples of ints. -/
namespace MS
open PySem PySem.Spec PyProof.Rows L2
section
variable {X : Cx} {fa : FA} {a : Expr} {ma : M Val} {pos : Pos}
/-- an item is a pair, its key a tuple of keys -/
def PrI (H : Hp) (x : V) (p : List Key × V) : Prop := ∃ a b, x = .ref a ∧ H a = some (.tup [.ref b, p.2]) ∧ H b = some (.tup (p.1.map kV))
theorem pairs_at {pins : List (Addr × Obj)} {σ : L2.St} {H : Hp} {s : Shared} (I : Inv X pins σ H s) : ∀ {items : List V} {ps : List (List Key × V)} {its : List Value}, Paired (PrI H) items ps → Vals items its →
    ∃ (ts : List Addr) (ys : List (List Key × Addr × Value)), its = ts.map Value.ref ∧ KT H ps ys ∧ Paired (fun (t : Addr) (y : List Key × Addr × Value) => s.heap.IsTuple t #[.ref y.2.1, y.2.2]) ts ys
  | _, _, _, .nil, .nil => ⟨[], [], rfl, .nil, .nil⟩
  | _, _, _, .cons h t, .cons r rs => by
    obtain ⟨ts, ys, e1, e2, e3⟩ := pairs_at I t rs
    obtain ⟨a, b, rfl, h1, h2⟩ := h
    cases r
    obtain ⟨vs, rv, tv, _⟩ := I.tuple (.inl (.inl h1))
    cases rv with
    | cons r1 rv =>
      cases rv with
      | cons r2 rv =>
        cases rv
        cases r1
        rename_i v2
        exact ⟨a :: ts, (_, b, v2) :: ys, by rw [e1]; rfl, .cons ⟨rfl, h2, r2⟩ e2, .cons tv e3⟩
theorem call_dictP (hu : X.A.units + 65 < cLine) (hc : X.calm = true) : CallR X (.type "dict") (fun xs H Q => ∃ (l : Addr) (items : List V) (ps : List (List Key × V)), xs = [.ref l] ∧ SqL X.K H l items ∧ Paired (PrI H) items ps ∧ ∀ p, H p = none → Q (.ref p) (upd H p (.dT (putsK [] ps)))) := by
  intro pins s σ H xs us Q I r ⟨l, items, ps, ex, hl, hp, q⟩
  subst ex
  obtain ⟨u, eu, rx⟩ := vals1 r
  subst eu
  cases rx
  obtain ⟨its, rv, pl, hz⟩ := I.list hl
  obtain ⟨ts, ys, e1, e2, e3⟩ := pairs_at I hp rv
  have l1 : ps.length = ys.length := Paired.length e2
  have l2 : ts.length = ys.length := Paired.length e3
  have l3 : items.length = ps.length := Paired.length hp
  have fr : H s.heap.objs.size = none := I.hok.fresh (Nat.le_refl _)
  have htup : ∀ y ∈ ys, ∃ k, H y.2.1 = some (.tup (k.map kV)) ∧ y.1 = k := by
    clear e3 l1 l2 hp q l3
    induction e2 with
    | nil => intro y hy; cases hy
    | @cons p q ps qs h _ ih =>
      intro y hy
      rcases List.mem_cons.mp hy with rfl | hy
      · exact ⟨p.1, h.2.1, h.1.symm⟩
      · exact ih y hy
  have at3 : ∀ (j : Nat) (y : List Key × Addr × Value), ys[j]? = some y → ∃ t, ts[j]? = some t ∧ s.heap.IsTuple t #[.ref y.2.1, y.2.2] := by
    clear e1 e2 htup l1 l2
    induction e3 with
    | nil => intro j y hy; simp at hy
    | @cons t y ts ys h _ ih =>
      intro j y' hy
      cases j with
      | zero => simp at hy; subst hy; exact ⟨t, rfl, h⟩
      | succ j => exact ih j y' (by simpa using hy)
  refine call_dict_pairsH (knd := tupleKind (mixKind X.prog X.w)) (ps := ys) (PairArg.list l its.toArray (fun j => ts.getD j 0) (ys.map fun y => (Value.ref y.2.1, y.2.2))) (I.ok.hd hc) (by show X.A.in1.in1.units < cLine; show X.A.units + 1 + 1 < cLine; omega) ?_ ?_ ?_ ?_ fun h' tk hd hk => ?_
  · refine ⟨let ⟨o, n, h1, h2, h3, h4⟩ := pl; ⟨o, n, h1, h2, h3, h4⟩, by simp [e1, l2], fun j k v hj => ?_⟩
    rw [List.getElem?_map] at hj
    cases q : ys[j]? with
    | none => rw [q] at hj; cases hj
    | some y =>
      rw [q] at hj
      cases hj
      obtain ⟨t, ht, tt⟩ := at3 j y q
      have et : ts.getD j 0 = t := by rw [List.getD_eq_getElem?_getD, ht]; rfl
      refine ⟨?_, .inl (by dsimp only; rw [et]; exact tt)⟩
      show its.toArray[j]? = some (Value.ref (ts.getD j 0))
      rw [et, e1]
      simp [ht]
  · refine ⟨by simp, fun i key v hr => ?_⟩
    have hr : (ys.map fun y => (Value.ref y.2.1, y.2.2))[i]? = some (key, v) := hr
    rw [List.getElem?_map] at hr
    cases q : ys[i]? with
    | none => rw [q] at hr; cases hr
    | some y =>
      rw [q] at hr
      cases hr
      exact ⟨y.1, y.2.1, rfl, rfl⟩
  · intro h' kp y hy
    obtain ⟨k, h1, rfl⟩ := htup y hy
    obtain ⟨o, its, n, g1, g2, g3, g4⟩ := key_of I.hok h1
    exact ⟨o, its, n, kp _ _ (Nat.ne_of_lt (Heap.lt_size g1)) (by simp) g1, g2, g3, g4⟩
  · rw [List.length_map]; omega
  · have hm : (s.heap.objs.size == sysModules) = false := beq_eq_false_iff_ne.mpr (Nat.ne_of_gt I.big)
    obtain ⟨o, es, ep, h1, h2, h3, h4, h5, h6⟩ := hd
    refine ⟨.ref s.heap.objs.size, upd H s.heap.objs.size (.dT (putsK [] ps)), I.laid (t' := tk) (fun b o e => hk b o (by simp) e) (Nat.le_refl _) (show ObjOk X.prog X.w _ _ _ (.dT (putsK [] ps)) from ⟨?_, hm, storedAllH [] ys, ?_, o, es, ep, h1, h2, h3, h4, h6⟩), rfl, q _ fr⟩
    · have := length_putsK ps []
      simp at this
      omega
    · refine Paired.mapP (kt_puts e2 .nil) fun p q w => ⟨w.1, ?_, w.2.2⟩
      rw [upd_ne (ne_of_none w.2.1 fr)]; exact w.2.1
/-! ### list(d.items()) -/
def tItT (te : TE) : TE := fun σ H Q => te σ H fun x H1 => ∃ (d : Addr) (kvs : List (List Key × V)), x = .ref d ∧ TRd H1 d kvs ∧
  ∀ bs as p, IsKeys H1 kvs bs → as.length = kvs.length → as.Nodup → (∀ a ∈ as, H1 a = none) → p ∉ as → H1 p = none → Q (.ref p) (upd (layT H1 as ((bs.map V.ref).zip (kvs.map (·.2)))) p (.lst (as.map V.ref)))
theorem kt_zip {H : Hp} {kvs : List (List Key × V)} {xs : List (List Key × Addr × Value)} (r : KT H kvs xs) : Paired (fun (p : V × V) (y : List Key × Addr × Value) => RelV p.1 (.ref y.2.1) ∧ RelV p.2 y.2.2) (((xs.map fun y => y.2.1).map V.ref).zip (kvs.map (·.2))) xs := by
  induction r with
  | nil => exact .nil
  | cons h _ ih => exact .cons ⟨rfl, h.2.2⟩ ih
theorem pe_listItemsT {e : Expr} {te : TE} {p apos cpos : Pos} (hc : X.calm = true) (he : PE X e te) (hg : Gl X "list") (hm : X.mg "list" = none) (hbase : attributeBase e "items" X.env (eval e X.env) = eval e X.env) (hline : (apos.endLine == cpos.line) = true)
    (hs : starEach [.Call (.Attribute e "items" apos) [] [] cpos] X.env = (false, eval (.Call (.Attribute e "items" apos) [] [] cpos) X.env) :: starEach [] X.env := by rfl) :
    PE X (.Call (.Name "list" p) [.Call (.Attribute e "items" apos) [] [] cpos] [] pos) (tItT te) := by
  refine ⟨fun pins s σ H Q I hq => ?_⟩
  refine wpAny_Call_Name_kw (ld_blt I hg hm PyProof.Rows.boot_list ?_)
  refine PyProof.Rows.callWith_type1 ?_ hs rfl
  rw [hs]
  show wpAny _ _ (spliced ((false, eval (.Call (.Attribute e "items" apos) [] [] cpos) X.env) :: backTo pos (starEach [] X.env))) _ _ s
  refine Calls.spliced_cons ?_
  refine wpAny_Call_method (T := "dict") (id := "dict.items") hbase rfl hline F.plainAttrs_dict F.slot_dict_items F.type_dict_items (thn (he.run pins s σ H _ I hq) fun u s1 ⟨x, H1, I1, rx, d, kvs, ex, hd, q⟩ => ?_)
  subst ex
  obtain rfl : u = Value.ref d := rx
  obtain ⟨hz, hs0, xs, rel, o, es, ep, ho, hex, hdt, hes, hkn, hnd⟩ := dt_rdX I1.hok hd
  have hraw : s1.heap.DictRaw d es ep := ⟨o, ho, hex, hdt⟩
  have lk : kvs.length = xs.length := Paired.length rel
  have hsz : es.size = xs.length := by rw [← Array.length_toList, hes, List.length_map]
  refine ⟨trd_typeIs I1 hd, fun b z => by obtain ⟨ob, h1, h2⟩ := trd_noDict I1 hd b z; exact ⟨ob, h1, h2⟩, ?_⟩
  show wpAny _ _ (callWith cpos (.builtin "dict.items") [.ref d] [] []) _ X.xe s1
  refine method_meetsIn F.slot_dict_items F.entry_dict_items rfl (PySem.evalArgs_none ⟨rfl, trd_typeIs I1 hd, F.args_dict_items_1 _, _, meets_dict_items_raw d hs0, ⟨es, ep, hraw⟩, ?_⟩)
  refine Calls.spliced_nil ?_
  refine PySem.W.dil_call (s := { s1 with heap := s1.heap.push { cls := .type "dict_items", data := .fields #[.ref d] } }) (es := es) (ep := ep) (I1.ok.hd hc) ⟨_, Heap.get?_push_size _ rfl, rfl, rfl⟩ (hraw.push _) (by rw [hsz, ← lk]; exact hz) fun h' tk acc c as hk hS hl hG hacc => ?_
  have e1 : (s1.heap.push { cls := .type "dict_items", data := .fields #[.ref d] }).objs.size = s1.heap.objs.size + 1 := Heap.size_push ..
  have old : ∀ b o, s1.heap.get? b = some o → h'.get? b = some o := fun b o e => hk b o (Heap.get?_push_of_some _ e)
  have nd : as.Nodup := hG.rise.imp fun h => Nat.ne_of_lt h
  have fre : ∀ {a : Addr}, s1.heap.objs.size ≤ a → s1.heap.get? a = none := fun {a} ha => by
    cases q : s1.heap.get? a with
    | none => rfl
    | some o => exact absurd (Heap.lt_size q) (Nat.not_lt.mpr ha)
  have abv : ∀ a ∈ as, s1.heap.objs.size ≤ a := fun a ha => leN (by
    have h1 := hG.above a ha
    have h2 : @LT.lt Nat _ (s1.heap.push { cls := .type "dict_items", data := .fields #[.ref d] }).objs.size a := h1
    rw [e1] at h2
    omega)
  have hfr : ∀ a ∈ as, s1.heap.get? a = none ∧ H1 a = none := fun a ha => ⟨fre (abv a ha), I1.hok.fresh (abv a ha)⟩
  have hSas : (s1.heap.push { cls := .type "dict_items", data := .fields #[.ref d] }).objs.size ∉ as := fun z => Nat.lt_irrefl _ (hG.above _ z)
  have kz := kt_zip rel
  have lz : as.length = (((xs.map fun y => y.2.1).map V.ref).zip (kvs.map (·.2))).length := by
    rw [Paired.length kz, hl, hsz]
  have pr : Paired (fun a p => ∃ u v, RelV p.1 u ∧ RelV p.2 v ∧ IsTupOf2 h' a u v) as (((xs.map fun y => y.2.1).map V.ref).zip (kvs.map (·.2))) := by
    have key : ∀ (as : List Addr) (zs : List (V × V)), as.length = zs.length → (∀ (j : Nat) (a : Addr) (p : V × V), as[j]? = some a → zs[j]? = some p → ∃ u v, RelV p.1 u ∧ RelV p.2 v ∧ IsTupOf2 h' a u v) → Paired (fun a p => ∃ u v, RelV p.1 u ∧ RelV p.2 v ∧ IsTupOf2 h' a u v) as zs := by
      intro as
      induction as with
      | nil => intro zs h _; cases zs with
        | nil => exact .nil
        | cons _ _ => simp at h
      | cons a as ih => intro zs h k; cases zs with
        | nil => simp at h
        | cons p zs => exact .cons (k 0 a p rfl rfl) (ih zs (by simpa using h) fun j b q hb hq => k (j + 1) b q (by simpa using hb) (by simpa using hq))
    refine key as _ lz fun j a p ha hp => ?_
    obtain ⟨hj, et⟩ := hG.pairs j a ha
    obtain ⟨y, hy, r1, r2⟩ := LiI.paired_get kz hp
    have ey : es[j] = entryOfKey (tupleKind (mixKind X.prog X.w)) y := by
      have h1 : es.toList[j]? = some (entryOfKey (tupleKind (mixKind X.prog X.w)) y) := by rw [hes, List.getElem?_map, hy]; rfl
      rw [Array.getElem?_toList, Array.getElem?_eq_getElem hj] at h1
      exact Option.some.inj h1
    refine ⟨_, _, r1, r2, ?_⟩
    rw [ey] at et
    exact et
  obtain ⟨G, g1, g2, I2⟩ := layInv as _ H1 s1 h' I1 old nd hfr pr
  have hp : H1 (s1.heap.push { cls := .type "dict_items", data := .fields #[.ref d] }).objs.size = none := I1.hok.fresh (by rw [e1]; exact leN (by omega))
  have I3 : Inv X pins σ (upd (layT H1 as (((xs.map fun y => y.2.1).map V.ref).zip (kvs.map (·.2)))) (s1.heap.push { cls := .type "dict_items", data := .fields #[.ref d] }).objs.size (.lst (as.map V.ref))) { s1 with heap := h', toks := tk } := by
    refine I2.laidN (t' := tk) g1 (g2 _ hSas (fre (by rw [e1]; exact leN (by omega)))) (by rw [layT_ne as _ _ _ hSas]; exact hp) ⟨?_, as.map Value.ref, c, vals_refs as, ?_⟩
    · rw [List.length_map, hl, hsz, ← lk]; exact hz
    · rw [hS, ← hacc]
  exact ⟨.ref _, _, I3, rfl, q _ as _ (isKeys_of rel) (by rw [hl, hsz, lk]) nd (fun a ha => (hfr a ha).2) hSas hp⟩
/-! ### what they mean -/
theorem prsT_rep {K : PySem.W.Frag} {fa : FA} {F H : Hp} {ρ : Nat → Addr} {n : Nat} (sub : Same F H) : ∀ {xs : List V} {ds : List D} {ps : List (List Int × Val)}, Reps K F xs ds → allO (ds.map pairP) = some ps → ∃ qs, Paired (PrI H) xs qs ∧ PrD K fa F ρ n qs ps
  | _, _, ps, .nil, e => by
    simp only [List.map_nil, allO] at e
    cases e
    exact ⟨[], .nil, .nil⟩
  | _, _, ps, .cons (d := d) h r, e => by
    rw [List.map_cons] at e
    cases q : pairP d with
    | none => rw [q] at e; simp [allO] at e
    | some p =>
      rw [q] at e
      simp only [allO] at e
      cases q2 : allO (List.map pairP _) with
      | none => rw [q2] at e; cases e
      | some ps2 =>
        rw [q2] at e
        simp only [Option.map_some, Option.some.injEq] at e
        subst e
        obtain ⟨qs, h1, h2⟩ := prsT_rep sub r q2
        unfold pairP at q
        split at q
        · rename_i ks v
          dsimp only at q
          cases q3 : allI ks with
          | none => rw [q3] at q; cases q
          | some ns =>
            rw [q3] at q
            cases q
            cases h with
            | tup ha ra =>
              cases ra with
              | cons r1 ra =>
                cases ra with
                | cons r2 ra =>
                  cases ra
                  rw [allI_some q3] at r1
                  cases r1 with
                  | tup hb rb =>
                    rw [rb.ints] at hb
                    refine ⟨(ns.map Sum.inl, _) :: qs, .cons ⟨_, _, rfl, sub _ _ ha, ?_⟩ h1, .cons ⟨rfl, r2⟩ h2⟩
                    have := sub _ _ hb
                    rw [this, List.map_map]; rfl
        · cases q
theorem sm_dprs {p : Pos} (hu : X.A.units + 65 < cLine) (hc : X.calm = true) (hg : Gl X "dict") (hm : X.mg "dict" = none) (ha : SimE fa X a ma) (hn : noStar a = true) :
    SimE fa X (.Call (.Name "dict" p) [a] [] pos) (fun env S => (ma env S).bind fun x S1 => prsV x S1) := by
  refine ⟨fun W tk => PE.imp (pe_bi1 .dict (call_dictP hu hc) hg hm ((sa_cons ha sa_nil hn).run W tk) hn) fun σ H Q q => ?_⟩
  obtain ⟨env, S, F, ρ, s, e, p⟩ := q
  refine ⟨env, S, F, ρ, s, e, ?_⟩
  dsimp only at p
  unfold mcons mnil
  cases q0 : ma env S with
  | stuck => rw [q0] at p; exact p
  | exc e S' => rw [q0] at p; exact p
  | ok v S1 =>
    rw [q0] at p
    simp only [R.bind_ok] at p ⊢
    intro xs F1 H1 ρ1 s1 x1 r1
    cases r1 with
    | cons r1 rn =>
      cases rn
      have p := Post.shift x1 p
      unfold prsV at p
      cases q3 : view S1 v with
      | none => rw [q3] at p; exact p.elim
      | some d =>
        rw [q3] at p
        cases d with
        | list ds =>
          dsimp only at p
          cases q4 : allO (ds.map pairP) with
          | none => rw [q4] at p; exact p.elim
          | some ps =>
            rw [q4] at p
            dsimp only at p
            obtain ⟨l, xs', rfl, h1, rr⟩ := (s1.view r1 q3).list s1.sub
            obtain ⟨qs, k1, k2⟩ := prsT_rep (fa := fa) (ρ := ρ1) (n := S1.length) s1.sub rr q4
            refine ⟨l, xs', qs, rfl, SqL.of h1, k1, fun p' hp => ?_⟩
            obtain ⟨ρ2, e2, s2, x2⟩ := s1.alloc hp (.dct (puts_rep k2 (kvs := []) (es := []) .nil))
            exact p _ F1 _ ρ2 s2 x2 ⟨by simp, by rw [e2]⟩
        | _ => exact p.elim
theorem items_rep {K : PySem.W.Frag} {fa : FA} {F F2 : Hp} {ρ : Nat → Addr} {n : Nat} (sf : Same F F2) : ∀ {kvs : List (List Key × V)} {es : List (List Int × Val)} {ds : List D} {bs : List Addr}, PrD K fa F ρ n kvs es → allO (es.map itemD) = some ds → Reps K F2 (bs.map V.ref) (es.map fun p => .tuple (p.1.map PyData.int)) →
    ∃ zs : List (D × D), ds = zs.map (fun p => .tuple [p.1, p.2]) ∧ Paired (fun (p : V × V) (q : D × D) => Rep K F2 p.1 q.1 ∧ Rep K F2 p.2 q.2) ((bs.map V.ref).zip (kvs.map (·.2))) zs
  | _, _, ds, bs, .nil, e, r => by
    simp only [List.map_nil, allO] at e
    cases e
    refine ⟨[], rfl, ?_⟩
    simp only [List.map_nil, List.zip_nil_right]
    exact .nil
  | _, _, ds, bs, .cons (b := q) h t, e, r => by
    obtain ⟨k, v⟩ := q
    rw [List.map_cons] at e
    cases q1 : itemD (k, v) with
    | none => rw [q1] at e; simp [allO] at e
    | some d =>
      rw [q1] at e
      simp only [allO] at e
      cases q2 : allO (List.map itemD _) with
      | none => rw [q2] at e; cases e
      | some ds2 =>
        rw [q2] at e
        simp only [Option.map_some, Option.some.injEq] at e
        subst e
        cases bs with
        | nil => cases r
        | cons b bs =>
          cases r with
          | cons r1 r =>
            obtain ⟨zs, e1, e2⟩ := items_rep sf t q2 r
            cases v with
            | d x =>
              simp only [itemD, Option.some.injEq] at q1
              subst q1
              exact ⟨(_, x) :: zs, by rw [e1]; rfl, .cons ⟨r1, (show Rep K F _ x from h.2).mono sf⟩ e2⟩
            | _ => simp [itemD] at q1
theorem sm_ditm {apos cpos p : Pos} (hc : X.calm = true) (hg : Gl X "list") (hm : X.mg "list" = none) (ha : SimE fa X a ma) (h0 : notCall0 a = true) (hl : (apos.endLine == cpos.line) = true) :
    SimE fa X (.Call (.Name "list" p) [.Call (.Attribute a "items" apos) [] [] cpos] [] pos) (fun env S => (ma env S).bind fun x S1 => .ofO (itmV S1 x) S1) := by
  refine ⟨fun W tk => PE.imp (pe_listItemsT hc (ha.run W tk) hg hm (attrBase h0 _ _ _) hl) fun σ H Q q => ?_⟩
  refine q.bind (rep := RepV X.K fa) fun env v S1 x F1 H1 ρ1 s1 e1 r1 p => ?_
  obtain ⟨w, ew, p⟩ := p.ofO
  unfold itmV at ew
  cases q3 : dctV S1 v with
  | none => rw [q3] at ew; cases ew
  | some es =>
    rw [q3, Option.bind_some] at ew
    cases q4 : allO (es.map itemD) with
    | none => rw [q4] at ew; cases ew
    | some ds =>
      rw [q4] at ew
      cases ew
      obtain ⟨a', kvs, rfl, h2, rr⟩ := dct_at s1 r1 q3
      refine ⟨a', kvs, rfl, h2, fun bs as p' hk hl nd hf hp1 hp2 => ?_⟩
      obtain ⟨F2, s2, x2, r2⟩ := keys_pin (Paired.mapP rr fun _ _ z => z.1) hk s1
      obtain ⟨zs, ez, pz⟩ := items_rep x2.fz rr q4 r2
      have lz : as.length = ((bs.map V.ref).zip (kvs.map (·.2))).length := by
        have : kvs.length = bs.length := Paired.length hk
        rw [List.length_zip, List.length_map, List.length_map, hl, ← this]; simp
      obtain ⟨s3, x3, r3⟩ := Sim.layT as _ zs s2 nd hf lz pz
      obtain ⟨s4, x4, sF⟩ := s3.grow (p := p') (o := .lst (as.map V.ref)) (by rw [layT_ne as _ _ _ hp1]; exact hp2)
      subst ez
      exact p _ _ _ ρ1 s4 ((x2.trans x3).trans x4) (.lst upd_same (r3.mono sF))
end
end MS

-- MsDzip
/-! dict(zip(a, b)): the keys tuples of ints. -/
namespace MS
open PySem PySem.Spec PyProof.Rows L2
def ZpSt (h : Heap) (z TI TO i1 i2 d : Addr) (fp : List Addr) (St1 St2 : Nat → Heap → Prop) (i : Nat) : Prop :=
  IsTupOf2 h TI (.ref i1) (.ref i2) ∧ St1 i h ∧ St2 i h ∧ ((∃ a1 a2, IsZip h z TI TO .none ∧ IsTupOf2 h TO a1 a2) ∨ ∃ T f oT, IsZipHeld h z TI TO T f ∧ h.get? T = some oT ∧ T ∉ fp ∧ T ≠ d)
section
variable {prog : Program} {w : World} {A : Around} {E : Value → Shared → Prop} {s : Shared} {z TI TO i1 i2 d : Addr} {fp1 fp2 : List Addr} {n1 n2 i : Nat} {P1 P2 : Nat → Value → Prop} {St1 St2 : Nat → Heap → Prop}
abbrev zfp (z TI TO i1 i2 : Addr) (fp1 fp2 : List Addr) : List Addr := [z, TI, TO, i1, i2] ++ (fp1 ++ fp2)
theorem zp_item {Q : Option Value → Shared → Prop} (Sp : ZipSep2 z TI TO i1 i2 fp1 fp2) (D1 : Draws prog w A.in1 i1 fp1 n1 P1 St1) (D2 : Draws prog w A.in1 i2 fp2 n2 P2 St2)
    (hst : ZpSt s.heap z TI TO i1 i2 d (zfp z TI TO i1 i2 fp1 fp2) St1 St2 i) (hS : d < s.heap.objs.size) (hfp : ∀ b ∈ zfp z TI TO i1 i2 fp1 fp2, b < s.heap.objs.size) (hlt1 : i < n1) (hlt2 : i < n2)
    (hQ : ∀ x1 x2 h' tk, P1 i x1 → P2 i x2 → ZpSt h' z TI TO i1 i2 d (zfp z TI TO i1 i2 fp1 fp2) St1 St2 (i + 1) → IsTupOf2 h' s.heap.objs.size x1 x2 →
      (∀ c o, c ≠ z → c ≠ TO → c ≠ i1 → c ≠ i2 → s.heap.get? c = some o → h'.get? c = some o) → Q (some (.ref s.heap.objs.size)) { s with heap := h', toks := tk }) :
    wpAny (model prog w) A (pyNext (.ref z)) Q E s := by
  obtain ⟨g1, g2, g3, g4⟩ := hst
  have newfp : s.heap.objs.size ∉ zfp z TI TO i1 i2 fp1 fp2 := fun q => Nat.lt_irrefl _ (hfp _ q)
  rcases g4 with ⟨a1, a2, q1, q2⟩ | ⟨T, f, oT, q1, q2, q3, q4⟩
  · refine wpAny_pyNext_zipD2_item Sp D1 D2 q1 g1 q2 g2 g3 hlt1 hlt2 fun x1 x2 h' tk y1 y2 b1 b2 d1 d2 b5 b6 b7 => ?_
    exact hQ x1 x2 h' tk y1 y2 ⟨b7 _ _ Sp.TIz Sp.TITO Sp.TIi1 Sp.TIi2 g1, d1, d2, .inr ⟨_, false, _, b1, b5, newfp, Nat.ne_of_gt hS⟩⟩ b5 b7
  · have hT : s.TypeIs (.ref z) "zip" := ⟨_, q1, rfl⟩
    have hn : ∀ b ∈ [z, TI, TO, i1, i2], T ≠ b := fun b hb e => q3 (by rw [e]; exact List.mem_append_left _ hb)
    unfold pyNext
    refine wpAny_bind (wpAny_attempt (wpAny_callSpecial?_slot (name := Str.ofString "__next__") hT F.slot_zip_next
      (wpAny_call_entry F.slot_zip_next hT F.entry_zip_next
        (zipD2_held_item Sp D1 D2 q1 q2 g1 g2 g3 hlt1 hlt2 fun x1 x2 h' tk y1 y2 b1 d1 d2 b5 b6 b7 => wpAny_pure ?_) (F.args_zip_next_1 _))))
    exact hQ x1 x2 h' tk y1 y2 ⟨b7 _ _ Sp.TIz Sp.TIi1 Sp.TIi2 g1, d1, d2, .inr ⟨T, true, oT, b1, b7 _ _ (hn z (by simp)) (hn i1 (by simp)) (hn i2 (by simp)) q2, q3, q4⟩⟩ b5 fun c o c1 _ c3 c4 e => b7 c o c1 c3 c4 e
theorem zp_done {Q : Option Value → Shared → Prop} (Sp : ZipSep2 z TI TO i1 i2 fp1 fp2) (D1 : Draws prog w A.in1 i1 fp1 n1 P1 St1) (D2 : Draws prog w A.in1 i2 fp2 n2 P2 St2)
    (hst : ZpSt s.heap z TI TO i1 i2 d (zfp z TI TO i1 i2 fp1 fp2) St1 St2 i) (hle1 : i ≤ n1) (hle2 : i ≤ n2) (hend : i = n1 ∨ i = n2)
    (hQ : ∀ h' tk, (∀ c o, c ≠ z → c ≠ TO → c ≠ i1 → c ≠ i2 → s.heap.get? c = some o → h'.get? c = some o) → Q none { s with heap := h', toks := tk }) : wpAny (model prog w) A (pyNext (.ref z)) Q E s := by
  obtain ⟨g1, g2, g3, g4⟩ := hst
  rcases g4 with ⟨a1, a2, q1, q2⟩ | ⟨T, f, oT, q1, q2, q3, q4⟩
  · exact wpAny_pyNext_zipD2_end Sp D1 D2 q1 g1 q2 g2 g3 hle1 hle2 hend hQ
  · have hT : s.TypeIs (.ref z) "zip" := ⟨_, q1, rfl⟩
    unfold pyNext
    refine wpAny_bind (wpAny_attempt (wpAny_callSpecial?_slot (name := Str.ofString "__next__") hT F.slot_zip_next
      (wpAny_call_entry F.slot_zip_next hT F.entry_zip_next (zipD2_held_end Sp D1 D2 q1 q2 g1 g2 g3 hle1 hle2 hend fun h' tk e hk he => ?_) (F.args_zip_next_1 _))))
    obtain ⟨o, ho, hc⟩ := he
    refine wpAny_bind (wpAny_isInstance (T := "StopIteration") (b := true) ⟨o, ho, hc⟩ isSubtype_stop ?_)
    exact wpAny_pure (hQ _ _ fun c o c1 _ c3 c4 e => hk c o c1 c3 c4 e)
/-- what a zip of two things is, at first -/
def ZpOK (z TI TO i1 i2 : Addr) (fp1 fp2 : List Addr) (St1 St2 : Nat → Heap → Prop) (h : Heap) : Prop :=
  IsZip h z TI TO .none ∧ IsTupOf2 h TI (.ref i1) (.ref i2) ∧ (∃ a b, IsTupOf2 h TO a b) ∧ St1 0 h ∧ St2 0 h ∧ ∀ b ∈ zfp z TI TO i1 i2 fp1 fp2, ∃ o, h.get? b = some o
theorem PairArg.zipB (Sp : ZipSep2 z TI TO i1 i2 fp1 fp2) (D1 : ∀ A : Around, A.handled = none → Draws prog w A i1 fp1 n1 P1 St1) (D2 : ∀ A : Around, A.handled = none → Draws prog w A i2 fp2 n2 P2 St2) (hA0 : ∃ A : Around, A.handled = none) (hmax : ∀ b ∈ zfp z TI TO i1 i2 fp1 fp2, b ≤ z) :
    PairArg prog w "zip" z (zfp z TI TO i1 i2 fp1 fp2) [z, TO, i1, i2] (min n1 n2) (fun i k v => P1 i k ∧ P2 i v) (ZpOK z TI TO i1 i2 fp1 fp2 St1 St2) where
  type := fun s ok => ⟨_, ok.1, rfl⟩
  notDict := by decide
  keep := fun h h' ok hk => by
    obtain ⟨A, hA⟩ := hA0
    obtain ⟨hz, hTI, ⟨a, b, hTO⟩, h1, h2, h3⟩ := ok
    exact ⟨hk _ _ hz, hk _ _ hTI, ⟨a, b, hk _ _ hTO⟩, (D1 A hA).frame _ _ _ h1 fun b _ o e => hk b o e, (D2 A hA).frame _ _ _ h2 fun b _ o e => hk b o e, fun b hb => let ⟨o, ho⟩ := h3 b hb; ⟨o, hk _ _ ho⟩⟩
  there := fun h ok b hb => ok.2.2.2.2.2 b hb
  sub := fun b hb => by
    simp only [List.mem_cons, List.not_mem_nil, or_false] at hb
    rcases hb with rfl | rfl | rfl | rfl <;> simp [zfp]
  noKeys := fun A s Q E hA ok h => getAttrOr_miss_zip ok.1 rfl rfl rfl zip_no_keys (by decide +kernel) hA h
  iter := fun A s d Q E hA ok hd hdf h => by
    obtain ⟨hz, hTI, ⟨a, b, hTO⟩, h1, h2, h3⟩ := ok
    have low : ∀ {h' : Heap} {i : Nat}, ZpSt h' z TI TO i1 i2 d (zfp z TI TO i1 i2 fp1 fp2) St1 St2 i → ∀ b ∈ zfp z TI TO i1 i2 fp1 fp2, b < h'.objs.size := fun st b hb => by
      refine Nat.lt_of_le_of_lt (hmax b hb) ?_
      rcases st.2.2.2 with ⟨_, _, q, _⟩ | ⟨_, _, _, q, _⟩
      · exact Heap.lt_size q
      · exact Heap.lt_size q
    refine wpAny_pyIter_zip hz (h z [z, TO, i1, i2] (fun i h => ZpSt h z TI TO i1 i2 d (zfp z TI TO i1 i2 fp1 fp2) St1 St2 i) _ _ ?_ ⟨hTI, h1, h2, .inl ⟨a, b, hz, hTO⟩⟩ (fun b o e => e) (fun b hb => .inl hb))
    have ne : ∀ b ∈ zfp z TI TO i1 i2 fp1 fp2, b ≠ d := fun b hb e => hdf (e ▸ hb)
    have m1 : ∀ b ∈ fp1, b ∈ zfp z TI TO i1 i2 fp1 fp2 := fun b hb => by simp [zfp, hb]
    have m2 : ∀ b ∈ fp2, b ∈ zfp z TI TO i1 i2 fp1 fp2 := fun b hb => by simp [zfp, hb]
    exact {
      off := fun hm => by
        simp only [List.mem_cons, List.not_mem_nil, or_false] at hm
        rcases hm with q | q | q | q <;> exact hdf (by rw [q]; simp [zfp])
      frame := fun i h h' st hk => by
        obtain ⟨g1, g2, g3, g4⟩ := st
        refine ⟨hk _ _ (ne _ (by simp [zfp])) g1, (D1 A hA).frame _ _ _ g2 fun b hb o e => hk b o (ne b (m1 b hb)) e, (D2 A hA).frame _ _ _ g3 fun b hb o e => hk b o (ne b (m2 b hb)) e, ?_⟩
        rcases g4 with ⟨a1, a2, q1, q2⟩ | ⟨T, f, oT, q1, q2, q3, q4⟩
        · exact .inl ⟨a1, a2, hk _ _ (ne _ (by simp [zfp])) q1, hk _ _ (ne _ (by simp [zfp])) q2⟩
        · exact .inr ⟨T, f, oT, hk _ _ (ne _ (by simp [zfp])) q1, hk _ _ q4 q2, q3, q4⟩
      item := fun i s₁ Q₁ E₁ hi st hd₁ hQ => by
        refine zp_item Sp (D1 A.in1 hA) (D2 A.in1 hA) st hd₁ (low st) (by omega) (by omega) fun x1 x2 h' tk y1 y2 st' ht hkp => ?_
        refine hQ s₁.heap.objs.size x1 x2 h' tk ⟨y1, y2⟩ (.inl ⟨_, ht, rfl, _, rfl⟩) st' fun b o hb e => ?_
        simp only [List.mem_cons, List.not_mem_nil, or_false, not_or] at hb
        exact hkp b o hb.1 hb.2.1 hb.2.2.1 hb.2.2.2 e
      done := fun s₁ Q₁ E₁ st hQ => by
        refine zp_done Sp (D1 A.in1 hA) (D2 A.in1 hA) st (Nat.min_le_left _ _) (Nat.min_le_right _ _) (by omega) fun h' tk hk => hQ h' tk fun b o hb e => ?_
        simp only [List.mem_cons, List.not_mem_nil, or_false, not_or] at hb
        exact hk b o hb.1 hb.2.1 hb.2.2.1 hb.2.2.2 e }
end
theorem keys_refs {H : Hp} : ∀ {xs : List V} {its : List Value} {ks : List (List Key)}, Vals xs its → Paired (fun (x : V) (k : List Key) => ∃ c, x = .ref c ∧ H c = some (.tup (k.map kV))) xs ks → ∃ cs : List Addr, its = cs.map Value.ref ∧ Paired (fun (c : Addr) (k : List Key) => H c = some (.tup (k.map kV))) cs ks
  | _, _, _, .nil, .nil => ⟨[], rfl, .nil⟩
  | _, _, _, .cons r rv, .cons h t => by
    obtain ⟨cs, e1, e2⟩ := keys_refs rv t
    obtain ⟨c, rfl, hc⟩ := h
    cases r
    exact ⟨c :: cs, by rw [e1]; rfl, .cons hc e2⟩
theorem kt_in {H : Hp} {kvs : List (List Key × V)} {xs : List (List Key × Addr × Value)} (r : KT H kvs xs) : ∀ y ∈ xs, ∃ k, H y.2.1 = some (.tup (k.map kV)) ∧ y.1 = k := by
  induction r with
  | nil => intro y hy; cases hy
  | @cons p q ps qs h _ ih =>
    intro y hy
    rcases List.mem_cons.mp hy with rfl | hy
    · exact ⟨p.1, h.2.1, h.1.symm⟩
    · exact ih y hy
theorem kt_zip3 {H : Hp} : ∀ {cs : List Addr} {ks : List (List Key)} {ys : List V} {us : List Value}, Paired (fun (c : Addr) (k : List Key) => H c = some (.tup (k.map kV))) cs ks → Vals ys us → KT H (ks.zip ys) (ks.zip (cs.zip us))
  | _, _, _, _, .nil, _ => by simp; exact .nil
  | _, _, _, _, .cons _ _, .nil => by simp; exact .nil
  | _, _, _, _, .cons h t, .cons r rv => by
    simp only [List.zip_cons_cons]
    exact .cons ⟨rfl, h, r⟩ (kt_zip3 t rv)
section
variable {X : Cx}
/-- dict(zip(a, b)): a list of tuples of keys, a tuple -/
def tDz (K : PySem.W.Frag) (ta : TA) : TE := fun σ H Q => ta σ H fun vs H1 => ∃ (a b : Addr) (xs ys : List V) (ks : List (List Key)), vs = [.ref a, .ref b] ∧ SqL K H1 a xs ∧ SqT K H1 b ys ∧
  Paired (fun (x : V) (k : List Key) => ∃ c, x = .ref c ∧ H1 c = some (.tup (k.map kV))) xs ks ∧ ∀ p, H1 p = none → Q (.ref p) (upd H1 p (.dT (putsK [] (ks.zip ys))))
theorem pe_dz {e e2 : Expr} {ta : TA} {p p2 pos q : Pos} (hg : Gl X "dict") (hm : X.mg "dict" = none) (hg2 : Gl X "zip") (hm2 : X.mg "zip" = none) (hc : X.calm = true) (hu : X.A.units + 65 < cLine) (ha : PA X [e, e2] ta)
    (hs : starEach [e, e2] X.env = (false, eval e X.env) :: starEach [e2] X.env) (hpl : (backTo q (starEach [e2] X.env)).any (·.1) = false) :
    PE X (.Call (.Name "dict" p) [.Call (.Name "zip" p2) [e, e2] [] q] [] pos) (tDz X.K ta) := by
  refine ⟨fun pins s σ H Q I h => Call_ (ld_blt I hg hm PyProof.Rows.boot_dict (PyProof.Rows.callWith_type1 (PyProof.Rows.args_cons (Call_ (ld_blt I hg2 hm2 PyProof.Rows.boot_zip ?_)) rfl) rfl rfl))⟩
  refine PyProof.Rows.callWith_type1 (thn (ha.run q pins s σ H _ I h) fun us s1 ⟨vs, H1, I1, r1, q1⟩ => ?_) hs hpl
  obtain ⟨a, b, xs, ys, ks, rfl, hqx, hqy, hk, q1⟩ := q1
  cases r1 with
  | cons r rr =>
    cases rr with
    | cons r' rr =>
      cases rr
      cases r
      cases r'
      have hd := I1.ok.hd hc
      obtain ⟨it1, rv, l1, z1⟩ := I1.list hqx
      obtain ⟨it2, rv2, l2, z2⟩ := I1.tuple hqy
      obtain ⟨o2, ho2, _⟩ := id l2
      refine zip_begins2 (begins_list a it1.toArray) (begins_tuple b it2.toArray) l1.isList l2 fun h5 g1 g2 g3 g4 g5 hsz hkp => PyProof.Rows.args_nil ?_
      have D := PySem.W.ktu_apart s1.heap.objs.size a b l1.lt (Heap.lt_size ho2)
      obtain ⟨cs, e1, e2⟩ := keys_refs rv hk
      have kt := kt_zip3 e2 rv2
      have lk : cs.length = ks.length := Paired.length e2
      have l1' : it1.length = cs.length := by rw [e1, List.length_map]
      have lx : xs.length = it1.length := rv.length
      have htup := kt_in kt
      have fr : H1 h5.objs.size = none := I1.hok.fresh (by rw [hsz]; exact leN (by omega))
      have hfp : ∀ c ∈ zfp (s1.heap.objs.size + 4) (s1.heap.objs.size + 2) (s1.heap.objs.size + 3) s1.heap.objs.size (s1.heap.objs.size + 1) [s1.heap.objs.size, a] [s1.heap.objs.size + 1, b], c ≤ s1.heap.objs.size + 4 := by
        intro c hc
        have h1 : @LT.lt Nat _ a s1.heap.objs.size := l1.lt
        have h2 : @LT.lt Nat _ b s1.heap.objs.size := Heap.lt_size ho2
        simp only [zfp, List.mem_append, List.mem_cons, List.not_mem_nil, or_false] at hc
        refine leN ?_
        rcases hc with (hc | hc | hc | hc | hc) | (hc | hc) | (hc | hc) <;> (have hc : @Eq Nat c _ := hc) <;> omega
      refine call_dict_pairsH (s := { s1 with heap := h5 }) (knd := tupleKind (mixKind X.prog X.w)) (ps := ks.zip (cs.zip it2))
        (PairArg.zipB (n1 := it1.length) (n2 := it2.length) (sep_of D) (fun A hA => Draws.list hA _ _ D.l1i1 it1.toArray) (fun A hA => Draws.tuple hA _ _ D.l2i2 it2.toArray) ⟨_, hd⟩ hfp)
        hd (by show X.A.in1.in1.units < cLine; show X.A.units + 1 + 1 < cLine; omega) ?_ ?_ ?_ ?_ fun h' tk hdct hk' => ?_
      · refine ⟨g1, g2, ⟨_, _, g3⟩, ⟨⟨_, g4, rfl, rfl⟩, l1.isList.at fun o e => hkp _ o e⟩, ⟨⟨_, g5, rfl, rfl⟩, let ⟨o, w1, w2, w3⟩ := l2; ⟨o, hkp _ _ w1, w2, w3⟩⟩, fun c hc => ?_⟩
        simp only [zfp, List.mem_append, List.mem_cons, List.not_mem_nil, or_false] at hc
        obtain ⟨oa, hoa, _⟩ := l1.isList
        rcases hc with (rfl | rfl | rfl | rfl | rfl) | (rfl | rfl) | (rfl | rfl)
        · exact ⟨_, g1⟩
        · exact ⟨_, g2⟩
        · exact ⟨_, g3⟩
        · exact ⟨_, g4⟩
        · exact ⟨_, g5⟩
        · exact ⟨_, g4⟩
        · exact ⟨_, hkp _ _ hoa⟩
        · exact ⟨_, g5⟩
        · exact ⟨_, hkp _ _ ho2⟩
      · refine ⟨by simp only [List.length_zip]; omega, fun i key v hr => ?_⟩
        obtain ⟨r1, r2⟩ := hr
        have r1 : it1[i]? = some key := by simpa using r1
        have r2 : it2[i]? = some v := by simpa using r2
        rw [e1, List.getElem?_map] at r1
        cases qc : cs[i]? with
        | none => rw [qc] at r1; cases r1
        | some c =>
          rw [qc] at r1
          cases r1
          have hi : i < ks.length := by rw [← lk]; exact (List.getElem?_eq_some_iff.mp qc).1
          exact ⟨ks[i], c, List.getElem?_zip_eq_some.mpr ⟨List.getElem?_eq_getElem hi, List.getElem?_zip_eq_some.mpr ⟨qc, r2⟩⟩, rfl⟩
      · intro h' kp y hy
        obtain ⟨k, h1, rfl⟩ := htup y hy
        obtain ⟨o, its, n, w1, w2, w3, w4⟩ := key_of I1.hok h1
        have hlt : @LT.lt Nat _ y.2.1 s1.heap.objs.size := Heap.lt_size w1
        refine ⟨o, its, n, kp _ _ (neN (by rw [hsz]; omega)) ?_ (hkp _ _ w1), w2, w3, w4⟩
        simp only [List.mem_cons, List.not_mem_nil, or_false, not_or]
        exact ⟨neN (by omega), neN (by omega), neN (by omega), neN (by omega)⟩
      · refine Nat.le_trans (Nat.min_le_left _ _) ?_
        rw [← lx]; exact z1
      · have hm2 : (h5.objs.size == sysModules) = false := beq_eq_false_iff_ne.mpr (Nat.ne_of_gt (Nat.lt_of_lt_of_le I1.big (by rw [hsz]; exact leN (by omega))))
        obtain ⟨o, es, ep, w1, w2, w3, w4, w5, w6⟩ := hdct
        have old : ∀ c u, s1.heap.get? c = some u → h'.get? c = some u := fun c u e => by
          have hlt : @LT.lt Nat _ c s1.heap.objs.size := Heap.lt_size e
          refine hk' c u ?_ (hkp _ _ e)
          simp only [List.mem_cons, List.not_mem_nil, or_false, not_or]
          exact ⟨neN (by omega), neN (by omega), neN (by omega), neN (by omega)⟩
        have lz : (ks.zip ys).length ≤ xs.length := by
          rw [List.length_zip]
          omega
        refine ⟨.ref h5.objs.size, upd H1 h5.objs.size (.dT (putsK [] (ks.zip ys))), I1.laid (a := h5.objs.size) (t' := tk) old (by rw [hsz]; exact leN (by omega)) (show ObjOk X.prog X.w _ _ _ (.dT (putsK [] (ks.zip ys))) from ⟨?_, hm2, storedAllH [] (ks.zip (cs.zip it2)), ?_, o, es, ep, w1, w2, w3, w4, w6⟩), rfl, q1 _ fr⟩
        · have w8 := length_putsK (ks.zip ys) []
          simp only [List.length_nil, Nat.zero_add] at w8
          omega
        · refine Paired.mapP (kt_puts kt .nil) fun p q w => ⟨w.1, ?_, w.2.2⟩
          rw [upd_ne (ne_of_none w.2.1 fr)]; exact w.2.1
end
/-! ### what it means -/
theorem ks_rep {K : PySem.W.Frag} {F H : Hp} (sub : Same F H) : ∀ {xs : List V} {ds : List D} {ks : List (List Int)}, Reps K F xs ds → allO (ds.map tupK) = some ks →
    Paired (fun (x : V) (k : List Key) => ∃ c, x = .ref c ∧ H c = some (.tup (k.map kV))) xs (ks.map fun k => (k.map Sum.inl : List Key))
  | _, _, ks, .nil, e => by
    simp only [List.map_nil, allO] at e
    cases e
    exact .nil
  | _, _, ks, .cons (d := d) h r, e => by
    rw [List.map_cons] at e
    cases q : tupK d with
    | none => rw [q] at e; simp [allO] at e
    | some p =>
      rw [q] at e
      simp only [allO] at e
      cases q2 : allO (List.map tupK _) with
      | none => rw [q2] at e; cases e
      | some ps2 =>
        rw [q2] at e
        simp only [Option.map_some, Option.some.injEq] at e
        subst e
        have ih := ks_rep sub r q2
        cases d with
        | tuple es =>
          have q : allI es = some p := q
          rw [allI_some q] at h
          cases h with
          | tup ha ra =>
            rw [ra.ints] at ha
            refine .cons ⟨_, rfl, ?_⟩ ih
            have := sub _ _ ha
            rw [this, List.map_map]; rfl
        | _ => cases q
theorem zip_prD {K : PySem.W.Frag} {fa : FA} {F : Hp} {ρ : Nat → Addr} {n : Nat} : ∀ {ks : List (List Int)} {ys : List V} {es : List D}, Reps K F ys es → PrD K fa F ρ n ((ks.map fun k => (k.map Sum.inl : List Key)).zip ys) (ks.zip (es.map Val.d))
  | [], _, _, _ => by simp only [List.map_nil, List.zip_nil_left]; exact .nil
  | _ :: _, _, _, .nil => by simp only [List.map_nil, List.zip_nil_right]; exact .nil
  | k :: ks, _, _, .cons h r => by
    simp only [List.map_cons, List.zip_cons_cons]
    exact .cons ⟨rfl, h⟩ (zip_prD r)
section
variable {fa : FA} {X : Cx} {a b : Expr} {ma mb : M Val} {pos : Pos}
theorem sm_dz {p p2 q : Pos} (hu : X.A.units + 65 < cLine) (hg : Gl X "dict") (hm : X.mg "dict" = none) (hg2 : Gl X "zip") (hm2 : X.mg "zip" = none) (hc : X.calm = true) (ha : SimE fa X a ma) (hb : SimE fa X b mb) (hn : noStar a = true) (hn2 : noStar b = true) :
    SimE fa X (.Call (.Name "dict" p) [.Call (.Name "zip" p2) [a, b] [] q] [] pos) (fun env S => (ma env S).bind fun x S1 => (mb env S1).bind fun y S2 => dzV x y S2) := by
  refine ⟨fun W tk => PE.imp (pe_dz hg hm hg2 hm2 hc hu ((sa_cons ha (sa_cons hb sa_nil hn2) hn).run W tk) (starEach_cons hn _ _) (starEach_plain [b] _ _ (by rw [List.all_cons, hn2]; rfl))) fun σ H Q q => ?_⟩
  obtain ⟨env, S, F, ρ, s, e, p⟩ := q
  refine ⟨env, S, F, ρ, s, e, ?_⟩
  dsimp only at p
  unfold mcons mnil
  cases q0 : ma env S with
  | stuck => rw [q0] at p; exact p
  | exc e S' => rw [q0] at p; exact p
  | ok v S1 =>
    rw [q0] at p
    simp only [R.bind_ok] at p ⊢
    cases q1 : mb env S1 with
    | stuck => rw [q1] at p; exact p
    | exc e S' => rw [q1] at p; exact p
    | ok u S2 =>
      rw [q1] at p
      simp only [R.bind_ok] at p ⊢
      intro xs F1 H1 ρ1 s1 x1 r1
      have p := Post.shift x1 p
      cases r1 with
      | cons r1 rn =>
        cases rn with
        | cons r2 rn =>
          cases rn
          unfold dzV at p
          split at p
          · rename_i ds es _
            cases q4 : allO (ds.map tupK) with
            | none => rw [q4] at p; exact p.elim
            | some ks =>
              rw [q4] at p
              dsimp only at p

              cases (show Rep X.K F1 _ (.list ds) from r1) with
              | lst h1 k1 =>
                cases (show Rep X.K F1 _ (.tuple es) from r2) with
                | tup h2 k2 =>
                  refine ⟨_, _, _, _, _, rfl, SqL.of (s1.sub _ _ h1), SqT.of (s1.sub _ _ h2), ks_rep s1.sub k1 q4, fun p' hp => ?_⟩
                  obtain ⟨ρ2, e2, s2, x2⟩ := s1.alloc hp (.dct (puts_rep (zip_prD k2) (kvs := []) (es := []) .nil))
                  exact p _ F1 _ ρ2 s2 x2 ⟨by simp, by rw [e2]⟩
          · exact p.elim
end
end MS

-- MsMark
/-! xs.count(b), xs.index(b): a list of truths. -/
namespace MS
open PySem PySem.Spec PyProof.Rows L2
theorem idx_b : ∀ (bs : List Bool) (b : Bool), b ∈ bs → bs[bs.idxOf b]? = some b ∧ ∀ (m : Nat) (z : Bool), m < bs.idxOf b → bs[m]? = some z → (z == b) = false
  | [], _, h => nomatch h
  | c :: bs, b, h => by
    rw [List.idxOf_cons]
    by_cases e : c = b
    · subst e
      simp
    · have e' : (c == b) = false := by simpa using e
      rw [e']
      have hm : b ∈ bs := by
        rcases List.mem_cons.mp h with h | h
        · exact absurd h.symm e
        · exact h
      obtain ⟨i1, i2⟩ := idx_b bs b hm
      simp only [cond_false]
      refine ⟨by simpa using i1, fun m z hm hz => ?_⟩
      cases m with
      | zero => simp at hz; subst hz; exact e'
      | succ m => exact i2 m z (by omega) (by simpa using hz)
theorem count_b {b : Bool} : ∀ {bs : List Bool} {its : List Value}, Vals (bs.map V.bl) its → its.countP (eqU (.bl b)) = bs.count b
  | [], _, .nil => rfl
  | c :: bs, _, .cons r t => by
    have ih := count_b (b := b) t
    rw [List.countP_cons, List.count_cons, ih, eqU_of r rfl]
    rfl
theorem flat_b (bs : List Bool) : (bs.map V.bl).all flatV = true := by
  rw [List.all_map]
  exact List.all_eq_true.mpr fun b _ => rfl
theorem bools_rep {K : PySem.W.Frag} {F : Hp} : ∀ {xs : List V} {ds : List D} {bs : List Bool}, Reps K F xs ds → trusD ds = some bs → xs = bs.map V.bl
  | _, _, bs, .nil, e => by
    simp only [trusD] at e
    cases e; rfl
  | _, _, bs, .cons (d := d) h r, e => by
    cases d with
    | bool b =>
      simp only [trusD] at e
      cases q : trusD _ with
      | none => rw [q] at e; cases e
      | some cs =>
        rw [q] at e
        cases e
        cases h
        rw [bools_rep r q]; rfl
    | _ => simp [trusD] at e
section
variable {X : Cx}
def rCntB (K : PySem.W.Frag) : V → List V → Hp → VK → Prop := fun x xs H Q => ∃ (p : Addr) (bs : List Bool) (b : Bool), x = .ref p ∧ xs = [.bl b] ∧ SqL K H p (bs.map V.bl) ∧ Q (.int (bs.count b : Nat)) H
theorem mt_bcount : MtR X "list.count" (rCntB X.K) := by
  intro pins s σ H x xs v us Q I rx rxs h
  obtain ⟨p, bs, b, rfl, rfl, hs, q⟩ := h
  cases rx
  obtain ⟨u, rfl, ru⟩ := rxs.one
  obtain ⟨its, rv, ⟨⟨cls, dd, data, sl⟩, n, ho, hc, hdn, hd⟩, hlen⟩ := I.list hs
  simp only at hc hd
  subst hc hd
  refine call_meets PySem.F.slot_list_count ⟨_, ho, rfl⟩ PySem.F.entry_list_count (PySem.F.args_list_count_2 _ _)
    (SeqAt.list_countAt p its.toArray n dd sl u (eqU (.bl b))) ⟨ho, fun y hy => mem_eqAt ru rfl rv (flat_b bs) y (by simpa using hy), ?_⟩
  have ec : its.toArray.toList.countP (eqU (.bl b)) = bs.count b := by simpa using count_b rv
  refine ⟨.int (bs.count b : Nat), H, I.tok _, ⟨s.toks, ?_⟩, q⟩
  show Value.int ((its.toArray.toList.countP (eqU (.bl b)) : Nat) : Int) s.toks = Value.int ((bs.count b : Nat) : Int) s.toks
  rw [ec]
end
section
variable {fa : FA} {X : Cx} {a b : Expr} {ma mb : M Val} {pos apos : Pos}
/-- a method of a list of truths, with one truth -/
theorem sm_lmark {name : Str} {id : String} {r : V → List V → Hp → VK → Prop} {f : Val → Val → Option Val} (slot : Slot "list" name id) (hty : typeOf (.builtin id) = pure (.type "method_descriptor")) (hm : MtR X id r)
    (hr : ∀ {F H : Hp} {p : Addr} {xs : List V} {ds : List D} {y : V} {ρ : Nat → Addr} {n : Nat} {u w : Val} {Q : VK}, Same F H → F p = some (.lst xs) → Reps X.K F xs ds → RepV X.K fa F ρ n y u → f (.d (.list ds)) u = some w → (∀ z, RepV X.K fa F ρ n z w → Q z H) → r (.ref p) [y] H Q)
    (ha : SimE fa X a ma) (hb : SimE fa X b mb) (h0 : notCall0 a = true) (hn : noStar b = true) (hl : (apos.endLine == pos.line) = true) :
    SimE fa X (.Call (.Attribute a name apos) [b] [] pos) (fun env S => (ma env S).bind fun x S1 => if isLsD x then (mb env S1).bind fun y S2 => .ofO (f x y) S2 else .stuck) := by
  refine ⟨fun W tk => PE.imp (pe_bm PySem.F.plainAttrs_list slot hty hm (ha.run W tk) ((sa_cons hb sa_nil hn).run W tk) (attrBase h0 _ _ _) (few1 hn _ _) hl (starEach_cons hn _ _) rfl) fun σ H Q q => ?_⟩
  refine q.bind (rep := RepV X.K fa) fun env v S1 x F1 H1 ρ1 s1 e1 r1 p1 => ?_
  cases hv : isLsD v with
  | false => rw [hv] at p1; exact p1.elim
  | true =>
    rw [hv] at p1
    simp only [if_true] at p1
    obtain ⟨ds, rfl⟩ : ∃ ds, v = .d (.list ds) := by
      unfold isLsD at hv
      split at hv
      · exact ⟨_, rfl⟩
      · cases hv
    have r1' : Rep X.K F1 x (.list ds) := r1
    cases r1' with
    | lst h k =>
      refine ⟨.inl ⟨rfl, _, SqL.of (s1.sub _ _ h)⟩, env, S1, F1, ρ1, s1, e1, ?_⟩
      unfold mcons mnil
      cases q1 : mb env S1 with
      | stuck => rw [q1] at p1; exact p1
      | exc e S' => rw [q1] at p1; exact p1
      | ok u S2 =>
        rw [q1] at p1
        simp only [R.bind_ok] at p1 ⊢
        intro ys F2 H2 ρ2 s2 x2 r2
        have p2 := Post.shift x2 p1
        cases r2 with
        | cons r2 rn =>
          cases rn
          obtain ⟨w, ew, q2⟩ := p2.ofO
          exact hr s2.sub (x2.fz _ _ h) (k.mono x2.fz) r2 ew fun z hz => q2 z F2 H2 ρ2 s2 (Ext.refl ..) hz
theorem sm_lcnt (ha : SimE fa X a ma) (hb : SimE fa X b mb) (h0 : notCall0 a = true) (hn : noStar b = true) (hl : (apos.endLine == pos.line) = true) :
    SimE fa X (.Call (.Attribute a "count" apos) [b] [] pos) (fun env S => (ma env S).bind fun x S1 => if isLsD x then (mb env S1).bind fun y S2 => .ofO (lcntV x y) S2 else .stuck) := by
  refine sm_lmark PySem.F.slot_list_count PySem.F.type_list_count mt_bcount ?_ ha hb h0 hn hl
  intro F H p xs ds y ρ n u w Q sub h k ry e q
  unfold lcntV at e
  split at e
  · rename_i ds' b' ed
    cases ed
    cases q1 : trusD ds with
    | none => rw [q1] at e; cases e
    | some bs =>
      rw [q1] at e
      cases e
      have := bools_rep k q1
      subst this
      cases (show Rep X.K F y (.bool b') from ry)
      exact ⟨p, bs, b', rfl, rfl, SqL.of (sub _ _ h), q _ (Rep.int _)⟩
  · cases e
theorem sm_lidx (ha : SimE fa X a ma) (hb : SimE fa X b mb) (h0 : notCall0 a = true) (hn : noStar b = true) (hl : (apos.endLine == pos.line) = true) :
    SimE fa X (.Call (.Attribute a "index" apos) [b] [] pos) (fun env S => (ma env S).bind fun x S1 => if isLsD x then (mb env S1).bind fun y S2 => .ofO (lidxV x y) S2 else .stuck) := by
  refine sm_lmark PySem.F.slot_list_index PySem.F.type_list_index mt_index ?_ ha hb h0 hn hl
  intro F H p xs ds y ρ n u w Q sub h k ry e q
  unfold lidxV at e
  split at e
  · rename_i ds' b' ed
    cases ed
    cases q1 : trusD ds with
    | none => rw [q1] at e; cases e
    | some bs =>
      rw [q1] at e
      dsimp only [Option.bind_some] at e
      split at e
      · rename_i hb
        cases e
        have := bools_rep k q1
        subst this
        cases (show Rep X.K F y (.bool b') from ry)
        obtain ⟨i1, i2⟩ := idx_b bs b' (by simpa using hb)
        refine ⟨p, _, _, bs.idxOf b', .bl b', rfl, rfl, SqL.of (sub _ _ h), rfl, flat_b bs, ?_, ?_, fun m z hm hz => ?_, q _ (Rep.int _)⟩
        · rw [List.getElem?_map, i1]; rfl
        · show (b' == b') = true
          exact beq_self_eq_true b'
        · rw [List.getElem?_map] at hz
          cases q2 : bs[m]? with
          | none => rw [q2] at hz; cases hz
          | some c =>
            rw [q2] at hz
            cases hz
            exact i2 m c hm q2
      · cases e
  · cases e
end
end MS

-- MsXop
/-! Further operations: how they are written, what they mean. -/
namespace MS
open PySem PySem.Spec PyProof.Rows L2

def bltNames : List Str := ["len", "all", "any", "sum", "int", "tuple", "list", "sorted", "dict", "abs", "str", "repr", "min", "max", "range", "enumerate", "zip", "isinstance", "set", "bool", "ValueError"]

def glB (sc : Scope) (x : Str) : Bool := match sc.names.lookup x with
  | some .globalImplicit => true
  | _ => false
theorem glB_ok {X : Cx} {sc : Scope} {x : Str} (hs : X.env.scope = sc) (h : glB sc x = true) : Gl X x := by
  unfold glB at h
  unfold Gl
  subst hs
  split at h
  · assumption
  · cases h

/-- a call of a built-in with one argument -/
def unA (n : Str) (sc : Scope) : Expr → Option Expr
  | .Call (.Name x _) [y] [] _ => if decide (x = n) && glB sc x then some y else none
  | _ => none
theorem un_ok {n : Str} {sc : Scope} {pe y : Expr} (h : unA n sc pe = some y) : ∃ p q, pe = .Call (.Name n p) [y] [] q ∧ glB sc n = true := by
  unfold unA at h
  split at h
  · rename_i x p y' q
    split at h
    · rename_i g
      simp only [Bool.and_eq_true, decide_eq_true_eq] at g
      obtain ⟨g1, g2⟩ := g
      cases h
      subst g1
      exact ⟨p, q, rfl, g2⟩
    · cases h
  · cases h
/-- an operation's first operand, and the other -/
def xopA (sc : Scope) : XOp → Expr → Option (Expr × Expr)
  | .lzip, .Call (.Name x _) [.Call (.Name z _) [u, v] [] _] [] _ => if decide (x = "list") && glB sc x && decide (z = "zip") && glB sc z then some (u, v) else none
  | .dzip, .Call (.Name x _) [.Call (.Name z _) [u, v] [] _] [] _ => if decide (x = "dict") && glB sc x && decide (z = "zip") && glB sc z then some (u, v) else none
  | .kget, .Subscript u v _ => if noSlice v then some (u, v) else none
  | .upd, .Call (.Attribute p x apos) [u] [] cpos => if decide (x = "update") && notCall0 p && (apos.endLine == cpos.line) then some (p, u) else none
  | .sdef, .Call (.Attribute p x apos) [u, .List [] _] [] cpos => if decide (x = "setdefault") && notCall0 p && (apos.endLine == cpos.line) then some (p, u) else none
  | .lcnt, .Call (.Attribute p x apos) [u] [] cpos => if decide (x = "count") && notCall0 p && (apos.endLine == cpos.line) then some (p, u) else none
  | .lidx, .Call (.Attribute p x apos) [u] [] cpos => if decide (x = "index") && notCall0 p && (apos.endLine == cpos.line) then some (p, u) else none
  | _, _ => none
section
variable {fa : FA} {X : Cx} {sc : Scope} {pe p u : Expr} {ma mb : M Val}
theorem xop_plain (k : XOp) (q : xopA sc k pe = some (p, u)) : plainTest pe = true := by
  cases k <;> cases pe <;> first | rfl | (simp [xopA] at q)
def xopM (k : XOp) (ma mb : M Val) : M Val := fun env S => (ma env S).bind fun x S1 => if xopPre k S1 x then (mb env S1).bind fun y S2 => xopV k x [y] S2 else .stuck
/-- operations of an except suite, too -/
def xopHot : XOp → Bool
  | .lcnt => true
  | .lidx => true
  | _ => false
theorem xop_okH (k : XOp) (kh : xopHot k = true) (q : xopA sc k pe = some (p, u)) (ha : SimE fa X p ma) (hb : SimE fa X u mb) (hn2 : noStar u = true) : SimE fa X pe (xopM k ma mb) := by
  cases k with
  | lcnt =>
    unfold xopA at q
    split at q <;> try contradiction
    split at q
    · rename_i h
      simp only [Bool.and_eq_true, decide_eq_true_eq] at h
      obtain ⟨⟨g1, g2⟩, g3⟩ := h
      cases q
      subst g1
      exact sm_lcnt ha hb g2 hn2 g3
    · cases q
  | lidx =>
    unfold xopA at q
    split at q <;> try contradiction
    split at q
    · rename_i h
      simp only [Bool.and_eq_true, decide_eq_true_eq] at h
      obtain ⟨⟨g1, g2⟩, g3⟩ := h
      cases q
      subst g1
      exact sm_lidx ha hb g2 hn2 g3
    · cases q
  | _ => cases kh
theorem xop_ok (k : XOp) (hsc : X.env.scope = sc) (blt : ∀ x ∈ bltNames, X.mg x = none) (hc : X.calm = true) (hu : X.A.units + 65 < cLine) (q : xopA sc k pe = some (p, u)) (ha : SimE fa X p ma) (hb : SimE fa X u mb) (hn : noStar p = true) (hn2 : noStar u = true) : SimE fa X pe (xopM k ma mb) := by
  cases k with
  | lzip =>
    unfold xopA at q
    split at q <;> try contradiction
    rename_i x _ z _ u v _ _ _
    split at q
    · rename_i h
      simp only [Bool.and_eq_true, decide_eq_true_eq] at h
      obtain ⟨⟨⟨g1, g2⟩, g3⟩, g4⟩ := h
      cases q
      subst g1; subst g3
      exact sm_lz (glB_ok hsc g2) (blt _ (by decide +kernel)) (glB_ok hsc g4) (blt _ (by decide +kernel)) hc ha hb hn hn2
    · cases q
  | dzip =>
    unfold xopA at q
    split at q <;> try contradiction
    rename_i x _ z _ u v _ _ _
    split at q
    · rename_i h
      simp only [Bool.and_eq_true, decide_eq_true_eq] at h
      obtain ⟨⟨⟨g1, g2⟩, g3⟩, g4⟩ := h
      cases q
      subst g1; subst g3
      exact sm_dz hu (glB_ok hsc g2) (blt _ (by decide +kernel)) (glB_ok hsc g4) (blt _ (by decide +kernel)) hc ha hb hn hn2
    · cases q
  | kget =>
    unfold xopA at q
    split at q <;> try contradiction
    split at q
    · rename_i h
      cases q
      exact sm_kget hu ha hb h
    · cases q
  | upd =>
    unfold xopA at q
    split at q <;> try contradiction
    split at q
    · rename_i h
      simp only [Bool.and_eq_true, decide_eq_true_eq] at h
      obtain ⟨⟨g1, g2⟩, g3⟩ := h
      cases q
      subst g1
      exact sm_upd hu ha hb (m1_ok g2 hn2 g3)
    · cases q
  | sdef =>
    unfold xopA at q
    split at q <;> try contradiction
    split at q
    · rename_i h
      simp only [Bool.and_eq_true, decide_eq_true_eq] at h
      obtain ⟨⟨g1, g2⟩, g3⟩ := h
      cases q
      subst g1
      exact sm_sdef hu ha hb (m2_ok g2 hn2 rfl g3)
    · cases q
  | lcnt => exact xop_okH .lcnt rfl q ha hb hn2
  | lidx => exact xop_okH .lidx rfl q ha hb hn2
  | dprs => simp [xopA] at q
  | ditm => simp [xopA] at q
/-- an operation with one operand -/
def xopA1 (sc : Scope) : XOp → Expr → Option Expr
  | .dprs, .Call (.Name x _) [u] [] _ => if decide (x = "dict") && glB sc x && noStar u then some u else none
  | .ditm, .Call (.Name x _) [.Call (.Attribute u z apos) [] [] cpos] [] _ => if decide (x = "list") && glB sc x && decide (z = "items") && notCall0 u && (apos.endLine == cpos.line) then some u else none
  | _, _ => none
theorem xop_plain1 (k : XOp) (q : xopA1 sc k pe = some p) : plainTest pe = true := by
  cases k <;> cases pe <;> first | rfl | (simp [xopA1] at q)
def xopM1 (k : XOp) (ma : M Val) : M Val := fun env S => (ma env S).bind fun x S1 => if xopPre k S1 x then xopV k x [] S1 else .stuck
theorem xop_ok1 (k : XOp) (hsc : X.env.scope = sc) (blt : ∀ x ∈ bltNames, X.mg x = none) (hc : X.calm = true) (hu : X.A.units + 65 < cLine) (q : xopA1 sc k pe = some p) (ha : SimE fa X p ma) : SimE fa X pe (xopM1 k ma) := by
  cases k with
  | dprs =>
    unfold xopA1 at q
    split at q <;> try contradiction
    split at q
    · rename_i h
      simp only [Bool.and_eq_true, decide_eq_true_eq] at h
      obtain ⟨⟨g1, g2⟩, g3⟩ := h
      cases q
      subst g1
      exact sm_dprs hu hc (glB_ok hsc g2) (blt _ (by decide +kernel)) ha g3
    · cases q
  | ditm =>
    unfold xopA1 at q
    split at q <;> try contradiction
    split at q
    · rename_i h
      simp only [Bool.and_eq_true, decide_eq_true_eq] at h
      obtain ⟨⟨⟨⟨g1, g2⟩, g3⟩, g4⟩, g5⟩ := h
      cases q
      subst g1; subst g3
      exact sm_ditm hc (glB_ok hsc g2) (blt _ (by decide +kernel)) ha g4 g5
    · cases q
  | _ => unfold xopA1 at q; split at q <;> contradiction
end
end MS

-- MsChk
/-! The check: the text matches the syntax; what it means then. -/
namespace MS
open PySem PySem.Spec PyProof.Rows L2

/-- the tables of a law: names of the defs, their parameters, names of the constants, the defs that may be called, the constants that may be read -/
structure Tb where
  nm : Nat → Str
  ps : Nat → List Str
  gm : Nat → Str
  I : List Nat
  J : List Nat
  /-- classes of exceptions, and which lies below which -/
  xs : List Nat
  sb : List (Nat × Nat × Bool)
  /-- those that have an __init__ of their own -/
  xi : List Nat := []
def visB (sc : Scope) (x : Str) : Bool := match sc.names.lookup x with
  | some .local => true
  | some .cell => true
  | some .free => true
  | _ => false
theorem visB_ok {sc : Scope} {x : Str} (h : visB sc x = true) : Vis sc x := by
  unfold visB at h
  unfold Vis
  split at h
  · exact .inl (by assumption)
  · exact .inr (.inl (by assumption))
  · exact .inr (.inr (by assumption))
  · cases h
def nameB (N : List Str) (i : Nat) (x : Str) : Bool := match N[i]? with
  | some y => decide (y = x)
  | none => false
theorem nameB_ok {N : List Str} {i : Nat} {x : Str} (h : nameB N i x = true) : N[i]? = some x := by
  unfold nameB at h
  split at h
  · rename_i y hy; rw [hy, of_decide_eq_true h]
  · cases h
def locB (sc : Scope) (fn : Str → Bool) (x : Str) : Bool := match sc.names.lookup x with
  | some .local => true
  | some .cell => fn x
  | _ => false
theorem locB_ok {sc : Scope} {fn : Str → Bool} {x : Str} (h : locB sc fn x = true) : Loc sc x ∧ (fn x = true ∨ sc.names.lookup x = some .local) := by
  unfold locB at h
  unfold L2.Loc
  split at h
  · exact ⟨.inl (by assumption), .inr (by assumption)⟩
  · exact ⟨.inr (by assumption), .inl h⟩
  · cases h
def plainN (x : Str) : Bool := !(x == ("__debug__" : Str)) && !(x == ("__classdict__" : Str))
theorem plainN_ok {x : Str} (h : plainN x = true) : (x == ("__debug__" : Str)) = false ∧ (x == ("__classdict__" : Str)) = false := by
  unfold plainN at h
  simpa using h

/-! ### targets -/
mutual
def okTg (N : List Str) (sc : Scope) (fn : Str → Bool) : Tg → Expr → Bool
  | .name i, .Name x _ => nameB N i x && locB sc fn x
  | .tup ts, .Tuple es _ _ => okTgs N sc fn ts es
  | _, _ => false
def okTgs (N : List Str) (sc : Scope) (fn : Str → Bool) : Tgs → List Expr → Bool
  | .nil, [] => true
  | .cons t ts, e :: es => okTg N sc fn t e && okTgs N sc fn ts es
  | _, _ => false
end
section
variable {fa : FA} {X : Cx} {sc : Scope} {fn : Str → Bool}
theorem okTg_star {N : List Str} {t : Tg} {pe : Expr} (h : okTg N sc fn t pe = true) : noStar pe = true := by
  cases t <;> cases pe <;> first | rfl | (simp [okTg] at h)
mutual
theorem okTg_ok (hs : X.env.scope = sc) (hf : X.fn = fn) (hN : X.N.Nodup) (hc : X.calm = true) : ∀ (t : Tg) (pe : Expr), okTg X.N sc fn t pe = true → PG X pe (rdGt X.K fa t)
  | .name i, pe, h => by
    cases pe with
    | Name x p =>
      simp only [okTg, Bool.and_eq_true] at h
      obtain ⟨h2, h3⟩ := locB_ok h.2
      exact sg_name hN (nameB_ok h.1) (by rw [hs]; exact h2) (by rw [hf, hs]; exact h3)
    | _ => simp [okTg] at h
  | .tup ts, pe, h => by
    cases pe with
    | Tuple es k p =>
      simp only [okTg] at h
      obtain ⟨h1, h2, h3⟩ := okTgs_ok hs hf hN hc ts es h
      exact sg_tup hc h1 h2 h3
    | _ => simp [okTg] at h
theorem okTgs_ok (hs : X.env.scope = sc) (hf : X.fn = fn) (hN : X.N.Nodup) (hc : X.calm = true) : ∀ (t : Tgs) (pe : List Expr), okTgs X.N sc fn t pe = true → PGs X pe (rdGts X.K fa t) ∧ pe.all noStar = true ∧ pe.length = t.length
  | .nil, [], _ => ⟨sgs_nil, rfl, rfl⟩
  | .nil, _ :: _, h => by simp [okTgs] at h
  | .cons _ _, [], h => by simp [okTgs] at h
  | .cons t ts, e :: es, h => by
    simp only [okTgs, Bool.and_eq_true] at h
    obtain ⟨h1, h2, h3⟩ := okTgs_ok hs hf hN hc ts es h.2
    have hst := okTg_star h.1
    exact ⟨sgs_cons (okTg_ok hs hf hN hc t e h.1) h1 hst, by rw [List.all_cons, hst, h2]; rfl, by simp [Tgs.length, h3]⟩
end
end

/-! ### expressions -/
def opB : BOp → Operator → Bool
  | .add, .Add => true
  | .sub, .Sub => true
  | .mul, .Mult => true
  | .fdiv, .FloorDiv => true
  | .mod, .Mod => true
  | .pow, .Pow => true
  | _, _ => false
theorem opB_ok {o : BOp} {p : Operator} (h : opB o p = true) : p = opOf o := by cases o <;> cases p <;> first | rfl | (simp [opB] at h)
def cmpB : COp → CmpOp → Bool
  | .lt, .Lt => true
  | .le, .LtE => true
  | .gt, .Gt => true
  | .ge, .GtE => true
  | .eq, .Eq => true
  | .ne, .NotEq => true
  | .isin, .In => true
  | .notin, .NotIn => true
  | .iss, .Is => true
  | .isnot, .IsNot => true
  | _, _ => false
theorem cmpB_ok {o : COp} {p : CmpOp} (h : cmpB o p = true) : p = cmpOf o := by cases o <;> cases p <;> first | rfl | (simp [cmpB] at h)
def boolB : Bool → BoolOp → Bool
  | true, .And => true
  | false, .Or => true
  | _, _ => false
theorem boolB_ok {o : Bool} {p : BoolOp} (h : boolB o p = true) : p = boolOf o := by cases o <;> cases p <;> first | rfl | (simp [boolB] at h)
def tysB (sc : Scope) : List Ty → List Expr → Bool
  | [], [] => true
  | t :: ts, .Name x _ :: es => decide (x = tyStr t) && glB sc x && tysB sc ts es
  | _, _ => false
theorem tysB_ok {sc : Scope} : ∀ {ts : List Ty} {es : List Expr}, tysB sc ts es = true → Paired (fun t pe => ∃ p, pe = Expr.Name (tyStr t) p) ts es ∧ ∀ t ∈ ts, glB sc (tyStr t) = true
  | [], [], _ => ⟨.nil, by simp⟩
  | [], _ :: _, h => by simp [tysB] at h
  | _ :: _, [], h => by simp [tysB] at h
  | t :: ts, e :: es, h => by
    cases e with
    | Name x p =>
      simp only [tysB, Bool.and_eq_true, decide_eq_true_eq] at h
      obtain ⟨⟨h1, h2⟩, h3⟩ := h
      subst h1
      obtain ⟨q1, q2⟩ := tysB_ok h3
      exact ⟨.cons ⟨p, rfl⟩ q1, fun u hu => by
        rcases List.mem_cons.mp hu with rfl | hu
        · exact h2
        · exact q2 u hu⟩
    | _ => simp [tysB] at h
def isNil : Es → Bool
  | .nil => true
  | _ => false
def revB : Expr → Bool
  | .Slice none none (some (.UnaryOp .USub (.Constant (.int j) _ _) _)) _ => decide (j = 1)
  | _ => false
theorem revB_ok {i : Expr} (h : revB i = true) : ∃ kk p1 p2 p3, i = .Slice none none (some (.UnaryOp .USub (.Constant (.int 1) kk p1) p2)) p3 := by
  unfold revB at h
  split at h
  · rw [decide_eq_true_eq] at h; subst h; exact ⟨_, _, _, _, rfl⟩
  · cases h
mutual
def okE (T : Tb) (N : List Str) : Scope → E → Expr → Bool
  | sc, .var i, .Name x _ => nameB N i x && visB sc x && plainN x
  | sc, .glob g, .Name x _ => decide (x = T.gm g) && T.J.contains g && glB sc x && plainN x
  | _, .none, .Constant .none _ _ => true
  | _, .bool b, .Constant (.bool c) _ _ => decide (b = c)
  | _, .int i, .Constant (.int j) _ _ => decide (i = j)
  | _, .str s, .Constant (.str x) _ _ => decide (s = x)
  | sc, .tup es, .Tuple pes _ _ => okEs T N sc es pes && decide (pes.length ≤ 1000)
  | sc, .lst es, .List pes _ => okEs T N sc es pes && decide (pes.length ≤ 1000)
  | sc, .lstN es, .List pes _ => okEs T N sc es pes && decide (pes.length ≤ 1000)
  | sc, .bin o a b, .BinOp x p y _ => opB o p && okE T N sc a x && okE T N sc b y
  | sc, .neg a, .UnaryOp .USub x _ => okE T N sc a x
  | sc, .not a, .UnaryOp .Not x _ => okE T N sc a x
  | sc, .bools k es, .BoolOp p pes _ => boolB k p && okEs T N sc es pes && !isNil es
  | sc, .cmp o a b, .Compare x [p] [y] _ => cmpB o p && okE T N sc a x && okE T N sc b y && noSet y
  | sc, .chain o1 o2 a b c, .Compare x [p1, p2] [y, z] _ => cmpB o1 p1 && cmpB o2 p2 && okE T N sc a x && okE T N sc b y && okE T N sc c z && noSet z
  | sc, .ife c a b, .IfExp x y z _ => okE T N sc c x && tstB c && okE T N sc a y && okE T N sc b z
  | sc, .ix a i, .Subscript x y _ => okE T N sc a x && okE T N sc i y && noSlice y
  | sc, .sl a lo hi, .Subscript x (.Slice l h none _) _ => okE T N sc a x && okO T N sc lo l && okO T N sc hi h
  | sc, .call f es, .Call (.Name x _) args [] _ => decide (x = T.nm f) && T.I.contains f && glB sc x && plainN x && okEs T N sc es args && args.all noStar
  | sc, .bi b a, .Call (.Name x _) [y] [] _ => decide (x = biName b) && glB sc x && okE T N sc a y && noStar y
  | sc, .isi a [t], .Call (.Name x _) [y, .Name z _] [] _ => decide (x = "isinstance") && glB sc x && decide (z = tyStr t) && glB sc z && okE T N sc a y && noStar y
  | sc, .isi a ts, .Call (.Name x _) [y, .Tuple pes _ _] [] _ => decide (x = "isinstance") && glB sc x && tysB sc ts pes && decide (ts.length ≤ 1000) && okE T N sc a y && noStar y
  | sc, .lenSet a, .Call (.Name x _) [.Call (.Name z _) [y] [] _] [] _ => decide (x = "len") && glB sc x && decide (z = "set") && glB sc z && okE T N sc a y && noStar y
  | sc, .dictOf a, .Call (.Name x _) [y] [] _ => decide (x = "dict") && glB sc x && okE T N sc a y && noStar y
  | sc, .dict1 k v, .Dict [some x] [y] _ => okE T N sc k x && okE T N sc v y
  | _, .dict0, .Dict [] [] _ => true
  | sc, .comp own tg it cs elt, .ListComp pelt [⟨ptg, piter, pifs, as⟩] scope _ => decide (as = 0) && okI T N sc it ptg piter && blkC N sc scope (ownN N own) && (tg.slots.all fun i => own.contains i) && noSet piter &&
      okTg N (relS scope sc) (fun x => scope.names.lookup x == some .cell) tg ptg && okCs T N (relS scope sc) cs pifs && okE T N (relS scope sc) elt pelt
  | sc, .fz a, pe => okE T N sc a pe
  | sc, .callP f es, .Call (.Name x _) args [] _ => decide (x = T.nm f) && T.I.contains f && glB sc x && plainN x && okEs T N sc es args && args.all noStar && !args.isEmpty
  | sc, .mm k a b, .Call (.Name x _) [y, z] [] _ => decide (x = mmS k) && glB sc x && okE T N sc a y && okE T N sc b z && noStar y && noStar z
  | sc, .srt false _ a, .Call (.Name x _) [y] [] _ => decide (x = "sorted") && glB sc x && okE T N sc a y && noStar y
  | sc, .srt true _ a, .Call (.Name x _) [.Call (.Name z _) [y] [] _] [] _ => decide (x = "sorted") && glB sc x && decide (z = "set") && glB sc z && okE T N sc a y && noStar y
  | _, .dctN, .Dict [] [] _ => true
  | sc, .rev a, .Subscript x i _ => revB i && okE T N sc a x
  | sc, .srtP a, .Call (.Name x _) [.Call (.Name z _) [y] [] _] [] _ => decide (x = "sorted") && glB sc x && decide (z = "set") && glB sc z && okE T N sc a y && noStar y
  | sc, .callL fs i es, .Call (.Subscript (.List nes _) y _) args [] _ => defsB T.nm fs nes && (fs.all fun f => T.I.contains f && glB sc (T.nm f) && plainN (T.nm f)) && decide (fs.length ≤ 1000) && okE T N sc i y && noSlice y && okEs T N sc es args && args.all noStar && !args.isEmpty
  | sc, .dget a k, .Subscript x y _ => okE T N sc a x && okE T N sc k y && noSlice y
  | sc, .din neg k a, .Compare y [op] [x] _ => decide (op = if neg then .NotIn else .In) && okE T N sc k y && okE T N sc a x && noSet x
  | sc, .dlen a, .Call (.Name x _) [y] [] _ => decide (x = "len") && glB sc x && okE T N sc a y && noStar y
  | sc, .klst a, pe => (match unA "list" sc pe with | some y => okE T N sc a y && noStar y | none => false)
  | sc, .dcpy a, pe => (match unA "dict" sc pe with | some y => okE T N sc a y && noStar y | none => false)
  | sc, .getI a k z, .Call (.Attribute p x apos) [u, v] [] cpos => decide (x = "get") && okE T N sc a p && okE T N sc k u && okE T N sc z v && notCall0 p && noStar u && noStar v && (apos.endLine == cpos.line)
  | sc, .dgetZ a k z, .Call (.Attribute p x apos) [u, v] [] cpos => decide (x = "get") && okE T N sc a p && okE T N sc k u && okE T N sc z v && notCall0 p && noStar u && noStar v && (apos.endLine == cpos.line)
  | sc, .dict2 a b c d, .Dict [some x, some z] [y, w] _ => okE T N sc a x && okE T N sc b y && okE T N sc c z && okE T N sc d w
  | sc, .xop k a .nil, pe => (match xopA1 sc k pe with | some p => okE T N sc a p | none => false)
  | sc, .xop k a (.cons e .nil), pe => (match xopA sc k pe with | some (p, u) => okE T N sc a p && okE T N sc e u && noStar p && noStar u | none => false)
  | sc, .newc (.bi b a), .Call (.Name x _) [y] [] _ => decide (b = .list) && decide (x = "list") && glB sc x && okE T N sc a y && noStar y
  | sc, .newc (.bin o a b), .BinOp x p y _ => decide (o = .mul ∨ o = .add) && opB o p && okE T N sc a x && okE T N sc b y
  | _, .newc .dict0, .Dict [] [] _ => true
  | sc, .newc (.comp own tg it cs elt), .ListComp pelt [⟨ptg, piter, pifs, as⟩] scope _ => decide (as = 0) && okI T N sc it ptg piter && blkC N sc scope (ownN N own) && (tg.slots.all fun i => own.contains i) && noSet piter &&
      okTg N (relS scope sc) (fun x => scope.names.lookup x == some .cell) tg ptg && okCs T N (relS scope sc) cs pifs && okE T N (relS scope sc) elt pelt
  | _, _, _ => false
def okEs (T : Tb) (N : List Str) : Scope → Es → List Expr → Bool
  | _, .nil, [] => true
  | sc, .cons e es, p :: ps => okE T N sc e p && okEs T N sc es ps && noStar p
  | _, _, _ => false
def okCs (T : Tb) (N : List Str) : Scope → Es → List Expr → Bool
  | _, .nil, [] => true
  | sc, .cons e .nil, [p] => okE T N sc e p && tstB e
  | _, _, _ => false
def okO (T : Tb) (N : List Str) : Scope → Oe → Option Expr → Bool
  | _, .no, none => true
  | sc, .yes e, some p => okE T N sc e p
  | _, _, _ => false
def okI (T : Tb) (N : List Str) : Scope → It → Expr → Expr → Bool
  | sc, .over e, _, p => okE T N sc e p
  | sc, .range1 e, _, .Call (.Name x _) [p] [] _ => decide (x = "range") && glB sc x && okE T N sc e p && noStar p
  | sc, .range2 a b, _, .Call (.Name x _) [p, q] [] _ => decide (x = "range") && glB sc x && okE T N sc a p && okE T N sc b q && noStar p && noStar q
  | sc, .enum e, .Tuple _ _ _, .Call (.Name x _) [p] [] _ => decide (x = "enumerate") && glB sc x && okE T N sc e p && noStar p
  | sc, .zip a b, .Tuple _ _ _, .Call (.Name x _) [p, q] [] _ => decide (x = "zip") && glB sc x && okE T N sc a p && okE T N sc b q && noStar p && noStar q
  | sc, .keys e, _, p => okE T N sc e p
  | sc, .items e, .Tuple _ _ _, .Call (.Attribute p x apos) [] [] cpos => decide (x = "items") && okE T N sc e p && notCall0 p && (apos.endLine == cpos.line)
  | _, _, _, _ => false
/-- it may stand as a test -/
def tstB : E → Bool
  | .ife _ _ _ => false
  | .fz _ => false
  | .isx _ _ _ _ => false
  | .xfld _ _ => false
  | .not a => tstB a
  | .bools _ es => tstsB es
  | _ => true
def tstsB : Es → Bool
  | .nil => true
  | .cons e es => tstB e && tstsB es
end
/-! ### an except suite -/
def yesB (T : Tb) (yes no : List Nat) (d : Nat) : Bool := T.xs.contains d && (yes.all fun c => T.xs.contains c && T.sb.contains (c, d, true)) && (no.all fun c => T.xs.contains c && T.sb.contains (c, d, false))
def isxB (T : Tb) (yes no : List Nat) (x : Str) : Option Nat → Bool
  | some d => decide (x = T.nm d) && yesB T yes no d
  | none => decide (x = "ValueError") && (yes.all fun c => T.xs.contains c) && no.isEmpty
def okH2 (f : Expr → Expr → Bool) : List Expr → Bool
  | [x, y] => f x y
  | _ => false
theorem okH2_ok {f : Expr → Expr → Bool} {pes : List Expr} (h : okH2 f pes = true) : ∃ x y, pes = [x, y] ∧ f x y = true := by
  unfold okH2 at h
  split at h
  · exact ⟨_, _, rfl, h⟩
  · cases h
mutual
def okH (T : Tb) (N : List Str) (sc : Scope) : E → Expr → Bool
  | .var i, .Name x _ => nameB N i x && visB sc x && plainN x
  | .none, .Constant .none _ _ => true
  | .bool b, .Constant (.bool c) _ _ => decide (b = c)
  | .int i, .Constant (.int j) _ _ => decide (i = j)
  | .str s, .Constant (.str x) _ _ => decide (s = x)
  | .tup es, .Tuple pes _ _ => okHs T N sc es pes && decide (pes.length ≤ 1000)
  | .lst es, .List pes _ => okHs T N sc es pes && decide (pes.length ≤ 1000)
  | .bin o a b, .BinOp x p y _ => opB o p && okH T N sc a x && okH T N sc b y
  | .not a, .UnaryOp .Not x _ => okH T N sc a x
  | .cmp o a b, .Compare x [p] [y] _ => cmpB o p && okH T N sc a x && okH T N sc b y && noSet y
  | .ife c a b, .IfExp x y z _ => okH T N sc c x && isCmp c && okH T N sc a y && okH T N sc b z
  | .ix a i, .Subscript x y _ => okH T N sc a x && okH T N sc i y && noSlice y
  | .bools k (.cons a (.cons b .nil)), .BoolOp p pes _ => boolB k p && okH2 (fun x y => okH T N sc a x && okH T N sc b y) pes
  | .xop k a (.cons e .nil), pe => (match xopA sc k pe with | some (p, u) => okH T N sc a p && okH T N sc e u && noStar u && xopHot k | none => false)
  | .xfld i w, .Attribute (.Name n _) f _ => decide (f = fldS w) && decide (w ≤ 1) && nameB N i n && visB sc n && plainN n
  | .isx i yes no d, .Call (.Name f _) [.Name n _, .Name x _] [] _ => decide (f = "isinstance") && glB sc f && nameB N i n && visB sc n && plainN n && glB sc x && plainN x && isxB T yes no x d
  | _, _ => false
def okHs (T : Tb) (N : List Str) (sc : Scope) : Es → List Expr → Bool
  | .nil, [] => true
  | .cons e es, p :: ps => okH T N sc e p && okHs T N sc es ps && noStar p
  | _, _ => false
/-- a comparison, as a test -/
def isCmp : E → Bool
  | .cmp _ _ _ => true
  | .not x => isCmp x
  | .isx _ _ _ _ => true
  | .bools _ (.cons a (.cons b .nil)) => isCmp a && isCmp b
  | _ => false
end
end MS

-- MsSound
/-! The check's word: expressions. -/
namespace MS
open PySem PySem.Spec PyProof.Rows L2

/-- where code of a def (or of a comprehension in it) stands -/
structure Ctx (X : Cx) (fa : FA) (T : Tb) (G : List D) (C : Runner) (k : Nat) (N : List Str) (sc : Scope) : Prop where
  scope : X.env.scope = sc
  names : X.N = N
  nd : N.Nodup
  calm : X.calm = true
  room : Room k X.A
  grd : X.A.guards = some []
  lib : Lib X fa T.nm T.ps T.I C k
  cst : ∀ g ∈ T.J, ∃ d v u, G[g]? = some d ∧ X.mg (T.gm g) = some u ∧ RelV v u ∧ Rep X.K (fun _ => none) v d
  blt : ∀ x ∈ bltNames, X.mg x = none
  xcl : ∀ c ∈ T.xs, c < exI ∧ X.mg (T.nm c) = some (.ref (fa c)) ∧ XC X.K (fa c) ∧ PySem.W.kitOne X.K (.ref (fa c)) (.type "ValueError") = some true
  xpl : ∀ c ∈ T.xs, T.xi.contains c = false → PySem.W.excIn X.K (fa c) He.veBase "ValueError.__new__" = true
  xin : ∀ c ∈ T.xi, ∃ j, XI X.prog X.w X.K X.mg X.base (fa c) j ∧ Room (j + 1) X.A
  xsb : ∀ c d b, (c, d, b) ∈ T.sb → PySem.W.exmOne X.K (.ref (fa c)) (.ref (fa d)) = some b ∧ PySem.W.kitOne X.K (.ref (fa c)) (.ref (fa d)) = some b
theorem Ctx.units {X : Cx} {fa : FA} {T : Tb} {G : List D} {C : Runner} {k : Nat} {N : List Str} {sc : Scope} (c : Ctx X fa T G C k N sc) : X.A.units + 65 < cLine := by
  have := c.room.un; omega
theorem Ctx.blk {X : Cx} {fa : FA} {T : Tb} {G : List D} {C : Runner} {k : Nat} {N : List Str} {sc : Scope} (c : Ctx X fa T G C k N sc) (scope : Scope) (s : Shared) (H : Hp) (Ca : Addr) (cl : List (Str × Addr)) (fp : List Addr) :
    Ctx (X.blk s H scope (compEnvC scope cl Ca X.env) fp) fa T G C k N (relS scope sc) :=
  ⟨by rw [← c.scope]; rfl, c.names, c.nd, c.calm, c.room, c.grd, ⟨c.lib.mg, c.lib.kp, c.lib.fn⟩, c.cst, c.blt, c.xcl, c.xpl, c.xin, c.xsb⟩
theorem tru_ok {ma : M Val} : tru ma = fun env S => (ma env S).bind fun v S1 => .ofO (truthV S1 v) S1 := rfl
theorem mem_blt {x : Str} (h : x ∈ bltNames) : x ∈ bltNames := h
theorem bi_mem (b : Bi) : biName b ∈ bltNames := by cases b <;> decide +kernel
theorem ty_mem (t : Ty) : tyStr t ∈ bltNames := by cases t <;> decide +kernel
theorem es_len {G : List D} {C : Runner} : ∀ {T : Tb} {N : List Str} {sc : Scope} {es : Es} {pes : List Expr} {env : MS.Env} {S : Sto} {vs : List Val} {S' : Sto}, okEs T N sc es pes = true → evEs G C es env S = .ok vs S' → vs.length = pes.length
  | _, _, _, .nil, [], _, _, _, _, _, h => by simp only [evEs] at h; cases h; rfl
  | _, _, _, .nil, _ :: _, _, _, _, _, h, _ => by simp [okEs] at h
  | _, _, _, .cons _ _, [], _, _, _, _, h, _ => by simp [okEs] at h
  | T, N, sc, .cons e es, p :: ps, env, S, vs, S', h, h2 => by
    simp only [okEs, Bool.and_eq_true] at h
    simp only [evEs] at h2
    cases q : evE G C e env S with
    | stuck => rw [q] at h2; cases h2
    | exc _ _ => rw [q] at h2; cases h2
    | ok v S1 =>
      rw [q, R.bind_ok] at h2
      cases q2 : evEs G C es env S1 with
      | stuck => rw [q2] at h2; cases h2
      | exc _ _ => rw [q2] at h2; cases h2
      | ok vs2 S2 =>
        rw [q2, R.bind_ok] at h2
        cases h2
        simp [es_len h.1.2 q2]
theorem okEs_star : ∀ {T : Tb} {N : List Str} {sc : Scope} {es : Es} {pes : List Expr}, okEs T N sc es pes = true → pes.all noStar = true
  | _, _, _, .nil, [], _ => rfl
  | _, _, _, .nil, _ :: _, h => by simp [okEs] at h
  | _, _, _, .cons _ _, [], h => by simp [okEs] at h
  | T, N, sc, .cons e es, p :: ps, h => by
    simp only [okEs, Bool.and_eq_true] at h
    rw [List.all_cons, h.2, okEs_star h.1.2]; rfl
theorem SimT.congr {fa : FA} {X : Cx} {pe : Expr} {m m' : M Bool} (h : SimT fa X pe m) (e : m = m') : SimT fa X pe m' := e ▸ h
section
variable {fa : FA} {T : Tb} {G : List D} {C : Runner} {k : Nat} {N : List Str}
def SE (fa : FA) (G : List D) (C : Runner) (X : Cx) (e : E) (pe : Expr) : Prop := SimE fa X pe (evE G C e) ∧ (tstB e = true → SimT fa X pe (tru (evE G C e)))
theorem SE.plain {X : Cx} {e : E} {pe : Expr} (h : SimE fa X pe (evE G C e)) (hp : plainTest pe = true) : SE fa G C X e pe := ⟨h, fun _ => SimT.of_E h hp⟩
theorem okC_ok (own : List Nat) (tg : Tg) (it : It) (cs : Es) (elt : E) {X : Cx} {sc : Scope} {ptg pelt : Expr} {pifs : List Expr} {scope : Scope} (c : Ctx X fa T G C k N sc) (g4 : (tg.slots.all fun i => own.contains i) = true)
    (g6 : okTg N (relS scope sc) (fun x => scope.names.lookup x == some .cell) tg ptg = true) (g7 : ∀ {X' : Cx}, Ctx X' fa T G C k N (relS scope sc) → SimTs fa X' pifs (evCs G C cs)) (g8 : ∀ {X' : Cx}, Ctx X' fa T G C k N (relS scope sc) → SimE fa X' pelt (evE G C elt)) :
    SimC fa X scope ptg pifs pelt tg (evCs G C cs) (evE G C elt) ∧ ∀ i ∈ tg.slots, i ∈ own := by
  refine ⟨⟨fun s H Ca cl fp => ?_, fun s H Ca cl fp => ?_, fun s H Ca cl fp => ?_⟩, fun i hi => ?_⟩
  · have cb := c.blk scope s H Ca cl fp
    exact okTg_ok (X := X.blk s H scope (compEnvC scope cl Ca X.env) fp) cb.scope rfl (by rw [cb.names]; exact cb.nd) cb.calm tg ptg (by rw [cb.names]; exact g6)
  · exact (g7 (c.blk scope s H Ca cl fp)).run _ takes_blk
  · exact (g8 (c.blk scope s H Ca cl fp)).run _ takes_blk
  · have := List.all_eq_true.mp g4 i hi
    simpa using this
mutual
theorem okE_ok : ∀ (e : E) {X : Cx} {sc : Scope} (pe : Expr), Ctx X fa T G C k N sc → okE T N sc e pe = true → SE fa G C X e pe
  | .var i, X, sc, pe, c, h => by
    cases pe with
    | Name x p =>
      simp only [okE, Bool.and_eq_true] at h
      obtain ⟨⟨h1, h2⟩, h3⟩ := h
      obtain ⟨d1, d2⟩ := plainN_ok h3
      exact SE.plain (sm_var (by rw [c.names]; exact nameB_ok h1) (by rw [c.scope]; exact visB_ok h2) d1 d2) rfl
    | _ => simp [okE] at h
  | .glob g, X, sc, pe, c, h => by
    cases pe with
    | Name x p =>
      simp only [okE, Bool.and_eq_true, decide_eq_true_eq, List.contains_iff_mem] at h
      obtain ⟨⟨⟨h1, h2⟩, h3⟩, h4⟩ := h
      subst h1
      obtain ⟨d, v, u, e1, e2, e3, e4⟩ := c.cst g h2
      refine SE.plain ?_ rfl
      have := sm_const (fa := fa) (pe_glob (pos := p) (glB_ok c.scope h3) e2 e3 (plainN_ok h4).1) e4
      have e : evE G C (.glob g) = fun _ S => .ok (.d d) S := by
        funext env S; simp [evE, litI, e1]
      rw [e]; exact this
    | _ => simp [okE] at h
  | .none, X, sc, pe, c, h => by
    cases pe with
    | Constant v j p =>
      cases v with
      | none => exact SE.plain (sm_const pe_non .non) rfl
      | _ => simp [okE] at h
    | _ => simp [okE] at h
  | .bool b, X, sc, pe, c, h => by
    cases pe with
    | Constant v j p =>
      cases v with
      | bool b' =>
        simp only [okE, decide_eq_true_eq] at h
        subst h
        exact SE.plain (sm_const pe_bl (.bl _)) rfl
      | _ => simp [okE] at h
    | _ => simp [okE] at h
  | .int b, X, sc, pe, c, h => by
    cases pe with
    | Constant v j p =>
      cases v with
      | int b' =>
        simp only [okE, decide_eq_true_eq] at h
        subst h
        exact SE.plain (sm_const pe_int (.int _)) rfl
      | _ => simp [okE] at h
    | _ => simp [okE] at h
  | .str b, X, sc, pe, c, h => by
    cases pe with
    | Constant v j p =>
      cases v with
      | str b' =>
        simp only [okE, decide_eq_true_eq] at h
        subst h
        exact SE.plain (sm_const pe_str (.str _)) rfl
      | _ => simp [okE] at h
    | _ => simp [okE] at h
  | .tup es, X, sc, pe, c, h => by
    cases pe with
    | Tuple pes kk p =>
      simp only [okE, Bool.and_eq_true, decide_eq_true_eq] at h
      refine SE.plain (sm_tup (okEs_ok es pes c h.1) fun env S vs S' q => ?_) rfl
      rw [es_len h.1 q]; exact Nat.le_trans h.2 (by decide)
    | _ => simp [okE] at h
  | .lst es, X, sc, pe, c, h => by
    cases pe with
    | List pes p =>
      simp only [okE, Bool.and_eq_true, decide_eq_true_eq] at h
      refine SE.plain (sm_lst (okEs_ok es pes c h.1) fun env S vs S' q => ?_) rfl
      rw [es_len h.1 q]; exact Nat.le_trans h.2 (by decide)
    | _ => simp [okE] at h
  | .lstN es, X, sc, pe, c, h => by
    cases pe with
    | List pes p =>
      simp only [okE, Bool.and_eq_true, decide_eq_true_eq] at h
      refine SE.plain (sm_lstN (okEs_ok es pes c h.1) fun env S vs S' q => ?_) rfl
      rw [es_len h.1 q]; exact Nat.le_trans h.2 (by decide)
    | _ => simp [okE] at h
  | .bin o a b, X, sc, pe, c, h => by
    cases pe with
    | BinOp x p y q =>
      simp only [okE, Bool.and_eq_true] at h
      cases opB_ok h.1.1
      exact SE.plain (sm_bin (okE_ok a x c h.1.2).1 (okE_ok b y c h.2).1) rfl
    | _ => simp [okE] at h
  | .neg a, X, sc, pe, c, h => by
    cases pe with
    | UnaryOp p x q =>
      cases p with
      | USub =>
        simp only [okE] at h
        exact SE.plain (sm_neg (okE_ok a x c h).1) rfl
      | _ => simp [okE] at h
    | _ => simp [okE] at h
  | .not a, X, sc, pe, c, h => by
    cases pe with
    | UnaryOp p x q =>
      cases p with
      | Not =>
        simp only [okE] at h
        have ih := okE_ok a x c h
        exact ⟨sm_not ih.1, fun ht => st_not (ih.2 (by simpa [tstB] using ht))⟩
      | _ => simp [okE] at h
    | _ => simp [okE] at h
  | .bools kk es, X, sc, pe, c, h => by
    cases pe with
    | BoolOp p pes q =>
      simp only [okE, Bool.and_eq_true] at h
      cases boolB_ok h.1.1
      have hn : isNil es = false := by simpa using h.2
      have ih := okB_ok kk es pes (q := q) c h.1.2 hn
      exact ⟨ih.1, fun ht => (ih.2 (by simpa [tstB] using ht)).t⟩
    | _ => simp [okE] at h
  | .cmp o a b, X, sc, pe, c, h => by
    cases pe with
    | Compare x ps ys q =>
      match ps, ys, h with
      | [p], [y], h =>
        simp only [okE, Bool.and_eq_true] at h
        cases cmpB_ok h.1.1.1
        have h1 := (okE_ok a x c h.1.1.2).1
        have h2 := (okE_ok b y c h.1.2).1
        exact ⟨sm_cmp h1 h2 c.units h.2, fun _ => st_cmp h1 h2 c.units h.2⟩
      | [], _, h => simp [okE] at h
      | [_], [], h => simp [okE] at h
      | [_], _ :: _ :: _, h => simp [okE] at h
      | _ :: _ :: _, _, h => simp [okE] at h
    | _ => simp [okE] at h
  | .chain o1 o2 a b cc, X, sc, pe, c, h => by
    cases pe with
    | Compare x ps ys q =>
      match ps, ys, h with
      | [p1, p2], [y, z], h =>
        simp only [okE, Bool.and_eq_true] at h
        obtain ⟨⟨⟨⟨⟨g1, g2⟩, g3⟩, g4⟩, g5⟩, g6⟩ := h
        cases cmpB_ok g1
        cases cmpB_ok g2
        have h1 := (okE_ok a x c g3).1
        have h2 := (okE_ok b y c g4).1
        have h3 := (okE_ok cc z c g5).1
        exact ⟨sm_chain h1 h2 h3 c.units g6, fun _ => st_chain h1 h2 h3 c.units g6⟩
      | [], _, h => simp [okE] at h
      | [_], _, h => simp [okE] at h
      | [_, _], [], h => simp [okE] at h
      | [_, _], [_], h => simp [okE] at h
      | [_, _], _ :: _ :: _ :: _, h => simp [okE] at h
      | _ :: _ :: _ :: _, _, h => simp [okE] at h
    | _ => simp [okE] at h
  | .ife cc a b, X, sc, pe, c, h => by
    cases pe with
    | IfExp x y z q =>
      simp only [okE, Bool.and_eq_true] at h
      obtain ⟨⟨⟨g1, g2⟩, g3⟩, g4⟩ := h
      exact ⟨sm_ife ((okE_ok cc x c g1).2 g2) (okE_ok a y c g3).1 (okE_ok b z c g4).1, fun ht => by simp [tstB] at ht⟩
    | _ => simp [okE] at h
  | .ix a i, X, sc, pe, c, h => by
    cases pe with
    | Subscript x y q =>
      simp only [okE, Bool.and_eq_true] at h
      exact SE.plain (sm_ix (okE_ok a x c h.1.1).1 (okE_ok i y c h.1.2).1 h.2) rfl
    | _ => simp [okE] at h
  | .sl a lo hi, X, sc, pe, c, h => by
    cases pe with
    | Subscript x y q =>
      cases y with
      | Slice l hh st p2 =>
        cases st with
        | none =>
          simp only [okE, Bool.and_eq_true] at h
          exact SE.plain (sm_sl (okE_ok a x c h.1.1).1 (okO_ok lo l c h.1.2) (okO_ok hi hh c h.2)) rfl
        | some _ => simp [okE] at h
      | _ => simp [okE] at h
    | _ => simp [okE] at h
  | .call f es, X, sc, pe, c, h => by
    cases pe with
    | Call g args kws q =>
      cases g with
      | Name x p =>
        cases kws with
        | cons _ _ => simp [okE] at h
        | nil =>
          simp only [okE, Bool.and_eq_true, decide_eq_true_eq, List.contains_iff_mem] at h
          obtain ⟨⟨⟨⟨⟨g1, g2⟩, g3⟩, g4⟩, g5⟩, g6⟩ := h
          subst g1
          have ha := okEs_ok es args c g5
          refine SE.plain ?_ rfl
          cases args with
          | nil =>
            have := sm_call0 (fa := fa) (pos := q) (p := p) c.lib g2 c.room c.grd (glB_ok c.scope g3) (plainN_ok g4).1
            cases es with
            | nil =>
              have e : evE G C (.call f .nil) = fun env S => C f [] S := by funext env S; simp [evE, evEs]
              rw [e]; exact this
            | cons _ _ => simp [okEs] at g5
          | cons a0 args =>
            have := sm_call (fa := fa) (pos := q) (p := p) c.lib g2 c.room c.grd (glB_ok c.scope g3) (plainN_ok g4).1 ha g6
            have e : evE G C (.call f es) = fun env S => (evEs G C es env S).bind fun vs S1 => C f vs S1 := by funext env S; simp only [evE]
            rw [e]; exact this
      | _ => simp [okE] at h
    | _ => simp [okE] at h
  | .bi b a, X, sc, pe, c, h => by
    cases pe with
    | Call g args kws q =>
      cases g with
      | Name x p =>
        match args, kws, h with
        | [y], [], h =>
          simp only [okE, Bool.and_eq_true, decide_eq_true_eq] at h
          obtain ⟨⟨⟨g1, g2⟩, g3⟩, g4⟩ := h
          subst g1
          exact SE.plain (sm_bi b c.calm (fun _ => ⟨c.grd, c.units⟩) (glB_ok c.scope g2) (c.blt _ (bi_mem b)) (okE_ok a y c g3).1 g4) rfl
        | [], _, h => simp [okE] at h
        | [_], _ :: _, h => simp [okE] at h
        | _ :: _ :: _, _, h => simp [okE] at h
      | _ => simp [okE] at h
    | _ => simp [okE] at h
  | .isi a ts, X, sc, pe, c, h => by
    cases pe with
    | Call g args kws q =>
      cases g with
      | Name x p =>
        match args, kws, h with
        | [y, z], [], h =>
          cases z with
          | Name zz p2 =>
            match ts, h with
            | [t], h =>
              simp only [okE, Bool.and_eq_true, decide_eq_true_eq] at h
              obtain ⟨⟨⟨⟨⟨g1, g2⟩, g3⟩, g4⟩, g5⟩, g6⟩ := h
              subst g1; subst g3
              exact SE.plain (sm_isi1 (glB_ok c.scope g2) (c.blt _ (by decide +kernel)) (glB_ok c.scope g4) (c.blt _ (ty_mem t)) (okE_ok a y c g5).1 g6) rfl
            | [], h => simp [okE] at h
            | _ :: _ :: _, h => simp [okE] at h
          | Tuple pes kk p2 =>
            have h' : (decide (x = "isinstance") && glB sc x && tysB sc ts pes && decide (ts.length ≤ 1000) && okE T N sc a y && noStar y) = true := by
              cases ts with
              | nil => exact h
              | cons t ts => cases ts <;> exact h
            simp only [Bool.and_eq_true, decide_eq_true_eq] at h'
            obtain ⟨⟨⟨⟨⟨g1, g2⟩, g3⟩, g4⟩, g5⟩, g6⟩ := h'
            subst g1
            obtain ⟨t1, t2⟩ := tysB_ok g3
            exact SE.plain (sm_isiT (glB_ok c.scope g2) (c.blt _ (by decide +kernel)) t1 (fun t ht => ⟨glB_ok c.scope (t2 t ht), c.blt _ (ty_mem t)⟩) g4 (okE_ok a y c g5).1 g6) rfl
          | _ => cases ts with
            | nil => simp [okE] at h
            | cons t ts => cases ts <;> simp [okE] at h
        | [], _, h => cases ts with
            | nil => simp [okE] at h
            | cons t ts => cases ts <;> simp [okE] at h
        | [_], _, h => cases ts with
            | nil => simp [okE] at h
            | cons t ts => cases ts <;> simp [okE] at h
        | [_, z], _ :: _, h => cases z <;> (cases ts with
            | nil => simp [okE] at h
            | cons t ts => cases ts <;> simp [okE] at h)
        | _ :: _ :: _ :: _, _, h => cases ts with
            | nil => simp [okE] at h
            | cons t ts => cases ts <;> simp [okE] at h
      | _ => cases ts with
            | nil => simp [okE] at h
            | cons t ts => cases ts <;> simp [okE] at h
    | _ => cases ts with
            | nil => simp [okE] at h
            | cons t ts => cases ts <;> simp [okE] at h
  | .lenSet a, X, sc, pe, c, h => by
    cases pe with
    | Call g args kws q =>
      cases g with
      | Name x p =>
        match args, kws, h with
        | [z], [], h =>
          cases z with
          | Call g2 args2 kws2 q2 =>
            cases g2 with
            | Name z2 p2 =>
              match args2, kws2, h with
              | [y], [], h =>
                simp only [okE, Bool.and_eq_true, decide_eq_true_eq] at h
                obtain ⟨⟨⟨⟨⟨g1, g2⟩, g3⟩, g4⟩, g5⟩, g6⟩ := h
                subst g1; subst g3
                exact SE.plain (sm_lenSet (glB_ok c.scope g2) (c.blt _ (by decide +kernel)) (glB_ok c.scope g4) (c.blt _ (by decide +kernel)) (okE_ok a y c g5).1 c.calm g6) rfl
              | [], _, h => simp [okE] at h
              | [_], _ :: _, h => simp [okE] at h
              | _ :: _ :: _, _, h => simp [okE] at h
            | _ => simp [okE] at h
          | _ => simp [okE] at h
        | [], _, h => simp [okE] at h
        | [_], _ :: _, h => simp [okE] at h
        | _ :: _ :: _, _, h => simp [okE] at h
      | _ => simp [okE] at h
    | _ => simp [okE] at h
  | .xop kk a (.cons e .nil), X, sc, pe, c, h => by
    simp only [okE] at h
    cases q : xopA sc kk pe with
    | none => rw [q] at h; simp at h
    | some r =>
      obtain ⟨p, u⟩ := r
      rw [q] at h
      simp only [Bool.and_eq_true] at h
      have h5 := xop_ok kk c.scope (fun x hx => c.blt x hx) c.calm c.units q (okE_ok a p c h.1.1.1).1 (okE_ok e u c h.1.1.2).1 h.1.2 h.2
      have e5 : evE G C (.xop kk a (.cons e .nil)) = xopM kk (evE G C a) (evE G C e) := by
        funext env S
        simp only [evE, evEs, xopM]
        cases evE G C a env S with
        | stuck => rfl
        | exc _ _ => rfl
        | ok x S1 =>
          simp only [R.bind_ok]
          split
          · cases evE G C e env S1 <;> rfl
          · rfl
      refine SE.plain ?_ (xop_plain kk q)
      rw [e5]; exact h5
  | .xop kk a .nil, X, sc, pe, c, h => by
    simp only [okE] at h
    cases q : xopA1 sc kk pe with
    | none => rw [q] at h; simp at h
    | some p =>
      rw [q] at h
      have h : okE T N sc a p = true := h
      have h5 := xop_ok1 kk c.scope (fun x hx => c.blt x hx) c.calm c.units q (okE_ok a p c h).1
      have e5 : evE G C (.xop kk a .nil) = xopM1 kk (evE G C a) := by
        funext env S
        simp only [evE, evEs, xopM1]
        cases evE G C a env S with
        | stuck => rfl
        | exc _ _ => rfl
        | ok x S1 =>
          simp only [R.bind_ok]
      refine SE.plain ?_ (xop_plain1 kk q)
      rw [e5]; exact h5
  | .xop kk a (.cons _ (.cons _ _)), X, sc, pe, c, h => by simp [okE] at h
  | .dictOf a, X, sc, pe, c, h => by
    cases pe with
    | Call g args kws q =>
      cases g with
      | Name x p =>
        match args, kws, h with
        | [y], [], h =>
          simp only [okE, Bool.and_eq_true, decide_eq_true_eq] at h
          obtain ⟨⟨⟨g1, g2⟩, g3⟩, g4⟩ := h
          subst g1
          exact SE.plain (sm_dictOf (glB_ok c.scope g2) (c.blt _ (by decide +kernel)) (okE_ok a y c g3).1 c.calm g4) rfl
        | [], _, h => simp [okE] at h
        | [_], _ :: _, h => simp [okE] at h
        | _ :: _ :: _, _, h => simp [okE] at h
      | _ => simp [okE] at h
    | _ => simp [okE] at h
  | .dict1 a b, X, sc, pe, c, h => by
    cases pe with
    | Dict ks vs q =>
      match ks, vs, h with
      | [some x], [y], h =>
        simp only [okE, Bool.and_eq_true] at h
        exact SE.plain (sm_dict1 (okE_ok a x c h.1).1 (okE_ok b y c h.2).1) rfl
      | [], _, h => simp [okE] at h
      | [none], _, h => simp [okE] at h
      | [some _], [], h => simp [okE] at h
      | [some _], _ :: _ :: _, h => simp [okE] at h
      | _ :: _ :: _, _, h => simp [okE] at h
    | _ => simp [okE] at h
  | .dict0, X, sc, pe, c, h => by
    cases pe with
    | Dict ks vs q =>
      match ks, vs, h with
      | [], [], h => exact SE.plain sm_dict0 rfl
      | [], _ :: _, h => simp [okE] at h
      | _ :: _, _, h => simp [okE] at h
    | _ => simp [okE] at h
  | .comp own tg it cs elt, X, sc, pe, c, h => by
    cases pe with
    | ListComp pelt gens scope q =>
      match gens, h with
      | [⟨ptg, piter, pifs, as⟩], h =>
        simp only [okE, Bool.and_eq_true, decide_eq_true_eq] at h
        obtain ⟨⟨⟨⟨⟨⟨⟨g1, g2⟩, g3⟩, g4⟩, g5⟩, g6⟩, g7⟩, g8⟩ := h
        subst g1
        have hi := okI_ok it ptg piter c g2
        obtain ⟨hb, hs⟩ := okC_ok own tg it cs elt c g4 g6 (fun c' => okCs_ok cs pifs c' g7) (fun c' => (okE_ok elt pelt c' g8).1)
        refine SE.plain (sm_comp c.calm (by rw [c.names]; exact c.nd) hi (by rw [c.names, c.scope]; exact g3) hb hs g5) rfl
      | [], h => simp [okE] at h
      | _ :: _ :: _, h => simp [okE] at h
    | _ => simp [okE] at h
  | .fz a, X, sc, pe, c, h => by
    simp only [okE] at h
    exact ⟨sm_fz (okE_ok a pe c h).1, fun ht => by simp [tstB] at ht⟩
  | .isx i yes no d, X, sc, pe, c, h => by cases pe <;> simp [okE] at h
  | .xfld i w, X, sc, pe, c, h => by cases pe <;> simp [okE] at h
  | .callP f es, X, sc, pe, c, h => by
    cases pe with
    | Call g args kws q =>
      cases g with
      | Name x p =>
        cases kws with
        | cons _ _ => simp [okE] at h
        | nil =>
          simp only [okE, Bool.and_eq_true, decide_eq_true_eq, List.contains_iff_mem, Bool.not_eq_true'] at h
          obtain ⟨⟨⟨⟨⟨⟨g1, g2⟩, g3⟩, g4⟩, g5⟩, g6⟩, g7⟩ := h
          subst g1
          have ha := okEs_ok es args c g5
          refine SE.plain ?_ rfl
          cases args with
          | nil => simp at g7
          | cons a0 args =>
            have := sm_callP (fa := fa) (pos := q) (p := p) c.lib g2 c.room c.grd (glB_ok c.scope g3) (plainN_ok g4).1 ha g6
            have e : evE G C (.callP f es) = fun env S => (evEs G C es env S).bind fun vs S1 => callPV C f vs S1 := by funext env S; simp only [evE]
            rw [e]; exact this
      | _ => simp [okE] at h
    | _ => simp [okE] at h
  | .mm kk a b, X, sc, pe, c, h => by
    cases pe with
    | Call g args kws q =>
      cases g with
      | Name x p =>
        match args, kws, h with
        | [y, z], [], h =>
          simp only [okE, Bool.and_eq_true, decide_eq_true_eq] at h
          obtain ⟨⟨⟨⟨⟨g1, g2⟩, g3⟩, g4⟩, g5⟩, g6⟩ := h
          subst g1
          exact SE.plain (sm_mm kk c.calm (glB_ok c.scope g2) (c.blt _ (by cases kk <;> decide +kernel)) (okE_ok a y c g3).1 (okE_ok b z c g4).1 g5 g6) rfl
        | [], _, h => simp [okE] at h
        | [_], _, h => simp [okE] at h
        | [_, _], _ :: _, h => simp [okE] at h
        | _ :: _ :: _ :: _, _, h => simp [okE] at h
      | _ => simp [okE] at h
    | _ => simp [okE] at h
  | .srt false nw a, X, sc, pe, c, h => by
    cases pe with
    | Call g args kws q =>
      cases g with
      | Name x p =>
        match args, kws, h with
        | [y], [], h =>
          simp only [okE, Bool.and_eq_true, decide_eq_true_eq] at h
          obtain ⟨⟨⟨g1, g2⟩, g3⟩, g4⟩ := h
          subst g1
          have := sm_srt (fa := fa) (pos := q) (p := p) nw c.units (glB_ok c.scope g2) (c.blt _ (by decide +kernel)) (okE_ok a y c g3).1 g4
          have e : evE G C (.srt false nw a) = fun env S => (evE G C a env S).bind fun x S1 => srtV false nw S1 x := by funext env S; simp only [evE]
          refine SE.plain ?_ rfl
          rw [e]; exact this
        | [], _, h => simp [okE] at h
        | [_], _ :: _, h => simp [okE] at h
        | _ :: _ :: _, _, h => simp [okE] at h
      | _ => simp [okE] at h
    | _ => simp [okE] at h
  | .srt true nw a, X, sc, pe, c, h => by
    cases pe with
    | Call g args kws q =>
      cases g with
      | Name x p =>
        match args, kws, h with
        | [z], [], h =>
          cases z with
          | Call g2 args2 kws2 q2 =>
            cases g2 with
            | Name z2 p2 =>
              match args2, kws2, h with
              | [y], [], h =>
                simp only [okE, Bool.and_eq_true, decide_eq_true_eq] at h
                obtain ⟨⟨⟨⟨⟨g1, g2⟩, g3⟩, g4⟩, g5⟩, g6⟩ := h
                subst g1; subst g3
                have := sm_srtSet (fa := fa) (pos := q) (p := p) (p2 := p2) (q := q2) nw (glB_ok c.scope g2) (c.blt _ (by decide +kernel)) (glB_ok c.scope g4) (c.blt _ (by decide +kernel)) (okE_ok a y c g5).1 c.calm g6
                have e : evE G C (.srt true nw a) = fun env S => (evE G C a env S).bind fun x S1 => srtV true nw S1 x := by funext env S; simp only [evE]
                refine SE.plain ?_ rfl
                rw [e]; exact this
              | [], _, h => simp [okE] at h
              | [_], _ :: _, h => simp [okE] at h
              | _ :: _ :: _, _, h => simp [okE] at h
            | _ => simp [okE] at h
          | _ => simp [okE] at h
        | [], _, h => simp [okE] at h
        | [_], _ :: _, h => simp [okE] at h
        | _ :: _ :: _, _, h => simp [okE] at h
      | _ => simp [okE] at h
    | _ => simp [okE] at h
  | .dctN, X, sc, pe, c, h => by
    cases pe with
    | Dict ks vs q =>
      match ks, vs, h with
      | [], [], h => exact SE.plain sm_dctN rfl
      | [], _ :: _, h => simp [okE] at h
      | _ :: _, _, h => simp [okE] at h
    | _ => simp [okE] at h
  | .rev a, X, sc, pe, c, h => by
    cases pe with
    | Subscript x i q =>
      simp only [okE, Bool.and_eq_true] at h
      obtain ⟨h0, h⟩ := h
      obtain ⟨kk, p1, p2, p3, rfl⟩ := revB_ok h0
      have := sm_rev (fa := fa) (pos := q) (k := kk) (p1 := p1) (p2 := p2) (p3 := p3) (okE_ok a x c h).1
      have e : evE G C (.rev a) = fun env S => (evE G C a env S).bind fun v S1 => .ofO (revV v) S1 := by funext env S; simp only [evE]
      refine SE.plain ?_ rfl
      rw [e]; exact this
    | _ => simp [okE] at h
  | .srtP a, X, sc, pe, c, h => by
    cases pe with
    | Call g args kws q =>
      cases g with
      | Name x p =>
        match args, kws, h with
        | [z], [], h =>
          cases z with
          | Call g2 args2 kws2 q2 =>
            cases g2 with
            | Name z2 p2 =>
              match args2, kws2, h with
              | [y], [], h =>
                simp only [okE, Bool.and_eq_true, decide_eq_true_eq] at h
                obtain ⟨⟨⟨⟨⟨g1, g2⟩, g3⟩, g4⟩, g5⟩, g6⟩ := h
                subst g1; subst g3
                have := sm_srtP (fa := fa) (pos := q) (p := p) (p2 := p2) (q := q2) (glB_ok c.scope g2) (c.blt _ (by decide +kernel)) (glB_ok c.scope g4) (c.blt _ (by decide +kernel)) (okE_ok a y c g5).1 c.calm c.units g6
                have e : evE G C (.srtP a) = fun env S => (evE G C a env S).bind fun x S1 => srtPV S1 x := by funext env S; simp only [evE]
                refine SE.plain ?_ rfl
                rw [e]; exact this
              | [], _, h => simp [okE] at h
              | [_], _ :: _, h => simp [okE] at h
              | _ :: _ :: _, _, h => simp [okE] at h
            | _ => simp [okE] at h
          | _ => simp [okE] at h
        | [], _, h => simp [okE] at h
        | [_], _ :: _, h => simp [okE] at h
        | _ :: _ :: _, _, h => simp [okE] at h
      | _ => simp [okE] at h
    | _ => simp [okE] at h
  | .dget a k, X, sc, pe, c, h => by
    cases pe with
    | Subscript x y q =>
      simp only [okE, Bool.and_eq_true] at h
      have := sm_dget (fa := fa) (pos := q) c.units (okE_ok a x c h.1.1).1 (okE_ok k y c h.1.2).1 h.2
      have e : evE G C (.dget a k) = fun env S => (evE G C a env S).bind fun x S1 => (evE G C k env S1).bind fun y S2 => .ofO ((dctV S2 x).bind fun es => (keyV y).bind fun ks => lookD es ks) S2 := by funext env S; simp only [evE] <;> rfl
      refine SE.plain ?_ rfl
      rw [e]; exact this
    | _ => simp [okE] at h
  | .dgetZ a k z, X, sc, pe, c, h => by
    cases pe with
    | Call g args kws q =>
      cases g with
      | Attribute p x apos =>
        match args, kws, h with
        | [u, v], [], h =>
          simp only [okE, Bool.and_eq_true, decide_eq_true_eq] at h
          obtain ⟨⟨⟨⟨⟨⟨⟨g1, g2⟩, g3⟩, g4⟩, g5⟩, g6⟩, g7⟩, g8⟩ := h
          subst g1
          have := sm_dgetZ (fa := fa) (pos := q) (apos := apos) c.units (okE_ok a p c g2).1 (okE_ok k u c g3).1 (okE_ok z v c g4).1 (m2_ok g5 g6 g7 g8)
          have e : evE G C (.dgetZ a k z) = fun env S => (evE G C a env S).bind fun x S1 => if (dctV S1 x).isSome then (evE G C k env S1).bind fun y S2 => (evE G C z env S2).bind fun w S3 => .ofO ((dctV S3 x).bind fun es => (keyV y).map fun ks => (lookD es ks).getD w) S3 else .stuck := by funext env S; simp only [evE] <;> rfl
          refine SE.plain ?_ rfl
          rw [e]; exact this
        | [], _, h => simp [okE] at h
        | [_], _, h => simp [okE] at h
        | [_, _], _ :: _, h => simp [okE] at h
        | _ :: _ :: _ :: _, _, h => simp [okE] at h
      | _ => simp [okE] at h
    | _ => simp [okE] at h
  | .getI a k z, X, sc, pe, c, h => by
    cases pe with
    | Call g args kws q =>
      cases g with
      | Attribute p x apos =>
        match args, kws, h with
        | [u, v], [], h =>
          simp only [okE, Bool.and_eq_true, decide_eq_true_eq] at h
          obtain ⟨⟨⟨⟨⟨⟨⟨g1, g2⟩, g3⟩, g4⟩, g5⟩, g6⟩, g7⟩, g8⟩ := h
          subst g1
          have := sm_getI (fa := fa) (pos := q) (apos := apos) c.units (okE_ok a p c g2).1 (okE_ok k u c g3).1 (okE_ok z v c g4).1 (m2_ok g5 g6 g7 g8)
          have e : evE G C (.getI a k z) = fun env S => (evE G C a env S).bind fun x S1 => if isDic x then (evE G C k env S1).bind fun y S2 => (evE G C z env S2).bind fun w S3 => .ofO (getIV x y w) S3 else .stuck := by funext env S; simp only [evE] <;> rfl
          refine SE.plain ?_ rfl
          rw [e]; exact this
        | [], _, h => simp [okE] at h
        | [_], _, h => simp [okE] at h
        | [_, _], _ :: _, h => simp [okE] at h
        | _ :: _ :: _ :: _, _, h => simp [okE] at h
      | _ => simp [okE] at h
    | _ => simp [okE] at h
  | .dict2 a b d f, X, sc, pe, c, h => by
    cases pe with
    | Dict ks vs q =>
      match ks, vs, h with
      | [some x, some z], [y, w], h =>
        simp only [okE, Bool.and_eq_true] at h
        obtain ⟨⟨⟨g1, g2⟩, g3⟩, g4⟩ := h
        have := sm_dict2 (fa := fa) (pos := q) (okE_ok a x c g1).1 (okE_ok b y c g2).1 (okE_ok d z c g3).1 (okE_ok f w c g4).1
        have e : evE G C (.dict2 a b d f) = fun env S => (evE G C a env S).bind fun x S1 => (evE G C b env S1).bind fun y S2 => (evE G C d env S2).bind fun z S3 => (evE G C f env S3).bind fun w S4 => .ofO (dict2V x y z w) S4 := by funext env S; simp only [evE] <;> rfl
        refine SE.plain ?_ rfl
        rw [e]; exact this
      | [], _, h => simp [okE] at h
      | [_], _, h => simp [okE] at h
      | [none, _], _, h => simp [okE] at h
      | [some _, none], _, h => simp [okE] at h
      | [some _, some _], [], h => simp [okE] at h
      | [some _, some _], [_], h => simp [okE] at h
      | [some _, some _], _ :: _ :: _ :: _, h => simp [okE] at h
      | _ :: _ :: _ :: _, _, h => simp [okE] at h
    | _ => simp [okE] at h
  | .din neg k a, X, sc, pe, c, h => by
    cases pe with
    | Compare y ps xs q =>
      match ps, xs, h with
      | [p], [x], h =>
        simp only [okE, Bool.and_eq_true, decide_eq_true_eq] at h
        obtain ⟨⟨⟨g1, g2⟩, g3⟩, g4⟩ := h
        subst g1
        have h1 := (okE_ok k y c g2).1
        have h2 := (okE_ok a x c g3).1
        have e : evE G C (.din neg k a) = fun env S => (evE G C k env S).bind fun y S1 => (evE G C a env S1).bind fun x S2 => R.ofO (dinV neg S2 y x) S2 := by funext env S; simp only [evE] <;> rfl
        unfold SE
        rw [e]
        exact ⟨sm_din neg c.units h1 h2 g4, fun _ => st_din neg c.units h1 h2 g4⟩
      | [], _, h => simp [okE] at h
      | [_], [], h => simp [okE] at h
      | [_], _ :: _ :: _, h => simp [okE] at h
      | _ :: _ :: _, _, h => simp [okE] at h
    | _ => simp [okE] at h
  | .dlen a, X, sc, pe, c, h => by
    cases pe with
    | Call g args kws q =>
      cases g with
      | Name x p =>
        match args, kws, h with
        | [y], [], h =>
          simp only [okE, Bool.and_eq_true, decide_eq_true_eq] at h
          obtain ⟨⟨⟨g1, g2⟩, g3⟩, g4⟩ := h
          subst g1
          have := sm_dlen (fa := fa) (pos := q) (p := p) (glB_ok c.scope g2) (c.blt _ (bi_mem .len)) (okE_ok a y c g3).1 g4
          have e : evE G C (.dlen a) = fun env S => (evE G C a env S).bind fun x S1 => .ofO ((dlenV S1 x).map fun (n : Nat) => Val.d (PyData.int (n : Int))) S1 := by funext env S; simp only [evE] <;> rfl
          refine SE.plain ?_ rfl
          rw [e]; exact this
        | [], _, h => simp [okE] at h
        | [_], _ :: _, h => simp [okE] at h
        | _ :: _ :: _, _, h => simp [okE] at h
      | _ => simp [okE] at h
    | _ => simp [okE] at h
  | .klst a, X, sc, pe, c, h => by
    simp only [okE] at h
    cases qa : unA "list" sc pe with
    | none => rw [qa] at h; cases h
    | some y =>
      rw [qa] at h
      simp only [Bool.and_eq_true] at h
      obtain ⟨g3, g4⟩ := h
      obtain ⟨p, q, rfl, g2⟩ := un_ok qa
      have := sm_klst (fa := fa) (pos := q) (p := p) c.calm (glB_ok c.scope g2) (c.blt _ (bi_mem .list)) (okE_ok a y c g3).1 g4
      have e : evE G C (.klst a) = fun env S => (evE G C a env S).bind fun x S1 => .ofO (klstV S1 x) S1 := by funext env S; simp only [evE] <;> rfl
      refine SE.plain ?_ rfl
      rw [e]; exact this
  | .dcpy a, X, sc, pe, c, h => by
    simp only [okE] at h
    cases qa : unA "dict" sc pe with
    | none => rw [qa] at h; cases h
    | some y =>
      rw [qa] at h
      simp only [Bool.and_eq_true] at h
      obtain ⟨g3, g4⟩ := h
      obtain ⟨p, q, rfl, g2⟩ := un_ok qa
      have := sm_dcpy (fa := fa) (pos := q) (p := p) c.units (glB_ok c.scope g2) (c.blt _ (bi_mem .dict)) (okE_ok a y c g3).1 g4
      have e : evE G C (.dcpy a) = fun env S => (evE G C a env S).bind fun x S1 => dcpyV S1 x := by funext env S; simp only [evE] <;> rfl
      refine SE.plain ?_ rfl
      rw [e]; exact this
  | .callL fs i es, X, sc, pe, c, h => by
    cases pe with
    | Call g args kws q =>
      cases g with
      | Subscript l y p2 =>
        cases l with
        | List nes p1 =>
          cases kws with
          | cons _ _ => simp [okE] at h
          | nil =>
            simp only [okE, Bool.and_eq_true, decide_eq_true_eq, List.all_eq_true, List.contains_iff_mem, Bool.not_eq_true'] at h
            obtain ⟨⟨⟨⟨⟨⟨⟨g1, g2⟩, g3⟩, g4⟩, g5⟩, g6⟩, g7⟩, g8⟩ := h
            have ha := okEs_ok es args c g6
            have hI : ∀ f ∈ fs, f ∈ T.I ∧ Gl X (T.nm f) ∧ (T.nm f == ("__debug__" : Str)) = false := fun f hf => ⟨(g2 f hf).1.1, glB_ok c.scope (g2 f hf).1.2, (plainN_ok (g2 f hf).2).1⟩
            refine SE.plain ?_ rfl
            cases args with
            | nil => simp at g8
            | cons a0 args =>
              have := sm_callL (fa := fa) (pos := q) (p1 := p1) (p2 := p2) c.lib g1 hI g3 c.room c.grd (okE_ok i y c g4).1 g5 ha (List.all_eq_true.mpr g7)
              have e : evE G C (.callL fs i es) = fun env S => (evE G C i env S).bind fun y S1 => match pickF fs y with | some f => (evEs G C es env S1).bind fun vs S2 => C f vs S2 | none => .stuck := by funext env S; simp only [evE] <;> rfl
              rw [e]; exact this
        | _ => simp [okE] at h
      | _ => simp [okE] at h
    | _ => simp [okE] at h
  | .newc e0, X, sc, pe, c, h => by
    cases e0 with
    | comp own tg it cs elt =>
      cases pe with
      | ListComp pelt gens scope q =>
        match gens, h with
        | [⟨ptg, piter, pifs, as⟩], h =>
          simp only [okE, Bool.and_eq_true, decide_eq_true_eq] at h
          obtain ⟨⟨⟨⟨⟨⟨⟨g1, g2⟩, g3⟩, g4⟩, g5⟩, g6⟩, g7⟩, g8⟩ := h
          subst g1
          have hi := okI_ok it ptg piter c g2
          obtain ⟨hb, hs⟩ := okC_ok own tg it cs elt c g4 g6 (fun c' => okCs_ok cs pifs c' g7) (fun c' => (okE_ok elt pelt c' g8).1)
          have := sm_compN (pos := q) c.calm (by rw [c.names]; exact c.nd) hi (by rw [c.names, c.scope]; exact g3) hb hs g5
          have e : evE G C (.newc (.comp own tg it cs elt)) = mcompN true own tg (evI G C it) (evCs G C cs) (evE G C elt) := by
            funext env S
            simp only [evE, mcompN]
            cases q0 : evI G C it env S with
            | stuck => rfl
            | exc _ _ => rfl
            | ok p S1 =>
              simp only [R.bind_ok]
              change (R.bind _ _).bind _ = _
              show ((compL (mturn own tg (evCs G C cs) (evE G C elt) env) p.1 (lockS S1 p.2)).bind _).bind _ = (compL (mturn own tg (evCs G C cs) (evE G C elt) env) p.1 (lockS S1 p.2)).bind _
              cases compL (mturn own tg (evCs G C cs) (evE G C elt) env) p.1 (lockS S1 p.2) <;> rfl
          refine SE.plain ?_ rfl
          rw [e]; exact this
        | [], h => simp [okE] at h
        | _ :: _ :: _, h => simp [okE] at h
      | _ => simp [okE] at h
    | bin o a b =>
      cases pe with
      | BinOp x p y q =>
        simp only [okE, Bool.and_eq_true, decide_eq_true_eq] at h
        obtain ⟨⟨⟨g0, g1⟩, g2⟩, g3⟩ := h
        cases opB_ok g1
        by_cases ga : o = .add
        · subst ga
          have e : evE G C (.newc (.bin .add a b)) = fun env S => ((evE G C a env S).bind fun x S1 => (evE G C b env S1).bind fun y S2 => .ofO (binL S2 x y) S2).bind fun v S1 => newV v S1 := by
            funext env S
            have e0 : evE G C (.newc (.bin .add a b)) env S = ((evE G C a env S).bind fun x S1 => (evE G C b env S1).bind fun y S2 => .ofO (binV .add S2 x y) S2).bind fun v S1 => newV v S1 := by simp only [evE] <;> rfl
            rw [e0]
            simp only [R.assoc, newL_eq]
          refine SE.plain ?_ rfl
          rw [e]; exact sm_addN (okE_ok a x c g2).1 (okE_ok b y c g3).1
        have g0 := g0.resolve_right ga
        subst g0
        have e : evE G C (.newc (.bin .mul a b)) = fun env S => ((evE G C a env S).bind fun x S1 => (evE G C b env S1).bind fun y S2 => .ofO (binV .mul S2 x y) S2).bind fun v S1 => newV v S1 := by funext env S; simp only [evE] <;> rfl
        refine SE.plain ?_ rfl
        rw [e]; exact sm_mulN (okE_ok a x c g2).1 (okE_ok b y c g3).1
      | _ => simp [okE] at h
    | dict0 =>
      cases pe with
      | Dict ks vs q =>
        match ks, vs, h with
        | [], [], h =>
          have e : evE G C (.newc .dict0) = fun _ S => .ok (.ref S.length) (S ++ [some (.kv 0 [])]) := by funext env S; simp only [evE, R.bind_ok, newV]
          refine SE.plain ?_ rfl
          rw [e]; exact sm_newK
        | [], _ :: _, h => simp [okE] at h
        | _ :: _, _, h => simp [okE] at h
      | _ => simp [okE] at h
    | bi b a =>
      cases pe with
      | Call g args kws q =>
        cases g with
        | Name x p =>
          match args, kws, h with
          | [y], [], h =>
            simp only [okE, Bool.and_eq_true, decide_eq_true_eq] at h
            obtain ⟨⟨⟨⟨g0, g1⟩, g2⟩, g3⟩, g4⟩ := h
            subst g0; subst g1
            have := sm_listN (fa := fa) (pos := q) (p := p) (glB_ok c.scope g2) (c.blt _ (bi_mem .list)) (okE_ok a y c g3).1 g4
            have e : evE G C (.newc (.bi .list a)) = fun env S => (mbi .list (evE G C a) env S).bind fun v S1 => newV v S1 := by funext env S; simp only [evE] <;> rfl
            refine SE.plain ?_ rfl
            rw [e]; exact this
          | [], _, h => simp [okE] at h
          | [_], _ :: _, h => simp [okE] at h
          | _ :: _ :: _, _, h => simp [okE] at h
        | _ => simp [okE] at h
      | _ => simp [okE] at h
    | _ => cases pe <;> simp [okE] at h
theorem okEs_ok : ∀ (es : Es) {X : Cx} {sc : Scope} (pes : List Expr), Ctx X fa T G C k N sc → okEs T N sc es pes = true → SimA fa X pes (evEs G C es)
  | .nil, X, sc, [], c, h => sa_nil
  | .nil, X, sc, _ :: _, c, h => by simp [okEs] at h
  | .cons _ _, X, sc, [], c, h => by simp [okEs] at h
  | .cons e es, X, sc, p :: ps, c, h => by
    simp only [okEs, Bool.and_eq_true] at h
    exact sa_cons (okE_ok e p c h.1.1).1 (okEs_ok es ps c h.1.2) h.2
theorem okB_ok (kk : Bool) : ∀ (es : Es) {X : Cx} {sc : Scope} (pes : List Expr) {q : Pos}, Ctx X fa T G C k N sc → okEs T N sc es pes = true → isNil es = false → SimE fa X (.BoolOp (boolOf kk) pes q) (evB G C kk es) ∧ (tstsB es = true → SimW fa X (.BoolOp (boolOf kk) pes q) (tru (evB G C kk es)))
  | .nil, X, sc, pes, q, c, h, hn => by simp [isNil] at hn
  | .cons _ _, X, sc, [], q, c, h, hn => by simp [okEs] at h
  | .cons e .nil, X, sc, [p], q, c, h, hn => by
    simp only [okEs, Bool.and_eq_true] at h
    have ih := okE_ok e p c h.1.1
    exact ⟨sm_bool1 ih.1, fun ht => st_bool1 (ih.2 (by simpa [tstsB] using ht))⟩
  | .cons e .nil, X, sc, p :: p2 :: ps, q, c, h, hn => by simp [okEs] at h
  | .cons e (.cons e2 es), X, sc, [p], q, c, h, hn => by simp [okEs] at h
  | .cons e (.cons e2 es), X, sc, p :: p2 :: ps, q, c, h, hn => by
    rw [okEs, Bool.and_eq_true, Bool.and_eq_true] at h
    have ih := okE_ok e p c h.1.1
    have ih2 := okB_ok kk (.cons e2 es) (p2 :: ps) (q := q) c h.1.2 rfl
    refine ⟨sm_bools ih.1 ih2.1, fun ht => ?_⟩
    rw [tstsB, Bool.and_eq_true] at ht
    exact st_bools (ih.2 ht.1) (ih2.2 ht.2)
theorem okCs_ok : ∀ (es : Es) {X : Cx} {sc : Scope} (pes : List Expr), Ctx X fa T G C k N sc → okCs T N sc es pes = true → SimTs fa X pes (evCs G C es)
  | .nil, X, sc, [], c, h => ⟨fun W tk => ⟨fun pins s σ H Q I q => by
      obtain ⟨env, S, F, ρ, s, e, p⟩ := q
      exact pts_nil.run pins _ σ H Q I (p true F H ρ s (Ext.refl ..) rfl)⟩⟩
  | .nil, X, sc, _ :: _, c, h => by simp [okCs] at h
  | .cons _ .nil, X, sc, [], c, h => by simp [okCs] at h
  | .cons e .nil, X, sc, [p], c, h => by
    simp only [okCs, Bool.and_eq_true] at h
    exact ⟨fun W tk => pts_one (((okE_ok e p c h.1).2 h.2).run W tk)⟩
  | .cons _ .nil, X, sc, _ :: _ :: _, c, h => by simp [okCs] at h
  | .cons _ (.cons _ _), X, sc, _, c, h => by simp [okCs] at h
theorem okO_ok : ∀ (o : Oe) {X : Cx} {sc : Scope} (po : Option Expr), Ctx X fa T G C k N sc → okO T N sc o po = true → SimO fa X po (evO G C o)
  | .no, X, sc, none, c, h => so_no
  | .no, X, sc, some _, c, h => by simp [okO] at h
  | .yes _, X, sc, none, c, h => by simp [okO] at h
  | .yes e, X, sc, some p, c, h => by
    simp only [okO] at h
    exact so_yes (okE_ok e p c h).1
theorem okI_ok : ∀ (it : It) {X : Cx} {sc : Scope} (ptg p : Expr), Ctx X fa T G C k N sc → okI T N sc it ptg p = true → SimI fa X ptg p (evI G C it)
  | .over e, X, sc, ptg, p, c, h => by
    simp only [okI] at h
    exact si_over (okE_ok e p c h).1
  | .range1 e, X, sc, ptg, p, c, h => by
    cases p with
    | Call g args kws q =>
      cases g with
      | Name x p2 =>
        match args, kws, h with
        | [y], [], h =>
          simp only [okI, Bool.and_eq_true, decide_eq_true_eq] at h
          obtain ⟨⟨⟨g1, g2⟩, g3⟩, g4⟩ := h
          subst g1
          exact si_range1 (glB_ok c.scope g2) (c.blt _ (by decide +kernel)) (okE_ok e y c g3).1 g4
        | [], _, h => simp [okI] at h
        | [_], _ :: _, h => simp [okI] at h
        | _ :: _ :: _, _, h => simp [okI] at h
      | _ => simp [okI] at h
    | _ => simp [okI] at h
  | .range2 e1 e2, X, sc, ptg, p, c, h => by
    cases p with
    | Call g args kws q =>
      cases g with
      | Name x p2 =>
        match args, kws, h with
        | [y, z], [], h =>
          simp only [okI, Bool.and_eq_true, decide_eq_true_eq] at h
          obtain ⟨⟨⟨⟨⟨g1, g2⟩, g3⟩, g4⟩, g5⟩, g6⟩ := h
          subst g1
          exact si_range2 (glB_ok c.scope g2) (c.blt _ (by decide +kernel)) (okE_ok e1 y c g3).1 (okE_ok e2 z c g4).1 g5 g6
        | [], _, h => simp [okI] at h
        | [_], _, h => simp [okI] at h
        | [_, _], _ :: _, h => simp [okI] at h
        | _ :: _ :: _ :: _, _, h => simp [okI] at h
      | _ => simp [okI] at h
    | _ => simp [okI] at h
  | .enum e, X, sc, ptg, p, c, h => by
    cases ptg with
    | Tuple elts kk tp =>
      cases p with
      | Call g args kws q =>
        cases g with
        | Name x p2 =>
          match args, kws, h with
          | [y], [], h =>
            simp only [okI, Bool.and_eq_true, decide_eq_true_eq] at h
            obtain ⟨⟨⟨g1, g2⟩, g3⟩, g4⟩ := h
            subst g1
            exact si_enum (glB_ok c.scope g2) (c.blt _ (by decide +kernel)) (okE_ok e y c g3).1 g4
          | [], _, h => simp [okI] at h
          | [_], _ :: _, h => simp [okI] at h
          | _ :: _ :: _, _, h => simp [okI] at h
        | _ => simp [okI] at h
      | _ => simp [okI] at h
    | _ => simp [okI] at h
  | .zip e1 e2, X, sc, ptg, p, c, h => by
    cases ptg with
    | Tuple elts kk tp =>
      cases p with
      | Call g args kws q =>
        cases g with
        | Name x p2 =>
          match args, kws, h with
          | [y, z], [], h =>
            simp only [okI, Bool.and_eq_true, decide_eq_true_eq] at h
            obtain ⟨⟨⟨⟨⟨g1, g2⟩, g3⟩, g4⟩, g5⟩, g6⟩ := h
            subst g1
            exact si_zip (glB_ok c.scope g2) (c.blt _ (by decide +kernel)) (okE_ok e1 y c g3).1 (okE_ok e2 z c g4).1 g5 g6
          | [], _, h => simp [okI] at h
          | [_], _, h => simp [okI] at h
          | [_, _], _ :: _, h => simp [okI] at h
          | _ :: _ :: _ :: _, _, h => simp [okI] at h
        | _ => simp [okI] at h
      | _ => simp [okI] at h
    | _ => simp [okI] at h
  | .keys e, X, sc, ptg, p, c, h => by
    simp only [okI] at h
    exact si_keys (okE_ok e p c h).1
  | .items e, X, sc, ptg, p, c, h => by
    cases ptg with
    | Tuple elts kk tp =>
      cases p with
      | Call g args kws q =>
        cases g with
        | Attribute y x ap =>
          match args, kws, h with
          | [], [], h =>
            simp only [okI, Bool.and_eq_true, decide_eq_true_eq] at h
            obtain ⟨⟨⟨g1, g2⟩, g3⟩, g4⟩ := h
            subst g1
            exact si_items (okE_ok e y c g2).1 g3 g4
          | [], _ :: _, h => simp [okI] at h
          | _ :: _, _, h => simp [okI] at h
        | _ => simp [okI] at h
      | _ => simp [okI] at h
    | _ => simp [okI] at h
end
end
end MS

-- MsHot
/-! The check's word: expressions of an except suite. -/
namespace MS
open PySem PySem.Spec PyProof.Rows L2
theorem boot_VE : bootBuiltins "ValueError" = some (.type "ValueError") := by decide +kernel
theorem hs_len {G : List D} {C : Runner} : ∀ {T : Tb} {N : List Str} {sc : Scope} {es : Es} {pes : List Expr} {env : MS.Env} {S : Sto} {vs : List Val} {S' : Sto}, okHs T N sc es pes = true → evEs G C es env S = .ok vs S' → vs.length = pes.length
  | _, _, _, .nil, [], _, _, _, _, _, h => by simp only [evEs] at h; cases h; rfl
  | _, _, _, .nil, _ :: _, _, _, _, _, h, _ => by simp [okHs] at h
  | _, _, _, .cons _ _, [], _, _, _, _, h, _ => by simp [okHs] at h
  | T, N, sc, .cons e es, p :: ps, env, S, vs, S', h, h2 => by
    simp only [okHs, Bool.and_eq_true] at h
    simp only [evEs] at h2
    cases q : evE G C e env S with
    | stuck => rw [q] at h2; cases h2
    | exc _ _ => rw [q] at h2; cases h2
    | ok v S1 =>
      rw [q, R.bind_ok] at h2
      cases q2 : evEs G C es env S1 with
      | stuck => rw [q2] at h2; cases h2
      | exc _ _ => rw [q2] at h2; cases h2
      | ok vs2 S2 =>
        rw [q2, R.bind_ok] at h2
        cases h2
        simp [hs_len h.1.2 q2]
section
variable {fa : FA} {T : Tb} {G : List D} {C : Runner} {k : Nat} {N : List Str} {X : Cx} {sc : Scope} {a : Addr} {oe : Obj} {od : Option Addr} {pn : List (Addr × Obj)} {j : Nat}
theorem yesB_ok (c : Ctx X fa T G C k N sc) {yes no : List Nat} {d : Nat} (h : yesB T yes no d = true) : d ∈ T.xs ∧ (∀ i ∈ yes, i ∈ T.xs ∧ PySem.W.exmOne X.K (.ref (fa i)) (.ref (fa d)) = some true ∧ PySem.W.kitOne X.K (.ref (fa i)) (.ref (fa d)) = some true) ∧
    (∀ i ∈ no, i ∈ T.xs ∧ PySem.W.exmOne X.K (.ref (fa i)) (.ref (fa d)) = some false ∧ PySem.W.kitOne X.K (.ref (fa i)) (.ref (fa d)) = some false) := by
  unfold yesB at h
  simp only [Bool.and_eq_true, List.all_eq_true, List.contains_iff_mem] at h
  exact ⟨h.1.1, fun i hi => ⟨(h.1.2 i hi).1, c.xsb _ _ _ (h.1.2 i hi).2⟩, fun i hi => ⟨(h.2 i hi).1, c.xsb _ _ _ (h.2 i hi).2⟩⟩
mutual
theorem okH_ok (c : Ctx X fa T G C k N sc) (hj : j ∈ T.xs) (hz : Zc (.ref (fa j)) od oe) (hd : ∃ vs, oe.data = .fields vs) : ∀ (e : E) (pe : Expr), okH T N sc e pe = true → SimE (faX fa a (fa j) od) (X.suite a ((a, oe) :: pn)) pe (evE G C e)
  | .var i, pe, h => by
    cases pe with
    | Name x p =>
      simp only [okH, Bool.and_eq_true] at h
      obtain ⟨p1, p2⟩ := plainN_ok h.2
      exact sm_var (X := X.suite a ((a, oe) :: pn)) (show X.N[i]? = some x by rw [c.names]; exact nameB_ok h.1.1) (show Vis X.env.scope x by rw [c.scope]; exact visB_ok h.1.2) p1 p2
    | _ => simp [okH] at h
  | .none, pe, h => by
    cases pe with
    | Constant v j p =>
      cases v with
      | none => exact sm_const pe_non .non
      | _ => simp [okH] at h
    | _ => simp [okH] at h
  | .bool b, pe, h => by
    cases pe with
    | Constant v j p =>
      cases v with
      | bool b' =>
        simp only [okH, decide_eq_true_eq] at h
        subst h
        exact sm_const pe_bl (.bl _)
      | _ => simp [okH] at h
    | _ => simp [okH] at h
  | .int b, pe, h => by
    cases pe with
    | Constant v j p =>
      cases v with
      | int b' =>
        simp only [okH, decide_eq_true_eq] at h
        subst h
        exact sm_const pe_int (.int _)
      | _ => simp [okH] at h
    | _ => simp [okH] at h
  | .str b, pe, h => by
    cases pe with
    | Constant v j p =>
      cases v with
      | str b' =>
        simp only [okH, decide_eq_true_eq] at h
        subst h
        exact sm_const pe_str (.str _)
      | _ => simp [okH] at h
    | _ => simp [okH] at h
  | .tup es, pe, h => by
    cases pe with
    | Tuple pes kk p =>
      simp only [okH, Bool.and_eq_true, decide_eq_true_eq] at h
      refine sm_tup (okHs_ok c hj hz hd es pes h.1) fun env S vs S' q => ?_
      rw [hs_len h.1 q]; exact Nat.le_trans h.2 (by decide)
    | _ => simp [okH] at h
  | .lst es, pe, h => by
    cases pe with
    | List pes p =>
      simp only [okH, Bool.and_eq_true, decide_eq_true_eq] at h
      refine sm_lst (okHs_ok c hj hz hd es pes h.1) fun env S vs S' q => ?_
      rw [hs_len h.1 q]; exact Nat.le_trans h.2 (by decide)
    | _ => simp [okH] at h
  | .bin o x y, pe, h => by
    cases pe with
    | BinOp px p py q =>
      simp only [okH, Bool.and_eq_true] at h
      cases opB_ok h.1.1
      exact sm_bin (okH_ok c hj hz hd x px h.1.2) (okH_ok c hj hz hd y py h.2)
    | _ => simp [okH] at h
  | .not x, pe, h => by
    cases pe with
    | UnaryOp p px q =>
      cases p with
      | Not =>
        simp only [okH] at h
        exact sm_not (okH_ok c hj hz hd x px h)
      | _ => simp [okH] at h
    | _ => simp [okH] at h
  | .cmp o x y, pe, h => by
    cases pe with
    | Compare px ps ys q =>
      match ps, ys, h with
      | [p], [py], h =>
        simp only [okH, Bool.and_eq_true] at h
        cases cmpB_ok h.1.1.1
        exact sm_cmp (okH_ok c hj hz hd x px h.1.1.2) (okH_ok c hj hz hd y py h.1.2) (show X.A.units + 65 < cLine from c.units) h.2
      | [], _, h => simp [okH] at h
      | [_], [], h => simp [okH] at h
      | [_], _ :: _ :: _, h => simp [okH] at h
      | _ :: _ :: _, _, h => simp [okH] at h
    | _ => simp [okH] at h
  | .ife cc x y, pe, h => by
    cases pe with
    | IfExp pc px py q =>
      simp only [okH, Bool.and_eq_true] at h
      obtain ⟨⟨⟨g1, g2⟩, g3⟩, g4⟩ := h
      exact sm_ife (okHt_ok c hj hz hd cc pc g1 g2) (okH_ok c hj hz hd x px g3) (okH_ok c hj hz hd y py g4)
    | _ => simp [okH] at h
  | .ix x i, pe, h => by
    cases pe with
    | Subscript px py q =>
      simp only [okH, Bool.and_eq_true] at h
      exact sm_ix (okH_ok c hj hz hd x px h.1.1) (okH_ok c hj hz hd i py h.1.2) h.2
    | _ => simp [okH] at h
  | .xfld i w, pe, h => by
    cases pe with
    | Attribute e f p =>
      cases e with
      | Name n p1 =>
        simp only [okH, Bool.and_eq_true, decide_eq_true_eq] at h
        obtain ⟨⟨⟨⟨g1, g2⟩, g3⟩, g4⟩, g5⟩ := h
        subst g1
        obtain ⟨n1, n2⟩ := plainN_ok g5
        have hx := (c.xcl j hj).2.2.1
        exact sm_xfld (X := X) hx.is hx hz hd (by rw [c.names]; exact nameB_ok g3) (by rw [c.scope]; exact visB_ok g4) n1 n2 (by omega)
      | _ => simp [okH] at h
    | _ => simp [okH] at h
  | .isx i yes no d, pe, h => by
    cases pe with
    | Call g args kws q =>
      cases g with
      | Name f p =>
        match args, kws, h with
        | [y, z], [], h =>
          cases y with
          | Name n p1 =>
            cases z with
            | Name x p2 =>
              simp only [okH, Bool.and_eq_true, decide_eq_true_eq] at h
              obtain ⟨⟨⟨⟨⟨⟨⟨g1, g2⟩, g3⟩, g4⟩, g5⟩, g6⟩, g7⟩, g8⟩ := h
              subst g1
              obtain ⟨n1, n2⟩ := plainN_ok g5
              have hx := (c.xcl j hj).2.2.1.is
              have gx : Gl (X.suite a ((a, oe) :: pn)) x := glB_ok (X := X.suite a ((a, oe) :: pn)) c.scope g6
              cases d with
              | none =>
                simp only [isxB, Bool.and_eq_true, decide_eq_true_eq] at g8
                obtain ⟨⟨e1, e2⟩, e3⟩ := g8
                subst e1
                refine sm_isx (cv := .ty "ValueError") (u := .type "ValueError") hx hz hd (glB_ok c.scope g2) (c.blt _ (by decide +kernel)) (by rw [c.names]; exact nameB_ok g3) (by rw [c.scope]; exact visB_ok g4) n1 n2 (pe_bltn gx (c.blt _ (by decide +kernel)) boot_VE rfl (by decide) (by decide)) (fun w hw => hw) (fun i hi => ?_) (fun i hi => ?_)
                · have := List.all_eq_true.mp e2 i hi
                  exact (c.xcl i (by simpa using this)).2.2.2
                · cases no with
                  | nil => cases hi
                  | cons _ _ => simp at e3
              | some d =>
                simp only [isxB, Bool.and_eq_true, decide_eq_true_eq] at g8
                obtain ⟨e1, e2⟩ := g8
                subst e1
                obtain ⟨y0, y1, y2⟩ := yesB_ok c e2
                exact sm_isx (cv := .ref (fa d)) (u := .ref (fa d)) hx hz hd (glB_ok c.scope g2) (c.blt _ (by decide +kernel)) (by rw [c.names]; exact nameB_ok g3) (by rw [c.scope]; exact visB_ok g4) n1 n2 (pe_glob gx (c.xcl d y0).2.1 rfl (plainN_ok g7).1) (fun w hw => hw) (fun i hi => (y1 i hi).2.2) (fun i hi => (y2 i hi).2.2)
            | _ => simp [okH] at h
          | _ => cases z <;> simp [okH] at h
        | [], _, h => simp [okH] at h
        | [_], _, h => simp [okH] at h
        | [y, z], _ :: _, h => cases y <;> cases z <;> simp [okH] at h
        | _ :: _ :: _ :: _, _, h => simp [okH] at h
      | _ => simp [okH] at h
    | _ => simp [okH] at h
  | .glob _, pe, h => by simp [okH] at h
  | .lstN _, pe, h => by simp [okH] at h
  | .neg _, pe, h => by simp [okH] at h
  | .bools kk (.cons x (.cons y .nil)), pe, h => by
    cases pe with
    | BoolOp p pes q =>
      simp only [okH, Bool.and_eq_true] at h
      obtain ⟨g1, g2⟩ := h
      cases boolB_ok g1
      obtain ⟨px, py, rfl, g3⟩ := okH2_ok g2
      simp only [Bool.and_eq_true] at g3
      exact sm_bools (okH_ok c hj hz hd x px g3.1) (sm_bool1 (okH_ok c hj hz hd y py g3.2))
    | _ => simp [okH] at h
  | .bools _ .nil, pe, h => by cases pe <;> simp [okH] at h
  | .bools _ (.cons _ .nil), pe, h => by cases pe <;> simp [okH] at h
  | .bools _ (.cons _ (.cons _ (.cons _ _))), pe, h => by cases pe <;> simp [okH] at h
  | .chain _ _ _ _ _, pe, h => by simp [okH] at h
  | .sl _ _ _, pe, h => by simp [okH] at h
  | .call _ _, pe, h => by simp [okH] at h
  | .bi _ _, pe, h => by simp [okH] at h
  | .isi _ _, pe, h => by simp [okH] at h
  | .lenSet _, pe, h => by simp [okH] at h
  | .xop kk x (.cons y .nil), pe, h => by
    rw [okH] at h
    cases q : xopA sc kk pe with
    | none => rw [q] at h; cases h
    | some pu =>
      obtain ⟨p, u⟩ := pu
      rw [q] at h
      simp only [Bool.and_eq_true] at h
      have h5 := xop_okH (X := X.suite a ((a, oe) :: pn)) kk h.2 q (okH_ok c hj hz hd x p h.1.1.1) (okH_ok c hj hz hd y u h.1.1.2) h.1.2
      have e5 : evE G C (.xop kk x (.cons y .nil)) = xopM kk (evE G C x) (evE G C y) := by
        funext env S
        simp only [evE, evEs, xopM]
        cases evE G C x env S with
        | stuck => rfl
        | exc _ _ => rfl
        | ok x S1 =>
          simp only [R.bind_ok]
          cases xopPre kk S1 x with
          | false => rfl
          | true =>
            simp only [if_true]
            cases evE G C y env S1 <;> rfl
      rw [e5]; exact h5
  | .xop _ _ .nil, pe, h => by simp [okH] at h
  | .xop _ _ (.cons _ (.cons _ _)), pe, h => by simp [okH] at h
  | .dictOf _, pe, h => by simp [okH] at h
  | .dict1 _ _, pe, h => by simp [okH] at h
  | .dict0, pe, h => by simp [okH] at h
  | .comp _ _ _ _ _, pe, h => by simp [okH] at h
  | .fz _, pe, h => by simp [okH] at h
  | .callP _ _, pe, h => by simp [okH] at h
  | .mm _ _ _, pe, h => by simp [okH] at h
  | .srt _ _ _, pe, h => by simp [okH] at h
  | .dctN, pe, h => by simp [okH] at h
  | .newc _, pe, h => by simp [okH] at h
  | .rev _, pe, h => by simp [okH] at h
  | .srtP _, pe, h => by simp [okH] at h
  | .callL _ _ _, pe, h => by simp [okH] at h
  | .dget _ _, pe, h => by simp [okH] at h
  | .dgetZ _ _ _, pe, h => by simp [okH] at h
  | .din _ _ _, pe, h => by simp [okH] at h
  | .dlen _, pe, h => by simp [okH] at h
  | .dcpy _, pe, h => by simp [okH] at h
  | .klst _, pe, h => by simp [okH] at h
  | .getI _ _ _, pe, h => by simp [okH] at h
  | .dict2 _ _ _ _, pe, h => by simp [okH] at h
theorem okHt_ok (c : Ctx X fa T G C k N sc) (hj : j ∈ T.xs) (hz : Zc (.ref (fa j)) od oe) (hd : ∃ vs, oe.data = .fields vs) : ∀ (e : E) (pe : Expr), okH T N sc e pe = true → isCmp e = true → SimT (faX fa a (fa j) od) (X.suite a ((a, oe) :: pn)) pe (tru (evE G C e))
  | .cmp o x y, pe, h, _ => by
    cases pe with
    | Compare px ps ys q =>
      match ps, ys, h with
      | [p], [py], h =>
        simp only [okH, Bool.and_eq_true] at h
        cases cmpB_ok h.1.1.1
        exact st_cmp (okH_ok c hj hz hd x px h.1.1.2) (okH_ok c hj hz hd y py h.1.2) (show X.A.units + 65 < cLine from c.units) h.2
      | [], _, h => simp [okH] at h
      | [_], [], h => simp [okH] at h
      | [_], _ :: _ :: _, h => simp [okH] at h
      | _ :: _ :: _, _, h => simp [okH] at h
    | _ => simp [okH] at h
  | .not x, pe, h, h2 => by
    cases pe with
    | UnaryOp p px q =>
      cases p with
      | Not =>
        simp only [okH] at h
        exact st_not (okHt_ok c hj hz hd x px h (by simpa [isCmp] using h2))
      | _ => simp [okH] at h
    | _ => simp [okH] at h
  | .isx i yes no d, pe, h, _ => by
    refine SimT.of_E (okH_ok c hj hz hd (.isx i yes no d) pe h) ?_
    cases pe with
    | Call g args kws q => rfl
    | _ => simp [okH] at h
  | .bools kk (.cons x (.cons y .nil)), pe, h, h2 => by
    cases pe with
    | BoolOp p pes q =>
      simp only [okH, Bool.and_eq_true] at h
      obtain ⟨g1, g2⟩ := h
      cases boolB_ok g1
      obtain ⟨px, py, rfl, g3⟩ := okH2_ok g2
      simp only [Bool.and_eq_true] at g3
      simp only [isCmp, Bool.and_eq_true] at h2
      exact (st_bools (okHt_ok c hj hz hd x px g3.1 h2.1) (st_bool1 (okHt_ok c hj hz hd y py g3.2 h2.2))).t
    | _ => simp [okH] at h
  | .bools _ .nil, _, _, h => by simp [isCmp] at h
  | .bools _ (.cons _ .nil), _, _, h => by simp [isCmp] at h
  | .bools _ (.cons _ (.cons _ (.cons _ _))), _, _, h => by simp [isCmp] at h
  | .var _, _, _, h => by simp [isCmp] at h
  | .none, _, _, h => by simp [isCmp] at h
  | .bool _, _, _, h => by simp [isCmp] at h
  | .int _, _, _, h => by simp [isCmp] at h
  | .str _, _, _, h => by simp [isCmp] at h
  | .tup _, _, _, h => by simp [isCmp] at h
  | .lst _, _, _, h => by simp [isCmp] at h
  | .bin _ _ _, _, _, h => by simp [isCmp] at h
  | .ife _ _ _, _, _, h => by simp [isCmp] at h
  | .ix _ _, _, _, h => by simp [isCmp] at h
  | .glob _, _, _, h => by simp [isCmp] at h
  | .lstN _, _, _, h => by simp [isCmp] at h
  | .neg _, _, _, h => by simp [isCmp] at h
  | .chain _ _ _ _ _, _, _, h => by simp [isCmp] at h
  | .sl _ _ _, _, _, h => by simp [isCmp] at h
  | .call _ _, _, _, h => by simp [isCmp] at h
  | .bi _ _, _, _, h => by simp [isCmp] at h
  | .isi _ _, _, _, h => by simp [isCmp] at h
  | .lenSet _, _, _, h => by simp [isCmp] at h
  | .xop _ _ _, _, _, h => by simp [isCmp] at h
  | .dictOf _, _, _, h => by simp [isCmp] at h
  | .dict1 _ _, _, _, h => by simp [isCmp] at h
  | .dict0, _, _, h => by simp [isCmp] at h
  | .comp _ _ _ _ _, _, _, h => by simp [isCmp] at h
  | .fz _, _, _, h => by simp [isCmp] at h
  | .callP _ _, _, _, h => by simp [isCmp] at h
  | .mm _ _ _, _, _, h => by simp [isCmp] at h
  | .srt _ _ _, _, _, h => by simp [isCmp] at h
  | .dctN, _, _, h => by simp [isCmp] at h
  | .newc _, _, _, h => by simp [isCmp] at h
  | .rev _, _, _, h => by simp [isCmp] at h
  | .srtP _, _, _, h => by simp [isCmp] at h
  | .callL _ _ _, _, _, h => by simp [isCmp] at h
  | .dget _ _, _, _, h => by simp [isCmp] at h
  | .dgetZ _ _ _, _, _, h => by simp [isCmp] at h
  | .din _ _ _, _, _, h => by simp [isCmp] at h
  | .dlen _, _, _, h => by simp [isCmp] at h
  | .dcpy _, _, _, h => by simp [isCmp] at h
  | .klst _, _, _, h => by simp [isCmp] at h
  | .getI _ _ _, _, _, h => by simp [isCmp] at h
  | .dict2 _ _ _ _, _, _, h => by simp [isCmp] at h
theorem okHs_ok (c : Ctx X fa T G C k N sc) (hj : j ∈ T.xs) (hz : Zc (.ref (fa j)) od oe) (hd : ∃ vs, oe.data = .fields vs) : ∀ (es : Es) (pes : List Expr), okHs T N sc es pes = true → SimA (faX fa a (fa j) od) (X.suite a ((a, oe) :: pn)) pes (evEs G C es)
  | .nil, [], h => sa_nil
  | .nil, _ :: _, h => by simp [okHs] at h
  | .cons _ _, [], h => by simp [okHs] at h
  | .cons e es, p :: ps, h => by
    simp only [okHs, Bool.and_eq_true] at h
    exact sa_cons (okH_ok c hj hz hd e p h.1.1) (okHs_ok c hj hz hd es ps h.1.2) h.2
end
end
end MS

-- MsChkS
/-! The check's word: statements. -/
namespace MS
open PySem PySem.Spec PyProof.Rows L2

/-- how a, b = x, y is stored: none: unsupported; some none: by a tuple; some (some names): swapped -/
def swS (sc : Scope) (ts vs : List Expr) : Option (Option (List Str)) :=
  if !(ts.length == 2 || ts.length == 3) || vs.length != ts.length then some none
  else if vs.any (fun | .Starred .. => true | _ => false) then some none
  else
    let line := (ts.head?.map (·.pos.line)).getD 0
    let names := ts.filterMap fun
      | .Name id pos => if sc.names.lookup id == some .local && pos.line == line then some id else none
      | _ => none
    if names.length != ts.length || names.eraseDups.length != names.length then some none
    else if vs.all (foldedForSure 8) then some none
    else if vs.all (constantsAlone 8) then none
    else some (some names)
theorem swS_ok {env : PySem.Env} {sc : Scope} {ts vs : List Expr} {kt k2 : Nat} {pt p2 : Pos} {r : Option (List Str)} (hs : env.scope = sc) (hk : sc.kind = .function) (h : swS sc ts vs = some r) :
    swappedStores [.Tuple ts kt pt] (.Tuple vs k2 p2) env = pure r := by
  have hb : env.blockKind = .function := by unfold Env.blockKind; rw [hs, hk]; rfl
  have hkind : ∀ id, env.kindOf id = sc.names.lookup id := fun id => by rw [← hs]; rfl
  unfold swS at h
  unfold swappedStores
  simp only [hb, hkind]
  have hf : (ScopeKind.function != ScopeKind.function) = false := rfl
  simp only [hf, Bool.or_false]
  by_cases c1 : (!(ts.length == 2 || ts.length == 3) || vs.length != ts.length) = true
  · rw [if_pos c1] at h ⊢
    cases h; rfl
  · rw [if_neg c1] at h ⊢
    split at h
    · rename_i c2
      cases h; exact if_pos c2
    · rename_i c2
      refine (if_neg c2).trans ?_
      dsimp only at h ⊢
      split at h
      · rename_i c3
        cases h; exact if_pos c3
      · rename_i c3
        refine (if_neg c3).trans ?_
        split at h
        · rename_i c4
          cases h; exact if_pos c4
        · rename_i c4
          refine (if_neg c4).trans ?_
          split at h
          · cases h
          · rename_i c5
            cases h; exact if_neg c5
def isTuple : Expr → Bool
  | .Tuple _ _ _ => true
  | _ => false
theorem swNone {tgs : List Expr} {pe : Expr} {env : PySem.Env} (h : isTuple pe = false) : swappedStores tgs pe env = pure none := by
  unfold swappedStores
  split
  · rename_i heq
    exfalso
    revert heq
    split <;> intro heq
    · simp [isTuple] at h
    · simp [isTuple] at h
    · cases heq
  · rfl

theorem swSub {o i pe : Expr} {p : Pos} {env : PySem.Env} : swappedStores [.Subscript o i p] pe env = pure none := by
  unfold swappedStores
  split
  · rename_i heq
    exfalso
    revert heq
    split <;> intro heq
    · rename_i h2; cases h2
    · rename_i h2; cases h2
    · cases heq
  · rfl
def localB (sc : Scope) (x : Str) : Bool := match sc.names.lookup x with
  | some .local => true
  | _ => false
theorem localB_ok {sc : Scope} {x : Str} (h : localB sc x = true) : sc.names.lookup x = some .local := by
  unfold localB at h
  split at h
  · assumption
  · cases h
theorem sw_false {pe : Expr} {x : Str} {p : Pos} {l : Nat} {env : PySem.Env} {sc : Scope} (hs : env.scope = sc) (h : (noComp pe || !localB sc x) = true) : swapsWith pe (some (.Name x p)) l env = pure false := by
  rcases (Bool.or_eq_true _ _).mp h with h | h
  · exact noComp_ok h _ _ _
  · have hk : (env.kindOf x == some .local) = false := by
      have e : env.kindOf x = sc.names.lookup x := by rw [← hs]; rfl
      rw [e]
      unfold localB at h
      split at h
      · cases h
      · rename_i q
        cases z : sc.names.lookup x with
        | none => rfl
        | some k => cases k <;> first | rfl | exact absurd z q
    unfold swapsWith
    cases pe <;> first | rfl | (dsimp only; simp [hk])
/-- plain names as targets -/
def namesB (N : List Str) (sc : Scope) : List Nat → List Expr → Bool
  | [], [] => true
  | i :: is, .Name x _ :: es => nameB N i x && locB sc (fun _ => true) x && namesB N sc is es
  | _, _ => false
def parB (N : List Str) (sc : Scope) (ts : List Nat) (tes pes : List Expr) : Bool := match ts, tes, pes with
  | [i, j], [.Name x _, .Name y _], [_, _] => nameB N i x && nameB N j y && decide (i ≠ j) && localB sc x && localB sc y && decide (swS sc tes pes = some (some [x, y]))
  | [i, j, l], [.Name x _, .Name y _, .Name z _], [_, _, _] => nameB N i x && nameB N j y && nameB N l z && decide (i ≠ j) && decide (i ≠ l) && decide (j ≠ l) && localB sc x && localB sc y && localB sc z && decide (swS sc tes pes = some (some [x, y, z]))
  | _, _, _ => false
def asgB (f : Expr → Expr → Bool) : Stmt → Bool
  | .Assign [t] pe _ => f t pe
  | _ => false
theorem asgB_ok {f : Expr → Expr → Bool} {st : Stmt} (h : asgB f st = true) : ∃ t pe q, st = .Assign [t] pe q ∧ f t pe = true := by
  unfold asgB at h
  split at h
  · exact ⟨_, _, _, rfl, h⟩
  · cases h
def nameT (f : Str → Pos → Bool) : Expr → Bool
  | .Name x p => f x p
  | _ => false
theorem nameT_ok {f : Str → Pos → Bool} {t : Expr} (h : nameT f t = true) : ∃ x p, t = .Name x p ∧ f x p = true := by
  unfold nameT at h
  split at h
  · exact ⟨_, _, rfl, h⟩
  · cases h
def tupT (f : List Expr → Bool) : Expr → Bool
  | .Tuple es _ _ => f es
  | _ => false
theorem tupT_ok {f : List Expr → Bool} {t : Expr} (h : tupT f t = true) : ∃ es k p, t = .Tuple es k p ∧ f es = true := by
  unfold tupT at h
  split at h
  · exact ⟨_, _, _, rfl, h⟩
  · cases h
def subT (f : Expr → Expr → Bool) : Expr → Bool
  | .Subscript a b _ => f a b
  | _ => false
theorem subT_ok {f : Expr → Expr → Bool} {t : Expr} (h : subT f t = true) : ∃ a b p, t = .Subscript a b p ∧ f a b = true := by
  unfold subT at h
  split at h
  · exact ⟨_, _, _, rfl, h⟩
  · cases h
def lcT (f : Expr → Expr → Expr → List Expr → Int → Scope → Pos → Bool) : Expr → Bool
  | .ListComp pelt [⟨ptg, piter, pifs, as⟩] scope pos => f pelt ptg piter pifs as scope pos
  | _ => false
theorem lcT_ok {f : Expr → Expr → Expr → List Expr → Int → Scope → Pos → Bool} {t : Expr} (h : lcT f t = true) : ∃ pelt ptg piter pifs as scope pos, t = .ListComp pelt [⟨ptg, piter, pifs, as⟩] scope pos ∧ f pelt ptg piter pifs as scope pos = true := by
  unfold lcT at h
  split at h
  · exact ⟨_, _, _, _, _, _, _, rfl, h⟩
  · cases h
def exprB (f : Expr → Bool) : Stmt → Bool
  | .Expr pe _ => f pe
  | _ => false
theorem exprB_ok {f : Expr → Bool} {st : Stmt} (h : exprB f st = true) : ∃ pe q, st = .Expr pe q ∧ f pe = true := by
  unfold exprB at h
  split at h
  · exact ⟨_, _, rfl, h⟩
  · cases h
def methB (f : Expr → Str → Pos → Expr → Pos → Bool) : Expr → Bool
  | .Call (.Attribute pa x apos) [pb] [] cpos => f pa x apos pb cpos
  | _ => false
theorem methB_ok {f : Expr → Str → Pos → Expr → Pos → Bool} {t : Expr} (h : methB f t = true) : ∃ pa x apos pb cpos, t = .Call (.Attribute pa x apos) [pb] [] cpos ∧ f pa x apos pb cpos = true := by
  unfold methB at h
  split at h
  · exact ⟨_, _, _, _, _, rfl, h⟩
  · cases h
def okComp (T : Tb) (N : List Str) (sc : Scope) (own : List Nat) (tg : Tg) (it : It) (cs : Es) (elt : E) (pelt ptg piter : Expr) (pifs : List Expr) (as : Int) (scope : Scope) : Bool :=
  decide (as = 0) && okI T N sc it ptg piter && blkC N sc scope (ownN N own) && (tg.slots.all fun i => own.contains i) && noSet piter &&
      okTg N (relS scope sc) (fun x => scope.names.lookup x == some .cell) tg ptg && okCs T N (relS scope sc) cs pifs && okE T N (relS scope sc) elt pelt
def okSetc (T : Tb) (N : List Str) (sc : Scope) (i : Nat) : E → Stmt → Bool
  | .comp own tg it cs elt, st => asgB (fun t pe => nameT (fun y py => lcT (fun pelt ptg piter pifs as scope pos => nameB N i y && localB sc y && (py.line == pos.line) && !(scope.names.any fun (n, k) => n == y && (k == .local || k == .cell)) && okComp T N sc own tg it cs elt pelt ptg piter pifs as scope) pe) t) st
  | _, _ => false
mutual
/-- statements of an except suite -/
def okHS (T : Tb) (N : List Str) (sc : Scope) : MS.St → Stmt → Bool
  | .set i e, st => asgB (fun t pe => nameT (fun x _ => nameB N i x && locB sc (fun _ => true) x && okH T N sc e pe && (noComp pe || !localB sc x)) t) st
  | .ifs c t f, .If pc pt pf _ => okH T N sc c pc && isCmp c && okHSs T N sc t pt && okHSs T N sc f pf
  | .ret e, .Return (some pe) _ => okH T N sc e pe
  | .pass, .Pass _ => true
  | _, _ => false
def okHSs (T : Tb) (N : List Str) (sc : Scope) : Sts → List Stmt → Bool
  | .nil, [] => true
  | .cons s ss, p :: ps => okHS T N sc s p && okHSs T N sc ss ps
  | _, _ => false
end
def rai2B (f : Str → Expr → Expr → Bool) : Stmt → Bool
  | .Raise (some (.Call (.Name x _) [a, b] [] _)) none _ => f x a b
  | _ => false
theorem rai2B_ok {f : Str → Expr → Expr → Bool} {st : Stmt} (h : rai2B f st = true) : ∃ x p a b cp q, st = .Raise (some (.Call (.Name x p) [a, b] [] cp)) none q ∧ f x a b = true := by
  unfold rai2B at h
  split at h
  · exact ⟨_, _, _, _, _, _, rfl, h⟩
  · cases h
def raiB (f : Str → Str → Bool) : Stmt → Bool
  | .Raise (some (.Call (.Name x _) [.Constant (.str s) _ _] [] _)) none _ => f x s
  | _ => false
theorem raiB_ok {f : Str → Str → Bool} {st : Stmt} (h : raiB f st = true) : ∃ x p s j p2 cp q, st = .Raise (some (.Call (.Name x p) [.Constant (.str s) j p2] [] cp)) none q ∧ f x s = true := by
  unfold raiB at h
  split at h
  · exact ⟨_, _, _, _, _, _, _, rfl, h⟩
  · cases h
def triB (f : List Stmt → Str → Str → List Stmt → Bool) : Stmt → Bool
  | .Try body [.ExceptHandler (some (.Name x _)) (some n) (b₀ :: suite) _] [] [] _ => f body x n (b₀ :: suite)
  | _ => false
theorem triB_ok {f : List Stmt → Str → Str → List Stmt → Bool} {st : Stmt} (h : triB f st = true) : ∃ body x np n b₀ suite pos' pos, st = .Try body [.ExceptHandler (some (.Name x np)) (some n) (b₀ :: suite) pos'] [] [] pos ∧ f body x n (b₀ :: suite) = true := by
  unfold triB at h
  split at h
  · exact ⟨_, _, _, _, _, _, _, _, rfl, h⟩
  · cases h
def two2 (f : Expr → Expr → Bool) : List Expr → Bool
  | [a, b] => f a b
  | _ => false
theorem two2_ok {f : Expr → Expr → Bool} {es : List Expr} (h : two2 f es = true) : ∃ a b, es = [a, b] ∧ f a b = true := by
  unfold two2 at h
  split at h
  · exact ⟨_, _, rfl, h⟩
  · cases h
theorem swTwo {o i o2 i2 : Expr} {vs : List Expr} {k k2 : Nat} {p p1 p2 p3 : Pos} {env : PySem.Env} : swappedStores [.Tuple [.Subscript o i p, .Subscript o2 i2 p1] k p2] (.Tuple vs k2 p3) env = pure none := by
  unfold swappedStores
  simp
mutual
def okS (T : Tb) (N : List Str) (sc : Scope) : MS.St → Stmt → Bool
  | .set i e, st => asgB (fun t pe => nameT (fun x _ => nameB N i x && locB sc (fun _ => true) x && okE T N sc e pe && (noComp pe || !localB sc x)) t) st
  | .setc i e, st => okSetc T N sc i e st
  | .unp ts e, st => asgB (fun t pe => tupT (fun es => okTgs N sc (fun _ => true) ts es && okE T N sc e pe && noComp pe && !isTuple pe) t) st
  | .par ts es, st => asgB (fun t pe => tupT (fun tes => tupT (fun pes => okEs T N sc es pes && (parB N sc ts tes pes || (decide (swS sc tes pes = some none) && namesB N sc ts tes && decide (ts.length ≤ 1000)))) pe) t) st
  | .setix a i e, st => asgB (fun t pe => subT (fun pa pi => okE T N sc a pa && okE T N sc i pi && okE T N sc e pe && noComp pe && noSlice pi) t) st
  | .setd a i e, st => asgB (fun t pe => subT (fun pa pi => okE T N sc a pa && okE T N sc i pi && okE T N sc e pe && noComp pe && noSlice pi) t) st
  | .setk a ks e, st => asgB (fun t pe => subT (fun pa pi => tupT (fun pes => okE T N sc a pa && okEs T N sc ks pes && okE T N sc e pe && noComp pe) pi) t) st
  | .st2 a i b j es, st => asgB (fun t pe => tupT (fun tes => tupT (fun pes => two2 (fun t1 t2 => subT (fun pa pi => subT (fun pb pj => okE T N sc a pa && okE T N sc i pi && okE T N sc b pb && okE T N sc j pj && noSlice pi && noSlice pj && okEs T N sc es pes) t2) t1) tes) pe) t) st
  | .expr e, st => exprB (fun pe => okE T N sc e pe && noComp pe) st
  | .app a e, st => exprB (fun pe => methB (fun pa x apos pb cpos => decide (x = "append") && okE T N sc a pa && okE T N sc e pb && notCall0 pa && noStar pb && (apos.endLine == cpos.line)) pe) st
  | .ext a e, st => exprB (fun pe => methB (fun pa x apos pb cpos => decide (x = "extend") && okE T N sc a pa && okE T N sc e pb && notCall0 pa && noStar pb && (apos.endLine == cpos.line)) pe) st
  | .ifs c t f, .If pc pt pf _ => okE T N sc c pc && tstB c && okSs T N sc t pt && okSs T N sc f pf
  | .fors tg it b, .For ptg piter pb [] _ => okI T N sc it ptg piter && okTg N sc (fun _ => true) tg ptg && okSs T N sc b pb && noSet piter
  | .whil _ c b, .While pc pb [] _ => okE T N sc c pc && tstB c && okSs T N sc b pb
  | .ret e, .Return (some pe) _ => okE T N sc e pe
  | .pass, .Pass _ => true
  | .brk, .Break _ => true
  | .cnt, .Continue _ => true
  | .never, _ => true
  | .frzs _ s, st => okS T N sc s st
  | .raise2 c a b, st => rai2B (fun x pa pb => decide (x = T.nm c) && T.xs.contains c && T.xi.contains c && glB sc x && plainN x && okE T N sc a pa && okE T N sc b pb && noStar pa && noStar pb) st
  | .raise c m, st => raiB (fun x s => decide (x = T.nm c) && T.xs.contains c && !T.xi.contains c && glB sc x && plainN x && decide (s = m)) st
  | .tri b i yes no d h, st => triB (fun body x n su => okSs T N sc b body && nameB N i n && localB sc n && decide (x = T.nm d) && glB sc x && plainN x && yesB T yes no d && okHSs T N sc h su) st
  | _, _ => false
def okSs (T : Tb) (N : List Str) (sc : Scope) : Sts → List Stmt → Bool
  | .nil, [] => true
  | .cons s ss, p :: ps => okS T N sc s p && okSs T N sc ss ps
  | _, _ => false
end
section
variable {fa : FA} {T : Tb} {G : List D} {C : Runner} {k : Nat} {N : List Str} {X : Cx} {sc : Scope}
theorem namesB_ok (c : Ctx X fa T G C k N sc) (hf : X.fn = fun _ => true) : ∀ {ts : List Nat} {es : List Expr}, namesB N sc ts es = true → PGs X es (rdNs X.K fa ts) ∧ es.all noStar = true ∧ es.length = ts.length
  | [], [], _ => ⟨sn_nil, rfl, rfl⟩
  | [], _ :: _, h => by simp [namesB] at h
  | _ :: _, [], h => by simp [namesB] at h
  | i :: is, e :: es, h => by
    cases e with
    | Name x p =>
      simp only [namesB, Bool.and_eq_true] at h
      obtain ⟨h1, h2, h3⟩ := namesB_ok c hf h.2
      obtain ⟨l1, l2⟩ := locB_ok h.1.2
      exact ⟨sn_cons (by rw [c.names]; exact c.nd) (by rw [c.names]; exact nameB_ok h.1.1) (by rw [c.scope]; exact l1) (by rw [hf, c.scope]; exact l2) h1, by rw [List.all_cons, h2]; rfl, by simp [h3]⟩
    | _ => simp [namesB] at h
theorem parB_ok (c : Ctx X fa T G C k N sc) (hk : sc.kind = .function) {ts : List Nat} {tes pes : List Expr} {ms : M (List Val)} {kt k2 : Nat} {pt p2 pos : Pos} (h : parB N sc ts tes pes = true) (ha : SimA fa X pes ms) : SimS fa X (.Assign [.Tuple tes kt pt] (.Tuple pes k2 p2) pos) (mpar ts ms) := by
  unfold parB at h
  split at h
  · simp only [Bool.and_eq_true, decide_eq_true_eq] at h
    obtain ⟨⟨⟨⟨⟨g1, g2⟩, g3⟩, g4⟩, g5⟩, g6⟩ := h
    exact ss_par2 c.calm (by rw [c.names]; exact c.nd) (by rw [c.names]; exact nameB_ok g1) (by rw [c.names]; exact nameB_ok g2) g3 (by rw [c.scope]; exact localB_ok g4) (by rw [c.scope]; exact localB_ok g5) ha (swS_ok c.scope hk g6)
  · simp only [Bool.and_eq_true, decide_eq_true_eq] at h
    obtain ⟨⟨⟨⟨⟨⟨⟨⟨⟨g1, g2⟩, g3⟩, g4⟩, g5⟩, g6⟩, g7⟩, g8⟩, g9⟩, g10⟩ := h
    exact ss_par3 c.calm (by rw [c.names]; exact c.nd) (by rw [c.names]; exact nameB_ok g1) (by rw [c.names]; exact nameB_ok g2) (by rw [c.names]; exact nameB_ok g3) g4 g5 g6 (by rw [c.scope]; exact localB_ok g7) (by rw [c.scope]; exact localB_ok g8) (by rw [c.scope]; exact localB_ok g9) ha (swS_ok c.scope hk g10)
  · cases h
section
variable {a : Addr} {oe : Obj} {od : Option Addr} {pn : List (Addr × Obj)} {j : Nat}
mutual
theorem okHS_ok (c : Ctx X fa T G C k N sc) (hf : X.fn = fun _ => true) (hj : j ∈ T.xs) (hz : Zc (.ref (fa j)) od oe) (hd : ∃ vs, oe.data = .fields vs) : ∀ (s : MS.St) (ps : Stmt), okHS T N sc s ps = true → SimS (faX fa a (fa j) od) (X.suite a ((a, oe) :: pn)) ps (exS G C s)
  | .set i e, ps, h => by
    simp only [okHS] at h
    obtain ⟨t, pe, q, rfl, h91⟩ := asgB_ok h
    obtain ⟨x, p, rfl, h92⟩ := nameT_ok h91
    simp only [Bool.and_eq_true] at h92
    obtain ⟨⟨⟨g1, g2⟩, g3⟩, g4⟩ := h92
    obtain ⟨l1, l2⟩ := locB_ok g2
    exact ss_set (X := X.suite a ((a, oe) :: pn)) (show X.N.Nodup by rw [c.names]; exact c.nd) (show X.N[i]? = some x by rw [c.names]; exact nameB_ok g1) (show Loc X.env.scope x by rw [c.scope]; exact l1) (show X.fn x = true ∨ X.env.scope.names.lookup x = some .local by rw [hf, c.scope]; exact l2) (okH_ok c hj hz hd e pe g3) (sw_false (env := X.env) c.scope g4)
  | .ifs cc t f, ps, h => by
    cases ps with
    | If pc pt pf q =>
      simp only [okHS, Bool.and_eq_true] at h
      obtain ⟨⟨⟨g1, g2⟩, g3⟩, g4⟩ := h
      exact ss_if (okHt_ok c hj hz hd cc pc g1 g2) (okHSs_ok c hf hj hz hd t pt g3) (okHSs_ok c hf hj hz hd f pf g4)
    | _ => simp [okHS] at h
  | .ret e, ps, h => by
    cases ps with
    | Return pe q =>
      cases pe with
      | none => simp [okHS] at h
      | some pe =>
        simp only [okHS] at h
        exact ss_ret (okH_ok c hj hz hd e pe h)
    | _ => simp [okHS] at h
  | .pass, ps, h => by
    cases ps with
    | Pass q => exact ss_pass
    | _ => simp [okHS] at h
  | .setc _ _, ps, h => by simp [okHS] at h
  | .unp _ _, ps, h => by simp [okHS] at h
  | .par _ _, ps, h => by simp [okHS] at h
  | .setix _ _ _, ps, h => by simp [okHS] at h
  | .setd _ _ _, ps, h => by simp [okHS] at h
  | .setk _ _ _, ps, h => by simp [okHS] at h
  | .st2 _ _ _ _ _, ps, h => by simp [okHS] at h
  | .expr _, ps, h => by simp [okHS] at h
  | .app _ _, ps, h => by simp [okHS] at h
  | .ext _ _, ps, h => by simp [okHS] at h
  | .fors _ _ _, ps, h => by simp [okHS] at h
  | .whil _ _ _, ps, h => by simp [okHS] at h
  | .brk, ps, h => by simp [okHS] at h
  | .cnt, ps, h => by simp [okHS] at h
  | .never, ps, h => by simp [okHS] at h
  | .frzs _ _, ps, h => by simp [okHS] at h
  | .raise _ _, ps, h => by simp [okHS] at h
  | .raise2 _ _ _, ps, h => by simp [okHS] at h
  | .tri _ _ _ _ _ _, ps, h => by simp [okHS] at h
theorem okHSs_ok (c : Ctx X fa T G C k N sc) (hf : X.fn = fun _ => true) (hj : j ∈ T.xs) (hz : Zc (.ref (fa j)) od oe) (hd : ∃ vs, oe.data = .fields vs) : ∀ (s : Sts) (ps : List Stmt), okHSs T N sc s ps = true → SimSs (faX fa a (fa j) od) (X.suite a ((a, oe) :: pn)) ps (exSs G C s)
  | .nil, [], _ => sss_nil
  | .nil, _ :: _, h => by simp [okHSs] at h
  | .cons _ _, [], h => by simp [okHSs] at h
  | .cons s ss, p :: ps, h => by
    simp only [okHSs, Bool.and_eq_true] at h
    exact sss_cons (okHS_ok c hf hj hz hd s p h.1) (okHSs_ok c hf hj hz hd ss ps h.2)
end
end
theorem Ctx.tr (c : Ctx X fa T G C k N sc) (pn : List (Addr × Obj)) (xe : Value → Shared → Prop) : Ctx (X.tr pn xe) fa T G C k N sc :=
  ⟨c.scope, c.names, c.nd, c.calm, c.room, c.grd, ⟨c.lib.mg, c.lib.kp, c.lib.fn⟩, c.cst, c.blt, c.xcl, c.xpl, c.xin, c.xsb⟩
/-- where a def's own statements stand -/
structure Own (X : Cx) : Prop where
  fn : X.fn = fun _ => true
  stk : X.stack = X.env :: X.outer
  frm : X.env.frame = some X.env.locals
theorem setTg_tup (ts : Tgs) (v : Val) (env : MS.Env) : (match setTg (.tup ts) v env with | some env1 => RS.nx env1 = RS.nx env1 | none => True) := by split <;> trivial
mutual
theorem okS_ok {X : Cx} (c : Ctx X fa T G C k N sc) (ow : Own X) (hk : sc.kind = .function) (hp : PassesOwn (model X.prog X.w) X.A X.env X.xe) : ∀ (s : MS.St) (ps : Stmt), okS T N sc s ps = true → SimS fa X ps (exS G C s)
  | .set i e, ps, h => by
    simp only [okS] at h
    obtain ⟨t, pe, q, rfl, h91⟩ := asgB_ok h
    obtain ⟨x, p, rfl, h92⟩ := nameT_ok h91
    simp only [Bool.and_eq_true] at h92
    obtain ⟨⟨⟨g1, g2⟩, g3⟩, g4⟩ := h92
    obtain ⟨l1, l2⟩ := locB_ok g2
    exact ss_set (by rw [c.names]; exact c.nd) (by rw [c.names]; exact nameB_ok g1) (by rw [c.scope]; exact l1) (by rw [ow.fn, c.scope]; exact l2) (okE_ok e pe c g3).1 (sw_false c.scope g4)
  | .setc i e, ps, h => by
    simp only [okS] at h
    cases e with
    | comp own tg it cs elt =>
      simp only [okSetc] at h
      obtain ⟨t, pe, q, rfl, h91⟩ := asgB_ok h
      obtain ⟨y, py, rfl, h92⟩ := nameT_ok h91
      obtain ⟨pelt, ptg, piter, pifs, as, scope, pos, rfl, h93⟩ := lcT_ok h92
      simp only [okComp, Bool.and_eq_true, decide_eq_true_eq, Bool.not_eq_true'] at h93
      obtain ⟨⟨⟨⟨f1, f2⟩, f3⟩, f4⟩, ⟨⟨⟨⟨⟨⟨g1, g2⟩, g3⟩, g4⟩, g5⟩, g6⟩, g7⟩, g8⟩ := h93
      subst g1
      have hi := okI_ok it ptg piter c g2
      obtain ⟨hb, hs⟩ := okC_ok own tg it cs elt c g4 g6 (fun c' => okCs_ok cs pifs c' g7) (fun c' => (okE_ok elt pelt c' g8).1)
      exact ss_setc c.calm (by rw [c.names]; exact c.nd) (by rw [c.names]; exact nameB_ok f1) (by rw [c.scope]; exact localB_ok f2) (by rw [c.scope]; exact hk) f3 f4 hi (by rw [c.names, c.scope]; exact g3) hb hs g5
    | _ => simp [okSetc] at h
  | .unp ts e, ps, h => by
    simp only [okS] at h
    obtain ⟨t, pe, q, rfl, h91⟩ := asgB_ok h
    obtain ⟨es, kk, p, rfl, h92⟩ := tupT_ok h91
    simp only [Bool.and_eq_true, Bool.not_eq_true'] at h92
    obtain ⟨⟨⟨g1, g2⟩, g3⟩, g4⟩ := h92
    have hN : X.N.Nodup := by rw [c.names]; exact c.nd
    have hg : PG X (.Tuple es kk p) (rdGt X.K fa (.tup ts)) := okTg_ok c.scope ow.fn hN c.calm (.tup ts) _ (by rw [c.names]; simpa [okTg] using g1)
    exact ss_asg (okE_ok e pe c g2).1 hg (noComp_ok g3 (some (.Tuple es kk p)) q.line X.env) (swNone g4) rfl
  | .par ts es, ps, h => by
    simp only [okS] at h
    obtain ⟨t, pe, q, rfl, h91⟩ := asgB_ok h
    obtain ⟨tes, kk, p, rfl, h92⟩ := tupT_ok h91
    obtain ⟨pes, k2, p2, rfl, h93⟩ := tupT_ok h92
    simp only [Bool.and_eq_true, Bool.or_eq_true, decide_eq_true_eq] at h93
    have ha := okEs_ok es pes c h93.1
    have e : exS G C (.par ts es) = mpar ts (evEs G C es) := by funext env S; simp only [exS]; rfl
    rw [e]
    rcases h93.2 with h2 | ⟨⟨h2, h3⟩, h4⟩
    · exact parB_ok c hk h2 ha
    · obtain ⟨n1, n2, n3⟩ := namesB_ok c ow.fn h3
      exact ss_parT c.calm n1 n2 n3 ha h4 (swS_ok c.scope hk h2)
  | .setix a i e, ps, h => by
    simp only [okS] at h
    obtain ⟨t, pe, q, rfl, h91⟩ := asgB_ok h
    obtain ⟨pa, pi, p, rfl, h92⟩ := subT_ok h91
    simp only [Bool.and_eq_true] at h92
    obtain ⟨⟨⟨⟨g1, g2⟩, g3⟩, g4⟩, g5⟩ := h92
    exact ss_setix (okE_ok e pe c g3).1 (okE_ok a pa c g1).1 (okE_ok i pi c g2).1 g4 g5 swSub
  | .setd a i e, ps, h => by
    simp only [okS] at h
    obtain ⟨t, pe, q, rfl, h91⟩ := asgB_ok h
    obtain ⟨pa, pi, p, rfl, h92⟩ := subT_ok h91
    simp only [Bool.and_eq_true] at h92
    obtain ⟨⟨⟨⟨g1, g2⟩, g3⟩, g4⟩, g5⟩ := h92
    exact ss_setd c.units (okE_ok e pe c g3).1 (okE_ok a pa c g1).1 (okE_ok i pi c g2).1 g4 g5 swSub
  | .setk a ks e, ps, h => by
    simp only [okS] at h
    obtain ⟨t, pe, q, rfl, h91⟩ := asgB_ok h
    obtain ⟨pa, pi, p, rfl, h92⟩ := subT_ok h91
    obtain ⟨pes, kk, p3, rfl, h93⟩ := tupT_ok h92
    simp only [Bool.and_eq_true] at h93
    obtain ⟨⟨⟨g1, g2⟩, g3⟩, g4⟩ := h93
    exact ss_setk c.units (okE_ok e pe c g3).1 (okE_ok a pa c g1).1 (okEs_ok ks pes c g2) g4 swSub
  | .st2 a i b j es, ps, h => by
    simp only [okS] at h
    obtain ⟨t, pe, q, rfl, h91⟩ := asgB_ok h
    obtain ⟨tes, kt, pt, rfl, h92⟩ := tupT_ok h91
    obtain ⟨pes, k2, pt2, rfl, h93⟩ := tupT_ok h92
    obtain ⟨t1, t2, rfl, h94⟩ := two2_ok h93
    obtain ⟨pa, pi, p1, rfl, h95⟩ := subT_ok h94
    obtain ⟨pb, pj, p2, rfl, h96⟩ := subT_ok h95
    simp only [Bool.and_eq_true] at h96
    obtain ⟨⟨⟨⟨⟨⟨g1, g2⟩, g3⟩, g4⟩, g5⟩, g6⟩, g7⟩ := h96
    have e : exS G C (.st2 a i b j es) = mst2 (evEs G C es) (evE G C a) (evE G C i) (evE G C b) (evE G C j) := by funext env S; simp only [exS]; rfl
    rw [e]
    exact ss_st2 c.calm (okEs_ok es pes c g7) (okE_ok a pa c g1).1 (okE_ok i pi c g2).1 (okE_ok b pb c g3).1 (okE_ok j pj c g4).1 g5 g6 swTwo
  | .expr e, ps, h => by
    simp only [okS] at h
    obtain ⟨pe, q, rfl, h91⟩ := exprB_ok h
    simp only [Bool.and_eq_true] at h91
    exact ss_expr (okE_ok e pe c h91.1).1 h91.2
  | .app a e, ps, h => by
    simp only [okS] at h
    obtain ⟨pe, q, rfl, h91⟩ := exprB_ok h
    obtain ⟨pa, x, apos, pb, cpos, rfl, h92⟩ := methB_ok h91
    simp only [Bool.and_eq_true, decide_eq_true_eq] at h92
    obtain ⟨⟨⟨⟨⟨g1, g2⟩, g3⟩, g4⟩, g5⟩, g6⟩ := h92
    subst g1
    exact ss_app (okE_ok a pa c g2).1 (okE_ok e pb c g3).1 g4 g5 g6
  | .ext a e, ps, h => by
    simp only [okS] at h
    obtain ⟨pe, q, rfl, h91⟩ := exprB_ok h
    obtain ⟨pa, x, apos, pb, cpos, rfl, h92⟩ := methB_ok h91
    simp only [Bool.and_eq_true, decide_eq_true_eq] at h92
    obtain ⟨⟨⟨⟨⟨g1, g2⟩, g3⟩, g4⟩, g5⟩, g6⟩ := h92
    subst g1
    exact ss_ext (okE_ok a pa c g2).1 (okE_ok e pb c g3).1 g4 g5 g6
  | .ifs cc t f, ps, h => by
    cases ps with
    | If pc pt pf q =>
      simp only [okS, Bool.and_eq_true] at h
      obtain ⟨⟨⟨g1, g2⟩, g3⟩, g4⟩ := h
      exact ss_if ((okE_ok cc pc c g1).2 g2) (okSs_ok c ow hk hp t pt g3) (okSs_ok c ow hk hp f pf g4)
    | _ => simp [okS] at h
  | .fors tg it b, ps, h => by
    cases ps with
    | For ptg piter pb el q =>
      cases el with
      | cons _ _ => simp [okS] at h
      | nil =>
        simp only [okS, Bool.and_eq_true] at h
        obtain ⟨⟨⟨g1, g2⟩, g3⟩, g4⟩ := h
        have hN : X.N.Nodup := by rw [c.names]; exact c.nd
        exact ss_for hp c.calm (okI_ok it ptg piter c g1) (okTg_ok c.scope ow.fn hN c.calm tg ptg (by rw [c.names]; exact g2)) (okSs_ok c ow hk hp b pb g3) g4
    | _ => simp [okS] at h
  | .whil n cc b, ps, h => by
    cases ps with
    | While pc pb el q =>
      cases el with
      | cons _ _ => simp [okS] at h
      | nil =>
        simp only [okS, Bool.and_eq_true] at h
        exact ss_while n hp ((okE_ok cc pc c h.1.1).2 h.1.2) (okSs_ok c ow hk hp b pb h.2)
    | _ => simp [okS] at h
  | .ret e, ps, h => by
    cases ps with
    | Return pe q =>
      cases pe with
      | none => simp [okS] at h
      | some pe =>
        simp only [okS] at h
        exact ss_ret (okE_ok e pe c h).1
    | _ => simp [okS] at h
  | .pass, ps, h => by
    cases ps with
    | Pass q => exact ss_pass
    | _ => simp [okS] at h
  | .brk, ps, h => by
    cases ps with
    | Break q => exact ss_brk
    | _ => simp [okS] at h
  | .cnt, ps, h => by
    cases ps with
    | Continue q => exact ss_cnt
    | _ => simp [okS] at h
  | .never, ps, h => ss_never
  | .frzs i s, ps, h => by
    simp only [okS] at h
    have e : exS G C (.frzs i s) = frzM i (exS G C s) := by funext env S; simp only [exS, frzM] <;> (cases lookE env i <;> rfl)
    rw [e]
    exact ss_frz (okS_ok c ow hk hp s ps h)
  | .raise cc m, ps, h => by
    simp only [okS] at h
    obtain ⟨x, p, s, jj, p2, cp, q, rfl, h2⟩ := raiB_ok h
    simp only [Bool.and_eq_true, decide_eq_true_eq, List.contains_iff_mem] at h2
    obtain ⟨⟨⟨⟨⟨g1, g2⟩, g6⟩, g3⟩, g4⟩, g5⟩ := h2
    subst g1
    obtain ⟨_, z2, z3, _⟩ := c.xcl cc g2
    exact ss_raise c.calm z3 (c.xpl cc g2 (by simpa using g6)) z2 (glB_ok c.scope g3) (plainN_ok g4).1
  | .raise2 cc a b, ps, h => by
    simp only [okS] at h
    obtain ⟨x, p, ea, eb, cp, q, rfl, h2⟩ := rai2B_ok h
    simp only [Bool.and_eq_true, decide_eq_true_eq, List.contains_iff_mem] at h2
    obtain ⟨⟨⟨⟨⟨⟨⟨⟨g1, g2⟩, g6⟩, g3⟩, g4⟩, g5⟩, g7⟩, g8⟩, g9⟩ := h2
    subst g1
    obtain ⟨_, z2, z3, _⟩ := c.xcl cc g2
    obtain ⟨jj, z4, z5⟩ := c.xin cc g6
    have e : exS G C (.raise2 cc a b) = fun env S => .ofR env (evE G C a env S) fun x S1 => .ofR env (evE G C b env S1) fun y S2 => exc2 cc env x y S2 := by funext env S; simp only [exS]
    rw [e]
    exact ss_raise2 c.calm z4 z5 z2 (glB_ok c.scope g3) (plainN_ok g4).1 (okE_ok a ea c g5).1 (okE_ok b eb c g7).1 g8 g9
  | .tri b i yes no d hh, ps, h => by
    simp only [okS] at h
    obtain ⟨body, x, np, n, b₀, suite, pos', pos, rfl, h97⟩ := triB_ok h
    simp only [Bool.and_eq_true, decide_eq_true_eq] at h97
    obtain ⟨⟨⟨⟨⟨⟨⟨g1, g2⟩, g3⟩, g4⟩, g5⟩, g6⟩, g7⟩, g8⟩ := h97
    subst g4
    obtain ⟨y0, y1, y2⟩ := yesB_ok c g7
    have e : exS G C (.tri b i yes no d hh) = triS (exSs G C b) (exSs G C hh) i yes no := by funext env S; simp only [exS]
    rw [e]
    exact ss_try ow.stk ow.frm (by rw [c.names]; exact c.nd) (by rw [c.names]; exact nameB_ok g2) (show X.env.scope.names.lookup n = some .local by rw [c.scope]; exact localB_ok g3) ⟨glB_ok c.scope g5, (plainN_ok g6).1, .inl (c.xcl d y0).2.1⟩
      (fun i hi => ⟨(y1 i hi).2.1, (c.xcl i (y1 i hi).1).1⟩) (fun i hi => (y2 i hi).2.1) (fun pn xe hp' => okSs_ok (X := X.tr pn xe) (c.tr pn xe) ⟨ow.fn, ow.stk, ow.frm⟩ hk hp' b body g1)
      fun aa oe od pn jj hjj hz hd => okHSs_ok c ow.fn (y1 jj hjj).1 hz hd hh _ g8
theorem okSs_ok {X : Cx} (c : Ctx X fa T G C k N sc) (ow : Own X) (hk : sc.kind = .function) (hp : PassesOwn (model X.prog X.w) X.A X.env X.xe) : ∀ (s : Sts) (ps : List Stmt), okSs T N sc s ps = true → SimSs fa X ps (exSs G C s)
  | .nil, [], _ => sss_nil
  | .nil, _ :: _, h => by simp [okSs] at h
  | .cons _ _, [], h => by simp [okSs] at h
  | .cons s ss, p :: ps, h => by
    simp only [okSs, Bool.and_eq_true] at h
    exact sss_cons (okS_ok c ow hk hp s p h.1) (okSs_ok c ow hk hp ss ps h.2)
end
end
end MS

-- MsIni
/-! An __init__ that keeps two numbers. -/
namespace MS
open PySem PySem.Spec PyProof.Rows L2
abbrev iniN : List Str := ["self", "many", "most"]
/-- the class statement's first def -/
def clsSt : Stmt → Stmt
  | .ClassDef _ _ _ (s :: _) _ _ _ _ _ _ _ => s
  | s => s
def iniB : List Stmt → Bool
  | [.Assign [.Attribute (.Name a _) f _] (.Name x _) _, .Assign [.Attribute (.Name b _) g _] (.Name y _) _] => decide (a = "self") && decide (f = "many") && decide (x = "many") && decide (b = "self") && decide (g = "most") && decide (y = "most")
  | _ => false
theorem iniB_ok {l : List Stmt} (h : iniB l = true) : ∃ p1 p2 p3 p4 q1 q2 q3 q4, l = [.Assign [.Attribute (.Name "self" p1) "many" p2] (.Name "many" p3) p4, .Assign [.Attribute (.Name "self" q1) "most" q2] (.Name "most" q3) q4] := by
  unfold iniB at h
  split at h
  · simp only [Bool.and_eq_true, decide_eq_true_eq] at h
    obtain ⟨⟨⟨⟨⟨rfl, rfl⟩, rfl⟩, rfl⟩, rfl⟩, rfl⟩ := h
    exact ⟨_, _, _, _, _, _, _, _, rfl⟩
  · cases h
section
variable {P : Program} {w : World} {K : PySem.W.Frag} {mg : Str → Option Value} {base : Heap} {fI C : Addr} {fd : FuncData} {params : Arguments} {body : List Stmt} {scope : Scope} {qual : Str}
theorem ini_ok (F : FunD K "__init__" qual params body scope [] [] fI fd) (S : FnScope iniN iniN scope) (hb : iniB body = true) (hO : OexC K C) (hx : XC K C) (k : Nat) : FnOk P w K mg base (L2.CX P w) (k + 1) fI fd iniN (spI K C) := by
  refine F.ok S (fun vs H Q E ⟨a, m, n, e, _⟩ => by rw [e]; rfl) fun cdv A outer s H vs Q E hr ⟨a, m, n, e, ha, hq⟩ => ?_
  subst e
  obtain ⟨p1, p2, p3, p4, q1, q2, q3, q4, rfl⟩ := iniB_ok hb
  have hv : ∀ x ∈ iniN, Vis scope x := fun x hx => by
    rcases S.par x hx with z | z
    · exact .inl z
    · exact .inr (.inl z)
  refine ⟨_, pss_cons (ps_ost (pe_var (i := 0) (by rfl) (hv "self" (by decide))) (pe_var (i := 1) (by rfl) (hv "many" (by decide)))) (pss_one (ps_ost (pe_var (i := 0) (by rfl) (hv "self" (by decide))) (pe_var (i := 2) (by rfl) (hv "most" (by decide))))), ?_⟩
  refine ⟨.int m, rfl, .ref a, rfl, a, C, rfl, hO, hx.f0, .inl ⟨ha, fun dx h1 h2 => ?_⟩⟩
  refine ⟨.int n, rfl, .ref a, rfl, a, C, rfl, hO, hx.f1, .inr ⟨dx, [("many", .int m)], upd_same, ?_, (by decide : (1 : Nat) ≤ 900), hq dx h1 h2⟩⟩
  rw [upd_ne h2, upd_same]
/-- what the head tells of it -/
structure FunI (K : PySem.W.Frag) (fI : Addr) (fd : FuncData) : Prop where
  ex : ∃ qual params body scope, FunD K "__init__" qual params body scope [] [] fI fd ∧ FnScope iniN iniN scope ∧ iniB body = true ∧
    ∀ (kV doc pm : Value) (an : Option Addr) (cdv ct : Value) (us : List Value), us.length = iniN.length → bindArgs (PySem.W.fnOf "__init__" qual params body scope .none kV doc pm an cdv ct) ⟨us, []⟩ = pure (iniN.zip us)
/-- an own class of exceptions whose __init__ keeps its two numbers -/
structure XIF (K : PySem.W.Frag) (C : Addr) : Prop where
  o : OexC K C
  x : XC K C
  fn : ∃ fI fd, PySem.W.findIn K (.ref C) "__init__" = some (some (.ref fI)) ∧ PySem.W.typeIn K (.ref fI) = some (.type "function") ∧ FunI K fI fd
theorem xi_of (h : XIF K C) (k : Nat) : XI P w K mg base C (k + 1) := by
  obtain ⟨fI, fd, h1, h2, ⟨_, _, _, _, F, S, hb, hB⟩⟩ := h.fn
  exact ⟨h.o, fI, fd, h1, h2, F.bindsN hB, ini_ok F S hb h.o h.x k⟩
end
end MS

-- MsLaw
/-! A whole law: its defs by their meaning, the head, the end. -/
namespace MS
open PySem PySem.Spec PyProof.Rows L2

/-- a def of a law's text -/
structure Ent where
  idx : Nat
  nm : Str
  ps : List Str
  N : List Str
  st : Stmt
def entOf (es : List Ent) (i : Nat) : Option Ent := es.find? fun e => e.idx == i
def tbOf (es : List Ent) (gs : List (Nat × Str)) (xc : List (Nat × Str) := []) (sb : List (Nat × Nat × Bool) := []) (xi : List Nat := []) : Tb where
  nm := fun i => match entOf es i with | some e => e.nm | none => match xc.find? (fun p => p.1 == i) with | some p => p.2 | none => ""
  ps := fun i => match entOf es i with | some e => e.ps | none => []
  gm := fun g => match gs.find? (fun p => p.1 == g) with | some p => p.2 | none => ""
  I := es.map (·.idx)
  J := gs.map (·.1)
  xs := xc.map (·.1)
  sb := sb
  xi := xi
def scB (N ps : List Str) (sc : Scope) : Bool :=
  (match sc.kind with | .function => true | _ => false) && !sc.isCoroutine && !sc.isGenerator && decide N.Nodup && decide (N.take ps.length = ps) &&
  (ps.all fun x => match sc.names.lookup x with | some .local => true | some .cell => true | _ => false) && (sc.names.all fun y => match y.2 with | .free => false | _ => true)
theorem scB_ok {N ps : List Str} {sc : Scope} (h : scB N ps sc = true) : FnScope N ps sc := by
  unfold scB at h
  simp only [Bool.and_eq_true, decide_eq_true_eq, Bool.not_eq_true', List.all_eq_true] at h
  obtain ⟨⟨⟨⟨⟨⟨h1, h2⟩, h3⟩, h4⟩, h5⟩, h6⟩, h7⟩ := h
  refine ⟨?_, h2, h3, h4, h5, fun x hx => ?_, fun y hy e => ?_⟩
  · split at h1
    · assumption
    · cases h1
  · have := h6 x hx
    split at this
    · exact .inl (by assumption)
    · exact .inr (by assumption)
    · cases this
  · have := h7 y hy
    rw [e] at this
    cases this
def fnB (T : Tb) (e : Ent) (f : Fn) : Bool := scB e.N e.ps (defScope e.st) && okSs T e.N (defScope e.st) f.body (defBody e.st) && decide (f.params = e.ps.length) && decide (f.slots = e.N.length)
def BindOk (e : Ent) : Prop := ∀ (kV doc pm : Value) (an : Option Addr) (cdv ct : Value) (us : List Value), us.length = e.ps.length →
  bindArgs (PySem.W.fnOf e.nm e.nm (defArgs e.st) (defBody e.st) (defScope e.st) .none kV doc pm an cdv ct) ⟨us, []⟩ = pure (e.ps.zip us)

/-! ### a def's body by its meaning -/
theorem Sim.cut {K : PySem.W.Frag} {fa : FA} {F0 H0 F H : Hp} {ρ0 ρ : Nat → Addr} {S0 S : Sto} {x : V} {v : Val} (s : Sim K fa F H ρ S) (e : Ext F0 H0 ρ0 S0 F H ρ S) (r : RepV K fa F ρ S.length x v) :
    Sim K fa F H ρ (cutS S0.length v S) ∧ Ext F0 H0 ρ0 S0 F H ρ (cutS S0.length v S) ∧ RepV K fa F ρ (cutS S0.length v S).length x v := by
  have nc : ∀ {S' : Sto}, S' = S → Sim K fa F H ρ S' ∧ Ext F0 H0 ρ0 S0 F H ρ S' ∧ RepV K fa F ρ S'.length x v := fun h => by subst h; exact ⟨s, e, r⟩
  have key : (∀ m, v ≠ .ref m) → Sim K fa F H ρ (if belowS S0.length (S.take S0.length) then S.take S0.length else S) ∧ Ext F0 H0 ρ0 S0 F H ρ (if belowS S0.length (S.take S0.length) then S.take S0.length else S) ∧ RepV K fa F ρ (if belowS S0.length (S.take S0.length) then S.take S0.length else S).length x v := fun hv => by
    split
    · rename_i hb
      have hlen : (S.take S0.length).length = S0.length := by rw [List.length_take]; exact Nat.min_eq_left e.len
      have gl : ∀ n u, stGet (S.take S0.length) n = some u → n < S0.length ∧ stGet S n = some u := fun n u h => by
        have hn := stGet_lt h
        rw [hlen] at hn
        unfold stGet at h ⊢
        rw [List.getElem?_take, if_pos hn] at h
        exact ⟨hn, h⟩
      refine ⟨⟨s.sub, fun n o h => s.off n o (gl n o h).2, fun n o h => ?_, fun n m o u h h' => s.inj n m o u (gl n o h).2 (gl m u h').2⟩,
        ⟨e.fz, e.rho, by rw [hlen]; exact Nat.le_refl _, e.frame, e.there, fun n u h => ?_, e.fnew⟩, ?_⟩
      · obtain ⟨y, hy, ry⟩ := s.obj n o (gl n o h).2
        refine ⟨y, hy, ?_⟩
        rw [hlen]
        have ob : o.below S0.length = true := by
          unfold belowS at hb
          have hm : some o ∈ S.take S0.length := by
            unfold stGet at h
            cases q : (S.take S0.length)[n]? with
            | none => rw [q] at h; cases h
            | some z => rw [q] at h; cases (show z = some o from h); exact List.mem_of_getElem? q
          exact List.all_eq_true.mp hb _ hm
        cases ry with
        | lst ry =>
          refine .lst ?_
          simp only [Ob.below] at ob
          clear h hy
          induction ry with
          | nil => exact .nil
          | @cons a b as bs h1 h2 ih =>
            rw [List.all_cons, Bool.and_eq_true] at ob
            refine .cons ?_ (ih ob.2)
            cases b with
            | ref m => exact ⟨by simpa [Val.below] using ob.1, h1.2⟩
            | d _ => exact h1
            | fn _ => exact h1
            | scr _ => exact h1
            | exn _ => exact h1
        | dct ry =>
          refine .dct ?_
          simp only [Ob.below] at ob
          clear h hy
          induction ry with
          | nil => exact .nil
          | @cons a b as bs h1 h2 ih =>
            rw [List.all_cons, Bool.and_eq_true] at ob
            refine .cons ⟨h1.1, ?_⟩ (ih ob.2)
            obtain ⟨b1, b2⟩ := b
            have h1 := h1.2
            cases b2 with
            | ref m => exact ⟨by simpa [Val.below] using ob.1, h1.2⟩
            | d _ => exact h1
            | fn _ => exact h1
            | scr _ => exact h1
            | exn _ => exact h1
        | kv0 ry =>
          refine .kv0 ?_
          simp only [Ob.below] at ob
          clear h hy
          induction ry with
          | nil => exact .nil
          | @cons a b as bs h1 h2 ih =>
            rw [List.all_cons, Bool.and_eq_true] at ob
            refine .cons ⟨h1.1, ?_⟩ (ih ob.2)
            obtain ⟨b1, b2⟩ := b
            have h1 := h1.2
            cases b2 with
            | ref m => exact ⟨by simpa [Val.below] using ob.1, h1.2⟩
            | d _ => exact h1
            | fn _ => exact h1
            | scr _ => exact h1
            | exn _ => exact h1
      · obtain ⟨h1, h2⟩ := gl n u h
        rcases e.new n u h2 with z | ⟨z, _⟩
        · exact .inl z
        · exact absurd h1 (Nat.not_lt.mpr z)
      · cases v with
        | ref m => exact absurd rfl (hv m)
        | d _ => exact r
        | fn _ => exact r
        | scr _ => exact r
        | exn _ => exact r
    · exact ⟨s, e, r⟩
  cases v with
  | ref m => exact nc rfl
  | d _ => exact key (fun m z => by cases z)
  | fn _ => exact key (fun m z => by cases z)
  | scr _ => exact key (fun m z => by cases z)
  | exn _ => exact key (fun m z => by cases z)
theorem env_start {K : PySem.W.Frag} {fa : FA} {F : Hp} {ρ : Nat → Addr} {n : Nat} {N : List Str} {vs : List V} {args : List Val} {m : Nat} (r : RepVs K fa F ρ n vs args) (hm : m = N.length) :
    EnvRep K fa F ρ n (args.map some ++ List.replicate (m - args.length) none) (start N vs) := by
  subst hm
  have hl := r.length
  unfold L2.start
  have key : ∀ (i : Nat) (v : Val), ((args.map some ++ List.replicate (N.length - args.length) none)[i]?).join = some v → ∃ x, (vs.map some ++ List.replicate (N.length - vs.length) none)[i]? = some (some x) ∧ RepV K fa F ρ n x v := fun i v h => by
    by_cases hi : i < args.length
    · rw [List.getElem?_append_left (by simpa using hi), List.getElem?_map, List.getElem?_eq_getElem hi] at h
      have h' : args[i]? = some v := by rw [List.getElem?_eq_getElem hi]; simpa using h
      obtain ⟨x, hx, rx⟩ := r.get h'
      refine ⟨x, ?_, rx⟩
      rw [List.getElem?_append_left (by simp [hl, hi]), List.getElem?_map, hx]; rfl
    · rw [List.getElem?_append_right (by simpa using hi), List.getElem?_replicate] at h
      split at h <;> simp at h
  refine ⟨by simp [hl], fun i v h => ?_, fun i e h => ?_⟩
  · unfold lookE at h
    obtain ⟨w, h1, h2⟩ := Option.bind_eq_some_iff.mp h
    obtain ⟨rfl, _⟩ := plain_some h2
    exact key i _ h1
  · unfold lookX at h
    obtain ⟨w, h1, h2⟩ := Option.bind_eq_some_iff.mp h
    obtain ⟨x, _, rx⟩ := key i _ h1
    rw [rx.plain.2] at h2; cases h2
section
variable {P : Program} {w : World} {K : PySem.W.Frag} {mg : Str → Option Value} {base : Heap} {fa : FA} {es : List Ent} {gs xc : List (Nat × Str)} {sb : List (Nat × Nat × Bool)} {xi : List Nat} {G : List D} {Pf : Nat → Fn}
/-- what the head tells -/
structure Facts (K : PySem.W.Frag) (mg : Str → Option Value) (fa : FA) (es : List Ent) (gs : List (Nat × Str)) (G : List D) (xc : List (Nat × Str) := []) (sb : List (Nat × Nat × Bool) := []) (xi : List Nat := []) : Prop where
  gl : ∀ e ∈ es, mg e.nm = some (.ref (fa e.idx))
  fn : ∀ e ∈ es, ∃ fd, FunD K e.nm e.nm (defArgs e.st) (defBody e.st) (defScope e.st) [] [] (fa e.idx) fd
  cst : ∀ g ∈ gs, ∃ d v u, G[g.1]? = some d ∧ mg g.2 = some u ∧ RelV v u ∧ Rep K (fun _ => none) v d
  blt : ∀ x ∈ bltNames, mg x = none
  xcl : ∀ p ∈ xc, mg p.2 = some (.ref (fa p.1)) ∧ XC K (fa p.1) ∧ PySem.W.kitOne K (.ref (fa p.1)) (.type "ValueError") = some true
  xpl : ∀ p ∈ xc, xi.contains p.1 = false → PySem.W.excIn K (fa p.1) He.veBase "ValueError.__new__" = true
  xin : ∀ c ∈ xi, XIF K (fa c)
  xsb : ∀ c d b, (c, d, b) ∈ sb → PySem.W.exmOne K (.ref (fa c)) (.ref (fa d)) = some b ∧ PySem.W.kitOne K (.ref (fa c)) (.ref (fa d)) = some b
theorem ent_mem {i : Nat} (hu : (es.map (·.idx)).Nodup) {e : Ent} (he : e ∈ es) (hi : e.idx = i) : entOf es i = some e := by
  unfold entOf
  induction es with
  | nil => cases he
  | cons a es ih =>
    rw [List.map_cons, List.nodup_cons] at hu
    rw [List.find?_cons]
    rcases List.mem_cons.mp he with rfl | he
    · simp [hi]
    · have : a.idx ≠ i := fun z => hu.1 (by rw [z, ← hi]; exact List.mem_map_of_mem he)
      simp only [beq_eq_false_iff_ne.mpr this]
      exact ih hu.2 he
theorem gs_mem {g : Nat} (hu : (gs.map (·.1)).Nodup) {p : Nat × Str} (he : p ∈ gs) (hi : p.1 = g) : gs.find? (fun p => p.1 == g) = some p := by
  induction gs with
  | nil => cases he
  | cons a es ih =>
    rw [List.map_cons, List.nodup_cons] at hu
    rw [List.find?_cons]
    rcases List.mem_cons.mp he with rfl | he
    · simp [hi]
    · have : a.1 ≠ g := fun z => hu.1 (by rw [z, ← hi]; exact List.mem_map_of_mem he)
      simp only [beq_eq_false_iff_ne.mpr this]
      exact ih hu.2 he
theorem fns_ok (f : Facts K mg fa es gs G xc sb xi) (hu : (es.map (·.idx)).Nodup) (hug : (gs.map (·.1)).Nodup) (hb : ∀ e ∈ es, BindOk e) (hc : (es.all fun e => fnB (tbOf es gs xc sb xi) e (Pf e.idx)) = true) (hx : (xc.all fun p => decide (p.1 < exI) && decide ((tbOf es gs xc sb xi).nm p.1 = p.2)) = true) :
    ∀ k : Nat, ∀ e ∈ es, ∃ fd, Binds K fd e.ps [] ∧ FunD K e.nm e.nm (defArgs e.st) (defBody e.st) (defScope e.st) [] [] (fa e.idx) fd ∧ FnG P w K mg base (k + 2) (fa e.idx) fd e.ps (spR K fa (run G Pf k e.idx)) := by
  intro k
  induction k with
  | zero =>
    intro e he
    obtain ⟨fd, F⟩ := f.fn e he
    exact ⟨fd, F.bindsN (hb e he), F, fun vs H Q E h => by obtain ⟨_, _, _, _, _, _, z⟩ := h; exact z.elim, fun A outer s H args us vs Q E _ _ _ _ _ h => by obtain ⟨_, _, _, _, _, _, z⟩ := h; exact z.elim⟩
  | succ k ih =>
    intro e he
    obtain ⟨fd, F⟩ := f.fn e he
    have hce := List.all_eq_true.mp hc e he
    unfold fnB at hce
    simp only [Bool.and_eq_true, decide_eq_true_eq] at hce
    obtain ⟨⟨⟨c1, c2⟩, c3⟩, c4⟩ := hce
    have S := scB_ok c1
    refine ⟨fd, F.bindsN (hb e he), F, fnG_of F S (fun vs H Q E h => ?_) fun cdv A outer s H vs Q E hr hg h => ?_⟩
    · obtain ⟨args, S0, F0, ρ, s, r, p⟩ := h
      unfold run at p
      split at p
      · rename_i hl; rw [r.length, hl, c3]
      · exact p.elim
    · refine ⟨rdS K fa (fun c d _ H' => E c d H') (exSs G (run G Pf k) (Pf e.idx).body), ?_, ?_⟩
      · have ctx : Ctx (cxOf (L2.CX P w) P w K mg base e.N e.nm (defScope e.st) (fa e.idx) cdv A outer s H E) fa (tbOf es gs xc sb xi) G (run G Pf k) (k + 2) e.N (defScope e.st) := by
          refine ⟨rfl, rfl, S.nd, rfl, hr, hg, ⟨fun i hi => ?_, fun i hi => ?_, fun i hi => ?_⟩, fun g hg => ?_, f.blt, fun c hcx => ?_, fun c hcx hpl => ?_, fun c hcx => ⟨k + 1, xi_of (f.xin c hcx) k, hr⟩, f.xsb⟩
          · obtain ⟨e', he', rfl⟩ := List.mem_map.mp hi
            have q : (tbOf es gs xc sb xi).nm e'.idx = e'.nm := by simp only [tbOf]; rw [ent_mem hu he' rfl]
            rw [q]; exact f.gl e' he'
          · obtain ⟨e', he', rfl⟩ := List.mem_map.mp hi
            obtain ⟨fd', F'⟩ := f.fn e' he'
            exact F'.kp
          · obtain ⟨e', he', rfl⟩ := List.mem_map.mp hi
            have q : (tbOf es gs xc sb xi).ps e'.idx = e'.ps := by simp only [tbOf]; rw [ent_mem hu he' rfl]
            rw [q]
            obtain ⟨fd', h1, _, h2⟩ := ih e' he'
            exact ⟨fd', h1, h2⟩
          · obtain ⟨g', hg', rfl⟩ := List.mem_map.mp hg
            have q : (tbOf es gs xc sb xi).gm g'.1 = g'.2 := by simp only [tbOf]; rw [gs_mem hug hg' rfl]
            rw [q]; exact f.cst g' hg'
          · obtain ⟨p, hp, rfl⟩ := List.mem_map.mp hcx
            have hpx := List.all_eq_true.mp hx p hp
            rw [Bool.and_eq_true, decide_eq_true_eq, decide_eq_true_eq] at hpx
            obtain ⟨z1, z2, z3⟩ := f.xcl p hp
            exact ⟨hpx.1, by rw [hpx.2]; exact z1, z2, z3⟩
          · obtain ⟨p, hp, rfl⟩ := List.mem_map.mp hcx
            exact f.xpl p hp hpl
        exact (okSs_ok ctx ⟨rfl, rfl, rfl⟩ S.kind (passes_of rfl) _ _ c2).run _ (takes_of rfl rfl rfl rfl)
      · obtain ⟨args, S0, F0, ρ, sim, r, p⟩ := h
        unfold run at p
        split at p
        · rename_i hl
          refine ⟨_, S0, F0, ρ, sim, env_start r c4, ?_⟩
          cases q : exSs G (run G Pf k) (Pf e.idx).body (args.map some ++ List.replicate ((Pf e.idx).slots - args.length) none) S0 with
          | stuck => rw [q] at p; exact p
          | brk _ _ => rw [q] at p; exact p.elim
          | cnt _ _ => rw [q] at p; exact p.elim
          | nx env' S' =>
            rw [q] at p
            intro σ' F' H' ρ' s' x' e'
            obtain ⟨s2, x2, r2⟩ := s'.cut (x := .non) (v := .d .none) x' Rep.non
            exact p .non F' H' ρ' s2 x2 r2
          | ret v S' =>
            rw [q] at p
            intro x F' H' ρ' s' x' r'
            obtain ⟨s2, x2, r2⟩ := s'.cut x' r'
            exact p x F' H' ρ' s2 x2 r2
          | exc ee env' S' =>
            rw [q] at p
            exact fun c d σ' F' H' ρ' s' x' e' r' => p c d F' H' ρ' s' x' r'
        · exact p.elim
end

/-! ### the end -/
section
variable {P : Program} {w : World} {K : PySem.W.Frag} {mg mb : Str → Option Value} {k : Nat} {lf sa : Addr} {fd : FuncData} {x : Str} {sp : Sp} {t : Shared} {us : List Value} {ns : List Int}
/-- from a heap of which nothing but the script may be tracked -/
theorem endFrom (lim : t.heap.NoLimit) (KX : K.In t.heap) (gl : t.heap.Ns mainGlobals mg) (bl : t.heap.Ns builtinsNs mb) (bb : ∀ y : Str, y ≠ "__name__" → mb y = bootBuiltins y) (hgen : t.gens = #[])
    (os : t.heap.get? sa = some { cls := .type "list", data := .seq us.toArray }) (rm : Room k callerA)
    (F : ∀ base : Heap, K.In base → base.Ns mainGlobals mg → FnG P w K mg base k lf fd [x] sp) (bd : ∀ (s : Shared) (u : Value), BindsTo s fd ⟨[u], []⟩ [(x, u)])
    (H : Hp) (on : Only H) (ok : HOk P w H t.heap) (hA : ∀ b, H b ≠ none → b = sa) (hK : H sa ≠ none → K.lookup sa = none) (hs : sp [.ref sa] H (fun v _ => v = .bl true) fun _ _ _ => False) :
    codeAny (model P w) callerA (.call (.ref lf) ⟨[.ref sa], []⟩) (fun r s' => r = .ok (.ret (.bool true)) ∧ OldK t.heap s'.heap ∧ s'.os = t.os ∧ AllBare s'.gens) t := by
  have free : ∀ {b : Addr}, b ≠ sa → H b = none := fun {b} hb => by
    cases q : H b with
    | none => rfl
    | some z => exact absurd (hA b (by rw [q]; simp)) hb
  have nsIn : ∀ {b : Addr} {m : Str → Option Value}, t.heap.Ns b m → (hidT t.heap H).Ns b m := fun {b m} ⟨ob, en, ep, e1, e2, rest⟩ => by
    refine ⟨ob, en, ep, hidT_get e1 (free fun z => ?_), e2, rest⟩
    rw [z, os] at e1
    cases e1
    cases e2
  have KH : K.In (hidT t.heap H) := fun b ob e => by
    refine hidT_get (KX b ob e) ?_
    cases q : H b with
    | none => rfl
    | some z =>
      have hb := hA b (by rw [q]; simp)
      rw [hb] at q e
      rw [hK (by rw [q]; simp)] at e
      cases e
  have md : Mod K mg (hidT t.heap H) := ⟨KH, nsIn gl, ⟨mb, nsIn bl, bb⟩, let ⟨mc, l1, l2⟩ := lim; ⟨mc, nsIn l1, l2⟩⟩
  have en : Env0 P w K mg (hidT t.heap H) callerA [] t H := ⟨rfl, md, fun b ob e => of_hidT e, Nat.le_of_eq (hidT_size _ _), trivial, (fun b hb => absurd (show b ∈ ([] : List Addr) from hb) (List.not_mem_nil)), ok, .of_eq hgen⟩
  refine codeAny_mono ((F _ KH (nsIn gl)).run callerA [] t H ⟨[.ref sa], []⟩ [.ref sa] [.ref sa] _ _ rm rfl en (bd t (.ref sa)) (.cons rfl .nil) hs) fun r s' hr => ?_
  cases r with
  | error e =>
    obtain ⟨_, _, _, _, _, _, _, _, _, _, _, _, z⟩ := hr
    exact z.elim
  | ok fl =>
    cases fl with
    | ret u =>
      obtain ⟨v, H', e1, e2, un, ok', rv, hv⟩ := hr
      cases (show v = .bl true from hv)
      cases (show u = Value.bool true from rv)
      refine ⟨rfl, OldK.of_keep fun b ob e => ?_, e1, e2⟩
      cases q : H b with
      | none => exact un.keep b ob e q (fun z => absurd (show b ∈ ([] : List Addr) from z) (List.not_mem_nil)) (List.not_mem_nil)
      | some z =>
        rcases on b with n | ⟨o2, xs, n⟩
        · rw [q] at n; cases n
        · have a1 := (ok b _ n).1
          have a2 := (ok' b _ (un.frzs b o2 _ n)).1
          rw [a1] at e; cases e
          exact a2
    | next => exact False.elim hr
    | brk => exact False.elim hr
    | cont => exact False.elim hr
theorem endCall (lim : t.heap.NoLimit) (KX : K.In t.heap) (gl : t.heap.Ns mainGlobals mg) (bl : t.heap.Ns builtinsNs mb) (bb : ∀ y : Str, y ≠ "__name__" → mb y = bootBuiltins y) (hgen : t.gens = #[])
    (os : t.heap.get? sa = some { cls := .type "list", data := .seq us.toArray }) (iv : IntsAre us ns) (sz : ns.length ≤ sizeLine) (rm : Room k callerA)
    (F : ∀ base : Heap, K.In base → base.Ns mainGlobals mg → FnG P w K mg base k lf fd [x] sp) (bd : ∀ (s : Shared) (u : Value), BindsTo s fd ⟨[u], []⟩ [(x, u)])
    (hs : ∀ H : Hp, SqL K H sa (ns.map V.int) → sp [.ref sa] H (fun v _ => v = .bl true) fun _ _ _ => False) :
    codeAny (model P w) callerA (.call (.ref lf) ⟨[.ref sa], []⟩) (fun r s' => r = .ok (.ret (.bool true)) ∧ OldK t.heap s'.heap ∧ s'.os = t.os ∧ AllBare s'.gens) t := by
  have vi := vals_ints iv
  cases hk : K.lookup sa with
  | some ob =>
    have e := KX sa ob hk
    rw [os] at e
    cases e
    refine endFrom lim KX gl bl bb hgen os rm F bd (fun _ => none) (fun _ => .inl rfl) (fun b u z => by cases (show (none : Option HO) = some u from z)) (fun b z => absurd rfl z) (fun z => absurd rfl z) (hs _ (.inr ⟨_, us.toArray, _, hk, rfl, rfl, rfl, ?_, by simpa using vi⟩))
    rw [List.size_toArray, iv.length]; exact sz
  | none =>
    let H : Hp := fun b => if b = sa then some (.frz { cls := .type "list", data := .seq us.toArray } (.lst (ns.map V.int))) else none
    have h1 : H sa = some (.frz { cls := .type "list", data := .seq us.toArray } (.lst (ns.map V.int))) := if_pos rfl
    have h2 : ∀ b, b ≠ sa → H b = none := fun b hb => if_neg hb
    refine endFrom lim KX gl bl bb hgen os rm F bd H (fun b => ?_) (fun b u z => ?_) (fun b z => ?_) (fun _ => hk) (hs H (.inl (.inr ⟨_, h1⟩)))
    · by_cases hb : b = sa
      · subst hb; exact .inr ⟨_, _, h1⟩
      · exact .inl (h2 b hb)
    · by_cases hb : b = sa
      · subst hb
        rw [h1] at z
        cases z
        exact ⟨os, by rw [List.length_map]; exact sz, us, _, vi, os⟩
      · rw [h2 b hb] at z; cases z
    · by_cases hb : b = sa
      · exact hb
      · exact absurd (h2 b hb) z
end
theorem walkG {l : PySem.W.OpenLaw} {n k : Nat} {q : Program} {loose : List Str} {XP : (Str → Option Value) → Heap → Prop} {YP : World → Heap → Prop} {d : DefRec} {x : Str}
    (hn : l.most = some n) (hn2 : n ≤ sizeLine) (hdf : d.params.defaults = []) (rm : Room k callerA)
    (F : ∀ (w : World) (mg : Str → Option Value) (lf : Addr) (h : Heap), YP w h → h.Ns mainGlobals mg → mg d.name = some (.ref lf) →
      ∃ (K : PySem.W.Frag) (fd : FuncData) (sp : Sp), K.In h ∧ (∀ (s : Shared) (u : Value), BindsTo s fd ⟨[u], []⟩ [(x, u)]) ∧
        (∀ (H : Hp) (a : Addr) (ns : List Int), ns.length ≤ n → SqL K H a (ns.map V.int) → sp [.ref a] H (fun v _ => v = .bl true) fun _ _ _ => False) ∧
        ∀ base : Heap, K.In base → base.Ns mainGlobals mg → FnG l.prog w K mg base k lf fd [x] sp) :
    PySem.W.WalkO q loose XP YP l.row.toRowW d [] (fun f vs => PySem.call f vs) := by
  refine Att.attach_call hn hdf fun w s0 s1 mg mb lf o pm cd doc a vs ns Gd Y ho hd hcd hmg hobj hints hlen hg => ?_
  obtain ⟨K, fd, sp, KX, hb, hsp, hF⟩ := F w mg lf _ Y Gd.T.g hmg
  exact endCall Gd.T.nolimit KX Gd.T.g Gd.T.b Gd.T.builtins hg hobj hints (Nat.le_trans hlen hn2) rm hF hb fun H hS => hsp H a ns hlen hS
/-- the law's promise from its meaning -/
theorem sp_law {K : PySem.W.Frag} {fa : FA} {r : List Val → Sto → R Val} {H : Hp} {a : Addr} {ns : List Int} (hS : SqL K H a (ns.map V.int)) (h : ∃ S, r [.scr ns] [] = .ok (.d (.bool true)) S) :
    spR K fa r [.ref a] H (fun v _ => v = .bl true) fun _ _ _ => False := by
  obtain ⟨S, h⟩ := h
  refine ⟨[.scr ns], [], H, fun _ => 0, ⟨Same.refl _, fun n o q => ?_, fun n o q => ?_, fun n m o u q => ?_⟩, .cons ⟨a, rfl, hS⟩ .nil, ?_⟩
  · simp [stGet] at q
  · simp [stGet] at q
  · simp [stGet] at q
  · rw [h]
    intro x F' H' ρ' _ _ rx
    cases (show Rep K F' x (.bool true) from rx)
    rfl
/-! ### the classes of exceptions, by the head's word -/
def xcB (K : PySem.W.Frag) (C : Addr) : Bool :=
  He.eqO (PySem.W.findIn K (.ref C) "many") (some none) && (He.eqO (PySem.W.findIn K (.ref C) "most") (some none) && (PySem.W.keepIn K (.ref C) && (decide (PySem.W.subIn K (.ref C) (.type "BaseException") = some true) && (decide (PySem.W.typeIn K (.ref C) = some (.type "type")) &&
  (He.eqO (PySem.W.findIn K (.ref C) "__getattribute__") (some (some (.builtin "BaseException.__getattribute__"))) && (He.eqO (PySem.W.findIn K (.ref C) "__getattr__") (some none) && (PySem.W.hasDictIn K C &&
  (He.eqO (PySem.W.findIn K (.ref C) "__class__") (some (some (.builtin "object.__class__"))) && (He.eqO (PySem.W.specialIn K (.builtin "object.__class__") "__get__") (some (some (.builtin "getset_descriptor.__get__"))) &&
  (decide (PySem.W.takesIn K (.builtin "object.__class__") = some true) && (decide (PySem.W.mroIn K C (.type "object") = some true) && decide (PySem.W.kitOne K (.ref C) (.type "ValueError") = some true))))))))))))
theorem xcB_ok {K : PySem.W.Frag} {C : Addr} (h : xcB K C = true) : XC K C ∧ PySem.W.kitOne K (.ref C) (.type "ValueError") = some true := by
  obtain ⟨h0, h⟩ := He.ba h
  obtain ⟨h1, h⟩ := He.ba h
  obtain ⟨h2, h⟩ := He.ba h
  obtain ⟨h3, h⟩ := He.ba h
  obtain ⟨h4, h⟩ := He.ba h
  obtain ⟨h5, h⟩ := He.ba h
  obtain ⟨h6, h⟩ := He.ba h
  obtain ⟨h7, h⟩ := He.ba h
  obtain ⟨h8, h⟩ := He.ba h
  obtain ⟨h9, h⟩ := He.ba h
  obtain ⟨h10, h⟩ := He.ba h
  obtain ⟨h11, h12⟩ := He.ba h
  exact ⟨⟨He.eqO_ok h0, He.eqO_ok h1, h2, of_decide_eq_true h3, of_decide_eq_true h4, ⟨He.eqO_ok h5, He.eqO_ok h6, of_decide_eq_true h3, h7, He.eqO_ok h8, He.eqO_ok h9, of_decide_eq_true h10, of_decide_eq_true h11⟩⟩, of_decide_eq_true h12⟩
/-- the class's object, as an __init__ of its own asks -/
def oexB (K : PySem.W.Frag) (C fI : Addr) : Bool := (match K.lookup C with
  | some ⟨.type "type", _, .cls cd, sl⟩ => (match cd.mro, sl.toList with
    | .ref C' :: bm, [_, _, _, _, some (.builtin n), _] => C' == C && n == "ValueError.__new__" && !cd.hasDel && cd.hasDict && PySem.HandSPX.refsVE bm
    | _, _ => false)
  | _ => false) && (He.eqO (PySem.W.findIn K (.ref C) "__setattr__") (some (some (.builtin "object.__setattr__"))) && (He.eqO (PySem.W.findIn K (.ref C) "__init__") (some (some (.ref fI))) && decide (PySem.W.typeIn K (.ref fI) = some (.type "function"))))
structure XIP (K : PySem.W.Frag) (C fI : Addr) : Prop where
  o : OexC K C
  i : PySem.W.findIn K (.ref C) "__init__" = some (some (.ref fI))
  t : PySem.W.typeIn K (.ref fI) = some (.type "function")
theorem oexB_ok {K : PySem.W.Frag} {C fI : Addr} (h : oexB K C fI = true) (x : XC K C) : XIP K C fI := by
  obtain ⟨q, h⟩ := He.ba h
  obtain ⟨h1, h⟩ := He.ba h
  obtain ⟨h2, h3⟩ := He.ba h
  refine ⟨⟨?_, He.eqO_ok h1, x.sub, x.ty, x.kp⟩, He.eqO_ok h2, of_decide_eq_true h3⟩
  split at q
  · rename_i dd cd sl ho
    split at q
    · rename_i C' bm k0 k1 k2 k3 n k5 hm hs
      simp only [Bool.and_eq_true, beq_iff_eq, Bool.not_eq_true'] at q
      obtain ⟨⟨⟨⟨rfl, rfl⟩, hdel⟩, hdd⟩, ht⟩ := q
      obtain ⟨nm, bs, mro, ns, qn, hd, sn, sub, ab, col, del⟩ := cd
      dsimp only at hm hdel hdd
      subst hm hdel hdd
      have hsl : sl = #[k0, k1, k2, k3, some (.builtin "ValueError.__new__"), k5] := by
        obtain ⟨l⟩ := sl
        simp only at hs
        rw [hs]
      subst hsl
      exact ⟨nm, qn, ns, bs, bm, sn, sub, ab, col, dd, k0, k1, k2, k3, k5, ho, ht⟩
    · cases q
  · cases q
def exB (xc : List (Nat × Str)) (sb : List (Nat × Nat × Bool)) (xi : List Nat) (nm : Nat → Str) (K : PySem.W.Frag) : Bool :=
  ((xc.all fun p => He.eqO (PySem.W.nsIn K mainGlobals (nm p.1)) (some (some (.ref (He.fAd K (nm p.1, none))))) && xcB K (He.fAd K (nm p.1, none))) &&
  sb.all fun t => decide (PySem.W.exmOne K (.ref (He.fAd K (nm t.1, none))) (.ref (He.fAd K (nm t.2.1, none))) = some t.2.2) && decide (PySem.W.kitOne K (.ref (He.fAd K (nm t.1, none))) (.ref (He.fAd K (nm t.2.1, none))) = some t.2.2)) &&
  ((xc.all fun p => xi.contains p.1 || PySem.W.excIn K (He.fAd K (nm p.1, none)) He.veBase "ValueError.__new__") && xi.all fun c => oexB K (He.fAd K (nm c, none)) (He.fAd K (nm c, some "__init__")))
theorem exB_ok {K : PySem.W.Frag} {h : Heap} {mg : Str → Option Value} {xc : List (Nat × Str)} {sb : List (Nat × Nat × Bool)} {xi : List Nat} {nm : Nat → Str} (X : K.In h) (G : h.Ns mainGlobals mg) (hb : exB xc sb xi nm K = true) (hn : (xc.all fun p => decide (p.1 < exI) && decide (nm p.1 = p.2)) = true) (hxi : (xi.all fun c => (xc.map (·.1)).contains c) = true) :
    (∀ p ∈ xc, mg p.2 = some (.ref (He.fAd K (nm p.1, none))) ∧ XC K (He.fAd K (nm p.1, none)) ∧ PySem.W.kitOne K (.ref (He.fAd K (nm p.1, none))) (.type "ValueError") = some true) ∧
    (∀ c d b, (c, d, b) ∈ sb → PySem.W.exmOne K (.ref (He.fAd K (nm c, none))) (.ref (He.fAd K (nm d, none))) = some b ∧ PySem.W.kitOne K (.ref (He.fAd K (nm c, none))) (.ref (He.fAd K (nm d, none))) = some b) ∧
    (∀ p ∈ xc, xi.contains p.1 = false → PySem.W.excIn K (He.fAd K (nm p.1, none)) He.veBase "ValueError.__new__" = true) ∧
    ∀ c ∈ xi, XC K (He.fAd K (nm c, none)) ∧ XIP K (He.fAd K (nm c, none)) (He.fAd K (nm c, some "__init__")) := by
  obtain ⟨h12, h34⟩ := He.ba hb
  obtain ⟨h1, h2⟩ := He.ba h12
  obtain ⟨h3, h4⟩ := He.ba h34
  have key : ∀ p ∈ xc, XC K (He.fAd K (nm p.1, none)) ∧ PySem.W.kitOne K (.ref (He.fAd K (nm p.1, none))) (.type "ValueError") = some true := fun p hp => by
    obtain ⟨z1, z2⟩ := He.ba (List.all_eq_true.mp h1 p hp)
    exact xcB_ok z2
  refine ⟨fun p hp => ?_, fun c d b hm => ?_, fun p hp hx => ?_, fun c hc => ?_⟩
  · obtain ⟨z1, z2⟩ := He.ba (List.all_eq_true.mp h1 p hp)
    have z3 := List.all_eq_true.mp hn p hp
    rw [Bool.and_eq_true, decide_eq_true_eq, decide_eq_true_eq] at z3
    have := PySem.W.mg_of X G (He.eqO_ok z1)
    have hk := key p hp
    rw [z3.2] at this hk ⊢
    exact ⟨this, hk⟩
  · obtain ⟨z1, z2⟩ := He.ba (List.all_eq_true.mp h2 _ hm)
    exact ⟨of_decide_eq_true z1, of_decide_eq_true z2⟩
  · have := List.all_eq_true.mp h3 p hp
    rw [hx] at this
    simpa using this
  · have hcx := List.all_eq_true.mp hxi c hc
    rw [List.contains_iff_mem] at hcx
    obtain ⟨p, hp, rfl⟩ := List.mem_map.mp hcx
    have hk := (key p hp).1
    exact ⟨hk, oexB_ok (List.all_eq_true.mp h4 _ hc) hk⟩
end MS

-- MsWp
/-! Rules for the interpreter: what is to be shown so that a text ends well. -/
namespace MS
open PySem

abbrev XP := Exc → Sto → Prop
def Wp {α : Type} (r : R α) (X : XP) (Q : α → Sto → Prop) : Prop := match r with
  | .ok v S => Q v S
  | .exc e S => X e S
  | .stuck => False
structure En where
  nx : MS.Env → Sto → Prop := fun _ _ => False
  rt : Val → Sto → Prop := fun _ _ => False
  bk : MS.Env → Sto → Prop := fun _ _ => False
  ct : MS.Env → Sto → Prop := fun _ _ => False
  ex : Exc → MS.Env → Sto → Prop := fun _ _ _ => False
@[reducible] def En.nxt (D : En) (f : MS.Env → Sto → Prop) : En := { nx := f, rt := D.rt, bk := D.bk, ct := D.ct, ex := D.ex }
@[reducible] def En.turn (D : En) (I : MS.Env → Sto → Prop) (S1 : Sto) (l : List Nat) : En := { nx := I, ct := I, bk := fun env S => D.nx env (unlockS S1 S l), rt := fun v S => D.rt v (unlockS S1 S l), ex := fun e env S => D.ex e env (unlockS S1 S l) }
@[reducible] def En.lap (D : En) (I : MS.Env → Sto → Prop) : En := { nx := I, ct := I, bk := D.nx, rt := D.rt, ex := D.ex }
@[reducible] def En.fn (S : Sto) (X : XP) (Q : Val → Sto → Prop) : En := { nx := fun _ S' => Q (.d .none) (cutS S.length (.d .none) S'), rt := fun v S' => Q v (cutS S.length v S'), ex := fun e _ S' => X e S' }
def Ws (r : RS) (D : En) : Prop := match r with
  | .nx env S => D.nx env S
  | .ret v S => D.rt v S
  | .brk env S => D.bk env S
  | .cnt env S => D.ct env S
  | .exc e env S => D.ex e env S
  | .stuck => False
abbrev noX : XP := fun _ _ => False

theorem decT_len : ∀ {es : List (PyData × PyData)} {r : List (List Int × Val)}, decT es = some r → r.length = es.length
  | [], r, h => by simp only [decT] at h; cases h; rfl
  | (.tuple ds, x) :: es, r, h => by
    simp only [decT] at h
    cases q : allI ds with
    | none => rw [q] at h; cases h
    | some ks =>
      rw [q] at h
      cases q2 : decT es with
      | none => rw [q2] at h; cases h
      | some r2 => rw [q2] at h; cases h; simp [decT_len q2]
  | (.none, _) :: _, _, h => by simp [decT] at h
  | (.bool _, _) :: _, _, h => by simp [decT] at h
  | (.int _, _) :: _, _, h => by simp [decT] at h
  | (.str _, _) :: _, _, h => by simp [decT] at h
  | (.list _, _) :: _, _, h => by simp [decT] at h
  | (.dict _, _) :: _, _, h => by simp [decT] at h
theorem dlenV_of {S : Sto} {x : Val} {es : List (List Int × Val)} (h : dctV S x = some es) : dlenV S x = some es.length := by
  have other : dlenV S x = (dctV S x).map (·.length) → dlenV S x = some es.length := fun z => by rw [z, h]; rfl
  cases x with
  | d d =>
    cases d with
    | dict ds =>
      have h' : decT ds = some es := h
      show some ds.length = _
      rw [decT_len h']
    | _ => exact other rfl
  | _ => exact other rfl
theorem Wp.ok {α : Type} {r : R α} {v : α} {S : Sto} (h : Wp r noX fun v' S' => v' = v ∧ S' = S) : r = .ok v S := by
  cases r with
  | ok v' S' => obtain ⟨rfl, rfl⟩ := h; rfl
  | exc _ _ => exact h.elim
  | stuck => exact h.elim
theorem Wp.ex {α : Type} {r : R α} {Q : α → Sto → Prop} (h : Wp r noX Q) : ∃ v S, r = .ok v S ∧ Q v S := by
  cases r with
  | ok v' S' => exact ⟨_, _, rfl, h⟩
  | exc _ _ => exact h.elim
  | stuck => exact h.elim
theorem Wp.of {α : Type} {r : R α} {X : XP} {Q : α → Sto → Prop} {v : α} {S : Sto} (h : r = .ok v S) (q : Q v S) : Wp r X Q := by rw [h]; exact q
theorem Wp.imp {α : Type} {r : R α} {X : XP} {Q Q' : α → Sto → Prop} (h : Wp r X Q) (k : ∀ v S, Q v S → Q' v S) : Wp r X Q' := by
  cases r with
  | ok v S => exact k _ _ h
  | exc _ _ => exact h
  | stuck => exact h
theorem Wp.imp2 {α : Type} {r : R α} {X X' : XP} {Q Q' : α → Sto → Prop} (h : Wp r X Q) (k : ∀ v S, Q v S → Q' v S) (kx : ∀ e S, X e S → X' e S) : Wp r X' Q' := by
  cases r with
  | ok v S => exact k _ _ h
  | exc _ _ => exact kx _ _ h
  | stuck => exact h
theorem wp_bind {α β : Type} {r : R α} {f : α → Sto → R β} {X : XP} {Q : β → Sto → Prop} (h : Wp r X fun v S => Wp (f v S) X Q) : Wp (r.bind f) X Q := by
  cases r with
  | ok v S => exact h
  | exc _ _ => exact h
  | stuck => exact h
theorem wp_ok {α : Type} {v : α} {S : Sto} {X : XP} {Q : α → Sto → Prop} (h : Q v S) : Wp (.ok v S) X Q := h
theorem wp_ofO {α : Type} {o : Option α} {v : α} {S : Sto} {X : XP} {Q : α → Sto → Prop} (e : o = some v) (h : Q v S) : Wp (R.ofO o S) X Q := by rw [e]; exact h
section
variable {G : List D} {C : Runner} {env : MS.Env} {S : Sto} {X : XP} {Q : Val → Sto → Prop}
theorem wp_var {i : Nat} {v : Val} (e : lookE env i = some v) (h : Q v S) : Wp (evE G C (.var i) env S) X Q := by simp only [evE]; exact wp_ofO e h
theorem wp_glob {g : Nat} {d : D} (e : litI G g = some d) (h : Q (.d d) S) : Wp (evE G C (.glob g) env S) X Q := by simp only [evE, e]; exact h
theorem wp_none (h : Q (.d .none) S) : Wp (evE G C .none env S) X Q := by simp only [evE]; exact h
theorem wp_bool {b : Bool} (h : Q (.d (.bool b)) S) : Wp (evE G C (.bool b) env S) X Q := by simp only [evE]; exact h
theorem wp_int {b : Int} (h : Q (.d (.int b)) S) : Wp (evE G C (.int b) env S) X Q := by simp only [evE]; exact h
theorem wp_str {b : Str} (h : Q (.d (.str b)) S) : Wp (evE G C (.str b) env S) X Q := by simp only [evE]; exact h
theorem wp_tup {es : Es} (h : Wp (evEs G C es env S) X fun vs S1 => ∃ ds, pureVs vs = some ds ∧ Q (.d (.tuple ds)) S1) : Wp (evE G C (.tup es) env S) X Q := by
  simp only [evE]
  refine wp_bind (h.imp fun vs S1 ⟨ds, e, q⟩ => ?_)
  rw [e]; exact q
theorem wp_lst {es : Es} (h : Wp (evEs G C es env S) X fun vs S1 => ∃ ds, pureVs vs = some ds ∧ Q (.d (.list ds)) S1) : Wp (evE G C (.lst es) env S) X Q := by
  simp only [evE]
  refine wp_bind (h.imp fun vs S1 ⟨ds, e, q⟩ => ?_)
  rw [e]; exact q
theorem wp_lstN {es : Es} (h : Wp (evEs G C es env S) X fun vs S1 => Q (.ref S1.length) (S1 ++ [some (.lst vs)])) : Wp (evE G C (.lstN es) env S) X Q := by
  simp only [evE]; exact wp_bind h
theorem wp_nil {Q : List Val → Sto → Prop} (h : Q [] S) : Wp (evEs G C .nil env S) X Q := by simp only [evEs]; exact h
theorem wp_cons {e : E} {es : Es} {Q : List Val → Sto → Prop} (h : Wp (evE G C e env S) X fun v S1 => Wp (evEs G C es env S1) X fun vs S2 => Q (v :: vs) S2) : Wp (evEs G C (.cons e es) env S) X Q := by
  simp only [evEs]
  exact wp_bind (h.imp fun v S1 q => wp_bind q)
theorem wp_bin {o : BOp} {a b : E} (h : Wp (evE G C a env S) X fun x S1 => Wp (evE G C b env S1) X fun y S2 => ∃ u v w, view S2 x = some u ∧ view S2 y = some v ∧ binD o u v = some w ∧ Q (.d w) S2) : Wp (evE G C (.bin o a b) env S) X Q := by
  simp only [evE]
  refine wp_bind (h.imp fun x S1 q => wp_bind (q.imp fun y S2 ⟨u, v, w, e1, e2, e3, q⟩ => ?_))
  simp only [e1, e2, Option.bind_some, e3]; exact q
theorem wp_neg {a : E} (h : Wp (evE G C a env S) X fun x S1 => ∃ i, x = .d (.int i) ∧ Q (.d (.int (-i))) S1) : Wp (evE G C (.neg a) env S) X Q := by
  simp only [evE]
  refine wp_bind (h.imp fun x S1 ⟨i, e, q⟩ => ?_)
  subst e; exact q
theorem wp_not {a : E} (h : Wp (evE G C a env S) X fun x S1 => ∃ b, truthV S1 x = some b ∧ Q (.d (.bool (!b))) S1) : Wp (evE G C (.not a) env S) X Q := by
  simp only [evE]
  refine wp_bind (h.imp fun x S1 ⟨i, e, q⟩ => ?_)
  rw [e]; exact q
theorem wp_bools {k : Bool} {es : Es} (h : Wp (evB G C k es env S) X Q) : Wp (evE G C (.bools k es) env S) X Q := by simp only [evE]; exact h
theorem wp_b1 {k : Bool} {e : E} (h : Wp (evE G C e env S) X Q) : Wp (evB G C k (.cons e .nil) env S) X Q := by simp only [evB]; exact h
theorem wp_b2 {k : Bool} {e e2 : E} {es : Es} (h : Wp (evE G C e env S) X fun v S1 => ∃ b, truthV S1 v = some b ∧ if b = k then Wp (evB G C k (.cons e2 es) env S1) X Q else Q v S1) : Wp (evB G C k (.cons e (.cons e2 es)) env S) X Q := by
  rw [evB]
  · refine wp_bind (h.imp fun v S1 ⟨b, e, q⟩ => ?_)
    rw [e]
    simp only [R.ofO_some, R.bind_ok]
    split
    · rename_i hb; rw [if_pos hb] at q; exact q
    · rename_i hb; rw [if_neg hb] at q; exact q
  · intro h; cases h
theorem wp_cmp {o : COp} {a b : E} (h : Wp (evE G C a env S) X fun x S1 => Wp (evE G C b env S1) X fun y S2 => ∃ u v w, view S2 x = some u ∧ view S2 y = some v ∧ cmpD o u v = some w ∧ Q (.d (.bool w)) S2) : Wp (evE G C (.cmp o a b) env S) X Q := by
  simp only [evE]
  refine wp_bind (h.imp fun x S1 q => wp_bind (q.imp fun y S2 ⟨u, v, w, e1, e2, e3, q⟩ => ?_))
  simp only [e1, e2, Option.bind_some, e3]; exact q
theorem wp_chain {o p : COp} {a b c : E} (h : Wp (evE G C a env S) X fun x S1 => Wp (evE G C b env S1) X fun y S2 => ∃ u v w, view S2 x = some u ∧ view S2 y = some v ∧ cmpD o u v = some w ∧
    if w then Wp (evE G C c env S2) X fun z S4 => ∃ v' u' w', view S4 y = some v' ∧ view S4 z = some u' ∧ cmpD p v' u' = some w' ∧ Q (.d (.bool w')) S4 else Q (.d (.bool false)) S2) : Wp (evE G C (.chain o p a b c) env S) X Q := by
  simp only [evE]
  refine wp_bind (h.imp fun x S1 q => wp_bind (q.imp fun y S2 ⟨u, v, w, e1, e2, e3, q⟩ => ?_))
  simp only [e1, e2, Option.bind_some, e3, R.ofO_some, R.bind_ok]
  cases w with
  | false => exact q
  | true =>
    simp only [if_true] at q ⊢
    refine wp_bind (q.imp fun z S4 ⟨v', u', w', f1, f2, f3, q⟩ => ?_)
    simp only [f1, f2, Option.bind_some, f3]; exact q
theorem wp_ife {c a b : E} (h : Wp (evE G C c env S) X fun v S1 => ∃ k, truthV S1 v = some k ∧ if k then Wp (evE G C a env S1) X Q else Wp (evE G C b env S1) X Q) : Wp (evE G C (.ife c a b) env S) X Q := by
  simp only [evE]
  refine wp_bind (h.imp fun v S1 ⟨k, e, q⟩ => ?_)
  rw [e]
  simp only [R.ofO_some, R.bind_ok]
  cases k <;> exact q
theorem wp_ix {a b : E} (h : Wp (evE G C a env S) X fun x S1 => Wp (evE G C b env S1) X fun y S2 => ∃ i w, y = .d (.int i) ∧ ixV S2 x (.int i) = some w ∧ Q w S2) : Wp (evE G C (.ix a b) env S) X Q := by
  simp only [evE]
  refine wp_bind (h.imp fun x S1 q => wp_bind (q.imp fun y S2 ⟨i, w, e1, e2, q⟩ => ?_))
  subst e1
  simp only [e2]; exact q
theorem wp_no {Q : Option Int → Sto → Prop} (h : Q none S) : Wp (evO G C .no env S) X Q := by simp only [evO]; exact h
theorem wp_yes {e : E} {Q : Option Int → Sto → Prop} (h : Wp (evE G C e env S) X fun v S1 => ∃ i, v = .d (.int i) ∧ Q (some i) S1) : Wp (evO G C (.yes e) env S) X Q := by
  simp only [evO]
  refine wp_bind (h.imp fun x S1 ⟨i, e, q⟩ => ?_)
  subst e; exact q
theorem wp_sl {a : E} {lo hi : Oe} (h : Wp (evE G C a env S) X fun x S1 => Wp (evO G C lo env S1) X fun l S2 => Wp (evO G C hi env S2) X fun u S3 => ∃ w, slV S3 x l u = some w ∧ Q (.d w) S3) : Wp (evE G C (.sl a lo hi) env S) X Q := by
  simp only [evE]
  refine wp_bind (h.imp fun x S1 q => wp_bind (q.imp fun l S2 q => wp_bind (q.imp fun u S3 ⟨w, e, q⟩ => ?_)))
  rw [e]; exact q
theorem wp_call {f : Nat} {es : Es} (h : Wp (evEs G C es env S) X fun vs S1 => Wp (C f vs S1) X Q) : Wp (evE G C (.call f es) env S) X Q := by
  simp only [evE]; exact wp_bind h
theorem wp_bi {b : Bi} {a : E} (h : Wp (evE G C a env S) X fun x S1 => ∃ w, biV S1 b x = some w ∧ Q (.d w) S1) : Wp (evE G C (.bi b a) env S) X Q := by
  simp only [evE]
  refine wp_bind (h.imp fun x S1 ⟨w, e, q⟩ => ?_)
  rw [e]; exact q
theorem wp_isi {a : E} {ts : List Ty} (h : Wp (evE G C a env S) X fun x S1 => ∃ w, isTyV S1 ts x = some w ∧ Q (.d (.bool w)) S1) : Wp (evE G C (.isi a ts) env S) X Q := by
  simp only [evE]
  refine wp_bind (h.imp fun x S1 ⟨w, e, q⟩ => ?_)
  rw [e]; exact q
theorem wp_xfld {i w : Nat} {ee : Exc} {d : D} (e : lookX env i = some ee) (h2 : ee.args[w]? = some d) (h : Q (.d d) S) : Wp (evE G C (.xfld i w) env S) X Q := by
  simp only [evE]
  refine wp_ofO (v := .d d) ?_ h
  rw [e, Option.bind_some, h2]; rfl
theorem wp_isx {i : Nat} {yes no : List Nat} {d : Option Nat} {ee : Exc} {b : Bool} (e : lookX env i = some ee) (hb : (if yes.contains ee.cls then some true else if no.contains ee.cls then some false else none) = some b) (h : Q (.d (.bool b)) S) : Wp (evE G C (.isx i yes no d) env S) X Q := by
  simp only [evE]
  refine wp_ofO (v := .d (.bool b)) ?_ h
  rw [e, Option.bind_some]
  split at hb
  · rename_i z; rw [if_pos z]; cases hb; rfl
  · rename_i z
    rw [if_neg z]
    split at hb
    · rename_i z; rw [if_pos z]; cases hb; rfl
    · cases hb
/-- a further operation's end -/
@[irreducible] def XV (k : XOp) (x : Val) (vs : List Val) (S : Sto) (X : XP) (Q : Val → Sto → Prop) : Prop := Wp (xopV k x vs S) X Q
/-- a call with values seen as data -/
@[irreducible] def CallOK (C : Runner) (f : Nat) (vs : List Val) (S1 : Sto) (Q : Val → Sto → Prop) : Prop := ∃ ds x S2, allO (vs.map (deepV S1 3)) = some ds ∧ C f (ds.map Val.d) [] = .ok (.d x) S2 ∧ immB x = true ∧ Q (.d x) S1
theorem wp_callP {f : Nat} {es : Es} (h : Wp (evEs G C es env S) X fun vs S1 => CallOK C f vs S1 Q) : Wp (evE G C (.callP f es) env S) X Q := by
  simp only [evE]
  refine wp_bind (h.imp fun vs S1 hc => ?_)
  unfold CallOK at hc
  obtain ⟨ds, x, S2, e1, e2, e3, q⟩ := hc
  unfold callPV
  rw [e1]
  dsimp only
  rw [e2]
  dsimp only
  rw [if_pos e3]
  exact q
theorem wp_mm {k : Bool} {a b : E} (h : Wp (evE G C a env S) X fun x S1 => Wp (evE G C b env S1) X fun y S2 => ∃ i j, x = .d (.int i) ∧ y = .d (.int j) ∧ Q (.d (.int (if k then (if j > i then j else i) else (if j < i then j else i)))) S2) : Wp (evE G C (.mm k a b) env S) X Q := by
  simp only [evE]
  refine wp_bind (h.imp fun x S1 q => wp_bind (q.imp fun y S2 ⟨i, j, e1, e2, q'⟩ => ?_))
  subst e1; subst e2; exact q'
/-- what is sorted: a list, or a tuple without set(..) -/
def seqV (st : Bool) (S : Sto) (x : Val) : Option (List D) := match view S x with
  | some (.list xs) => some xs
  | some (.tuple xs) => some xs
  | _ => none
theorem seqV_tup {st : Bool} {S : Sto} {x : Val} {xs : List D} (h : view S x = some (.tuple xs)) : seqV st S x = some xs := by unfold seqV; rw [h]
theorem seqV_list {st : Bool} {S : Sto} {x : Val} {xs : List D} (h : view S x = some (.list xs)) : seqV st S x = some xs := by unfold seqV; rw [h]
theorem srtV_of {st nw : Bool} {S : Sto} {x : Val} {xs ys : List D} (h : seqV st S x = some xs) (e : sortX st xs = some ys) : srtV st nw S x = if nw then .ok (.ref S.length) (S ++ [some (.lst (ys.map Val.d))]) else .ok (.d (.list ys)) S := by
  unfold seqV at h
  unfold srtV
  cases q : view S x with
  | none => rw [q] at h; cases h
  | some d =>
    rw [q] at h
    cases d with
    | list l => cases h; dsimp only; rw [e]
    | tuple l => cases h; dsimp only; rw [e]
    | _ => cases h
theorem wp_srtD {st : Bool} {a : E} (h : Wp (evE G C a env S) X fun x S1 => ∃ xs ys, seqV st S1 x = some xs ∧ sortX st xs = some ys ∧ Q (.d (.list ys)) S1) : Wp (evE G C (.srt st false a) env S) X Q := by
  simp only [evE]
  refine wp_bind (h.imp fun x S1 ⟨xs, ys, e1, e2, q⟩ => ?_)
  rw [srtV_of e1 e2]
  exact q
theorem wp_srtN {st : Bool} {a : E} (h : Wp (evE G C a env S) X fun x S1 => ∃ xs ys, seqV st S1 x = some xs ∧ sortX st xs = some ys ∧ Q (.ref S1.length) (S1 ++ [some (.lst (ys.map Val.d))])) : Wp (evE G C (.srt st true a) env S) X Q := by
  simp only [evE]
  refine wp_bind (h.imp fun x S1 ⟨xs, ys, e1, e2, q⟩ => ?_)
  rw [srtV_of e1 e2]
  exact q
theorem wp_dget {a k : E} (h : Wp (evE G C a env S) X fun x S1 => Wp (evE G C k env S1) X fun y S2 => ∃ es ks v, dctV S2 x = some es ∧ keyV y = some ks ∧ lookD es ks = some v ∧ Q v S2) : Wp (evE G C (.dget a k) env S) X Q := by
  simp only [evE]
  refine wp_bind (h.imp fun x S1 q => wp_bind (q.imp fun y S2 ⟨es, ks, v, e1, e2, e3, q'⟩ => ?_))
  rw [e1, e2]
  simp only [Option.bind_some]
  rw [e3]
  exact q'
theorem wp_din {neg : Bool} {k a : E} (h : Wp (evE G C k env S) X fun y S1 => Wp (evE G C a env S1) X fun x S2 => ∃ es ks, dctV S2 x = some es ∧ keyV y = some ks ∧ Q (.d (.bool (if neg then !(lookD es ks).isSome else (lookD es ks).isSome))) S2) : Wp (evE G C (.din neg k a) env S) X Q := by
  simp only [evE]
  refine wp_bind (h.imp fun x S1 q => wp_bind (q.imp fun y S2 ⟨es, ks, e1, e2, q'⟩ => ?_))
  rw [e1, e2]
  exact q'
theorem wp_dgetZ {a k z : E} (h : Wp (evE G C a env S) X fun x S1 => (dctV S1 x).isSome = true ∧ Wp (evE G C k env S1) X fun y S2 => Wp (evE G C z env S2) X fun w S3 => ∃ es ks, dctV S3 x = some es ∧ keyV y = some ks ∧ Q ((lookD es ks).getD w) S3) : Wp (evE G C (.dgetZ a k z) env S) X Q := by
  simp only [evE]
  refine wp_bind (h.imp fun x S1 ⟨h1, q⟩ => ?_)
  rw [if_pos h1]
  refine wp_bind (q.imp fun y S2 q => wp_bind (q.imp fun w S3 ⟨es, ks, e1, e2, q'⟩ => ?_))
  rw [e1, e2]
  exact q'
theorem wp_getI {a k z : E} (h : Wp (evE G C a env S) X fun x S1 => isDic x = true ∧ Wp (evE G C k env S1) X fun y S2 => Wp (evE G C z env S2) X fun w S3 => ∃ r, getIV x y w = some r ∧ Q r S3) : Wp (evE G C (.getI a k z) env S) X Q := by
  simp only [evE]
  refine wp_bind (h.imp fun x S1 ⟨h1, q⟩ => ?_)
  rw [if_pos h1]
  refine wp_bind (q.imp fun y S2 q => wp_bind (q.imp fun w S3 ⟨r, e1, q'⟩ => ?_))
  rw [e1]
  exact q'
theorem wp_dict2 {a b c d : E} (h : Wp (evE G C a env S) X fun x S1 => Wp (evE G C b env S1) X fun y S2 => Wp (evE G C c env S2) X fun z S3 => Wp (evE G C d env S3) X fun w S4 => ∃ r, dict2V x y z w = some r ∧ Q r S4) : Wp (evE G C (.dict2 a b c d) env S) X Q := by
  simp only [evE]
  refine wp_bind (h.imp fun x S1 q => wp_bind (q.imp fun y S2 q => wp_bind (q.imp fun z S3 q => wp_bind (q.imp fun w S4 ⟨r, e1, q'⟩ => ?_))))
  rw [e1]
  exact q'
theorem wp_dlen {a : E} (h : Wp (evE G C a env S) X fun x S1 => ∃ es, dctV S1 x = some es ∧ Q (.d (.int es.length)) S1) : Wp (evE G C (.dlen a) env S) X Q := by
  simp only [evE]
  refine wp_bind (h.imp fun x S1 ⟨es, e1, q'⟩ => ?_)
  rw [dlenV_of e1]
  exact q'
theorem wp_dlenK {a : E} (h : Wp (evE G C a env S) X fun x S1 => ∃ es, x = .d (.dict es) ∧ Q (.d (.int es.length)) S1) : Wp (evE G C (.dlen a) env S) X Q := by
  simp only [evE]
  refine wp_bind (h.imp fun x S1 ⟨es, e1, q'⟩ => ?_)
  subst e1
  exact q'
theorem wp_dcpy {a : E} (h : Wp (evE G C a env S) X fun x S1 => ∃ es, dctV S1 x = some es ∧ (es.all (fun p => smallK p.1) && decide (es.length ≤ 64)) = true ∧ Q (.ref S1.length) (S1 ++ [some (.dct es)])) : Wp (evE G C (.dcpy a) env S) X Q := by
  simp only [evE]
  refine wp_bind (h.imp fun x S1 ⟨es, e1, e2, q'⟩ => ?_)
  unfold dcpyV
  rw [e1]
  dsimp only
  rw [if_pos e2]
  exact q'
theorem wp_klst {a : E} (h : Wp (evE G C a env S) X fun x S1 => ∃ e es, dctV S1 x = some (e :: es) ∧ Q (.d (.list ((e :: es).map fun p => .tuple (p.1.map PyData.int)))) S1) : Wp (evE G C (.klst a) env S) X Q := by
  simp only [evE]
  refine wp_bind (h.imp fun x S1 ⟨e, es, e1, q'⟩ => ?_)
  unfold klstV
  rw [e1]
  exact q'
theorem wp_klstR {a : E} (h : Wp (evE G C a env S) X fun x S1 => ∃ n es, x = .ref n ∧ stGet S1 n = some (.dct es) ∧ Q (.d (.list (es.map fun p => .tuple (p.1.map PyData.int)))) S1) : Wp (evE G C (.klst a) env S) X Q := by
  simp only [evE]
  refine wp_bind (h.imp fun x S1 ⟨n, es, e0, e1, q'⟩ => ?_)
  subst e0
  unfold klstV
  simp only [dctV, e1, Option.bind_some, isDat, Bool.and_false]
  exact q'
theorem wp_dctN (h : Q (.ref S.length) (S ++ [some (.dct [])])) : Wp (evE G C .dctN env S) X Q := by simp only [evE]; exact h
theorem wp_newc {a : E} (h : Wp (evE G C a env S) X fun v S1 => ∃ ys, v = .d (.list ys) ∧ Q (.ref S1.length) (S1 ++ [some (.lst (ys.map Val.d))])) : Wp (evE G C (.newc a) env S) X Q := by
  simp only [evE]
  refine wp_bind (h.imp fun x S1 ⟨ys, e1, q⟩ => ?_)
  subst e1; exact q
theorem wp_rev {a : E} (h : Wp (evE G C a env S) X fun v S1 => ∃ w, revV v = some w ∧ Q w S1) : Wp (evE G C (.rev a) env S) X Q := by
  simp only [evE]
  refine wp_bind (h.imp fun x S1 ⟨w, e1, q⟩ => ?_)
  rw [e1]; exact q
theorem wp_srtP {a : E} (h : Wp (evE G C a env S) X fun x S1 => ∃ xs ps, view S1 x = some (.list xs) ∧ allO (xs.map isPr) = some ps ∧ ps.length < 64 ∧ Q (.d (.list ((srtP ps).map prD))) S1) : Wp (evE G C (.srtP a) env S) X Q := by
  simp only [evE]
  refine wp_bind (h.imp fun x S1 ⟨xs, ps, e1, e2, e3, q⟩ => ?_)
  unfold srtPV
  rw [e1]
  dsimp only
  rw [e2]
  dsimp only
  rw [if_pos e3]
  exact q
theorem wp_callL {fs : List Nat} {i : E} {es : Es} (h : Wp (evE G C i env S) X fun y S1 => ∃ f, pickF fs y = some f ∧ Wp (evEs G C es env S1) X fun vs S2 => Wp (C f vs S2) X Q) : Wp (evE G C (.callL fs i es) env S) X Q := by
  simp only [evE]
  refine wp_bind (h.imp fun y S1 ⟨f, e1, q⟩ => ?_)
  rw [e1]
  dsimp only
  exact wp_bind q
theorem wp_xop {k : XOp} {a : E} {es : Es} (h : Wp (evE G C a env S) X fun x S1 => xopPre k S1 x = true ∧ Wp (evEs G C es env S1) X fun vs S2 => XV k x vs S2 X Q) : Wp (evE G C (.xop k a es) env S) X Q := by
  simp only [evE]
  refine wp_bind (h.imp fun x S1 ⟨h1, q⟩ => ?_)
  rw [if_pos h1]
  exact wp_bind (q.imp fun vs S2 q2 => by unfold XV at q2; exact q2)
theorem xv_lzip {x y w : Val} (e : lzV x y = some w) (h : Q w S) : XV .lzip x [y] S X Q := by
  unfold XV
  simp only [xopV, e]; exact h
theorem wp_lenSet {a : E} (h : Wp (evE G C a env S) X fun x S1 => ∃ xs ns, view S1 x = some (.list xs) ∧ allI xs = some ns ∧ ns.length ≤ 4000 ∧ Q (.d (.int (firsts ns).length)) S1) : Wp (evE G C (.lenSet a) env S) X Q := by
  simp only [evE]
  refine wp_bind (h.imp fun x S1 ⟨xs, ns, e1, e2, e3, q⟩ => ?_)
  simp only [e1, e2, Option.bind_some, e3, if_true]; exact q
theorem wp_dictOf {a : E} (h : Wp (evE G C a env S) X fun x S1 => ∃ xs kvs, view S1 x = some (.list xs) ∧ allPairs xs = some kvs ∧ Q (.d (.dict (mergeI kvs))) S1) : Wp (evE G C (.dictOf a) env S) X Q := by
  simp only [evE]
  refine wp_bind (h.imp fun x S1 ⟨xs, ns, e1, e2, q⟩ => ?_)
  simp only [e1, e2, Option.map_some]; exact q
theorem wp_dict1 {a b : E} (h : Wp (evE G C a env S) X fun x S1 => Wp (evE G C b env S1) X fun y S2 => ∃ i z, x = .d (.int i) ∧ y = .d z ∧ Q (.d (.dict [(.int i, z)])) S2) : Wp (evE G C (.dict1 a b) env S) X Q := by
  simp only [evE]
  refine wp_bind (h.imp fun x S1 q => wp_bind (q.imp fun y S2 ⟨i, z, e1, e2, q'⟩ => ?_))
  subst e1; subst e2; exact q'
theorem wp_dict0 (h : Q (.d (.dict [])) S) : Wp (evE G C .dict0 env S) X Q := by simp only [evE]; exact h
theorem wp_fz {a : E} (h : Wp (evE G C a env S) X fun v S1 => Wp (fzV v S1) X Q) : Wp (evE G C (.fz a) env S) X Q := by
  simp only [evE]; exact wp_bind h
theorem wp_fzR {n : Nat} {vs : List Val} {ds : List D} (e : stGet S n = some (.lst vs)) (e2 : pureVs vs = some ds) (h : Q (.d (.list ds)) (S.set n none)) : Wp (fzV (.ref n) S) X Q := by
  simp only [fzV, e, e2]; exact h
theorem wp_fzT {n : Nat} {es : List (List Int × Val)} {p : List (List Int × PyData) × Sto} (e : stGet S n = some (.dct es)) (e2 : fzVals es S = some p) (h : Q (.d (.dict (encT p.1))) (p.2.set n none)) : Wp (fzV (.ref n) S) X Q := by
  simp only [fzV, e, e2]; exact h
theorem wp_fzK {n : Nat} {es : List (Int × Val)} {ds : List (Int × PyData)} (e : stGet S n = some (.kv 0 es)) (e2 : allO (es.map itemK) = some ds) (h : Q (.d (.dict (encK ds))) (S.set n none)) : Wp (fzV (.ref n) S) X Q := by
  simp only [fzV, e, e2]; exact h
theorem wp_newK (h : Q (.ref S.length) (S ++ [some (.kv 0 [])])) : Wp (evE G C (.newc .dict0) env S) X Q := by
  simp only [evE]; exact h
theorem xv_kget {es : List (PyData × PyData)} {k : Int} {d : PyData} (e : lookI es k = some d) (h : Q (.d d) S) : XV .kget (.d (.dict es)) [.d (.int k)] S X Q := by
  unfold XV
  simp only [xopV, kgetV, e]; exact h
theorem xv_dprs {x : Val} {ds : List PyData} {ps : List (List Int × Val)} (e1 : view S x = some (.list ds)) (e2 : allO (ds.map pairP) = some ps) (h : Q (.ref S.length) (S ++ [some (.dct (putsD [] ps))])) : XV .dprs x [] S X Q := by
  unfold XV
  simp only [xopV, prsV, e1, e2]; exact h
theorem xv_lcnt {ds : List PyData} {bs : List Bool} {b : Bool} (e : trusD ds = some bs) (h : Q (.d (.int (bs.count b : Nat))) S) : XV .lcnt (.d (.list ds)) [.d (.bool b)] S X Q := by
  unfold XV
  simp only [xopV, lcntV, e, Option.map_some]; exact h
theorem xv_lidx {ds : List PyData} {bs : List Bool} {b : Bool} (e : trusD ds = some bs) (e2 : bs.contains b = true) (h : Q (.d (.int (bs.idxOf b : Nat))) S) : XV .lidx (.d (.list ds)) [.d (.bool b)] S X Q := by
  unfold XV
  simp only [xopV, lidxV, e, Option.bind_some, e2, if_true]; exact h
theorem xv_dzip {ds es : List PyData} {ks : List (List Int)} (e2 : allO (ds.map tupK) = some ks) (h : Q (.ref S.length) (S ++ [some (.dct (putsD [] (ks.zip (es.map Val.d))))])) : XV .dzip (.d (.list ds)) [.d (.tuple es)] S X Q := by
  unfold XV
  simp only [xopV, dzV, e2]; exact h
theorem xv_ditm {x : Val} {es : List (List Int × Val)} {ds : List PyData} (e1 : dctV S x = some es) (e2 : allO (es.map itemD) = some ds) (h : Q (.d (.list ds)) S) : XV .ditm x [] S X Q := by
  unfold XV
  simp only [xopV, itmV, e1, Option.bind_some, e2, Option.map_some]; exact h
theorem xv_upd {n : Nat} {d : PyData} {es more : List (List Int × Val)} (e1 : stGet S n = some (.dct es)) (e2 : dctV S (.d d) = some more) (e3 : (more.all (fun p => smallK p.1) && decide (more.length ≤ 64) && decide (es.length ≤ 64)) = true) (h : Q (.d .none) (S.set n (some (.dct (putsD es more))))) : XV .upd (.ref n) [.d d] S X Q := by
  unfold XV
  simp only [xopV, updV, e1, e2, if_pos e3]; exact h
theorem xv_sdefO {n : Nat} {y v : Val} {ks : List Int} {es : List (List Int × Val)} (e1 : keyV y = some ks) (e2 : stGet S n = some (.dct es)) (e3 : lookD es ks = some v) (h : Q v S) : XV .sdef (.ref n) [y] S X Q := by
  unfold XV
  simp only [xopV, sdefV, e1, e2, e3]; exact h
theorem xv_sdefN {n : Nat} {y : Val} {ks : List Int} {es : List (List Int × Val)} (e1 : keyV y = some ks) (e2 : stGet S n = some (.dct es)) (e3 : lookD es ks = none) (e4 : es.length < sLine ∧ ks.length ≤ 1000) (h : Q (.ref S.length) ((S ++ [some (Ob.lst [])]).set n (some (Ob.dct (putD es ks (.ref S.length)))))) : XV .sdef (.ref n) [y] S X Q := by
  unfold XV
  simp only [xopV, sdefV, e1, e2, e3, if_pos e4]; exact h
/-! ### iterables -/
theorem wp_over {e : E} {Q : List Val × List Nat → Sto → Prop} (h : Wp (evE G C e env S) X fun v S1 => ∃ p, itemsV S1 v = some p ∧ Q p S1) : Wp (evI G C (.over e) env S) X Q := by
  simp only [evI]
  refine wp_bind (h.imp fun x S1 ⟨w, e, q⟩ => ?_)
  rw [e]; exact q
theorem wp_range1 {e : E} {Q : List Val × List Nat → Sto → Prop} (h : Wp (evE G C e env S) X fun v S1 => ∃ n, v = .d (.int n) ∧ (n ≤ 16777216 ∧ -16777216 ≤ n) ∧ Q (rangeVs 0 n, []) S1) : Wp (evI G C (.range1 e) env S) X Q := by
  simp only [evI]
  refine wp_bind (h.imp fun x S1 ⟨n, e, hn, q⟩ => ?_)
  subst e
  simp only [hn, and_self, if_true]; exact q
theorem wp_range2 {a b : E} {Q : List Val × List Nat → Sto → Prop} (h : Wp (evE G C a env S) X fun x S1 => Wp (evE G C b env S1) X fun y S2 => ∃ i j, x = .d (.int i) ∧ y = .d (.int j) ∧ (-8388608 ≤ i ∧ i ≤ 8388608 ∧ -8388608 ≤ j ∧ j ≤ 8388608) ∧ Q (rangeVs i j, []) S2) : Wp (evI G C (.range2 a b) env S) X Q := by
  simp only [evI]
  refine wp_bind (h.imp fun x S1 q => wp_bind (q.imp fun y S2 ⟨i, j, e1, e2, hn, q'⟩ => ?_))
  subst e1; subst e2
  simp only [hn, and_self, if_true]; exact q'
theorem wp_enum {e : E} {Q : List Val × List Nat → Sto → Prop} (h : Wp (evE G C e env S) X fun v S1 => ∃ p, pureItems S1 v = some p ∧ Q (enumD p.1, p.2) S1) : Wp (evI G C (.enum e) env S) X Q := by
  simp only [evI]
  refine wp_bind (h.imp fun x S1 ⟨w, e, q⟩ => ?_)
  rw [e]; exact q
theorem wp_zip {a b : E} {Q : List Val × List Nat → Sto → Prop} (h : Wp (evE G C a env S) X fun x S1 => Wp (evE G C b env S1) X fun y S2 => ∃ p, zipV S2 x y = some p ∧ Q p S2) : Wp (evI G C (.zip a b) env S) X Q := by
  simp only [evI]
  refine wp_bind (h.imp fun x S1 q => wp_bind (q.imp fun y S2 ⟨p, e1, q⟩ => ?_))
  rw [e1]; exact q
theorem wp_keys {e : E} {Q : List Val × List Nat → Sto → Prop} (h : Wp (evE G C e env S) X fun v S1 => ∃ p, keysV v = some p ∧ Q p S1) : Wp (evI G C (.keys e) env S) X Q := by
  simp only [evI]
  refine wp_bind (h.imp fun x S1 ⟨w, e, q⟩ => ?_)
  rw [e]; exact q
theorem wp_items {e : E} {Q : List Val × List Nat → Sto → Prop} (h : Wp (evE G C e env S) X fun v S1 => ∃ n es ds, v = .ref n ∧ stGet S1 n = some (.dct es) ∧ allO (es.map itemD) = some ds ∧ Q (ds.map Val.d, []) (S1.set n none)) : Wp (evI G C (.items e) env S) X Q := by
  simp only [evI]
  refine wp_bind (h.imp fun x S1 ⟨n, es, ds, e1, e2, e3, q⟩ => ?_)
  subst e1
  unfold itemsDV
  dsimp only
  rw [e2]
  dsimp only
  rw [e3]
  exact q
/-! ### comprehensions -/
def turnC (G : List D) (C : Runner) (own : List Nat) (tg : Tg) (cs : Es) (elt : E) (env : MS.Env) (x : Val) (S : Sto) : R (Option D) :=
  match setTg tg x (wipeE env own) with
  | some e2 => ((evCs G C cs e2 S).bind fun k S1 => if k then (evE G C elt e2 S1).bind fun y S2 => .ofO ((match y with | .d y => some (some y) | _ => Option.none)) S2 else .ok Option.none S1).noexc
  | Option.none => .stuck
theorem wp_comp {own : List Nat} {tg : Tg} {it : It} {cs : Es} {elt : E} (h : Wp (evI G C it env S) X fun p S1 => Wp (compL (turnC G C own tg cs elt env) p.1 (lockS S1 p.2)) X fun ys S2 => Q (.d (.list ys)) (unlockS S1 S2 p.2)) : Wp (evE G C (.comp own tg it cs elt) env S) X Q := by
  simp only [evE]
  exact wp_bind (h.imp fun p S1 q => wp_bind q)
theorem wp_turn {own : List Nat} {tg : Tg} {cs : Es} {elt : E} {x : Val} {e2 : MS.Env} {Q : Option D → Sto → Prop} (he : setTg tg x (wipeE env own) = some e2) (h : Wp (evCs G C cs e2 S) noX fun k S1 => if k then Wp (evE G C elt e2 S1) noX fun y S2 => ∃ z, y = .d z ∧ Q (some z) S2 else Q none S1) : Wp (turnC G C own tg cs elt env x S) X Q := by
  unfold turnC
  rw [he]
  dsimp only
  have : Wp ((evCs G C cs e2 S).bind fun k S1 => if k then (evE G C elt e2 S1).bind fun y S2 => .ofO ((match y with | .d y => some (some y) | _ => Option.none)) S2 else .ok Option.none S1) noX Q := by
    refine wp_bind (h.imp fun k S1 q => ?_)
    cases k with
    | false => exact q
    | true =>
      simp only [if_true] at q ⊢
      refine wp_bind (q.imp fun y S2 ⟨z, e, q⟩ => ?_)
      subst e; exact q
  obtain ⟨v, S', e, q⟩ := this.ex
  rw [e]; exact q
theorem wp_cs0 {Q : Bool → Sto → Prop} (h : Q true S) : Wp (evCs G C .nil env S) X Q := by simp only [evCs]; exact h
theorem wp_cs1 {e : E} {Q : Bool → Sto → Prop} (h : Wp (evE G C e env S) X fun v S1 => ∃ b, truthV S1 v = some b ∧ Q b S1) : Wp (evCs G C (.cons e .nil) env S) X Q := by
  simp only [evCs]
  refine wp_bind (h.imp fun x S1 ⟨b, e, q⟩ => ?_)
  rw [e]; exact q
/-- no turn changes the store, each gives f x -/
theorem compL_map {f : Val → Sto → R (Option D)} {g : Val → Option D} {S : Sto} : ∀ (xs : List Val), (∀ x ∈ xs, f x S = .ok (g x) S) → compL f xs S = .ok (xs.filterMap g) S
  | [], _ => rfl
  | x :: xs, h => by
    unfold compL
    rw [h x (by simp), R.bind_ok, compL_map xs fun y hy => h y (by simp [hy]), R.bind_ok]
    cases e : g x with
    | none => simp [List.filterMap_cons, e]
    | some y => simp [List.filterMap_cons, e]
theorem wp_compL {f : Val → Sto → R (Option D)} {I : List Val → List D → Sto → Prop} {Q : List D → Sto → Prop} {xs : List Val} (h0 : I xs [] S) (hs : ∀ x r acc S, I (x :: r) acc S → Wp (f x S) X fun o S1 => I r (match o with | some y => acc ++ [y] | none => acc) S1) (hd : ∀ acc S, I [] acc S → Q acc S) : Wp (compL f xs S) X Q := by
  have g : ∀ (xs : List Val) (acc : List D) (S : Sto), I xs acc S → Wp (compL f xs S) X fun ys S' => Q (acc ++ ys) S' := by
    intro xs
    induction xs with
    | nil => intro acc S h; simp only [compL]; exact wp_ok (by simpa using hd acc S h)
    | cons x xs ih =>
      intro acc S h
      unfold compL
      refine wp_bind ((hs x xs acc S h).imp fun o S1 q => wp_bind ((ih _ S1 q).imp fun ys S2 q2 => ?_))
      cases o with
      | none => exact q2
      | some y => show Q (acc ++ (y :: ys)) S2; simpa using q2
  have := g xs [] S h0
  exact this.imp fun ys S' q => by simpa using q
end
/-! ### statements -/
section
variable {G : List D} {C : Runner} {env : MS.Env} {S : Sto} {D' : En}
def En.x (D : En) (env : MS.Env) : XP := fun e S => D.ex e env S
theorem ws_ofR {α : Type} {r : R α} {f : α → Sto → RS} (h : Wp r (D'.x env) fun v S1 => Ws (f v S1) D') : Ws (RS.ofR env r f) D' := by
  cases r with
  | ok v S => exact h
  | exc _ _ => exact h
  | stuck => exact h
theorem ws_nil (h : D'.nx env S) : Ws (exSs G C .nil env S) D' := by simp only [exSs]; exact h
theorem ws_cons {s : MS.St} {ss : Sts} (h : Ws (exS G C s env S) (D'.nxt fun env1 S1 => Ws (exSs G C ss env1 S1) D')) : Ws (exSs G C (.cons s ss) env S) D' := by
  simp only [exSs]
  cases q : exS G C s env S <;> rw [q] at h <;> exact h
/-- a cut behind a statement -/
theorem ws_join {s : MS.St} {ss : Sts} (J : MS.Env → Sto → Prop) (h1 : Ws (exS G C s env S) (D'.nxt J)) (h2 : ∀ env S, J env S → Ws (exSs G C ss env S) D') : Ws (exSs G C (.cons s ss) env S) D' := by
  simp only [exSs]
  cases q : exS G C s env S <;> rw [q] at h1 <;> first | exact h1 | exact h2 _ _ h1
theorem ws_set {i : Nat} {e : E} (h : Wp (evE G C e env S) (D'.x env) fun v S1 => D'.nx (env.set i (some v)) S1) : Ws (exS G C (.set i e) env S) D' := by simp only [exS]; exact ws_ofR h
theorem ws_setc {i : Nat} {e : E} (h : Wp (evE G C e env S) (D'.x env) fun v S1 => D'.nx (env.set i (some v)) S1) : Ws (exS G C (.setc i e) env S) D' := by simp only [exS]; exact ws_ofR h
theorem ws_unp {ts : Tgs} {e : E} (h : Wp (evE G C e env S) (D'.x env) fun v S1 => ∃ env1, setTg (.tup ts) v env = some env1 ∧ D'.nx env1 S1) : Ws (exS G C (.unp ts e) env S) D' := by
  simp only [exS]
  refine ws_ofR (h.imp fun v S1 ⟨env1, e, q⟩ => ?_)
  rw [e]; exact q
theorem ws_par {ts : List Nat} {es : Es} (h : Wp (evEs G C es env S) (D'.x env) fun vs S1 => vs.length = ts.length ∧ D'.nx ((ts.zip vs).foldl (fun env p => env.set p.1 (some p.2)) env) S1) : Ws (exS G C (.par ts es) env S) D' := by
  simp only [exS]
  refine ws_ofR (h.imp fun vs S1 ⟨e, q⟩ => ?_)
  rw [if_pos e]; exact q
theorem ws_setix {a i e : E} (h : Wp (evE G C e env S) (D'.x env) fun v S1 => Wp (evE G C a env S1) (D'.x env) fun x S2 => Wp (evE G C i env S2) (D'.x env) fun y S3 => ∃ n j vs k, x = .ref n ∧ y = .d (.int j) ∧ stGet S3 n = some (.lst vs) ∧ ixOf vs.length j = some k ∧ D'.nx env (S3.set n (some (.lst (vs.set k v))))) : Ws (exS G C (.setix a i e) env S) D' := by
  simp only [exS]
  refine ws_ofR (h.imp fun v S1 q => ws_ofR (q.imp fun x S2 q => ws_ofR (q.imp fun y S3 ⟨n, j, vs, k, e1, e2, e3, e4, q'⟩ => ?_)))
  subst e1; subst e2
  simp only [sixV, e3, e4]; exact q'
theorem ws_st2 {a i b j : E} {es : Es} (h : Wp (evEs G C es env S) (D'.x env) fun us S1 => ∃ v w, us = [v, w] ∧ Wp (evE G C a env S1) (D'.x env) fun x S2 => Wp (evE G C i env S2) (D'.x env) fun y S3 => ∃ n p vs k, x = .ref n ∧ y = .d (.int p) ∧ stGet S3 n = some (.lst vs) ∧ ixOf vs.length p = some k ∧ Wp (evE G C b env (S3.set n (some (.lst (vs.set k v))))) (D'.x env) fun x2 S5 => Wp (evE G C j env S5) (D'.x env) fun y2 S6 => ∃ n2 p2 vs2 k2, x2 = .ref n2 ∧ y2 = .d (.int p2) ∧ stGet S6 n2 = some (.lst vs2) ∧ ixOf vs2.length p2 = some k2 ∧ D'.nx env (S6.set n2 (some (.lst (vs2.set k2 w))))) : Ws (exS G C (.st2 a i b j es) env S) D' := by
  simp only [exS]
  refine ws_ofR (h.imp fun us S1 ⟨v, w, e0, q⟩ => ?_)
  subst e0
  refine ws_ofR (q.imp fun x S2 q1 => ws_ofR (q1.imp fun y S3 ⟨n, p, vs, k, e1, e2, e3, e4, q2⟩ => ?_))
  subst e1; subst e2
  simp only [sixV, e3, e4, RS.seq_nx]
  refine ws_ofR (q2.imp fun x2 S5 q3 => ws_ofR (q3.imp fun y2 S6 ⟨n2, p2, vs2, k2, f1, f2, f3, f4, q4⟩ => ?_))
  subst f1; subst f2
  simp only [f3, f4]
  exact q4
theorem ws_setk {a e : E} {ks : Es} (h : Wp (evE G C e env S) (D'.x env) fun v S1 => Wp (evE G C a env S1) (D'.x env) fun x S2 => Wp (evEs G C ks env S2) (D'.x env) fun kv S3 => ∃ n ds is es, x = .ref n ∧ pureVs kv = some ds ∧ allI ds = some is ∧ stGet S3 n = some (.dct es) ∧ (es.length < sLine ∧ is.length ≤ 1000) ∧ D'.nx env (S3.set n (some (.dct (putD es is v))))) : Ws (exS G C (.setk a ks e) env S) D' := by
  simp only [exS]
  refine ws_ofR (h.imp fun v S1 q => ws_ofR (q.imp fun x S2 q => ws_ofR (q.imp fun kv S3 ⟨n, ds, is, es, e1, e2, e3, e4, e5, q'⟩ => ?_)))
  subst e1
  unfold setkV
  rw [e2, Option.bind_some, e3]
  dsimp only
  rw [e4]
  dsimp only
  rw [if_pos e5]
  exact q'
theorem ws_setd {a k e : E} (h : Wp (evE G C e env S) (D'.x env) fun v S1 => Wp (evE G C a env S1) (D'.x env) fun x S2 => Wp (evE G C k env S2) (D'.x env) fun y S3 => ∃ n ks es, x = .ref n ∧ keyV y = some ks ∧ stGet S3 n = some (.dct es) ∧ (es.length < sLine ∧ ks.length ≤ 1000) ∧ D'.nx env (S3.set n (some (.dct (putD es ks v))))) : Ws (exS G C (.setd a k e) env S) D' := by
  simp only [exS]
  refine ws_ofR (h.imp fun v S1 q => ws_ofR (q.imp fun x S2 q => ws_ofR (q.imp fun y S3 ⟨n, ks, es, e1, e2, e3, e4, q'⟩ => ?_)))
  subst e1
  simp only [setdV, e3, e2, if_pos e4]
  exact q'
theorem ws_setdK {a k e : E} (h : Wp (evE G C e env S) (D'.x env) fun v S1 => Wp (evE G C a env S1) (D'.x env) fun x S2 => Wp (evE G C k env S2) (D'.x env) fun y S3 => ∃ n k es, x = .ref n ∧ y = .d (.int k) ∧ stGet S3 n = some (.kv 0 es) ∧ es.length < sLine ∧ D'.nx env (S3.set n (some (.kv 0 (putKI es k v))))) : Ws (exS G C (.setd a k e) env S) D' := by
  simp only [exS]
  refine ws_ofR (h.imp fun v S1 q => ws_ofR (q.imp fun x S2 q => ws_ofR (q.imp fun y S3 ⟨n, k, es, e1, e2, e3, e4, q'⟩ => ?_)))
  subst e1 e2
  simp only [setdV, e3, if_pos e4]
  exact q'
theorem ws_frzs {i : Nat} {s : MS.St} {v : Val} (e : lookE env i = some v) (h : Wp (fzV v S) (D'.x env) fun w S1 => Ws (exS G C s (env.set i (some w)) S1) D') : Ws (exS G C (.frzs i s) env S) D' := by
  simp only [exS, e]
  exact ws_ofR h
theorem ws_expr {e : E} (h : Wp (evE G C e env S) (D'.x env) fun _ S1 => D'.nx env S1) : Ws (exS G C (.expr e) env S) D' := by simp only [exS]; exact ws_ofR h
theorem ws_app {a e : E} (h : Wp (evE G C a env S) (D'.x env) fun x S1 => isLst S1 x = true ∧ Wp (evE G C e env S1) (D'.x env) fun v S2 => ∃ n vs, x = .ref n ∧ stGet S2 n = some (.lst vs) ∧ vs.length < sLine ∧ D'.nx env (S2.set n (some (.lst (vs ++ [v]))))) : Ws (exS G C (.app a e) env S) D' := by
  simp only [exS]
  refine ws_ofR (h.imp fun x S1 ⟨hl, q⟩ => ?_)
  rw [if_pos hl]
  refine ws_ofR (q.imp fun v S2 ⟨n, vs, e1, e2, e3, q'⟩ => ?_)
  subst e1
  simp only [appV, e2, e3, if_true]; exact q'
theorem ws_ext {a e : E} (h : Wp (evE G C a env S) (D'.x env) fun x S1 => isLst S1 x = true ∧ Wp (evE G C e env S1) (D'.x env) fun v S2 => ∃ n vs ys, x = .ref n ∧ view S2 v = some (.list ys) ∧ stGet S2 n = some (.lst vs) ∧ vs.length + ys.length ≤ sLine ∧ D'.nx env (S2.set n (some (.lst (vs ++ ys.map Val.d))))) : Ws (exS G C (.ext a e) env S) D' := by
  simp only [exS]
  refine ws_ofR (h.imp fun x S1 ⟨hl, q⟩ => ?_)
  rw [if_pos hl]
  refine ws_ofR (q.imp fun v S2 ⟨n, vs, ys, e1, e2, e3, e4, q'⟩ => ?_)
  subst e1
  simp only [extV, e2, e3, e4, if_true]; exact q'
theorem ws_if {c : E} {t f : Sts} (h : Wp (evE G C c env S) (D'.x env) fun v S1 => ∃ b, truthV S1 v = some b ∧ if b then Ws (exSs G C t env S1) D' else Ws (exSs G C f env S1) D') : Ws (exS G C (.ifs c t f) env S) D' := by
  simp only [exS, evT]
  refine ws_ofR (wp_bind (h.imp fun v S1 ⟨b, e, q⟩ => ?_))
  rw [e]
  show Ws (if b = true then _ else _) _
  cases b <;> exact q
theorem ws_ret {e : E} (h : Wp (evE G C e env S) (D'.x env) fun v S1 => D'.rt v S1) : Ws (exS G C (.ret e) env S) D' := by simp only [exS]; exact ws_ofR h
theorem ws_raise {c : Nat} {m : Str} (h : D'.ex ⟨c, []⟩ env S) : Ws (exS G C (.raise c m) env S) D' := by simp only [exS]; exact h
theorem ws_raise2 {c : Nat} {a b : E} (h : Wp (evE G C a env S) (D'.x env) fun x S1 => Wp (evE G C b env S1) (D'.x env) fun y S2 => ∃ m n, x = .d (.int m) ∧ y = .d (.int n) ∧ D'.ex ⟨c, [.int m, .int n]⟩ env S2) : Ws (exS G C (.raise2 c a b) env S) D' := by
  simp only [exS]
  refine ws_ofR (h.imp fun x S1 q => ws_ofR (q.imp fun y S2 ⟨m, n, e1, e2, z⟩ => ?_))
  subst e1 e2
  exact z
theorem ws_tri {b hh : Sts} {i : Nat} {yes no : List Nat} {d : Nat} (h : Ws (exSs G C b env S) { nx := D'.nx, rt := D'.rt, bk := D'.bk, ct := D'.ct, ex := fun e env1 S1 => noExn env1 = true ∧
      ((yes.contains e.cls = true ∧ Ws (exSs G C hh (env1.set i (some (.exn e))) S1) { nx := fun env2 S2 => noExn (env2.set i none) = true ∧ D'.nx (env2.set i none) S2, rt := D'.rt }) ∨ (yes.contains e.cls = false ∧ no.contains e.cls = true ∧ D'.ex e env1 S1)) }) : Ws (exS G C (.tri b i yes no d hh) env S) D' := by
  simp only [exS]
  unfold triS
  dsimp only
  cases q : exSs G C b env S with
  | stuck => rw [q] at h; exact h
  | nx _ _ => rw [q] at h; exact h
  | ret _ _ => rw [q] at h; exact h
  | brk _ _ => rw [q] at h; exact h
  | cnt _ _ => rw [q] at h; exact h
  | exc e env1 S1 =>
    rw [q] at h
    obtain ⟨h1, h3⟩ := h
    dsimp only
    rw [if_pos h1]
    rcases h3 with ⟨h3, h4⟩ | ⟨h3, h4, h5⟩
    · rw [if_pos h3]
      cases q2 : exSs G C hh (env1.set i (some (.exn e))) S1 <;> rw [q2] at h4
      · exact h4
      · unfold sufS; dsimp only; rw [if_pos h4.1]; exact h4.2
      · exact h4
      · exact h4.elim
      · exact h4.elim
      · exact h4.elim
    · rw [if_neg (by rw [h3]; exact Bool.false_ne_true), if_pos h4]; exact h5
theorem ws_pass (h : D'.nx env S) : Ws (exS G C .pass env S) D' := by simp only [exS]; exact h
theorem ws_brk (h : D'.bk env S) : Ws (exS G C .brk env S) D' := by simp only [exS]; exact h
theorem ws_cnt (h : D'.ct env S) : Ws (exS G C .cnt env S) D' := by simp only [exS]; exact h
/-- a for: the invariant by what is left -/
theorem ws_for {tg : Tg} {it : It} {b : Sts} (h : Wp (evI G C it env S) (D'.x env) fun p S1 => ∃ I : List Val → MS.Env → Sto → Prop, I p.1 env (lockS S1 p.2) ∧
      (∀ x r env S, I (x :: r) env S → ∃ env1, setTg tg x env = some env1 ∧ Ws (exSs G C b env1 S) (D'.turn (I r) S1 p.2)) ∧
      ∀ env S, I [] env S → D'.nx env (unlockS S1 S p.2)) : Ws (exS G C (.fors tg it b) env S) D' := by
  simp only [exS]
  refine ws_ofR (h.imp fun p S1 ⟨I, h0, hs, hd⟩ => ?_)
  have g : ∀ (xs : List Val) (env : MS.Env) (S : Sto), I xs env S → Ws ((forL (fun x env S => match setTg tg x env with | some env1 => exSs G C b env1 S | none => .stuck) xs env S).relock S1 p.2) D' := by
    intro xs
    induction xs with
    | nil => intro env S h; exact hd env S h
    | cons x xs ih =>
      intro env S h
      obtain ⟨env1, e1, q⟩ := hs x xs env S h
      unfold forL
      rw [e1]
      dsimp only
      cases q2 : exSs G C b env1 S <;> rw [q2] at q
      · exact q.elim
      · exact ih _ _ q
      · exact q
      · exact q
      · exact ih _ _ q
      · exact q
  exact g p.1 env _ h0
/-- a while: the invariant, a measure below the fuel -/
theorem ws_while {n : Nat} {c : E} {b : Sts} (I : MS.Env → Sto → Prop) (μ : MS.Env → Sto → Nat) (h0 : I env S) (hn : μ env S < n)
    (hs : ∀ env S, I env S → Wp (evE G C c env S) (D'.x env) fun v S1 => ∃ k, truthV S1 v = some k ∧ if k then Ws (exSs G C b env S1) (D'.lap fun env2 S2 => I env2 S2 ∧ μ env2 S2 < μ env S) else D'.nx env S1) : Ws (exS G C (.whil n c b) env S) D' := by
  simp only [exS]
  have g : ∀ (n : Nat) (env : MS.Env) (S : Sto), I env S → μ env S < n → Ws (whileL (fun env S => evT G C c env S) (fun env S => exSs G C b env S) n env S) D' := by
    intro n
    induction n with
    | zero => intro env S _ h; omega
    | succ n ih =>
      intro env S h hm
      unfold whileL
      refine ws_ofR ?_
      unfold evT
      refine wp_bind ((hs env S h).imp fun v S1 ⟨k, e, q⟩ => ?_)
      rw [e]
      show Ws (if k = true then _ else _) _
      cases k with
      | false => exact q
      | true =>
        simp only [if_true] at q ⊢
        cases q2 : exSs G C b env S1 <;> rw [q2] at q
        · exact q.elim
        · exact ih _ _ q.1 (by have := q.2; omega)
        · exact q
        · exact q
        · exact ih _ _ q.1 (by have := q.2; omega)
        · exact q
  exact g n env S h0 hn
end
/-! ### a def -/
theorem wp_run {G : List D} {P : Nat → Fn} {k i : Nat} {vs : List Val} {S : Sto} {X : XP} {Q : Val → Sto → Prop} {f : Fn} (hf : P i = f) (hl : vs.length = f.params)
    (h : Ws (exSs G (MS.run G P k) f.body (vs.map some ++ List.replicate (f.slots - vs.length) none) S) (En.fn S X Q)) : Wp (MS.run G P (k + 1) i vs S) X Q := by
  unfold MS.run
  rw [hf, if_pos hl]
  cases q : exSs G (MS.run G P k) f.body (vs.map some ++ List.replicate (f.slots - vs.length) none) S <;> rw [q] at h <;> exact h
end MS

-- MsWx
/-! The same rules over names that are never unfolded. (Printed by mkwp.py.) -/
namespace MS
open PySem
@[irreducible] def xE (G : List D) (C : Runner) (e : E) (env : MS.Env) (S : Sto) : R Val := evE G C e env S
@[irreducible] def xEs (G : List D) (C : Runner) (e : Es) (env : MS.Env) (S : Sto) : R (List Val) := evEs G C e env S
@[irreducible] def xB (G : List D) (C : Runner) (k : Bool) (e : Es) (env : MS.Env) (S : Sto) : R Val := evB G C k e env S
@[irreducible] def xI (G : List D) (C : Runner) (e : It) (env : MS.Env) (S : Sto) : R (List Val × List Nat) := evI G C e env S
@[irreducible] def xO (G : List D) (C : Runner) (e : Oe) (env : MS.Env) (S : Sto) : R (Option Int) := evO G C e env S
@[irreducible] def xCs (G : List D) (C : Runner) (e : Es) (env : MS.Env) (S : Sto) : R Bool := evCs G C e env S
@[irreducible] def xS (G : List D) (C : Runner) (s : MS.St) (env : MS.Env) (S : Sto) : RS := exS G C s env S
@[irreducible] def xSs (G : List D) (C : Runner) (s : Sts) (env : MS.Env) (S : Sto) : RS := exSs G C s env S
@[irreducible] def xT (G : List D) (C : Runner) (own : List Nat) (tg : Tg) (cs : Es) (elt : E) (env : MS.Env) (x : Val) (S : Sto) : R (Option D) := turnC G C own tg cs elt env x S
@[irreducible] def xF (v : Val) (S : Sto) : R Val := fzV v S
@[irreducible] def xL (f : Val → Sto → R (Option D)) (xs : List Val) (S : Sto) : R (List D) := compL f xs S
@[irreducible] def W {α : Type} (r : R α) (X : XP) (Q : α → Sto → Prop) : Prop := Wp r X Q
@[irreducible] def Z (r : RS) (D : En) : Prop := Ws r D

theorem xE_d : @xE = @evE := by funext; unfold xE; rfl
theorem xEs_d : @xEs = @evEs := by funext; unfold xEs; rfl
theorem xB_d : @xB = @evB := by funext; unfold xB; rfl
theorem xI_d : @xI = @evI := by funext; unfold xI; rfl
theorem xO_d : @xO = @evO := by funext; unfold xO; rfl
theorem xCs_d : @xCs = @evCs := by funext; unfold xCs; rfl
theorem xS_d : @xS = @exS := by funext; unfold xS; rfl
theorem xSs_d : @xSs = @exSs := by funext; unfold xSs; rfl
theorem xT_d : @xT = @turnC := by funext; unfold xT; rfl
theorem xF_d : @xF = @fzV := by funext; unfold xF; rfl
theorem xL_d : @xL = @compL := by funext; unfold xL; rfl
theorem W_d {α : Type} : @W α = @Wp α := by funext; unfold W; rfl
theorem Z_d : @Z = @Ws := by funext; unfold Z; rfl
theorem W.ok {α : Type} {r : R α} {v : α} {S : Sto} (h : W r noX fun v' S' => v' = v ∧ S' = S) : r = .ok v S := by
  simp only [xE_d, xEs_d, xB_d, xI_d, xO_d, xCs_d, xS_d, xSs_d, xT_d, xF_d, xL_d, W_d, Z_d] at *
  apply Wp.ok <;> assumption
theorem W.ex {α : Type} {r : R α} {Q : α → Sto → Prop} (h : W r noX Q) : ∃ v S, r = .ok v S ∧ Q v S := by
  simp only [xE_d, xEs_d, xB_d, xI_d, xO_d, xCs_d, xS_d, xSs_d, xT_d, xF_d, xL_d, W_d, Z_d] at *
  apply Wp.ex <;> assumption
theorem W.of {α : Type} {r : R α} {X : XP} {Q : α → Sto → Prop} {v : α} {S : Sto} (h : r = .ok v S) (q : Q v S) : W r X Q := by
  simp only [xE_d, xEs_d, xB_d, xI_d, xO_d, xCs_d, xS_d, xSs_d, xT_d, xF_d, xL_d, W_d, Z_d] at *
  apply Wp.of <;> assumption
theorem W.imp {α : Type} {r : R α} {X : XP} {Q Q' : α → Sto → Prop} (h : W r X Q) (k : ∀ v S, Q v S → Q' v S) : W r X Q' := by
  simp only [xE_d, xEs_d, xB_d, xI_d, xO_d, xCs_d, xS_d, xSs_d, xT_d, xF_d, xL_d, W_d, Z_d] at *
  apply Wp.imp <;> assumption
theorem W.imp2 {α : Type} {r : R α} {X X' : XP} {Q Q' : α → Sto → Prop} (h : W r X Q) (k : ∀ v S, Q v S → Q' v S) (kx : ∀ e S, X e S → X' e S) : W r X' Q' := by
  simp only [xE_d, xEs_d, xB_d, xI_d, xO_d, xCs_d, xS_d, xSs_d, xT_d, xF_d, xL_d, W_d, Z_d] at *
  apply Wp.imp2 <;> assumption
theorem zwp_bind {α β : Type} {r : R α} {f : α → Sto → R β} {X : XP} {Q : β → Sto → Prop} (h : W r X fun v S => W (f v S) X Q) : W (r.bind f) X Q := by
  simp only [xE_d, xEs_d, xB_d, xI_d, xO_d, xCs_d, xS_d, xSs_d, xT_d, xF_d, xL_d, W_d, Z_d] at *
  apply wp_bind <;> assumption
theorem zwp_ok {α : Type} {v : α} {S : Sto} {X : XP} {Q : α → Sto → Prop} (h : Q v S) : W (.ok v S) X Q := by
  simp only [xE_d, xEs_d, xB_d, xI_d, xO_d, xCs_d, xS_d, xSs_d, xT_d, xF_d, xL_d, W_d, Z_d] at *
  apply wp_ok <;> assumption
theorem zwp_ofO {α : Type} {o : Option α} {v : α} {S : Sto} {X : XP} {Q : α → Sto → Prop} (e : o = some v) (h : Q v S) : W (R.ofO o S) X Q := by
  simp only [xE_d, xEs_d, xB_d, xI_d, xO_d, xCs_d, xS_d, xSs_d, xT_d, xF_d, xL_d, W_d, Z_d] at *
  apply wp_ofO <;> assumption
section
variable {G : List D} {C : Runner} {env : MS.Env} {S : Sto} {X : XP} {Q : Val → Sto → Prop}
theorem zwp_var {i : Nat} {v : Val} (e : lookE env i = some v) (h : Q v S) : W (xE G C (.var i) env S) X Q := by
  simp only [xE_d, xEs_d, xB_d, xI_d, xO_d, xCs_d, xS_d, xSs_d, xT_d, xF_d, xL_d, W_d, Z_d] at *
  apply wp_var <;> assumption
theorem zwp_glob {g : Nat} {d : D} (e : litI G g = some d) (h : Q (.d d) S) : W (xE G C (.glob g) env S) X Q := by
  simp only [xE_d, xEs_d, xB_d, xI_d, xO_d, xCs_d, xS_d, xSs_d, xT_d, xF_d, xL_d, W_d, Z_d] at *
  apply wp_glob <;> assumption
theorem zwp_none (h : Q (.d .none) S) : W (xE G C .none env S) X Q := by
  simp only [xE_d, xEs_d, xB_d, xI_d, xO_d, xCs_d, xS_d, xSs_d, xT_d, xF_d, xL_d, W_d, Z_d] at *
  apply wp_none <;> assumption
theorem zwp_bool {b : Bool} (h : Q (.d (.bool b)) S) : W (xE G C (.bool b) env S) X Q := by
  simp only [xE_d, xEs_d, xB_d, xI_d, xO_d, xCs_d, xS_d, xSs_d, xT_d, xF_d, xL_d, W_d, Z_d] at *
  apply wp_bool <;> assumption
theorem zwp_int {b : Int} (h : Q (.d (.int b)) S) : W (xE G C (.int b) env S) X Q := by
  simp only [xE_d, xEs_d, xB_d, xI_d, xO_d, xCs_d, xS_d, xSs_d, xT_d, xF_d, xL_d, W_d, Z_d] at *
  apply wp_int <;> assumption
theorem zwp_str {b : Str} (h : Q (.d (.str b)) S) : W (xE G C (.str b) env S) X Q := by
  simp only [xE_d, xEs_d, xB_d, xI_d, xO_d, xCs_d, xS_d, xSs_d, xT_d, xF_d, xL_d, W_d, Z_d] at *
  apply wp_str <;> assumption
theorem zwp_tup {es : Es} (h : W (xEs G C es env S) X fun vs S1 => ∃ ds, pureVs vs = some ds ∧ Q (.d (.tuple ds)) S1) : W (xE G C (.tup es) env S) X Q := by
  simp only [xE_d, xEs_d, xB_d, xI_d, xO_d, xCs_d, xS_d, xSs_d, xT_d, xF_d, xL_d, W_d, Z_d] at *
  apply wp_tup <;> assumption
theorem zwp_lst {es : Es} (h : W (xEs G C es env S) X fun vs S1 => ∃ ds, pureVs vs = some ds ∧ Q (.d (.list ds)) S1) : W (xE G C (.lst es) env S) X Q := by
  simp only [xE_d, xEs_d, xB_d, xI_d, xO_d, xCs_d, xS_d, xSs_d, xT_d, xF_d, xL_d, W_d, Z_d] at *
  apply wp_lst <;> assumption
theorem zwp_lstN {es : Es} (h : W (xEs G C es env S) X fun vs S1 => Q (.ref S1.length) (S1 ++ [some (.lst vs)])) : W (xE G C (.lstN es) env S) X Q := by
  simp only [xE_d, xEs_d, xB_d, xI_d, xO_d, xCs_d, xS_d, xSs_d, xT_d, xF_d, xL_d, W_d, Z_d] at *
  apply wp_lstN <;> assumption
theorem zwp_nil {Q : List Val → Sto → Prop} (h : Q [] S) : W (xEs G C .nil env S) X Q := by
  simp only [xE_d, xEs_d, xB_d, xI_d, xO_d, xCs_d, xS_d, xSs_d, xT_d, xF_d, xL_d, W_d, Z_d] at *
  apply wp_nil <;> assumption
theorem zwp_cons {e : E} {es : Es} {Q : List Val → Sto → Prop} (h : W (xE G C e env S) X fun v S1 => W (xEs G C es env S1) X fun vs S2 => Q (v :: vs) S2) : W (xEs G C (.cons e es) env S) X Q := by
  simp only [xE_d, xEs_d, xB_d, xI_d, xO_d, xCs_d, xS_d, xSs_d, xT_d, xF_d, xL_d, W_d, Z_d] at *
  apply wp_cons <;> assumption
theorem zwp_bin {o : BOp} {a b : E} (h : W (xE G C a env S) X fun x S1 => W (xE G C b env S1) X fun y S2 => ∃ u v w, view S2 x = some u ∧ view S2 y = some v ∧ binD o u v = some w ∧ Q (.d w) S2) : W (xE G C (.bin o a b) env S) X Q := by
  simp only [xE_d, xEs_d, xB_d, xI_d, xO_d, xCs_d, xS_d, xSs_d, xT_d, xF_d, xL_d, W_d, Z_d] at *
  apply wp_bin <;> assumption
theorem zwp_neg {a : E} (h : W (xE G C a env S) X fun x S1 => ∃ i, x = .d (.int i) ∧ Q (.d (.int (-i))) S1) : W (xE G C (.neg a) env S) X Q := by
  simp only [xE_d, xEs_d, xB_d, xI_d, xO_d, xCs_d, xS_d, xSs_d, xT_d, xF_d, xL_d, W_d, Z_d] at *
  apply wp_neg <;> assumption
theorem zwp_not {a : E} (h : W (xE G C a env S) X fun x S1 => ∃ b, truthV S1 x = some b ∧ Q (.d (.bool (!b))) S1) : W (xE G C (.not a) env S) X Q := by
  simp only [xE_d, xEs_d, xB_d, xI_d, xO_d, xCs_d, xS_d, xSs_d, xT_d, xF_d, xL_d, W_d, Z_d] at *
  apply wp_not <;> assumption
theorem zwp_bools {k : Bool} {es : Es} (h : W (xB G C k es env S) X Q) : W (xE G C (.bools k es) env S) X Q := by
  simp only [xE_d, xEs_d, xB_d, xI_d, xO_d, xCs_d, xS_d, xSs_d, xT_d, xF_d, xL_d, W_d, Z_d] at *
  apply wp_bools <;> assumption
theorem zwp_b1 {k : Bool} {e : E} (h : W (xE G C e env S) X Q) : W (xB G C k (.cons e .nil) env S) X Q := by
  simp only [xE_d, xEs_d, xB_d, xI_d, xO_d, xCs_d, xS_d, xSs_d, xT_d, xF_d, xL_d, W_d, Z_d] at *
  apply wp_b1 <;> assumption
theorem zwp_b2 {k : Bool} {e e2 : E} {es : Es} (h : W (xE G C e env S) X fun v S1 => ∃ b, truthV S1 v = some b ∧ if b = k then W (xB G C k (.cons e2 es) env S1) X Q else Q v S1) : W (xB G C k (.cons e (.cons e2 es)) env S) X Q := by
  simp only [xE_d, xEs_d, xB_d, xI_d, xO_d, xCs_d, xS_d, xSs_d, xT_d, xF_d, xL_d, W_d, Z_d] at *
  apply wp_b2 <;> assumption
theorem zwp_cmp {o : COp} {a b : E} (h : W (xE G C a env S) X fun x S1 => W (xE G C b env S1) X fun y S2 => ∃ u v w, view S2 x = some u ∧ view S2 y = some v ∧ cmpD o u v = some w ∧ Q (.d (.bool w)) S2) : W (xE G C (.cmp o a b) env S) X Q := by
  simp only [xE_d, xEs_d, xB_d, xI_d, xO_d, xCs_d, xS_d, xSs_d, xT_d, xF_d, xL_d, W_d, Z_d] at *
  apply wp_cmp <;> assumption
theorem zwp_chain {o p : COp} {a b c : E} (h : W (xE G C a env S) X fun x S1 => W (xE G C b env S1) X fun y S2 => ∃ u v w, view S2 x = some u ∧ view S2 y = some v ∧ cmpD o u v = some w ∧
    if w then W (xE G C c env S2) X fun z S4 => ∃ v' u' w', view S4 y = some v' ∧ view S4 z = some u' ∧ cmpD p v' u' = some w' ∧ Q (.d (.bool w')) S4 else Q (.d (.bool false)) S2) : W (xE G C (.chain o p a b c) env S) X Q := by
  simp only [xE_d, xEs_d, xB_d, xI_d, xO_d, xCs_d, xS_d, xSs_d, xT_d, xF_d, xL_d, W_d, Z_d] at *
  apply wp_chain <;> assumption
theorem zwp_ife {c a b : E} (h : W (xE G C c env S) X fun v S1 => ∃ k, truthV S1 v = some k ∧ if k then W (xE G C a env S1) X Q else W (xE G C b env S1) X Q) : W (xE G C (.ife c a b) env S) X Q := by
  simp only [xE_d, xEs_d, xB_d, xI_d, xO_d, xCs_d, xS_d, xSs_d, xT_d, xF_d, xL_d, W_d, Z_d] at *
  apply wp_ife <;> assumption
theorem zwp_ix {a b : E} (h : W (xE G C a env S) X fun x S1 => W (xE G C b env S1) X fun y S2 => ∃ i w, y = .d (.int i) ∧ ixV S2 x (.int i) = some w ∧ Q w S2) : W (xE G C (.ix a b) env S) X Q := by
  simp only [xE_d, xEs_d, xB_d, xI_d, xO_d, xCs_d, xS_d, xSs_d, xT_d, xF_d, xL_d, W_d, Z_d] at *
  apply wp_ix <;> assumption
theorem zwp_no {Q : Option Int → Sto → Prop} (h : Q none S) : W (xO G C .no env S) X Q := by
  simp only [xE_d, xEs_d, xB_d, xI_d, xO_d, xCs_d, xS_d, xSs_d, xT_d, xF_d, xL_d, W_d, Z_d] at *
  apply wp_no <;> assumption
theorem zwp_yes {e : E} {Q : Option Int → Sto → Prop} (h : W (xE G C e env S) X fun v S1 => ∃ i, v = .d (.int i) ∧ Q (some i) S1) : W (xO G C (.yes e) env S) X Q := by
  simp only [xE_d, xEs_d, xB_d, xI_d, xO_d, xCs_d, xS_d, xSs_d, xT_d, xF_d, xL_d, W_d, Z_d] at *
  apply wp_yes <;> assumption
theorem zwp_sl {a : E} {lo hi : Oe} (h : W (xE G C a env S) X fun x S1 => W (xO G C lo env S1) X fun l S2 => W (xO G C hi env S2) X fun u S3 => ∃ w, slV S3 x l u = some w ∧ Q (.d w) S3) : W (xE G C (.sl a lo hi) env S) X Q := by
  simp only [xE_d, xEs_d, xB_d, xI_d, xO_d, xCs_d, xS_d, xSs_d, xT_d, xF_d, xL_d, W_d, Z_d] at *
  apply wp_sl <;> assumption
theorem zwp_call {f : Nat} {es : Es} (h : W (xEs G C es env S) X fun vs S1 => W (C f vs S1) X Q) : W (xE G C (.call f es) env S) X Q := by
  simp only [xE_d, xEs_d, xB_d, xI_d, xO_d, xCs_d, xS_d, xSs_d, xT_d, xF_d, xL_d, W_d, Z_d] at *
  apply wp_call <;> assumption
theorem zwp_bi {b : Bi} {a : E} (h : W (xE G C a env S) X fun x S1 => ∃ w, biV S1 b x = some w ∧ Q (.d w) S1) : W (xE G C (.bi b a) env S) X Q := by
  simp only [xE_d, xEs_d, xB_d, xI_d, xO_d, xCs_d, xS_d, xSs_d, xT_d, xF_d, xL_d, W_d, Z_d] at *
  apply wp_bi <;> assumption
theorem zwp_isi {a : E} {ts : List Ty} (h : W (xE G C a env S) X fun x S1 => ∃ w, isTyV S1 ts x = some w ∧ Q (.d (.bool w)) S1) : W (xE G C (.isi a ts) env S) X Q := by
  simp only [xE_d, xEs_d, xB_d, xI_d, xO_d, xCs_d, xS_d, xSs_d, xT_d, xF_d, xL_d, W_d, Z_d] at *
  apply wp_isi <;> assumption
theorem zwp_xfld {i w : Nat} {ee : Exc} {d : D} (e : lookX env i = some ee) (h2 : ee.args[w]? = some d) (h : Q (.d d) S) : W (xE G C (.xfld i w) env S) X Q := by
  simp only [xE_d, xEs_d, xB_d, xI_d, xO_d, xCs_d, xS_d, xSs_d, xT_d, xF_d, xL_d, W_d, Z_d] at *
  apply wp_xfld <;> assumption
theorem zwp_isx {i : Nat} {yes no : List Nat} {d : Option Nat} {ee : Exc} {b : Bool} (e : lookX env i = some ee) (hb : (if yes.contains ee.cls then some true else if no.contains ee.cls then some false else none) = some b) (h : Q (.d (.bool b)) S) : W (xE G C (.isx i yes no d) env S) X Q := by
  simp only [xE_d, xEs_d, xB_d, xI_d, xO_d, xCs_d, xS_d, xSs_d, xT_d, xF_d, xL_d, W_d, Z_d] at *
  apply wp_isx <;> assumption
theorem zwp_callP {f : Nat} {es : Es} (h : W (xEs G C es env S) X fun vs S1 => CallOK C f vs S1 Q) : W (xE G C (.callP f es) env S) X Q := by
  simp only [xE_d, xEs_d, xB_d, xI_d, xO_d, xCs_d, xS_d, xSs_d, xT_d, xF_d, xL_d, W_d, Z_d] at *
  apply wp_callP <;> assumption
theorem zwp_mm {k : Bool} {a b : E} (h : W (xE G C a env S) X fun x S1 => W (xE G C b env S1) X fun y S2 => ∃ i j, x = .d (.int i) ∧ y = .d (.int j) ∧ Q (.d (.int (if k then (if j > i then j else i) else (if j < i then j else i)))) S2) : W (xE G C (.mm k a b) env S) X Q := by
  simp only [xE_d, xEs_d, xB_d, xI_d, xO_d, xCs_d, xS_d, xSs_d, xT_d, xF_d, xL_d, W_d, Z_d] at *
  apply wp_mm <;> assumption
theorem zwp_srtD {st : Bool} {a : E} (h : W (xE G C a env S) X fun x S1 => ∃ xs ys, seqV st S1 x = some xs ∧ sortX st xs = some ys ∧ Q (.d (.list ys)) S1) : W (xE G C (.srt st false a) env S) X Q := by
  simp only [xE_d, xEs_d, xB_d, xI_d, xO_d, xCs_d, xS_d, xSs_d, xT_d, xF_d, xL_d, W_d, Z_d] at *
  apply wp_srtD <;> assumption
theorem zwp_srtN {st : Bool} {a : E} (h : W (xE G C a env S) X fun x S1 => ∃ xs ys, seqV st S1 x = some xs ∧ sortX st xs = some ys ∧ Q (.ref S1.length) (S1 ++ [some (.lst (ys.map Val.d))])) : W (xE G C (.srt st true a) env S) X Q := by
  simp only [xE_d, xEs_d, xB_d, xI_d, xO_d, xCs_d, xS_d, xSs_d, xT_d, xF_d, xL_d, W_d, Z_d] at *
  apply wp_srtN <;> assumption
theorem zwp_dget {a k : E} (h : W (xE G C a env S) X fun x S1 => W (xE G C k env S1) X fun y S2 => ∃ es ks v, dctV S2 x = some es ∧ keyV y = some ks ∧ lookD es ks = some v ∧ Q v S2) : W (xE G C (.dget a k) env S) X Q := by
  simp only [xE_d, xEs_d, xB_d, xI_d, xO_d, xCs_d, xS_d, xSs_d, xT_d, xF_d, xL_d, W_d, Z_d] at *
  apply wp_dget <;> assumption
theorem zwp_din {neg : Bool} {k a : E} (h : W (xE G C k env S) X fun y S1 => W (xE G C a env S1) X fun x S2 => ∃ es ks, dctV S2 x = some es ∧ keyV y = some ks ∧ Q (.d (.bool (if neg then !(lookD es ks).isSome else (lookD es ks).isSome))) S2) : W (xE G C (.din neg k a) env S) X Q := by
  simp only [xE_d, xEs_d, xB_d, xI_d, xO_d, xCs_d, xS_d, xSs_d, xT_d, xF_d, xL_d, W_d, Z_d] at *
  apply wp_din <;> assumption
theorem zwp_dgetZ {a k z : E} (h : W (xE G C a env S) X fun x S1 => (dctV S1 x).isSome = true ∧ W (xE G C k env S1) X fun y S2 => W (xE G C z env S2) X fun w S3 => ∃ es ks, dctV S3 x = some es ∧ keyV y = some ks ∧ Q ((lookD es ks).getD w) S3) : W (xE G C (.dgetZ a k z) env S) X Q := by
  simp only [xE_d, xEs_d, xB_d, xI_d, xO_d, xCs_d, xS_d, xSs_d, xT_d, xF_d, xL_d, W_d, Z_d] at *
  apply wp_dgetZ <;> assumption
theorem zwp_getI {a k z : E} (h : W (xE G C a env S) X fun x S1 => isDic x = true ∧ W (xE G C k env S1) X fun y S2 => W (xE G C z env S2) X fun w S3 => ∃ r, getIV x y w = some r ∧ Q r S3) : W (xE G C (.getI a k z) env S) X Q := by
  simp only [xE_d, xEs_d, xB_d, xI_d, xO_d, xCs_d, xS_d, xSs_d, xT_d, xF_d, xL_d, W_d, Z_d] at *
  apply wp_getI <;> assumption
theorem zwp_dict2 {a b c d : E} (h : W (xE G C a env S) X fun x S1 => W (xE G C b env S1) X fun y S2 => W (xE G C c env S2) X fun z S3 => W (xE G C d env S3) X fun w S4 => ∃ r, dict2V x y z w = some r ∧ Q r S4) : W (xE G C (.dict2 a b c d) env S) X Q := by
  simp only [xE_d, xEs_d, xB_d, xI_d, xO_d, xCs_d, xS_d, xSs_d, xT_d, xF_d, xL_d, W_d, Z_d] at *
  apply wp_dict2 <;> assumption
theorem zwp_dlen {a : E} (h : W (xE G C a env S) X fun x S1 => ∃ es, dctV S1 x = some es ∧ Q (.d (.int es.length)) S1) : W (xE G C (.dlen a) env S) X Q := by
  simp only [xE_d, xEs_d, xB_d, xI_d, xO_d, xCs_d, xS_d, xSs_d, xT_d, xF_d, xL_d, W_d, Z_d] at *
  apply wp_dlen <;> assumption
theorem zwp_dlenK {a : E} (h : W (xE G C a env S) X fun x S1 => ∃ es, x = .d (.dict es) ∧ Q (.d (.int es.length)) S1) : W (xE G C (.dlen a) env S) X Q := by
  simp only [xE_d, xEs_d, xB_d, xI_d, xO_d, xCs_d, xS_d, xSs_d, xT_d, xF_d, xL_d, W_d, Z_d] at *
  apply wp_dlenK <;> assumption
theorem zwp_dcpy {a : E} (h : W (xE G C a env S) X fun x S1 => ∃ es, dctV S1 x = some es ∧ (es.all (fun p => smallK p.1) && decide (es.length ≤ 64)) = true ∧ Q (.ref S1.length) (S1 ++ [some (.dct es)])) : W (xE G C (.dcpy a) env S) X Q := by
  simp only [xE_d, xEs_d, xB_d, xI_d, xO_d, xCs_d, xS_d, xSs_d, xT_d, xF_d, xL_d, W_d, Z_d] at *
  apply wp_dcpy <;> assumption
theorem zwp_klst {a : E} (h : W (xE G C a env S) X fun x S1 => ∃ e es, dctV S1 x = some (e :: es) ∧ Q (.d (.list ((e :: es).map fun p => .tuple (p.1.map PyData.int)))) S1) : W (xE G C (.klst a) env S) X Q := by
  simp only [xE_d, xEs_d, xB_d, xI_d, xO_d, xCs_d, xS_d, xSs_d, xT_d, xF_d, xL_d, W_d, Z_d] at *
  apply wp_klst <;> assumption
theorem zwp_klstR {a : E} (h : W (xE G C a env S) X fun x S1 => ∃ n es, x = .ref n ∧ stGet S1 n = some (.dct es) ∧ Q (.d (.list (es.map fun p => .tuple (p.1.map PyData.int)))) S1) : W (xE G C (.klst a) env S) X Q := by
  simp only [xE_d, xEs_d, xB_d, xI_d, xO_d, xCs_d, xS_d, xSs_d, xT_d, xF_d, xL_d, W_d, Z_d] at *
  apply wp_klstR <;> assumption
theorem zwp_dctN (h : Q (.ref S.length) (S ++ [some (.dct [])])) : W (xE G C .dctN env S) X Q := by
  simp only [xE_d, xEs_d, xB_d, xI_d, xO_d, xCs_d, xS_d, xSs_d, xT_d, xF_d, xL_d, W_d, Z_d] at *
  apply wp_dctN <;> assumption
theorem zwp_newc {a : E} (h : W (xE G C a env S) X fun v S1 => ∃ ys, v = .d (.list ys) ∧ Q (.ref S1.length) (S1 ++ [some (.lst (ys.map Val.d))])) : W (xE G C (.newc a) env S) X Q := by
  simp only [xE_d, xEs_d, xB_d, xI_d, xO_d, xCs_d, xS_d, xSs_d, xT_d, xF_d, xL_d, W_d, Z_d] at *
  apply wp_newc <;> assumption
theorem zwp_rev {a : E} (h : W (xE G C a env S) X fun v S1 => ∃ w, revV v = some w ∧ Q w S1) : W (xE G C (.rev a) env S) X Q := by
  simp only [xE_d, xEs_d, xB_d, xI_d, xO_d, xCs_d, xS_d, xSs_d, xT_d, xF_d, xL_d, W_d, Z_d] at *
  apply wp_rev <;> assumption
theorem zwp_srtP {a : E} (h : W (xE G C a env S) X fun x S1 => ∃ xs ps, view S1 x = some (.list xs) ∧ allO (xs.map isPr) = some ps ∧ ps.length < 64 ∧ Q (.d (.list ((srtP ps).map prD))) S1) : W (xE G C (.srtP a) env S) X Q := by
  simp only [xE_d, xEs_d, xB_d, xI_d, xO_d, xCs_d, xS_d, xSs_d, xT_d, xF_d, xL_d, W_d, Z_d] at *
  apply wp_srtP <;> assumption
theorem zwp_callL {fs : List Nat} {i : E} {es : Es} (h : W (xE G C i env S) X fun y S1 => ∃ f, pickF fs y = some f ∧ W (xEs G C es env S1) X fun vs S2 => W (C f vs S2) X Q) : W (xE G C (.callL fs i es) env S) X Q := by
  simp only [xE_d, xEs_d, xB_d, xI_d, xO_d, xCs_d, xS_d, xSs_d, xT_d, xF_d, xL_d, W_d, Z_d] at *
  apply wp_callL <;> assumption
theorem zwp_xop {k : XOp} {a : E} {es : Es} (h : W (xE G C a env S) X fun x S1 => xopPre k S1 x = true ∧ W (xEs G C es env S1) X fun vs S2 => XV k x vs S2 X Q) : W (xE G C (.xop k a es) env S) X Q := by
  simp only [xE_d, xEs_d, xB_d, xI_d, xO_d, xCs_d, xS_d, xSs_d, xT_d, xF_d, xL_d, W_d, Z_d] at *
  apply wp_xop <;> assumption
theorem zwp_lenSet {a : E} (h : W (xE G C a env S) X fun x S1 => ∃ xs ns, view S1 x = some (.list xs) ∧ allI xs = some ns ∧ ns.length ≤ 4000 ∧ Q (.d (.int (firsts ns).length)) S1) : W (xE G C (.lenSet a) env S) X Q := by
  simp only [xE_d, xEs_d, xB_d, xI_d, xO_d, xCs_d, xS_d, xSs_d, xT_d, xF_d, xL_d, W_d, Z_d] at *
  apply wp_lenSet <;> assumption
theorem zwp_dictOf {a : E} (h : W (xE G C a env S) X fun x S1 => ∃ xs kvs, view S1 x = some (.list xs) ∧ allPairs xs = some kvs ∧ Q (.d (.dict (mergeI kvs))) S1) : W (xE G C (.dictOf a) env S) X Q := by
  simp only [xE_d, xEs_d, xB_d, xI_d, xO_d, xCs_d, xS_d, xSs_d, xT_d, xF_d, xL_d, W_d, Z_d] at *
  apply wp_dictOf <;> assumption
theorem zwp_dict1 {a b : E} (h : W (xE G C a env S) X fun x S1 => W (xE G C b env S1) X fun y S2 => ∃ i z, x = .d (.int i) ∧ y = .d z ∧ Q (.d (.dict [(.int i, z)])) S2) : W (xE G C (.dict1 a b) env S) X Q := by
  simp only [xE_d, xEs_d, xB_d, xI_d, xO_d, xCs_d, xS_d, xSs_d, xT_d, xF_d, xL_d, W_d, Z_d] at *
  apply wp_dict1 <;> assumption
theorem zwp_dict0 (h : Q (.d (.dict [])) S) : W (xE G C .dict0 env S) X Q := by
  simp only [xE_d, xEs_d, xB_d, xI_d, xO_d, xCs_d, xS_d, xSs_d, xT_d, xF_d, xL_d, W_d, Z_d] at *
  apply wp_dict0 <;> assumption
theorem zwp_fz {a : E} (h : W (xE G C a env S) X fun v S1 => W (xF v S1) X Q) : W (xE G C (.fz a) env S) X Q := by
  simp only [xE_d, xEs_d, xB_d, xI_d, xO_d, xCs_d, xS_d, xSs_d, xT_d, xF_d, xL_d, W_d, Z_d] at *
  apply wp_fz <;> assumption
theorem zwp_fzR {n : Nat} {vs : List Val} {ds : List D} (e : stGet S n = some (.lst vs)) (e2 : pureVs vs = some ds) (h : Q (.d (.list ds)) (S.set n none)) : W (xF (.ref n) S) X Q := by
  simp only [xE_d, xEs_d, xB_d, xI_d, xO_d, xCs_d, xS_d, xSs_d, xT_d, xF_d, xL_d, W_d, Z_d] at *
  apply wp_fzR <;> assumption
theorem zwp_fzT {n : Nat} {es : List (List Int × Val)} {p : List (List Int × PyData) × Sto} (e : stGet S n = some (.dct es)) (e2 : fzVals es S = some p) (h : Q (.d (.dict (encT p.1))) (p.2.set n none)) : W (xF (.ref n) S) X Q := by
  simp only [xE_d, xEs_d, xB_d, xI_d, xO_d, xCs_d, xS_d, xSs_d, xT_d, xF_d, xL_d, W_d, Z_d] at *
  apply wp_fzT <;> assumption
theorem zwp_fzK {n : Nat} {es : List (Int × Val)} {ds : List (Int × PyData)} (e : stGet S n = some (.kv 0 es)) (e2 : allO (es.map itemK) = some ds) (h : Q (.d (.dict (encK ds))) (S.set n none)) : W (xF (.ref n) S) X Q := by
  simp only [xE_d, xEs_d, xB_d, xI_d, xO_d, xCs_d, xS_d, xSs_d, xT_d, xF_d, xL_d, W_d, Z_d] at *
  apply wp_fzK <;> assumption
theorem zwp_newK (h : Q (.ref S.length) (S ++ [some (.kv 0 [])])) : W (xE G C (.newc .dict0) env S) X Q := by
  simp only [xE_d, xEs_d, xB_d, xI_d, xO_d, xCs_d, xS_d, xSs_d, xT_d, xF_d, xL_d, W_d, Z_d] at *
  apply wp_newK <;> assumption
theorem zwp_over {e : E} {Q : List Val × List Nat → Sto → Prop} (h : W (xE G C e env S) X fun v S1 => ∃ p, itemsV S1 v = some p ∧ Q p S1) : W (xI G C (.over e) env S) X Q := by
  simp only [xE_d, xEs_d, xB_d, xI_d, xO_d, xCs_d, xS_d, xSs_d, xT_d, xF_d, xL_d, W_d, Z_d] at *
  apply wp_over <;> assumption
theorem zwp_range1 {e : E} {Q : List Val × List Nat → Sto → Prop} (h : W (xE G C e env S) X fun v S1 => ∃ n, v = .d (.int n) ∧ (n ≤ 16777216 ∧ -16777216 ≤ n) ∧ Q (rangeVs 0 n, []) S1) : W (xI G C (.range1 e) env S) X Q := by
  simp only [xE_d, xEs_d, xB_d, xI_d, xO_d, xCs_d, xS_d, xSs_d, xT_d, xF_d, xL_d, W_d, Z_d] at *
  apply wp_range1 <;> assumption
theorem zwp_range2 {a b : E} {Q : List Val × List Nat → Sto → Prop} (h : W (xE G C a env S) X fun x S1 => W (xE G C b env S1) X fun y S2 => ∃ i j, x = .d (.int i) ∧ y = .d (.int j) ∧ (-8388608 ≤ i ∧ i ≤ 8388608 ∧ -8388608 ≤ j ∧ j ≤ 8388608) ∧ Q (rangeVs i j, []) S2) : W (xI G C (.range2 a b) env S) X Q := by
  simp only [xE_d, xEs_d, xB_d, xI_d, xO_d, xCs_d, xS_d, xSs_d, xT_d, xF_d, xL_d, W_d, Z_d] at *
  apply wp_range2 <;> assumption
theorem zwp_enum {e : E} {Q : List Val × List Nat → Sto → Prop} (h : W (xE G C e env S) X fun v S1 => ∃ p, pureItems S1 v = some p ∧ Q (enumD p.1, p.2) S1) : W (xI G C (.enum e) env S) X Q := by
  simp only [xE_d, xEs_d, xB_d, xI_d, xO_d, xCs_d, xS_d, xSs_d, xT_d, xF_d, xL_d, W_d, Z_d] at *
  apply wp_enum <;> assumption
theorem zwp_zip {a b : E} {Q : List Val × List Nat → Sto → Prop} (h : W (xE G C a env S) X fun x S1 => W (xE G C b env S1) X fun y S2 => ∃ p, zipV S2 x y = some p ∧ Q p S2) : W (xI G C (.zip a b) env S) X Q := by
  simp only [xE_d, xEs_d, xB_d, xI_d, xO_d, xCs_d, xS_d, xSs_d, xT_d, xF_d, xL_d, W_d, Z_d] at *
  apply wp_zip <;> assumption
theorem zwp_keys {e : E} {Q : List Val × List Nat → Sto → Prop} (h : W (xE G C e env S) X fun v S1 => ∃ p, keysV v = some p ∧ Q p S1) : W (xI G C (.keys e) env S) X Q := by
  simp only [xE_d, xEs_d, xB_d, xI_d, xO_d, xCs_d, xS_d, xSs_d, xT_d, xF_d, xL_d, W_d, Z_d] at *
  apply wp_keys <;> assumption
theorem zwp_items {e : E} {Q : List Val × List Nat → Sto → Prop} (h : W (xE G C e env S) X fun v S1 => ∃ n es ds, v = .ref n ∧ stGet S1 n = some (.dct es) ∧ allO (es.map itemD) = some ds ∧ Q (ds.map Val.d, []) (S1.set n none)) : W (xI G C (.items e) env S) X Q := by
  simp only [xE_d, xEs_d, xB_d, xI_d, xO_d, xCs_d, xS_d, xSs_d, xT_d, xF_d, xL_d, W_d, Z_d] at *
  apply wp_items <;> assumption
theorem zwp_comp {own : List Nat} {tg : Tg} {it : It} {cs : Es} {elt : E} (h : W (xI G C it env S) X fun p S1 => W (xL (xT G C own tg cs elt env) p.1 (lockS S1 p.2)) X fun ys S2 => Q (.d (.list ys)) (unlockS S1 S2 p.2)) : W (xE G C (.comp own tg it cs elt) env S) X Q := by
  simp only [xE_d, xEs_d, xB_d, xI_d, xO_d, xCs_d, xS_d, xSs_d, xT_d, xF_d, xL_d, W_d, Z_d] at *
  apply wp_comp <;> assumption
theorem zwp_turn {own : List Nat} {tg : Tg} {cs : Es} {elt : E} {x : Val} {e2 : MS.Env} {Q : Option D → Sto → Prop} (he : setTg tg x (wipeE env own) = some e2) (h : W (xCs G C cs e2 S) noX fun k S1 => if k then W (xE G C elt e2 S1) noX fun y S2 => ∃ z, y = .d z ∧ Q (some z) S2 else Q none S1) : W (xT G C own tg cs elt env x S) X Q := by
  simp only [xE_d, xEs_d, xB_d, xI_d, xO_d, xCs_d, xS_d, xSs_d, xT_d, xF_d, xL_d, W_d, Z_d] at *
  apply wp_turn <;> assumption
theorem zwp_cs0 {Q : Bool → Sto → Prop} (h : Q true S) : W (xCs G C .nil env S) X Q := by
  simp only [xE_d, xEs_d, xB_d, xI_d, xO_d, xCs_d, xS_d, xSs_d, xT_d, xF_d, xL_d, W_d, Z_d] at *
  apply wp_cs0 <;> assumption
theorem zwp_cs1 {e : E} {Q : Bool → Sto → Prop} (h : W (xE G C e env S) X fun v S1 => ∃ b, truthV S1 v = some b ∧ Q b S1) : W (xCs G C (.cons e .nil) env S) X Q := by
  simp only [xE_d, xEs_d, xB_d, xI_d, xO_d, xCs_d, xS_d, xSs_d, xT_d, xF_d, xL_d, W_d, Z_d] at *
  apply wp_cs1 <;> assumption
theorem zwp_compL {f : Val → Sto → R (Option D)} {I : List Val → List D → Sto → Prop} {Q : List D → Sto → Prop} {xs : List Val} (h0 : I xs [] S) (hs : ∀ x r acc S, I (x :: r) acc S → W (f x S) X fun o S1 => I r (match o with | some y => acc ++ [y] | none => acc) S1) (hd : ∀ acc S, I [] acc S → Q acc S) : W (xL f xs S) X Q := by
  simp only [xE_d, xEs_d, xB_d, xI_d, xO_d, xCs_d, xS_d, xSs_d, xT_d, xF_d, xL_d, W_d, Z_d] at *
  apply wp_compL <;> assumption
end
section
variable {G : List D} {C : Runner} {env : MS.Env} {S : Sto} {D' : En}
theorem zws_ofR {α : Type} {r : R α} {f : α → Sto → RS} (h : W r (D'.x env) fun v S1 => Z (f v S1) D') : Z (RS.ofR env r f) D' := by
  simp only [xE_d, xEs_d, xB_d, xI_d, xO_d, xCs_d, xS_d, xSs_d, xT_d, xF_d, xL_d, W_d, Z_d] at *
  apply ws_ofR <;> assumption
theorem zws_nil (h : D'.nx env S) : Z (xSs G C .nil env S) D' := by
  simp only [xE_d, xEs_d, xB_d, xI_d, xO_d, xCs_d, xS_d, xSs_d, xT_d, xF_d, xL_d, W_d, Z_d] at *
  apply ws_nil <;> assumption
theorem zws_cons {s : MS.St} {ss : Sts} (h : Z (xS G C s env S) (D'.nxt fun env1 S1 => Z (xSs G C ss env1 S1) D')) : Z (xSs G C (.cons s ss) env S) D' := by
  simp only [xE_d, xEs_d, xB_d, xI_d, xO_d, xCs_d, xS_d, xSs_d, xT_d, xF_d, xL_d, W_d, Z_d] at *
  apply ws_cons <;> assumption
theorem zws_join {s : MS.St} {ss : Sts} (J : MS.Env → Sto → Prop) (h1 : Z (xS G C s env S) (D'.nxt J)) (h2 : ∀ env S, J env S → Z (xSs G C ss env S) D') : Z (xSs G C (.cons s ss) env S) D' := by
  simp only [xE_d, xEs_d, xB_d, xI_d, xO_d, xCs_d, xS_d, xSs_d, xT_d, xF_d, xL_d, W_d, Z_d] at *
  apply ws_join <;> assumption
theorem zws_set {i : Nat} {e : E} (h : W (xE G C e env S) (D'.x env) fun v S1 => D'.nx (env.set i (some v)) S1) : Z (xS G C (.set i e) env S) D' := by
  simp only [xE_d, xEs_d, xB_d, xI_d, xO_d, xCs_d, xS_d, xSs_d, xT_d, xF_d, xL_d, W_d, Z_d] at *
  apply ws_set <;> assumption
theorem zws_setc {i : Nat} {e : E} (h : W (xE G C e env S) (D'.x env) fun v S1 => D'.nx (env.set i (some v)) S1) : Z (xS G C (.setc i e) env S) D' := by
  simp only [xE_d, xEs_d, xB_d, xI_d, xO_d, xCs_d, xS_d, xSs_d, xT_d, xF_d, xL_d, W_d, Z_d] at *
  apply ws_setc <;> assumption
theorem zws_unp {ts : Tgs} {e : E} (h : W (xE G C e env S) (D'.x env) fun v S1 => ∃ env1, setTg (.tup ts) v env = some env1 ∧ D'.nx env1 S1) : Z (xS G C (.unp ts e) env S) D' := by
  simp only [xE_d, xEs_d, xB_d, xI_d, xO_d, xCs_d, xS_d, xSs_d, xT_d, xF_d, xL_d, W_d, Z_d] at *
  apply ws_unp <;> assumption
theorem zws_par {ts : List Nat} {es : Es} (h : W (xEs G C es env S) (D'.x env) fun vs S1 => vs.length = ts.length ∧ D'.nx ((ts.zip vs).foldl (fun env p => env.set p.1 (some p.2)) env) S1) : Z (xS G C (.par ts es) env S) D' := by
  simp only [xE_d, xEs_d, xB_d, xI_d, xO_d, xCs_d, xS_d, xSs_d, xT_d, xF_d, xL_d, W_d, Z_d] at *
  apply ws_par <;> assumption
theorem zws_setix {a i e : E} (h : W (xE G C e env S) (D'.x env) fun v S1 => W (xE G C a env S1) (D'.x env) fun x S2 => W (xE G C i env S2) (D'.x env) fun y S3 => ∃ n j vs k, x = .ref n ∧ y = .d (.int j) ∧ stGet S3 n = some (.lst vs) ∧ ixOf vs.length j = some k ∧ D'.nx env (S3.set n (some (.lst (vs.set k v))))) : Z (xS G C (.setix a i e) env S) D' := by
  simp only [xE_d, xEs_d, xB_d, xI_d, xO_d, xCs_d, xS_d, xSs_d, xT_d, xF_d, xL_d, W_d, Z_d] at *
  apply ws_setix <;> assumption
theorem zws_st2 {a i b j : E} {es : Es} (h : W (xEs G C es env S) (D'.x env) fun us S1 => ∃ v w, us = [v, w] ∧ W (xE G C a env S1) (D'.x env) fun x S2 => W (xE G C i env S2) (D'.x env) fun y S3 => ∃ n p vs k, x = .ref n ∧ y = .d (.int p) ∧ stGet S3 n = some (.lst vs) ∧ ixOf vs.length p = some k ∧ W (xE G C b env (S3.set n (some (.lst (vs.set k v))))) (D'.x env) fun x2 S5 => W (xE G C j env S5) (D'.x env) fun y2 S6 => ∃ n2 p2 vs2 k2, x2 = .ref n2 ∧ y2 = .d (.int p2) ∧ stGet S6 n2 = some (.lst vs2) ∧ ixOf vs2.length p2 = some k2 ∧ D'.nx env (S6.set n2 (some (.lst (vs2.set k2 w))))) : Z (xS G C (.st2 a i b j es) env S) D' := by
  simp only [xE_d, xEs_d, xB_d, xI_d, xO_d, xCs_d, xS_d, xSs_d, xT_d, xF_d, xL_d, W_d, Z_d] at *
  apply ws_st2 <;> assumption
theorem zws_setk {a e : E} {ks : Es} (h : W (xE G C e env S) (D'.x env) fun v S1 => W (xE G C a env S1) (D'.x env) fun x S2 => W (xEs G C ks env S2) (D'.x env) fun kv S3 => ∃ n ds is es, x = .ref n ∧ pureVs kv = some ds ∧ allI ds = some is ∧ stGet S3 n = some (.dct es) ∧ (es.length < sLine ∧ is.length ≤ 1000) ∧ D'.nx env (S3.set n (some (.dct (putD es is v))))) : Z (xS G C (.setk a ks e) env S) D' := by
  simp only [xE_d, xEs_d, xB_d, xI_d, xO_d, xCs_d, xS_d, xSs_d, xT_d, xF_d, xL_d, W_d, Z_d] at *
  apply ws_setk <;> assumption
theorem zws_setd {a k e : E} (h : W (xE G C e env S) (D'.x env) fun v S1 => W (xE G C a env S1) (D'.x env) fun x S2 => W (xE G C k env S2) (D'.x env) fun y S3 => ∃ n ks es, x = .ref n ∧ keyV y = some ks ∧ stGet S3 n = some (.dct es) ∧ (es.length < sLine ∧ ks.length ≤ 1000) ∧ D'.nx env (S3.set n (some (.dct (putD es ks v))))) : Z (xS G C (.setd a k e) env S) D' := by
  simp only [xE_d, xEs_d, xB_d, xI_d, xO_d, xCs_d, xS_d, xSs_d, xT_d, xF_d, xL_d, W_d, Z_d] at *
  apply ws_setd <;> assumption
theorem zws_setdK {a k e : E} (h : W (xE G C e env S) (D'.x env) fun v S1 => W (xE G C a env S1) (D'.x env) fun x S2 => W (xE G C k env S2) (D'.x env) fun y S3 => ∃ n k es, x = .ref n ∧ y = .d (.int k) ∧ stGet S3 n = some (.kv 0 es) ∧ es.length < sLine ∧ D'.nx env (S3.set n (some (.kv 0 (putKI es k v))))) : Z (xS G C (.setd a k e) env S) D' := by
  simp only [xE_d, xEs_d, xB_d, xI_d, xO_d, xCs_d, xS_d, xSs_d, xT_d, xF_d, xL_d, W_d, Z_d] at *
  apply ws_setdK <;> assumption
theorem zws_frzs {i : Nat} {s : MS.St} {v : Val} (e : lookE env i = some v) (h : W (xF v S) (D'.x env) fun w S1 => Z (xS G C s (env.set i (some w)) S1) D') : Z (xS G C (.frzs i s) env S) D' := by
  simp only [xE_d, xEs_d, xB_d, xI_d, xO_d, xCs_d, xS_d, xSs_d, xT_d, xF_d, xL_d, W_d, Z_d] at *
  apply ws_frzs <;> assumption
theorem zws_expr {e : E} (h : W (xE G C e env S) (D'.x env) fun _ S1 => D'.nx env S1) : Z (xS G C (.expr e) env S) D' := by
  simp only [xE_d, xEs_d, xB_d, xI_d, xO_d, xCs_d, xS_d, xSs_d, xT_d, xF_d, xL_d, W_d, Z_d] at *
  apply ws_expr <;> assumption
theorem zws_app {a e : E} (h : W (xE G C a env S) (D'.x env) fun x S1 => isLst S1 x = true ∧ W (xE G C e env S1) (D'.x env) fun v S2 => ∃ n vs, x = .ref n ∧ stGet S2 n = some (.lst vs) ∧ vs.length < sLine ∧ D'.nx env (S2.set n (some (.lst (vs ++ [v]))))) : Z (xS G C (.app a e) env S) D' := by
  simp only [xE_d, xEs_d, xB_d, xI_d, xO_d, xCs_d, xS_d, xSs_d, xT_d, xF_d, xL_d, W_d, Z_d] at *
  apply ws_app <;> assumption
theorem zws_ext {a e : E} (h : W (xE G C a env S) (D'.x env) fun x S1 => isLst S1 x = true ∧ W (xE G C e env S1) (D'.x env) fun v S2 => ∃ n vs ys, x = .ref n ∧ view S2 v = some (.list ys) ∧ stGet S2 n = some (.lst vs) ∧ vs.length + ys.length ≤ sLine ∧ D'.nx env (S2.set n (some (.lst (vs ++ ys.map Val.d))))) : Z (xS G C (.ext a e) env S) D' := by
  simp only [xE_d, xEs_d, xB_d, xI_d, xO_d, xCs_d, xS_d, xSs_d, xT_d, xF_d, xL_d, W_d, Z_d] at *
  apply ws_ext <;> assumption
theorem zws_if {c : E} {t f : Sts} (h : W (xE G C c env S) (D'.x env) fun v S1 => ∃ b, truthV S1 v = some b ∧ if b then Z (xSs G C t env S1) D' else Z (xSs G C f env S1) D') : Z (xS G C (.ifs c t f) env S) D' := by
  simp only [xE_d, xEs_d, xB_d, xI_d, xO_d, xCs_d, xS_d, xSs_d, xT_d, xF_d, xL_d, W_d, Z_d] at *
  apply ws_if <;> assumption
theorem zws_ret {e : E} (h : W (xE G C e env S) (D'.x env) fun v S1 => D'.rt v S1) : Z (xS G C (.ret e) env S) D' := by
  simp only [xE_d, xEs_d, xB_d, xI_d, xO_d, xCs_d, xS_d, xSs_d, xT_d, xF_d, xL_d, W_d, Z_d] at *
  apply ws_ret <;> assumption
theorem zws_raise {c : Nat} {m : Str} (h : D'.ex ⟨c, []⟩ env S) : Z (xS G C (.raise c m) env S) D' := by
  simp only [xE_d, xEs_d, xB_d, xI_d, xO_d, xCs_d, xS_d, xSs_d, xT_d, xF_d, xL_d, W_d, Z_d] at *
  apply ws_raise <;> assumption
theorem zws_raise2 {c : Nat} {a b : E} (h : W (xE G C a env S) (D'.x env) fun x S1 => W (xE G C b env S1) (D'.x env) fun y S2 => ∃ m n, x = .d (.int m) ∧ y = .d (.int n) ∧ D'.ex ⟨c, [.int m, .int n]⟩ env S2) : Z (xS G C (.raise2 c a b) env S) D' := by
  simp only [xE_d, xEs_d, xB_d, xI_d, xO_d, xCs_d, xS_d, xSs_d, xT_d, xF_d, xL_d, W_d, Z_d] at *
  apply ws_raise2 <;> assumption
theorem zws_tri {b hh : Sts} {i : Nat} {yes no : List Nat} {d : Nat} (h : Z (xSs G C b env S) { nx := D'.nx, rt := D'.rt, bk := D'.bk, ct := D'.ct, ex := fun e env1 S1 => noExn env1 = true ∧
      ((yes.contains e.cls = true ∧ Z (xSs G C hh (env1.set i (some (.exn e))) S1) { nx := fun env2 S2 => noExn (env2.set i none) = true ∧ D'.nx (env2.set i none) S2, rt := D'.rt }) ∨ (yes.contains e.cls = false ∧ no.contains e.cls = true ∧ D'.ex e env1 S1)) }) : Z (xS G C (.tri b i yes no d hh) env S) D' := by
  simp only [xE_d, xEs_d, xB_d, xI_d, xO_d, xCs_d, xS_d, xSs_d, xT_d, xF_d, xL_d, W_d, Z_d] at *
  apply ws_tri <;> assumption
theorem zws_pass (h : D'.nx env S) : Z (xS G C .pass env S) D' := by
  simp only [xE_d, xEs_d, xB_d, xI_d, xO_d, xCs_d, xS_d, xSs_d, xT_d, xF_d, xL_d, W_d, Z_d] at *
  apply ws_pass <;> assumption
theorem zws_brk (h : D'.bk env S) : Z (xS G C .brk env S) D' := by
  simp only [xE_d, xEs_d, xB_d, xI_d, xO_d, xCs_d, xS_d, xSs_d, xT_d, xF_d, xL_d, W_d, Z_d] at *
  apply ws_brk <;> assumption
theorem zws_cnt (h : D'.ct env S) : Z (xS G C .cnt env S) D' := by
  simp only [xE_d, xEs_d, xB_d, xI_d, xO_d, xCs_d, xS_d, xSs_d, xT_d, xF_d, xL_d, W_d, Z_d] at *
  apply ws_cnt <;> assumption
theorem zws_for {tg : Tg} {it : It} {b : Sts} (h : W (xI G C it env S) (D'.x env) fun p S1 => ∃ I : List Val → MS.Env → Sto → Prop, I p.1 env (lockS S1 p.2) ∧
      (∀ x r env S, I (x :: r) env S → ∃ env1, setTg tg x env = some env1 ∧ Z (xSs G C b env1 S) (D'.turn (I r) S1 p.2)) ∧
      ∀ env S, I [] env S → D'.nx env (unlockS S1 S p.2)) : Z (xS G C (.fors tg it b) env S) D' := by
  simp only [xE_d, xEs_d, xB_d, xI_d, xO_d, xCs_d, xS_d, xSs_d, xT_d, xF_d, xL_d, W_d, Z_d] at *
  apply ws_for <;> assumption
theorem zws_while {n : Nat} {c : E} {b : Sts} (I : MS.Env → Sto → Prop) (μ : MS.Env → Sto → Nat) (h0 : I env S) (hn : μ env S < n)
    (hs : ∀ env S, I env S → W (xE G C c env S) (D'.x env) fun v S1 => ∃ k, truthV S1 v = some k ∧ if k then Z (xSs G C b env S1) (D'.lap fun env2 S2 => I env2 S2 ∧ μ env2 S2 < μ env S) else D'.nx env S1) : Z (xS G C (.whil n c b) env S) D' := by
  simp only [xE_d, xEs_d, xB_d, xI_d, xO_d, xCs_d, xS_d, xSs_d, xT_d, xF_d, xL_d, W_d, Z_d] at *
  apply ws_while <;> assumption
end
theorem zwp_run {G : List D} {P : Nat → Fn} {k i : Nat} {vs : List Val} {S : Sto} {X : XP} {Q : Val → Sto → Prop} {f : Fn} (hf : P i = f) (hl : vs.length = f.params)
    (h : Z (xSs G (MS.run G P k) f.body (vs.map some ++ List.replicate (f.slots - vs.length) none) S) (En.fn S X Q)) : W (MS.run G P (k + 1) i vs S) X Q := by
  simp only [xE_d, xEs_d, xB_d, xI_d, xO_d, xCs_d, xS_d, xSs_d, xT_d, xF_d, xL_d, W_d, Z_d] at *
  apply wp_run <;> assumption
end MS

-- MsPure
/-! Small things that the laws' own proofs share. -/
namespace MS
open PySem
theorem CallOK.mk {C : Runner} {f : Nat} {vs : List Val} {S1 S2 : Sto} {Q : Val → Sto → Prop} {ds : List D} {x : D} (e1 : allO (vs.map (deepV S1 3)) = some ds) (e2 : C f (ds.map Val.d) [] = .ok (.d x) S2) (e3 : immB x = true) (q : Q (.d x) S1) : CallOK C f vs S1 Q := by
  unfold CallOK
  exact ⟨ds, x, S2, e1, e2, e3, q⟩
theorem zif_t {c k : Bool} {A B : Prop} (h : c = k) (a : A) : if c = k then A else B := by rw [if_pos h]; exact a
theorem zif_f {c k : Bool} {A B : Prop} (h : c = !k) (b : B) : if c = k then A else B := by
  have : ¬ c = k := by rw [h]; cases k <;> simp
  rw [if_neg this]; exact b
theorem zif {c k : Bool} {A B : Prop} (a : c = k → A) (b : c = (!k) → B) : if c = k then A else B := by
  by_cases h : c = k
  · rw [if_pos h]; exact a h
  · rw [if_neg h]; exact b (by cases c <;> cases k <;> simp_all)
theorem cutS_self (v : Val) (S : Sto) : cutS S.length v S = S := by
  cases v <;> simp [cutS]
theorem cutS_len {v : Val} {S T : Sto} (h : T.length = S.length) : cutS S.length v T = T := by
  rw [← h]; exact cutS_self v T
/-- data alone, no references -/
def pureO : Option Ob → Bool
  | none => true
  | some (.lst vs) => (pureVs vs).isSome
  | some (.dct _) => false
  | some (.kv _ _) => false
/-- a store whose references lie in it -/
def PureS (S : Sto) : Prop := belowS S.length S = true
def belowO (n : Nat) (o : Option Ob) : Bool := match o with | some o => o.below n | none => true
theorem belowS_iff {n : Nat} {S : Sto} : belowS n S = true ↔ ∀ o ∈ S, belowO n o = true := by
  unfold belowS; rw [List.all_eq_true]; exact Iff.rfl
theorem pureVs_below {n : Nat} : ∀ {vs : List Val}, (pureVs vs).isSome = true → vs.all (Val.below n) = true
  | [], _ => rfl
  | .d x :: r, h => by
    simp only [pureVs, Option.isSome_map] at h
    rw [List.all_cons, pureVs_below h]; rfl
  | .ref _ :: _, h => by simp [pureVs] at h
  | .fn _ :: _, h => by simp [pureVs] at h
  | .scr _ :: _, h => by simp [pureVs] at h
  | .exn _ :: _, h => by simp [pureVs] at h
theorem pureO_below {n : Nat} {o : Option Ob} (h : pureO o = true) : belowO n o = true := by
  cases o with
  | none => rfl
  | some o =>
    cases o with
    | lst vs => exact pureVs_below h
    | dct _ => cases h
    | kv _ _ => cases h
theorem Val.below_mono {n m : Nat} (h : n ≤ m) {v : Val} (b : v.below n = true) : v.below m = true := by
  cases v with
  | ref k => simp [Val.below] at b ⊢; omega
  | _ => rfl
theorem belowO_mono {n m : Nat} (h : n ≤ m) {o : Option Ob} (b : belowO n o = true) : belowO m o = true := by
  cases o with
  | none => rfl
  | some o =>
    cases o with
    | lst vs =>
      simp only [belowO, Ob.below, List.all_eq_true] at b ⊢
      exact fun v hv => Val.below_mono h (b v hv)
    | dct kvs =>
      simp only [belowO, Ob.below, List.all_eq_true] at b ⊢
      exact fun v hv => Val.below_mono h (b v hv)
    | kv _ kvs =>
      simp only [belowO, Ob.below, List.all_eq_true] at b ⊢
      exact fun v hv => Val.below_mono h (b v hv)
theorem PureS.below {S : Sto} (h : PureS S) {n : Nat} (hn : S.length ≤ n) : belowS n S = true := by
  rw [belowS_iff]
  exact fun o ho => belowO_mono hn (belowS_iff.mp h o ho)
/-- what a callee laid is forgotten -/
theorem cutS_app {S T U : Sto} {v : Val} (hv : ∀ n, v ≠ .ref n) (h : PureS S) (e : U = S ++ T) : cutS S.length v U = S := by
  subst e
  have hb := h.below (Nat.le_refl S.length)
  have e2 : (S ++ T).take S.length = S := by simp
  cases v with
  | ref n => exact absurd rfl (hv n)
  | d _ => simp only [cutS, e2, hb, if_true]
  | fn _ => simp only [cutS, e2, hb, if_true]
  | scr _ => simp only [cutS, e2, hb, if_true]
  | exn _ => simp only [cutS, e2, hb, if_true]
theorem PureS.setR {S : Sto} (h : PureS S) {n : Nat} {o : Option Ob} (ho : belowO S.length o = true) : PureS (S.set n o) := by
  unfold PureS
  rw [belowS_iff, List.length_set]
  intro x hx
  rcases List.mem_or_eq_of_mem_set hx with z | z
  · exact belowS_iff.mp h x z
  · rw [z]; exact ho
theorem PureS.set {S : Sto} (h : PureS S) {n : Nat} {o : Option Ob} (ho : pureO o = true) : PureS (S.set n o) := h.setR (pureO_below ho)
theorem PureS.appR {S : Sto} (h : PureS S) {o : Option Ob} (ho : belowO (S.length + 1) o = true) : PureS (S ++ [o]) := by
  unfold PureS
  rw [belowS_iff, List.length_append, List.length_singleton]
  intro x hx
  rcases List.mem_append.mp hx with z | z
  · exact belowO_mono (Nat.le_succ _) (belowS_iff.mp h x z)
  · rw [List.mem_singleton.mp z]; exact ho
theorem PureS.app {S : Sto} (h : PureS S) {o : Option Ob} (ho : pureO o = true) : PureS (S ++ [o]) := h.appR (pureO_below ho)
theorem stGet_at {S T : Sto} {o : Ob} : stGet (S ++ some o :: T) S.length = some o := by simp [stGet]
theorem isLst_at {S T : Sto} {vs : List Val} : isLst (S ++ some (.lst vs) :: T) (.ref S.length) = true := by
  simp only [isLst, stGet_at]
theorem set_at {S T : Sto} {o o' : Option Ob} : (S ++ o :: T).set S.length o' = S ++ o' :: T := by simp
theorem stGet_ne {S : Sto} {n m : Nat} {o : Option Ob} (h : n ≠ m) : stGet (S.set n o) m = stGet S m := by
  unfold stGet; rw [List.getElem?_set_ne h]
theorem stGet_eq {S : Sto} {n : Nat} {o : Ob} (h : n < S.length) : stGet (S.set n (some o)) n = some o := by
  unfold stGet; rw [List.getElem?_set_self h]; rfl
theorem stGet_l {S T : Sto} {n : Nat} (h : n < S.length) : stGet (S ++ T) n = stGet S n := by
  unfold stGet; rw [List.getElem?_append_left h]
/-! ### the pen -/
abbrev penO (c f : Int) : Option Ob := some (.lst [.d (.int c), .d (.int f)])
structure Pn (p : Nat) (S : Sto) : Prop where
  lt : p < S.length
  ob : ∃ c f, S[p]? = some (penO c f)
  pu : PureS S
/-- the pen at p has moved on -/
def Gen (p : Nat) (S S' : Sto) : Prop := ∃ c f, S' = S.set p (penO c f)
theorem Gen.pn {p : Nat} {S S' : Sto} (g : Gen p S S') (h : Pn p S) : Pn p S' := by
  obtain ⟨c, f, rfl⟩ := g
  exact ⟨by simpa using h.lt, ⟨c, f, by rw [List.getElem?_set_self h.lt]⟩, h.pu.set rfl⟩
theorem Gen.refl {p : Nat} {S : Sto} (h : Pn p S) : Gen p S S := by
  obtain ⟨c, f, e⟩ := h.ob
  refine ⟨c, f, (List.ext_getElem? fun i => ?_).symm⟩
  by_cases hi : p = i
  · subst hi; rw [List.getElem?_set_self h.lt, e]
  · rw [List.getElem?_set_ne hi]
theorem Gen.trans {p : Nat} {S S1 S2 : Sto} (a : Gen p S S1) (b : Gen p S1 S2) : Gen p S S2 := by
  obtain ⟨c, f, rfl⟩ := a
  obtain ⟨c', f', rfl⟩ := b
  exact ⟨c', f', by rw [List.set_set]⟩
theorem Gen.len {p : Nat} {S S1 : Sto} (a : Gen p S S1) : S1.length = S.length := by
  obtain ⟨c, f, rfl⟩ := a; simp
theorem Pn.get {p : Nat} {S : Sto} (h : Pn p S) : ∃ c f, stGet S p = some (.lst [.d (.int c), .d (.int f)]) := by
  obtain ⟨c, f, e⟩ := h.ob
  exact ⟨c, f, by unfold stGet; rw [e]; rfl⟩
theorem pen_ix0 {S : Sto} {p : Nat} {c f : Int} (e : stGet S p = some (.lst [.d (.int c), .d (.int f)])) : ixV S (.ref p) (.int 0) = some (.d (.int c)) := by
  simp [ixV, e, atD, ixOf]
theorem pen_ix1 {S : Sto} {p : Nat} {c f : Int} (e : stGet S p = some (.lst [.d (.int c), .d (.int f)])) : ixV S (.ref p) (.int 1) = some (.d (.int f)) := by
  simp [ixV, e, atD, ixOf]
theorem binD_mod {a b : Int} (h : 0 < b) : binD .mod (.int a) (.int b) = some (.int (a % b)) := by simp [binD, h]
theorem binD_fdiv {a b : Int} (h : 0 < b) (h2 : b < 2147483648) : binD .fdiv (.int a) (.int b) = some (.int (a / b)) := by simp [binD, h, h2]
theorem binD_mul {a b : Int} (h : mulOk a b = true) : binD .mul (.int a) (.int b) = some (.int (a * b)) := by simp [binD, h]
theorem Pn.app {p : Nat} {S : Sto} (h : Pn p S) {o : Option Ob} (ho : pureO o = true) : Pn p (S ++ [o]) := by
  obtain ⟨c, f, e⟩ := h.ob
  exact ⟨by have := h.lt; simp; omega, ⟨c, f, by rw [List.getElem?_append_left h.lt]; exact e⟩, h.pu.app ho⟩
theorem Gen.app {p : Nat} {S T S' : Sto} (h : p < S.length) (g : Gen p (S ++ T) S') : ∃ S1, Gen p S S1 ∧ S' = S1 ++ T := by
  obtain ⟨c, f, rfl⟩ := g
  exact ⟨S.set p (penO c f), ⟨c, f, rfl⟩, by rw [List.set_append_left _ _ h]⟩
end MS
namespace MS
open PySem
/-! ### comprehensions that change nothing -/
theorem zcomp_map {f : Val → Sto → R (Option D)} {g : Val → Option D} {S : Sto} {X : XP} {Q : List D → Sto → Prop} {xs : List Val} (h : ∀ x ∈ xs, W (f x S) noX fun o S' => o = g x ∧ S' = S) (q : Q (xs.filterMap g) S) : W (xL f xs S) X Q := by
  rw [W_d] at *
  rw [xL_d]
  exact Wp.of (compL_map (g := g) xs fun x hx => Wp.ok (h x hx)) q
theorem atD_nat {α : Type} {xs : List α} {i : Nat} (h : i < xs.length) : atD xs (i : Int) = xs[i]? := by
  unfold atD ixOf
  have h1 : (0 : Int) ≤ (i : Int) := Int.natCast_nonneg i
  have h2 : (i : Int) < (xs.length : Int) := by omega
  simp [h1, h2]
theorem atD_zero {α : Type} {x : α} {xs : List α} : atD (x :: xs) 0 = some x := by
  have := atD_nat (xs := x :: xs) (i := 0) (by simp)
  simpa using this
theorem pureItems_tup {S : Sto} {xs : List D} : pureItems S (.d (.tuple xs)) = some (xs, []) := by simp [pureItems, itemsV]
theorem pureItems_lst {S : Sto} {xs : List D} : pureItems S (.d (.list xs)) = some (xs, []) := by simp [pureItems, itemsV]
theorem enum_mem {ds : List D} {x : Val} (h : x ∈ enumD ds) : ∃ (i : Nat) (d : D), x = .d (.tuple [.int i, d]) ∧ ds[i]? = some d := by
  unfold enumD at h
  obtain ⟨⟨d, i⟩, h1, rfl⟩ := List.mem_map.mp h
  exact ⟨i, d, rfl, by have := List.mem_zipIdx' h1; rw [List.getElem?_eq_getElem this.1]; exact congrArg some this.2.symm⟩
theorem range_mem {a b : Int} {x : Val} (h : x ∈ rangeVs a b) : ∃ i : Int, x = .d (.int i) ∧ a ≤ i ∧ i < b := by
  unfold rangeVs at h
  obtain ⟨k, h1, rfl⟩ := List.mem_map.mp h
  have := List.mem_range.mp h1
  exact ⟨_, rfl, by omega, by omega⟩
theorem W.call {α : Type} {r : R α} {X : XP} {Q Q' : α → Sto → Prop} (h : W r noX Q) (k : ∀ v S, Q v S → Q' v S) : W r X Q' := h.imp2 k (fun _ _ z => z.elim)
theorem ix_list {S : Sto} {xs : List D} {i : Int} (h0 : 0 ≤ i) (h1 : i < xs.length) : ∃ x, x ∈ xs ∧ ixV S (.d (.list xs)) (.int i) = some (.d x) := by
  obtain ⟨j, rfl⟩ := Int.eq_ofNat_of_zero_le h0
  have hj : j < xs.length := by omega
  refine ⟨xs[j], List.getElem_mem hj, ?_⟩
  simp only [ixV, ixD]
  rw [atD_nat hj, List.getElem?_eq_getElem hj]; rfl
theorem ix_tup {S : Sto} {xs : List D} {i : Int} (h0 : 0 ≤ i) (h1 : i < xs.length) : ∃ x, x ∈ xs ∧ ixV S (.d (.tuple xs)) (.int i) = some (.d x) := by
  obtain ⟨j, rfl⟩ := Int.eq_ofNat_of_zero_le h0
  have hj : j < xs.length := by omega
  refine ⟨xs[j], List.getElem_mem hj, ?_⟩
  simp only [ixV, ixD]
  rw [atD_nat hj, List.getElem?_eq_getElem hj]; rfl
theorem allPairs_some : ∀ {ds : List D}, (∀ d ∈ ds, ∃ i x, d = .tuple [.int i, x]) → ∃ kvs, allPairs ds = some kvs
  | [], _ => ⟨[], rfl⟩
  | d :: ds, h => by
    obtain ⟨i, x, rfl⟩ := h d (by simp)
    obtain ⟨kvs, e⟩ := allPairs_some (ds := ds) fun y hy => h y (by simp [hy])
    exact ⟨(i, x) :: kvs, by simp [allPairs, e]⟩
theorem zix_list {S : Sto} {xs : List D} {r : Int} {Q : Val → Sto → Prop} (h0 : 0 ≤ r) (h1 : r < xs.length) (k : ∀ x ∈ xs, Q (.d x) S) : ∃ i w, Val.d (.int r) = .d (.int i) ∧ ixV S (.d (.list xs)) (.int i) = some w ∧ Q w S := by
  obtain ⟨x, hx, e⟩ := ix_list (S := S) h0 h1
  exact ⟨_, _, rfl, e, k x hx⟩
theorem zix_tup {S : Sto} {xs : List D} {r : Int} {Q : Val → Sto → Prop} (h0 : 0 ≤ r) (h1 : r < xs.length) (k : ∀ x ∈ xs, Q (.d x) S) : ∃ i w, Val.d (.int r) = .d (.int i) ∧ ixV S (.d (.tuple xs)) (.int i) = some w ∧ Q w S := by
  obtain ⟨x, hx, e⟩ := ix_tup (S := S) h0 h1
  exact ⟨_, _, rfl, e, k x hx⟩
theorem PureS.cat {S T : Sto} (h : PureS S) (h' : PureS T) : PureS (S ++ T) := by
  unfold PureS
  rw [belowS_iff, List.length_append]
  intro x hx
  rcases List.mem_append.mp hx with z | z
  · exact belowO_mono (Nat.le_add_right _ _) (belowS_iff.mp h x z)
  · exact belowO_mono (Nat.le_add_left _ _) (belowS_iff.mp h' x z)
theorem Pn.cat {p : Nat} {S T : Sto} (h : Pn p S) (h' : PureS T) : Pn p (S ++ T) := by
  obtain ⟨c, f, e⟩ := h.ob
  exact ⟨by have := h.lt; simp; omega, ⟨c, f, by rw [List.getElem?_append_left h.lt]; exact e⟩, h.pu.cat h'⟩
theorem pureO_d (xs : List D) : pureO (some (.lst (xs.map Val.d))) = true := by simp [pureO]
theorem PureS.nil : PureS [] := rfl
theorem PureS.cons {o : Option Ob} {S : Sto} (h : pureO o = true) (h' : PureS S) : PureS (o :: S) :=
  PureS.cat (S := [o]) (PureS.app PureS.nil h) h'
end MS

namespace Lw
section
open PySem MS
def f_is_from : Fn := ⟨3, 3,
    (.cons (.ret (.bools true (.cons (.isi (.var 0) [.int]) (.cons (.not (.isi (.var 0) [.bool])) (.cons (.chain .le .le (.var 1) (.var 0) (.var 2)) .nil)))))
    .nil)⟩
def f_rises : Fn := ⟨1, 2,
    (.cons (.ret (.bi .all (.comp [1] (.name 1) (.range1 (.bin .sub (.bi .len (.var 0)) (.int 1))) .nil (.cmp .lt (.ix (.var 0) (.var 1)) (.ix (.var 0) (.bin .add (.var 1) (.int 1)))))))
    .nil)⟩
def f_is_custom : Fn := ⟨1, 2,
    (.cons (.ifs (.bools false (.cons (.not (.isi (.var 0) [.tuple])) (.cons (.not (.chain .le .le (.int 1) (.bi .len (.var 0)) (.glob 0))) .nil))) (.cons (.ret (.bool false))
    .nil) .nil)
    (.cons (.ret (.bi .all (.comp [1] (.name 1) (.over (.var 0)) .nil (.call 0 (.cons (.var 1) (.cons (.int 1) (.cons (.glob 1) .nil)))))))
    .nil))⟩
def f_is_claim : Fn := ⟨1, 1,
    (.cons (.ifs (.bools false (.cons (.not (.isi (.var 0) [.tuple])) (.cons (.cmp .ne (.bi .len (.var 0)) (.int 3)) (.cons (.not (.call 0 (.cons (.ix (.var 0) (.int 0)) (.cons (.int 0) (.cons (.glob 2) .nil))))) .nil)))) (.cons (.ret (.bool false))
    .nil) .nil)
    (.cons (.ret (.bools true (.cons (.call 0 (.cons (.ix (.var 0) (.int 1)) (.cons (.int 0) (.cons (.bin .sub (.glob 0) (.int 1)) .nil)))) (.cons (.call 0 (.cons (.ix (.var 0) (.int 2)) (.cons (.int 1) (.cons (.glob 3) .nil)))) .nil))))
    .nil))⟩
def f_are_claims : Fn := ⟨1, 2,
    (.cons (.ifs (.bools false (.cons (.not (.isi (.var 0) [.tuple])) (.cons (.not (.chain .le .le (.int 1) (.bi .len (.var 0)) (.glob 4))) (.cons (.not (.bi .all (.comp [1] (.name 1) (.over (.var 0)) .nil (.call 3 (.cons (.var 1) .nil))))) .nil)))) (.cons (.ret (.bool false))
    .nil) .nil)
    (.cons (.ret (.call 1 (.cons (.comp [1] (.name 1) (.over (.var 0)) .nil (.sl (.var 1) .no (.yes (.int 2)))) .nil)))
    .nil))⟩
def f_need_custom : Fn := ⟨1, 1,
    (.cons (.ifs (.not (.call 2 (.cons (.var 0) .nil))) (.cons (.raise 1001 (Str.ofString "no custom"))
    .nil) .nil)
    .nil)⟩
def f_need_claim : Fn := ⟨1, 1,
    (.cons (.ifs (.not (.call 3 (.cons (.var 0) .nil))) (.cons (.raise 1002 (Str.ofString "no claim"))
    .nil) .nil)
    .nil)⟩
def f_need_claims : Fn := ⟨1, 1,
    (.cons (.ifs (.not (.call 4 (.cons (.var 0) .nil))) (.cons (.raise 1003 (Str.ofString "no claims"))
    .nil) .nil)
    .nil)⟩
def f_stand : Fn := ⟨2, 5,
    (.cons (.ret (.bi .all (.comp [2, 3, 4] (.tup (.cons (.name 2) (.cons (.name 3) (.cons (.name 4) .nil)))) (.over (.var 1)) .nil (.cmp .lt (.var 3) (.bi .len (.var 0))))))
    .nil)⟩
def f_holders_in : Fn := ⟨1, 2,
    (.cons (.ret (.srt true false (.comp [1] (.name 1) (.over (.var 0)) .nil (.ix (.var 1) (.int 0)))))
    .nil)⟩
def f_holders_of : Fn := ⟨1, 1,
    (.cons (.expr (.call 7 (.cons (.var 0) .nil)))
    (.cons (.ret (.call 9 (.cons (.var 0) .nil)))
    .nil))⟩
def f_need_holder : Fn := ⟨2, 2,
    (.cons (.ifs (.bools false (.cons (.not (.call 0 (.cons (.var 1) (.cons (.int 0) (.cons (.glob 2) .nil))))) (.cons (.cmp .notin (.var 1) (.call 9 (.cons (.var 0) .nil))) .nil))) (.cons (.raise 1004 (Str.ofString "no holder"))
    .nil) .nil)
    .nil)⟩
def f_need_standing : Fn := ⟨3, 3,
    (.cons (.expr (.call 5 (.cons (.var 0) .nil)))
    (.cons (.expr (.call 7 (.cons (.var 1) .nil)))
    (.cons (.ifs (.not (.call 8 (.cons (.var 0) (.cons (.var 1) .nil)))) (.cons (.raise 1003 (Str.ofString "a sort that the custom has not"))
    .nil) .nil)
    (.cons (.expr (.call 11 (.cons (.var 1) (.cons (.var 2) .nil))))
    .nil))))⟩
def f_counted : Fn := ⟨3, 6,
    (.cons (.ret (.bi .sum (.comp [3, 4, 5] (.tup (.cons (.name 3) (.cons (.name 4) (.cons (.name 5) .nil)))) (.over (.var 1)) (.cons (.cmp .eq (.var 3) (.var 2)) .nil) (.bin .mul (.ix (.var 0) (.var 4)) (.var 5)))))
    .nil)⟩
def f_counted_all : Fn := ⟨2, 5,
    (.cons (.ret (.bi .sum (.comp [2, 3, 4] (.tup (.cons (.name 2) (.cons (.name 3) (.cons (.name 4) .nil)))) (.over (.var 1)) .nil (.bin .mul (.ix (.var 0) (.var 3)) (.var 4)))))
    .nil)⟩
def f_count_of : Fn := ⟨3, 3,
    (.cons (.expr (.call 12 (.cons (.var 0) (.cons (.var 1) (.cons (.var 2) .nil)))))
    (.cons (.ret (.call 13 (.cons (.var 0) (.cons (.var 1) (.cons (.var 2) .nil)))))
    .nil))⟩
def f_lessened : Fn := ⟨2, 4,
    (.cons (.par [2, 3] (.cons (.var 0) (.cons (.var 1) .nil)))
    (.cons (.whil 100000 (.cmp .ne (.var 3) (.int 0)) (.cons (.par [2, 3] (.cons (.var 3) (.cons (.bin .mod (.var 2) (.var 3)) .nil)))
    .nil))
    (.cons (.ret (.tup (.cons (.bin .fdiv (.var 0) (.var 2)) (.cons (.bin .fdiv (.var 1) (.var 2)) .nil))))
    .nil)))⟩
def f_share_of : Fn := ⟨3, 3,
    (.cons (.expr (.call 12 (.cons (.var 0) (.cons (.var 1) (.cons (.var 2) .nil)))))
    (.cons (.ret (.call 16 (.cons (.call 13 (.cons (.var 0) (.cons (.var 1) (.cons (.var 2) .nil)))) (.cons (.call 14 (.cons (.var 0) (.cons (.var 1) .nil))) .nil))))
    .nil))⟩
def f_laid : Fn := ⟨2, 3,
    (.cons (.expr (.call 7 (.cons (.var 0) .nil)))
    (.cons (.expr (.call 6 (.cons (.var 1) .nil)))
    (.cons (.ifs (.cmp .isin (.sl (.var 1) .no (.yes (.int 2))) (.comp [2] (.name 2) (.over (.var 0)) .nil (.sl (.var 2) .no (.yes (.int 2))))) (.cons (.raise 1005 (Str.ofString "there already"))
    .nil) .nil)
    (.cons (.ifs (.cmp .eq (.bi .len (.var 0)) (.glob 4)) (.cons (.raise2 1007 (.bin .add (.glob 4) (.int 1)) (.glob 4))
    .nil) .nil)
    (.cons (.ret (.bi .tuple (.srt false false (.bin .add (.var 0) (.tup (.cons (.var 1) .nil))))))
    .nil)))))⟩
def f_denied : Fn := ⟨2, 3,
    (.cons (.expr (.call 7 (.cons (.var 0) .nil)))
    (.cons (.expr (.call 6 (.cons (.var 1) .nil)))
    (.cons (.ifs (.cmp .notin (.var 1) (.var 0)) (.cons (.raise 1006 (Str.ofString "not there"))
    .nil) .nil)
    (.cons (.ifs (.cmp .eq (.bi .len (.var 0)) (.int 1)) (.cons (.raise 1003 (Str.ofString "the only one"))
    .nil) .nil)
    (.cons (.ret (.bi .tuple (.comp [2] (.name 2) (.over (.var 0)) (.cons (.cmp .ne (.var 2) (.var 1)) .nil) (.var 2))))
    .nil)))))⟩
def f_joined : Fn := ⟨3, 9,
    (.cons (.expr (.call 7 (.cons (.var 0) .nil)))
    (.cons (.expr (.call 11 (.cons (.var 0) (.cons (.var 1) .nil))))
    (.cons (.expr (.call 11 (.cons (.var 0) (.cons (.var 2) .nil))))
    (.cons (.ifs (.cmp .eq (.var 1) (.var 2)) (.cons (.raise 1004 (Str.ofString "one holder twice"))
    .nil) .nil)
    (.cons (.set 3 .dctN)
    (.cons (.fors (.tup (.cons (.name 5) (.cons (.name 6) (.cons (.name 7) .nil)))) (.over (.var 0)) (.cons (.set 8 (.ife (.cmp .eq (.var 5) (.var 2)) (.var 1) (.var 5)))
    (.cons (.setk (.var 3) (.cons (.var 8) (.cons (.var 6) .nil)) (.bin .add (.dgetZ (.var 3) (.tup (.cons (.var 8) (.cons (.var 6) .nil))) (.int 0)) (.var 7)))
    .nil)))
    (.cons (.set 4 (.bi .tuple (.srt false false (.comp [7, 8, 6] (.tup (.cons (.tup (.cons (.name 8) (.cons (.name 6) .nil))) (.cons (.name 7) .nil))) (.items (.var 3)) .nil (.tup (.cons (.var 8) (.cons (.var 6) (.cons (.var 7) .nil))))))))
    (.cons (.fors (.tup (.cons (.name 8) (.cons (.name 6) (.cons (.name 7) .nil)))) (.over (.var 4)) (.cons (.ifs (.cmp .gt (.var 7) (.glob 3)) (.cons (.raise2 1007 (.var 7) (.glob 3))
    .nil) .nil)
    .nil))
    (.cons (.ret (.var 4))
    .nil)))))))))⟩
def f_law_cell : Fn := ⟨2, 2,
    (.cons (.ifs (.cmp .lt (.var 1) (.bi .len (.var 0))) (.cons (.ret (.ix (.var 0) (.var 1)))
    .nil) .nil)
    (.cons (.ret (.int 0))
    .nil))⟩
def f_law_pen : Fn := ⟨1, 1,
    (.cons (.ret (.lstN (.cons (.var 0) (.cons (.bi .int (.cmp .ge (.var 0) (.bin .pow (.int 10) (.int 18)))) .nil))))
    .nil)⟩
def f_law_draw : Fn := ⟨2, 3,
    (.cons (.ifs (.cmp .eq (.ix (.var 0) (.int 1)) (.int 1)) (.cons (.set 2 (.bin .mod (.ix (.var 0) (.int 0)) (.var 1)))
    (.cons (.setix (.var 0) (.int 0) (.bin .fdiv (.ix (.var 0) (.int 0)) (.var 1)))
    (.cons (.ret (.var 2))
    .nil))) .nil)
    (.cons (.setix (.var 0) (.int 0) (.bin .mod (.bin .add (.bin .mul (.bin .mod (.ix (.var 0) (.int 0)) (.int 2147483629)) (.int 48271)) (.int 11)) (.int 2147483629)))
    (.cons (.ret (.bin .mod (.bin .fdiv (.bin .mod (.bin .add (.bin .mul (.ix (.var 0) (.int 0)) (.ix (.var 0) (.int 0))) (.bin .mul (.int 40692) (.ix (.var 0) (.int 0)))) (.int 2147483647)) (.int 8)) (.var 1)))
    .nil)))⟩
def f_law_pick : Fn := ⟨2, 2,
    (.cons (.ret (.ix (.var 1) (.call 23 (.cons (.var 0) (.cons (.bi .len (.var 1)) .nil)))))
    .nil)⟩
def f_law_custom : Fn := ⟨1, 2,
    (.cons (.ret (.bi .tuple (.comp [1] (.name 1) (.range1 (.bin .add (.int 1) (.call 23 (.cons (.var 0) (.cons (.int 4) .nil))))) .nil (.call 24 (.cons (.var 0) (.cons (.lst (.cons (.int 1) (.cons (.int 1) (.cons (.int 2) (.cons (.int 3) (.cons (.bin .add (.int 1) (.call 23 (.cons (.var 0) (.cons (.int 100) .nil)))) .nil)))))) .nil))))))
    .nil)⟩
def f_law_claims : Fn := ⟨3, 9,
    (.cons (.set 3 .dctN)
    (.cons (.fors (.name 4) (.range1 (.bin .add (.int 1) (.call 23 (.cons (.var 0) (.cons (.int 8) .nil))))) (.cons (.par [5, 6] (.cons (.call 24 (.cons (.var 0) (.cons (.var 2) .nil))) (.cons (.call 23 (.cons (.var 0) (.cons (.bi .len (.var 1)) .nil))) .nil)))
    (.cons (.setk (.var 3) (.cons (.var 5) (.cons (.var 6) .nil)) (.call 24 (.cons (.var 0) (.cons (.lst (.cons (.int 1) (.cons (.int 1) (.cons (.int 2) (.cons (.int 3) (.cons (.bin .add (.int 1) (.call 23 (.cons (.var 0) (.cons (.int 20) .nil)))) .nil)))))) .nil))))
    .nil)))
    (.cons (.ret (.bi .tuple (.srt false false (.comp [7, 8] (.tup (.cons (.name 7) (.cons (.name 8) .nil))) (.items (.var 3)) .nil (.bin .add (.var 7) (.tup (.cons (.var 8) .nil)))))))
    .nil)))⟩
def f_law_sum : Fn := ⟨1, 5,
    (.cons (.par [1, 2] (.cons (.int 0) (.cons (.int 1) .nil)))
    (.cons (.fors (.tup (.cons (.name 3) (.cons (.name 4) .nil))) (.over (.var 0)) (.cons (.par [1, 2] (.cons (.bin .add (.bin .mul (.var 1) (.var 4)) (.bin .mul (.var 3) (.var 2))) (.cons (.bin .mul (.var 2) (.var 4)) .nil)))
    .nil))
    (.cons (.ret (.tup (.cons (.var 1) (.cons (.var 2) .nil))))
    .nil)))⟩
def f_law_like : Fn := ⟨2, 2,
    (.cons (.ret (.cmp .eq (.bin .mul (.ix (.var 0) (.int 0)) (.ix (.var 1) (.int 1))) (.bin .mul (.ix (.var 1) (.int 0)) (.ix (.var 0) (.int 1)))))
    .nil)⟩
def f_law_joins : Fn := ⟨4, 9,
    (.cons (.tri (.cons (.set 7 (.call 20 (.cons (.var 1) (.cons (.var 2) (.cons (.var 3) .nil)))))
    .nil) 4 [1007] [1000, 1001, 1002, 1003, 1004, 1005, 1006] 1007
    (.cons (.ret (.bools true (.cons (.cmp .gt (.xfld 4 0) (.int 20)) (.cons (.cmp .eq (.xfld 4 1) (.int 20)) .nil))))
    .nil))
    (.cons (.set 5 (.call 27 (.cons (.lst (.cons (.call 17 (.cons (.var 0) (.cons (.var 1) (.cons (.var 2) .nil)))) (.cons (.call 17 (.cons (.var 0) (.cons (.var 1) (.cons (.var 3) .nil)))) .nil))) .nil)))
    (.cons (.ifs (.bools false (.cons (.cmp .isin (.var 3) (.call 10 (.cons (.var 7) .nil))) (.cons (.not (.call 28 (.cons (.call 17 (.cons (.var 0) (.cons (.var 7) (.cons (.var 2) .nil)))) (.cons (.var 5) .nil)))) .nil))) (.cons (.ret (.bool false))
    .nil) .nil)
    (.cons (.setc 6 (.comp [8] (.name 8) (.over (.call 10 (.cons (.var 1) .nil))) (.cons (.cmp .notin (.var 8) (.tup (.cons (.var 2) (.cons (.var 3) .nil)))) .nil) (.var 8)))
    (.cons (.ret (.cmp .eq (.comp [8] (.name 8) (.over (.var 6)) .nil (.call 17 (.cons (.var 0) (.cons (.var 7) (.cons (.var 8) .nil))))) (.comp [8] (.name 8) (.over (.var 6)) .nil (.call 17 (.cons (.var 0) (.cons (.var 1) (.cons (.var 8) .nil)))))))
    .nil)))))⟩
def f_law : Fn := ⟨1, 14,
    (.cons (.fors (.name 1) (.over (.bin .add (.lst (.cons (.call 21 (.cons (.var 0) (.cons (.int 0) .nil))) .nil)) (.sl (.var 0) (.yes (.int 1)) (.yes (.int 5))))) (.cons (.set 2 (.call 22 (.cons (.var 1) .nil)))
    (.cons (.set 3 (.call 25 (.cons (.var 2) .nil)))
    (.cons (.set 4 (.call 26 (.cons (.var 2) (.cons (.var 3) (.cons (.lst (.cons (.int 0) (.cons (.int 1) (.cons (.int 2) (.cons (.int 3) .nil))))) .nil)))))
    (.cons (.set 5 (.call 10 (.cons (.var 4) .nil)))
    (.cons (.setc 6 (.comp [11] (.name 11) (.over (.var 5)) .nil (.call 17 (.cons (.var 3) (.cons (.var 4) (.cons (.var 11) .nil))))))
    (.cons (.ifs (.not (.call 28 (.cons (.call 27 (.cons (.var 6) .nil)) (.cons (.tup (.cons (.int 1) (.cons (.int 1) .nil))) .nil)))) (.cons (.ret (.bool false))
    .nil) .nil)
    (.cons (.set 7 (.tup (.cons (.call 23 (.cons (.var 2) (.cons (.int 4) .nil))) (.cons (.int 5) (.cons (.bin .add (.int 1) (.call 23 (.cons (.var 2) (.cons (.int 20) .nil)))) .nil)))))
    (.cons (.ifs (.bools true (.cons (.cmp .lt (.bi .len (.var 4)) (.int 12)) (.cons (.cmp .ne (.call 19 (.cons (.call 18 (.cons (.var 4) (.cons (.var 7) .nil))) (.cons (.var 7) .nil))) (.var 4)) .nil))) (.cons (.ret (.bool false))
    .nil) .nil)
    (.cons (.set 8 (.bin .add (.int 1) (.call 23 (.cons (.var 2) (.cons (.bin .fdiv (.int 100) (.bi .max (.var 3))) .nil)))))
    (.cons (.set 9 (.bi .tuple (.comp [12] (.name 12) (.over (.var 3)) .nil (.bin .mul (.var 12) (.var 8)))))
    (.cons (.setc 10 (.comp [11] (.name 11) (.over (.var 5)) .nil (.call 17 (.cons (.var 9) (.cons (.var 4) (.cons (.var 11) .nil))))))
    (.cons (.ifs (.bools false (.cons (.not (.call 2 (.cons (.var 9) .nil))) (.cons (.cmp .ne (.var 10) (.var 6)) .nil))) (.cons (.ret (.bool false))
    .nil) .nil)
    (.cons (.fors (.name 11) (.over (.var 5)) (.cons (.ifs (.cmp .lt (.call 15 (.cons (.var 3) (.cons (.var 4) (.cons (.var 11) .nil)))) (.bi .sum (.comp [13] (.name 13) (.over (.var 4)) (.cons (.cmp .eq (.ix (.var 13) (.int 0)) (.var 11)) .nil) (.ix (.var 13) (.int 2))))) (.cons (.ret (.bool false))
    .nil) .nil)
    .nil))
    (.cons (.ifs (.bools true (.cons (.cmp .gt (.bi .len (.var 5)) (.int 1)) (.cons (.not (.call 29 (.cons (.var 3) (.cons (.var 4) (.cons (.ix (.var 5) (.int 0)) (.cons (.ix (.var 5) (.neg (.int 1))) .nil)))))) .nil))) (.cons (.ret (.bool false))
    .nil) .nil)
    .nil)))))))))))))))
    (.cons (.ret (.bool true))
    .nil))⟩
def Gl : List D := [(.int (6)), (.int (100)), (.int (3)), (.int (20)), (.int (12))]
def Pr (i : Nat) : Fn := match i with
  | 0 => f_is_from
  | 1 => f_rises
  | 2 => f_is_custom
  | 3 => f_is_claim
  | 4 => f_are_claims
  | 5 => f_need_custom
  | 6 => f_need_claim
  | 7 => f_need_claims
  | 8 => f_stand
  | 9 => f_holders_in
  | 10 => f_holders_of
  | 11 => f_need_holder
  | 12 => f_need_standing
  | 13 => f_counted
  | 14 => f_counted_all
  | 15 => f_count_of
  | 16 => f_lessened
  | 17 => f_share_of
  | 18 => f_laid
  | 19 => f_denied
  | 20 => f_joined
  | 21 => f_law_cell
  | 22 => f_law_pen
  | 23 => f_law_draw
  | 24 => f_law_pick
  | 25 => f_law_custom
  | 26 => f_law_claims
  | 27 => f_law_sum
  | 28 => f_law_like
  | 29 => f_law_joins
  | 30 => f_law
  | _ => ⟨0, 0, .nil⟩

local macro_rules | `(tactic| fail) => `(tactic| first
  | refine zws_cons ?_ | refine zws_nil ?_ | refine zws_set ?_ | refine zws_setc ?_ | refine zws_unp ?_ | refine zws_par ?_ | refine zws_setix ?_ | refine zws_st2 ?_ | refine zws_expr ?_ | refine zws_setk ?_ | refine zws_setd ?_ | refine zws_app ?_ | refine zws_ext ?_ | refine zws_if ?_ | refine zws_ret ?_ | refine zws_pass ?_ | refine zws_brk ?_ | refine zws_cnt ?_ | refine zws_raise ?_ | refine zws_raise2 ?_ | refine zws_tri ?_
  | refine zwp_var rfl ?_ | refine zwp_xfld rfl rfl ?_ | refine zwp_glob rfl ?_ | refine zwp_none ?_ | refine zwp_bool ?_ | refine zwp_int ?_ | refine zwp_str ?_ | refine zwp_tup ?_ | refine zwp_lst ?_ | refine zwp_lstN ?_ | refine zwp_nil ?_ | refine zwp_cons ?_ | refine zwp_bin ?_ | refine zwp_neg ?_ | refine zwp_not ?_ | refine zwp_bools ?_ | refine zwp_b1 ?_ | refine zwp_b2 ?_ | refine zwp_cmp ?_ | refine zwp_chain ?_ | refine zwp_ife ?_ | refine zwp_ix ?_ | refine zwp_no ?_ | refine zwp_yes ?_ | refine zwp_sl ?_ | refine zwp_call ?_ | refine zwp_bi ?_ | refine zwp_xop ?_ | refine xv_lzip rfl ?_ | refine zwp_isi ?_ | refine zwp_lenSet ?_ | refine zwp_dictOf ?_ | refine zwp_dict1 ?_ | refine zwp_dict0 ?_ | refine zwp_fz ?_ | refine zwp_over ?_ | refine zwp_range1 ?_ | refine zwp_range2 ?_ | refine zwp_enum ?_ | refine zwp_zip ?_ | refine zwp_mm ?_ | refine zwp_srtD ?_ | refine zwp_srtN ?_ | refine zwp_dctN ?_ | refine zwp_newK ?_ | refine zwp_newc ?_ | refine zwp_rev ?_ | refine zwp_dget ?_ | refine zwp_dgetZ ?_ | refine zwp_getI ?_ | refine zwp_dict2 ?_ | refine zwp_din ?_ | refine zwp_dlen ?_ | refine zwp_dcpy ?_ | refine zwp_klst ?_ | refine zwp_srtP ?_ | refine zwp_callL ?_ | refine zwp_items ?_ | refine zwp_keys ?_ | refine zwp_newK ?_ | refine zws_frzs rfl ?_ | refine zwp_callP ?_ | refine zwp_comp ?_ | refine zwp_cs0 ?_ | refine zwp_cs1 ?_
  | refine zif_t rfl ?_ | refine zif_f rfl ?_
  | refine ⟨_, rfl, ?_⟩ | refine ⟨_, _, _, rfl, rfl, rfl, ?_⟩ | refine ⟨_, _, rfl, rfl, ?_⟩ | refine ⟨rfl, ?_⟩ | refine ⟨_, pureItems_tup, ?_⟩ | refine ⟨_, pureItems_lst, ?_⟩)
-- D1.lean
theorem view_ref {S : Sto} {n : Nat} {xs : List D} (h : stGet S n = some (.lst (xs.map Val.d))) : view S (.ref n) = some (.list xs) := by
  simp only [view, h, pureVs_map, Option.map_some]
theorem bi_len_ref {S : Sto} {n : Nat} {xs : List D} (h : stGet S n = some (.lst (xs.map Val.d))) : biV S .len (.ref n) = some (.int xs.length) := by
  simp only [biV, lenV, h, Option.map_some, List.length_map] <;> rfl
theorem bi_len_ref' {S : Sto} {n : Nat} {vs : List Val} (h : stGet S n = some (.lst vs)) : biV S .len (.ref n) = some (.int vs.length) := by
  simp only [biV, lenV, h, Option.map_some] <;> rfl
theorem items_ref {S : Sto} {n : Nat} {vs : List Val} (h : stGet S n = some (.lst vs)) : itemsV S (.ref n) = some (vs, [n]) := by
  simp only [itemsV, h]
theorem W.ofX {α : Type} {r : R α} {X : XP} {Q : α → Sto → Prop} {e : Exc} {S : Sto} (h : r = .exc e S) (x : X e S) : W r X Q := by
  rw [W_d, h]; exact x
theorem W.okX {α : Type} {r : R α} {e : Exc} {S : Sto} (h : W r (fun e' S' => e' = e ∧ S' = S) fun _ _ => False) : r = .exc e S := by
  rw [W_d] at h
  cases r with
  | ok _ _ => exact h.elim
  | exc e' S' => obtain ⟨rfl, rfl⟩ := h; rfl
  | stuck => exact h.elim
theorem set_self {α : Type} {l : List α} {n : Nat} {a : α} (h : l[n]? = some a) : l.set n a = l := by
  refine List.ext_getElem? fun i => ?_
  by_cases hi : n = i
  · subst hi; rw [List.getElem?_set_self (List.getElem?_eq_some_iff.mp h).1, h]
  · rw [List.getElem?_set_ne hi]
theorem stGet_iff {S : Sto} {n : Nat} {o : Ob} : stGet S n = some o ↔ S[n]? = some (some o) := by
  unfold stGet
  cases S[n]? with
  | none => simp
  | some o => simp
theorem unlock1 {S : Sto} {n : Nat} {o : Ob} (h : stGet S n = some o) : unlockS S (lockS S [n]) [n] = S := by
  have := stGet_iff.mp h
  simp only [lockS, unlockS, List.foldl_cons, List.foldl_nil, List.set_set, this, Option.join_some]
  exact set_self this
theorem ixv_tup {S : Sto} {xs : List D} {i : Nat} {x : D} (h : xs[i]? = some x) : ixV S (.d (.tuple xs)) (.int i) = some (.d x) := by
  have := (List.getElem?_eq_some_iff.mp h).1
  simp only [ixV, ixD, atD_nat this, h, Option.map_some]
def gD (f : D → D) : Val → Option D
  | .d y => some (f y)
  | _ => none
theorem gD_map {f : D → D} (xs : List D) : (xs.map Val.d).filterMap (gD f) = xs.map f := by
  induction xs with
  | nil => rfl
  | cons x xs ih => simp only [List.map_cons, List.filterMap_cons, ih, gD]
theorem biV_all {S : Sto} {xs : List D} {f : D → Bool} : biV S .all (.d (.list (xs.map fun y => .bool (f y)))) = some (.bool (xs.all f)) := by
  have e : (xs.map fun y => PyData.bool (f y)) = (xs.map f).map PyData.bool := by rw [List.map_map]; rfl
  simp only [biV, view_d, Option.bind_some, biD, e, allB_map, Option.map_some, List.all_map]
  rfl
theorem ixv_list {S : Sto} {xs : List D} {i : Nat} {x : D} (h : xs[i]? = some x) : ixV S (.d (.list xs)) (.int i) = some (.d x) := by
  have := (List.getElem?_eq_some_iff.mp h).1
  simp only [ixV, ixD, atD_nat this, h, Option.map_some]
theorem ixv_ref {S : Sto} {n : Nat} {vs : List Val} {i : Nat} {x : Val} (h : stGet S n = some (.lst vs)) (h2 : vs[i]? = some x) : ixV S (.ref n) (.int i) = some x := by
  have := (List.getElem?_eq_some_iff.mp h2).1
  simp only [ixV, h, atD_nat this, h2]
theorem deep_ref {S : Sto} {n k : Nat} {xs : List D} (h : stGet S n = some (.lst (xs.map Val.d))) : deepV S (k + 1) (.ref n) = some (.list xs) := by
  have : allO ((xs.map Val.d).map (deepV S k)) = some xs := by
    rw [List.map_map]
    clear h
    induction xs with
    | nil => rfl
    | cons x xs ih =>
      have e : deepV S k (.d x) = some x := by cases k <;> rfl
      simp only [List.map_cons, Function.comp, e, allO]
      rw [ih]; rfl
  simp only [deepV, h, this, Option.map_some]
def numB (x : D) (a b : Int) : Bool := match x with
  | .int i => decide (a ≤ i) && decide (i ≤ b)
  | _ => false
theorem is_from_run (k : Nat) (x : D) (a b : Int) (S : Sto) : MS.run Gl Pr (k + 1) 0 [.d x, .d (.int a), .d (.int b)] S = .ok (.d (.bool (numB x a b))) S := by
  refine W.ok (zwp_run (f := f_is_from) rfl rfl ?_)
  unfold f_is_from
  cases x
  case int i =>
    repeat fail
    refine zif (fun h => ?_) (fun h => ?_)
    · repeat fail
      refine ⟨?_, cutS_self _ _⟩
      simp [numB, of_decide_eq_true h]
    · refine ⟨?_, cutS_self _ _⟩
      have : ¬ a ≤ _ := of_decide_eq_false h
      simp [numB, this]
  all_goals repeat fail
  all_goals exact cutS_self _ _
theorem draw_run (k : Nat) {p : Nat} {m : Int} {S : Sto} (h : Pn p S) (h0 : 0 < m) (h1 : m < 2147483648) : W (MS.run Gl Pr (k + 1) 23 [.ref p, .d (.int m)] S) noX fun v S' => ∃ r, v = .d (.int r) ∧ 0 ≤ r ∧ r < m ∧ Gen p S S' := by
  obtain ⟨c, f, e⟩ := h.get
  have lt := h.lt
  refine zwp_run (f := f_law_draw) rfl rfl ?_
  unfold f_law_draw
  repeat fail
  refine ⟨_, _, rfl, pen_ix1 e, ?_⟩
  repeat fail
  refine zif (fun hf => ?_) (fun hf => ?_)
  · repeat fail
    refine ⟨_, _, rfl, pen_ix0 e, ?_⟩
    repeat fail
    refine ⟨_, _, _, rfl, rfl, binD_mod h0, ?_⟩
    repeat fail
    refine ⟨_, _, rfl, pen_ix0 e, ?_⟩
    repeat fail
    refine ⟨_, _, _, rfl, rfl, binD_fdiv h0 h1, ?_⟩
    repeat fail
    refine ⟨_, _, _, _, rfl, rfl, e, rfl, ?_⟩
    repeat fail
    refine ⟨Int.emod_nonneg _ (by omega), Int.emod_lt_of_pos _ h0, ?_⟩
    rw [cutS_len (by simp)]
    exact ⟨_, _, rfl⟩
  · repeat fail
    refine ⟨_, _, rfl, pen_ix0 e, ?_⟩
    repeat fail
    refine ⟨_, _, _, rfl, rfl, binD_mul (by unfold mulOk; simp), ?_⟩
    repeat fail
    refine ⟨_, _, _, _, rfl, rfl, e, rfl, ?_⟩
    have e2 : stGet (S.set p (penO ((c % 2147483629 * 48271 + 11) % 2147483629) f)) p = some (.lst [.d (.int ((c % 2147483629 * 48271 + 11) % 2147483629)), .d (.int f)]) := stGet_eq lt
    have b1 := Int.emod_nonneg (c % 2147483629 * 48271 + 11) (show (2147483629 : Int) ≠ 0 by decide)
    have b2 := Int.emod_lt_of_pos (c % 2147483629 * 48271 + 11) (show (0 : Int) < 2147483629 by decide)
    generalize (c % 2147483629 * 48271 + 11) % 2147483629 = d at e2 b1 b2
    repeat fail
    refine ⟨_, _, rfl, pen_ix0 e2, ?_⟩
    repeat fail
    refine ⟨_, _, rfl, pen_ix0 e2, ?_⟩
    have mk : mulOk d d = true := by unfold mulOk; simp; omega
    refine ⟨_, _, _, rfl, rfl, binD_mul mk, ?_⟩
    repeat fail
    refine ⟨_, _, rfl, pen_ix0 e2, ?_⟩
    refine ⟨_, _, _, rfl, rfl, binD_mul (by unfold mulOk; simp), ?_⟩
    repeat fail
    refine ⟨_, _, _, rfl, rfl, binD_mod h0, ?_⟩
    refine ⟨_, rfl, Int.emod_nonneg _ (by omega), Int.emod_lt_of_pos _ h0, ?_⟩
    rw [cutS_len (by simp)]
    exact ⟨_, _, rfl⟩
theorem sIx_nn {n d : Nat} {i : Int} (h : 0 ≤ i) : sIx n d (some i) = min i.toNat n := by
  simp only [sIx]
  rw [if_neg (by omega)]
theorem cut_drop {α : Type} {xs : List α} {i : Int} (h : 0 ≤ i) : cut xs (some i) none = xs.drop i.toNat := by
  unfold cut
  rw [sIx_nn h]
  have e : sIx xs.length xs.length none = xs.length := rfl
  rw [e]
  by_cases hi : i.toNat ≤ xs.length
  · rw [Nat.min_eq_left hi, List.take_of_length_le (by simp)]
  · rw [Nat.min_eq_right (by omega), List.drop_of_length_le (Nat.le_refl _), List.drop_of_length_le (by omega)]; simp
theorem cut_take {α : Type} {xs : List α} {i : Int} (h : 0 ≤ i) : cut xs none (some i) = xs.take i.toNat := by
  unfold cut
  rw [sIx_nn h]
  have e : sIx xs.length 0 none = 0 := rfl
  rw [e, List.drop_zero, Nat.sub_zero]
  by_cases hi : i.toNat ≤ xs.length
  · rw [Nat.min_eq_left hi]
  · rw [Nat.min_eq_right (by omega), List.take_length, List.take_of_length_le (by omega)]
theorem ixOf_nat {n i : Nat} (h : i < n) : ixOf n (i : Int) = some i := by
  unfold ixOf
  rw [if_pos (Int.natCast_nonneg i), if_pos (by omega)]; rfl
theorem draw_app (k : Nat) {p : Nat} {m : Int} {S T : Sto} (h : Pn p S) (hT : PureS T) (h0 : 0 < m) (h1 : m < 2147483648) : W (MS.run Gl Pr (k + 1) 23 [.ref p, .d (.int m)] (S ++ T)) noX fun v S' => ∃ r S1, v = .d (.int r) ∧ 0 ≤ r ∧ r < m ∧ Gen p S S1 ∧ S' = S1 ++ T := by
  refine W.call (draw_run k (h.cat hT) h0 h1) fun v S' ⟨r, e, r0, r1, g⟩ => ?_
  obtain ⟨S1, g1, e1⟩ := g.app h.lt
  exact ⟨r, S1, e, r0, r1, g1, e1⟩
theorem cell_run (k : Nat) (ns : List Int) (S : Sto) : W (MS.run Gl Pr (k + 1) 21 [.scr ns, .d (.int 0)] S) noX fun v S' => ∃ c, v = .d (.int c) ∧ S' = S := by
  refine zwp_run (f := f_law_cell) rfl rfl ?_
  unfold f_law_cell
  repeat fail
  refine zif (fun h => ?_) (fun h => ?_)
  · cases ns with
    | nil => simp at h
    | cons c ns =>
      repeat fail
      refine ⟨_, _, rfl, (show ixV S (.scr (c :: ns)) (.int 0) = some (.d (.int c)) by simp only [ixV, atD_zero]; rfl), ?_⟩
      exact ⟨c, rfl, cutS_self _ _⟩
  · repeat fail
    exact cutS_self _ _
theorem pen_run (k : Nat) (c : Int) {S : Sto} (hS : PureS S) : W (MS.run Gl Pr (k + 1) 22 [.d (.int c)] S) noX fun v S' => v = .ref S.length ∧ Pn S.length S' := by
  refine zwp_run (f := f_law_pen) rfl rfl ?_
  unfold f_law_pen
  repeat fail
  refine ⟨by simp [cutS], ?_, ?_⟩
  · exact ⟨c, _, by simp [cutS]; rfl⟩
  · exact hS.app rfl
theorem cut_len {α : Type} (xs : List α) (lo hi : Option Int) : (cut xs lo hi).length ≤ xs.length := by
  unfold cut
  rw [List.length_take, List.length_drop]; omega
theorem add_tup {a b : List D} (h : a.length + b.length ≤ sLine) : binD .add (.tuple a) (.tuple b) = some (.tuple (a ++ b)) := by
  simp only [binD]; rw [if_pos h]
theorem add_lst {a b : List D} (h : a.length + b.length ≤ sLine) : binD .add (.list a) (.list b) = some (.list (a ++ b)) := by
  simp only [binD]; rw [if_pos h]
theorem mul_tup {a : List D} {i : Int} (h : 0 ≤ i ∧ i ≤ 1000 ∧ a.length ≤ 1000) : binD .mul (.tuple a) (.int i) = some (.tuple (List.replicate i.toNat a).flatten) := by
  simp only [binD]; rw [if_pos h]
theorem gen_cut {p : Nat} {S S' : Sto} {v : Val} (g : Gen p S S') : Gen p S (cutS S.length v S') := by
  rw [cutS_len g.len]; exact g
theorem pick_run (k : Nat) {p : Nat} {S : Sto} (hp : Pn p S) {xs : List D} (h0 : 0 < xs.length) (h1 : xs.length < 5000) : W (MS.run Gl Pr (k + 2) 24 [.ref p, .d (.list xs)] S) noX fun v S' => ∃ x, x ∈ xs ∧ v = .d x ∧ Gen p S S' := by
  refine zwp_run (f := f_law_pick) rfl rfl ?_
  unfold f_law_pick
  repeat fail
  refine W.call (draw_run _ hp (by show (0 : Int) < (xs.length : Int); omega) (by show (xs.length : Int) < _; omega)) fun v S1 ⟨r1, e, r10, r11, g1⟩ => ?_
  subst e
  refine zix_list r10 r11 fun y hy => ?_
  exact ⟨y, hy, rfl, gen_cut g1⟩
theorem pick_app (k : Nat) {p : Nat} {S T : Sto} (hp : Pn p S) (hT : PureS T) {xs : List D} (h0 : 0 < xs.length) (h1 : xs.length < 5000) : W (MS.run Gl Pr (k + 2) 24 [.ref p, .d (.list xs)] (S ++ T)) noX fun v S' => ∃ x S1, x ∈ xs ∧ v = .d x ∧ Gen p S S1 ∧ S' = S1 ++ T := by
  refine W.call (pick_run k (hp.cat hT) h0 h1) fun v S' ⟨x, hx, e, g⟩ => ?_
  obtain ⟨S1, g1, e1⟩ := g.app hp.lt
  exact ⟨x, S1, hx, e, g1, e1⟩
/-! ### a thing is the same as itself -/
def nice : Nat → D → Bool
  | _, .none => true
  | _, .bool _ => true
  | _, .int _ => true
  | _, .str s => PyData.canLay0 (.str s)
  | n + 1, .list xs => xs.all (nice n)
  | n + 1, .tuple xs => xs.all (nice n)
  | _, _ => false
theorem all_const {S : Sto} : ∀ (xs : List Val) (h : ∀ x ∈ xs, ∃ y, x = Val.d y), biV S .all (.d (.list (xs.filterMap fun _ => some (.bool true)))) = some (.bool true) := by
  intro xs h
  have e : (xs.filterMap fun _ => some (PyData.bool true)) = xs.map fun _ => .bool true := by
    rw [List.filterMap_eq_map' ]
  rw [e]
  have e2 : (xs.map fun _ => PyData.bool true) = (xs.map fun _ => true).map PyData.bool := by simp
  simp only [biV, view_d, Option.bind_some, biD, e2, allB_map, Option.map_some, List.all_map]
  simp

-- D2.lean
/-! ### customs and claims -/
abbrev Cl := Int × Int × Int
abbrev cD (c : Cl) : D := .tuple [.int c.1, .int c.2.1, .int c.2.2]
abbrev clD (cs : List Cl) : D := .tuple (cs.map cD)
abbrev cuD (cu : List Int) : D := .tuple (cu.map PyData.int)
def pLt (a b : Cl) : Prop := a.1 < b.1 ∨ (a.1 = b.1 ∧ a.2.1 < b.2.1)
structure GCu (cu : List Int) : Prop where
  l1 : 1 ≤ cu.length
  l2 : cu.length ≤ 6
  b : ∀ n ∈ cu, 1 ≤ n ∧ n ≤ 100
structure GCl (n : Nat) (cs : List Cl) : Prop where
  l1 : 1 ≤ cs.length
  l2 : cs.length ≤ 12
  b : ∀ c ∈ cs, (0 ≤ c.1 ∧ c.1 ≤ 3) ∧ (0 ≤ c.2.1 ∧ c.2.1 < n) ∧ 1 ≤ c.2.2 ∧ c.2.2 ≤ 20
  p : cs.Pairwise pLt
  n6 : n ≤ 6
theorem dataLt_pp (a b : Cl) (h : pLt a b) : PySem.W.dataLt (.tuple [.int a.1, .int a.2.1]) (.tuple [.int b.1, .int b.2.1]) = true := by
  rw [PySem.W.dataLt_ii]
  exact decide_eq_true h
theorem lt_pp {a b : Cl} (h : pLt a b) : cmpD .lt (.tuple [.int a.1, .int a.2.1]) (.tuple [.int b.1, .int b.2.1]) = some true := by
  show ltD _ _ = _
  unfold ltD
  rw [if_pos (by rfl), dataLt_pp a b h]
def pD (c : Cl) : D := .tuple [.int c.1, .int c.2.1]
theorem rises_run (k : Nat) {cs : List Cl} (S : Sto) (hp : cs.Pairwise pLt) (hl : 1 ≤ cs.length) (hl2 : cs.length ≤ 12) : MS.run Gl Pr (k + 1) 1 [.d (.list (cs.map pD))] S = .ok (.d (.bool true)) S := by
  refine W.ok (zwp_run (f := f_rises) rfl rfl ?_)
  unfold f_rises
  repeat fail
  have hlen : ((cs.map pD).length : Int) = cs.length := by simp
  refine ⟨?_, ?_⟩
  · show ((cs.map pD).length : Int) - 1 ≤ 16777216 ∧ -16777216 ≤ ((cs.map pD).length : Int) - 1
    omega
  refine zcomp_map (g := fun _ => some (.bool true)) (fun x hx => ?_) ?_
  · obtain ⟨i, rfl, h0, h1⟩ := range_mem hx
    have h1' : i < ((cs.map pD).length : Int) - 1 := h1
    obtain ⟨j, rfl⟩ := Int.eq_ofNat_of_zero_le h0
    have hj : j + 1 < cs.length := by omega
    have e1 : (cs.map pD)[j]? = some (pD cs[j]) := by rw [List.getElem?_map, List.getElem?_eq_getElem (by omega)]; rfl
    have e2 : (cs.map pD)[j + 1]? = some (pD cs[j + 1]) := by rw [List.getElem?_map, List.getElem?_eq_getElem hj]; rfl
    refine zwp_turn rfl ?_
    repeat fail
    refine ⟨_, _, rfl, ixv_list e1, ?_⟩
    repeat fail
    refine ⟨_, _, rfl, ixv_list (i := j + 1) e2, ?_⟩
    refine ⟨_, _, _, rfl, rfl, lt_pp (List.pairwise_iff_getElem.mp hp j (j + 1) (by omega) hj (by omega)), ?_⟩
    repeat fail
    rfl
  · refine ⟨_, all_const _ (fun x hx => ?_), ?_⟩
    · obtain ⟨i, rfl, _⟩ := range_mem hx
      exact ⟨_, rfl⟩
    exact ⟨rfl, cutS_self _ _⟩
theorem is_custom_run (k : Nat) {cu : List Int} (S : Sto) (h : GCu cu) : MS.run Gl Pr (k + 2) 2 [.d (cuD cu)] S = .ok (.d (.bool true)) S := by
  have hl : ((cu.map PyData.int).length : Int) = cu.length := by simp
  have := h.l1; have := h.l2
  refine W.ok (zwp_run (f := f_is_custom) rfl rfl ?_)
  unfold f_is_custom
  repeat fail
  refine zif_t (decide_eq_true (by show (1 : Int) ≤ ((cu.map PyData.int).length : Int); omega)) ?_
  repeat fail
  refine zif_f (by show (!decide (((cu.map PyData.int).length : Int) ≤ 6)) = false; rw [decide_eq_true (by omega)]; rfl) ?_
  repeat fail
  refine zcomp_map (g := gD fun y => .bool (numB y 1 100)) (fun x hx => ?_) ?_
  · obtain ⟨y, hy, rfl⟩ := List.mem_map.mp hx
    refine zwp_turn rfl ?_
    repeat fail
    refine W.of (is_from_run _ _ _ _ _) ?_
    repeat fail
    rfl
  · rw [gD_map]
    refine ⟨_, biV_all, ?_⟩
    refine ⟨?_, cutS_self _ _⟩
    have : (cu.map PyData.int).all (fun y => numB y 1 100) = true := by
      rw [List.all_eq_true]
      intro y hy
      obtain ⟨n, hn, rfl⟩ := List.mem_map.mp hy
      have := h.b n hn
      simp [numB]; omega
    rw [this]
theorem is_claim_run (k : Nat) {c : Cl} (S : Sto) (h : (0 ≤ c.1 ∧ c.1 ≤ 3) ∧ (0 ≤ c.2.1 ∧ c.2.1 ≤ 5) ∧ 1 ≤ c.2.2 ∧ c.2.2 ≤ 20) : MS.run Gl Pr (k + 2) 3 [.d (cD c)] S = .ok (.d (.bool true)) S := by
  obtain ⟨a, b, m⟩ := c
  obtain ⟨⟨h1, h2⟩, ⟨h3, h4⟩, h5, h6⟩ := h
  dsimp only at h1 h2 h3 h4 h5 h6
  refine W.ok (zwp_run (f := f_is_claim) rfl rfl ?_)
  unfold f_is_claim
  repeat fail
  refine W.of (is_from_run _ _ _ _ _) ?_
  repeat fail
  refine zif_f (by show (!numB (.int a) 0 3) = false; simp [numB, h1, h2]) ?_
  repeat fail
  refine W.of (is_from_run _ _ _ _ _) ?_
  repeat fail
  refine zif_t (by show numB (.int b) 0 5 = true; simp [numB, h3, h4]) ?_
  repeat fail
  refine W.of (is_from_run _ _ _ _ _) ?_
  refine ⟨?_, cutS_self _ _⟩
  have : numB (.int m) 1 20 = true := by simp [numB, h5, h6]
  show Val.d (.bool (numB (.int m) 1 20)) = _
  rw [this]
theorem are_claims_run (k n : Nat) {cs : List Cl} (S : Sto) (h : GCl n cs) : MS.run Gl Pr (k + 3) 4 [.d (clD cs)] S = .ok (.d (.bool true)) S := by
  have hl : ((cs.map cD).length : Int) = cs.length := by simp
  have h1 := h.l1; have h2 := h.l2; have h3 := h.n6
  refine W.ok (zwp_run (f := f_are_claims) rfl rfl ?_)
  unfold f_are_claims
  repeat fail
  refine zif_t (decide_eq_true (by show (1 : Int) ≤ ((cs.map cD).length : Int); omega)) ?_
  repeat fail
  refine zif_t (by show (!decide (((cs.map cD).length : Int) ≤ 12)) = false; rw [decide_eq_true (by omega)]; rfl) ?_
  repeat fail
  refine zcomp_map (g := fun _ => some (.bool true)) (fun x hx => ?_) ?_
  · obtain ⟨y, hy, rfl⟩ := List.mem_map.mp hx
    obtain ⟨c, hc, rfl⟩ := List.mem_map.mp hy
    have hb := h.b c hc
    refine zwp_turn rfl ?_
    repeat fail
    refine W.of (is_claim_run _ _ ⟨hb.1, ⟨hb.2.1.1, by omega⟩, hb.2.2⟩) ?_
    repeat fail
    rfl
  refine ⟨_, all_const _ (fun x hx => ?_), ?_⟩
  · obtain ⟨y, hy, rfl⟩ := List.mem_map.mp hx
    exact ⟨_, rfl⟩
  repeat fail
  refine zcomp_map (g := gD fun y => match y with | .tuple (a :: b :: _) => .tuple [a, b] | _ => .none) (fun x hx => ?_) ?_
  · obtain ⟨y, hy, rfl⟩ := List.mem_map.mp hx
    obtain ⟨c, hc, rfl⟩ := List.mem_map.mp hy
    refine zwp_turn rfl ?_
    repeat fail
    rfl
  have e2 : (cs.map cD).map (fun y => match y with | .tuple (a :: b :: _) => .tuple [a, b] | _ => .none) = cs.map pD := by
    rw [List.map_map]; rfl
  rw [gD_map, e2]
  repeat fail
  refine W.of (rises_run _ _ h.p h1 h2) ?_
  exact ⟨rfl, cutS_self _ _⟩
theorem stand_run (k : Nat) {cu : List Int} {cs : List Cl} (S : Sto) (h : GCl cu.length cs) : MS.run Gl Pr (k + 1) 8 [.d (cuD cu), .d (clD cs)] S = .ok (.d (.bool true)) S := by
  have hl : ((cu.map PyData.int).length : Int) = cu.length := by simp
  refine W.ok (zwp_run (f := f_stand) rfl rfl ?_)
  unfold f_stand
  repeat fail
  refine zcomp_map (g := fun _ => some (.bool true)) (fun x hx => ?_) ?_
  · obtain ⟨y, hy, rfl⟩ := List.mem_map.mp hx
    obtain ⟨c, hc, rfl⟩ := List.mem_map.mp hy
    have hb := h.b c hc
    refine zwp_turn rfl ?_
    repeat fail
    have : decide (c.2.1 < ((cu.map PyData.int).length : Int)) = true := decide_eq_true (by omega)
    refine ⟨?_, rfl⟩
    show some (PyData.bool (decide (c.2.1 < ((cu.map PyData.int).length : Int)))) = _
    rw [this]
  refine ⟨_, all_const _ (fun x hx => ?_), ?_⟩
  · obtain ⟨y, hy, rfl⟩ := List.mem_map.mp hx
    exact ⟨_, rfl⟩
  exact ⟨rfl, cutS_self _ _⟩
def hsOf (cs : List Cl) : List Int := srtI (cs.map (·.1))
theorem comp_fst {cs : List Cl} : ((cs.map cD).map Val.d).filterMap (gD fun y => match y with | .tuple (a :: _) => a | _ => .none) = (cs.map (·.1)).map PyData.int := by
  rw [gD_map, List.map_map, List.map_map]
  rfl
theorem sort_fst {cs : List Cl} (h : cs.length ≤ 12) : sortX true ((cs.map (·.1)).map PyData.int) = some ((hsOf cs).map PyData.int) := by
  unfold sortX
  dsimp only
  rw [allI_map, Option.bind_some, if_pos (by rw [List.length_map]; omega)]
  rfl
theorem holders_in_run (k : Nat) {cs : List Cl} (S : Sto) (h : cs.length ≤ 12) : MS.run Gl Pr (k + 1) 9 [.d (clD cs)] S = .ok (.d (.list ((hsOf cs).map PyData.int))) S := by
  refine W.ok (zwp_run (f := f_holders_in) rfl rfl ?_)
  unfold f_holders_in
  repeat fail
  refine zcomp_map (g := gD fun y => match y with | .tuple (a :: _) => a | _ => .none) (fun x hx => ?_) ?_
  · obtain ⟨y, hy, rfl⟩ := List.mem_map.mp hx
    obtain ⟨c, hc, rfl⟩ := List.mem_map.mp hy
    refine zwp_turn rfl ?_
    repeat fail
    rfl
  rw [comp_fst]
  refine ⟨_, _, rfl, sort_fst h, ?_⟩
  exact ⟨rfl, cutS_self _ _⟩
theorem lay_ints : ∀ (ns : List Int), PyData.canLayAll0 (ns.map PyData.int) = true
  | [] => rfl
  | n :: ns => by simp only [List.map_cons, PyData.canLayAll0, lay_ints ns, PyData.canLay0]; rfl
theorem any_ints (h : Int) : ∀ (ns : List Int), (ns.map PyData.int).any (fun z => PyData.eqv z (.int h)) = decide (h ∈ ns)
  | [] => by simp
  | n :: ns => by
    rw [List.map_cons, List.any_cons, any_ints h ns]
    simp only [PyData.eqv, List.mem_cons]
    by_cases e : h = n
    · subst e; simp
    · have : ¬ n = h := fun z => e z.symm
      simp [e, this]
theorem need_holder_run (k : Nat) {cs : List Cl} {h : Int} {S : Sto} (hS : PureS S) (hl : cs.length ≤ 12) (hh : 0 ≤ h ∧ h ≤ 3) (hm : h ∈ hsOf cs) : MS.run Gl Pr (k + 2) 11 [.d (clD cs), .d (.int h)] S = .ok (.d .none) S := by
  refine W.ok (zwp_run (f := f_need_holder) rfl rfl ?_)
  unfold f_need_holder
  repeat fail
  refine W.of (is_from_run _ _ _ _ _) ?_
  repeat fail
  refine zif_t (by show (!numB (.int h) 0 3) = false; simp [numB, hh]) ?_
  repeat fail
  refine W.of (holders_in_run _ _ hl) ?_
  refine ⟨_, _, _, rfl, rfl, (show (inD _ _).map _ = some _ from by unfold inD; rw [if_pos (by unfold inOk; rw [lay_ints]; rfl), any_ints, decide_eq_true hm]; rfl), ?_⟩
  repeat fail
  exact cutS_self _ _
theorem need_custom_run (k : Nat) {cu : List Int} (S : Sto) (h : GCu cu) : MS.run Gl Pr (k + 3) 5 [.d (cuD cu)] S = .ok (.d .none) S := by
  refine W.ok (zwp_run (f := f_need_custom) rfl rfl ?_)
  unfold f_need_custom
  repeat fail
  refine W.of (is_custom_run _ _ h) ?_
  repeat fail
  exact cutS_self _ _
theorem need_claims_run (k n : Nat) {cs : List Cl} (S : Sto) (h : GCl n cs) : MS.run Gl Pr (k + 4) 7 [.d (clD cs)] S = .ok (.d .none) S := by
  refine W.ok (zwp_run (f := f_need_claims) rfl rfl ?_)
  unfold f_need_claims
  repeat fail
  refine W.of (are_claims_run _ n _ h) ?_
  repeat fail
  exact cutS_self _ _
theorem holders_of_run (k n : Nat) {cs : List Cl} (S : Sto) (h : GCl n cs) : MS.run Gl Pr (k + 5) 10 [.d (clD cs)] S = .ok (.d (.list ((hsOf cs).map PyData.int))) S := by
  refine W.ok (zwp_run (f := f_holders_of) rfl rfl ?_)
  unfold f_holders_of
  repeat fail
  refine W.of (need_claims_run _ n _ h) ?_
  repeat fail
  refine W.of (holders_in_run _ _ h.l2) ?_
  exact ⟨rfl, cutS_self _ _⟩
theorem need_claim_run (k : Nat) {c : Cl} (S : Sto) (h : (0 ≤ c.1 ∧ c.1 ≤ 3) ∧ (0 ≤ c.2.1 ∧ c.2.1 ≤ 5) ∧ 1 ≤ c.2.2 ∧ c.2.2 ≤ 20) : MS.run Gl Pr (k + 3) 6 [.d (cD c)] S = .ok (.d .none) S := by
  refine W.ok (zwp_run (f := f_need_claim) rfl rfl ?_)
  unfold f_need_claim
  repeat fail
  refine W.of (is_claim_run _ _ h) ?_
  repeat fail
  exact cutS_self _ _
theorem need_standing_run (k : Nat) {cu : List Int} {cs : List Cl} {h : Int} {S : Sto} (hS : PureS S) (hcu : GCu cu) (hcl : GCl cu.length cs) (hm : h ∈ hsOf cs) : MS.run Gl Pr (k + 5) 12 [.d (cuD cu), .d (clD cs), .d (.int h)] S = .ok (.d .none) S := by
  have hh : 0 ≤ h ∧ h ≤ 3 := by
    obtain ⟨c, hc, rfl⟩ := List.mem_map.mp (mem_srtI.mp hm)
    exact (hcl.b c hc).1
  refine W.ok (zwp_run (f := f_need_standing) rfl rfl ?_)
  unfold f_need_standing
  repeat fail
  refine W.of (need_custom_run _ _ hcu) ?_
  repeat fail
  refine W.of (need_claims_run _ _ _ hcl) ?_
  repeat fail
  refine W.of (stand_run _ _ hcl) ?_
  repeat fail
  refine W.of (need_holder_run _ hS hcl.l2 hh hm) ?_
  repeat fail
  exact cutS_self _ _

-- D3.lean
/-! ### counts and shares -/
def wt (cu : List Int) (c : Cl) : Int := cu.getD c.2.1.toNat 0 * c.2.2
def cntH (cu : List Int) (cs : List Cl) (h : Int) : Int := ((cs.filter fun c => decide (c.1 = h)).map (wt cu)).sum
def totH (cu : List Int) (cs : List Cl) : Int := (cs.map (wt cu)).sum
theorem ix_cu {cu : List Int} {s : Int} {S : Sto} (h : 0 ≤ s ∧ s < cu.length) : ixV S (.d (cuD cu)) (.int s) = some (.d (.int (cu.getD s.toNat 0))) := by
  obtain ⟨j, rfl⟩ := Int.eq_ofNat_of_zero_le h.1
  have hj : j < cu.length := by omega
  refine ixv_tup ?_
  rw [List.getElem?_map, List.getElem?_eq_getElem hj, Int.toNat_natCast, List.getD_eq_getElem?_getD, List.getElem?_eq_getElem hj]; rfl
theorem mul_wt {cu : List Int} {c : Cl} (h : 1 ≤ c.2.2 ∧ c.2.2 ≤ 20) : binD .mul (.int (cu.getD c.2.1.toNat 0)) (.int c.2.2) = some (.int (wt cu c)) :=
  binD_mul (by unfold mulOk; simp; omega)
theorem wt_pos {cu : List Int} {c : Cl} (hcu : GCu cu) (h : (0 ≤ c.2.1 ∧ c.2.1 < cu.length) ∧ 1 ≤ c.2.2 ∧ c.2.2 ≤ 20) : 1 ≤ wt cu c ∧ wt cu c ≤ 2000 := by
  have hj : c.2.1.toNat < cu.length := by omega
  have e : cu.getD c.2.1.toNat 0 = cu[c.2.1.toNat] := by rw [List.getD_eq_getElem?_getD, List.getElem?_eq_getElem hj]; rfl
  have hb := hcu.b _ (List.getElem_mem hj)
  rw [← e] at hb
  unfold wt
  obtain ⟨h1, h2, h3⟩ := h
  constructor
  · have := Int.mul_le_mul (a := 1) (b := 1) (c := cu.getD c.2.1.toNat 0) (d := c.2.2) hb.1 h2 (by decide) (by omega)
    simpa using this
  · have := Int.mul_le_mul (a := cu.getD c.2.1.toNat 0) (b := c.2.2) (c := 100) (d := 20) hb.2 h3 (by omega) (by decide)
    simpa using this
theorem sum_bd {cu : List Int} : ∀ {cs : List Cl}, (∀ c ∈ cs, 1 ≤ wt cu c ∧ wt cu c ≤ 2000) → (cs.length : Int) ≤ (cs.map (wt cu)).sum ∧ (cs.map (wt cu)).sum ≤ 2000 * cs.length
  | [], _ => by simp
  | c :: cs, h => by
    have h1 := h c (by simp)
    have h2 := sum_bd (cs := cs) fun x hx => h x (by simp [hx])
    simp only [List.map_cons, List.sum_cons, List.length_cons]
    omega
def gW (cu : List Int) : Val → Option D
  | .d (.tuple [.int _, .int s, .int m]) => some (.int (cu.getD s.toNat 0 * m))
  | _ => none
theorem gW_map (cu : List Int) : ∀ (cs : List Cl), ((cs.map cD).map Val.d).filterMap (gW cu) = (cs.map (wt cu)).map PyData.int
  | [] => rfl
  | c :: cs => by
    simp only [List.map_cons, List.filterMap_cons, gW, gW_map cu cs, wt]
def gWh (cu : List Int) (h : Int) : Val → Option D
  | .d (.tuple [.int a, .int s, .int m]) => if decide (a = h) then some (.int (cu.getD s.toNat 0 * m)) else none
  | _ => none
theorem gWh_map (cu : List Int) (h : Int) : ∀ (cs : List Cl), ((cs.map cD).map Val.d).filterMap (gWh cu h) = ((cs.filter fun c => decide (c.1 = h)).map (wt cu)).map PyData.int
  | [] => rfl
  | c :: cs => by
    simp only [List.map_cons, List.filterMap_cons, gWh, gWh_map cu h cs, List.filter_cons]
    by_cases e : c.1 = h
    · simp [e, wt]
    · simp [e]
theorem biV_sumI {S : Sto} {ns : List Int} : biV S .sum (.d (.list (ns.map PyData.int))) = some (.int ns.sum) := by
  simp only [biV, view_d, Option.bind_some, biD, allI_map, Option.map_some]
theorem eqv_int (a b : Int) : PyData.eqv (.int a) (.int b) = decide (a = b) := by
  simp only [PyData.eqv]; rfl
theorem counted_run (k : Nat) {cu : List Int} {cs : List Cl} {h : Int} (S : Sto) (hcl : GCl cu.length cs) : MS.run Gl Pr (k + 1) 13 [.d (cuD cu), .d (clD cs), .d (.int h)] S = .ok (.d (.int (cntH cu cs h))) S := by
  refine W.ok (zwp_run (f := f_counted) rfl rfl ?_)
  unfold f_counted
  repeat fail
  refine zcomp_map (g := gWh cu h) (fun x hx => ?_) ?_
  · obtain ⟨y, hy, rfl⟩ := List.mem_map.mp hx
    obtain ⟨c, hc, rfl⟩ := List.mem_map.mp hy
    have hb := hcl.b c hc
    refine zwp_turn rfl ?_
    repeat fail
    refine zif (fun h1 => ?_) (fun h1 => ?_)
    · have h1' : c.1 = h := by rw [eqv_int] at h1; exact of_decide_eq_true h1
      repeat fail
      refine ⟨_, _, rfl, ix_cu hb.2.1, ?_⟩
      repeat fail
      refine ⟨_, _, _, rfl, rfl, mul_wt hb.2.2, ?_⟩
      repeat fail
      simp [gWh, h1', wt]
    · have h1' : ¬ c.1 = h := by rw [eqv_int] at h1; exact of_decide_eq_false h1
      simp [gWh, h1']
  · rw [gWh_map]
    refine ⟨_, biV_sumI, ?_⟩
    exact ⟨rfl, cutS_self _ _⟩
theorem counted_all_run (k : Nat) {cu : List Int} {cs : List Cl} (S : Sto) (hcl : GCl cu.length cs) : MS.run Gl Pr (k + 1) 14 [.d (cuD cu), .d (clD cs)] S = .ok (.d (.int (totH cu cs))) S := by
  refine W.ok (zwp_run (f := f_counted_all) rfl rfl ?_)
  unfold f_counted_all
  repeat fail
  refine zcomp_map (g := gW cu) (fun x hx => ?_) ?_
  · obtain ⟨y, hy, rfl⟩ := List.mem_map.mp hx
    obtain ⟨c, hc, rfl⟩ := List.mem_map.mp hy
    have hb := hcl.b c hc
    refine zwp_turn rfl ?_
    repeat fail
    refine ⟨_, _, rfl, ix_cu hb.2.1, ?_⟩
    repeat fail
    refine ⟨_, _, _, rfl, rfl, mul_wt hb.2.2, ?_⟩
    repeat fail
    rfl
  · rw [gW_map]
    refine ⟨_, biV_sumI, ?_⟩
    exact ⟨rfl, cutS_self _ _⟩
/-! ### the greatest number that divides both -/
def gcdM (x y : Nat) : Nat := if x < y then x + 1 else y
theorem gcdM_lt {x y : Nat} (h : y ≠ 0) : gcdM ((y : Int)).toNat (x % y) < gcdM ((x : Int)).toNat ((y : Int)).toNat := by
  have hlt := Nat.mod_lt x (Nat.pos_of_ne_zero h)
  rw [Int.toNat_natCast, Int.toNat_natCast]
  unfold gcdM
  rw [if_neg (by omega)]
  split
  · rw [Nat.mod_eq_of_lt (by assumption)]; omega
  · exact hlt
theorem lessened_run (k : Nat) {t b : Nat} (S : Sto) (hb : 1 ≤ b) (hb2 : b < 30000) (ht2 : t < 2000000000) : MS.run Gl Pr (k + 1) 16 [.d (.int t), .d (.int b)] S = .ok (.d (.tuple [.int ((t : Int) / (Nat.gcd t b : Nat)), .int ((b : Int) / (Nat.gcd t b : Nat))])) S := by
  have gpos : 0 < Nat.gcd t b := Nat.gcd_pos_of_pos_right _ hb
  have gle : Nat.gcd t b ≤ b := Nat.gcd_le_right _ hb
  refine W.ok (zwp_run (f := f_lessened) rfl rfl ?_)
  unfold f_lessened
  repeat fail
  refine zws_while (fun env S' => ∃ x y : Nat, S' = S ∧ env = [some (.d (.int t)), some (.d (.int b)), some (.d (.int x)), some (.d (.int y))] ∧ Nat.gcd x y = Nat.gcd t b) (fun env _ => match env with | [_, _, some (.d (.int x)), some (.d (.int y))] => gcdM x.toNat y.toNat | _ => 0) ⟨t, b, rfl, rfl, rfl⟩ (by show gcdM (t : Int).toNat (b : Int).toNat < 100000; unfold gcdM; split <;> omega) ?_
  intro env S' ⟨x, y, e1, e2, hg⟩
  subst e1 e2
  repeat fail
  refine zif (fun h1 => ?_) (fun h1 => ?_)
  · have hne : y ≠ 0 := by
      intro z
      subst z
      simp [eqv_int] at h1
    repeat fail
    refine ⟨_, _, _, rfl, rfl, binD_mod (by omega), ?_⟩
    repeat fail
    have hlt := Nat.mod_lt x (Nat.pos_of_ne_zero hne)
    refine ⟨⟨y, x % y, rfl, rfl, ?_⟩, ?_⟩
    · rw [← hg, Nat.gcd_comm x y, Nat.gcd_rec y x, Nat.gcd_comm]
    · show gcdM (y : Int).toNat ((x : Int) % (y : Int)).toNat < gcdM (x : Int).toNat (y : Int).toNat
      have e1 : ((x : Int) % (y : Int)).toNat = x % y := by rw [← Int.natCast_emod]; rfl
      rw [e1]
      exact gcdM_lt hne
  · have hz : y = 0 := by simpa [eqv_int] using h1
    subst hz
    rw [Nat.gcd_zero_right] at hg
    subst hg
    repeat fail
    refine ⟨_, _, _, rfl, rfl, binD_fdiv (by omega) (by omega), ?_⟩
    repeat fail
    refine ⟨_, _, _, rfl, rfl, binD_fdiv (by omega) (by omega), ?_⟩
    repeat fail
    exact cutS_self _ _

-- D4.lean
theorem law_custom_run4 (k : Nat) {p : Nat} {S : Sto} (hp : Pn p S) : W (MS.run Gl Pr (k + 3) 25 [.ref p] S) noX fun v S' => ∃ cu, v = .d (cuD cu) ∧ GCu cu ∧ cu.length ≤ 4 ∧ Gen p S S' := by
  refine zwp_run (f := f_law_custom) rfl rfl ?_
  unfold f_law_custom
  repeat fail
  refine W.call (draw_run _ hp (by decide) (by decide)) fun v S1 ⟨r1, e, r10, r11, g1⟩ => ?_
  subst e
  have hp1 := g1.pn hp
  repeat fail
  refine ⟨⟨by omega, by omega⟩, ?_⟩
  refine zwp_compL (I := fun xs acc S' => ∃ ns : List Int, acc = ns.map PyData.int ∧ ((ns.length + xs.length : Nat) : Int) = 1 + r1 ∧ (∀ n ∈ ns, 1 ≤ n ∧ n ≤ 100) ∧ Gen p S S') ⟨[], rfl, by simp [rangeVs]; omega, by simp, g1⟩ (fun x r acc S' ⟨ns, e1, hl, hb, g⟩ => ?_) (fun acc S' ⟨ns, e1, hl, hb, g⟩ => ?_)
  · have hp' := g.pn hp
    refine zwp_turn rfl ?_
    repeat fail
    refine W.call (draw_run _ hp' (by decide) (by decide)) fun v S2 ⟨r2, e, r20, r21, g2⟩ => ?_
    subst e
    have hp2 := g2.pn hp'
    repeat fail
    refine W.call (pick_run _ hp2 (by simp) (by simp)) fun v S3 ⟨y, hy, e, g3⟩ => ?_
    subst e
    obtain ⟨n, rfl, hn⟩ : ∃ n, y = .int n ∧ 1 ≤ n ∧ n ≤ 100 := by
      simp only [List.mem_cons, List.not_mem_nil, or_false] at hy
      rcases hy with rfl | rfl | rfl | rfl | rfl <;> exact ⟨_, rfl, by omega, by omega⟩
    repeat fail
    refine ⟨ns ++ [n], by rw [e1]; simp, by simp at hl ⊢; omega, fun m hm => ?_, (g.trans g2).trans g3⟩
    rcases List.mem_append.mp hm with z | z
    · exact hb m z
    · rw [List.mem_singleton.mp z]; exact hn
  · subst e1
    repeat fail
    refine ⟨⟨?_, ?_, hb⟩, ?_, gen_cut g⟩
    · simp at hl; omega
    · simp at hl; omega
    · simp at hl; omega
abbrev enD (es : List ((Int × Int) × Int)) : List (List Int × Val) := es.map fun e => ([e.1.1, e.1.2], Val.d (.int e.2))
theorem pure_dct (es : List ((Int × Int) × Int)) : PureS [some (.dct (enD es))] := by
  refine PureS.appR (S := []) PureS.nil ?_
  simp [belowO, Ob.below, Val.below]
def putP (es : List ((Int × Int) × Int)) (k : Int × Int) (v : Int) : List ((Int × Int) × Int) :=
  if (es.any fun p => decide (p.1 = k)) = true then es.map (fun p => if p.1 = k then (p.1, v) else p) else es ++ [(k, v)]
theorem putD_putP (es : List ((Int × Int) × Int)) (a b v : Int) : putD (enD es) [a, b] (.d (.int v)) = enD (putP es (a, b) v) := by
  have key : ∀ e : (Int × Int) × Int, ([e.1.1, e.1.2] = [a, b]) ↔ e.1 = (a, b) := fun e => by
    obtain ⟨⟨x, y⟩, z⟩ := e
    simp
  have hany : ((enD es).any fun p => decide (p.1 = [a, b])) = es.any fun p => decide (p.1 = (a, b)) := by
    rw [List.any_map]
    congr 1
    funext e
    exact decide_eq_decide.mpr (key e)
  unfold putD putP
  rw [hany]
  split
  · show List.map _ (List.map _ es) = List.map _ (List.map _ es)
    rw [List.map_map, List.map_map]
    apply List.map_congr_left
    intro e _
    simp only [Function.comp]
    by_cases h : e.1 = (a, b)
    · rw [if_pos h, if_pos ((key e).mpr h)]
    · rw [if_neg h, if_neg (fun z => h ((key e).mp z))]
  · simp
theorem putP_keys {es : List ((Int × Int) × Int)} {k : Int × Int} {v : Int} (h : (es.map (·.1)).Nodup) : ((putP es k v).map (·.1)).Nodup := by
  unfold putP
  split
  · rw [List.map_map]
    have : (es.map ((fun x => x.1) ∘ fun p => if p.1 = k then (p.1, v) else p)) = es.map (·.1) := by
      apply List.map_congr_left
      intro e _
      simp only [Function.comp]
      split <;> rfl
    rw [this]; exact h
  · rename_i hn
    rw [List.map_append, List.nodup_append]
    refine ⟨h, by simp, fun a ha b hb => ?_⟩
    simp at hb
    subst hb
    intro e
    subst e
    obtain ⟨e, he, rfl⟩ := List.mem_map.mp ha
    apply hn
    rw [List.any_eq_true]
    exact ⟨e, he, by simp⟩
theorem putP_len (es : List ((Int × Int) × Int)) (k : Int × Int) (v : Int) : (putP es k v).length ≤ es.length + 1 ∧ es.length ≤ (putP es k v).length ∧ 1 ≤ (putP es k v).length := by
  unfold putP
  split
  · rename_i h
    rw [List.any_eq_true] at h
    obtain ⟨e, he, _⟩ := h
    have : 0 < es.length := List.length_pos_of_mem he
    simp only [List.length_map]; omega
  · simp
theorem putP_mem {es : List ((Int × Int) × Int)} {k : Int × Int} {v : Int} {P : (Int × Int) × Int → Prop} (h : ∀ e ∈ es, P e) (hk : P (k, v)) : ∀ e ∈ putP es k v, P e := by
  unfold putP
  split
  · intro e he
    obtain ⟨x, hx, rfl⟩ := List.mem_map.mp he
    split
    · rename_i z; rw [z]; exact hk
    · exact h x hx
  · intro e he
    rcases List.mem_append.mp he with z | z
    · exact h e z
    · rw [List.mem_singleton.mp z]; exact hk
def clOf (e : (Int × Int) × Int) : Cl := (e.1.1, e.1.2, e.2)
theorem items_enD (es : List ((Int × Int) × Int)) : allO ((enD es).map itemD) = some (es.map fun e => .tuple [.tuple [.int e.1.1, .int e.1.2], .int e.2]) := by
  induction es with
  | nil => rfl
  | cons e es ih =>
    simp only [enD, List.map_cons, itemD, allO] at ih ⊢
    rw [ih]; rfl
theorem cD_lt (a b : Cl) : PySem.W.dataLt (cD a) (cD b) = decide ([a.1, a.2.1, a.2.2] < [b.1, b.2.1, b.2.2]) := by
  have := PySem.W.dataLt_ints [a.1, a.2.1, a.2.2] [b.1, b.2.1, b.2.2]
  rw [← this]
  rfl
def unC : D → Cl
  | .tuple [.int a, .int b, .int c] => (a, b, c)
  | _ => (0, 0, 0)
theorem sort_cls {es : List ((Int × Int) × Int)} (hn : (es.map (·.1)).Nodup) (hl : es.length ≤ 12) : ∃ cs : List Cl, sortX false ((es.map clOf).map cD) = some (cs.map cD) ∧ cs.Perm (es.map clOf) ∧ cs.Pairwise pLt := by
  have hn' : ((es.map clOf).map fun c => (c.1, c.2.1)).Nodup := by rw [List.map_map]; exact hn
  have hl' : (es.map clOf).length ≤ 12 := by rw [List.length_map]; exact hl
  generalize es.map clOf = l at hn' hl' ⊢
  have ok : sortOk (l.map cD) = true := by
    unfold sortOk
    simp only [Bool.and_eq_true, List.all_eq_true, Bool.or_eq_true, decide_eq_true_eq]
    refine ⟨⟨⟨fun a ha b hb => ?_, .inl (.inl fun a ha => ?_)⟩, ?_⟩, fun a ha => ?_⟩
    · obtain ⟨x, _, rfl⟩ := List.mem_map.mp ha
      obtain ⟨y, _, rfl⟩ := List.mem_map.mp hb
      rfl
    · obtain ⟨x, _, rfl⟩ := List.mem_map.mp ha
      rfl
    · rw [List.length_map]; unfold sLine; omega
    · obtain ⟨x, _, rfl⟩ := List.mem_map.mp ha
      exact (show (1 : Nat) ≤ 60 by decide)
  have pm : (sortD (l.map cD)).Perm (l.map cD) := List.mergeSort_perm _ _
  have pw : (sortD (l.map cD)).Pairwise fun x y => PySem.W.dataLe false id x y = true := PySem.W.sort_pairwise (PySem.W.sortLe_total _ _ _) _
  have hm : ∀ y ∈ sortD (l.map cD), cD (unC y) = y := fun y hy => by
    obtain ⟨x, _, rfl⟩ := List.mem_map.mp (pm.mem_iff.mp hy)
    rfl
  have e1 : sortD (l.map cD) = ((sortD (l.map cD)).map unC).map cD := by
    rw [List.map_map]
    conv => lhs; rw [← List.map_id (sortD (l.map cD))]
    exact List.map_congr_left fun y hy => (hm y hy).symm
  have pm2 : ((sortD (l.map cD)).map unC).Perm (l) := by
    have := pm.map unC
    rwa [List.map_map, show unC ∘ cD = id from rfl, List.map_id] at this
  refine ⟨(sortD (l.map cD)).map unC, ?_, pm2, ?_⟩
  · unfold sortX
    dsimp only
    rw [if_pos ok, ← e1]
  · have nk : (((sortD (l.map cD)).map unC).map fun c => (c.1, c.2.1)).Nodup := by
      rw [(pm2.map fun c => (c.1, c.2.1)).nodup_iff]
      exact hn'
    rw [e1, List.pairwise_map] at pw
    have nk' := List.pairwise_map.mp nk
    refine (pw.and nk').imp fun {a b} ⟨h1, h2⟩ => ?_
    rw [PySem.W.dataLe_eq] at h1
    have h3 : PySem.W.dataLt (cD b) (cD a) = false := by simpa using h1
    rw [cD_lt, decide_eq_false_iff_not, List.cons_lt_cons_iff, List.cons_lt_cons_iff] at h3
    obtain ⟨a1, a2, a3⟩ := a
    obtain ⟨b1, b2, b3⟩ := b
    simp only [pLt] at *
    have h2' : ¬ (a1 = b1 ∧ a2 = b2) := fun z => h2 (by rw [z.1, z.2])
    by_cases q1 : b1 < a1
    · exact absurd (.inl q1) h3
    · by_cases q2 : a1 < b1
      · exact .inl q2
      · have q3 : a1 = b1 := by omega
        refine .inr ⟨q3, ?_⟩
        by_cases q4 : b2 < a2
        · exact absurd (.inr ⟨q3.symm, .inl q4⟩) h3
        · have : ¬ a2 = b2 := fun z => h2' ⟨q3, z⟩
          omega
def joinP : D → D
  | .tuple [.tuple [a, b], m] => .tuple [a, b, m]
  | _ => .none
theorem law_claims_run (k : Nat) {p : Nat} {S : Sto} (hp : Pn p S) {cu : List Int} (hcu : GCu cu) {hs : List D} (h0 : 0 < hs.length) (h1 : hs.length < 5000) (hh : ∀ d ∈ hs, ∃ h, d = .int h ∧ 0 ≤ h ∧ h ≤ 3) :
    W (MS.run Gl Pr (k + 3) 26 [.ref p, .d (cuD cu), .d (.list hs)] S) noX fun v S' => ∃ cs, v = .d (clD cs) ∧ GCl cu.length cs ∧ Gen p S S' := by
  have lcu : ((cu.map PyData.int).length : Int) = cu.length := by simp
  have c1 := hcu.l1; have c2 := hcu.l2
  refine zwp_run (f := f_law_claims) rfl rfl ?_
  unfold f_law_claims
  repeat fail
  refine zws_for ?_
  repeat fail
  refine W.call (draw_app _ hp (pure_dct []) (by decide) (by decide)) fun v S' ⟨r1, S1, e, r10, r11, g1, e'⟩ => ?_
  subst e e'
  repeat fail
  refine ⟨⟨by omega, by omega⟩, ?_⟩
  refine ⟨fun xs env S' => ∃ (S4 : Sto) (es : List ((Int × Int) × Int)) (a b c d e : Option Val), Gen p S S4 ∧ S' = S4 ++ [some (.dct (enD es))] ∧ (es.map (·.1)).Nodup ∧ (es.length + xs.length : Nat) ≤ 8 ∧ (es = [] → 1 ≤ xs.length) ∧
    (∀ e ∈ es, (0 ≤ e.1.1 ∧ e.1.1 ≤ 3) ∧ (0 ≤ e.1.2 ∧ e.1.2 < cu.length) ∧ 1 ≤ e.2 ∧ e.2 ≤ 20) ∧ env = [some (.ref p), some (.d (cuD cu)), some (.d (.list hs)), some (.ref S.length), a, b, c, d, e], ?_, ?_, ?_⟩
  · refine ⟨S1, [], none, none, none, none, none, g1, rfl, by simp, ?_, fun _ => ?_, by simp, rfl⟩
    · simp [rangeVs]; omega
    · simp [rangeVs]; omega
  · intro x r env S' ⟨S4, es, a, b, c, d, e, g4, e1, hn, hl, hz, hb, e2⟩
    subst e1 e2
    have hp4 := g4.pn hp
    have len4 : S4.length = S.length := g4.len
    refine ⟨_, rfl, ?_⟩
    repeat fail
    refine W.call (pick_app _ hp4 (pure_dct es) h0 h1) fun v S' ⟨y, S5, hy, e, g5, e'⟩ => ?_
    subst e e'
    obtain ⟨h, rfl, hh1⟩ := hh y hy
    have hp5 := g5.pn hp4
    repeat fail
    refine W.call (draw_app _ hp5 (pure_dct es) (by show (0 : Int) < ((cu.map PyData.int).length : Int); omega) (by show ((cu.map PyData.int).length : Int) < _; omega)) fun v S' ⟨s, S6, e, s0, s1, g6, e'⟩ => ?_
    subst e e'
    have s1' : s < ((cu.map PyData.int).length : Int) := s1
    have hp6 := g6.pn hp5
    repeat fail
    refine W.call (draw_app _ hp6 (pure_dct es) (by decide) (by decide)) fun v S' ⟨q, S7, e, q0, q1, g7, e'⟩ => ?_
    subst e e'
    have hp7 := g7.pn hp6
    repeat fail
    refine W.call (pick_app _ hp7 (pure_dct es) (by simp) (by simp)) fun v S' ⟨y, S8, hy, e, g8, e'⟩ => ?_
    subst e e'
    obtain ⟨m, rfl, hm⟩ : ∃ n, y = .int n ∧ 1 ≤ n ∧ n ≤ 20 := by
      simp only [List.mem_cons, List.not_mem_nil, or_false] at hy
      rcases hy with rfl | rfl | rfl | rfl | rfl <;> exact ⟨_, rfl, by omega, by omega⟩
    have g48 := (((g4.trans g5).trans g6).trans g7).trans g8
    have len8 : S8.length = S.length := g48.len
    have hat : stGet (S8 ++ [some (.dct (enD es))]) S.length = some (.dct (enD es)) := by rw [← len8]; exact stGet_at
    repeat fail
    have hpl := putP_len es (h, s) m
    simp only [List.length_cons] at hl
    refine ⟨_, _, _, _, rfl, rfl, rfl, hat, ⟨by rw [List.length_map]; unfold sLine; omega, by simp⟩, ?_⟩
    repeat fail
    refine ⟨S8, putP es (h, s) m, some x, some (.d (.int h)), some (.d (.int s)), d, _, g48, ?_, putP_keys hn, by omega, fun z => ?_, putP_mem hb ⟨hh1, ⟨s0, by show s < (cu.length : Int); omega⟩, hm⟩, rfl⟩
    · rw [← len8, set_at, putD_putP]
    · rw [z] at hpl; simp at hpl
  · intro env S' ⟨S4, es, a, b, c, d, e, g4, e1, hn, hl, hz, hb, e2⟩
    subst e1 e2
    have hp4 := g4.pn hp
    have len4 : S4.length = S.length := g4.len
    have hat : stGet (S4 ++ [some (.dct (enD es))]) S.length = some (.dct (enD es)) := by rw [← len4]; exact stGet_at
    simp only [List.length_nil] at hl hz
    repeat fail
    refine ⟨_, _, _, rfl, hat, items_enD es, ?_⟩
    refine zcomp_map (g := gD joinP) (fun x hx => ?_) ?_
    · obtain ⟨y, hy, rfl⟩ := List.mem_map.mp hx
      obtain ⟨en, hen, rfl⟩ := List.mem_map.mp hy
      refine zwp_turn rfl ?_
      repeat fail
      rfl
    have e3 : (es.map fun e => PyData.tuple [.tuple [.int e.1.1, .int e.1.2], .int e.2]).map joinP = (es.map clOf).map cD := by
      rw [List.map_map, List.map_map]; rfl
    rw [gD_map, e3]
    obtain ⟨cs, q1, q2, q3⟩ := sort_cls hn (by omega)
    refine ⟨_, _, rfl, q1, ?_⟩
    have lcs : cs.length = es.length := by rw [q2.length_eq, List.length_map]
    have hne : es ≠ [] := fun z => by have := hz z; omega
    have hpos : 0 < es.length := List.length_pos_iff.mpr hne
    repeat fail
    refine ⟨⟨by omega, by omega, fun c hc => ?_, q3, c2⟩, ?_⟩
    · obtain ⟨en, hen, rfl⟩ := List.mem_map.mp (q2.mem_iff.mp hc)
      exact hb en hen
    · rw [← len4]
      rw [cutS_app (S := S4) (T := [none]) (fun _ z => by cases z) hp4.pu (by exact set_at)]
      exact g4

-- D5.lean
theorem deep_two {S : Sto} {t k : Nat} {x y : D} (h : stGet S t = some (.lst [.d x, .d y])) : deepV S (k + 1) (.ref t) = some (.list [x, y]) := deep_ref (xs := [x, y]) h
theorem nice_ints (ns : List Int) : nice 1 (.list (ns.map PyData.int)) = true := by
  simp only [nice, List.all_eq_true]
  intro d hd
  obtain ⟨n, _, rfl⟩ := List.mem_map.mp hd
  rfl
theorem holder_parts {cu : List Int} {cs : List Cl} {h : Int} (hcu : GCu cu) (hcl : GCl cu.length cs) (hm : h ∈ hsOf cs) : ∃ t b : Nat, cntH cu cs h = t ∧ totH cu cs = b ∧ 1 ≤ t ∧ 1 ≤ b ∧ t < 30000 ∧ b < 30000 := by
  have hw : ∀ c ∈ cs, 1 ≤ wt cu c ∧ wt cu c ≤ 2000 := fun c hc => wt_pos hcu (hcl.b c hc).2
  have l1 := hcl.l1; have l2 := hcl.l2
  have s1 := sum_bd hw
  have hf : ∀ c ∈ cs.filter (fun c => decide (c.1 = h)), 1 ≤ wt cu c ∧ wt cu c ≤ 2000 := fun c hc => hw c (List.mem_filter.mp hc).1
  have s2 := sum_bd hf
  have lf : (cs.filter fun c => decide (c.1 = h)).length ≤ cs.length := List.length_filter_le _ _
  have lp : 1 ≤ (cs.filter fun c => decide (c.1 = h)).length := by
    obtain ⟨c, hc, rfl⟩ := List.mem_map.mp (mem_srtI.mp hm)
    exact List.length_pos_of_mem (List.mem_filter.mpr ⟨hc, by simp⟩)
  refine ⟨(cntH cu cs h).toNat, (totH cu cs).toNat, ?_, ?_, ?_, ?_, ?_, ?_⟩ <;> simp only [cntH, totH] <;> omega
theorem count_of_run (k : Nat) {cu : List Int} {cs : List Cl} {h : Int} {S : Sto} (hS : PureS S) (hcu : GCu cu) (hcl : GCl cu.length cs) (hm : h ∈ hsOf cs) : MS.run Gl Pr (k + 6) 15 [.d (cuD cu), .d (clD cs), .d (.int h)] S = .ok (.d (.int (cntH cu cs h))) S := by
  refine W.ok (zwp_run (f := f_count_of) rfl rfl ?_)
  unfold f_count_of
  repeat fail
  refine W.of (need_standing_run _ hS hcu hcl hm) ?_
  repeat fail
  refine W.of (counted_run _ _ hcl) ?_
  exact ⟨rfl, cutS_self _ _⟩
theorem share_of_run (k : Nat) {cu : List Int} {cs : List Cl} {h : Int} {t b : Nat} {S : Sto} (hS : PureS S) (hcu : GCu cu) (hcl : GCl cu.length cs) (hm : h ∈ hsOf cs) (e1 : cntH cu cs h = t) (e2 : totH cu cs = b) (t1 : 1 ≤ t) (b1 : 1 ≤ b) (t2 : t < 30000) (b2 : b < 30000) :
    MS.run Gl Pr (k + 6) 17 [.d (cuD cu), .d (clD cs), .d (.int h)] S = .ok (.d (.tuple [.int ((t : Int) / (Nat.gcd t b : Nat)), .int ((b : Int) / (Nat.gcd t b : Nat))])) S := by
  refine W.ok (zwp_run (f := f_share_of) rfl rfl ?_)
  unfold f_share_of
  repeat fail
  refine W.of (need_standing_run _ hS hcu hcl hm) ?_
  repeat fail
  refine W.of (counted_run _ _ hcl) ?_
  repeat fail
  refine W.of (counted_all_run _ _ hcl) ?_
  repeat fail
  rw [e1, e2]
  refine W.of (lessened_run _ _ b1 b2 (by omega)) ?_
  exact ⟨rfl, cutS_self _ _⟩
theorem len_insI (x : Int) : ∀ (l : List Int), (insI x l).length ≤ l.length + 1
  | [] => by simp [insI]
  | y :: r => by
    have := len_insI x r
    unfold insI
    split
    · simp
    · split
      · simp
      · simp only [List.length_cons]; omega
theorem len_srtI : ∀ (ns : List Int), (srtI ns).length ≤ ns.length
  | [] => by simp [srtI]
  | n :: ns => by
    have h1 := len_insI n (srtI ns)
    have h2 := len_srtI ns
    show (insI n (srtI ns)).length ≤ _
    simp only [List.length_cons]; omega

-- D6.lean
/-! ### claims laid and denied -/
theorem inD_gen {α : Type} [DecidableEq α] (f : α → D) (he : ∀ a b, PyData.eqv (f a) (f b) = decide (a = b)) (hl : ∀ a, PyData.canLay0 (f a) = true) (hs : ∀ a, SeqAt.shaped (f a) = true) (p : α) (l : List α) : inD (f p) (l.map f) = some (decide (p ∈ l)) := by
  have h1 : ∀ l : List α, PyData.canLayAll0 (l.map f) = true := fun l => by
    induction l with
    | nil => rfl
    | cons a l ih => simp only [List.map_cons, PyData.canLayAll0, hl a, ih, Bool.and_self]
  have h2 : ∀ l : List α, (l.map f).any (fun z => PyData.eqv z (f p)) = decide (p ∈ l) := fun l => by
    induction l with
    | nil => simp
    | cons a l ih =>
      rw [List.map_cons, List.any_cons, ih, he]
      by_cases e : a = p
      · subst e; simp
      · have : ¬ p = a := fun z => e z.symm
        simp [e, this]
  unfold inD
  rw [if_pos (by unfold inOk; rw [h1, hs]; rfl), h2]
theorem eqv_cD (a b : Cl) : PyData.eqv (cD a) (cD b) = decide (a = b) := by
  obtain ⟨a1, a2, a3⟩ := a
  obtain ⟨b1, b2, b3⟩ := b
  show PyData.eqv (.tuple [.int a1, .int a2, .int a3]) (.tuple [.int b1, .int b2, .int b3]) = _
  simp only [PyData.eqv, PyData.eqvAll]
  by_cases h1 : a1 = b1 <;> by_cases h2 : a2 = b2 <;> by_cases h3 : a3 = b3 <;> simp [h1, h2, h3]
abbrev kyD (p : Int × Int) : D := .tuple [.int p.1, .int p.2]
theorem eqv_kyD (a b : Int × Int) : PyData.eqv (kyD a) (kyD b) = decide (a = b) := by
  obtain ⟨a1, a2⟩ := a
  obtain ⟨b1, b2⟩ := b
  show PyData.eqv (.tuple [.int a1, .int a2]) (.tuple [.int b1, .int b2]) = _
  simp only [PyData.eqv, PyData.eqvAll]
  by_cases h1 : a1 = b1 <;> by_cases h2 : a2 = b2 <;> simp [h1, h2]
theorem inD_cD (c : Cl) (l : List Cl) : inD (cD c) (l.map cD) = some (decide (c ∈ l)) := by
  rw [inD_gen cD eqv_cD (fun _ => rfl) (fun _ => rfl) c l]
  congr 1
  exact decide_eq_decide.mpr Iff.rfl
theorem inD_kyD (c : Int × Int) (l : List (Int × Int)) : inD (kyD c) (l.map kyD) = some (decide (c ∈ l)) := by
  rw [inD_gen kyD eqv_kyD (fun _ => rfl) (fun _ => rfl) c l]
  congr 1
  exact decide_eq_decide.mpr Iff.rfl
def keyC (c : Cl) : Int × Int := (c.1, c.2.1)

theorem GCl.mono {n m : Nat} {cs : List Cl} (h : GCl n cs) (hm : n ≤ m) (h6 : m ≤ 6) : GCl m cs := ⟨h.l1, h.l2, fun c hc => ⟨(h.b c hc).1, ⟨(h.b c hc).2.1.1, by have := (h.b c hc).2.1.2; omega⟩, (h.b c hc).2.2⟩, h.p, h6⟩
theorem pLt_irr (a : Cl) : ¬ pLt a a := fun h => by simp only [pLt] at h; omega
theorem pLt_asym {a b : Cl} (h : pLt a b) (h2 : pLt b a) : False := by simp only [pLt] at h h2; omega
theorem pLt_key {a b : Cl} (h : pLt a b) : keyC a ≠ keyC b := fun z => by
  have h1 : a.1 = b.1 := congrArg (·.1) z
  have h2 : a.2.1 = b.2.1 := congrArg (·.2) z
  simp only [pLt] at h; omega
theorem keys_nd {cs : List Cl} (h : cs.Pairwise pLt) : (cs.map keyC).Nodup := by
  unfold List.Nodup
  rw [List.pairwise_map]
  exact h.imp fun {a b} z => pLt_key z
theorem cls_nd {cs : List Cl} (h : cs.Pairwise pLt) : cs.Nodup := by
  unfold List.Nodup
  refine h.imp fun {a b} z e => ?_
  subst e
  exact pLt_irr a z
theorem sorted_eq {a b : List Cl} (h : a.Perm b) (ha : a.Pairwise pLt) (hb : b.Pairwise pLt) : a = b := by
  refine h.eq_of_pairwise (le := pLt) (fun x y _ _ h1 h2 => (pLt_asym h1 h2).elim) ha hb
def enC (c : Cl) : (Int × Int) × Int := ((c.1, c.2.1), c.2.2)
theorem enC_cl (cs : List Cl) : (cs.map enC).map clOf = cs := by
  rw [List.map_map]
  exact List.map_id cs
theorem enC_key (cs : List Cl) : (cs.map enC).map (·.1) = cs.map keyC := by
  rw [List.map_map]; rfl
theorem sort_lay {cs : List Cl} {c : Cl} (hp : cs.Pairwise pLt) (hn : keyC c ∉ cs.map keyC) (hl : cs.length < 12) : ∃ ds : List Cl, sortX false ((cs ++ [c]).map cD) = some (ds.map cD) ∧ ds.Perm (cs ++ [c]) ∧ ds.Pairwise pLt := by
  have h := sort_cls (es := (cs ++ [c]).map enC) (by
    rw [enC_key, List.map_append, List.nodup_append]
    refine ⟨keys_nd hp, by simp, fun a ha b hb e => ?_⟩
    rw [List.map_cons, List.map_nil, List.mem_singleton] at hb
    exact hn (by rw [← hb, ← e]; exact ha)) (by simp; omega)
  rwa [enC_cl] at h
def gKy : Val → Option D
  | .d (.tuple [a, b, _]) => some (.tuple [a, b])
  | _ => none
theorem gKy_map : ∀ (cs : List Cl), ((cs.map cD).map Val.d).filterMap gKy = (cs.map keyC).map kyD
  | [] => rfl
  | c :: cs => by
    have := gKy_map cs
    simp only [List.map_cons, List.filterMap_cons] at this ⊢
    rw [this]; rfl
theorem laid_ok (k : Nat) {cs ds : List Cl} {c : Cl} {S : Sto} (h : GCl 6 cs) (hc : (0 ≤ c.1 ∧ c.1 ≤ 3) ∧ (0 ≤ c.2.1 ∧ c.2.1 ≤ 5) ∧ 1 ≤ c.2.2 ∧ c.2.2 ≤ 20) (hn : keyC c ∉ cs.map keyC) (hl : cs.length < 12) (hs : sortX false ((cs ++ [c]).map cD) = some (ds.map cD)) :
    MS.run Gl Pr (k + 5) 18 [.d (clD cs), .d (cD c)] S = .ok (.d (clD ds)) S := by
  refine W.ok (zwp_run (f := f_laid) rfl rfl ?_)
  unfold f_laid
  repeat fail
  refine W.of (need_claims_run _ _ _ h) ?_
  repeat fail
  refine W.of (need_claim_run _ _ hc) ?_
  repeat fail
  refine zcomp_map (g := gKy) (fun x hx => ?_) ?_
  · obtain ⟨y, hy, rfl⟩ := List.mem_map.mp hx
    obtain ⟨c2, hc2, rfl⟩ := List.mem_map.mp hy
    refine zwp_turn rfl ?_
    repeat fail
    rfl
  rw [gKy_map]
  repeat fail
  refine ⟨_, _, _, rfl, rfl, (show inD (kyD (keyC c)) ((cs.map keyC).map kyD) = _ from inD_kyD _ _), ?_⟩
  refine ⟨_, rfl, ?_⟩
  rw [decide_eq_false hn]
  repeat fail
  refine zif_f (by rw [eqv_int]; exact decide_eq_false (by rw [List.length_map]; omega)) ?_
  repeat fail
  refine ⟨_, _, _, rfl, rfl, (show binD .add (.tuple (cs.map cD)) (.tuple [cD c]) = some (.tuple ((cs ++ [c]).map cD)) from by
    simp only [binD, List.length_map, List.length_singleton]
    rw [if_pos (by unfold sLine; omega), List.map_append]; rfl), ?_⟩
  refine ⟨_, _, rfl, hs, ?_⟩
  repeat fail
  exact cutS_self _ _
theorem ne_cD (a b : Cl) : cmpD .ne (cD a) (cD b) = some (!decide (a = b)) := by
  show (eqD (cD a) (cD b)).map (!·) = _
  unfold eqD
  rw [if_pos (show eqOk (cD a) (cD b) = true from rfl), eqv_cD]; rfl
def gNe (c : Cl) : Val → Option D
  | .d d => if PyData.eqv d (cD c) then none else some d
  | _ => none
theorem gNe_map (c : Cl) : ∀ (cs : List Cl), ((cs.map cD).map Val.d).filterMap (gNe c) = (cs.filter fun x => !decide (x = c)).map cD
  | [] => rfl
  | x :: cs => by
    have := gNe_map c cs
    simp only [List.map_cons, List.filterMap_cons, List.filter_cons, gNe, eqv_cD]
    by_cases e : x = c
    · simp only [e, decide_true, if_true, Bool.not_true, Bool.false_eq_true, if_false]; exact this
    · simp only [e, decide_false, Bool.false_eq_true, if_false, Bool.not_false, if_true, List.map_cons]; rw [← this]
theorem denied_ok (k : Nat) {cs : List Cl} {c : Cl} {S : Sto} (h : GCl 6 cs) (hc : (0 ≤ c.1 ∧ c.1 ≤ 3) ∧ (0 ≤ c.2.1 ∧ c.2.1 ≤ 5) ∧ 1 ≤ c.2.2 ∧ c.2.2 ≤ 20) (hn : c ∈ cs) (hl : 2 ≤ cs.length) :
    MS.run Gl Pr (k + 5) 19 [.d (clD cs), .d (cD c)] S = .ok (.d (clD (cs.filter fun x => !decide (x = c)))) S := by
  refine W.ok (zwp_run (f := f_denied) rfl rfl ?_)
  unfold f_denied
  repeat fail
  refine W.of (need_claims_run _ _ _ h) ?_
  repeat fail
  refine W.of (need_claim_run _ _ hc) ?_
  repeat fail
  refine ⟨_, _, _, rfl, rfl, (show (inD (cD c) (cs.map cD)).map (!·) = _ from by rw [inD_cD]; rfl), ?_⟩
  refine ⟨_, rfl, ?_⟩
  rw [decide_eq_true hn]
  repeat fail
  refine zif_f (by rw [eqv_int]; exact decide_eq_false (by rw [List.length_map]; omega)) ?_
  repeat fail
  refine zcomp_map (g := gNe c) (fun x hx => ?_) ?_
  · obtain ⟨y, hy, rfl⟩ := List.mem_map.mp hx
    obtain ⟨c2, hc2, rfl⟩ := List.mem_map.mp hy
    refine zwp_turn rfl ?_
    repeat fail
    by_cases e : c2 = c
    · refine zif_f (by show (!PyData.eqv (cD c2) (cD c)) = false; rw [eqv_cD, decide_eq_true e]; rfl) ?_
      simp only [gNe, eqv_cD, e, decide_true, if_true]
      try exact ⟨trivial, trivial⟩
    · refine zif_t (by show (!PyData.eqv (cD c2) (cD c)) = true; rw [eqv_cD, decide_eq_false e]; rfl) ?_
      repeat fail
      simp only [gNe, eqv_cD, e, decide_false, Bool.false_eq_true, if_false]
      try exact ⟨trivial, trivial⟩
  rw [gNe_map]
  repeat fail
  exact cutS_self _ _
/-- laid and denied again -/
theorem lay_deny {cs ds : List Cl} {c : Cl} (hp : cs.Pairwise pLt) (hn : keyC c ∉ cs.map keyC) (q1 : ds.Perm (cs ++ [c])) (q2 : ds.Pairwise pLt) : (ds.filter fun x => !decide (x = c)) = cs := by
  have h1 : (ds.filter fun x => !decide (x = c)).Perm ((cs ++ [c]).filter fun x => !decide (x = c)) := q1.filter _
  have h2 : ((cs ++ [c]).filter fun x => !decide (x = c)) = cs := by
    rw [List.filter_append]
    have e1 : cs.filter (fun x => !decide (x = c)) = cs := List.filter_eq_self.mpr fun x hx => by
      have : ¬ x = c := fun e => hn (by rw [← e]; exact List.mem_map_of_mem hx)
      simp [this]
    rw [e1]; simp
  rw [h2] at h1
  exact sorted_eq h1 (q2.sublist List.filter_sublist) hp

-- D7.lean
/-! ### two holders joined -/
abbrev EsK := List ((Int × Int) × Int)
def getE (es : EsK) (k : Int × Int) : Int := ((es.find? fun q => decide (q.1 = k)).map (·.2)).getD 0
def addE : EsK → (Int × Int) → Int → EsK
  | [], k, m => [(k, m)]
  | e :: es, k, m => if e.1 = k then (k, e.2 + m) :: es else e :: addE es k m
theorem getE_no {es : EsK} {k : Int × Int} (h : k ∉ es.map (·.1)) : getE es k = 0 := by
  unfold getE
  have : es.find? (fun q => decide (q.1 = k)) = none := List.find?_eq_none.mpr fun q hq => by
    have : ¬ q.1 = k := fun e => h (by rw [← e]; exact List.mem_map_of_mem hq)
    simpa using this
  rw [this]; rfl
theorem putP_addE : ∀ {es : EsK} {k : Int × Int} {m : Int}, (es.map (·.1)).Nodup → putP es k (getE es k + m) = addE es k m
  | [], k, m, _ => by simp [putP, addE, getE]
  | e :: es, k, m, h => by
    obtain ⟨h1, h2⟩ := List.nodup_cons.mp h
    have ih := putP_addE (k := k) (m := m) h2
    by_cases z : e.1 = k
    · have hk : k ∉ es.map (·.1) := by rw [← z]; exact h1
      have hid : ∀ v : Int, es.map (fun p => if p.1 = k then (p.1, v) else p) = es := fun v => by
        conv => rhs; rw [← List.map_id es]
        refine List.map_congr_left fun p hp => ?_
        rw [if_neg (fun y => hk (by rw [← y]; exact List.mem_map_of_mem hp))]; rfl
      unfold putP addE getE
      simp only [List.any_cons, z, decide_true, Bool.true_or, if_true, List.map_cons, hid, List.find?_cons, Option.map_some, Option.getD_some]
    · have hg : getE (e :: es) k = getE es k := by
        unfold getE
        rw [List.find?_cons]; simp [z]
      rw [hg]
      unfold addE
      rw [if_neg z, ← ih]
      unfold putP
      simp only [List.any_cons, z, decide_false, Bool.false_or, List.map_cons, if_false]
      split <;> simp
def sumE (f : Int × Int → Int) (es : EsK) : Int := (es.map fun e => f e.1 * e.2).sum
theorem sumE_add (f : Int × Int → Int) : ∀ (es : EsK) (k : Int × Int) (m : Int), sumE f (addE es k m) = sumE f es + f k * m
  | [], k, m => by simp [sumE, addE]
  | e :: es, k, m => by
    have ih := sumE_add f es k m
    unfold addE
    split
    · rename_i z
      simp only [sumE, List.map_cons, List.sum_cons, z, Int.mul_add]
      omega
    · simp only [sumE, List.map_cons, List.sum_cons] at ih ⊢
      omega
theorem addE_mem {P : (Int × Int) × Int → Prop} : ∀ {es : EsK} {k : Int × Int} {m : Int}, (∀ e ∈ es, P e) → P (k, m) → (∀ v, P (k, v) → P (k, v + m)) → ∀ e ∈ addE es k m, P e
  | [], k, m, _, h2, _ => fun e he => by rw [List.mem_singleton.mp he]; exact h2
  | x :: es, k, m, h, h2, h3 => fun e he => by
    unfold addE at he
    split at he
    · rename_i z
      rcases List.mem_cons.mp he with rfl | he
      · refine h3 _ ?_
        have := h x (by simp)
        rw [← z]; exact this
      · exact h e (by simp [he])
    · rcases List.mem_cons.mp he with rfl | he
      · exact h e (by simp)
      · exact addE_mem (fun y hy => h y (by simp [hy])) h2 h3 e he
theorem addE_len : ∀ (es : EsK) (k : Int × Int) (m : Int), (addE es k m).length ≤ es.length + 1 ∧ 1 ≤ (addE es k m).length
  | [], _, _ => by simp [addE]
  | e :: es, k, m => by
    have := addE_len es k m
    unfold addE
    split <;> simp only [List.length_cons] <;> omega
theorem look_enD (es : EsK) (k : Int × Int) : (lookD (enD es) [k.1, k.2]).getD (.d (.int 0)) = .d (.int (getE es k)) := by
  unfold lookD getE
  rw [List.find?_map]
  have e : ((fun p : List Int × Val => decide (p.1 = [k.1, k.2])) ∘ fun e : (Int × Int) × Int => ([e.1.1, e.1.2], Val.d (.int e.2))) = fun q => decide (q.1 = k) := by
    funext q
    refine decide_eq_decide.mpr ?_
    obtain ⟨⟨x, y⟩, z⟩ := q
    obtain ⟨u, v⟩ := k
    simp
  rw [e]
  cases es.find? (fun q => decide (q.1 = k)) <;> rfl
def ownJ (one other : Int) (c : Cl) : Int × Int := (if c.1 = other then one else c.1, c.2.1)
def joinE (one other : Int) (cs : List Cl) : EsK := cs.foldl (fun es c => addE es (ownJ one other c) c.2.2) []
theorem joinE_snoc (one other : Int) (cs : List Cl) (c : Cl) : joinE one other (cs ++ [c]) = addE (joinE one other cs) (ownJ one other c) c.2.2 := by
  unfold joinE
  rw [List.foldl_append]; rfl
theorem snocC {P : List Cl → Prop} (h0 : P []) (h1 : ∀ cs c, P cs → P (cs ++ [c])) (cs : List Cl) : P cs := by
  have : ∀ (n : Nat) (cs : List Cl), cs.length = n → P cs := by
    intro n
    induction n with
    | zero => intro cs h; rw [List.eq_nil_of_length_eq_zero h]; exact h0
    | succ n ih =>
      intro cs h
      have hne : cs ≠ [] := fun z => by rw [z] at h; cases h
      rw [← List.dropLast_concat_getLast hne]
      exact h1 _ _ (ih _ (by rw [List.length_dropLast, h]; rfl))
  exact this _ cs rfl
theorem joinE_sum (f : Int × Int → Int) (one other : Int) (cs : List Cl) : sumE f (joinE one other cs) = (cs.map fun c => f (ownJ one other c) * c.2.2).sum := by
  refine snocC (P := fun cs => sumE f (joinE one other cs) = (cs.map fun c => f (ownJ one other c) * c.2.2).sum) rfl (fun cs c ih => ?_) cs
  rw [joinE_snoc, sumE_add, ih, List.map_append, List.sum_append_int]; simp
theorem joinE_nd (one other : Int) (cs : List Cl) : ((joinE one other cs).map (·.1)).Nodup := by
  refine snocC (P := fun cs => ((joinE one other cs).map (·.1)).Nodup) (by simp [joinE]) (fun cs c ih => ?_) cs
  rw [joinE_snoc, ← putP_addE ih]
  exact putP_keys ih
theorem joinE_len (one other : Int) (cs : List Cl) : (joinE one other cs).length ≤ cs.length ∧ (cs ≠ [] → 1 ≤ (joinE one other cs).length) := by
  refine snocC (P := fun cs => (joinE one other cs).length ≤ cs.length ∧ (cs ≠ [] → 1 ≤ (joinE one other cs).length)) (by simp [joinE]) (fun cs c ih => ?_) cs
  rw [joinE_snoc]
  have := addE_len (joinE one other cs) (ownJ one other c) c.2.2
  rw [List.length_append]
  exact ⟨by have := ih.1; simp only [List.length_singleton]; omega, fun _ => this.2⟩
theorem joinE_mem {one other : Int} {cs : List Cl} {n : Nat} (hb : ∀ c ∈ cs, (0 ≤ c.1 ∧ c.1 ≤ 3) ∧ (0 ≤ c.2.1 ∧ c.2.1 < n) ∧ 1 ≤ c.2.2 ∧ c.2.2 ≤ 20) (ho : 0 ≤ one ∧ one ≤ 3) (hne : one ≠ other) :
    ∀ e ∈ joinE one other cs, (0 ≤ e.1.1 ∧ e.1.1 ≤ 3) ∧ (0 ≤ e.1.2 ∧ e.1.2 < n) ∧ 1 ≤ e.2 ∧ e.1.1 ≠ other ∧ (e.1.1 = one ∨ ∃ c ∈ cs, c.1 = e.1.1) := by
  revert hb
  refine snocC (P := fun cs => (∀ c ∈ cs, (0 ≤ c.1 ∧ c.1 ≤ 3) ∧ (0 ≤ c.2.1 ∧ c.2.1 < n) ∧ 1 ≤ c.2.2 ∧ c.2.2 ≤ 20) → ∀ e ∈ joinE one other cs, (0 ≤ e.1.1 ∧ e.1.1 ≤ 3) ∧ (0 ≤ e.1.2 ∧ e.1.2 < n) ∧ 1 ≤ e.2 ∧ e.1.1 ≠ other ∧ (e.1.1 = one ∨ ∃ c ∈ cs, c.1 = e.1.1)) (by simp [joinE]) (fun cs c ih hb => ?_) cs
  rw [joinE_snoc]
  have hc := hb c (by simp)
  have ih := ih fun x hx => hb x (by simp [hx])
  refine addE_mem (P := fun e => (0 ≤ e.1.1 ∧ e.1.1 ≤ 3) ∧ (0 ≤ e.1.2 ∧ e.1.2 < n) ∧ 1 ≤ e.2 ∧ e.1.1 ≠ other ∧ (e.1.1 = one ∨ ∃ x ∈ cs ++ [c], x.1 = e.1.1)) (fun e he => ?_) ?_ (fun v hv => ?_)
  · obtain ⟨a1, a2, a3, a4, a5⟩ := ih e he
    refine ⟨a1, a2, a3, a4, a5.imp id fun ⟨x, hx, e⟩ => ⟨x, by simp [hx], e⟩⟩
  · unfold ownJ
    by_cases z : c.1 = other
    · rw [if_pos z]
      exact ⟨ho, hc.2.1, hc.2.2.1, hne, .inl rfl⟩
    · rw [if_neg z]
      exact ⟨hc.1, hc.2.1, hc.2.2.1, z, .inr ⟨c, by simp, rfl⟩⟩
  · obtain ⟨a1, a2, a3, a4, a5⟩ := hv
    exact ⟨a1, a2, by have := hc.2.2.1; show 1 ≤ v + c.2.2; have : 1 ≤ v := a3; omega, a4, a5⟩
theorem joined_run (k : Nat) {n : Nat} {cs : List Cl} {one other : Int} {S : Sto} {X : XP} {Q : Val → Sto → Prop} (hS : PureS S) (h : GCl n cs) (h1 : one ∈ hsOf cs) (h2 : other ∈ hsOf cs) (hne : one ≠ other)
    (hX : ∀ m T, 20 < m → PureS (S ++ T) → X ⟨1007, [.int m, .int 20]⟩ (S ++ T)) (hQ : ∀ js : List Cl, GCl n js → js.Perm ((joinE one other cs).map clOf) → Q (.d (clD js)) S) :
    W (MS.run Gl Pr (k + 6) 20 [.d (clD cs), .d (.int one), .d (.int other)] S) X Q := by
  have hb1 : 0 ≤ one ∧ one ≤ 3 := by
    obtain ⟨c, hc, rfl⟩ := List.mem_map.mp (mem_srtI.mp h1)
    exact (h.b c hc).1
  have hb2 : 0 ≤ other ∧ other ≤ 3 := by
    obtain ⟨c, hc, rfl⟩ := List.mem_map.mp (mem_srtI.mp h2)
    exact (h.b c hc).1
  refine zwp_run (f := f_joined) rfl rfl ?_
  unfold f_joined
  repeat fail
  refine W.of (need_claims_run _ _ _ h) ?_
  repeat fail
  refine W.of (need_holder_run _ hS h.l2 hb1 h1) ?_
  repeat fail
  refine W.of (need_holder_run _ hS h.l2 hb2 h2) ?_
  repeat fail
  refine zif_f (by rw [eqv_int]; exact decide_eq_false hne) ?_
  repeat fail
  refine zws_for ?_
  repeat fail
  refine ⟨fun xs env S' => ∃ dn rst a5 a6 a7 a8, cs = dn ++ rst ∧ xs = (rst.map cD).map Val.d ∧ S' = S ++ [some (.dct (enD (joinE one other dn)))] ∧ env = [some (.d (clD cs)), some (.d (.int one)), some (.d (.int other)), some (.ref S.length), none, a5, a6, a7, a8], ?_, ?_, ?_⟩
  · exact ⟨[], cs, none, none, none, none, rfl, rfl, rfl, rfl⟩
  · intro x xs env S' ⟨dn, rst, a5, a6, a7, a8, e1, e2, e3, e4⟩
    cases rst with
    | nil => simp at e2
    | cons c rst =>
      simp only [List.map_cons, List.cons.injEq] at e2
      obtain ⟨rfl, e2⟩ := e2
      subst e3 e4
      have hnd := joinE_nd one other dn
      have hln := (joinE_len one other dn).1
      have hdl : dn.length ≤ 12 := by have := h.l2; rw [e1, List.length_append] at this; omega
      refine ⟨_, rfl, ?_⟩
      repeat fail
      by_cases z : c.1 = other
      · refine zif_t (by rw [eqv_int]; exact decide_eq_true z) ?_
        repeat fail
        refine ⟨by simp only [dctV, stGet_at]; rfl, ?_⟩
        repeat fail
        refine ⟨_, _, (show dctV (S ++ [some (Ob.dct (enD (joinE one other dn)))]) (.ref S.length) = some (enD (joinE one other dn)) from by simp only [dctV, stGet_at]), rfl, ?_⟩
        rw [show (lookD (enD (joinE one other dn)) [one, c.2.1]).getD (.d (.int 0)) = _ from look_enD _ (one, c.2.1)]
        repeat fail
        refine ⟨_, _, _, _, rfl, rfl, rfl, stGet_at, ⟨by rw [List.length_map]; unfold sLine; omega, by simp⟩, ?_⟩
        repeat fail
        have hown : ownJ one other c = (one, c.2.1) := by unfold ownJ; rw [if_pos z]
        refine ⟨dn ++ [c], rst, _, _, _, _, by rw [e1]; simp, e2, ?_, rfl⟩
        rw [set_at, putD_putP, putP_addE hnd, joinE_snoc, hown]
      · refine zif_f (by rw [eqv_int]; exact decide_eq_false z) ?_
        repeat fail
        refine ⟨by simp only [dctV, stGet_at]; rfl, ?_⟩
        repeat fail
        refine ⟨_, _, (show dctV (S ++ [some (Ob.dct (enD (joinE one other dn)))]) (.ref S.length) = some (enD (joinE one other dn)) from by simp only [dctV, stGet_at]), rfl, ?_⟩
        rw [show (lookD (enD (joinE one other dn)) [c.1, c.2.1]).getD (.d (.int 0)) = _ from look_enD _ (c.1, c.2.1)]
        repeat fail
        refine ⟨_, _, _, _, rfl, rfl, rfl, stGet_at, ⟨by rw [List.length_map]; unfold sLine; omega, by simp⟩, ?_⟩
        repeat fail
        have hown : ownJ one other c = (c.1, c.2.1) := by unfold ownJ; rw [if_neg z]
        refine ⟨dn ++ [c], rst, _, _, _, _, by rw [e1]; simp, e2, ?_, rfl⟩
        rw [set_at, putD_putP, putP_addE hnd, joinE_snoc, hown]
  · intro env S' ⟨dn, rst, a5, a6, a7, a8, e1, e2, e3, e4⟩
    have hrr : rst = [] := by
      cases rst with
      | nil => rfl
      | cons _ _ => simp at e2
    subst hrr e3 e4
    rw [List.append_nil] at e1
    subst e1
    have hln := joinE_len one other cs
    have hl12 := h.l2
    have hcne : cs ≠ [] := fun z => by have := h.l1; rw [z] at this; simp at this
    have hm := joinE_mem h.b hb1 hne
    have hnd := joinE_nd one other cs
    obtain ⟨js, q1, q2, q3⟩ := sort_cls hnd (by omega)
    repeat fail
    refine ⟨_, _, _, rfl, stGet_at, items_enD _, ?_⟩
    refine zcomp_map (g := gD joinP) (fun x hx => ?_) ?_
    · obtain ⟨y, hy, rfl⟩ := List.mem_map.mp hx
      obtain ⟨en, hen, rfl⟩ := List.mem_map.mp hy
      refine zwp_turn rfl ?_
      repeat fail
      rfl
    have e3 : ((joinE one other cs).map fun e => PyData.tuple [.tuple [.int e.1.1, .int e.1.2], .int e.2]).map joinP = ((joinE one other cs).map clOf).map cD := by
      rw [List.map_map, List.map_map]; rfl
    rw [gD_map, e3]
    refine ⟨_, _, rfl, q1, ?_⟩
    repeat fail
    have hpn : PureS (S ++ [none]) := hS.app rfl
    refine zws_for ?_
    repeat fail
    refine ⟨fun xs env S' => ∃ dn rst a5 a6 a7 a8, js = dn ++ rst ∧ (∀ c ∈ dn, c.2.2 ≤ 20) ∧ xs = (rst.map cD).map Val.d ∧ S' = S ++ [none] ∧ env = [some (.d (clD cs)), some (.d (.int one)), some (.d (.int other)), some (.ref S.length), some (.d (clD js)), a5, a6, a7, a8], ?_, ?_, ?_⟩
    · exact ⟨[], js, _, _, _, _, rfl, by simp, rfl, set_at, rfl⟩
    · intro x xs env S' ⟨dn, rst, a5, a6, a7, a8, e1, hd, e2, e3, e4⟩
      cases rst with
      | nil => simp at e2
      | cons c rst =>
        simp only [List.map_cons, List.cons.injEq] at e2
        obtain ⟨rfl, e2⟩ := e2
        subst e3 e4
        refine ⟨_, rfl, ?_⟩
        repeat fail
        refine zif (fun hz => ?_) (fun hz => ?_)
        · have hz : 20 < c.2.2 := of_decide_eq_true hz
          repeat fail
          exact hX _ [none] hz hpn
        · have hz : ¬ 20 < c.2.2 := of_decide_eq_false hz
          repeat fail
          refine ⟨dn ++ [c], rst, _, _, _, _, by rw [e1]; simp, fun x hx => ?_, e2, rfl, rfl⟩
          rcases List.mem_append.mp hx with z | z
          · exact hd x z
          · rw [List.mem_singleton.mp z]; omega
    · intro env S' ⟨dn, rst, a5, a6, a7, a8, e1, hd, e2, e3, e4⟩
      have hrr : rst = [] := by
        cases rst with
        | nil => rfl
        | cons _ _ => simp at e2
      subst hrr e3 e4
      rw [List.append_nil] at e1
      subst e1
      have hjl := q2.length_eq
      rw [List.length_map] at hjl
      have hg : GCl n js := by
        refine ⟨by have := hln.2 hcne; omega, by omega, fun c hc => ?_, q3, h.n6⟩
        obtain ⟨e, he, rfl⟩ := List.mem_map.mp (q2.mem_iff.mp hc)
        obtain ⟨a1, a2, a3, _⟩ := hm e he
        exact ⟨a1, a2, a3, hd _ hc⟩
      have hq := hQ js hg q2
      repeat fail
      show Q (.d (clD js)) (cutS S.length (.d (clD js)) (S ++ [none]))
      rw [cutS_app (fun _ z => by cases z) hS rfl]
      exact hq

-- D8.lean
/-! ### shares as fractions -/
def shN (t b : Nat) : Int × Int := (((t / Nat.gcd t b : Nat) : Int), ((b / Nat.gcd t b : Nat) : Int))
@[irreducible] def shP (cu : List Int) (cs : List Cl) (h : Int) : Int × Int := shN (cntH cu cs h).toNat (totH cu cs).toNat
theorem share_P (k : Nat) {cu : List Int} {cs : List Cl} {h : Int} {S : Sto} (hS : PureS S) (hcu : GCu cu) (hcl : GCl cu.length cs) (hm : h ∈ hsOf cs) :
    MS.run Gl Pr (k + 6) 17 [.d (cuD cu), .d (clD cs), .d (.int h)] S = .ok (.d (kyD (shP cu cs h))) S := by
  obtain ⟨t, b, e1, e2, t1, b1, t2, b2⟩ := holder_parts hcu hcl hm
  rw [share_of_run k hS hcu hcl hm e1 e2 t1 b1 t2 b2]
  have : shP cu cs h = ((t : Int) / (Nat.gcd t b : Nat), (b : Int) / (Nat.gcd t b : Nat)) := by
    unfold shP shN
    rw [e1, e2, Int.toNat_natCast, Int.toNat_natCast, Int.natCast_ediv, Int.natCast_ediv]
  rw [this]
/-- p stands for t / b -/
def Stands (p : Int × Int) (t b : Int) : Prop := p.1 * b = t * p.2 ∧ 0 < p.2
theorem shN_stands {t b : Nat} (hb : 1 ≤ b) : Stands (shN t b) t b := by
  have hg : 0 < Nat.gcd t b := Nat.gcd_pos_of_pos_right t hb
  obtain ⟨x, hx⟩ := Nat.gcd_dvd_left t b
  obtain ⟨y, hy⟩ := Nat.gcd_dvd_right t b
  have e1 : t / Nat.gcd t b = x := by
    conv => lhs; rw [show t / Nat.gcd t b = (Nat.gcd t b * x) / Nat.gcd t b from by rw [← hx]]
    exact Nat.mul_div_cancel_left x hg
  have e2 : b / Nat.gcd t b = y := by
    conv => lhs; rw [show b / Nat.gcd t b = (Nat.gcd t b * y) / Nat.gcd t b from by rw [← hy]]
    exact Nat.mul_div_cancel_left y hg
  unfold shN Stands
  rw [e1, e2]
  refine ⟨?_, ?_⟩
  · show (x : Int) * (b : Int) = (t : Int) * (y : Int)
    have : x * b = t * y := by
      conv => lhs; rw [hy]
      conv => rhs; rw [hx]
      rw [Nat.mul_left_comm, Nat.mul_assoc]
    rw [← Int.natCast_mul, ← Int.natCast_mul, this]
  · show (0 : Int) < (y : Int)
    have : y ≠ 0 := fun z => by rw [z] at hy; omega
    omega
theorem shP_stands {cu : List Int} {cs : List Cl} {h : Int} (hcu : GCu cu) (hcl : GCl cu.length cs) (hm : h ∈ hsOf cs) : Stands (shP cu cs h) (cntH cu cs h) (totH cu cs) := by
  obtain ⟨t, b, e1, e2, t1, b1, t2, b2⟩ := holder_parts hcu hcl hm
  unfold shP
  rw [e1, e2, Int.toNat_natCast, Int.toNat_natCast]
  exact shN_stands b1
theorem stands_like {p q : Int × Int} {t b : Int} (hb : 0 < b) (h1 : Stands p t b) (h2 : Stands q t b) : p.1 * q.2 = q.1 * p.2 := by
  obtain ⟨a1, a2⟩ := h1
  obtain ⟨b1, b2⟩ := h2
  have : (p.1 * q.2) * b = (q.1 * p.2) * b := by
    calc (p.1 * q.2) * b = (p.1 * b) * q.2 := by ac_rfl
      _ = (t * p.2) * q.2 := by rw [a1]
      _ = (t * q.2) * p.2 := by ac_rfl
      _ = (q.1 * b) * p.2 := by rw [b1]
      _ = (q.1 * p.2) * b := by ac_rfl
  exact Int.eq_of_mul_eq_mul_right (by omega) this
def addF (a p : Int × Int) : Int × Int := (a.1 * p.2 + p.1 * a.2, a.2 * p.2)
theorem stands_add {a p : Int × Int} {t u b : Int} (h1 : Stands a t b) (h2 : Stands p u b) : Stands (addF a p) (t + u) b := by
  obtain ⟨a1, a2⟩ := h1
  obtain ⟨b1, b2⟩ := h2
  refine ⟨?_, Int.mul_pos a2 b2⟩
  show (a.1 * p.2 + p.1 * a.2) * b = (t + u) * (a.2 * p.2)
  calc (a.1 * p.2 + p.1 * a.2) * b = (a.1 * b) * p.2 + (p.1 * b) * a.2 := by rw [Int.add_mul]; congr 1 <;> ac_rfl
    _ = (t * a.2) * p.2 + (u * p.2) * a.2 := by rw [a1, b1]
    _ = (t + u) * (a.2 * p.2) := by rw [Int.add_mul]; congr 1 <;> ac_rfl
@[irreducible] def sumF (l : List (Int × Int)) : Int × Int := l.foldl addF (0, 1)
theorem sumF_all (l : List (Int × Int)) : sumF l = l.foldl addF (0, 1) := by unfold sumF; rfl
theorem sumF_nil : sumF [] = (0, 1) := by unfold sumF; rfl
theorem sumF_snoc (l : List (Int × Int)) (p : Int × Int) : sumF (l ++ [p]) = addF (sumF l) p := by unfold sumF; rw [List.foldl_append]; rfl
theorem sumF_two (p q : Int × Int) : sumF [p, q] = addF (addF (0, 1) p) q := by unfold sumF; rfl
theorem sumF_stands {α : Type} (f : α → Int × Int) (g : α → Int) (b : Int) : ∀ (l : List α) (a : Int × Int) (t : Int), (∀ x ∈ l, Stands (f x) (g x) b) → Stands a t b → Stands ((l.map f).foldl addF a) (t + (l.map g).sum) b
  | [], a, t, _, h => by simpa using h
  | x :: l, a, t, h, h2 => by
    have := sumF_stands f g b l (addF a (f x)) (t + g x) (fun y hy => h y (by simp [hy])) (stands_add h2 (h x (by simp)))
    rw [List.map_cons, List.foldl_cons, List.map_cons, List.sum_cons, ← Int.add_assoc]
    exact this
theorem stands_zero (b : Int) : Stands (0, 1) 0 b := ⟨by simp, by decide⟩
theorem stands_one (b : Int) : Stands (1, 1) b b := ⟨by simp, by decide⟩
/-! ### counts over claims -/
theorem hs_nd {cs : List Cl} : (hsOf cs).Nodup := by
  unfold List.Nodup hsOf
  exact (pw_srtI _).imp fun {a b} h => by omega
theorem hs_nn {n : Nat} {cs : List Cl} (h : GCl n cs) : hsOf cs ≠ [] := by
  obtain ⟨c, hc⟩ : ∃ c, c ∈ cs := by
    cases cs with
    | nil => have := h.l1; simp at this
    | cons c cs => exact ⟨c, by simp⟩
  have : c.1 ∈ hsOf cs := mem_srtI.mpr (List.mem_map_of_mem hc)
  intro z
  rw [z] at this; cases this
def cw (cu : List Int) (h : Int) (k : Int × Int) : Int := if k.1 = h then cu.getD k.2.toNat 0 else 0
def cwA (cu : List Int) (k : Int × Int) : Int := cu.getD k.2.toNat 0
theorem cntH_sum (cu : List Int) (h : Int) : ∀ (cs : List Cl), cntH cu cs h = (cs.map fun c => cw cu h (c.1, c.2.1) * c.2.2).sum
  | [] => rfl
  | c :: cs => by
    have ih := cntH_sum cu h cs
    unfold cntH at ih ⊢
    rw [List.map_cons, List.sum_cons, ← ih, List.filter_cons]
    unfold cw wt
    by_cases e : c.1 = h
    · simp [e]
    · simp [e]
theorem totH_sum (cu : List Int) : ∀ (cs : List Cl), totH cu cs = (cs.map fun c => cwA cu (c.1, c.2.1) * c.2.2).sum := fun cs => rfl
theorem perm_sumI {a b : List Int} (h : a.Perm b) : a.sum = b.sum := by
  induction h with
  | nil => rfl
  | cons x _ ih => simp only [List.sum_cons, ih]
  | swap x y l => simp only [List.sum_cons]; omega
  | trans _ _ h1 h2 => exact h1.trans h2
theorem sum_cl (f : Int × Int → Int) (es : EsK) : ((es.map clOf).map fun c => f (c.1, c.2.1) * c.2.2).sum = sumE f es := by
  unfold sumE
  rw [List.map_map]; rfl
section
variable {cu : List Int} {cs js : List Cl} {one other : Int}
theorem cnt_join (hp : js.Perm ((joinE one other cs).map clOf)) (h : Int) : cntH cu js h = (cs.map fun c => cw cu h (ownJ one other c) * c.2.2).sum := by
  rw [cntH_sum, perm_sumI (hp.map fun c => cw cu h (c.1, c.2.1) * c.2.2), sum_cl (cw cu h), joinE_sum]
theorem tot_join (hp : js.Perm ((joinE one other cs).map clOf)) : totH cu js = totH cu cs := by
  rw [totH_sum, perm_sumI (hp.map fun c => cwA cu (c.1, c.2.1) * c.2.2), sum_cl (cwA cu), joinE_sum, totH_sum]
  rfl
theorem cnt_other (hp : js.Perm ((joinE one other cs).map clOf)) {h : Int} (h1 : h ≠ one) (h2 : h ≠ other) : cntH cu js h = cntH cu cs h := by
  rw [cnt_join hp, cntH_sum]
  congr 1
  refine List.map_congr_left fun c _ => ?_
  unfold ownJ cw
  by_cases e : c.1 = other
  · have e1 : ¬ one = h := fun z => h1 z.symm
    have e2 : ¬ c.1 = h := fun z => h2 (by rw [← z, e])
    simp only [if_pos e, if_neg e1, if_neg e2]
  · simp only [if_neg e]
theorem sum_add2 (f g : Cl → Int) : ∀ (l : List Cl), (l.map fun c => f c + g c).sum = (l.map f).sum + (l.map g).sum
  | [] => rfl
  | c :: l => by
    have := sum_add2 f g l
    simp only [List.map_cons, List.sum_cons] at this ⊢
    omega
theorem cnt_one (hp : js.Perm ((joinE one other cs).map clOf)) (hne : one ≠ other) : cntH cu js one = cntH cu cs one + cntH cu cs other := by
  rw [cnt_join hp, cntH_sum cu one, cntH_sum cu other, ← sum_add2]
  congr 1
  refine List.map_congr_left fun c _ => ?_
  unfold ownJ cw
  by_cases e : c.1 = other
  · have e1 : ¬ c.1 = one := fun z => hne (by rw [← z, e])
    have e2 : ¬ other = one := fun z => hne z.symm
    simp only [if_pos e, e, e2, if_true, if_false, Int.zero_mul, Int.zero_add]
  · by_cases e2 : c.1 = one
    · simp only [if_neg e, e2, if_true, hne, if_false, Int.zero_mul, Int.add_zero]
    · simp only [if_neg e, if_neg e2, Int.zero_mul, Int.add_zero]
/-- all together -/
theorem cnt_all (cu : List Int) (cs : List Cl) : ((hsOf cs).map (cntH cu cs)).sum = totH cu cs := by
  have key : ∀ (l : List Cl) (hs : List Int), hs.Nodup → (∀ c ∈ l, c.1 ∈ hs) → (hs.map fun h => (l.map fun c => cw cu h (c.1, c.2.1) * c.2.2).sum).sum = (l.map fun c => cwA cu (c.1, c.2.1) * c.2.2).sum := by
    intro l hs hnd
    induction l with
    | nil =>
      intro _
      have : ∀ (l : List Int), (l.map fun _ => (0 : Int)).sum = 0 := fun l => by induction l with
        | nil => rfl
        | cons a l ih => simp only [List.map_cons, List.sum_cons, ih]; rfl
      exact this hs
    | cons c l ih =>
      intro hm
      have ih := ih fun x hx => hm x (by simp [hx])
      have e1 : ∀ (l1 : List Int) (f g : Int → Int), (l1.map fun h => f h + g h).sum = (l1.map f).sum + (l1.map g).sum := fun l1 f g => by
        induction l1 with
        | nil => rfl
        | cons a l1 ih => simp only [List.map_cons, List.sum_cons, ih]; omega
      have e2 : ∀ (l1 : List Int), l1.Nodup → (l1.map fun h => cw cu h (c.1, c.2.1) * c.2.2).sum = if c.1 ∈ l1 then cwA cu (c.1, c.2.1) * c.2.2 else 0 := fun l1 => by
        induction l1 with
        | nil => intro _; rfl
        | cons a l1 ih =>
          intro hn
          obtain ⟨n1, n2⟩ := List.nodup_cons.mp hn
          rw [List.map_cons, List.sum_cons, ih n2]
          unfold cw cwA
          by_cases z : c.1 = a
          · have : ¬ c.1 ∈ l1 := by rw [z]; exact n1
            simp [z, n1]
          · simp [z]
      simp only [List.map_cons, List.sum_cons]
      rw [e1 hs (fun h => cw cu h (c.1, c.2.1) * c.2.2), e2 hs hnd, if_pos (hm c (by simp)), ih]
  have h := key cs (hsOf cs) hs_nd fun c hc => mem_srtI.mpr (List.mem_map_of_mem hc)
  rw [totH_sum, ← h]
  congr 1
  exact List.map_congr_left fun h _ => cntH_sum cu h cs
/-- a custom with all counts as many times greater -/
theorem wt_times {k : Int} {c : Cl} (hc : 0 ≤ c.2.1 ∧ c.2.1 < cu.length) : wt (cu.map (· * k)) c = k * wt cu c := by
  unfold wt
  have hj : c.2.1.toNat < cu.length := by omega
  have e1 : (cu.map (· * k)).getD c.2.1.toNat 0 = cu.getD c.2.1.toNat 0 * k := by
    rw [List.getD_eq_getElem?_getD, List.getD_eq_getElem?_getD, List.getElem?_map, List.getElem?_eq_getElem hj]; rfl
  rw [e1]; ac_rfl
theorem cnt_times {k : Int} (hcl : GCl cu.length cs) (h : Int) : cntH (cu.map (· * k)) cs h = k * cntH cu cs h ∧ totH (cu.map (· * k)) cs = k * totH cu cs := by
  have key : ∀ l : List Cl, (∀ c ∈ l, c ∈ cs) → (l.map (wt (cu.map (· * k)))).sum = k * (l.map (wt cu)).sum := fun l => by
    induction l with
    | nil => intro _; simp
    | cons c l ih =>
      intro hm
      simp only [List.map_cons, List.sum_cons]
      rw [ih fun x hx => hm x (by simp [hx]), wt_times (hcl.b c (hm c (by simp))).2.1, Int.mul_add]
  exact ⟨key _ fun c hc => (List.mem_filter.mp hc).1, key _ fun c hc => hc⟩
theorem shP_times {k : Int} (hk : 1 ≤ k) (hcu : GCu cu) (hcl : GCl cu.length cs) {h : Int} (hm : h ∈ hsOf cs) : shP (cu.map (· * k)) cs h = shP cu cs h := by
  obtain ⟨t, b, e1, e2, t1, b1, t2, b2⟩ := holder_parts hcu hcl hm
  obtain ⟨f1, f2⟩ := cnt_times (k := k) hcl h
  obtain ⟨kn, rfl⟩ := Int.eq_ofNat_of_zero_le (show 0 ≤ k by omega)
  have hk' : 0 < kn := by omega
  unfold shP
  rw [f1, f2, e1, e2]
  have g1 : ((kn : Int) * (t : Int)).toNat = kn * t := by rw [← Int.natCast_mul, Int.toNat_natCast]
  have g2 : ((kn : Int) * (b : Int)).toNat = kn * b := by rw [← Int.natCast_mul, Int.toNat_natCast]
  rw [g1, g2, Int.toNat_natCast, Int.toNat_natCast]
  unfold shN
  rw [Nat.gcd_mul_left, Nat.mul_div_mul_left _ _ hk', Nat.mul_div_mul_left _ _ hk']
/-- a count is no less than its rights -/
theorem cnt_ge (hcu : GCu cu) (hcl : GCl cu.length cs) (h : Int) : ((cs.filter fun c => decide (c.1 = h)).map fun c => c.2.2).sum ≤ cntH cu cs h := by
  have key : ∀ l : List Cl, (∀ c ∈ l, c ∈ cs) → (l.map fun c => c.2.2).sum ≤ (l.map (wt cu)).sum := fun l => by
    induction l with
    | nil => intro _; simp
    | cons c l ih =>
      intro hm
      have ih := ih fun x hx => hm x (by simp [hx])
      have hb := hcl.b c (hm c (by simp))
      have hj : c.2.1.toNat < cu.length := by omega
      have e : cu.getD c.2.1.toNat 0 = cu[c.2.1.toNat] := by rw [List.getD_eq_getElem?_getD, List.getElem?_eq_getElem hj]; rfl
      have hb2 := hcu.b _ (List.getElem_mem hj)
      rw [← e] at hb2
      have : c.2.2 ≤ wt cu c := by
        unfold wt
        have := Int.mul_le_mul_of_nonneg_right (c := c.2.2) hb2.1 (by omega)
        simpa using this
      simp only [List.map_cons, List.sum_cons]
      omega
  exact key _ fun c hc => (List.mem_filter.mp hc).1
end

-- E1.lean
theorem last_le : ∀ {ns : List Int}, ns.Pairwise (· < ·) → ∀ {n : Int}, n ∈ ns → ∃ m, ns.getLast? = some m ∧ n ≤ m
  | [], _, _, h => by cases h
  | [a], _, n, h => ⟨a, rfl, by rw [List.mem_singleton.mp h]; exact Int.le_refl _⟩
  | a :: b :: ns, hp, n, h => by
    obtain ⟨h1, h2⟩ := List.pairwise_cons.mp hp
    rcases List.mem_cons.mp h with z | z
    · subst z
      obtain ⟨m, e, hm⟩ := last_le h2 (n := b) (by simp)
      refine ⟨m, by rw [List.getLast?_cons_cons]; exact e, ?_⟩
      have := h1 b (by simp); omega
    · obtain ⟨m, e, hm⟩ := last_le h2 z
      exact ⟨m, by rw [List.getLast?_cons_cons]; exact e, hm⟩
theorem ix_lastD {S : Sto} {ns : List Int} {m : Int} (e : ns.getLast? = some m) : ixV S (.d (.list (ns.map PyData.int))) (.int (-1)) = some (.d (.int m)) := by
  have hne : ns ≠ [] := fun z => by rw [z] at e; cases e
  have hl : 0 < ns.length := List.length_pos_iff.mpr hne
  have e1 : ixOf (ns.map PyData.int).length (-1) = some (ns.length - 1) := by
    unfold ixOf
    simp only [List.length_map]
    rw [if_neg (by omega), if_pos (by omega)]
    congr 1 <;> omega
  have e2 : (ns.map PyData.int)[ns.length - 1]? = some (.int m) := by
    rw [List.getElem?_map]
    rw [List.getLast?_eq_getElem?] at e
    rw [e]; rfl
  simp only [ixV, ixD, atD, e1, Option.bind_some, e2, Option.map_some]
/-! ### the law's own sums -/
def SmF (p : Int × Int) : Prop := (0 ≤ p.1 ∧ p.1 < 30000) ∧ 0 < p.2 ∧ p.2 < 30000
theorem shP_sm {cu : List Int} {cs : List Cl} {h : Int} (hcu : GCu cu) (hcl : GCl cu.length cs) (hm : h ∈ hsOf cs) : SmF (shP cu cs h) := by
  obtain ⟨t, b, e1, e2, t1, b1, t2, b2⟩ := holder_parts hcu hcl hm
  have hs := (shP_stands hcu hcl hm).2
  unfold shP at hs ⊢
  rw [e1, e2, Int.toNat_natCast, Int.toNat_natCast] at hs ⊢
  unfold shN at hs ⊢
  have h1 : t / Nat.gcd t b ≤ t := Nat.div_le_self _ _
  have h2 : b / Nat.gcd t b ≤ b := Nat.div_le_self _ _
  refine ⟨⟨?_, ?_⟩, hs, ?_⟩
  · exact Int.natCast_nonneg _
  · exact Int.lt_of_le_of_lt (Int.ofNat_le.mpr h1) (by omega)
  · exact Int.lt_of_le_of_lt (Int.ofNat_le.mpr h2) (by omega)
theorem mul_l {a b : Int} (h : 0 ≤ a ∧ a < 30000) : binD .mul (.int a) (.int b) = some (.int (a * b)) := binD_mul (by unfold mulOk; rw [Bool.or_eq_true]; exact .inl (decide_eq_true ⟨by omega, by omega⟩))
theorem mul_r {a b : Int} (h : 0 ≤ b ∧ b < 30000) : binD .mul (.int a) (.int b) = some (.int (a * b)) := binD_mul (by unfold mulOk; rw [Bool.or_eq_true]; exact .inr (decide_eq_true ⟨by omega, by omega⟩))
theorem ixk0 {S : Sto} (p : Int × Int) : ixV S (.d (kyD p)) (.int 0) = some (.d (.int p.1)) := ixv_tup (i := 0) rfl
theorem ixk1 {S : Sto} (p : Int × Int) : ixV S (.d (kyD p)) (.int 1) = some (.d (.int p.2)) := ixv_tup (i := 1) rfl
theorem law_sum_run (k : Nat) {ps : List (Int × Int)} {S : Sto} (hps : ∀ p ∈ ps, SmF p) : MS.run Gl Pr (k + 1) 27 [.d (.list (ps.map kyD))] S = .ok (.d (kyD (sumF ps))) S := by
  refine W.ok (zwp_run (f := f_law_sum) rfl rfl ?_)
  unfold f_law_sum
  refine zws_join (fun env S' => S' = S ∧ env = [some (.d (.list (ps.map kyD))), some (.d (.int 0)), some (.d (.int 1)), none, none]) ?_ ?_
  · repeat fail
    first | exact rfl | exact ⟨rfl, rfl⟩
  intro env S' ⟨e1, e2⟩
  subst e1 e2
  refine zws_join (fun env S2 => S2 = S' ∧ ∃ a3 a4, env = [some (.d (.list (ps.map kyD))), some (.d (.int (sumF ps).1)), some (.d (.int (sumF ps).2)), a3, a4]) ?_ ?_
  · refine zws_for ?_
    repeat fail
    refine ⟨fun xs env S2 => ∃ dn rst a3 a4, ps = dn ++ rst ∧ xs = (rst.map kyD).map Val.d ∧ S2 = S' ∧ env = [some (.d (.list (ps.map kyD))), some (.d (.int (sumF dn).1)), some (.d (.int (sumF dn).2)), a3, a4], ?_, ?_, ?_⟩
    · exact ⟨[], ps, none, none, rfl, rfl, rfl, by rw [sumF_nil]⟩
    · intro x xs env S2 ⟨dn, rst, a3, a4, e1, e2, e3, e4⟩
      cases rst with
      | nil => simp at e2
      | cons p rst =>
        simp only [List.map_cons, List.cons.injEq] at e2
        obtain ⟨rfl, e2⟩ := e2
        subst e3 e4
        obtain ⟨h1, h2⟩ := hps p (by rw [e1]; simp)
        refine ⟨_, rfl, ?_⟩
        repeat fail
        refine ⟨_, _, _, rfl, rfl, mul_r ⟨by omega, h2.2⟩, ?_⟩
        repeat fail
        refine ⟨_, _, _, rfl, rfl, mul_l h1, ?_⟩
        repeat fail
        refine ⟨_, _, _, rfl, rfl, mul_r ⟨by omega, h2.2⟩, ?_⟩
        repeat fail
        refine ⟨dn ++ [p], rst, some (.d (.int p.1)), some (.d (.int p.2)), by rw [e1]; simp, e2, rfl, ?_⟩
        have es : sumF (dn ++ [p]) = addF (sumF dn) p := sumF_snoc dn p
        rw [es]
        rfl
    · intro env S2 ⟨dn, rst, a3, a4, e1, e2, e3, e4⟩
      have hrr : rst = [] := by
        cases rst with
        | nil => rfl
        | cons _ _ => simp at e2
      subst hrr e3 e4
      rw [List.append_nil] at e1
      subst e1
      repeat fail
      first | exact ⟨_, _, rfl⟩ | exact ⟨rfl, _, _, rfl⟩
  intro env S2 ⟨e1, a3, a4, e2⟩
  subst e1 e2
  repeat fail
  exact cutS_self _ _
theorem law_like_run (k : Nat) {a b : Int × Int} {S : Sto} (h : SmF a ∨ SmF b) : MS.run Gl Pr (k + 1) 28 [.d (kyD a), .d (kyD b)] S = .ok (.d (.bool (decide (a.1 * b.2 = b.1 * a.2)))) S := by
  have m1 : binD .mul (.int a.1) (.int b.2) = some (.int (a.1 * b.2)) := by
    rcases h with ⟨h1, h2⟩ | ⟨h1, h2⟩
    · exact mul_l h1
    · exact mul_r ⟨by omega, h2.2⟩
  have m2 : binD .mul (.int b.1) (.int a.2) = some (.int (b.1 * a.2)) := by
    rcases h with ⟨h1, h2⟩ | ⟨h1, h2⟩
    · exact mul_r ⟨by omega, h2.2⟩
    · exact mul_l h1
  refine W.ok (zwp_run (f := f_law_like) rfl rfl ?_)
  unfold f_law_like
  repeat fail
  refine ⟨_, _, _, rfl, rfl, m1, ?_⟩
  repeat fail
  refine ⟨_, _, _, rfl, rfl, m2, ?_⟩
  repeat fail
  rw [eqv_int]
  exact cutS_self _ _
theorem inD_ints (h : Int) (us : List Int) : inD (.int h) (us.map PyData.int) = some (decide (h ∈ us)) := by
  unfold inD
  rw [if_pos (by unfold inOk; rw [lay_ints]; rfl), any_ints]
def gNo (one other : Int) : Val → Option D
  | .d (.int h) => if h = one ∨ h = other then none else some (.int h)
  | _ => none
theorem gNo_map (one other : Int) : ∀ (l : List Int), ((l.map PyData.int).map Val.d).filterMap (gNo one other) = (l.filter fun h => !decide (h = one ∨ h = other)).map PyData.int
  | [] => rfl
  | h :: l => by
    have ih := gNo_map one other l
    simp only [List.map_cons, List.filterMap_cons, List.filter_cons, gNo, ih]
    by_cases z : h = one ∨ h = other
    · simp [z]
    · simp [z]
def shD (cu : List Int) (cs : List Cl) : D → D
  | .int h => kyD (shP cu cs h)
  | _ => .none
theorem shD_map (cu : List Int) (cs : List Cl) (hs : List Int) : (hs.map PyData.int).map (shD cu cs) = (hs.map (shP cu cs)).map kyD := by
  rw [List.map_map, List.map_map]; rfl
theorem eqv_kys : ∀ (l m : List (Int × Int)), PyData.eqvAll (l.map kyD) (m.map kyD) = decide (l = m)
  | [], [] => rfl
  | [], _ :: _ => by simp [PyData.eqvAll]
  | _ :: _, [] => by simp [PyData.eqvAll]
  | a :: l, b :: m => by
    simp only [List.map_cons, PyData.eqvAll, eqv_kyD, eqv_kys l m, List.cons.injEq]
    by_cases h1 : a = b <;> by_cases h2 : l = m <;> simp [h1, h2]
theorem eqOk_kys (l m : List (Int × Int)) : eqOk (.list (l.map kyD)) (.list (m.map kyD)) = true := by
  have hl : ∀ l : List (Int × Int), PyData.canLayAll0 (l.map kyD) = true := fun l => by
    induction l with
    | nil => rfl
    | cons a l ih => simp only [List.map_cons, PyData.canLayAll0, ih, Bool.and_true]; rfl
  have hd : ∀ l : List (Int × Int), PyData.depthAll (l.map kyD) ≤ 2 := fun l => by
    induction l with
    | nil => simp [PyData.depthAll]
    | cons a l ih => simp only [List.map_cons, PyData.depthAll, PyData.depth]; omega
  unfold eqOk
  have d : decide (PyData.depth (.list (l.map kyD)) ≤ 64) = true := by
    have := hd l
    refine decide_eq_true ?_
    simp only [PyData.depth]
    omega
  have l1 := hl l
  have l2 := hl m
  rw [d]
  simp [PyData.canLay0, l1, l2]
theorem eqv_kyl (l m : List (Int × Int)) : PyData.eqv (.list (l.map kyD)) (.list (m.map kyD)) = decide (l = m) := by
  rw [show PyData.eqv (.list (l.map kyD)) (.list (m.map kyD)) = PyData.eqvAll (l.map kyD) (m.map kyD) from by simp [PyData.eqv], eqv_kys]
theorem eqD_kys (l m : List (Int × Int)) : eqD (.list (l.map kyD)) (.list (m.map kyD)) = some (decide (l = m)) := by
  unfold eqD
  rw [if_pos (eqOk_kys l m), eqv_kyl]
theorem law_joins_run (k : Nat) {cu : List Int} {cs : List Cl} {one other : Int} {S : Sto} (hS : PureS S) (hcu : GCu cu) (hcl : GCl cu.length cs) (h1 : one ∈ hsOf cs) (h2 : other ∈ hsOf cs) (hne : one ≠ other) :
    W (MS.run Gl Pr (k + 8) 29 [.d (cuD cu), .d (clD cs), .d (.int one), .d (.int other)] S) noX fun v S' => v = .d (.bool true) ∧ S' = S := by
  refine zwp_run (f := f_law_joins) rfl rfl ?_
  unfold f_law_joins
  refine zws_join (fun env S' => ∃ js : List Cl, GCl cu.length js ∧ js.Perm ((joinE one other cs).map clOf) ∧ S' = S ∧ env = [some (.d (cuD cu)), some (.d (clD cs)), some (.d (.int one)), some (.d (.int other)), none, none, none, some (.d (clD js)), none]) ?_ ?_
  · repeat fail
    refine joined_run _ hS hcl h1 h2 hne (fun m T hm hT => ?_) (fun js j1 j2 => ?_)
    · refine ⟨rfl, .inl ⟨rfl, ?_⟩⟩
      repeat fail
      refine zif_t (decide_eq_true hm) ?_
      repeat fail
      exact cutS_app (fun _ z => by cases z) hS rfl
    · repeat fail
      exact ⟨js, j1, j2, rfl, rfl⟩
  intro env S' ⟨js, j1, j2, e1, e2⟩
  subst e1 e2
  have hjm : ∀ x ∈ hsOf js, (x ∈ hsOf cs) ∧ x ≠ other := fun x hx => by
    obtain ⟨c, hc, rfl⟩ := List.mem_map.mp (mem_srtI.mp hx)
    obtain ⟨e, he, rfl⟩ := List.mem_map.mp (j2.mem_iff.mp hc)
    have hb1 : 0 ≤ one ∧ one ≤ 3 := by
      obtain ⟨c, hc, rfl⟩ := List.mem_map.mp (mem_srtI.mp h1)
      exact (hcl.b c hc).1
    obtain ⟨_, _, _, a4, a5⟩ := joinE_mem hcl.b hb1 hne e he
    refine ⟨?_, a4⟩
    rcases a5 with a5 | ⟨c, hc, a5⟩
    · show e.1.1 ∈ hsOf cs; rw [a5]; exact h1
    · show e.1.1 ∈ hsOf cs; rw [← a5]; exact mem_srtI.mpr (List.mem_map_of_mem hc)
  have hjc : ∀ x ∈ hsOf cs, x ≠ other → x ∈ hsOf js := fun x hx hxo => by
    by_cases hz : x ∈ hsOf js
    · exact hz
    · exfalso
      have z0 : cntH cu js x = 0 := by
        unfold cntH
        have : js.filter (fun c => decide (c.1 = x)) = [] := List.filter_eq_nil_iff.mpr fun c hc => by
          have : ¬ c.1 = x := fun e => hz (by rw [← e]; exact mem_srtI.mpr (List.mem_map_of_mem hc))
          simpa using this
        rw [this]; rfl
      obtain ⟨t, b, q1, q2, q3, _⟩ := holder_parts hcu hcl hx
      by_cases ho : x = one
      · have := cnt_one (cu := cu) j2 hne
        rw [← ho, z0] at this
        obtain ⟨t2, b2, q4, q5, q6, _⟩ := holder_parts hcu hcl h2
        omega
      · have := cnt_other (cu := cu) j2 ho hxo
        omega
  have h1j := hjc one h1 hne
  have htot : totH cu js = totH cu cs := tot_join j2
  have hb : 0 < totH cu cs := by
    obtain ⟨t, b, q1, q2, q3, q4, _⟩ := holder_parts hcu hcl h1
    omega
  have st1 := shP_stands hcu hcl h1
  have st2 := shP_stands hcu hcl h2
  have st3 := shP_stands hcu j1 h1j
  rw [htot, cnt_one j2 hne] at st3
  have st12 : Stands (sumF [shP cu cs one, shP cu cs other]) (cntH cu cs one + cntH cu cs other) (totH cu cs) := by
    have := stands_add (stands_add (stands_zero (totH cu cs)) st1) st2
    rw [Int.zero_add] at this
    rw [sumF_two]
    exact this
  have hlike := stands_like hb st3 st12
  repeat fail
  refine W.of (share_P _ hS hcu hcl h1) ?_
  repeat fail
  refine W.of (share_P _ hS hcu hcl h2) ?_
  repeat fail
  have hsum : ∀ k, MS.run Gl Pr (k + 1) 27 [.d (.list [kyD (shP cu cs one), kyD (shP cu cs other)])] S' = .ok (.d (kyD (sumF [shP cu cs one, shP cu cs other]))) S' := fun k => law_sum_run k (ps := [shP cu cs one, shP cu cs other]) fun p hp => by
    simp only [List.mem_cons, List.not_mem_nil, or_false] at hp
    rcases hp with rfl | rfl
    · exact shP_sm hcu hcl h1
    · exact shP_sm hcu hcl h2
  generalize sumF [shP cu cs one, shP cu cs other] = sm at hsum hlike st12
  refine W.of (hsum _) ?_
  repeat fail
  refine W.of (holders_of_run _ _ _ j1) ?_
  repeat fail
  refine ⟨_, _, _, rfl, rfl, (show inD (.int other) ((hsOf js).map PyData.int) = _ from inD_ints _ _), ?_⟩
  rw [decide_eq_false (fun z => (hjm other z).2 rfl)]
  refine ⟨_, rfl, ?_⟩
  repeat fail
  refine W.of (share_P _ hS hcu j1 h1j) ?_
  repeat fail
  refine W.of (law_like_run _ (.inl (shP_sm hcu j1 h1j))) ?_
  rw [decide_eq_true hlike]
  repeat fail
  refine W.of (holders_of_run _ _ _ hcl) ?_
  repeat fail
  refine zcomp_map (g := gNo one other) (fun x hx => ?_) ?_
  · obtain ⟨y, hy, rfl⟩ := List.mem_map.mp hx
    obtain ⟨h, hh, rfl⟩ := List.mem_map.mp hy
    refine zwp_turn rfl ?_
    repeat fail
    by_cases z : h ∈ [one, other]
    · have z2 : h = one ∨ h = other := by simpa using z
      refine zif_f (by show (!(([one, other].map PyData.int).any fun z => PyData.eqv z (.int h))) = false; rw [any_ints, decide_eq_true z]; rfl) ?_
      simp only [gNo, if_pos z2]
      try exact ⟨trivial, trivial⟩
    · have z2 : ¬ (h = one ∨ h = other) := by simpa using z
      refine zif_t (by show (!(([one, other].map PyData.int).any fun z => PyData.eqv z (.int h))) = true; rw [any_ints, decide_eq_false z]; rfl) ?_
      repeat fail
      simp only [gNo, if_neg z2]
      try exact ⟨trivial, trivial⟩
  rw [gNo_map]
  have hrest : ∀ h ∈ (hsOf cs).filter (fun h => !decide (h = one ∨ h = other)), h ∈ hsOf cs ∧ h ∈ hsOf js ∧ shP cu js h = shP cu cs h := fun h hh => by
    obtain ⟨z1, z2⟩ := List.mem_filter.mp hh
    have z3 : ¬ (h = one ∨ h = other) := by simpa using z2
    refine ⟨z1, hjc h z1 (fun e => z3 (.inr e)), ?_⟩
    unfold shP
    rw [cnt_other j2 (fun e => z3 (.inl e)) (fun e => z3 (.inr e)), htot]
  generalize (hsOf cs).filter (fun h => !decide (h = one ∨ h = other)) = rest at hrest
  repeat fail
  refine zcomp_map (g := gD (shD cu js)) (fun x hx => ?_) ?_
  · obtain ⟨y, hy, rfl⟩ := List.mem_map.mp hx
    obtain ⟨h, hh, rfl⟩ := List.mem_map.mp hy
    refine zwp_turn rfl ?_
    repeat fail
    refine W.of (share_P _ hS hcu j1 (hrest h hh).2.1) ?_
    repeat fail
    rfl
  rw [gD_map, shD_map]
  repeat fail
  refine zcomp_map (g := gD (shD cu cs)) (fun x hx => ?_) ?_
  · obtain ⟨y, hy, rfl⟩ := List.mem_map.mp hx
    obtain ⟨h, hh, rfl⟩ := List.mem_map.mp hy
    refine zwp_turn rfl ?_
    repeat fail
    refine W.of (share_P _ hS hcu hcl (hrest h hh).1) ?_
    repeat fail
    rfl
  rw [gD_map, shD_map]
  repeat fail
  refine ⟨_, _, _, rfl, rfl, (show cmpD .eq (.list ((rest.map (shP cu js)).map kyD)) (.list ((rest.map (shP cu cs)).map kyD)) = _ from eqD_kys _ _), ?_⟩
  rw [decide_eq_true (List.map_congr_left fun h hh => (hrest h hh).2.2)]
  repeat fail
  exact cutS_self _ _

-- E2.lean
/-! ### the law -/
theorem ne_clD (a b : List Cl) : cmpD .ne (clD a) (clD b) = some (!decide (a = b)) := by
  have h1 : ∀ l : List Cl, PyData.canLayAll0 (l.map cD) = true := fun l => by
    induction l with
    | nil => rfl
    | cons a l ih => simp only [List.map_cons, PyData.canLayAll0, ih, Bool.and_true]; rfl
  have h2 : ∀ l : List Cl, PyData.depthAll (l.map cD) ≤ 2 := fun l => by
    induction l with
    | nil => simp [PyData.depthAll]
    | cons a l ih =>
      have : PyData.depth (cD a) ≤ 2 := by
        obtain ⟨x, y, z⟩ := a
        show PyData.depth (.tuple [.int x, .int y, .int z]) ≤ 2
        simp [PyData.depth, PyData.depthAll]
      simp only [List.map_cons, PyData.depthAll]; omega
  have h3 : ∀ l m : List Cl, PyData.eqvAll (l.map cD) (m.map cD) = decide (l = m) := fun l => by
    induction l with
    | nil => intro m; cases m <;> simp [PyData.eqvAll]
    | cons a l ih =>
      intro m
      cases m with
      | nil => simp [PyData.eqvAll]
      | cons b m =>
        simp only [List.map_cons, PyData.eqvAll, eqv_cD, ih m, List.cons.injEq]
        by_cases z1 : a = b <;> by_cases z2 : l = m <;> simp [z1, z2]
  show (eqD (clD a) (clD b)).map (!·) = _
  unfold eqD
  have ok : eqOk (clD a) (clD b) = true := by
    unfold eqOk
    have d : decide (PyData.depth (clD a) ≤ 64) = true := by
      have := h2 a
      refine decide_eq_true ?_
      simp only [clD, PyData.depth]
      omega
    have l1 := h1 a
    have l2 := h1 b
    rw [d]
    simp [clD, PyData.canLay0, l1, l2]
  rw [if_pos ok, show PyData.eqv (clD a) (clD b) = PyData.eqvAll (a.map cD) (b.map cD) from by simp [clD, PyData.eqv], h3]
  rfl
theorem biV_maxT {S : Sto} {ns : List Int} (h : ns ≠ []) : biV S .max (.d (cuD ns)) = some (.int ((maxI ns).getD 0)) := by
  cases ns with
  | nil => exact absurd rfl h
  | cons n ns => simp only [cuD, biV, view_d, Option.bind_some, biD, allI_map]; rfl
def gTw (h : Int) : Val → Option D
  | .d (.tuple [.int a, _, .int m]) => if a = h then some (.int m) else none
  | _ => none
theorem gTw_map (h : Int) : ∀ (cs : List Cl), ((cs.map cD).map Val.d).filterMap (gTw h) = ((cs.filter fun c => decide (c.1 = h)).map fun c => c.2.2).map PyData.int
  | [] => rfl
  | c :: cs => by
    have ih := gTw_map h cs
    simp only [List.map_cons, List.filterMap_cons, List.filter_cons, gTw] at ih ⊢
    rw [ih]
    by_cases e : c.1 = h
    · simp [e, cD, gTw]
    · simp [e, cD, gTw]
def gMul (tm : Int) : D → D
  | .int i => .int (i * tm)
  | _ => .none
theorem gMul_map (tm : Int) (cu : List Int) : (cu.map PyData.int).map (gMul tm) = (cu.map (· * tm)).map PyData.int := by
  rw [List.map_map, List.map_map]; rfl
theorem law_pure (ns : List Int) : ∃ S, MS.run Gl Pr 60 30 [.scr ns] [] = .ok (.d (.bool true)) S := by
  have : W (MS.run Gl Pr 60 30 [.scr ns] []) noX fun v _ => v = .d (.bool true) := by
    refine zwp_run (k := 59) (f := f_law) rfl rfl ?_
    unfold f_law
    repeat fail
    refine zws_for ?_
    repeat fail
    refine W.call (cell_run 58 ns []) fun v S' ⟨c, e, e2⟩ => ?_
    subst e e2
    repeat fail
    have c3 : (cut ns (some 1) (some 5)).length ≤ 4 := by
      unfold cut
      rw [List.length_take, sIx_nn (by decide), sIx_nn (by decide)]
      have : (5 : Int).toNat = 5 := rfl
      have : (1 : Int).toNat = 1 := rfl
      omega
    refine ⟨_, _, _, rfl, rfl, add_lst ?_, ?_⟩
    · show ([PyData.int c]).length + ((cut ns (some 1) (some 5)).map PyData.int).length ≤ sLine
      simp only [List.length_map, List.length_singleton]
      unfold sLine; omega
    repeat fail
    refine ⟨fun xs env S' => PureS S' ∧ (∀ x ∈ xs, ∃ n, x = .d (.int n)) ∧ ∃ a1 a2 a3 a4 a5 a6 a7 a8 a9 a10 a11 a12 a13, env = [some (.scr ns), a1, a2, a3, a4, a5, a6, a7, a8, a9, a10, a11, a12, a13], ?_, ?_, ?_⟩
    · refine ⟨PureS.nil, fun x hx => ?_, none, none, none, none, none, none, none, none, none, none, none, none, none, rfl⟩
      obtain ⟨y, hy, rfl⟩ := List.mem_map.mp hx
      have hy' : y ∈ [PyData.int c] ++ (cut ns (some 1) (some 5)).map PyData.int := hy
      rcases List.mem_append.mp hy' with z | z
      · exact ⟨c, by rw [List.mem_singleton.mp z]⟩
      · obtain ⟨m, _, rfl⟩ := List.mem_map.mp z
        exact ⟨m, rfl⟩
    · intro x rr env S0 ⟨hS, hx, a1, b2, b3, b4, b5, b6, b7, b8, b9, b10, b11, b12, b13, he⟩
      subst he
      obtain ⟨n, rfl⟩ := hx x (by simp)
      have hx' : ∀ y ∈ rr, ∃ n, y = .d (.int n) := fun y hy => hx y (by simp [hy])
      refine ⟨_, rfl, ?_⟩
      refine zws_join (fun env S' => Pn S0.length S' ∧ env = [some (.scr ns), some (.d (.int n)), some (.ref S0.length), b3, b4, b5, b6, b7, b8, b9, b10, b11, b12, b13]) ?_ ?_
      · repeat fail
        refine W.call (pen_run 58 n hS) fun v S1 ⟨e1, hp⟩ => ?_
        subst e1
        repeat fail
        exact ⟨hp, rfl⟩
      intro env S1 ⟨hp1, e⟩
      subst e
      refine zws_join (fun env S' => ∃ cu, GCu cu ∧ cu.length ≤ 4 ∧ Pn S0.length S' ∧ env = [some (.scr ns), some (.d (.int n)), some (.ref S0.length), some (.d (cuD cu)), b4, b5, b6, b7, b8, b9, b10, b11, b12, b13]) ?_ ?_
      · repeat fail
        refine W.call (law_custom_run4 56 hp1) fun v S2 ⟨cu, e2, hcu, hlen4, g2⟩ => ?_
        subst e2
        repeat fail
        exact ⟨cu, hcu, hlen4, g2.pn hp1, rfl⟩
      intro env S2 ⟨cu, hcu, hlen4, hp2, e⟩
      subst e
      refine zws_join (fun env S' => ∃ cs, GCl cu.length cs ∧ Pn S0.length S' ∧ env = [some (.scr ns), some (.d (.int n)), some (.ref S0.length), some (.d (cuD cu)), some (.d (clD cs)), b5, b6, b7, b8, b9, b10, b11, b12, b13]) ?_ ?_
      · repeat fail
        refine W.call (law_claims_run 56 hp2 hcu (by decide) (by decide) (fun d hd => ?_)) fun v S3 ⟨cs, e2, hcl, g2⟩ => ?_
        · simp only [List.mem_cons, List.not_mem_nil, or_false] at hd
          rcases hd with rfl | rfl | rfl | rfl <;> exact ⟨_, rfl, by decide, by decide⟩
        subst e2
        repeat fail
        exact ⟨cs, hcl, g2.pn hp2, rfl⟩
      intro env S3 ⟨cs, hcl, hp3, e⟩
      subst e
      refine zws_join (fun env S' => S' = S3 ∧ env = [some (.scr ns), some (.d (.int n)), some (.ref S0.length), some (.d (cuD cu)), some (.d (clD cs)), some (.d (.list ((hsOf cs).map PyData.int))), b6, b7, b8, b9, b10, b11, b12, b13]) ?_ ?_
      · repeat fail
        refine W.of (holders_of_run 54 _ _ hcl) ?_
        repeat fail
        first | exact rfl | exact ⟨rfl, rfl⟩
      intro env S4 ⟨e1, e⟩
      subst e1 e
      refine zws_join (fun env S' => S' = S4 ∧ env = [some (.scr ns), some (.d (.int n)), some (.ref S0.length), some (.d (cuD cu)), some (.d (clD cs)), some (.d (.list ((hsOf cs).map PyData.int))), some (.d (.list (((hsOf cs).map (shP cu cs)).map kyD))), b7, b8, b9, b10, b11, b12, b13]) ?_ ?_
      · repeat fail
        refine zcomp_map (g := gD (shD cu cs)) (fun x hx => ?_) ?_
        · obtain ⟨y, hy, rfl⟩ := List.mem_map.mp hx
          obtain ⟨h, hh, rfl⟩ := List.mem_map.mp hy
          refine zwp_turn rfl ?_
          repeat fail
          refine W.of (share_P 53 hp3.pu hcu hcl hh) ?_
          repeat fail
          rfl
        rw [gD_map, shD_map]
        repeat fail
        first | exact rfl | exact ⟨rfl, rfl⟩
      intro env S5 ⟨e1, e⟩
      subst e1 e
      have l12 := hcl.l2
      have hs0 : hsOf cs ≠ [] := hs_nn hcl
      have hall : Stands (sumF ((hsOf cs).map (shP cu cs))) (totH cu cs) (totH cu cs) := by
        have := sumF_stands (shP cu cs) (cntH cu cs) (totH cu cs) (hsOf cs) (0, 1) 0 (fun h hh => shP_stands hcu hcl hh) (stands_zero _)
        rw [Int.zero_add, cnt_all] at this
        rw [sumF_all]
        exact this
      have hpos : 0 < totH cu cs := by
        obtain ⟨h0, hr, eh⟩ : ∃ h0 hr, hsOf cs = h0 :: hr := by
          cases q : hsOf cs with
          | nil => exact absurd q hs0
          | cons a b => exact ⟨a, b, rfl⟩
        obtain ⟨t, b, q1, q2, q3, q4, _⟩ := holder_parts hcu hcl (h := h0) (by rw [eh]; simp)
        omega
      have hone := stands_like hpos hall (stands_one (totH cu cs))
      refine zws_join (fun env S' => S' = S5 ∧ env = [some (.scr ns), some (.d (.int n)), some (.ref S0.length), some (.d (cuD cu)), some (.d (clD cs)), some (.d (.list ((hsOf cs).map PyData.int))), some (.d (.list (((hsOf cs).map (shP cu cs)).map kyD))), b7, b8, b9, b10, b11, b12, b13]) ?_ ?_
      · repeat fail
        refine W.of (law_sum_run 58 (fun p hp => ?_)) ?_
        · obtain ⟨h, hh, rfl⟩ := List.mem_map.mp hp
          exact shP_sm hcu hcl hh
        repeat fail
        refine W.of (law_like_run 58 (b := (1, 1)) (.inr ⟨⟨by decide, by decide⟩, by decide, by decide⟩)) ?_
        rw [decide_eq_true hone]
        repeat fail
        first | exact rfl | exact ⟨rfl, rfl⟩
      intro env S6 ⟨e1, e⟩
      subst e1 e
      refine zws_join (fun env S' => ∃ c : Cl, ((0 ≤ c.1 ∧ c.1 ≤ 3) ∧ c.2.1 = 5 ∧ 1 ≤ c.2.2 ∧ c.2.2 ≤ 20) ∧ Pn S0.length S' ∧ env = [some (.scr ns), some (.d (.int n)), some (.ref S0.length), some (.d (cuD cu)), some (.d (clD cs)), some (.d (.list ((hsOf cs).map PyData.int))), some (.d (.list (((hsOf cs).map (shP cu cs)).map kyD))), some (.d (cD c)), b8, b9, b10, b11, b12, b13]) ?_ ?_
      · repeat fail
        refine W.call (draw_run 58 hp3 (by decide) (by decide)) fun v S7 ⟨r1, e, r10, r11, g1⟩ => ?_
        subst e
        have hp7 := g1.pn hp3
        repeat fail
        refine W.call (draw_run 58 hp7 (by decide) (by decide)) fun v S8 ⟨r2, e, r20, r21, g2⟩ => ?_
        subst e
        repeat fail
        exact ⟨(r1, 5, 1 + r2), ⟨⟨r10, by show r1 ≤ 3; omega⟩, rfl, by show 1 ≤ 1 + r2; omega, by show 1 + r2 ≤ 20; omega⟩, g2.pn hp7, rfl⟩
      intro env S7 ⟨c, hc, hp7, e⟩
      subst e
      have hn5 : keyC c ∉ cs.map keyC := fun z => by
        obtain ⟨c2, h2, e2⟩ := List.mem_map.mp z
        have : c2.2.1 = c.2.1 := congrArg (·.2) e2
        have := (hcl.b c2 h2).2.1.2
        omega
      refine zws_join (fun env S' => S' = S7 ∧ env = [some (.scr ns), some (.d (.int n)), some (.ref S0.length), some (.d (cuD cu)), some (.d (clD cs)), some (.d (.list ((hsOf cs).map PyData.int))), some (.d (.list (((hsOf cs).map (shP cu cs)).map kyD))), some (.d (cD c)), b8, b9, b10, b11, b12, b13]) ?_ ?_
      · repeat fail
        refine zif (fun h => ?_) (fun h => ?_)
        · have hl : cs.length < 12 := by
            have : ((((cs.map cD).length : Nat) : Int) < 12) := of_decide_eq_true h
            rw [List.length_map] at this; omega
          have hcc : (0 ≤ c.1 ∧ c.1 ≤ 3) ∧ (0 ≤ c.2.1 ∧ c.2.1 ≤ 5) ∧ 1 ≤ c.2.2 ∧ c.2.2 ≤ 20 := ⟨hc.1, ⟨by omega, by omega⟩, hc.2.2⟩
          obtain ⟨ds, d1, d2, d3⟩ := sort_lay hcl.p hn5 hl
          have hds : GCl 6 ds := by
            have e := d2.length_eq
            rw [List.length_append, List.length_singleton] at e
            refine ⟨by omega, by omega, fun x hx => ?_, d3, by omega⟩
            rcases List.mem_append.mp (d2.mem_iff.mp hx) with z | z
            · obtain ⟨q1, q2, q3⟩ := hcl.b x z
              exact ⟨q1, ⟨q2.1, by omega⟩, q3⟩
            · rw [List.mem_singleton.mp z]; exact ⟨hc.1, ⟨by omega, by omega⟩, hc.2.2⟩
          repeat fail
          refine W.of (laid_ok 54 (hcl.mono (m := 6) (by omega) (by omega)) hcc hn5 hl d1) ?_
          repeat fail
          refine W.of (denied_ok 54 hds hcc (d2.mem_iff.mpr (by simp)) (by have e := d2.length_eq; rw [List.length_append, List.length_singleton] at e; have := hcl.l1; omega)) ?_
          rw [lay_deny hcl.p hn5 d2 d3]
          repeat fail
          refine ⟨_, _, _, rfl, rfl, ne_clD cs cs, ?_⟩
          rw [decide_eq_true (show cs = cs from rfl)]
          repeat fail
          first | exact rfl | exact ⟨rfl, rfl⟩
        · repeat fail
          try refine zif_f h ?_
          repeat fail
          first | exact rfl | exact ⟨rfl, rfl⟩
      intro env S8 ⟨e1, e⟩
      subst e1 e
      have hcne : cu ≠ [] := fun z => by have := hcu.l1; rw [z] at this; simp at this
      obtain ⟨mx, hmx⟩ : ∃ mx, maxI cu = some mx := by
        cases cu with
        | nil => exact absurd rfl hcne
        | cons a b => exact ⟨_, rfl⟩
      obtain ⟨_, mx2, mx3⟩ := maxI_ok hmx
      have hmb := hcu.b _ mx2
      refine zws_join (fun env S' => ∃ tm : Int, (1 ≤ tm ∧ tm ≤ 100 / mx) ∧ Pn S0.length S' ∧ env = [some (.scr ns), some (.d (.int n)), some (.ref S0.length), some (.d (cuD cu)), some (.d (clD cs)), some (.d (.list ((hsOf cs).map PyData.int))), some (.d (.list (((hsOf cs).map (shP cu cs)).map kyD))), some (.d (cD c)), some (.d (.int tm)), b9, b10, b11, b12, b13]) ?_ ?_
      · repeat fail
        refine ⟨_, biV_maxT hcne, ?_⟩
        rw [hmx]
        repeat fail
        have hq : 1 ≤ 100 / mx := by
          have := Int.le_ediv_of_mul_le (a := 1) (b := 100) (c := mx) (by omega) (by omega)
          exact this
        have hq2 : 100 / mx ≤ 100 := Int.ediv_le_self _ (by omega)
        refine ⟨_, _, _, rfl, rfl, (show binD .fdiv (.int 100) (.int mx) = some (.int (100 / mx)) from by simp only [binD]; rw [if_pos ⟨by omega, by omega⟩]), ?_⟩
        repeat fail
        refine W.call (draw_run 58 hp7 (by omega) (by omega)) fun v S9 ⟨r1, e, r10, r11, g1⟩ => ?_
        subst e
        repeat fail
        exact ⟨1 + r1, ⟨by omega, by omega⟩, g1.pn hp7, rfl⟩
      intro env S9 ⟨tm, htm, hp9, e⟩
      subst e
      have hgu : GCu (cu.map (· * tm)) := by
        refine ⟨by rw [List.length_map]; exact hcu.l1, by rw [List.length_map]; exact hcu.l2, fun n hn => ?_⟩
        obtain ⟨m, hm, rfl⟩ := List.mem_map.mp hn
        have hmm := hcu.b m hm
        have h1 := mx3 m hm
        have h2 : m * tm ≤ mx * (100 / mx) := Int.mul_le_mul h1 htm.2 (by omega) (by omega)
        have h3 : mx * (100 / mx) ≤ 100 := Int.mul_ediv_self_le (by omega)
        have h4 : 1 * 1 ≤ m * tm := Int.mul_le_mul hmm.1 htm.1 (by omega) (by omega)
        show 1 ≤ m * tm ∧ m * tm ≤ 100
        omega
      have hgl : GCl (cu.map (· * tm)).length cs := by rw [List.length_map]; exact hcl
      refine zws_join (fun env S' => S' = S9 ∧ env = [some (.scr ns), some (.d (.int n)), some (.ref S0.length), some (.d (cuD cu)), some (.d (clD cs)), some (.d (.list ((hsOf cs).map PyData.int))), some (.d (.list (((hsOf cs).map (shP cu cs)).map kyD))), some (.d (cD c)), some (.d (.int tm)), some (.d (cuD (cu.map (· * tm)))), b10, b11, b12, b13]) ?_ ?_
      · repeat fail
        refine zcomp_map (g := gD (gMul tm)) (fun x hx => ?_) ?_
        · obtain ⟨y, hy, rfl⟩ := List.mem_map.mp hx
          obtain ⟨m, hm, rfl⟩ := List.mem_map.mp hy
          have hmm := hcu.b m hm
          refine zwp_turn rfl ?_
          repeat fail
          refine ⟨_, _, _, rfl, rfl, mul_l ⟨by omega, by omega⟩, ?_⟩
          repeat fail
          rfl
        rw [gD_map, gMul_map]
        repeat fail
        first | exact rfl | exact ⟨rfl, rfl⟩
      intro env S10 ⟨e1, e⟩
      subst e1 e
      refine zws_join (fun env S' => S' = S10 ∧ env = [some (.scr ns), some (.d (.int n)), some (.ref S0.length), some (.d (cuD cu)), some (.d (clD cs)), some (.d (.list ((hsOf cs).map PyData.int))), some (.d (.list (((hsOf cs).map (shP cu cs)).map kyD))), some (.d (cD c)), some (.d (.int tm)), some (.d (cuD (cu.map (· * tm)))), some (.d (.list (((hsOf cs).map (shP cu cs)).map kyD))), b11, b12, b13]) ?_ ?_
      · repeat fail
        refine zcomp_map (g := gD (shD (cu.map (· * tm)) cs)) (fun x hx => ?_) ?_
        · obtain ⟨y, hy, rfl⟩ := List.mem_map.mp hx
          obtain ⟨h, hh, rfl⟩ := List.mem_map.mp hy
          refine zwp_turn rfl ?_
          repeat fail
          refine W.of (share_P 53 hp9.pu hgu hgl hh) ?_
          repeat fail
          rfl
        rw [gD_map, shD_map, show (hsOf cs).map (shP (cu.map (· * tm)) cs) = (hsOf cs).map (shP cu cs) from List.map_congr_left fun h hh => shP_times htm.1 hcu hcl hh]
        repeat fail
        first | exact rfl | exact ⟨rfl, rfl⟩
      intro env S11 ⟨e1, e⟩
      subst e1 e
      refine zws_join (fun env S' => S' = S11 ∧ env = [some (.scr ns), some (.d (.int n)), some (.ref S0.length), some (.d (cuD cu)), some (.d (clD cs)), some (.d (.list ((hsOf cs).map PyData.int))), some (.d (.list (((hsOf cs).map (shP cu cs)).map kyD))), some (.d (cD c)), some (.d (.int tm)), some (.d (cuD (cu.map (· * tm)))), some (.d (.list (((hsOf cs).map (shP cu cs)).map kyD))), b11, b12, b13]) ?_ ?_
      · repeat fail
        refine W.of (is_custom_run 57 _ hgu) ?_
        repeat fail
        refine ⟨_, _, _, rfl, rfl, (show cmpD .ne (.list (((hsOf cs).map (shP cu cs)).map kyD)) (.list (((hsOf cs).map (shP cu cs)).map kyD)) = _ from by show (eqD _ _).map (!·) = _; rw [eqD_kys, decide_eq_true rfl]; rfl), ?_⟩
        repeat fail
        first | exact rfl | exact ⟨rfl, rfl⟩
      intro env S12 ⟨e1, e⟩
      subst e1 e
      refine zws_join (fun env S' => S' = S12 ∧ ∃ c11 c12 c13, env = [some (.scr ns), some (.d (.int n)), some (.ref S0.length), some (.d (cuD cu)), some (.d (clD cs)), some (.d (.list ((hsOf cs).map PyData.int))), some (.d (.list (((hsOf cs).map (shP cu cs)).map kyD))), some (.d (cD c)), some (.d (.int tm)), some (.d (cuD (cu.map (· * tm)))), some (.d (.list (((hsOf cs).map (shP cu cs)).map kyD))), c11, c12, c13]) ?_ ?_
      · refine zws_for ?_
        repeat fail
        refine ⟨fun xs env S' => ∃ rst d11 d12 d13, (∀ h ∈ (rst : List Int), h ∈ hsOf cs) ∧ xs = (rst.map PyData.int).map Val.d ∧ S' = S12 ∧ env = [some (.scr ns), some (.d (.int n)), some (.ref S0.length), some (.d (cuD cu)), some (.d (clD cs)), some (.d (.list ((hsOf cs).map PyData.int))), some (.d (.list (((hsOf cs).map (shP cu cs)).map kyD))), some (.d (cD c)), some (.d (.int tm)), some (.d (cuD (cu.map (· * tm)))), some (.d (.list (((hsOf cs).map (shP cu cs)).map kyD))), d11, d12, d13], ?_, ?_, ?_⟩
        · exact ⟨hsOf cs, _, _, _, fun h hh => hh, rfl, rfl, rfl⟩
        · intro x xs env S' ⟨rst, d11, d12, d13, hm, q2, q3, q4⟩
          cases rst with
          | nil => simp at q2
          | cons h rst =>
            simp only [List.map_cons, List.cons.injEq] at q2
            obtain ⟨rfl, q2⟩ := q2
            subst q3 q4
            refine ⟨_, rfl, ?_⟩
            repeat fail
            refine W.of (count_of_run 53 hp9.pu hcu hcl (hm h (by simp))) ?_
            repeat fail
            refine zcomp_map (g := gTw h) (fun x hx => ?_) ?_
            · obtain ⟨y, hy, rfl⟩ := List.mem_map.mp hx
              obtain ⟨c2, hc2, rfl⟩ := List.mem_map.mp hy
              refine zwp_turn rfl ?_
              repeat fail
              by_cases z : c2.1 = h
              · refine zif_t (by rw [eqv_int]; exact decide_eq_true z) ?_
                repeat fail
                simp only [gTw, cD, if_pos z]
                try exact ⟨trivial, trivial⟩
              · refine zif_f (by rw [eqv_int]; exact decide_eq_false z) ?_
                simp only [gTw, cD, if_neg z]
                try exact ⟨trivial, trivial⟩
            rw [gTw_map]
            refine ⟨_, biV_sumI, ?_⟩
            repeat fail
            refine zif_f (decide_eq_false (by have := cnt_ge hcu hcl h; omega)) ?_
            repeat fail
            exact ⟨rst, _, _, _, fun y hy => hm y (by simp [hy]), q2, rfl, rfl⟩
        · intro env S' ⟨rst, d11, d12, d13, hm, q2, q3, q4⟩
          subst q3 q4
          repeat fail
          exact ⟨_, _, _, rfl⟩
      intro env S13 ⟨e1, c11, c12, c13, e⟩
      subst e1 e
      repeat fail
      refine zif (fun h => ?_) (fun h => ?_)
      · have hl2 : 1 < (hsOf cs).length := by
          have : (1 : Int) < ((((hsOf cs).map PyData.int).length : Nat) : Int) := of_decide_eq_true h
          rw [List.length_map] at this; omega
        obtain ⟨a, r, hr⟩ : ∃ a r, hsOf cs = a :: r := by
          cases q : hsOf cs with
          | nil => exact absurd q hs0
          | cons a r => exact ⟨a, r, rfl⟩
        have hrn : r ≠ [] := fun z => by rw [hr, z] at hl2; simp at hl2
        obtain ⟨m, hm⟩ : ∃ m, r.getLast? = some m := by
          cases q : r.getLast? with
          | none => exact absurd (List.getLast?_eq_none_iff.mp q) hrn
          | some m => exact ⟨m, rfl⟩
        have hmr : m ∈ r := List.mem_of_getLast? hm
        have hm2 : (hsOf cs).getLast? = some m := by
          rw [hr]
          cases r with
          | nil => exact absurd rfl hrn
          | cons b r => rw [List.getLast?_cons_cons]; exact hm
        have hpw := pw_srtI (cs.map (·.1))
        have hne : a ≠ m := fun z => by
          have hpw2 : (hsOf cs).Pairwise (· < ·) := hpw
          rw [hr] at hpw2
          have := (List.pairwise_cons.mp hpw2).1 m hmr
          omega
        have h1 : a ∈ hsOf cs := by rw [hr]; simp
        have h2 : m ∈ hsOf cs := by rw [hr]; exact List.mem_cons_of_mem _ hmr
        repeat fail
        refine ⟨_, _, rfl, (show ixV _ (.d (.list ((hsOf cs).map PyData.int))) (.int 0) = some (.d (.int a)) from ixv_list (i := 0) (by rw [hr]; rfl)), ?_⟩
        repeat fail
        refine ⟨_, _, rfl, (show ixV _ (.d (.list ((hsOf cs).map PyData.int))) (.int (-1)) = some (.d (.int m)) from ix_lastD hm2), ?_⟩
        repeat fail
        refine W.call (law_joins_run 51 hp9.pu hcu hcl h1 h2 hne) fun v S14 ⟨e1, e2⟩ => ?_
        subst e1 e2
        repeat fail
        exact ⟨hp9.pu, hx', _, _, _, _, _, _, _, _, _, _, _, _, _, rfl⟩
      · repeat fail
        refine zif_f h ?_
        repeat fail
        exact ⟨hp9.pu, hx', _, _, _, _, _, _, _, _, _, _, _, _, _, rfl⟩
    · intro env S' ⟨hS, hx, a1, a2, a3, a4, a5, a6, a7, a8, a9, a10, a11, a12, a13, he⟩
      subst he
      repeat fail
      rfl
  obtain ⟨v, S, e, rfl⟩ := this.ex
  exact ⟨S, e⟩

end
section
open PySem PySem.Spec PyProof.Rows L2 MS
def topS (i : Nat) : Stmt := PySem.Challenge.pw_meadshares_k05_whole_all_is_shared.main.body.getD i (.Pass ⟨0, 0, 0, 0⟩)
def e_is_from : Ent := ⟨0, "is_from", ["thing", "least", "most"], ["thing", "least", "most"], topS 10⟩
def e_rises : Ent := ⟨1, "rises", ["thing"], ["thing", "at"], topS 11⟩
def e_is_custom : Ent := ⟨2, "is_custom", ["thing"], ["thing", "count"], topS 18⟩
def e_is_claim : Ent := ⟨3, "is_claim", ["thing"], ["thing"], topS 19⟩
def e_are_claims : Ent := ⟨4, "are_claims", ["thing"], ["thing", "one"], topS 20⟩
def e_need_custom : Ent := ⟨5, "need_custom", ["custom"], ["custom"], topS 21⟩
def e_need_claim : Ent := ⟨6, "need_claim", ["claim"], ["claim"], topS 22⟩
def e_need_claims : Ent := ⟨7, "need_claims", ["claims"], ["claims"], topS 23⟩
def e_stand : Ent := ⟨8, "stand", ["custom", "claims"], ["custom", "claims", "holder", "sort", "many"], topS 24⟩
def e_holders_in : Ent := ⟨9, "holders_in", ["claims"], ["claims", "one"], topS 25⟩
def e_holders_of : Ent := ⟨10, "holders_of", ["claims"], ["claims"], topS 26⟩
def e_need_holder : Ent := ⟨11, "need_holder", ["claims", "holder"], ["claims", "holder"], topS 27⟩
def e_need_standing : Ent := ⟨12, "need_standing", ["custom", "claims", "holder"], ["custom", "claims", "holder"], topS 28⟩
def e_counted : Ent := ⟨13, "counted", ["custom", "claims", "holder"], ["custom", "claims", "holder", "one", "sort", "many"], topS 29⟩
def e_counted_all : Ent := ⟨14, "counted_all", ["custom", "claims"], ["custom", "claims", "one", "sort", "many"], topS 30⟩
def e_count_of : Ent := ⟨15, "count_of", ["custom", "claims", "holder"], ["custom", "claims", "holder"], topS 31⟩
def e_lessened : Ent := ⟨16, "lessened", ["top", "bottom"], ["top", "bottom", "one", "other"], topS 32⟩
def e_share_of : Ent := ⟨17, "share_of", ["custom", "claims", "holder"], ["custom", "claims", "holder"], topS 33⟩
def e_laid : Ent := ⟨18, "laid", ["claims", "claim"], ["claims", "claim", "one"], topS 34⟩
def e_denied : Ent := ⟨19, "denied", ["claims", "claim"], ["claims", "claim", "one"], topS 35⟩
def e_joined : Ent := ⟨20, "joined", ["claims", "one", "other"], ["claims", "one", "other", "rights", "found", "holder", "sort", "many", "owner"], topS 36⟩
def e_law_cell : Ent := ⟨21, "_law_cell", ["_law_script", "_law_k"], ["_law_script", "_law_k"], topS 38⟩
def e_law_pen : Ent := ⟨22, "_law_pen", ["_law_cell_here"], ["_law_cell_here"], topS 39⟩
def e_law_draw : Ent := ⟨23, "_law_draw", ["_law_pen_here", "_law_bound"], ["_law_pen_here", "_law_bound", "_law_drawn"], topS 40⟩
def e_law_pick : Ent := ⟨24, "_law_pick", ["_law_pen_here", "_law_things"], ["_law_pen_here", "_law_things"], topS 41⟩
def e_law_custom : Ent := ⟨25, "_law_custom", ["_law_pen_here"], ["_law_pen_here", "_law_turn"], topS 42⟩
def e_law_claims : Ent := ⟨26, "_law_claims", ["_law_pen_here", "_law_custom_here", "_law_holders"], ["_law_pen_here", "_law_custom_here", "_law_holders", "_law_rights", "_law_turn", "_law_holder", "_law_sort", "_law_pair", "_law_many"], topS 43⟩
def e_law_sum : Ent := ⟨27, "_law_sum", ["_law_fractions"], ["_law_fractions", "_law_top", "_law_bottom", "_law_one", "_law_other"], topS 44⟩
def e_law_like : Ent := ⟨28, "_law_like", ["_law_one", "_law_other"], ["_law_one", "_law_other"], topS 45⟩
def e_law_joins : Ent := ⟨29, "_law_joins", ["_law_custom_here", "_law_claims_here", "_law_one", "_law_other"], ["_law_custom_here", "_law_claims_here", "_law_one", "_law_other", "e", "_law_sum_of_two", "_law_rest", "_law_both", "_law_holder"], topS 46⟩
def e_law : Ent := ⟨30, "law", ["_law_script"], ["_law_script", "_law_cell_here", "_law_pen_here", "_law_custom_here", "_law_claims_here", "_law_holders", "_law_shares", "_law_claim", "_law_times", "_law_great", "_law_again", "_law_holder", "_law_count", "_law_one"], topS 47⟩
def ents : List Ent := [e_is_from, e_rises, e_is_custom, e_is_claim, e_are_claims, e_need_custom, e_need_claim, e_need_claims, e_stand, e_holders_in, e_holders_of, e_need_holder, e_need_standing, e_counted, e_counted_all, e_count_of, e_lessened, e_share_of, e_laid, e_denied, e_joined, e_law_cell, e_law_pen, e_law_draw, e_law_pick, e_law_custom, e_law_claims, e_law_sum, e_law_like, e_law_joins, e_law]
def gls : List (Nat × Str) := [(0, "MOST_SORTS"), (1, "MOST_COUNT"), (2, "MOST_HOLDER"), (3, "MOST_RIGHTS"), (4, "MOST_CLAIMS")]
theorem b_is_from : BindOk e_is_from := fun _ _ _ _ _ _ us hl => match us, hl with | [_, _, _], _ => rfl
theorem b_rises : BindOk e_rises := fun _ _ _ _ _ _ us hl => match us, hl with | [_], _ => rfl
theorem b_is_custom : BindOk e_is_custom := fun _ _ _ _ _ _ us hl => match us, hl with | [_], _ => rfl
theorem b_is_claim : BindOk e_is_claim := fun _ _ _ _ _ _ us hl => match us, hl with | [_], _ => rfl
theorem b_are_claims : BindOk e_are_claims := fun _ _ _ _ _ _ us hl => match us, hl with | [_], _ => rfl
theorem b_need_custom : BindOk e_need_custom := fun _ _ _ _ _ _ us hl => match us, hl with | [_], _ => rfl
theorem b_need_claim : BindOk e_need_claim := fun _ _ _ _ _ _ us hl => match us, hl with | [_], _ => rfl
theorem b_need_claims : BindOk e_need_claims := fun _ _ _ _ _ _ us hl => match us, hl with | [_], _ => rfl
theorem b_stand : BindOk e_stand := fun _ _ _ _ _ _ us hl => match us, hl with | [_, _], _ => rfl
theorem b_holders_in : BindOk e_holders_in := fun _ _ _ _ _ _ us hl => match us, hl with | [_], _ => rfl
theorem b_holders_of : BindOk e_holders_of := fun _ _ _ _ _ _ us hl => match us, hl with | [_], _ => rfl
theorem b_need_holder : BindOk e_need_holder := fun _ _ _ _ _ _ us hl => match us, hl with | [_, _], _ => rfl
theorem b_need_standing : BindOk e_need_standing := fun _ _ _ _ _ _ us hl => match us, hl with | [_, _, _], _ => rfl
theorem b_counted : BindOk e_counted := fun _ _ _ _ _ _ us hl => match us, hl with | [_, _, _], _ => rfl
theorem b_counted_all : BindOk e_counted_all := fun _ _ _ _ _ _ us hl => match us, hl with | [_, _], _ => rfl
theorem b_count_of : BindOk e_count_of := fun _ _ _ _ _ _ us hl => match us, hl with | [_, _, _], _ => rfl
theorem b_lessened : BindOk e_lessened := fun _ _ _ _ _ _ us hl => match us, hl with | [_, _], _ => rfl
theorem b_share_of : BindOk e_share_of := fun _ _ _ _ _ _ us hl => match us, hl with | [_, _, _], _ => rfl
theorem b_laid : BindOk e_laid := fun _ _ _ _ _ _ us hl => match us, hl with | [_, _], _ => rfl
theorem b_denied : BindOk e_denied := fun _ _ _ _ _ _ us hl => match us, hl with | [_, _], _ => rfl
theorem b_joined : BindOk e_joined := fun _ _ _ _ _ _ us hl => match us, hl with | [_, _, _], _ => rfl
theorem b_law_cell : BindOk e_law_cell := fun _ _ _ _ _ _ us hl => match us, hl with | [_, _], _ => rfl
theorem b_law_pen : BindOk e_law_pen := fun _ _ _ _ _ _ us hl => match us, hl with | [_], _ => rfl
theorem b_law_draw : BindOk e_law_draw := fun _ _ _ _ _ _ us hl => match us, hl with | [_, _], _ => rfl
theorem b_law_pick : BindOk e_law_pick := fun _ _ _ _ _ _ us hl => match us, hl with | [_, _], _ => rfl
theorem b_law_custom : BindOk e_law_custom := fun _ _ _ _ _ _ us hl => match us, hl with | [_], _ => rfl
theorem b_law_claims : BindOk e_law_claims := fun _ _ _ _ _ _ us hl => match us, hl with | [_, _, _], _ => rfl
theorem b_law_sum : BindOk e_law_sum := fun _ _ _ _ _ _ us hl => match us, hl with | [_], _ => rfl
theorem b_law_like : BindOk e_law_like := fun _ _ _ _ _ _ us hl => match us, hl with | [_, _], _ => rfl
theorem b_law_joins : BindOk e_law_joins := fun _ _ _ _ _ _ us hl => match us, hl with | [_, _, _, _], _ => rfl
theorem b_law : BindOk e_law := fun _ _ _ _ _ _ us hl => match us, hl with | [_], _ => rfl
def xcs : List (Nat × Str) := [(1000, "MeadError"), (1001, "NoCustom"), (1002, "NoClaim"), (1003, "NoClaims"), (1004, "NoHolder"), (1005, "There"), (1006, "Missing"), (1007, "TooMany")]
def sbs : List (Nat × Nat × Bool) := [(1000, 1007, false), (1001, 1007, false), (1002, 1007, false), (1003, 1007, false), (1004, 1007, false), (1005, 1007, false), (1006, 1007, false), (1007, 1007, true)]
def xis : List Nat := [1007]
def iniS1007 : Stmt := clsSt (topS 8)
theorem iniC1007 : scB iniN iniN (defScope iniS1007) = true ∧ iniB (defBody iniS1007) = true := by decide +kernel
theorem iniK1007 : ∀ (kV doc pm : Value) (an : Option Addr) (cdv ct : Value) (us : List Value), us.length = iniN.length → bindArgs (PySem.W.fnOf "__init__" "TooMany.__init__" (defArgs iniS1007) (defBody iniS1007) (defScope iniS1007) .none kV doc pm an cdv ct) ⟨us, []⟩ = pure (iniN.zip us) := fun _ _ _ _ _ _ us hl => match us, hl with | [_, _, _], _ => rfl
def iniD1007 : He.DefD := ⟨("TooMany", some "__init__"), "__init__", "TooMany.__init__", defArgs iniS1007, defBody iniS1007, defScope iniS1007, [], []⟩
theorem bindAll : ∀ e ∈ ents, BindOk e := by
  intro e he
  simp only [ents, List.mem_cons, List.not_mem_nil, or_false] at he
  rcases he with rfl | rfl | rfl | rfl | rfl | rfl | rfl | rfl | rfl | rfl | rfl | rfl | rfl | rfl | rfl | rfl | rfl | rfl | rfl | rfl | rfl | rfl | rfl | rfl | rfl | rfl | rfl | rfl | rfl | rfl | rfl
  · exact b_is_from
  · exact b_rises
  · exact b_is_custom
  · exact b_is_claim
  · exact b_are_claims
  · exact b_need_custom
  · exact b_need_claim
  · exact b_need_claims
  · exact b_stand
  · exact b_holders_in
  · exact b_holders_of
  · exact b_need_holder
  · exact b_need_standing
  · exact b_counted
  · exact b_counted_all
  · exact b_count_of
  · exact b_lessened
  · exact b_share_of
  · exact b_laid
  · exact b_denied
  · exact b_joined
  · exact b_law_cell
  · exact b_law_pen
  · exact b_law_draw
  · exact b_law_pick
  · exact b_law_custom
  · exact b_law_claims
  · exact b_law_sum
  · exact b_law_like
  · exact b_law_joins
  · exact b_law
abbrev tb : Tb := tbOf ents gls xcs sbs xis
theorem chk : (ents.all fun e => fnB tb e (Pr e.idx)) = true := by decide +kernel
theorem chkX : (xcs.all fun p => decide (p.1 < exI) && decide (tb.nm p.1 = p.2)) = true := by decide +kernel
theorem chkI : (xis.all fun c => (xcs.map (·.1)).contains c) = true := by decide +kernel
theorem nd1 : (ents.map (·.idx)).Nodup := by decide +kernel
theorem nd2 : (gls.map (·.1)).Nodup := by decide +kernel

/-! ### the head -/
def dOf (e : Ent) : He.DefD := ⟨(e.nm, none), e.nm, e.nm, defArgs e.st, defBody e.st, defScope e.st, [], []⟩
def fnL : List He.DefD := ents.map dOf ++ [iniD1007]
def faL : List He.Fa := (ents.map fun e => He.Fa.glo e.nm) ++ (bltNames.map He.Fa.free) ++ [.int "MOST_SORTS" (6), .int "MOST_COUNT" (100), .int "MOST_HOLDER" (3), .int "MOST_RIGHTS" (20), .int "MOST_CLAIMS" (12)]
abbrev Rw : PySem.W.OpenRow := PySem.W.OpenLaw.row PySem.Challenge.rw_meadshares_k05_whole_all_is_shared
def exL (K : PySem.W.Frag) : Bool := exB xcs sbs xis tb.nm K
abbrev hk : PySem.W.Hook := He.hookX 5 faL fnL [] [] exL
def ob (s : PySem.W.SharedT) : He.AlX := He.obsX 5 faL fnL [] [] exL (HandSHeadRun.getT s)
theorem ob_eq (s : PySem.W.SharedT) : ob s = hk.obs s.abs := He.obsX_eq (HandSHeadRun.getT_eq s)
def loose1 : List PySem.Str := (["__name__", "MeadError", "NoCustom", "NoClaim", "NoClaims", "NoHolder", "There", "Missing", "TooMany", "MOST_SORTS", "MOST_COUNT", "MOST_HOLDER", "MOST_RIGHTS", "MOST_CLAIMS", "is_from", "rises"] : List PySem.Str) ++ (["is_custom", "is_claim", "are_claims", "need_custom", "need_claim", "need_claims", "stand", "holders_in", "holders_of", "need_holder", "need_standing", "counted", "counted_all", "count_of", "lessened", "share_of"] : List PySem.Str) ++ (["laid", "denied", "joined", "_law_cell", "_law_pen", "_law_draw", "_law_pick", "_law_custom", "_law_claims", "_law_sum", "_law_like", "_law_joins"] : List PySem.Str)
section
open PySem PySem.W PySem.Calls PyProof.Rows
abbrev vw : PySem.Program := PySem.W.view Rw.prog [47]
theorem run_a (w : World) (os : PySem.OsState) : (HandSHeadRun.endF (HandSHeadRun.stepQ (HandSHeadRun.denQ HandSHeadRun.tabQ) Rw.prog w) 4000 Rw.prog w os).map (fun s => HandSHeadRun.looksF Rw.prog (PySem.W.boot_heap w.params) s.abs) = some true := by kernel_rfl
theorem run_b (w : World) (os : PySem.OsState) : (HandSHeadRun.endF (HandSHeadRun.stepQ (HandSHeadRun.denQ HandSHeadRun.tabQ) Rw.prog w) 4000 Rw.prog w os).map (fun s => HandSHeadRun.seenQ vw loose1 (PySem.importedModules Rw.prog.main.body) (fun s => PySem.W.xlAt vw [] s && PySem.W.recOk Rw.toRowW.records s) s.abs) = some (PySem.W.openGood vw loose1) := by kernel_rfl
theorem run_c (w : World) (os : PySem.OsState) : (HandSHeadRun.endF (HandSHeadRun.stepQ (HandSHeadRun.denQ HandSHeadRun.tabQ) Rw.prog w) 4000 Rw.prog w os).map ob = some (hk.val w) := by kernel_rfl
theorem join3 {α β γ δ : Type} {o : Option α} {f : α → β} {g : α → γ} {h : α → δ} {x : β} {y : γ} {z : δ} (a : o.map f = some x) (b : o.map g = some y) (c : o.map h = some z) : o.map (fun s => (f s, g s, h s)) = some (x, y, z) := by
  cases o with
  | none => cases a
  | some s =>
    simp only [Option.map_some, Option.some.injEq] at a b c ⊢
    rw [a, b, c]
end
theorem run1 (w : World) : HandSHeadRun.RunEq Rw (PySem.W.view Rw.prog [47]) hk ob 4000 loose1 w := fun os => join3 (run_a w os) (run_b w os) (run_c w os)

/-! ### the end -/
theorem facts {K : PySem.W.Frag} {h : Heap} {mg : Str → Option Value} (X : K.In h) (G : h.Ns mainGlobals mg) (c : He.SaysD faL fnL K) (cx : exL K = true) : Facts K mg (fun i => He.fAd K (tb.nm i, none)) ents gls Gl xcs sbs xis := by
  refine ⟨fun e he => ?_, fun e he => ?_, fun g hg => ?_, fun x hx => ?_, (exB_ok X G cx chkX chkI).1, (exB_ok X G cx chkX chkI).2.2.1, fun k hk => ?_, (exB_ok X G cx chkX chkI).2.1⟩
  · have q : tb.nm e.idx = e.nm := by simp only [tb, tbOf]; rw [ent_mem nd1 he rfl]
    show mg e.nm = some (.ref (He.fAd K (tb.nm e.idx, none)))
    rw [q]
    exact He.glo_ok X G (c.facts (f := .glo e.nm) (by unfold faL; simp only [List.mem_append, List.mem_map]; exact .inl (.inl ⟨e, he, rfl⟩)))
  · have q : tb.nm e.idx = e.nm := by simp only [tb, tbOf]; rw [ent_mem nd1 he rfl]
    show ∃ fd, FunD K e.nm e.nm (defArgs e.st) (defBody e.st) (defScope e.st) [] [] (He.fAd K (tb.nm e.idx, none)) fd
    rw [q]
    exact c.defs (d := dOf e) (List.mem_append_left _ (List.mem_map_of_mem he))
  · simp only [gls, List.mem_cons, List.not_mem_nil, or_false] at hg
    rcases hg with rfl | rfl | rfl | rfl | rfl
    · obtain ⟨t, ht⟩ := He.int_ok X G (c.facts (f := .int "MOST_SORTS" (6)) (by unfold faL; simp only [List.mem_append]; exact .inr (by simp)))
      exact ⟨.int (6), .int (6), _, rfl, ht, ⟨t, rfl⟩, .int _⟩
    · obtain ⟨t, ht⟩ := He.int_ok X G (c.facts (f := .int "MOST_COUNT" (100)) (by unfold faL; simp only [List.mem_append]; exact .inr (by simp)))
      exact ⟨.int (100), .int (100), _, rfl, ht, ⟨t, rfl⟩, .int _⟩
    · obtain ⟨t, ht⟩ := He.int_ok X G (c.facts (f := .int "MOST_HOLDER" (3)) (by unfold faL; simp only [List.mem_append]; exact .inr (by simp)))
      exact ⟨.int (3), .int (3), _, rfl, ht, ⟨t, rfl⟩, .int _⟩
    · obtain ⟨t, ht⟩ := He.int_ok X G (c.facts (f := .int "MOST_RIGHTS" (20)) (by unfold faL; simp only [List.mem_append]; exact .inr (by simp)))
      exact ⟨.int (20), .int (20), _, rfl, ht, ⟨t, rfl⟩, .int _⟩
    · obtain ⟨t, ht⟩ := He.int_ok X G (c.facts (f := .int "MOST_CLAIMS" (12)) (by unfold faL; simp only [List.mem_append]; exact .inr (by simp)))
      exact ⟨.int (12), .int (12), _, rfl, ht, ⟨t, rfl⟩, .int _⟩
  · exact He.free_ok X G (c.facts (f := .free x) (by unfold faL; simp only [List.mem_append, List.mem_map]; exact .inl (.inr ⟨x, hx, rfl⟩)))
  · obtain ⟨hx, z⟩ := (exB_ok X G cx chkX chkI).2.2.2 k hk
    simp only [xis, List.mem_cons, List.not_mem_nil, or_false] at hk
    subst hk
    obtain ⟨fd, FD⟩ := c.defs (d := iniD1007) (List.mem_append_right _ (by simp))
    exact ⟨z.o, hx, _, fd, z.i, z.t, ⟨_, _, _, _, FD, scB_ok iniC1007.1, iniC1007.2, iniK1007⟩⟩
end
end Lw
open PySem PySem.W PySem.Calls PyProof.Rows
set_option maxHeartbeats 0 in
theorem PySem.Challenge.cw_meadshares_k05_whole_all_is_shared_holds : PySem.Challenge.rw_meadshares_k05_whole_all_is_shared.Holds := by
  w_on; o_law
  refine HandSHeadRun.head_any (r := OpenLaw.row PySem.Challenge.rw_meadshares_k05_whole_all_is_shared) (q := view (OpenLaw.row PySem.Challenge.rw_meadshares_k05_whole_all_is_shared).prog [47]) (H := Lw.hk) (ob := Lw.ob) (M := 4000) (loose := Lw.loose1) (d := HandSHeadRun.topDef (OpenLaw.row PySem.Challenge.rw_meadshares_k05_whole_all_is_shared).prog 47) (kwd := []) Lw.ob_eq
    (by kernel_rfl) (fun s => by kernel_rfl) Lw.run1 (by kernel_rfl) (by kernel_rfl) (by kernel_rfl) (by rfl) (by first | assumption | decide +kernel) (by decide +kernel) ⟨rfl, rfl, rfl, rfl, rfl, by decide +kernel⟩ ?hw ?hc
  case hw => w_witness2
  case hc =>
    refine MS.walkG (l := PySem.Challenge.rw_meadshares_k05_whole_all_is_shared) (n := 63) (k := 62) (x := "_law_script") rfl (by decide) (by kernel_rfl) ⟨rfl, by decide, by decide⟩ ?F
    intro w mg lf h Y G hmg0
    obtain ⟨K, KX, cX⟩ := Y
    have c : He.SaysD Lw.faL Lw.fnL K := congrArg (fun z : He.AlT => z.1) cX.t
    have hmg : mg ("law" : PySem.Str) = some (.ref lf) := by
      have e : (HandSHeadRun.topDef (OpenLaw.row PySem.Challenge.rw_meadshares_k05_whole_all_is_shared).prog 47).name = ("law" : PySem.Str) := by kernel_rfl
      rw [← e]
      exact hmg0
    have fc := Lw.facts KX G c cX.more
    have hl : lf = He.fAd K (Lw.tb.nm 30, none) := by
      have := fc.gl Lw.e_law (by simp [Lw.ents])
      have e2 : mg ("law" : PySem.Str) = _ := this
      rw [hmg] at e2
      cases e2
      rfl
    obtain ⟨fd0, FD⟩ := fc.fn Lw.e_law (by simp [Lw.ents])
    refine ⟨K, fd0, MS.spR K (fun i => He.fAd K (Lw.tb.nm i, none)) (MS.run Lw.Gl Lw.Pr 60 30), KX, fun s u => FD.bindsA (ps := ["_law_script"]) Lw.b_law s [u] rfl, fun H a ns hl hS => MS.sp_law hS (Lw.law_pure ns), fun base KB GB => ?_⟩
    obtain ⟨fd, h1, h2, h3⟩ := MS.fns_ok (P := (PySem.Challenge.rw_meadshares_k05_whole_all_is_shared).prog) (w := w) (base := base) fc Lw.nd1 Lw.nd2 Lw.bindAll Lw.chk Lw.chkX 60 Lw.e_law (by simp [Lw.ents])
    subst hl
    have : fd = fd0 := by
      obtain ⟨_, _, _, _, _, _, _, _, _, _, e1, k1, _⟩ := FD.ex
      obtain ⟨_, _, _, _, _, _, _, _, _, _, e2, k2, _⟩ := h2.ex
      rw [k1] at k2
      cases k2
      rfl
    subst this
    exact h3


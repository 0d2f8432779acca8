import PyProof.Rows.All
import Wide.All
import OpenK.AllK
import Wide.FinOn
import HandS.ForMost
import HandS.Slots
import HandS.Star
import HandS.WordsExc
import PyProof.Rows.SeqMore
import HandS.Deep
import HandS.SlotsOwn
import HandS.IsInst
import HandS.Conv
import HandS.CallSlots
import HandS.Defaults
import HandS.Iter
import HandS.Zip
import KE.GoesZip
import KE.GoesEnum
import KE.GoesMore
import HandS.Small
import HandS.Comp
import HandS.DictComp
import HandS.SetFor
import HandS.Strs
import HandS.HeadHook4
import HandS.HeadEnd
import HandS.Head0
import HandS.Head1
import HandS.Head2
import HandS.HeadHook1
import HandS.HeadHook2
import HandS.HeadHook3
import PySem.Challenge.RW_askedahead_k02_whole_states
section
set_option Elab.async false
set_option linter.all false
set_option maxRecDepth 100000
/-! Mp0: a small evaluator of Python over resolved terms: values, terms, the evaluator. -/
namespace Mp
open PySem L2

/-! ### values -/
inductive PV where
  | non | bl (b : Bool) | int (i : Int) | str (x : Str)
  | tup (xs : List PV) | lst (xs : List PV) | dct (kvs : List (PV × PV)) | obj (c : Nat) (fs : List PV)
  | ref (n : Nat) | scr (ns : List Int)
  deriving Inhabited

/-- what stands in a def's own small heap -/
inductive MO where
  | lst (xs : List PV) | dct (kvs : List (PV × PV)) | ins (c : Nat) (fs : List (Option PV)) | frz (v : PV)
  deriving Inhabited
abbrev MH := List MO
abbrev Rho := List (Option PV)

/-- an exception: its class, what it holds -/
structure PX where
  c : Nat
  v : Option PV

inductive Out (α : Type) where
  | val (a : α) (M : MH)
  | exc (x : PX) (M : MH)
  | stuck
def Out.bind {α β : Type} (o : Out α) (k : α → MH → Out β) : Out β :=
  match o with
  | .val a M => k a M
  | .exc x M => .exc x M
  | .stuck => .stuck

/-- the same, where an exception is not told of -/
def Out.bindX {α β : Type} (o : Out α) (k : α → MH → Out β) : Out β :=
  match o with
  | .val a M => k a M
  | _ => .stuck

/-- a statement's end -/
inductive SO where
  | nx (ρ : Rho) (M : MH)
  | rt (v : PV) (M : MH)
  | bk (ρ : Rho) (M : MH)
  | ct (ρ : Rho) (M : MH)
  | exc (x : PX) (ρ : Rho) (M : MH)
  | stuck

/-! ### terms -/
inductive BOp where | add | sub | mul | fdiv | mod
inductive COp where | eq | ne | lt | le | gt | ge | is_ | isnot | in_ | notin
inductive Ty where | int | str | bool | tuple | list | dict | own (c : Nat)
inductive Blt where | len | list | tuple | sorted | sset | sum | min1 | min2 | max2 | all | any | int | rlist
inductive BMt where | append | extend | pop | index | clear

mutual
inductive ME where
  | var (i : Nat) | lit (v : PV) | con (c : Nat)
  | tup (es : List (Bool × ME)) | lst (m : Bool) (es : List (Bool × ME))
  | bin (o : BOp) (m : Bool) (a b : ME) | neg (a : ME)
  | cmp (o : COp) (a b : ME) | chain (o o' : COp) (a b c : ME)
  | and (es : List ME) | or (es : List ME) | not (a : ME) | ite (c a b : ME)
  | idx (a b : ME) | slc (a : ME) (lo hi : Option ME)
  | att (a : ME) (f : Nat)
  | isi (a : ME) (ts : List Ty)
  | call (f : Nat) (p : Bool) (es : List ME)
  | mk (c : Nat) (es : List ME)
  | blt (b : Blt) (m : Bool) (es : List ME)
  | bm (o : BMt) (a : ME) (es : List ME)
  | lc (m : Bool) (vs : List Nat) (e : ME) (t : MT) (it : MI) (ifs : List ME)
  | dc (m : Bool) (vs : List Nat) (k v : ME) (t : MT) (it : MI) (ifs : List ME)
  | dsp (m : Bool) (ks vs : List ME)
inductive MT where
  | nm (i : Nat) | tup (ts : List MT) | sub (a i : ME) | att (a : ME) (f : Nat)
inductive MI where
  | seq (e : ME) | rng1 (e : ME) | rng2 (a b : ME) | enum (e : ME) | zip (a b : ME) | items (e : ME)
end
instance : Inhabited ME := ⟨.lit .non⟩

inductive MS where
  | expr (e : ME) | asg (t : MT) (e : ME) | par (ns : List Nat) (es : List ME) | aug (i : Nat) (o : BOp) (e : ME)
  | ifs (c : ME) (a b : List MS) | whl (c : ME) (b : List MS) | for_ (t : MT) (it : MI) (b : List MS)
  | ret (e : ME) | retN | pass | brk | cont | bad

structure MFn where
  np : Nat
  nl : Nat
  dfl : List PV
  body : List MS
  deriving Inhabited
structure MCls where
  init : Nat
  nf : Nat
  fld : List (Nat × Nat)
  deriving Inhabited
structure MP where
  fns : List MFn
  con : List PV
  cls : List MCls

/-! ### plain helpers -/
def natsEq : List Nat → List Nat → Bool
  | [], [] => true
  | a :: r, b :: s => Nat.beq a b && natsEq r s
  | _, _ => false
def strEq (x y : Str) : Bool := natsEq x.cps.toList y.cps.toList

/-- what is read behind a reference -/
def view (M : MH) (v : PV) : PV :=
  match v with
  | .ref n => (match M[n]? with
    | some (.lst xs) => .lst xs
    | some (.dct kvs) => .dct kvs
    | some (.frz w) => w
    | _ => v)
  | _ => v
/-- the items of a list, of a tuple -/
def readL (M : MH) (v : PV) : Option (List PV) :=
  match view M v with
  | .tup xs => some xs
  | .lst xs => some xs
  | .scr ns => some (ns.map .int)
  | _ => none
/-- the items of a list -/
def readLL (M : MH) (v : PV) : Option (List PV) :=
  match view M v with
  | .lst xs => some xs
  | .scr ns => some (ns.map .int)
  | _ => none
def readD (M : MH) (v : PV) : Option (List (PV × PV)) :=
  match view M v with
  | .dct kvs => some kvs
  | _ => none

/-! ### equality -/
def eqL (f : PV → PV → Bool) : List PV → List PV → Bool
  | [], [] => true
  | x :: xs, y :: ys => f x y && eqL f xs ys
  | _, _ => false
def b2i (b : Bool) : Int := if b then 1 else 0
def eqB : Nat → MH → PV → PV → Bool
  | 0, _, _, _ => false
  | k + 1, M, x, y => match view M x, view M y with
    | .non, .non => true
    | .bl a, .bl b => a == b
    | .bl a, .int j => decide (b2i a = j)
    | .int i, .bl b => decide (i = b2i b)
    | .int i, .int j => decide (i = j)
    | .str a, .str b => strEq a b
    | .tup xs, .tup ys => eqL (eqB k M) xs ys
    | .lst xs, .lst ys => eqL (eqB k M) xs ys
    | .scr ns, .lst ys => eqL (eqB k M) (ns.map .int) ys
    | .lst xs, .scr ns => eqL (eqB k M) xs (ns.map .int)
    | .scr ms, .scr ns => eqL (eqB k M) (ms.map .int) (ns.map .int)
    | _, _ => false
/-- plain data, few levels deep -/
def okB : Nat → MH → PV → Bool
  | 0, _, _ => false
  | k + 1, M, x => match view M x with
    | .non | .bl _ | .int _ => true
    | .str a => a.cps.toList.all (fun c => decide (c < 1114112))
    | .tup xs => xs.all (okB k M)
    | .lst xs => xs.all (okB k M)
    | .scr ns => (ns.map PV.int).all (okB k M)
    | _ => false
def eqV (M : MH) (x y : PV) : Option Bool := if okB 40 M x && okB 40 M y then some (eqB 40 M x y) else none

/-! ### freezing -/
def frzL (f : MH → PV → Option (PV × MH)) : MH → List PV → Option (List PV × MH)
  | M, [] => some ([], M)
  | M, x :: xs => match f M x with
    | none => none
    | some (y, M1) => match frzL f M1 xs with
      | none => none
      | some (ys, M2) => some (y :: ys, M2)
def frzD (f : MH → PV → Option (PV × MH)) : MH → List (PV × PV) → Option (List (PV × PV) × MH)
  | M, [] => some ([], M)
  | M, (k, x) :: xs => match f M k with
    | none => none
    | some (k', M0) => match f M0 x with
      | none => none
      | some (y, M1) => match frzD f M1 xs with
        | none => none
        | some (ys, M2) => some ((k', y) :: ys, M2)
def allSome : List (Option PV) → Option (List PV)
  | [] => some []
  | none :: _ => none
  | some x :: r => match allSome r with
    | none => none
    | some ys => some (x :: ys)
def frz : Nat → MH → PV → Option (PV × MH)
  | 0, _, _ => none
  | k + 1, M, v => match v with
    | .tup xs => (match frzL (frz k) M xs with
      | some (ys, M1) => some (.tup ys, M1)
      | none => none)
    | .lst xs => (match frzL (frz k) M xs with
      | some (ys, M1) => some (.lst ys, M1)
      | none => none)
    | .dct kvs => (match frzD (frz k) M kvs with
      | some (ys, M1) => some (.dct ys, M1)
      | none => none)
    | .obj c fs => (match frzL (frz k) M fs with
      | some (ys, M1) => some (.obj c ys, M1)
      | none => none)
    | .ref n => (match M[n]? with
      | some (.frz w) => some (w, M)
      | some (.lst xs) => (match frzL (frz k) M xs with
        | some (ys, M1) => some (.lst ys, M1.set n (.frz (.lst ys)))
        | none => none)
      | some (.dct kvs) => (match frzD (frz k) M kvs with
        | some (ys, M1) => some (.dct ys, M1.set n (.frz (.dct ys)))
        | none => none)
      | some (.ins c fs) => (match allSome fs with
        | some (g :: gs) => (match frzL (frz k) M (g :: gs) with
          | some (ys, M1) => some (.obj c ys, M1.set n (.frz (.obj c ys)))
          | none => none)
        | _ => none)
      | none => none)
    | v => some (v, M)

/-! ### operators -/
def small64 (i : Int) : Bool := decide (-(2 ^ 64) < i ∧ i < 2 ^ 64)
/-- a new list: a value, or an object of the heap -/
def newL (m : Bool) (xs : List PV) (M : MH) : Out PV := if xs.length ≤ 1000000 then (if m then .val (.ref M.length) (M ++ [.lst xs]) else .val (.lst xs) M) else .stuck
def newD (m : Bool) (kvs : List (PV × PV)) (M : MH) : Out PV := if m then .val (.ref M.length) (M ++ [.dct kvs]) else .val (.dct kvs) M
def binOp (o : BOp) (m : Bool) (x y : PV) (M : MH) : Out PV :=
  match o with
  | .add => (match view M x, view M y with
    | .int i, .int j => .val (.int (i + j)) M
    | .int i, .bl b => .val (.int (i + b2i b)) M
    | .str a, .str b => if a.length + b.length ≤ 1000000 then .val (.str (a ++ b)) M else .stuck
    | .tup xs, .tup ys => if xs.length + ys.length ≤ 1000000 then .val (.tup (xs ++ ys)) M else .stuck
    | .lst xs, .lst ys => newL m (xs ++ ys) M
    | _, _ => .stuck)
  | .sub => (match x, y with
    | .int i, .int j => .val (.int (i - j)) M
    | _, _ => .stuck)
  | .mul => (match view M x, y with
    | .int i, .int j => if small64 i || small64 j then .val (.int (i * j)) M else .stuck
    | .lst xs, .int k => if 0 ≤ k ∧ k ≤ 1000 ∧ xs.length ≤ 1000 then newL m (List.replicate k.toNat xs).flatten M else .stuck
    | _, _ => .stuck)
  | .fdiv => (match x, y with
    | .int i, .int j => if 0 < j ∧ j < 1073741824 then .val (.int (i / j)) M else .stuck
    | _, _ => .stuck)
  | .mod => (match x, y with
    | .int i, .int j => if 0 < j then .val (.int (i % j)) M else .stuck
    | _, _ => .stuck)

def inL (M : MH) (x : PV) (xs : List PV) : Option Bool := if okB 40 M x && xs.all (okB 40 M) then some (xs.any fun y => eqB 40 M y x) else none
/-- the place of an index -/
def ixOf (n : Nat) (i : Int) : Option Nat := if 0 ≤ i then (if i < n then some i.toNat else none) else if -(n : Int) ≤ i then some (i + n).toNat else none
def natLt : List Nat → List Nat → Bool
  | [], [] => false
  | [], _ :: _ => true
  | _ :: _, [] => false
  | a :: r, b :: s => if a < b then true else if b < a then false else natLt r s
def strLt (x y : Str) : Bool := natLt x.cps.toList y.cps.toList
/-- a key of a dict with number or text keys -/
def keyS : PV → Option Key
  | .int i => some (.inl i)
  | .str x => some (.inr x)
  | _ => none
def keyEq : PV → PV → Bool
  | .int i, .int j => decide (i = j)
  | .str x, .str y => strEq x y
  | _, _ => false
def isKey : PV → Bool
  | .int _ => true
  | .str _ => true
  | _ => false
def getD (k : PV) : List (PV × PV) → Option PV
  | [] => none
  | (q, v) :: r => if keyEq q k then some v else getD k r
def putD (k v : PV) (kvs : List (PV × PV)) : List (PV × PV) :=
  if kvs.any fun p => keyEq p.1 k then kvs.map fun p => if keyEq p.1 k then (p.1, v) else p else kvs ++ [(k, v)]
def cmpOp (o : COp) (x y : PV) (M : MH) : Option Bool :=
  match o with
  | .eq => eqV M x y
  | .ne => (match eqV M x y with
    | some b => some (!b)
    | none => none)
  | .lt => (match x, y with
    | .int i, .int j => some (decide (i < j))
    | .str a, .str b => some (strLt a b)
    | _, _ => none)
  | .le => (match x, y with
    | .int i, .int j => some (decide (i ≤ j))
    | _, _ => none)
  | .gt => (match x, y with
    | .int i, .int j => some (decide (j < i))
    | _, _ => none)
  | .ge => (match x, y with
    | .int i, .int j => some (decide (j ≤ i))
    | _, _ => none)
  | .is_ => (match y with
    | .non => (match x with
      | .non => some true
      | _ => some false)
    | _ => none)
  | .isnot => (match y with
    | .non => (match x with
      | .non => some false
      | _ => some true)
    | _ => none)
  | .in_ => (match view M y with
    | .tup xs => inL M x xs
    | .lst xs => inL M x xs
    | .dct kvs => if isKey x then some (getD x kvs).isSome else none
    | _ => none)
  | .notin => (match view M y with
    | .tup xs => (match inL M x xs with
      | some b => some (!b)
      | none => none)
    | .lst xs => (match inL M x xs with
      | some b => some (!b)
      | none => none)
    | .dct kvs => if isKey x then some (!(getD x kvs).isSome) else none
    | _ => none)
def getI (x y : PV) (M : MH) : Option PV :=
  match view M x, y with
  | .tup xs, .int i => (match ixOf xs.length i with
    | some j => xs[j]?
    | none => none)
  | .lst xs, .int i => (match ixOf xs.length i with
    | some j => xs[j]?
    | none => none)
  | .scr ns, .int i => (match ixOf ns.length i with
    | some j => (ns.map PV.int)[j]?
    | none => none)
  | .dct kvs, k => if isKey k then getD k kvs else none
  | _, _ => none
/-- a bound of a slice -/
def cutIx (n d : Nat) : Option Int → Nat
  | none => d
  | some i => if 0 ≤ i then min i.toNat n else (i + n).toNat
def cutL {α : Type} (xs : List α) (lo hi : Option Int) : List α := (xs.drop (cutIx xs.length 0 lo)).take (cutIx xs.length xs.length hi - cutIx xs.length 0 lo)
/-- which built-in type or own class -/
inductive TyK where | non | bool | int | str | tuple | list | dict | own (c : Nat)
def kindOf (n : Nat) (M : MH) (x : PV) : Option TyK :=
  match view M x with
  | .non => some .non
  | .bl _ => some .bool
  | .int _ => some .int
  | .str _ => some .str
  | .tup _ => some .tuple
  | .lst _ => some .list
  | .scr _ => some .list
  | .dct _ => some .dict
  | .obj c _ => if Nat.blt c n then some (.own c) else none
  | .ref _ => none
def tyIs : TyK → Ty → Bool
  | .bool, .bool => true
  | .bool, .int => true
  | .int, .int => true
  | .str, .str => true
  | .tuple, .tuple => true
  | .list, .list => true
  | .dict, .dict => true
  | .own c, .own d => Nat.beq c d
  | _, _ => false
def typOk (n : Nat) (M : MH) (x : PV) (t : Ty) : Option Bool :=
  match kindOf n M x with
  | some k => some (tyIs k t)
  | none => none
def typAny (n : Nat) (M : MH) (x : PV) (ts : List Ty) : Option Bool :=
  match kindOf n M x with
  | some k => some (ts.any (tyIs k))
  | none => none

/-! ### iteration -/
/-- what is walked; k: a tuple (true), a list (false) -/
inductive Src where
  | sq (k : Bool) (v : PV) | rng (lo : Int) (n : Nat) | enum (k : Bool) (v : PV) | zip (k : Bool) (u : PV) (j : Bool) (v : PV) | items (kvs : List (PV × PV))
def readK (M : MH) (k : Bool) (v : PV) : Option (List PV) :=
  match view M v with
  | .tup xs => if k then some xs else none
  | .lst xs => if k then none else some xs
  | .scr ns => if k then none else some (ns.map .int)
  | _ => none
def kindS (M : MH) (v : PV) : Option Bool :=
  match view M v with
  | .tup _ => some true
  | .lst _ => some false
  | .scr _ => some false
  | _ => none
/-- the i-th item: none: not to be told; some none: the end -/
def srcAt (M : MH) (s : Src) (i : Nat) : Option (Option PV) :=
  match s with
  | .sq k v => (match readK M k v with
    | some xs => some xs[i]?
    | none => none)
  | .rng lo n => some (if i < n then some (.int (lo + i)) else none)
  | .enum k v => (match readK M k v with
    | some xs => (match xs[i]? with
      | some x => some (some (.tup [.int i, x]))
      | none => some none)
    | none => none)
  | .zip k u j v => (match readK M k u with
    | some xs => (match readK M j v with
      | some ys => (match xs[i]?, ys[i]? with
        | some x, some y => some (some (.tup [x, y]))
        | _, _ => if (xs.length = i ∧ i ≤ ys.length) ∨ (ys.length = i ∧ i ≤ xs.length) then some none else none)
      | none => none)
    | none => none)
  | .items kvs => some (match kvs[i]? with
    | some (k, v) => some (.tup [k, v])
    | none => none)
def lenK (M : MH) (k : Bool) (v : PV) : Nat := match readK M k v with
  | some xs => xs.length
  | none => 0
def srcLen (M : MH) : Src → Nat
  | .sq k v => lenK M k v
  | .rng _ n => n
  | .enum k v => lenK M k v
  | .zip k u _ _ => lenK M k u
  | .items kvs => kvs.length

/-! ### the evaluator -/
structure Ev where
  e : ME → Rho → MH → Out PV
  asg : MT → PV → Rho → MH → Out Rho
  s : MS → Rho → MH → SO

section
variable (E : Ev)
def evArgs : List ME → Rho → MH → Out (List PV)
  | [], _, M => .val [] M
  | a :: r, ρ, M => (E.e a ρ M).bind fun x M1 => (evArgs r ρ M1).bind fun xs M2 => .val (x :: xs) M2
def evStars : List (Bool × ME) → Rho → MH → Out (List PV)
  | [], _, M => .val [] M
  | (false, a) :: r, ρ, M => (E.e a ρ M).bind fun x M1 => (evStars r ρ M1).bind fun xs M2 => .val (x :: xs) M2
  | (true, a) :: r, ρ, M => (E.e a ρ M).bind fun x M1 => match readL M1 x with
    | some ys => (evStars r ρ M1).bind fun xs M2 => .val (ys ++ xs) M2
    | none => .stuck
def evAnd : List ME → Rho → MH → Out PV
  | [], _, _ => .stuck
  | [a], ρ, M => E.e a ρ M
  | a :: b :: r, ρ, M => (E.e a ρ M).bind fun x M1 => match x with
    | .bl true => evAnd (b :: r) ρ M1
    | .bl false => .val (.bl false) M1
    | _ => .stuck
def evOr : List ME → Rho → MH → Out PV
  | [], _, _ => .stuck
  | [a], ρ, M => E.e a ρ M
  | a :: b :: r, ρ, M => (E.e a ρ M).bind fun x M1 => match x with
    | .bl false => evOr (b :: r) ρ M1
    | .bl true => .val (.bl true) M1
    | _ => .stuck
/-- a test -/
def evT (c : ME) (ρ : Rho) (M : MH) : Out Bool := (E.e c ρ M).bind fun x M1 => match x with
  | .bl b => .val b M1
  | _ => .stuck
def evOpt : Option ME → Rho → MH → Out (Option Int)
  | none, _, M => .val none M
  | some a, ρ, M => (E.e a ρ M).bind fun x M1 => match x with
    | .int i => .val (some i) M1
    | _ => .stuck
/-- a call whose objects stay its own -/
def callP (C : Nat → List PV → MH → Out PV) (f : Nat) (xs : List PV) (M : MH) : Out PV :=
  match frzL (frz 50) M xs with
  | none => .stuck
  | some (ys, M1) => match C f ys [] with
    | .val v M2 => (match frz 50 M2 v with
      | some (w, _) => .val w M1
      | none => .stuck)
    | .exc x _ => .exc x M1
    | .stuck => .stuck
/-- a new instance -/
def makeI (C : Nat → List PV → MH → Out PV) (k : MCls) (c : Nat) (xs : List PV) (M : MH) : Out PV :=
  match frzL (frz 50) M xs with
  | none => .stuck
  | some (ys, M1) => match C k.init (.ref 0 :: ys) [.ins c []] with
    | .val .non M2 => (match frz 50 M2 (.ref 0) with
      | some (w, _) => .val w M1
      | none => .stuck)
    | .exc x _ => .exc x M1
    | _ => .stuck
def evIt : MI → Rho → MH → Out Src
  | .seq e, ρ, M => (E.e e ρ M).bind fun x M1 => match kindS M1 x with
    | some k => .val (.sq k x) M1
    | none => .stuck
  | .rng1 a, ρ, M => (evArgs E [a] ρ M).bind fun xs M1 => match xs with
    | [.int n] => if -4611686018427387904 ≤ n ∧ n < 4611686018427387904 then .val (.rng 0 n.toNat) M1 else .stuck
    | _ => .stuck
  | .rng2 a b, ρ, M => (evArgs E [a, b] ρ M).bind fun xs M1 => match xs with
    | [.int a, .int n] => if (-4611686018427387904 ≤ a ∧ a < 4611686018427387904) ∧ -4611686018427387904 ≤ n ∧ n < 4611686018427387904 then .val (.rng a (n - a).toNat) M1 else .stuck
    | _ => .stuck
  | .enum e, ρ, M => (evArgs E [e] ρ M).bind fun xs M1 => match xs with
    | [x] => (match kindS M1 x with
      | some k => .val (.enum k x) M1
      | none => .stuck)
    | _ => .stuck
  | .zip a b, ρ, M => (evArgs E [a, b] ρ M).bind fun xs M1 => match xs with
    | [x, y] => (match kindS M1 x with
      | some k => (match kindS M1 y with
        | some j => .val (.zip k x j y) M1
        | none => .stuck)
      | none => .stuck)
    | _ => .stuck
  | .items e, ρ, M => (E.e e ρ M).bind fun x M1 => match readD M1 x with
    | some kvs => .val (.items kvs) M1
    | none => .stuck
/-- all tests of a comprehension -/
def evIfs : List ME → Rho → MH → Out Bool
  | [], _, M => .val true M
  | [a], ρ, M => evT E a ρ M
  | _, _, _ => .stuck
def wipeR (ρ : Rho) : List Nat → Rho
  | [] => ρ
  | v :: vs => (wipeR ρ vs).set v none
/-- a comprehension's turns: acc what is made so far -/
def lcL (e : ME) (t : MT) (ifs : List ME) (ρ : Rho) : Nat → Nat → Src → List PV → MH → Out (List PV)
  | 0, _, _, _, _ => .stuck
  | w + 1, i, s, acc, M => match srcAt M s i with
    | none => .stuck
    | some none => .val acc M
    | some (some x) => (match E.asg t x ρ M with
      | .val ρ1 M1 => (match evIfs E ifs ρ1 M1 with
        | .val true M2 => (match E.e e ρ1 M2 with
          | .val y M3 => if acc.length < 1000000 then lcL e t ifs ρ w (i + 1) s (acc ++ [y]) M3 else .stuck
          | _ => .stuck)
        | .val false M2 => lcL e t ifs ρ w (i + 1) s acc M2
        | _ => .stuck)
      | _ => .stuck)
def dcL (k v : ME) (t : MT) (ifs : List ME) (ρ : Rho) : Nat → Nat → Src → List (PV × PV) → MH → Out (List (PV × PV))
  | 0, _, _, _, _ => .stuck
  | w + 1, i, s, acc, M => match srcAt M s i with
    | none => .stuck
    | some none => .val acc M
    | some (some x) => (match E.asg t x ρ M with
      | .val ρ1 M1 => (match evIfs E ifs ρ1 M1 with
        | .val true M2 => (match E.e k ρ1 M2 with
          | .val y M3 => (match E.e v ρ1 M3 with
            | .val z M4 => if isKey y && decide (acc.length < 1000000) then dcL k v t ifs ρ w (i + 1) s (putD y z acc) M4 else .stuck
            | _ => .stuck)
          | _ => .stuck)
        | .val false M2 => dcL k v t ifs ρ w (i + 1) s acc M2
        | _ => .stuck)
      | _ => .stuck)
def evDsp : List ME → List ME → Rho → List (PV × PV) → MH → Out (List (PV × PV))
  | [], [], _, acc, M => .val acc M
  | k :: ks, v :: vs, ρ, acc, M => (E.e k ρ M).bind fun x M1 => (E.e v ρ M1).bind fun y M2 => if isKey x then evDsp ks vs ρ (putD x y acc) M2 else .stuck
  | _, _, _, _, _ => .stuck
def forL (t : MT) (body : Rho → MH → SO) : Nat → Nat → Src → Rho → MH → SO
  | 0, _, _, _, _ => .stuck
  | w + 1, i, s, ρ, M => match srcAt M s i with
    | none => .stuck
    | some none => .nx ρ M
    | some (some x) => (match E.asg t x ρ M with
      | .val ρ1 M1 => (match body ρ1 M1 with
        | .nx ρ2 M2 => forL t body w (i + 1) s ρ2 M2
        | .ct ρ2 M2 => forL t body w (i + 1) s ρ2 M2
        | .bk ρ2 M2 => .nx ρ2 M2
        | r => r)
      | _ => .stuck)
def whlL (c : ME) (body : Rho → MH → SO) : Nat → Rho → MH → SO
  | 0, _, _ => .stuck
  | w + 1, ρ, M => match evT E c ρ M with
    | .val true M1 => (match body ρ M1 with
      | .nx ρ2 M2 => whlL c body w ρ2 M2
      | .ct ρ2 M2 => whlL c body w ρ2 M2
      | .bk ρ2 M2 => .nx ρ2 M2
      | r => r)
    | .val false M1 => .nx ρ M1
    | .exc z M1 => .exc z ρ M1
    | .stuck => .stuck
def ssL : List MS → Rho → MH → SO
  | [], ρ, M => .nx ρ M
  | a :: r, ρ, M => match E.s a ρ M with
    | .nx ρ1 M1 => ssL r ρ1 M1
    | q => q
end

/-! ### built-ins -/
def intsOf : List PV → Option (List Int)
  | [] => some []
  | .int i :: r => (match intsOf r with
    | some is => some (i :: is)
    | none => none)
  | _ :: _ => none
def boolsOf : List PV → Option (List Bool)
  | [] => some []
  | .bl i :: r => (match boolsOf r with
    | some is => some (i :: is)
    | none => none)
  | _ :: _ => none
def insI (a : Int) : List Int → List Int
  | [] => [a]
  | b :: r => if a ≤ b then a :: b :: r else b :: insI a r
def sortI : List Int → List Int
  | [] => []
  | a :: r => insI a (sortI r)
def insU (a : Int) : List Int → List Int
  | [] => [a]
  | b :: r => if a < b then a :: b :: r else if a = b then b :: r else b :: insU a r
def sortU : List Int → List Int
  | [] => []
  | a :: r => insU a (sortU r)
def sumI : List Int → Int
  | [] => 0
  | a :: r => a + sumI r
def bLen (xs : List PV) (M : MH) : Out PV := match xs with
  | [x] => (match view M x with
    | .tup ys => .val (.int ys.length) M
    | .lst ys => .val (.int ys.length) M
    | .scr ns => .val (.int ns.length) M
    | _ => .stuck)
  | _ => .stuck
def bList (m : Bool) (xs : List PV) (M : MH) : Out PV := match xs with
  | [x] => (match readL M x with
    | some ys => newL m ys M
    | none => .stuck)
  | _ => .stuck
def bTuple (xs : List PV) (M : MH) : Out PV := match xs with
  | [x] => (match readL M x with
    | some ys => if ys.length ≤ 1000000 then .val (.tup ys) M else .stuck
    | none => .stuck)
  | _ => .stuck
def bSorted (m : Bool) (xs : List PV) (M : MH) : Out PV := match xs with
  | [x] => (match readLL M x with
    | some ys => (match intsOf ys with
      | some is => if is.length < 64 then newL m ((sortI is).map .int) M else .stuck
      | none => .stuck)
    | none => .stuck)
  | _ => .stuck
def bSset (m : Bool) (xs : List PV) (M : MH) : Out PV := match xs with
  | [x] => (match readL M x with
    | some ys => (match intsOf ys with
      | some is => if is.length < 64 then newL m ((sortU is).map .int) M else .stuck
      | none => .stuck)
    | none => .stuck)
  | _ => .stuck
def bSum (xs : List PV) (M : MH) : Out PV := match xs with
  | [x] => (match readLL M x with
    | some ys => (match intsOf ys with
      | some is => .val (.int (sumI is)) M
      | none => .stuck)
    | none => .stuck)
  | _ => .stuck
def bMin2 (xs : List PV) (M : MH) : Out PV := match xs with
  | [.int i, .int j] => .val (.int (if j < i then j else i)) M
  | _ => .stuck
def bMax2 (xs : List PV) (M : MH) : Out PV := match xs with
  | [.int i, .int j] => .val (.int (if i < j then j else i)) M
  | _ => .stuck
def bAll (xs : List PV) (M : MH) : Out PV := match xs with
  | [x] => (match readLL M x with
    | some ys => (match boolsOf ys with
      | some bs => .val (.bl (bs.all id)) M
      | none => .stuck)
    | none => .stuck)
  | _ => .stuck
def bAny (xs : List PV) (M : MH) : Out PV := match xs with
  | [x] => (match readLL M x with
    | some ys => (match boolsOf ys with
      | some bs => .val (.bl (bs.any id)) M
      | none => .stuck)
    | none => .stuck)
  | _ => .stuck
def bInt (xs : List PV) (M : MH) : Out PV := match xs with
  | [.int i] => .val (.int i) M
  | [.bl b] => .val (.int (b2i b)) M
  | _ => .stuck
/-- list(range(..)) -/
def bRlist (m : Bool) (xs : List PV) (M : MH) : Out PV := match xs with
  | [.int n] => if -4611686018427387904 ≤ n ∧ n < 1000000 then newL m ((List.range n.toNat).map fun i : Nat => PV.int (0 + Int.ofNat i)) M else .stuck
  | _ => .stuck
def bltF (b : Blt) (m : Bool) (xs : List PV) (M : MH) : Out PV :=
  match b with
  | .len => bLen xs M
  | .list => bList m xs M
  | .tuple => bTuple xs M
  | .sorted => bSorted m xs M
  | .sset => bSset m xs M
  | .sum => bSum xs M
  | .min2 => bMin2 xs M
  | .max2 => bMax2 xs M
  | .all => bAll xs M
  | .any => bAny xs M
  | .int => bInt xs M
  | .rlist => bRlist m xs M
  | .min1 => .stuck
def mApp (x : PV) (xs : List PV) (M : MH) : Out PV := match x with
  | .ref n => (match M[n]? with
    | some (.lst ys) => (match xs with
      | [y] => if ys.length < 1000000 then .val .non (M.set n (.lst (ys ++ [y]))) else .stuck
      | _ => .stuck)
    | _ => .stuck)
  | _ => .stuck
/-- a method of a built-in type: its object must be there before its arguments are read -/
def isLst (x : PV) (M : MH) : Bool := match x with
  | .ref n => (match M[n]? with
    | some (.lst _) => true
    | _ => false)
  | _ => false
def bmF (o : BMt) (x : PV) (xs : List PV) (M : MH) : Out PV :=
  match o with
  | .append => mApp x xs M
  | _ => .stuck

/-! ### one step of the evaluator -/
section
variable (P : MP) (E : Ev) (C : Nat → List PV → MH → Out PV)
def stepE (e : ME) (ρ : Rho) (M : MH) : Out PV :=
  match e with
  | .var i => (match ρ[i]? with
    | some (some v) => .val v M
    | _ => .stuck)
  | .lit v => .val v M
  | .con c => (match P.con[c]? with
    | some v => .val v M
    | none => .stuck)
  | .tup es => (evStars E es ρ M).bind fun xs M1 => if xs.length ≤ 1000000 then .val (.tup xs) M1 else .stuck
  | .lst m es => (evStars E es ρ M).bind fun xs M1 => newL m xs M1
  | .bin o m a b => (E.e a ρ M).bind fun x M1 => (E.e b ρ M1).bind fun y M2 => binOp o m x y M2
  | .neg a => (E.e a ρ M).bind fun x M1 => (match x with
    | .int i => .val (.int (-i)) M1
    | _ => .stuck)
  | .cmp o a b => (E.e a ρ M).bind fun x M1 => (E.e b ρ M1).bind fun y M2 => (match cmpOp o x y M2 with
    | some r => .val (.bl r) M2
    | none => .stuck)
  | .chain o o' a b c => (E.e a ρ M).bind fun x M1 => (E.e b ρ M1).bind fun y M2 => (match cmpOp o x y M2 with
    | some true => (E.e c ρ M2).bind fun z M3 => (match cmpOp o' y z M3 with
      | some r => .val (.bl r) M3
      | none => .stuck)
    | some false => .val (.bl false) M2
    | none => .stuck)
  | .and es => evAnd E es ρ M
  | .or es => evOr E es ρ M
  | .not a => (evT E a ρ M).bind fun b M1 => .val (.bl (!b)) M1
  | .ite c a b => (evT E c ρ M).bind fun r M1 => if r then E.e a ρ M1 else E.e b ρ M1
  | .idx a b => (E.e a ρ M).bind fun x M1 => (E.e b ρ M1).bind fun y M2 => (match getI x y M2 with
    | some v => .val v M2
    | none => .stuck)
  | .slc a lo hi => (E.e a ρ M).bind fun x M1 => (evOpt E lo ρ M1).bind fun l M2 => (evOpt E hi ρ M2).bind fun h M3 => (match view M3 x with
    | .tup xs => .val (.tup (cutL xs l h)) M3
    | .lst xs => newL false (cutL xs l h) M3
    | .scr ns => newL false ((cutL ns l h).map .int) M3
    | _ => .stuck)
  | .att a f => (E.e a ρ M).bind fun x M1 => (match view M1 x with
    | .obj c fs => (match P.cls[c]? with
      | some k => (match k.fld.lookup f with
        | some i => (match fs[i]? with
          | some v => .val v M1
          | none => .stuck)
        | none => .stuck)
      | none => .stuck)
    | _ => .stuck)
  | .isi a ts => (E.e a ρ M).bind fun x M1 => (match typAny P.cls.length M1 x ts with
    | some b => .val (.bl b) M1
    | none => .stuck)
  | .call f p es => (evArgs E es ρ M).bind fun xs M1 => (match P.fns[f]? with
    | some g => if es.length ≤ g.np ∧ g.np ≤ es.length + g.dfl.length then
        (if p then callP C f (xs ++ g.dfl.drop (es.length + g.dfl.length - g.np)) M1 else C f (xs ++ g.dfl.drop (es.length + g.dfl.length - g.np)) M1) else .stuck
    | none => .stuck)
  | .mk c es => (evArgs E es ρ M).bind fun xs M1 => (match P.cls[c]? with
    | some k => (match P.fns[k.init]? with
      | some g => if es.length + 1 ≤ g.np ∧ g.np ≤ es.length + 1 + g.dfl.length then makeI C k c (xs ++ g.dfl.drop (es.length + 1 + g.dfl.length - g.np)) M1 else .stuck
      | none => .stuck)
    | none => .stuck)
  | .blt b m es => (evArgs E es ρ M).bind fun xs M1 => bltF b m xs M1
  | .bm o a es => (E.e a ρ M).bind fun x M1 => if isLst x M1 then (evArgs E es ρ M1).bind fun xs M2 => bmF o x xs M2 else .stuck
  | .lc m vs e t it ifs => (evIt E it ρ M).bind fun s M1 => (lcL E e t ifs (wipeR ρ vs) (srcLen M1 s + 1) 0 s [] M1).bind fun ys M2 => newL m ys M2
  | .dc m vs k v t it ifs => (evIt E it ρ M).bind fun s M1 => (dcL E k v t ifs (wipeR ρ vs) (srcLen M1 s + 1) 0 s [] M1).bind fun ys M2 => newD m ys M2
  | .dsp m ks vs => if ks.length ≤ 15 then (evDsp E ks vs ρ [] M).bind fun kvs M1 => newD m kvs M1 else .stuck
def asgTs (f : MT → PV → Rho → MH → Out Rho) : List MT → List PV → Rho → MH → Out Rho
  | [], [], ρ, M => .val ρ M
  | t :: ts, x :: xs, ρ, M => (f t x ρ M).bindX fun ρ1 M1 => asgTs f ts xs ρ1 M1
  | _, _, _, _ => .stuck
def stepA (t : MT) (x : PV) (ρ : Rho) (M : MH) : Out Rho :=
  match t with
  | .nm i => if i < ρ.length then .val (ρ.set i (some x)) M else .stuck
  | .tup ts => (match x with
    | .tup xs => if xs.length = ts.length then asgTs E.asg ts xs ρ M else .stuck
    | _ => .stuck)
  | .sub a i => (E.e a ρ M).bindX fun o M1 => (E.e i ρ M1).bindX fun j M2 => (match o with
    | .ref n => (match M2[n]?, j with
      | some (.lst xs), .int z => (match ixOf xs.length z with
        | some q => .val ρ (M2.set n (.lst (xs.set q x)))
        | none => .stuck)
      | some (.dct kvs), k => if isKey k && decide (kvs.length < 1000000) then .val ρ (M2.set n (.dct (putD k x kvs))) else .stuck
      | _, _ => .stuck)
    | _ => .stuck)
  | .att a f => (E.e a ρ M).bindX fun o M1 => (match o with
    | .ref n => (match M1[n]? with
      | some (.ins c fs) => (match P.cls[c]? with
        | some k => (match k.fld.lookup f with
          | some i => .val ρ (M1.set n (.ins c ((fs ++ List.replicate (i + 1 - fs.length) none).set i (some x))))
          | none => .stuck)
        | none => .stuck)
      | _ => .stuck)
    | _ => .stuck)
def outS {α : Type} (o : Out α) (ρ : Rho) (k : α → MH → SO) : SO :=
  match o with
  | .val a M => k a M
  | .exc x M => .exc x ρ M
  | .stuck => .stuck
def setAll : List Nat → List PV → Rho → Option Rho
  | [], [], ρ => some ρ
  | n :: ns, x :: xs, ρ => if n < ρ.length then setAll ns xs (ρ.set n (some x)) else none
  | _, _, _ => none
def augOp (o : BOp) (x y : PV) : Option PV :=
  match o with
  | .add => (match x, y with
    | .int a, .int b => some (.int (a + b))
    | _, _ => none)
  | .sub => (match x, y with
    | .int a, .int b => some (.int (a - b))
    | _, _ => none)
  | _ => none
def stepS (s : MS) (ρ : Rho) (M : MH) : SO :=
  match s with
  | .expr e => outS (E.e e ρ M) ρ fun _ M1 => .nx ρ M1
  | .asg t e => outS (E.e e ρ M) ρ fun x M1 => (match E.asg t x ρ M1 with
    | .val ρ1 M2 => .nx ρ1 M2
    | _ => .stuck)
  | .par ns es => outS (evArgs E es ρ M) ρ fun xs M1 => (match setAll ns xs ρ with
    | some ρ1 => .nx ρ1 M1
    | none => .stuck)
  | .aug i o e => (match ρ[i]? with
    | some (some x) => outS (E.e e ρ M) ρ fun y M1 => (match augOp o x y with
      | some z => .nx (ρ.set i (some z)) M1
      | none => .stuck)
    | _ => .stuck)
  | .ifs c a b => outS (evT E c ρ M) ρ fun r M1 => if r then ssL E a ρ M1 else ssL E b ρ M1
  | .whl c b => whlL E c (ssL E b) 1000000 ρ M
  | .for_ t it b => outS (evIt E it ρ M) ρ fun s M1 => forL E t (ssL E b) (srcLen M1 s + 1) 0 s ρ M1
  | .ret e => outS (E.e e ρ M) ρ fun x M1 => .rt x M1
  | .retN => .rt .non M
  | .pass => .nx ρ M
  | .brk => .bk ρ M
  | .cont => .ct ρ M
  | .bad => .stuck
def runBody (g : MFn) (xs : List PV) (M : MH) : Out PV :=
  match ssL E g.body (xs.map some ++ List.replicate (g.nl - xs.length) none) M with
  | .nx _ M1 => .val .non M1
  | .rt v M1 => .val v M1
  | .exc x _ M1 => .exc x M1
  | _ => .stuck
end
def ev0 : Ev := ⟨fun _ _ _ => .stuck, fun _ _ _ _ => .stuck, fun _ _ _ => .stuck⟩
/-- n: how deep a term may be, d: how deep calls may be -/
def evT0 (P : MP) (C : Nat → List PV → MH → Out PV) : Nat → Ev
  | 0 => ev0
  | n + 1 => ⟨stepE P (evT0 P C n) C, stepA P (evT0 P C n), stepS (evT0 P C n)⟩
/-- a call, d levels deep at most -/
def evC (P : MP) (n : Nat) : Nat → Nat → List PV → MH → Out PV
  | 0 => fun _ _ _ => .stuck
  | d + 1 => fun f xs M => match P.fns[f]? with
    | some g => if xs.length = g.np then runBody (evT0 P (evC P n d) n) g xs M else .stuck
    | none => .stuck
end Mp
end

section
set_option Elab.async false
set_option linter.all false
set_option maxRecDepth 100000
/-! Mp1: how values and small heaps lie in the abstract heap of HandS. -/
namespace Mp
open PySem PySem.Spec PyProof.Rows L2

def KTup (K : PySem.W.Frag) (a : Addr) (vs : List V) : Prop :=
  ∃ (o : Obj) (its : Array Value) (n : Nat), K.lookup a = some o ∧ o.cls = .type "tuple" ∧ o.data = .seq its n ∧ its.size ≤ sizeLine ∧ Vals vs its.toList

def KLst (K : PySem.W.Frag) (a : Addr) (vs : List V) : Prop :=
  ∃ (o : Obj) (its : Array Value) (n : Nat), K.lookup a = some o ∧ o.cls = .type "list" ∧ o.dict = none ∧ o.data = .seq its n ∧ its.size ≤ sizeLine ∧ Vals vs its.toList

section
variable (K : PySem.W.Frag) (CA : Nat → Addr)
mutual
inductive RV (ι : List Addr) (B : Addr → Prop) (H : Hp) : PV → V → Prop
  | non : RV ι B H .non .non
  | bl (b : Bool) : RV ι B H (.bl b) (.bl b)
  | int (i : Int) : RV ι B H (.int i) (.int i)
  | str (x : Str) : RV ι B H (.str x) (.str x)
  | ref {n : Nat} {a : Addr} (h : ι[n]? = some a) : RV ι B H (.ref n) (.ref a)
  | tup {xs : List PV} {a : Addr} {vs : List V} (h : H a = some (.tup vs)) (hb : ¬ B a) (r : RVs ι B H xs vs) : RV ι B H (.tup xs) (.ref a)
  | ktup {xs : List PV} {a : Addr} {vs : List V} (h : KTup K a vs) (r : RVs ι B H xs vs) : RV ι B H (.tup xs) (.ref a)
  | lst {xs : List PV} {a : Addr} {vs : List V} (h : H a = some (.lst vs)) (hb : ¬ B a) (r : RVs ι B H xs vs) : RV ι B H (.lst xs) (.ref a)
  | scr {ns : List Int} {a : Addr} {o : Obj} (h : H a = some (.frz o (.lst (ns.map V.int)))) (hb : ¬ B a) : RV ι B H (.scr ns) (.ref a)
  | kscr {ns : List Int} {a : Addr} (h : KLst K a (ns.map V.int)) : RV ι B H (.scr ns) (.ref a)
  | dct {kvs : List (PV × PV)} {a : Addr} {ks : List (Key × V)} (h : H a = some (.dK ks)) (hb : ¬ B a) (r : RKs ι B H kvs ks) : RV ι B H (.dct kvs) (.ref a)
  | obj {c : Nat} {fs : List PV} {a dx : Addr} {vs : List (Option V)} (h : H a = some (SlX.SlO a (CA c) dx vs)) (h2 : H dx = some (.xd [])) (hb : ¬ B a) (hd : ¬ B dx) (r : RFs ι B H fs vs) : RV ι B H (.obj c fs) (.ref a)
inductive RVs (ι : List Addr) (B : Addr → Prop) (H : Hp) : List PV → List V → Prop
  | nil : RVs ι B H [] []
  | cons {x : PV} {v : V} {xs : List PV} {vs : List V} (h : RV ι B H x v) (r : RVs ι B H xs vs) : RVs ι B H (x :: xs) (v :: vs)
inductive RKs (ι : List Addr) (B : Addr → Prop) (H : Hp) : List (PV × PV) → List (Key × V) → Prop
  | nil : RKs ι B H [] []
  | cons {k : PV} {q : Key} {x : PV} {v : V} {xs : List (PV × PV)} {vs : List (Key × V)} (hk : keyS k = some q) (h : RV ι B H x v) (r : RKs ι B H xs vs) : RKs ι B H ((k, x) :: xs) ((q, v) :: vs)
inductive RFs (ι : List Addr) (B : Addr → Prop) (H : Hp) : List PV → List (Option V) → Prop
  | nil {vs : List (Option V)} : RFs ι B H [] vs
  | cons {x : PV} {v : V} {xs : List PV} {vs : List (Option V)} (h : RV ι B H x v) (r : RFs ι B H xs vs) : RFs ι B H (x :: xs) (some v :: vs)
end
end

/-- more addresses behind the elder ones -/
def Pre (ι ι' : List Addr) : Prop := ∀ (n : Nat) (a : Addr), ι[n]? = some a → ι'[n]? = some a
theorem Pre.refl (ι : List Addr) : Pre ι ι := fun _ _ h => h
theorem Pre.trans {a b c : List Addr} (x : Pre a b) (y : Pre b c) : Pre a c := fun n d h => y n d (x n d h)
theorem Pre.nil (ι : List Addr) : Pre [] ι := fun n a h => by simp at h
theorem Pre.snoc (ι : List Addr) (p : Addr) : Pre ι (ι ++ [p]) := fun n a h => by
  have hl := (List.getElem?_eq_some_iff.mp h).1
  rw [List.getElem?_append_left hl]
  exact h
/-- what is not barred stays, and stays not barred -/
def Keep (B : Addr → Prop) (H : Hp) (B' : Addr → Prop) (H' : Hp) : Prop := ∀ a o, H a = some o → ¬ B a → H' a = some o ∧ ¬ B' a
theorem Keep.refl (B : Addr → Prop) (H : Hp) : Keep B H B H := fun _ _ h b => ⟨h, b⟩
theorem Keep.trans {B B1 B2 : Addr → Prop} {H H1 H2 : Hp} (x : Keep B H B1 H1) (y : Keep B1 H1 B2 H2) : Keep B H B2 H2 := fun a o h b => let ⟨h1, b1⟩ := x a o h b; y a o h1 b1

section
variable {K : PySem.W.Frag} {CA : Nat → Addr} {ι ι' : List Addr} {B B' : Addr → Prop} {H H' : Hp}
theorem Rd.keep {a : Addr} {u : HO} (k : Keep B H B' H') (h : Rd H a u) (b : ¬ B a) : Rd H' a u ∧ ¬ B' a := by
  rcases h with h | ⟨o, h⟩
  · exact ⟨.inl (k a _ h b).1, (k a _ h b).2⟩
  · exact ⟨.inr ⟨o, (k a _ h b).1⟩, (k a _ h b).2⟩
mutual
theorem RV.mono (k : Keep B H B' H') (p : Pre ι ι') : ∀ {x : PV} {v : V}, RV K CA ι B H x v → RV K CA ι' B' H' x v
  | _, _, .non => .non
  | _, _, .bl b => .bl b
  | _, _, .int i => .int i
  | _, _, .str x => .str x
  | _, _, .ref h => .ref (p _ _ h)
  | _, _, .tup h b r => .tup (k _ _ h b).1 (k _ _ h b).2 (RVs.mono k p r)
  | _, _, .ktup h r => .ktup h (RVs.mono k p r)
  | _, _, .lst h b r => .lst (k _ _ h b).1 (k _ _ h b).2 (RVs.mono k p r)
  | _, _, .scr h b => .scr (k _ _ h b).1 (k _ _ h b).2
  | _, _, .kscr h => .kscr h
  | _, _, .dct h b r => .dct (k _ _ h b).1 (k _ _ h b).2 (RKs.mono k p r)
  | _, _, .obj h h2 b d r => .obj (k _ _ h b).1 (k _ _ h2 d).1 (k _ _ h b).2 (k _ _ h2 d).2 (RFs.mono k p r)
theorem RVs.mono (k : Keep B H B' H') (p : Pre ι ι') : ∀ {xs : List PV} {vs : List V}, RVs K CA ι B H xs vs → RVs K CA ι' B' H' xs vs
  | _, _, .nil => .nil
  | _, _, .cons h r => .cons (RV.mono k p h) (RVs.mono k p r)
theorem RKs.mono (k : Keep B H B' H') (p : Pre ι ι') : ∀ {xs : List (PV × PV)} {vs : List (Key × V)}, RKs K CA ι B H xs vs → RKs K CA ι' B' H' xs vs
  | _, _, .nil => .nil
  | _, _, .cons q h r => .cons q (RV.mono k p h) (RKs.mono k p r)
theorem RFs.mono (k : Keep B H B' H') (p : Pre ι ι') : ∀ {xs : List PV} {vs : List (Option V)}, RFs K CA ι B H xs vs → RFs K CA ι' B' H' xs vs
  | _, _, .nil => .nil
  | _, _, .cons h r => .cons (RV.mono k p h) (RFs.mono k p r)
end
theorem RVs.length : ∀ {xs : List PV} {vs : List V}, RVs K CA ι B H xs vs → xs.length = vs.length
  | _, _, .nil => rfl
  | _, _, .cons _ r => congrArg (· + 1) (RVs.length r)
theorem RVs.get : ∀ {xs : List PV} {vs : List V} {i : Nat} {x : PV}, RVs K CA ι B H xs vs → xs[i]? = some x → ∃ v, vs[i]? = some v ∧ RV K CA ι B H x v
  | _, _, _, _, .nil, e => by simp at e
  | _, _, 0, _, .cons h _, e => by
    simp at e
    subst e
    exact ⟨_, rfl, h⟩
  | _, _, i + 1, _, .cons _ r, e => by
    obtain ⟨v, e2, h⟩ := RVs.get (i := i) r (by simpa using e)
    exact ⟨v, by simpa using e2, h⟩
theorem RVs.gone : ∀ {xs : List PV} {vs : List V} {i : Nat}, RVs K CA ι B H xs vs → xs[i]? = none → vs[i]? = none := fun {xs vs i} r e => by
  have h1 := r.length
  have h2 : xs.length ≤ i := List.getElem?_eq_none_iff.mp e
  exact List.getElem?_eq_none_iff.mpr (by omega)
theorem RVs.append : ∀ {xs ys : List PV} {vs ws : List V}, RVs K CA ι B H xs vs → RVs K CA ι B H ys ws → RVs K CA ι B H (xs ++ ys) (vs ++ ws)
  | _, _, _, _, .nil, s => s
  | _, _, _, _, .cons h r, s => .cons h (RVs.append r s)
theorem RVs.take : ∀ {xs : List PV} {vs : List V} (n : Nat), RVs K CA ι B H xs vs → RVs K CA ι B H (xs.take n) (vs.take n)
  | _, _, 0, _ => by simpa using RVs.nil
  | _, _, _ + 1, .nil => by simpa using RVs.nil
  | _, _, n + 1, .cons h r => by simpa using RVs.cons h (RVs.take n r)
theorem RVs.drop : ∀ {xs : List PV} {vs : List V} (n : Nat), RVs K CA ι B H xs vs → RVs K CA ι B H (xs.drop n) (vs.drop n)
  | _, _, 0, r => by simpa using r
  | _, _, _ + 1, .nil => by simpa using RVs.nil
  | _, _, n + 1, .cons _ r => by simpa using RVs.drop n r
theorem RVs.set : ∀ {xs : List PV} {vs : List V} {x : PV} {v : V} (n : Nat), RVs K CA ι B H xs vs → RV K CA ι B H x v → RVs K CA ι B H (xs.set n x) (vs.set n v)
  | _, _, _, _, _, .nil, _ => by simpa using RVs.nil
  | _, _, _, _, 0, .cons _ r, h => by simpa using RVs.cons h r
  | _, _, _, _, n + 1, .cons q r, h => by simpa using RVs.cons q (RVs.set n r h)
theorem RVs.rep {x : PV} {v : V} (h : RV K CA ι B H x v) : ∀ n, RVs K CA ι B H (List.replicate n x) (List.replicate n v)
  | 0 => .nil
  | n + 1 => .cons h (RVs.rep h n)
theorem RVs.flatRep {xs : List PV} {vs : List V} (h : RVs K CA ι B H xs vs) : ∀ n, RVs K CA ι B H (List.replicate n xs).flatten (List.replicate n vs).flatten
  | 0 => .nil
  | n + 1 => by
    rw [List.replicate_succ, List.replicate_succ, List.flatten_cons, List.flatten_cons]
    exact h.append (RVs.flatRep h n)
theorem RVs.ints : ∀ (is : List Int), RVs K CA ι B H (is.map PV.int) (is.map V.int)
  | [] => .nil
  | i :: is => .cons (.int i) (RVs.ints is)
theorem RVs.cut {xs : List PV} {vs : List V} (r : RVs K CA ι B H xs vs) (lo hi : Option Int) : RVs K CA ι B H (cutL xs lo hi) (cutL vs lo hi) := by
  unfold cutL
  rw [← r.length]
  exact (r.drop _).take _
end

end Mp
end

section
set_option Elab.async false
set_option linter.all false
set_option maxRecDepth 100000
/-! Mp2: a def's small heap in the abstract heap; what a reading by the evaluator is. -/
namespace Mp
open PySem PySem.Spec PyProof.Rows L2

def bar (F Z : Addr → Prop) : Addr → Prop := fun a => F a ∨ Z a

/-- from one state to a later one: what was not one's own stays; what is one's own now was so, or is new -/
structure Step (Z : Addr → Prop) (H : Hp) (Z' : Addr → Prop) (H' : Hp) : Prop where
  keep : ∀ a o, H a = some o → ¬ Z a → H' a = some o
  own : ∀ a, Z' a → Z a ∨ H a = none
  there : ∀ a o, H a = some o → ∃ o', H' a = some o'
theorem Step.refl (Z : Addr → Prop) (H : Hp) : Step Z H Z H := ⟨fun _ _ h _ => h, fun _ h => .inl h, fun _ o h => ⟨o, h⟩⟩
theorem Step.trans {Z Z1 Z2 : Addr → Prop} {H H1 H2 : Hp} (x : Step Z H Z1 H1) (y : Step Z1 H1 Z2 H2) : Step Z H Z2 H2 where
  keep := fun a o h z => y.keep a o (x.keep a o h z) fun z1 => (x.own a z1).elim z fun e => by
    rw [e] at h
    cases h
  own := fun a z => (y.own a z).elim (fun z1 => x.own a z1) fun e => by
    cases q : H a with
    | none => exact .inr rfl
    | some o =>
      obtain ⟨o', e'⟩ := x.there a o q
      rw [e] at e'
      cases e'
  there := fun a o h => let ⟨o1, h1⟩ := x.there a o h; y.there a o1 h1
theorem Step.bars {F Z Z' : Addr → Prop} {H H' : Hp} (s : Step Z H Z' H') : Keep (bar F Z) H (bar F Z') H' := fun a o h b => by
  have hz : ¬ Z a := fun z => b (.inr z)
  refine ⟨s.keep a o h hz, fun b' => ?_⟩
  rcases b' with f | z
  · exact b (.inl f)
  · rcases s.own a z with z | e
    · exact hz z
    · rw [e] at h
      cases h
/-- all stays, what is one's own too -/
theorem Step.ext {Z : Addr → Prop} {H H' : Hp} (k : ∀ a o, H a = some o → H' a = some o) : Step Z H Z H' := ⟨fun a o h _ => k a o h, fun _ h => .inl h, fun a o h => ⟨o, k a o h⟩⟩
theorem upd_ext {H : Hp} {p : Addr} {o : HO} (hp : H p = none) : ∀ a u, H a = some u → upd H p o a = some u := fun a u h => by
  rw [upd_ne (ne_of_none h hp)]
  exact h

section
variable (K : PySem.W.Frag) (CA : Nat → Addr)
/-- an object of the small heap at its address -/
def RO (ι : List Addr) (F Z : Addr → Prop) (H : Hp) : MO → Addr → Prop
  | .lst xs, a => Z a ∧ ∃ vs, H a = some (.lst vs) ∧ RVs K CA ι (bar F Z) H xs vs
  | .dct kvs, a => Z a ∧ ∃ ks, H a = some (.dK ks) ∧ RKs K CA ι (bar F Z) H kvs ks
  | .ins c fs, a => Z a ∧ ∃ dx vs, dx ≠ a ∧ ((H a = some (.ins (CA c) dx []) ∧ vs = [] ∧ fs = [] ∧ H dx = some (.own a) ∧ Z dx) ∨ (H a = some (SlX.SlO a (CA c) dx vs) ∧ H dx = some (.xd []) ∧ ¬ bar F Z dx)) ∧
      ∀ (i : Nat) (f : PV), fs[i]? = some (some f) → ∃ v, vs[i]? = some (some v) ∧ RV K CA ι (bar F Z) H f v
  | .frz w, a => (∃ o, H a = some o) ∧ ¬ bar F Z a ∧ RV K CA [] (bar F Z) H w (.ref a)
structure Sim (F : Addr → Prop) (ι : List Addr) (Z : Addr → Prop) (M : MH) (H : Hp) : Prop where
  len : ι.length = M.length
  nd : ι.Nodup
  obj : ∀ (n : Nat) (o : MO), M[n]? = some o → ∃ a, ι[n]? = some a ∧ RO K CA ι F Z H o a
  zt : ∀ a, Z a → ∃ o, H a = some o
  ft : ∀ a, F a → ∃ o, H a = some o
  zf : ∀ a, Z a → ¬ F a
  it : ∀ a, a ∈ ι → ∃ o, H a = some o
def LR (ι : List Addr) (B : Addr → Prop) (H : Hp) (ρ : Rho) (σ : L2.St) : Prop :=
  ρ.length = σ.length ∧ ∀ (i : Nat) (x : PV), ρ[i]? = some (some x) → ∃ v, σ[i]? = some (some v) ∧ RV K CA ι B H x v
end

section
variable {K : PySem.W.Frag} {CA : Nat → Addr} {ι ι' : List Addr} {F Z Z' : Addr → Prop} {H H' : Hp} {M : MH} {ρ : Rho} {σ : L2.St}
theorem LR.mono {B B' : Addr → Prop} (k : Keep B H B' H') (p : Pre ι ι') (l : LR K CA ι B H ρ σ) : LR K CA ι' B' H' ρ σ :=
  ⟨l.1, fun i x e => let ⟨v, e2, r⟩ := l.2 i x e; ⟨v, e2, r.mono k p⟩⟩
theorem LR.set {B : Addr → Prop} (l : LR K CA ι B H ρ σ) (i : Nat) {x : PV} {v : V} (r : RV K CA ι B H x v) : LR K CA ι B H (ρ.set i (some x)) (σ.set i (some v)) := by
  refine ⟨by simpa using l.1, fun j y e => ?_⟩
  by_cases hj : j = i
  · subst hj
    have hlt : j < ρ.length := by simpa using (List.getElem?_eq_some_iff.mp e).1
    rw [List.getElem?_set_self hlt] at e
    cases e
    exact ⟨v, by rw [List.getElem?_set_self (by rw [← l.1]; exact hlt)], r⟩
  · rw [List.getElem?_set_ne (Ne.symm hj)] at e
    rw [List.getElem?_set_ne (Ne.symm hj)]
    exact l.2 j y e
theorem LR.wipe {B : Addr → Prop} (l : LR K CA ι B H ρ σ) : ∀ vs : List Nat, LR K CA ι B H (wipeR ρ vs) (L2.wipe σ vs)
  | [] => l
  | v :: vs => by
    have ih := LR.wipe l vs
    refine ⟨by unfold wipeR L2.wipe; simpa using ih.1, fun j y e => ?_⟩
    unfold wipeR at e
    unfold L2.wipe
    by_cases hj : v = j
    · subst hj
      by_cases hlt : v < (wipeR ρ vs).length
      · rw [List.getElem?_set_self hlt] at e
        cases e
      · rw [List.getElem?_eq_none (by simpa using hlt)] at e
        cases e
    · rw [List.getElem?_set_ne hj] at e ⊢
      exact ih.2 j y e
/-- an object that stays where it is -/
theorem RO.mono {o : MO} {a : Addr} (s : Step Z H Z' H') (p : Pre ι ι') (zz : ∀ b, Z b → Z' b) (same : ∀ b u, H b = some u → Z b → H' b = some u) (r : RO K CA ι F Z H o a) : RO K CA ι' F Z' H' o a := by
  have k := s.bars (F := F)
  cases o with
  | lst xs =>
    obtain ⟨z, vs, h, r⟩ := r
    exact ⟨zz a z, vs, same a _ h z, r.mono k p⟩
  | dct kvs =>
    obtain ⟨z, ks, h, r⟩ := r
    exact ⟨zz a z, ks, same a _ h z, r.mono k p⟩
  | ins c fs =>
    obtain ⟨z, dx, vs, ne, h, r⟩ := r
    refine ⟨zz a z, dx, vs, ne, ?_, fun i f e => let ⟨v, e2, q⟩ := r i f e; ⟨v, e2, q.mono k p⟩⟩
    rcases h with ⟨h1, h2, h3, h4, zd⟩ | ⟨h1, h2, nb⟩
    · exact .inl ⟨same a _ h1 z, h2, h3, same dx _ h4 zd, zz dx zd⟩
    · exact .inr ⟨same a _ h1 z, (k dx _ h2 nb).1, (k dx _ h2 nb).2⟩
  | frz w =>
    obtain ⟨⟨u, hu⟩, nb, r⟩ := r
    obtain ⟨h1, h2⟩ := k a u hu nb
    exact ⟨⟨u, h1⟩, h2, RV.mono k (Pre.refl []) r⟩
/-- more is known of the heap -/
theorem Sim.ext (S : Sim K CA F ι Z M H) (k : ∀ a o, H a = some o → H' a = some o) : Sim K CA F ι Z M H' where
  len := S.len
  nd := S.nd
  obj := fun n o e => let ⟨a, e2, r⟩ := S.obj n o e; ⟨a, e2, r.mono (Step.ext k) (Pre.refl ι) (fun _ z => z) fun b u h _ => k b u h⟩
  zt := fun a z => let ⟨o, h⟩ := S.zt a z; ⟨o, k a o h⟩
  ft := fun a z => let ⟨o, h⟩ := S.ft a z; ⟨o, k a o h⟩
  zf := S.zf
  it := fun a z => let ⟨o, h⟩ := S.it a z; ⟨o, k a o h⟩
/-- a new object of the small heap, at p -/
theorem Sim.push (S : Sim K CA F ι Z M H) {p : Addr} {u : HO} {o : MO} (hp : H p = none)
    (r : RO K CA (ι ++ [p]) F (fun a => Z a ∨ a = p) (upd H p u) o p) : Sim K CA F (ι ++ [p]) (fun a => Z a ∨ a = p) (M ++ [o]) (upd H p u) ∧ Step Z H (fun a => Z a ∨ a = p) (upd H p u) := by
  have st : Step Z H (fun a => Z a ∨ a = p) (upd H p u) := ⟨fun a o h _ => upd_ext hp a o h, fun a h => h.elim .inl fun e => .inr (by rw [e]; exact hp), fun a o h => ⟨o, upd_ext hp a o h⟩⟩
  refine ⟨⟨by simp [S.len], ?_, fun n o' e => ?_, fun a z => ?_, fun a z => ?_, fun a z => ?_, fun a z => ?_⟩, st⟩
  · rw [List.nodup_append]
    refine ⟨S.nd, by simp, fun a ha b hb => ?_⟩
    have e : b = p := by simpa using hb
    subst e
    obtain ⟨o, h⟩ := S.it a ha
    exact ne_of_none h hp
  · by_cases hn : n < M.length
    · rw [List.getElem?_append_left hn] at e
      obtain ⟨a, e2, q⟩ := S.obj n o' e
      exact ⟨a, Pre.snoc ι p n a e2, q.mono st (Pre.snoc ι p) (fun _ z => .inl z) fun b v h _ => upd_ext hp b v h⟩
    · have e1 : n = M.length := by
        have h2 := (List.getElem?_eq_some_iff.mp e).1
        simp only [List.length_append, List.length_cons, List.length_nil] at h2
        omega
      subst e1
      have e3 : o' = o := by simpa using e.symm
      subst e3
      exact ⟨p, by rw [← S.len]; simp, r⟩
  · rcases z with z | z
    · obtain ⟨o', h⟩ := S.zt a z
      exact ⟨o', upd_ext hp a o' h⟩
    · exact ⟨u, by rw [z]; exact upd_same⟩
  · obtain ⟨o', h⟩ := S.ft a z
    exact ⟨o', upd_ext hp a o' h⟩
  · intro f
    rcases z with z | z
    · exact S.zf a z f
    · obtain ⟨o', h⟩ := S.ft a f
      rw [z, hp] at h
      cases h
  · rcases List.mem_append.mp z with z | z
    · obtain ⟨o', h⟩ := S.it a z
      exact ⟨o', upd_ext hp a o' h⟩
    · have e : a = p := by simpa using z
      exact ⟨u, by rw [e]; exact upd_same⟩

theorem RO.mono1 {o : MO} {a p : Addr} (s : Step Z H Z' H') (q : Pre ι ι') (zz : ∀ b, Z b → Z' b) (ne : a ≠ p) (nk : ∀ u, H p = some u → (∀ y, u ≠ .own y) ∧ u ≠ .xd [])
    (same : ∀ b u, H b = some u → b ≠ p → H' b = some u) (r : RO K CA ι F Z H o a) : RO K CA ι' F Z' H' o a := by
  have k := s.bars (F := F)
  cases o with
  | lst xs =>
    obtain ⟨z, vs, h, r⟩ := r
    exact ⟨zz a z, vs, same a _ h ne, r.mono k q⟩
  | dct kvs =>
    obtain ⟨z, ks, h, r⟩ := r
    exact ⟨zz a z, ks, same a _ h ne, r.mono k q⟩
  | ins c fs =>
    obtain ⟨z, dx, vs, ned, h, r⟩ := r
    refine ⟨zz a z, dx, vs, ned, ?_, fun i f e => let ⟨v, e2, t⟩ := r i f e; ⟨v, e2, t.mono k q⟩⟩
    rcases h with ⟨h1, h2, h3, h4, zd⟩ | ⟨h1, h2, nb⟩
    · exact .inl ⟨same a _ h1 ne, h2, h3, same dx _ h4 fun e => (nk _ (by rw [← e]; exact h4)).1 _ rfl, zz dx zd⟩
    · exact .inr ⟨same a _ h1 ne, (k dx _ h2 nb).1, (k dx _ h2 nb).2⟩
  | frz w =>
    obtain ⟨⟨u, hu⟩, nb, r⟩ := r
    obtain ⟨h1, h2⟩ := k a u hu nb
    exact ⟨⟨u, h1⟩, h2, RV.mono k (Pre.refl []) r⟩
/-- a list or a dict of one's own is changed -/
theorem Sim.put (S : Sim K CA F ι Z M H) {n : Nat} {a : Addr} {u : HO} {o' : MO} (hn : ι[n]? = some a) (z : Z a) (nk : ∀ u, H a = some u → (∀ y, u ≠ .own y) ∧ u ≠ .xd [])
    (r : RO K CA ι F Z (upd H a u) o' a) : Sim K CA F ι Z (M.set n o') (upd H a u) ∧ Step Z H Z (upd H a u) := by
  have same : ∀ b v, H b = some v → b ≠ a → upd H a u b = some v := fun b v h ne => by
    rw [upd_ne ne]
    exact h
  have there : ∀ b v, H b = some v → ∃ v', upd H a u b = some v' := fun b v h => by
    by_cases e : b = a
    · exact ⟨u, by rw [e]; exact upd_same⟩
    · exact ⟨v, same b v h e⟩
  have st : Step Z H Z (upd H a u) := ⟨fun b v h nz => same b v h fun e => nz (by rw [e]; exact z), fun _ h => .inl h, there⟩
  refine ⟨⟨by simpa using S.len, S.nd, fun m o e => ?_, fun b zb => let ⟨v, h⟩ := S.zt b zb; there b v h, fun b fb => let ⟨v, h⟩ := S.ft b fb; there b v h, S.zf, fun b ib => let ⟨v, h⟩ := S.it b ib; there b v h⟩, st⟩
  by_cases hm : m = n
  · subst hm
    have hlt : m < M.length := by simpa using (List.getElem?_eq_some_iff.mp e).1
    rw [List.getElem?_set_self hlt] at e
    cases e
    exact ⟨a, hn, r⟩
  · rw [List.getElem?_set_ne (Ne.symm hm)] at e
    obtain ⟨b, e2, q⟩ := S.obj m o e
    have ne : b ≠ a := fun w => by
      subst w
      have h1 := (List.getElem?_eq_some_iff.mp e2)
      have h2 := (List.getElem?_eq_some_iff.mp hn)
      obtain ⟨l1, g1⟩ := h1
      obtain ⟨l2, g2⟩ := h2
      exact hm ((List.getElem_inj S.nd).mp (g1.trans g2.symm))
    exact ⟨b, e2, q.mono1 st (Pre.refl ι) (fun _ z => z) ne nk same⟩
/-! ### what is read -/
/-- a value as it is seen, whoever may change it -/
def RW (K : PySem.W.Frag) (CA : Nat → Addr) (ι : List Addr) (B : Addr → Prop) (H : Hp) : PV → V → Prop
  | .non, v => v = .non
  | .bl b, v => v = .bl b
  | .int i, v => v = .int i
  | .str x, v => v = .str x
  | .tup xs, v => RV K CA ι B H (.tup xs) v
  | .lst xs, v => ∃ a vs, v = .ref a ∧ H a = some (.lst vs) ∧ RVs K CA ι B H xs vs
  | .scr ns, v => ∃ a, v = .ref a ∧ SqL K H a (ns.map V.int)
  | .dct kvs, v => ∃ a ks, v = .ref a ∧ H a = some (.dK ks) ∧ RKs K CA ι B H kvs ks
  | .obj c fs, v => ∃ a dx vs, v = .ref a ∧ SlX.Slt H a (CA c) dx vs ∧ RFs K CA ι B H fs vs
  | .ref _, _ => True
theorem RV.tupI {B : Addr → Prop} {xs : List PV} {v : V} (h : RV K CA ι B H (.tup xs) v) : ∃ a vs, v = .ref a ∧ SqT K H a vs ∧ RVs K CA ι B H xs vs := by
  cases h with
  | tup h b r => exact ⟨_, _, rfl, SqT.of h, r⟩
  | ktup h r => exact ⟨_, _, rfl, .inr h, r⟩
theorem RV.weak {B : Addr → Prop} {x : PV} {v : V} (h : RV K CA ι B H x v) : RW K CA ι B H x v := by
  cases h with
  | non => rfl
  | bl b => rfl
  | int i => rfl
  | str x => rfl
  | ref h => trivial
  | tup h b r => exact .tup h b r
  | ktup h r => exact .ktup h r
  | lst h b r => exact ⟨_, _, rfl, h, r⟩
  | scr h b => exact ⟨_, rfl, .inl (.inr ⟨_, h⟩)⟩
  | kscr h => exact ⟨_, rfl, .inr h⟩
  | dct h b r => exact ⟨_, _, rfl, h, r⟩
  | obj h h2 b d r => exact ⟨_, _, _, rfl, .inr ⟨h, h2⟩, r⟩
theorem Sim.view (S : Sim K CA F ι Z M H) {x : PV} {v : V} (h : RV K CA ι (bar F Z) H x v) : RW K CA ι (bar F Z) H (view M x) v := by
  cases h with
  | @ref n a e =>
    have ev : Mp.view M (.ref n) = (match M[n]? with
      | some (.lst xs) => .lst xs
      | some (.dct kvs) => .dct kvs
      | some (.frz w) => w
      | _ => .ref n) := rfl
    rw [ev]
    cases q : M[n]? with
    | none => trivial
    | some o =>
      obtain ⟨b, e2, r⟩ := S.obj n o q
      rw [e] at e2
      cases e2
      cases o with
      | lst xs =>
        obtain ⟨_, vs, h1, r⟩ := r
        exact ⟨a, vs, rfl, h1, r⟩
      | dct kvs =>
        obtain ⟨_, ks, h1, r⟩ := r
        exact ⟨a, ks, rfl, h1, r⟩
      | ins c fs => trivial
      | frz w =>
        have r' : RV K CA [] (bar F Z) H w (.ref a) := r.2.2
        exact RV.weak (r'.mono (Keep.refl _ _) (Pre.nil ι))
  | non => rfl
  | bl b => rfl
  | int i => rfl
  | str x => rfl
  | tup h b r => exact .tup h b r
  | ktup h r => exact .ktup h r
  | lst h b r => exact ⟨_, _, rfl, h, r⟩
  | scr h b => exact ⟨_, rfl, .inl (.inr ⟨_, h⟩)⟩
  | kscr h => exact ⟨_, rfl, .inr h⟩
  | dct h b r => exact ⟨_, _, rfl, h, r⟩
  | obj h h2 b d r => exact ⟨_, _, _, rfl, .inr ⟨h, h2⟩, r⟩
theorem Sim.readL (S : Sim K CA F ι Z M H) {x : PV} {v : V} {xs : List PV} (h : RV K CA ι (bar F Z) H x v) (e : readL M x = some xs) :
    ∃ a vs, v = .ref a ∧ (SqL K H a vs ∨ SqT K H a vs) ∧ RVs K CA ι (bar F Z) H xs vs := by
  have w := S.view h
  unfold Mp.readL at e
  cases q : Mp.view M x <;> rw [q] at e w <;> try cases e
  · obtain ⟨a, vs, h1, h2, h3⟩ := RV.tupI w
    exact ⟨a, vs, h1, .inr h2, h3⟩
  · obtain ⟨a, vs, h1, h2, h3⟩ := w
    exact ⟨a, vs, h1, .inl (SqL.of h2), h3⟩
  · obtain ⟨a, h1, h2⟩ := w
    exact ⟨a, _, h1, .inl h2, RVs.ints _⟩
/-! ### readings by the evaluator -/
section
variable {α β γ δ : Type}
/-- what is known of an end: F the addresses of others, ι, Z, H as they were ahead; R how a result lies; W what is wished of an exception -/
def PostO (K : PySem.W.Frag) (CA : Nat → Addr) (EX : PX → List Addr → (Addr → Prop) → Hp → Value → Option Addr → Prop) (W : Value → Option Addr → Hp → Prop) (R : List Addr → (Addr → Prop) → Hp → α → β → Prop)
    (F : Addr → Prop) (ι : List Addr) (Z : Addr → Prop) (H : Hp) (o : Out α) (Q : β → Hp → Prop) : Prop :=
  match o with
  | .val a M' => ∀ ι' Z' H' b, Pre ι ι' → Step Z H Z' H' → Sim K CA F ι' Z' M' H' → R ι' (bar F Z') H' a b → Q b H'
  | .exc x M' => ∀ ι' Z' H' cls d, Pre ι ι' → Step Z H Z' H' → Sim K CA F ι' Z' M' H' → EX x ι' (bar F Z') H' cls d → W cls d H'
  | .stuck => False
variable {EX : PX → List Addr → (Addr → Prop) → Hp → Value → Option Addr → Prop} {W : Value → Option Addr → Hp → Prop} {R : List Addr → (Addr → Prop) → Hp → α → β → Prop} {R' : List Addr → (Addr → Prop) → Hp → γ → δ → Prop}
theorem PostO.imp {o : Out α} {Q Q' : β → Hp → Prop} (p : PostO K CA EX W R F ι Z H o Q) (h : ∀ b H', Q b H' → Q' b H') : PostO K CA EX W R F ι Z H o Q' := by
  cases o with
  | val a M' => exact fun ι' Z' H' b x y z w => h _ _ (p ι' Z' H' b x y z w)
  | exc x M' => exact p
  | stuck => exact p
/-- told of a later state -/
theorem PostO.later {o : Out α} {Q : β → Hp → Prop} (p : PostO K CA EX W R F ι Z H o Q) (q : Pre ι ι') (s : Step Z H Z' H') : PostO K CA EX W R F ι' Z' H' o Q := by
  cases o with
  | val a M' => exact fun ι2 Z2 H2 b x y z w => p ι2 Z2 H2 b (q.trans x) (s.trans y) z w
  | exc x M' => exact fun ι2 Z2 H2 c d x y z w => p ι2 Z2 H2 c d (q.trans x) (s.trans y) z w
  | stuck => exact p
theorem PostO.bind {o : Out α} {k : α → MH → Out γ} {Q : δ → Hp → Prop} (p : PostO K CA EX W R' F ι Z H (o.bind k) Q) :
    PostO K CA EX W R F ι Z H o fun b H1 => ∃ ι1 Z1 M1 a, Pre ι ι1 ∧ Step Z H Z1 H1 ∧ Sim K CA F ι1 Z1 M1 H1 ∧ R ι1 (bar F Z1) H1 a b ∧ PostO K CA EX W R' F ι1 Z1 H1 (k a M1) Q := by
  cases o with
  | val a M' => exact fun ι' Z' H' b x y z w => ⟨ι', Z', M', a, x, y, z, w, PostO.later (o := k a M') p x y⟩
  | exc x M' => exact p
  | stuck => exact p
end
end
end Mp
end

section
set_option Elab.async false
set_option linter.all false
set_option maxRecDepth 100000
/-! Mp3: freezing. -/
namespace Mp
open PySem PySem.Spec PyProof.Rows L2
section
variable {K : PySem.W.Frag} {CA : Nat → Addr} {ι : List Addr} {F Z : Addr → Prop} {H : Hp} {M : MH}
theorem Keep.less {Z' : Addr → Prop} (h : ∀ a, Z' a → Z a) : Keep (bar F Z) H (bar F Z') H := fun a o e b => ⟨e, fun b' => b (b'.elim .inl fun z => .inr (h a z))⟩
/-- an object of one's own is frozen: no one changes it any more; p, q: its addresses -/
theorem Sim.cool (S : Sim K CA F ι Z M H) {n : Nat} {a : Addr} {w : PV} (hn : ι[n]? = some a) (nf : ¬ F a) (r : RV K CA [] (bar F (fun b => Z b ∧ b ≠ a)) H w (.ref a))
    (live : ∃ o, M[n]? = some o) (nk : ∀ u, H a = some u → (∀ y, u ≠ .own y)) : Sim K CA F ι (fun b => Z b ∧ b ≠ a) (M.set n (.frz w)) H := by
  have le : ∀ b, (Z b ∧ b ≠ a) → Z b := fun _ h => h.1
  have kp : Keep (bar F Z) H (bar F (fun b => Z b ∧ b ≠ a)) H := Keep.less le
  refine ⟨by simpa using S.len, S.nd, fun m o e => ?_, fun b z => S.zt b z.1, S.ft, fun b z => S.zf b z.1, S.it⟩
  by_cases hm : m = n
  · subst hm
    have hlt : m < M.length := by simpa using (List.getElem?_eq_some_iff.mp e).1
    rw [List.getElem?_set_self hlt] at e
    cases e
    exact ⟨a, hn, S.it a (List.mem_of_getElem? hn), fun b => b.elim nf fun z => z.2 rfl, r⟩
  · rw [List.getElem?_set_ne (Ne.symm hm)] at e
    obtain ⟨b, e2, q⟩ := S.obj m o e
    have ne : b ≠ a := fun w => by
      subst w
      obtain ⟨l1, g1⟩ := List.getElem?_eq_some_iff.mp e2
      obtain ⟨l2, g2⟩ := List.getElem?_eq_some_iff.mp hn
      exact hm ((List.getElem_inj S.nd).mp (g1.trans g2.symm))
    refine ⟨b, e2, ?_⟩
    cases o with
    | lst xs =>
      obtain ⟨z, vs, h, r⟩ := q
      exact ⟨⟨z, ne⟩, vs, h, r.mono kp (Pre.refl ι)⟩
    | dct kvs =>
      obtain ⟨z, ks, h, r⟩ := q
      exact ⟨⟨z, ne⟩, ks, h, r.mono kp (Pre.refl ι)⟩
    | ins c fs =>
      obtain ⟨z, dx, vs, ned, h, r⟩ := q
      refine ⟨⟨z, ne⟩, dx, vs, ned, ?_, fun i f e => let ⟨v, e2, t⟩ := r i f e; ⟨v, e2, t.mono kp (Pre.refl ι)⟩⟩
      rcases h with ⟨h1, h2, h3, h4, zd⟩ | ⟨h1, h2, nb⟩
      · exact .inl ⟨h1, h2, h3, h4, zd, fun e => nk _ (by rw [← e]; exact h4) _ rfl⟩
      · exact .inr ⟨h1, h2, fun b' => nb (b'.elim .inl fun z => .inr z.1)⟩
    | frz w =>
      obtain ⟨⟨u, hu⟩, nb, q⟩ := q
      obtain ⟨h1, h2⟩ := kp b u hu nb
      exact ⟨⟨u, h1⟩, h2, RV.mono (K := K) (CA := CA) kp (Pre.refl []) q⟩
/-- what a frozen value leaves -/
def Frz (K : PySem.W.Frag) (CA : Nat → Addr) (F : Addr → Prop) (ι : List Addr) (Z : Addr → Prop) (M' : MH) (H : Hp) (R : (Addr → Prop) → Prop) : Prop := ∃ Z' : Addr → Prop, (∀ a, Z' a → Z a) ∧ Sim K CA F ι Z' M' H ∧ R (bar F Z')
theorem frzL_ok {f : MH → PV → Option (PV × MH)}
    (hf : ∀ {Z : Addr → Prop} {M M' : MH} {x y : PV} {v : V}, Sim K CA F ι Z M H → RV K CA ι (bar F Z) H x v → f M x = some (y, M') → Frz K CA F ι Z M' H fun B => RV K CA [] B H y v) :
    ∀ {xs ys : List PV} {vs : List V} {Z : Addr → Prop} {M M' : MH}, Sim K CA F ι Z M H → RVs K CA ι (bar F Z) H xs vs → frzL f M xs = some (ys, M') → Frz K CA F ι Z M' H fun B => RVs K CA [] B H ys vs
  | [], ys, vs, Z, M, M', S, r, e => by
    cases r
    cases e
    exact ⟨Z, fun _ h => h, S, .nil⟩
  | x :: xs, ys, vs, Z, M, M', S, r, e => by
    cases r with
    | @cons _ v _ vs h r =>
      unfold frzL at e
      cases q : f M x with
      | none =>
        rw [q] at e
        cases e
      | some p =>
        obtain ⟨y, M1⟩ := p
        rw [q] at e
        dsimp only at e
        obtain ⟨Z1, le1, S1, r1⟩ := hf S h q
        cases q2 : frzL f M1 xs with
        | none =>
          rw [q2] at e
          cases e
        | some p =>
          obtain ⟨zs, M2⟩ := p
          rw [q2] at e
          cases e
          obtain ⟨Z2, le2, S2, r2⟩ := frzL_ok hf S1 (r.mono (Keep.less le1) (Pre.refl ι)) q2
          exact ⟨Z2, fun a z => le1 a (le2 a z), S2, .cons (r1.mono (Keep.less le2) (Pre.refl [])) r2⟩
theorem frzD_ok {f : MH → PV → Option (PV × MH)} (hk : ∀ {M M' : MH} {x y : PV} {q : Key}, keyS x = some q → f M x = some (y, M') → y = x ∧ M' = M)
    (hf : ∀ {Z : Addr → Prop} {M M' : MH} {x y : PV} {v : V}, Sim K CA F ι Z M H → RV K CA ι (bar F Z) H x v → f M x = some (y, M') → Frz K CA F ι Z M' H fun B => RV K CA [] B H y v) :
    ∀ {xs ys : List (PV × PV)} {vs : List (Key × V)} {Z : Addr → Prop} {M M' : MH}, Sim K CA F ι Z M H → RKs K CA ι (bar F Z) H xs vs → frzD f M xs = some (ys, M') → Frz K CA F ι Z M' H fun B => RKs K CA [] B H ys vs
  | [], ys, vs, Z, M, M', S, r, e => by
    cases r
    cases e
    exact ⟨Z, fun _ h => h, S, .nil⟩
  | (k, x) :: xs, ys, vs, Z, M, M', S, r, e => by
    cases r with
    | @cons _ kq _ v _ vs hq h r =>
      unfold frzD at e
      cases q0 : f M k with
      | none =>
        rw [q0] at e
        cases e
      | some p0 =>
        obtain ⟨k', M0⟩ := p0
        obtain ⟨e1, e2⟩ := hk hq q0
        subst e1 e2
        rw [q0] at e
        dsimp only at e
        cases q : f M0 x with
        | none =>
          rw [q] at e
          cases e
        | some p =>
          obtain ⟨y, M1⟩ := p
          rw [q] at e
          dsimp only at e
          obtain ⟨Z1, le1, S1, r1⟩ := hf S h q
          cases q2 : frzD f M1 xs with
          | none =>
            rw [q2] at e
            cases e
          | some p =>
            obtain ⟨zs, M2⟩ := p
            rw [q2] at e
            cases e
            obtain ⟨Z2, le2, S2, r2⟩ := frzD_ok hk hf S1 (r.mono (Keep.less le1) (Pre.refl ι)) q2
            exact ⟨Z2, fun a z => le1 a (le2 a z), S2, .cons hq (r1.mono (Keep.less le2) (Pre.refl [])) r2⟩
theorem RFs.list : ∀ {ι : List Addr} {B : Addr → Prop} {fs : List PV} {vs : List (Option V)}, RFs K CA ι B H fs vs → ∃ ws, RVs K CA ι B H fs ws ∧ ∀ {ι' : List Addr} {B' : Addr → Prop} {gs : List PV}, RVs K CA ι' B' H gs ws → RFs K CA ι' B' H gs vs
  | _, _, _, _, .nil => ⟨[], .nil, fun r => by cases r; exact .nil⟩
  | _, _, _, _, .cons h r => by
    obtain ⟨ws, r1, back⟩ := RFs.list r
    exact ⟨_ :: ws, .cons h r1, fun q => by
      cases q with
      | cons h' q => exact .cons h' (back q)⟩
theorem allSome_get : ∀ {fs : List (Option PV)} {gs : List PV}, allSome fs = some gs → ∀ (i : Nat) (g : PV), gs[i]? = some g → fs[i]? = some (some g)
  | [], gs, e, i, g, h => by
    cases e
    simp at h
  | none :: r, gs, e, i, g, h => by cases e
  | some x :: r, gs, e, i, g, h => by
    unfold allSome at e
    cases q : allSome r with
    | none =>
      rw [q] at e
      cases e
    | some ys =>
      rw [q] at e
      cases e
      cases i with
      | zero => simpa using h
      | succ i =>
        have h2 : ys[i]? = some g := by simpa using h
        simpa using allSome_get q i g h2
theorem fields_rel {B : Addr → Prop} : ∀ {gs : List PV} {vs : List (Option V)}, (∀ (i : Nat) (f : PV), gs[i]? = some f → ∃ v, vs[i]? = some (some v) ∧ RV K CA ι B H f v) → RFs K CA ι B H gs vs
  | [], _, _ => .nil
  | g :: gs, vs, h => by
    obtain ⟨v, e, r⟩ := h 0 g rfl
    cases vs with
    | nil => simp at e
    | cons w vs =>
      have e2 : w = some v := by simpa using e
      subst e2
      exact .cons r (fields_rel fun i f hf => by simpa using h (i + 1) f (by simpa using hf))
theorem keyS_frz {k : Nat} {M M' : MH} {x y : PV} {q : Key} (h : keyS x = some q) (e : frz k M x = some (y, M')) : y = x ∧ M' = M := by
  cases k with
  | zero => cases e
  | succ k => cases x <;> first | (cases h; done) | (cases e; exact ⟨rfl, rfl⟩)
theorem frz_ok : ∀ (k : Nat) {Z : Addr → Prop} {M M' : MH} {x y : PV} {v : V}, Sim K CA F ι Z M H → RV K CA ι (bar F Z) H x v → frz k M x = some (y, M') → Frz K CA F ι Z M' H fun B => RV K CA [] B H y v
  | 0, _, _, _, _, _, _, _, _, e => by cases e
  | k + 1, Z, M, M', x, y, v, S, r, e => by
    have ihL := fun {xs ys vs Z M M'} => frzL_ok (K := K) (CA := CA) (F := F) (ι := ι) (H := H) (f := frz k) (fun S r e => frz_ok k S r e) (xs := xs) (ys := ys) (vs := vs) (Z := Z) (M := M) (M' := M')
    have ihD := fun {xs ys vs Z M M'} => frzD_ok (K := K) (CA := CA) (F := F) (ι := ι) (H := H) (f := frz k) (fun h e => keyS_frz h e) (fun S r e => frz_ok k S r e) (xs := xs) (ys := ys) (vs := vs) (Z := Z) (M := M) (M' := M')
    cases r with
    | non => cases e; exact ⟨Z, fun _ h => h, S, .non⟩
    | bl b => cases e; exact ⟨Z, fun _ h => h, S, .bl b⟩
    | int i => cases e; exact ⟨Z, fun _ h => h, S, .int i⟩
    | str x => cases e; exact ⟨Z, fun _ h => h, S, .str x⟩
    | @tup xs a vs h b r =>
      unfold frz at e
      cases q : frzL (frz k) M xs with
      | none => simp only [q] at e; cases e
      | some p =>
        obtain ⟨ys, M1⟩ := p
        simp only [q] at e
        cases e
        obtain ⟨Z1, le, S1, r1⟩ := ihL S r q
        exact ⟨Z1, le, S1, .tup h (fun b' => b (b'.elim .inl fun z => .inr (le _ z))) r1⟩
    | @ktup xs a vs h r =>
      unfold frz at e
      cases q : frzL (frz k) M xs with
      | none => simp only [q] at e; cases e
      | some p =>
        obtain ⟨ys, M1⟩ := p
        simp only [q] at e
        cases e
        obtain ⟨Z1, le, S1, r1⟩ := ihL S r q
        exact ⟨Z1, le, S1, .ktup h r1⟩
    | @lst xs a vs h b r =>
      unfold frz at e
      cases q : frzL (frz k) M xs with
      | none => simp only [q] at e; cases e
      | some p =>
        obtain ⟨ys, M1⟩ := p
        simp only [q] at e
        cases e
        obtain ⟨Z1, le, S1, r1⟩ := ihL S r q
        exact ⟨Z1, le, S1, .lst h (fun b' => b (b'.elim .inl fun z => .inr (le _ z))) r1⟩
    | scr h b => cases e; exact ⟨Z, fun _ h => h, S, .scr h b⟩
    | kscr h => cases e; exact ⟨Z, fun _ h => h, S, .kscr h⟩
    | @dct xs a vs h b r =>
      unfold frz at e
      cases q : frzD (frz k) M xs with
      | none => simp only [q] at e; cases e
      | some p =>
        obtain ⟨ys, M1⟩ := p
        simp only [q] at e
        cases e
        obtain ⟨Z1, le, S1, r1⟩ := ihD S r q
        exact ⟨Z1, le, S1, .dct h (fun b' => b (b'.elim .inl fun z => .inr (le _ z))) r1⟩
    | @obj c fs a dx vs h h2 b d r =>
      unfold frz at e
      cases q : frzL (frz k) M fs with
      | none => simp only [q] at e; cases e
      | some p =>
        obtain ⟨ys, M1⟩ := p
        simp only [q] at e
        cases e
        obtain ⟨ws, rw_, back⟩ := RFs.list r
        obtain ⟨Z1, le, S1, r1⟩ := ihL S rw_ q
        exact ⟨Z1, le, S1, .obj h h2 (fun b' => b (b'.elim .inl fun z => .inr (le _ z))) (fun b' => d (b'.elim .inl fun z => .inr (le _ z))) (back r1)⟩
    | @ref n a hn =>
      unfold frz at e
      cases qo : M[n]? with
      | none => simp only [qo] at e; cases e
      | some o =>
        obtain ⟨b, e2, ro⟩ := S.obj n o qo
        rw [hn] at e2
        cases e2
        simp only [qo] at e
        cases o with
        | frz w =>
          cases e
          exact ⟨Z, fun _ h => h, S, ro.2.2⟩
        | lst xs =>
          obtain ⟨za, vs, h1, r1⟩ := ro
          cases q : frzL (frz k) M xs with
          | none => simp only [q] at e; cases e
          | some p =>
            obtain ⟨ys, M1⟩ := p
            simp only [q] at e
            cases e
            obtain ⟨Z1, le, S1, r2⟩ := ihL S r1 q
            have rr : RV K CA [] (bar F (fun b => Z1 b ∧ b ≠ a)) H (.lst ys) (.ref a) := .lst h1 (fun b' => b'.elim (S.zf a za) fun z => z.2 rfl) (r2.mono (Keep.less fun _ h => h.1) (Pre.refl []))
            have hl : ∃ o, M1[n]? = some o := by
              have hlt := (List.getElem?_eq_some_iff.mp hn).1
              rw [S1.len] at hlt
              exact ⟨M1[n], List.getElem?_eq_getElem hlt⟩
            exact ⟨_, fun b h => le b h.1, S1.cool hn (S.zf a za) rr hl (fun u hu y => by rw [h1] at hu; cases hu; exact fun z => nomatch z), rr⟩
        | dct kvs =>
          obtain ⟨za, vs, h1, r1⟩ := ro
          cases q : frzD (frz k) M kvs with
          | none => simp only [q] at e; cases e
          | some p =>
            obtain ⟨ys, M1⟩ := p
            simp only [q] at e
            cases e
            obtain ⟨Z1, le, S1, r2⟩ := ihD S r1 q
            have rr : RV K CA [] (bar F (fun b => Z1 b ∧ b ≠ a)) H (.dct ys) (.ref a) := .dct h1 (fun b' => b'.elim (S.zf a za) fun z => z.2 rfl) (r2.mono (Keep.less fun _ h => h.1) (Pre.refl []))
            have hl : ∃ o, M1[n]? = some o := by
              have hlt := (List.getElem?_eq_some_iff.mp hn).1
              rw [S1.len] at hlt
              exact ⟨M1[n], List.getElem?_eq_getElem hlt⟩
            exact ⟨_, fun b h => le b h.1, S1.cool hn (S.zf a za) rr hl (fun u hu y => by rw [h1] at hu; cases hu; exact fun z => nomatch z), rr⟩
        | ins c fs =>
          obtain ⟨za, dx, vs, ned, h1, r1⟩ := ro
          cases qs : allSome fs with
          | none => simp only [qs] at e; cases e
          | some gs0 =>
            cases gs0 with
            | nil => simp only [qs] at e; cases e
            | cons g gs =>
              simp only [qs] at e
              cases q : frzL (frz k) M (g :: gs) with
              | none => simp only [q] at e; cases e
              | some p =>
                obtain ⟨ys, M1⟩ := p
                simp only [q] at e
                cases e
                have rf : RFs K CA ι (bar F Z) H (g :: gs) vs := fields_rel fun i f hf => r1 i f (allSome_get qs i f hf)
                rcases h1 with ⟨_, _, h3, _⟩ | ⟨h1, h2, nb⟩
                · rw [h3] at qs
                  cases qs
                · obtain ⟨ws, rw_, back⟩ := RFs.list rf
                  obtain ⟨Z1, le, S1, r2⟩ := ihL S rw_ q
                  have rr : RV K CA [] (bar F (fun b => Z1 b ∧ b ≠ a)) H (.obj c ys) (.ref a) := .obj h1 h2 (fun b' => b'.elim (S.zf a za) fun z => z.2 rfl) (fun b' => nb (b'.elim .inl fun z => .inr (le _ z.1))) (back (r2.mono (Keep.less fun _ h => h.1) (Pre.refl [])))
                  have hl : ∃ o, M1[n]? = some o := by
                    have hlt := (List.getElem?_eq_some_iff.mp hn).1
                    rw [S1.len] at hlt
                    exact ⟨M1[n], List.getElem?_eq_getElem hlt⟩
                  exact ⟨_, fun b h => le b h.1, S1.cool hn (S.zf a za) rr hl (fun u hu y => by rw [h1] at hu; cases hu; unfold SlX.SlO; exact fun z => nomatch z), rr⟩
end
end Mp
end

section
set_option Elab.async false
set_option linter.all false
set_option maxRecDepth 100000
/-! Mp4: readings by the evaluator, one rule a construct: names, displays, operators, tests. -/
namespace Mp
open PySem PySem.Spec PyProof.Rows L2

/-- what is fixed for a text -/
structure SD where
  P : MP
  CA : Nat → Addr
  EX : PX → List Addr → (Addr → Prop) → Hp → Value → Option Addr → Prop
  exk : ∀ x ι B H c d, EX x ι B H c d → ∀ ι' B', (∀ a, B' a → B a) → EX x ι' B' H c d
  fnm : Nat → Str
  knm : Nat → Str
  cnm : Nat → Str
  fld : Nat → Str

section
variable (S : SD) (K : PySem.W.Frag) (W : WX)
abbrev PO1 {α β : Type} (R : List Addr → (Addr → Prop) → Hp → α → β → Prop) (σ : L2.St) := PostO K S.CA S.EX (fun c d H => W c d σ H) R
/-- the reading «the evaluator's f ends well» -/
def tO {α β : Type} (R : List Addr → (Addr → Prop) → Hp → α → β → Prop) (f : Rho → MH → Out α) : L2.St → Hp → (β → Hp → Prop) → Prop := fun σ H Q =>
  ∃ F ι Z M ρ, Sim K S.CA F ι Z M H ∧ LR K S.CA ι (bar F Z) H ρ σ ∧ PO1 S K W R σ F ι Z H (f ρ M) Q
abbrev RVo : List Addr → (Addr → Prop) → Hp → PV → V → Prop := fun ι B H => RV K S.CA ι B H
abbrev RVso : List Addr → (Addr → Prop) → Hp → List PV → List V → Prop := fun ι B H => RVs K S.CA ι B H
abbrev REq {α : Type} : List Addr → (Addr → Prop) → Hp → α → α → Prop := fun _ _ _ a b => a = b
abbrev tE (f : Rho → MH → Out PV) : TE := tO S K W (RVo S K) f
abbrev tEs (f : Rho → MH → Out (List PV)) : TA := tO S K W (RVso S K) f
abbrev tT (f : Rho → MH → Out Bool) : TT := tO S K W REq f
end

theorem pe_imp {X : Cx} {e : Expr} {t t' : TE} (h : PE X e t) (i : ∀ σ H Q, t' σ H Q → t σ H Q) : PE X e t' := ⟨fun pins s σ H Q I q => h.run pins s σ H Q I (i σ H Q q)⟩
theorem pt_imp {X : Cx} {e : Expr} {t t' : TT} (h : PT X e t) (i : ∀ σ H Q, t' σ H Q → t σ H Q) : PT X e t' := ⟨fun pins s σ H Q I q => h.run pins s σ H Q I (i σ H Q q)⟩
theorem pw_imp {X : Cx} {e : Expr} {t t' : TT} (h : PW X e t) (i : ∀ σ H Q, t' σ H Q → t σ H Q) : PW X e t' := ⟨fun w pins s σ H Q I q => h.run w pins s σ H Q I (i σ H Q q)⟩
theorem pa_imp {X : Cx} {e : List Expr} {t t' : TA} (h : PA X e t) (i : ∀ σ H Q, t' σ H Q → t σ H Q) : PA X e t' := ⟨fun pos pins s σ H Q I q => h.run pos pins s σ H Q I (i σ H Q q)⟩

section
variable {S : SD} {X : Cx} {W : WX}
/-- at a value: the state behind it -/
theorem tO.one {α β γ δ : Type} {K : PySem.W.Frag} {R : List Addr → (Addr → Prop) → Hp → α → β → Prop} {R' : List Addr → (Addr → Prop) → Hp → γ → δ → Prop} {f : Rho → MH → Out α} {k : Rho → α → MH → Out γ} {σ : L2.St} {H : Hp} {Q : δ → Hp → Prop} {T : β → Hp → Prop}
    (h : tO S K W R' (fun ρ M => (f ρ M).bind (k ρ)) σ H Q)
    (g : ∀ F ι Z M H1 ρ a b, Sim K S.CA F ι Z M H1 → LR K S.CA ι (bar F Z) H1 ρ σ → R ι (bar F Z) H1 a b → PO1 S K W R' σ F ι Z H1 (k ρ a M) Q → T b H1) : tO S K W R f σ H T := by
  obtain ⟨F, ι, Z, M, ρ, s, l, p⟩ := h
  refine ⟨F, ι, Z, M, ρ, s, l, p.bind.imp fun b H1 ⟨ι1, Z1, M1, a, q, st, s1, r, p1⟩ => ?_⟩
  exact g F ι1 Z1 M1 H1 ρ a b s1 (l.mono st.bars q) r p1
/-- at a value, from a known state -/
theorem tO.at {α β γ δ : Type} {K : PySem.W.Frag} {R : List Addr → (Addr → Prop) → Hp → α → β → Prop} {R' : List Addr → (Addr → Prop) → Hp → γ → δ → Prop} {f : Rho → MH → Out α} {k : α → MH → Out γ} {σ : L2.St} {Q : δ → Hp → Prop} {T : β → Hp → Prop}
    {F : Addr → Prop} {ι : List Addr} {Z : Addr → Prop} {M : MH} {H : Hp} {ρ : Rho} (s : Sim K S.CA F ι Z M H) (l : LR K S.CA ι (bar F Z) H ρ σ) (p : PO1 S K W R' σ F ι Z H ((f ρ M).bind k) Q)
    (g : ∀ ι1 Z1 M1 H1 a b, Pre ι ι1 → Step Z H Z1 H1 → Sim K S.CA F ι1 Z1 M1 H1 → LR K S.CA ι1 (bar F Z1) H1 ρ σ → R ι1 (bar F Z1) H1 a b → PO1 S K W R' σ F ι1 Z1 H1 (k a M1) Q → T b H1) : tO S K W R f σ H T := by
  refine ⟨F, ι, Z, M, ρ, s, l, p.bind.imp fun b H1 ⟨ι1, Z1, M1, a, q, st, s1, r, p1⟩ => ?_⟩
  exact g ι1 Z1 M1 H1 a b q st s1 (l.mono st.bars q) r p1
/-- the same state again -/
theorem tO.of {α β : Type} {K : PySem.W.Frag} {R : List Addr → (Addr → Prop) → Hp → α → β → Prop} {f : Rho → MH → Out α} {σ : L2.St} {F : Addr → Prop} {ι : List Addr} {Z : Addr → Prop} {M : MH} {H : Hp} {ρ : Rho} {Q : β → Hp → Prop}
    (s : Sim K S.CA F ι Z M H) (l : LR K S.CA ι (bar F Z) H ρ σ) (p : PO1 S K W R σ F ι Z H (f ρ M) Q) : tO S K W R f σ H Q := ⟨F, ι, Z, M, ρ, s, l, p⟩
/-- the end: a value of the state as it stands -/
theorem PostO.fin {α β : Type} {K : PySem.W.Frag} {R : List Addr → (Addr → Prop) → Hp → α → β → Prop} {σ : L2.St} {F : Addr → Prop} {ι : List Addr} {Z : Addr → Prop} {M : MH} {H : Hp} {a : α} {b : β} {Q : β → Hp → Prop}
    (p : PO1 S K W R σ F ι Z H (.val a M) Q) (s : Sim K S.CA F ι Z M H) (r : R ι (bar F Z) H a b) : Q b H := p ι Z H b (Pre.refl ι) (Step.refl Z H) s r
/-- the end: a later heap, all kept -/
theorem PostO.finE {α β : Type} {K : PySem.W.Frag} {R : List Addr → (Addr → Prop) → Hp → α → β → Prop} {σ : L2.St} {F : Addr → Prop} {ι : List Addr} {Z : Addr → Prop} {M : MH} {H H' : Hp} {a : α} {b : β} {Q : β → Hp → Prop}
    (p : PO1 S K W R σ F ι Z H (.val a M) Q) (s : Sim K S.CA F ι Z M H) (k : ∀ a o, H a = some o → H' a = some o) (r : R ι (bar F Z) H' a b) : Q b H' := p ι Z H' b (Pre.refl ι) (Step.ext k) (s.ext k) r
variable {K : PySem.W.Frag}
theorem RV.later {ι : List Addr} {F Z : Addr → Prop} {H H' : Hp} {x : PV} {v : V} (r : RV K S.CA ι (bar F Z) H x v) (k : ∀ a o, H a = some o → H' a = some o) : RV K S.CA ι (bar F Z) H' x v := r.mono (Step.ext k).bars (Pre.refl ι)
theorem RVs.later {ι : List Addr} {F Z : Addr → Prop} {H H' : Hp} {x : List PV} {v : List V} (r : RVs K S.CA ι (bar F Z) H x v) (k : ∀ a o, H a = some o → H' a = some o) : RVs K S.CA ι (bar F Z) H' x v := r.mono (Step.ext k).bars (Pre.refl ι)
theorem not_bar_new {F Z : Addr → Prop} {ι : List Addr} {M : MH} {H : Hp} {p : Addr} (s : Sim K S.CA F ι Z M H) (hp : H p = none) : ¬ bar F Z p := fun b => by
  rcases b with b | b
  · obtain ⟨o, e⟩ := s.ft p b
    rw [hp] at e
    cases e
  · obtain ⟨o, e⟩ := s.zt p b
    rw [hp] at e
    cases e

/-! ### names, constants -/
theorem e_var {i : Nat} {x : Str} {pos : Pos} (hN : X.N[i]? = some x) (hv : Vis X.env.scope x) (hd : (x == ("__debug__" : Str)) = false) (hcd : (x == ("__classdict__" : Str)) = false) :
    PE X (.Name x pos) (tE S X.K W fun ρ M => match ρ[i]? with | some (some v) => .val v M | _ => .stuck) := by
  refine pe_imp (pe_var hN hv hd hcd) fun σ H Q h => ?_
  obtain ⟨F, ι, Z, M, ρ, s, l, p⟩ := h
  dsimp only at p
  split at p
  · rename_i v e
    obtain ⟨w, e2, r⟩ := l.2 i v e
    exact ⟨w, e2, PostO.fin (W := W) p s r⟩
  · exact p.elim
theorem e_lit {e : Expr} {v : PV} {w : V} (h : PE X e (tC w)) (r : ∀ ι B H, RV X.K S.CA ι B H v w) : PE X e (tE S X.K W fun _ M => .val v M) := by
  refine pe_imp h fun σ H Q h => ?_
  obtain ⟨F, ι, Z, M, ρ, s, l, p⟩ := h
  exact PostO.fin (W := W) p s (r _ _ _)

/-! ### argument lists, displays -/
variable {E : Ev} {ea eb ec : Expr} {es : List Expr} {a b c : ME} {pos : Pos}
/-- no star, no slice -/
def plE : Expr → Bool
  | .Starred _ _ => false
  | .Slice _ _ _ _ => false
  | .Set _ _ _ => false
  | _ => true
theorem star_pl {e : Expr} (h : plE e = true) (es : List Expr) (env : Env) : starEach (e :: es) env = (false, eval e env) :: starEach es env := by
  cases e <;> first | rfl | cases h
theorem a_nil : PA X [] (tEs S X.K W (evArgs E [])) := pa_imp pa_nil fun σ H Q ⟨F, ι, Z, M, ρ, s, l, p⟩ => PostO.fin (W := W) p s .nil
theorem a_cons {ms : List ME} (hp : plE ea = true) (ha : PE X ea (tE S X.K W (E.e a))) (hr : PA X es (tEs S X.K W (evArgs E ms))) : PA X (ea :: es) (tEs S X.K W (evArgs E (a :: ms))) := by
  refine pa_imp (pa_cons ha hr (star_pl hp es X.env)) fun σ H Q ⟨F, ι, Z, M, ρ, s, l, p⟩ => ?_
  refine tO.at s l p fun ι1 Z1 M1 H1 x x' q1 st1 s1 l1 r1 p1 => ?_
  refine tO.at s1 l1 p1 fun ι2 Z2 M2 H2 xs xs' q2 st2 s2 l2 r2 p2 => ?_
  exact PostO.fin (W := W) p2 s2 (.cons (r1.mono st2.bars q2) r2)
theorem st_nil : PA X [] (tEs S X.K W (evStars E [])) := pa_imp pa_nil fun σ H Q ⟨F, ι, Z, M, ρ, s, l, p⟩ => PostO.fin (W := W) p s .nil
theorem st_cons {ms : List (Bool × ME)} (hp : plE ea = true) (ha : PE X ea (tE S X.K W (E.e a))) (hr : PA X es (tEs S X.K W (evStars E ms))) : PA X (ea :: es) (tEs S X.K W (evStars E ((false, a) :: ms))) := by
  refine pa_imp (pa_cons ha hr (star_pl hp es X.env)) fun σ H Q ⟨F, ι, Z, M, ρ, s, l, p⟩ => ?_
  refine tO.at s l p fun ι1 Z1 M1 H1 x x' q1 st1 s1 l1 r1 p1 => ?_
  refine tO.at s1 l1 p1 fun ι2 Z2 M2 H2 xs xs' q2 st2 s2 l2 r2 p2 => ?_
  exact PostO.fin (W := W) p2 s2 (.cons (r1.mono st2.bars q2) r2)
theorem st_star {ms : List (Bool × ME)} {p : Pos} (ha : PE X ea (tE S X.K W (E.e a))) (hr : PA X es (tEs S X.K W (evStars E ms))) : PA X (.Starred ea p :: es) (tEs S X.K W (evStars E ((true, a) :: ms))) := by
  refine pa_imp (StX.pa_star ha hr) fun σ H Q ⟨F, ι, Z, M, ρ, s, l, p⟩ => ?_
  refine tO.at s l p fun ι1 Z1 M1 H1 x x' q1 st1 s1 l1 r1 p1 => ?_
  try dsimp only at p1
  split at p1
  · rename_i ys e
    obtain ⟨ad, vs, ex, hs, rv⟩ := s1.readL r1 e
    refine ⟨ad, vs, ex, hs.symm, ?_⟩
    refine tO.at s1 l1 p1 fun ι2 Z2 M2 H2 xs xs' q2 st2 s2 l2 r2 p2 => ?_
    exact PostO.fin (W := W) p2 s2 ((rv.mono st2.bars q2).append r2)
  · exact p1.elim
theorem line_le {n : Nat} (h : n ≤ 1000000) : n ≤ sizeLine := by rw [sizeLine_eq]; omega
theorem e_tup {ms : List (Bool × ME)} {k : Nat} (h : PA X es (tEs S X.K W (evStars E ms))) : PE X (.Tuple es k pos) (tE S X.K W fun ρ M => (evStars E ms ρ M).bind fun xs M1 => if xs.length ≤ 1000000 then .val (.tup xs) M1 else .stuck) := by
  refine pe_imp (pe_tup h) fun σ H Q ⟨F, ι, Z, M, ρ, s, l, p⟩ => ?_
  refine tO.at s l p fun ι1 Z1 M1 H1 xs vs q1 st1 s1 l1 r1 p1 => ?_
  split at p1
  · rename_i hl
    refine ⟨by rw [← r1.length]; exact line_le hl, fun ad had => ?_⟩
    have k := upd_ext (o := HO.tup vs) had
    exact PostO.finE (W := W) p1 s1 k (.tup upd_same (not_bar_new s1 had) (r1.later k))
  · exact p1.elim
/-- a new list, as a value or as an object -/
theorem newL_ok {σ : L2.St} {F : Addr → Prop} {ι : List Addr} {Z : Addr → Prop} {M : MH} {H : Hp} {Q : VK} {m : Bool} {xs : List PV} {vs : List V} (p : PO1 S X.K W (RVo S X.K) σ F ι Z H (newL m xs M) Q) (s : Sim X.K S.CA F ι Z M H)
    (r : RVs X.K S.CA ι (bar F Z) H xs vs) : vs.length ≤ sizeLine ∧ ∀ ad, H ad = none → Q (.ref ad) (upd H ad (.lst vs)) := by
  unfold newL at p
  split at p
  · rename_i hl
    refine ⟨by rw [← r.length]; exact line_le hl, fun ad had => ?_⟩
    have k := upd_ext (o := HO.lst vs) had
    cases m with
    | false => exact PostO.finE (W := W) p s k (.lst upd_same (not_bar_new s had) (r.later k))
    | true =>
      have st : Step Z H (fun a => Z a ∨ a = ad) (upd H ad (.lst vs)) := ⟨fun b o h _ => k b o h, fun b h => h.elim .inl fun e => .inr (by rw [e]; exact had), fun b o h => ⟨o, k b o h⟩⟩
      have ro : RO X.K S.CA (ι ++ [ad]) F (fun a => Z a ∨ a = ad) (upd H ad (.lst vs)) (.lst xs) ad := ⟨.inr rfl, vs, upd_same, r.mono st.bars (Pre.snoc ι ad)⟩
      obtain ⟨s2, st2⟩ := s.push had ro
      exact p _ _ _ _ (Pre.snoc ι ad) st2 s2 (.ref (by rw [← s.len]; simp))
  · exact p.elim
theorem e_lst {ms : List (Bool × ME)} {m : Bool} (h : PA X es (tEs S X.K W (evStars E ms))) : PE X (.List es pos) (tE S X.K W fun ρ M => (evStars E ms ρ M).bind fun xs M1 => newL m xs M1) := by
  refine pe_imp (pe_lst h) fun σ H Q ⟨F, ι, Z, M, ρ, s, l, p⟩ => ?_
  exact tO.at s l p fun ι1 Z1 M1 H1 xs vs q1 st1 s1 l1 r1 p1 => newL_ok p1 s1 r1
/-! ### two operands -/
theorem e_two {r : R2} {e : Expr} {kk : PV → PV → MH → Out PV} (hb : PE X e (tOp r (tE S X.K W (E.e a)) (tE S X.K W (E.e b))))
    (hk : ∀ σ F ι Z M H x y x' y' Q, Sim X.K S.CA F ι Z M H → RV X.K S.CA ι (bar F Z) H x x' → RV X.K S.CA ι (bar F Z) H y y' → PO1 S X.K W (RVo S X.K) σ F ι Z H (kk x y M) Q → r x' y' H Q) :
    PE X e (tE S X.K W fun ρ M => (E.e a ρ M).bind fun x M1 => (E.e b ρ M1).bind fun y M2 => kk x y M2) := by
  refine pe_imp hb fun σ H Q ⟨F, ι, Z, M, ρ, s, l, p⟩ => ?_
  refine tO.at s l p fun ι1 Z1 M1 H1 x x' q1 st1 s1 l1 r1 p1 => ?_
  refine tO.at s1 l1 p1 fun ι2 Z2 M2 H2 y y' q2 st2 s2 l2 r2 p2 => ?_
  exact hk σ F ι2 Z2 M2 H2 x y x' y' Q s2 (r1.mono st2.bars q2) r2 p2
end
end Mp
end

section
set_option Elab.async false
set_option linter.all false
set_option maxRecDepth 100000
set_option maxHeartbeats 2000000
/-! Mp5: operators, comparisons, subscripts, slices. -/
namespace Mp
open PySem PySem.Spec PyProof.Rows L2

section
variable {prog : Program} {w : World} {A : Around} {Ee : Value → Shared → Prop} {s : Shared}
/-- t[a:b], the whole: t itself -/
theorem getItem_tuple_all {t sl : Addr} {items : Array Value} {vl vu : Value} {lo hi : Option Int} {Q : Value → Shared → Prop} (ht : IsTup s.heap t items) (hs : s.heap.IsSliceOf sl vl vu .none) (pl : IsPart vl lo) (pu : IsPart vu hi)
    (h1 : HT.sIx items.size 0 lo = 0) (h2 : HT.sIx items.size items.size hi = items.size) (h : Q (.ref t) s) : wpAny (model prog w) A (getItem (.ref t) (.ref sl)) Q Ee s := by
  have hTs : s.TypeIs (.ref sl) "slice" := let ⟨os, hos, hcs, _⟩ := hs; ⟨os, hos, hcs⟩
  unfold getItem; (try with_reducible refine wpAny_holding ?_); (first | refine wpAny_bind (wpAny_pure ?_) | skip)
  refine wpAny_bind (wpAny_sequenceKey ht.typeIs (by decide) (wpAny_bind (wpAny_callSpecial?_slot (name := Str.ofString "__getitem__") ht.typeIs PyProof.Rows.slot_tuple_getitem (wpAny_call_entry PyProof.Rows.slot_tuple_getitem ht.typeIs entry_tuple_getitem ?_ (args_tuple_getitem _ _)))))
  show wpAny _ _ (Builtin.Tuple.tupleItemsOf (.ref t) >>= _) _ _ s
  refine wpAny_bind (tupleItemsOf_ ht (wpAny_bind (wpAny_typeOf hTs ?_)))
  rw [if_pos (by decide)]
  refine wpAny_bind (HT.sliceApplied_gen hs pl pu ?_)
  have yes : ((((HT.sIx items.size 0 lo : Nat) : Int) == 0 && (1 : Int) == 1 && (HT.sIx items.size items.size hi - HT.sIx items.size 0 lo) == items.size) = true) := by rw [h1, h2]; simp
  show wpAny _ _ (if (((HT.sIx items.size 0 lo : Nat) : Int) == 0 && (1 : Int) == 1 && (HT.sIx items.size items.size hi - HT.sIx items.size 0 lo) == items.size) = true then _ else _) _ _ s
  rw [if_pos yes]
  show wpAny _ _ (Builtin.Tuple.tupleIsExact (Value.ref t) >>= _) _ _ s
  unfold Builtin.Tuple.tupleIsExact
  refine wpAny_bind (wpAny_bind (wpAny_typeOf ht.typeIs (wpAny_pure ?_)))
  rw [if_pos (by decide)]
  first
    | exact wpAny_bind (wpAny_rule (wpAny_pure ⟨_, rfl, wpAny_pure h⟩))
    | exact wpAny_bind (wpAny_rule (wpAny_pure (wpAny_pure ⟨_, rfl, wpAny_pure h⟩)))
    | trace_state
end

/-! ### data -/
theorem natsEq_iff : ∀ {a b : List Nat}, natsEq a b = true ↔ a = b
  | [], [] => by simp [natsEq]
  | [], _ :: _ => by simp [natsEq]
  | _ :: _, [] => by simp [natsEq]
  | a :: r, b :: t => by
    unfold natsEq
    rw [Bool.and_eq_true, natsEq_iff, List.cons.injEq]
    exact and_congr_left fun _ => ⟨Nat.eq_of_beq_eq_true, fun e => by rw [e]; exact Nat.beq_refl b⟩
theorem strEq_iff {x y : Str} : strEq x y = true ↔ x = y := by
  unfold strEq
  rw [natsEq_iff]
  obtain ⟨⟨a⟩⟩ := x
  obtain ⟨⟨b⟩⟩ := y
  constructor
  · intro h
    have h' : a = b := h
    rw [h']
  · intro h
    cases h
    rfl
theorem strEq_beq (x y : Str) : strEq x y = (x == y) := by
  by_cases h : x = y
  · rw [strEq_iff.mpr h, h]
    exact (beq_self_eq_true y).symm
  · have h1 : strEq x y = false := Bool.eq_false_iff.mpr fun e => h (strEq_iff.mp e)
    have h2 : (x == y) = false := beq_eq_false_iff_ne.mpr h
    rw [h1, h2]
def denB : Nat → MH → PV → PyData
  | 0, _, _ => .none
  | k + 1, M, x => match view M x with
    | .bl b => .bool b
    | .int i => .int i
    | .str a => .str a
    | .tup xs => .tuple (xs.map (denB k M))
    | .lst xs => .list (xs.map (denB k M))
    | .scr ns => .list ((ns.map PV.int).map (denB k M))
    | _ => .none
theorem eqvAll_map {f g : PV → PyData} {e : PV → PV → Bool} : ∀ {xs ys : List PV}, (∀ x, x ∈ xs → ∀ y, y ∈ ys → e x y = PyData.eqv (f x) (g y)) → eqL e xs ys = PyData.eqvAll (xs.map f) (ys.map g)
  | [], [], _ => rfl
  | [], _ :: _, _ => rfl
  | _ :: _, [], _ => rfl
  | x :: xs, y :: ys, h => by
    show (e x y && eqL e xs ys) = (PyData.eqv (f x) (g y) && PyData.eqvAll (xs.map f) (ys.map g))
    rw [h x List.mem_cons_self y List.mem_cons_self, eqvAll_map fun x hx y hy => h x (List.mem_cons_of_mem _ hx) y (List.mem_cons_of_mem _ hy)]
theorem eqB_den : ∀ (k : Nat) {M : MH} {x y : PV}, okB k M x = true → okB k M y = true → eqB k M x y = PyData.eqv (denB k M x) (denB k M y)
  | 0, _, _, _, h, _ => by cases h
  | k + 1, M, x, y, h1, h2 => by
    unfold okB at h1 h2
    unfold eqB denB
    cases e1 : view M x <;> rw [e1] at h1 <;> (try cases h1) <;> cases e2 : view M y <;> rw [e2] at h2 <;> (try cases h2) <;>
      first
        | rfl
        | exact strEq_beq _ _
        | (simp only [PyData.eqv, Bool.beq_eq_decide_eq, b2i]; done)
        | exact eqvAll_map fun a ha b hb => eqB_den k (List.all_eq_true.mp h1 a ha) (List.all_eq_true.mp h2 b hb)
section
variable {K : PySem.W.Frag} {CA : Nat → Addr} {ι : List Addr} {F Z : Addr → Prop} {H : Hp} {M : MH}
theorem dpAll_of {k : Nat} (ih : ∀ {x : PV} {v : V}, RV K CA ι (bar F Z) H x v → okB k M x = true → Dp K H v (denB k M x)) : ∀ {xs : List PV} {vs : List V}, RVs K CA ι (bar F Z) H xs vs → xs.all (okB k M) = true → DpAll K H vs (xs.map (denB k M))
  | _, _, .nil, _ => .nil
  | _, _, .cons h r, e => by
    rw [List.all_cons, Bool.and_eq_true] at e
    exact .cons (ih h e.1) (dpAll_of ih r e.2)
theorem dp_of (s : Sim K CA F ι Z M H) : ∀ (k : Nat) {x : PV} {v : V}, RV K CA ι (bar F Z) H x v → okB k M x = true → Dp K H v (denB k M x)
  | 0, _, _, _, h => by cases h
  | k + 1, x, v, r, h => by
    have w := s.view r
    unfold okB at h
    unfold denB
    cases e : view M x <;> rw [e] at h w <;> (try cases h)
    · cases (show v = .non from w); exact .non
    · cases (show v = .bl _ from w); exact .bl _
    · cases (show v = .int _ from w); exact .int _
    · cases (show v = .str _ from w); exact .str _
    · obtain ⟨a, vs, e1, h1, r1⟩ := RV.tupI w
      subst e1
      exact .tup h1 (dpAll_of (fun r h => dp_of s k r h) r1 h)
    · obtain ⟨a, vs, e1, h1, r1⟩ := w
      subst e1
      exact .lst (SqL.of h1) (dpAll_of (fun r h => dp_of s k r h) r1 h)
    · obtain ⟨a, e1, h1⟩ := w
      subst e1
      exact .lst h1 (dpAll_of (fun r h => dp_of s k r h) (RVs.ints _) h)
end
theorem layAll {f : PV → PyData} : ∀ {xs : List PV}, (∀ x, x ∈ xs → PyData.canLay0 (f x) = true) → PyData.canLayAll0 (xs.map f) = true
  | [], _ => rfl
  | x :: xs, h => by
    show (PyData.canLay0 (f x) && PyData.canLayAll0 (xs.map f)) = true
    rw [h x List.mem_cons_self, layAll fun y hy => h y (List.mem_cons_of_mem _ hy)]
    rfl
theorem depthAll_le {f : PV → PyData} {k : Nat} : ∀ {xs : List PV}, (∀ x, x ∈ xs → PyData.depth (f x) ≤ k) → PyData.depthAll (xs.map f) ≤ k
  | [], _ => Nat.zero_le _
  | x :: xs, h => by
    show max (PyData.depth (f x)) (PyData.depthAll (xs.map f)) ≤ k
    exact Nat.max_le.mpr ⟨h x List.mem_cons_self, depthAll_le fun y hy => h y (List.mem_cons_of_mem _ hy)⟩
theorem lay_of : ∀ (k : Nat) {M : MH} {x : PV}, okB k M x = true → PyData.canLay0 (denB k M x) = true ∧ PyData.depth (denB k M x) ≤ k
  | 0, _, _, h => by cases h
  | k + 1, M, x, h => by
    unfold okB at h
    unfold denB
    cases e : view M x <;> rw [e] at h <;> (try cases h) <;> (try exact ⟨rfl, Nat.zero_le _⟩)
    · rename_i a
      refine ⟨?_, Nat.zero_le _⟩
      show PyData.canLay0 (.str a) = true
      have e0 : PyData.canLay0 (.str a) = a.cps.all (· < 0x110000) := rfl
      rw [e0, ← Array.all_toList]
      exact h
    · have ih := fun x hx => lay_of k (M := M) (x := x) (List.all_eq_true.mp h x hx)
      exact ⟨layAll fun x hx => (ih x hx).1, Nat.succ_le_succ (depthAll_le fun x hx => (ih x hx).2)⟩
    · have ih := fun x hx => lay_of k (M := M) (x := x) (List.all_eq_true.mp h x hx)
      exact ⟨layAll fun x hx => (ih x hx).1, Nat.succ_le_succ (depthAll_le fun x hx => (ih x hx).2)⟩
    · have ih := fun x hx => lay_of k (M := M) (x := x) (List.all_eq_true.mp h x hx)
      exact ⟨layAll fun x hx => (ih x hx).1, Nat.succ_le_succ (depthAll_le fun x hx => (ih x hx).2)⟩
theorem shaped_of {M : MH} {x : PV} (h : okB 40 M x = true) : SeqAt.shaped (denB 40 M x) = true := by
  obtain ⟨h1, h2⟩ := lay_of 40 h
  unfold SeqAt.shaped
  rw [h1, decide_eq_true (show PyData.depth (denB 40 M x) ≤ 64 by omega)]
  rfl
theorem eqV_some {M : MH} {x y : PV} {b : Bool} (h : eqV M x y = some b) : okB 40 M x = true ∧ okB 40 M y = true ∧ b = PyData.eqv (denB 40 M x) (denB 40 M y) := by
  unfold eqV at h
  split at h
  · rename_i q
    obtain ⟨q1, q2⟩ := Bool.and_eq_true_iff.mp q
    exact ⟨q1, q2, (Option.some.inj h).symm.trans (eqB_den 40 q1 q2)⟩
  · cases h
end Mp
end

section
set_option Elab.async false
set_option linter.all false
set_option maxRecDepth 100000
set_option maxHeartbeats 2000000
/-! Mp6: operators, comparisons, subscripts as readings by the evaluator. -/
namespace Mp
open PySem PySem.Spec PyProof.Rows L2

/-! ### t + u, any tuples -/
def rCatA (K : PySem.W.Frag) : R2 := fun x y H Q => ∃ a b xs ys, x = .ref a ∧ y = .ref b ∧ SqT K H a xs ∧ SqT K H b ys ∧ xs.length + ys.length ≤ sizeLine ∧ (xs = [] → Q (.ref b) H) ∧ (xs ≠ [] → ys = [] → Q (.ref a) H) ∧
  (xs ≠ [] → ys ≠ [] → ∀ p, H p = none → Q (.ref p) (upd H p (.tup (xs ++ ys))))
theorem op_catA {X : Cx} : OpR X (binaryOp .Add) (rCatA X.K) := by
  intro pins s σ H x y v u Q I rx ry h
  obtain ⟨a, b, xs, ys, rfl, rfl, ha, hb, hz, q0, q1, q2⟩ := h
  cases rx; cases ry
  obtain ⟨its, r1, p1, _⟩ := I.tuple ha
  obtain ⟨its2, r2, p2, _⟩ := I.tuple hb
  by_cases hx : xs = []
  · obtain ⟨⟨c1, d1, dt1, sl1⟩, ho, hc, n, hd⟩ := p1
    obtain ⟨⟨c2, d2, dt2, sl2⟩, ho2, hc2, n2, hd2⟩ := p2
    simp only at hc hd hc2 hd2
    subst hc hd hc2 hd2
    have he : its = [] := by subst hx; cases r1; rfl
    exact concat_meets ⟨_, ho, rfl⟩ ⟨_, ho2, rfl⟩ noFill_tuple_add seq_tuple_add PySem.F.slot_tuple_add PySem.F.entry_tuple_add (PySem.F.args_tuple_add_2 _ _) (tuple_addW0 a b its.toArray its2.toArray n n2 d1 d2 sl1 sl2 (by rw [he]; rfl)) ⟨ho, ho2, .ref b, H, I, rfl, q0 hx⟩
  · exact op_catT pins s σ H (.ref a) (.ref b) (Value.ref a) (Value.ref b) Q I rfl rfl ⟨a, b, xs, ys, rfl, rfl, ha, hb, hx, hz, fun z => q1 hx z, fun z => q2 hx z⟩
/-! ### t[a:b], any tuple -/
def rSlTA (K : PySem.W.Frag) : V → Option Int → Option Int → Hp → VK → Prop := fun x lo hi H Q => ∃ a xs, x = .ref a ∧ SqT K H a xs ∧
  (HT.sIx xs.length 0 lo = 0 ∧ HT.sIx xs.length xs.length hi = xs.length → Q (.ref a) H) ∧ (¬ (HT.sIx xs.length 0 lo = 0 ∧ HT.sIx xs.length xs.length hi = xs.length) → ∀ p, H p = none → Q (.ref p) (upd H p (.tup (cutV xs lo hi))))
theorem sl_tupA {X : Cx} : SlR X (rSlTA X.K) := by
  intro pins s σ H x v vl vu lo hi sl Q I rx hs pl pu h
  obtain ⟨a, xs, rfl, hx, q1, q2⟩ := h
  by_cases hw : HT.sIx xs.length 0 lo = 0 ∧ HT.sIx xs.length xs.length hi = xs.length
  · cases rx
    obtain ⟨its, r, ht, hz⟩ := I.tuple hx
    have hlen : its.toArray.size = xs.length := by rw [List.size_toArray]; exact r.length.symm
    refine ⟨"tuple", _, PyProof.Rows.slot_tuple_getitem.lookup, ht.typeIs, getItem_tuple_all ht hs pl pu (by rw [hlen]; exact hw.1) (by rw [hlen]; exact hw.2) ⟨.ref a, H, I, rfl, q1 hw⟩⟩
  · exact sl_tup pins s σ H _ v vl vu lo hi sl Q I rx hs pl pu ⟨a, xs, rfl, hx, hw, q2 hw⟩
theorem cutIx_eq (n d : Nat) (o : Option Int) : cutIx n d o = HT.sIx n d o := by
  cases o with
  | none => rfl
  | some i =>
    show (if 0 ≤ i then min i.toNat n else (i + n).toNat) = (if i < 0 then (i + (n : Int)).toNat else min i.toNat n)
    by_cases h : i < 0
    · rw [if_pos h, if_neg (by omega)]
    · rw [if_neg h, if_pos (by omega)]
theorem cut_eq (xs : List V) (lo hi : Option Int) : cutL xs lo hi = cutV xs lo hi := by
  unfold cutL cutV
  rw [cutIx_eq, cutIx_eq]
theorem ixOf_eq (n : Nat) (i : Int) : ixOf n i = ixN n i := rfl

section
variable {S : SD} {X : Cx} {W : WX} {E : Ev} {ea eb ec : Expr} {a b c : ME} {pos : Pos}
/-! ### operators -/
theorem small64_ok {i : Int} (h : small64 i = true) : -(2 ^ 64) < i ∧ i < 2 ^ 64 := of_decide_eq_true h
theorem e_add {m : Bool} (ha : PE X ea (tE S X.K W (E.e a))) (hb : PE X eb (tE S X.K W (E.e b))) :
    PE X (.BinOp ea .Add eb pos) (tE S X.K W fun ρ M => (E.e a ρ M).bind fun x M1 => (E.e b ρ M1).bind fun y M2 => binOp .add m x y M2) := by
  refine e_two (pe_op ((((op_add.or op_add_ib).or op_add_str).or op_catA).or op_cat) ha hb) fun σ F ι Z M H x y x' y' Q s rx ry p => ?_
  have wx := s.view rx
  have wy := s.view ry
  unfold binOp at p
  dsimp only at p
  cases ex : view M x <;> rw [ex] at p wx <;> (try exact p.elim) <;> cases ey : view M y <;> rw [ey] at p wy <;> (try exact p.elim)
  · cases (show x' = .int _ from wx)
    cases (show y' = .bl _ from wy)
    exact .inl (.inl (.inl (.inr ⟨_, _, rfl, rfl, PostO.fin (W := W) p s (.int _)⟩)))
  · cases (show x' = .int _ from wx)
    cases (show y' = .int _ from wy)
    exact .inl (.inl (.inl (.inl ⟨_, _, rfl, rfl, PostO.fin (W := W) p s (.int _)⟩)))
  · cases (show x' = .str _ from wx)
    cases (show y' = .str _ from wy)
    dsimp only at p
    split at p
    · rename_i hl
      exact .inl (.inl (.inr ⟨_, _, rfl, rfl, line_le hl, PostO.fin (W := W) p s (.str _)⟩))
    · exact p.elim
  · have wx' : RV X.K S.CA ι (bar F Z) H (.tup _) x' := wx
    have wy' : RV X.K S.CA ι (bar F Z) H (.tup _) y' := wy
    obtain ⟨ax, vx, e1, h1, r1⟩ := RV.tupI wx'
    obtain ⟨ay, vy, e2, h2, r2⟩ := RV.tupI wy'
    subst e1 e2
    dsimp only at p
    split at p
    · rename_i hl
      refine .inl (.inr ⟨ax, ay, vx, vy, rfl, rfl, h1, h2, by rw [← r1.length, ← r2.length]; exact line_le hl, fun e => ?_, fun _ e => ?_, fun _ _ ad had => ?_⟩)
      · subst e
        cases r1
        exact PostO.fin (W := W) p s wy'
      · subst e
        cases r2
        rw [List.append_nil] at p
        exact PostO.fin (W := W) p s wx'
      · have k := upd_ext (o := HO.tup (vx ++ vy)) had
        exact PostO.finE (W := W) p s k (.tup upd_same (not_bar_new s had) ((r1.append r2).later k))
    · exact p.elim
  · obtain ⟨ax, vx, e1, h1, r1⟩ := wx
    obtain ⟨ay, vy, e2, h2, r2⟩ := wy
    obtain ⟨q1, q2⟩ := newL_ok p s (r1.append r2)
    exact .inr ⟨ax, ay, vx, vy, e1, e2, h1, h2, by rw [List.length_append] at q1; exact q1, q2⟩
theorem e_sub {m : Bool} (ha : PE X ea (tE S X.K W (E.e a))) (hb : PE X eb (tE S X.K W (E.e b))) :
    PE X (.BinOp ea .Sub eb pos) (tE S X.K W fun ρ M => (E.e a ρ M).bind fun x M1 => (E.e b ρ M1).bind fun y M2 => binOp .sub m x y M2) := by
  refine e_two (pe_op op_sub ha hb) fun σ F ι Z M H x y x' y' Q s rx ry p => ?_
  unfold binOp at p
  dsimp only at p
  split at p
  · cases rx; cases ry
    exact ⟨_, _, rfl, rfl, PostO.fin (W := W) p s (.int _)⟩
  · exact p.elim
theorem e_mul {m : Bool} (ha : PE X ea (tE S X.K W (E.e a))) (hb : PE X eb (tE S X.K W (E.e b))) :
    PE X (.BinOp ea .Mult eb pos) (tE S X.K W fun ρ M => (E.e a ρ M).bind fun x M1 => (E.e b ρ M1).bind fun y M2 => binOp .mul m x y M2) := by
  refine e_two (pe_op (op_mul.or op_rep) ha hb) fun σ F ι Z M H x y x' y' Q s rx ry p => ?_
  have wx := s.view rx
  unfold binOp at p
  dsimp only at p
  split at p
  · rename_i i j ev
    rw [ev] at wx
    cases (show x' = .int _ from wx)
    cases ry
    split at p
    · rename_i hs
      refine .inl ⟨_, _, rfl, rfl, ?_, PostO.fin (W := W) p s (.int _)⟩
      rcases Bool.or_eq_true_iff.mp hs with h | h
      · exact .inl (small64_ok h)
      · exact .inr (small64_ok h)
    · exact p.elim
  · rename_i xs k ev
    rw [ev] at wx
    obtain ⟨ax, vx, e1, h1, r1⟩ := wx
    cases ry
    split at p
    · rename_i hk
      obtain ⟨q1, q2⟩ := newL_ok p s (r1.flatRep k.toNat)
      refine .inr ⟨ax, k, vx, e1, rfl, h1, by omega, by omega, ?_, q2⟩
      have h3 : vx.length ≤ 1000 := by rw [← r1.length]; exact hk.2.2
      have h4 : k.toNat ≤ 1000 := by omega
      have h5 := Nat.mul_le_mul h3 h4
      rw [sizeLine_eq]
      omega
    · exact p.elim
  · exact p.elim
theorem e_fdiv {m : Bool} (ha : PE X ea (tE S X.K W (E.e a))) (hb : PE X eb (tE S X.K W (E.e b))) :
    PE X (.BinOp ea .FloorDiv eb pos) (tE S X.K W fun ρ M => (E.e a ρ M).bind fun x M1 => (E.e b ρ M1).bind fun y M2 => binOp .fdiv m x y M2) := by
  refine e_two (pe_op op_fdiv ha hb) fun σ F ι Z M H x y x' y' Q s rx ry p => ?_
  unfold binOp at p
  dsimp only at p
  split at p
  · cases rx; cases ry
    split at p
    · rename_i hj
      exact ⟨_, _, rfl, rfl, hj, PostO.fin (W := W) p s (.int _)⟩
    · exact p.elim
  · exact p.elim
theorem e_mod {m : Bool} (ha : PE X ea (tE S X.K W (E.e a))) (hb : PE X eb (tE S X.K W (E.e b))) :
    PE X (.BinOp ea .Mod eb pos) (tE S X.K W fun ρ M => (E.e a ρ M).bind fun x M1 => (E.e b ρ M1).bind fun y M2 => binOp .mod m x y M2) := by
  refine e_two (pe_op op_mod ha hb) fun σ F ι Z M H x y x' y' Q s rx ry p => ?_
  unfold binOp at p
  dsimp only at p
  split at p
  · cases rx; cases ry
    split at p
    · rename_i hj
      exact ⟨_, _, rfl, rfl, hj, PostO.fin (W := W) p s (.int _)⟩
    · exact p.elim
  · exact p.elim
theorem e_neg (ha : PE X ea (tE S X.K W (E.e a))) : PE X (.UnaryOp .USub ea pos) (tE S X.K W fun ρ M => (E.e a ρ M).bind fun x M1 => (match x with | .int i => .val (.int (-i)) M1 | _ => .stuck)) := by
  refine pe_imp (pe_un un_neg ha) fun σ H Q ⟨F, ι, Z, M, ρ, s, l, p⟩ => ?_
  refine tO.at s l p fun ι1 Z1 M1 H1 x x' q1 st1 s1 l1 r1 p1 => ?_
  split at p1
  · cases r1
    exact ⟨_, rfl, PostO.fin (W := W) p1 s1 (.int _)⟩
  · exact p1.elim

end
/-! ### in, not in -/
def rInA (K : PySem.W.Frag) (neg : Bool) : R2 := fun x y H Q => ∃ d ds, Dp K H x d ∧ (Dp K H y (.list ds) ∨ Dp K H y (.tuple ds)) ∧ SeqAt.shaped d = true ∧ PyData.canLayAll0 ds = true ∧ PyData.depthAll ds ≤ 60 ∧ Q (.bl (if neg then !(ds.any fun z => PyData.eqv z d) else ds.any fun z => PyData.eqv z d)) H
theorem op_inA {X : Cx} (hu : X.A.units + 65 < cLine) : OpR X (compareOp .In) (rInA X.K false) := by
  intro pins s σ H x y v u Q I rx ry h
  obtain ⟨d, ds, hd, he, sd, sl, dp, q⟩ := h
  obtain ⟨as, r1⟩ := Dp.reads I d x v hd rx
  have room : X.A.units + 1 + min (PyData.depthAll ds) d.depth < cLine := by
    have := SeqAt.depth_of_shaped sd
    omega
  rcases he with he | he
  · obtain ⟨bs, r2⟩ := Dp.reads I (.list ds) y u he ry
    exact SeqAt.in_list_reads r2 r1 sl (SeqAt.canLay_of_shaped sd) room ⟨.bl _, H, I, rfl, q⟩
  · obtain ⟨bs, r2⟩ := Dp.reads I (.tuple ds) y u he ry
    exact SeqAt.in_tuple_reads r2 r1 sl (SeqAt.canLay_of_shaped sd) room ⟨.bl _, H, I, rfl, q⟩
theorem op_notInA {X : Cx} (hu : X.A.units + 65 < cLine) : OpR X (compareOp .NotIn) (rInA X.K true) := by
  intro pins s σ H x y v u Q I rx ry h
  obtain ⟨d, ds, hd, he, sd, sl, dp, q⟩ := h
  obtain ⟨as, r1⟩ := Dp.reads I d x v hd rx
  have room : X.A.units + 1 + min (PyData.depthAll ds) d.depth < cLine := by
    have := SeqAt.depth_of_shaped sd
    omega
  rcases he with he | he
  · obtain ⟨bs, r2⟩ := Dp.reads I (.list ds) y u he ry
    exact SeqAt.notIn_list_reads r2 r1 sl (SeqAt.canLay_of_shaped sd) room ⟨.bl _, H, I, rfl, q⟩
  · obtain ⟨bs, r2⟩ := Dp.reads I (.tuple ds) y u he ry
    exact SeqAt.notIn_tuple_reads r2 r1 sl (SeqAt.canLay_of_shaped sd) room ⟨.bl _, H, I, rfl, q⟩
def rInK (neg : Bool) : R2 := fun x y H Q => ∃ a o, y = .ref a ∧ DGet H a x o ∧ Q (.bl (if neg then !o.isSome else o.isSome)) H
theorem op_inK {X : Cx} (hu : X.A.units + 1 < cLine) : OpR X (compareOp .In) (rInK false) := by
  intro pins s σ H x y v u Q I rx ry h
  obtain ⟨a, o, rfl, g, q⟩ := h
  cases (show u = Value.ref a from ry)
  exact d_in hu I g rx fun s' I' => ⟨.bl o.isSome, H, I', rfl, q⟩
theorem op_notInK {X : Cx} (hu : X.A.units + 1 < cLine) : OpR X (compareOp .NotIn) (rInK true) := by
  intro pins s σ H x y v u Q I rx ry h
  obtain ⟨a, o, rfl, g, q⟩ := h
  cases (show u = Value.ref a from ry)
  exact d_notIn hu I g rx fun s' I' => ⟨.bl (!o.isSome), H, I', rfl, q⟩
theorem natLt_iff : ∀ {a b : List Nat}, natLt a b = decide (a < b)
  | [], [] => by simp [natLt]
  | [], _ :: _ => by simp [natLt]
  | _ :: _, [] => by simp [natLt]
  | a :: r, b :: t => by
    unfold natLt
    rw [natLt_iff]
    by_cases h1 : a < b
    · simp [h1, List.cons_lt_cons_iff]
    · by_cases h2 : b < a
      · have h3 : ¬ a = b := by omega
        simp [h1, h2, h3, List.cons_lt_cons_iff]
      · have h3 : a = b := by omega
        subst h3
        simp [List.cons_lt_cons_iff]
theorem keyEq_iff {p q : PV} {k l : Key} (h1 : keyS p = some k) (h2 : keyS q = some l) : keyEq p q = decide (k = l) := by
  cases p <;> (try cases h1) <;> cases q <;> (try cases h2)
  · rename_i i j
    show decide (i = j) = _
    by_cases e : i = j
    · subst e; simp
    · rw [decide_eq_false e, decide_eq_false fun z => e (Sum.inl.inj z)]
  · exact (decide_eq_false fun z => nomatch z).symm
  · exact (decide_eq_false fun z => nomatch z).symm
  · rename_i x y
    show strEq x y = _
    by_cases e : x = y
    · subst e
      rw [strEq_iff.mpr rfl]
      simp
    · rw [decide_eq_false fun z => e (Sum.inr.inj z)]
      exact Bool.eq_false_iff.mpr fun z => e (strEq_iff.mp z)
theorem isKey_some {p : PV} (h : isKey p = true) : ∃ k, keyS p = some k := by
  cases p <;> first | exact ⟨_, rfl⟩ | cases h
section
variable {K : PySem.W.Frag} {CA : Nat → Addr} {ι : List Addr} {B : Addr → Prop} {H : Hp}
theorem key_rel {p : PV} {k : Key} {v : V} (h : keyS p = some k) (r : RV K CA ι B H p v) : v = kV k := by
  cases p <;> (try cases h) <;> cases r <;> rfl
theorem RKs.val {q : PV} {l : Key} (h : keyS q = some l) : ∀ {kvs : List (PV × PV)} {ks : List (Key × V)}, RKs K CA ι B H kvs ks → match getD q kvs with
    | some x => ∃ v, valV ks l = some v ∧ RV K CA ι B H x v
    | none => valV ks l = none
  | _, _, .nil => rfl
  | _, _, @RKs.cons _ _ _ _ _ p k x v xs vs hk hx r => by
    unfold getD
    rw [keyEq_iff hk h]
    by_cases e : k = l
    · rw [decide_eq_true e, if_pos rfl]
      exact ⟨v, by unfold valV; simp [e], hx⟩
    · rw [decide_eq_false e, if_neg Bool.false_ne_true]
      have ih := RKs.val h r
      have e2 : valV ((k, v) :: vs) l = valV vs l := by unfold valV; simp [e]
      rw [e2]
      exact ih
theorem RKs.any {q : PV} {l : Key} (h : keyS q = some l) : ∀ {kvs : List (PV × PV)} {ks : List (Key × V)}, RKs K CA ι B H kvs ks → (kvs.any fun p => keyEq p.1 q) = ks.any fun kv => decide (kv.1 = l)
  | _, _, .nil => rfl
  | _, _, .cons hk hx r => by rw [List.any_cons, List.any_cons, keyEq_iff hk h, RKs.any h r]
theorem RKs.snoc {q : PV} {l : Key} {y : PV} {w : V} (h : keyS q = some l) (ry : RV K CA ι B H y w) : ∀ {kvs : List (PV × PV)} {ks : List (Key × V)}, RKs K CA ι B H kvs ks → RKs K CA ι B H (kvs ++ [(q, y)]) (ks ++ [(l, w)])
  | _, _, .nil => .cons h ry .nil
  | _, _, .cons hk hx r => .cons hk hx (RKs.snoc h ry r)
theorem RKs.mapAt {q : PV} {l : Key} {y : PV} {w : V} (h : keyS q = some l) (ry : RV K CA ι B H y w) : ∀ {kvs : List (PV × PV)} {ks : List (Key × V)}, RKs K CA ι B H kvs ks →
    RKs K CA ι B H (kvs.map fun p => if keyEq p.1 q then (p.1, y) else p) (ks.map fun kv => if kv.1 = l then (kv.1, w) else kv)
  | _, _, .nil => .nil
  | _, _, @RKs.cons _ _ _ _ _ p k x v xs vs hk hx r => by
    rw [List.map_cons, List.map_cons]
    have ih := RKs.mapAt h ry r
    dsimp only
    rw [keyEq_iff hk h]
    by_cases e : k = l
    · rw [decide_eq_true e, if_pos rfl, if_pos e]
      exact .cons hk ry ih
    · rw [decide_eq_false e, if_neg Bool.false_ne_true, if_neg e]
      exact .cons hk hx ih
theorem RKs.put {q : PV} {l : Key} {y : PV} {w : V} (h : keyS q = some l) (ry : RV K CA ι B H y w) {kvs : List (PV × PV)} {ks : List (Key × V)} (r : RKs K CA ι B H kvs ks) : RKs K CA ι B H (putD q y kvs) (putK ks l w) := by
  unfold putD putK
  rw [r.any h]
  split
  · exact r.mapAt h ry
  · exact r.snoc h ry
theorem RKs.length : ∀ {kvs : List (PV × PV)} {ks : List (Key × V)}, RKs K CA ι B H kvs ks → kvs.length = ks.length
  | _, _, .nil => rfl
  | _, _, .cons _ _ r => congrArg (· + 1) (RKs.length r)
end
end Mp
end

section
set_option Elab.async false
set_option linter.all false
set_option maxRecDepth 100000
set_option maxHeartbeats 2000000
/-! Mp7: comparisons, tests, subscripts, slices, fields as readings by the evaluator. -/
namespace Mp
open PySem PySem.Spec PyProof.Rows L2

theorem anyCongr {α : Type} {f g : α → Bool} : ∀ {xs : List α}, (∀ y, y ∈ xs → f y = g y) → xs.any f = xs.any g
  | [], _ => rfl
  | x :: xs, h => by rw [List.any_cons, List.any_cons, h x List.mem_cons_self, anyCongr fun y hy => h y (List.mem_cons_of_mem _ hy)]
/-- the reading of a comparison by values -/
def rCmp (o : COp) (K : PySem.W.Frag) : R2 :=
  match o with
  | .eq => rEqD K
  | .ne => rNeD K
  | .lt => fun x y H Q => rI0 (fun i j => .bl (decide (i < j))) x y H Q ∨ (∃ i j, x = .str i ∧ y = .str j ∧ Q (.bl (decide (i.cps.toList < j.cps.toList))) H)
  | .le => rI0 fun i j => .bl (decide (i ≤ j))
  | .gt => rI0 fun i j => .bl (decide (j < i))
  | .ge => rI0 fun i j => .bl (decide (j ≤ i))
  | .is_ => fun x y H Q => y = .non ∧ Q (.bl (decide (x = .non))) H
  | .isnot => fun x y H Q => y = .non ∧ Q (.bl (!decide (x = .non))) H
  | .in_ => fun x y H Q => rInA K false x y H Q ∨ rInK false x y H Q
  | .notin => fun x y H Q => rInA K true x y H Q ∨ rInK true x y H Q
def opC : COp → CmpOp
  | .eq => .Eq
  | .ne => .NotEq
  | .lt => .Lt
  | .le => .LtE
  | .gt => .Gt
  | .ge => .GtE
  | .is_ => .Is
  | .isnot => .IsNot
  | .in_ => .In
  | .notin => .NotIn
theorem op_cmp {X : Cx} (hu : X.A.units + 65 < cLine) (o : COp) : OpR X (compareOp (opC o)) (rCmp o X.K) := by
  cases o
  · exact op_eqD (by omega)
  · exact op_neD (by omega)
  · exact op_lt.or op_lt_str
  · exact op_le
  · exact op_gt
  · exact op_ge
  · exact op_isN
  · exact op_notN
  · exact (op_inA hu).or (op_inK (by omega))
  · exact (op_notInA hu).or (op_notInK (by omega))
section
variable {S : SD} {K : PySem.W.Frag} {W : WX}
theorem in_rel {σ : L2.St} {F : Addr → Prop} {ι : List Addr} {Z : Addr → Prop} {M : MH} {H : Hp} {x : PV} {x' : V} {xs : List PV} {y' : V} {b : Bool} (s : Sim K S.CA F ι Z M H) (rx : RV K S.CA ι (bar F Z) H x x') (hx : inL M x xs = some b)
    (hy : (∃ a vs, y' = .ref a ∧ (SqL K H a vs ∨ SqT K H a vs) ∧ RVs K S.CA ι (bar F Z) H xs vs)) : ∃ d ds, Dp K H x' d ∧ (Dp K H y' (.list ds) ∨ Dp K H y' (.tuple ds)) ∧ SeqAt.shaped d = true ∧ PyData.canLayAll0 ds = true ∧ PyData.depthAll ds ≤ 60 ∧ (ds.any fun z => PyData.eqv z d) = b := by
  unfold inL at hx
  split at hx
  · rename_i h
    obtain ⟨h1, h2⟩ := Bool.and_eq_true_iff.mp h
    obtain ⟨a, vs, e, hs, r⟩ := hy
    subst e
    have hd := dpAll_of (fun r h => dp_of s 40 r h) r h2
    refine ⟨denB 40 M x, xs.map (denB 40 M), dp_of s 40 rx h1, hs.elim (fun h => .inl (.lst h hd)) (fun h => .inr (.tup h hd)), shaped_of h1, layAll fun z hz => (lay_of 40 (List.all_eq_true.mp h2 z hz)).1, ?_, ?_⟩
    · exact Nat.le_trans (depthAll_le fun z hz => (lay_of 40 (List.all_eq_true.mp h2 z hz)).2) (by omega)
    · rw [← Option.some.inj hx, List.any_map]
      exact anyCongr fun y hy => (eqB_den 40 (List.all_eq_true.mp h2 y hy) h1).symm
  · cases hx
theorem cmp_rel {o : COp} {σ : L2.St} {F : Addr → Prop} {ι : List Addr} {Z : Addr → Prop} {M : MH} {H : Hp} {x y : PV} {x' y' : V} {b : Bool} {Q : VK} (s : Sim K S.CA F ι Z M H) (rx : RV K S.CA ι (bar F Z) H x x') (ry : RV K S.CA ι (bar F Z) H y y')
    (h : cmpOp o x y M = some b) (q : Q (.bl b) H) : rCmp o K x' y' H Q := by
  cases o
  · obtain ⟨h1, h2, e⟩ := eqV_some h
    exact ⟨_, _, dp_of s 40 rx h1, dp_of s 40 ry h2, shaped_of h1, shaped_of h2, by rw [← e]; exact q⟩
  · unfold cmpOp at h
    dsimp only at h
    split at h
    · rename_i r hr
      obtain ⟨h1, h2, e⟩ := eqV_some hr
      refine ⟨_, _, dp_of s 40 rx h1, dp_of s 40 ry h2, shaped_of h1, shaped_of h2, ?_⟩
      rw [← e, Option.some.inj h]
      exact q
    · cases h
  · unfold cmpOp at h
    dsimp only at h
    split at h
    · cases rx; cases ry; cases h
      exact .inl ⟨_, _, rfl, rfl, q⟩
    · cases rx; cases ry
      refine .inr ⟨_, _, rfl, rfl, ?_⟩
      rw [← natLt_iff]
      have e : strLt _ _ = b := Option.some.inj h
      unfold strLt at e
      rw [e]
      exact q
    · cases h
  all_goals (try (unfold cmpOp at h; dsimp only at h; split at h <;> first | (cases rx; cases ry; cases h; exact ⟨_, _, rfl, rfl, q⟩) | (cases h; done)))
  · unfold cmpOp at h
    dsimp only at h
    split at h
    · cases ry
      refine ⟨rfl, ?_⟩
      split at h
      · cases rx; cases h; exact q
      · have e : decide (x' = V.non) = b := by
          rw [← Option.some.inj h]
          refine decide_eq_false fun z => ?_
          subst z
          cases rx
          rename_i n
          exact n rfl
        rw [e]; exact q
    · cases h
  · unfold cmpOp at h
    dsimp only at h
    split at h
    · cases ry
      refine ⟨rfl, ?_⟩
      split at h
      · cases rx; cases h; exact q
      · have e : (!decide (x' = V.non)) = b := by
          rw [← Option.some.inj h]
          rw [decide_eq_false fun z => ?_]
          · rfl
          · subst z
            cases rx
            rename_i n
            exact n rfl
        rw [e]; exact q
    · cases h
  · have wy := s.view ry
    unfold cmpOp at h
    dsimp only at h
    split at h
    · rename_i xs ev
      rw [ev] at wy
      obtain ⟨a, vs, e1, e2, e3⟩ := RV.tupI wy
      obtain ⟨d, ds, g1, g2, g3, g4, g5, g6⟩ := in_rel (σ := σ) s rx h ⟨a, vs, e1, .inr e2, e3⟩
      exact .inl ⟨d, ds, g1, g2, g3, g4, g5, by rw [if_neg Bool.false_ne_true, g6]; exact q⟩
    · rename_i xs ev
      rw [ev] at wy
      obtain ⟨a, vs, e1, e2, e3⟩ := wy
      obtain ⟨d, ds, g1, g2, g3, g4, g5, g6⟩ := in_rel (σ := σ) s rx h ⟨a, vs, e1, .inl (SqL.of e2), e3⟩
      exact .inl ⟨d, ds, g1, g2, g3, g4, g5, by rw [if_neg Bool.false_ne_true, g6]; exact q⟩
    · rename_i kvs ev
      rw [ev] at wy
      obtain ⟨a, ks, e1, e2, e3⟩ := wy
      split at h
      · rename_i hk
        obtain ⟨k, hk⟩ := isKey_some hk
        refine .inr ⟨a, valV ks k, e1, by rw [key_rel hk rx]; exact DGet.k e2, ?_⟩
        have hv := RKs.val hk e3
        rw [if_neg Bool.false_ne_true]
        cases eg : getD x kvs with
        | none =>
          rw [eg] at hv h
          rw [hv]
          cases h
          exact q
        | some z =>
          rw [eg] at hv h
          obtain ⟨v, hv, _⟩ := hv
          rw [hv]
          cases h
          exact q
      · cases h
    · cases h
  · have wy := s.view ry
    unfold cmpOp at h
    dsimp only at h
    split at h
    · rename_i xs ev
      rw [ev] at wy
      obtain ⟨a, vs, e1, e2, e3⟩ := RV.tupI wy
      split at h
      · rename_i r hr
        obtain ⟨d, ds, g1, g2, g3, g4, g5, g6⟩ := in_rel (σ := σ) s rx hr ⟨a, vs, e1, .inr e2, e3⟩
        exact .inl ⟨d, ds, g1, g2, g3, g4, g5, by rw [if_pos rfl, g6, Option.some.inj h]; exact q⟩
      · cases h
    · rename_i xs ev
      rw [ev] at wy
      obtain ⟨a, vs, e1, e2, e3⟩ := wy
      split at h
      · rename_i r hr
        obtain ⟨d, ds, g1, g2, g3, g4, g5, g6⟩ := in_rel (σ := σ) s rx hr ⟨a, vs, e1, .inl (SqL.of e2), e3⟩
        exact .inl ⟨d, ds, g1, g2, g3, g4, g5, by rw [if_pos rfl, g6, Option.some.inj h]; exact q⟩
      · cases h
    · rename_i kvs ev
      rw [ev] at wy
      obtain ⟨a, ks, e1, e2, e3⟩ := wy
      split at h
      · rename_i hk
        obtain ⟨k, hk⟩ := isKey_some hk
        refine .inr ⟨a, valV ks k, e1, by rw [key_rel hk rx]; exact DGet.k e2, ?_⟩
        have hv := RKs.val hk e3
        rw [if_pos rfl]
        cases eg : getD x kvs with
        | none =>
          rw [eg] at hv h
          rw [hv]
          cases h
          exact q
        | some z =>
          rw [eg] at hv h
          obtain ⟨v, hv, _⟩ := hv
          rw [hv]
          cases h
          exact q
      · cases h
    · cases h

end
section
variable {S : SD} {X : Cx} {W : WX} {E : Ev} {ea eb ec : Expr} {es : List Expr} {a b c : ME} {pos : Pos} {o o' : COp}
def evCmp (E : Ev) (o : COp) (a b : ME) : Rho → MH → Out PV := fun ρ M => (E.e a ρ M).bind fun x M1 => (E.e b ρ M1).bind fun y M2 => (match cmpOp o x y M2 with
    | some r => .val (.bl r) M2
    | none => .stuck)
theorem cmp_two (ha : PE X ea (tE S X.K W (E.e a))) (hb : PE X eb (tE S X.K W (E.e b))) {σ : L2.St} {H : Hp} {Q : VK} (h : tE S X.K W (evCmp E o a b) σ H Q) : tOp (rCmp o X.K) (tE S X.K W (E.e a)) (tE S X.K W (E.e b)) σ H Q := by
  obtain ⟨F, ι, Z, M, ρ, s, l, p⟩ := h
  refine tO.at s l p fun ι1 Z1 M1 H1 x x' q1 st1 s1 l1 r1 p1 => ?_
  refine tO.at s1 l1 p1 fun ι2 Z2 M2 H2 y y' q2 st2 s2 l2 r2 p2 => ?_
  split at p2
  · rename_i r hr
    exact cmp_rel (σ := σ) s2 (r1.mono st2.bars q2) r2 hr (PostO.fin (W := W) p2 s2 (.bl r))
  · exact p2.elim
theorem e_cmp (hu : X.A.units + 65 < cLine) (ha : PE X ea (tE S X.K W (E.e a))) (hb : PE X eb (tE S X.K W (E.e b))) (hm : behindInMarks (opC o) eb = false) : PE X (.Compare ea [opC o] [eb] pos) (tE S X.K W (evCmp E o a b)) :=
  pe_imp (pe_cmpR (op_cmp hu o) ha hb hm) fun σ H Q h => cmp_two ha hb h
/-- a value that is a bool, as a test -/
theorem tB_of {f : Rho → MH → Out PV} {σ : L2.St} {H : Hp} {Q : Bool → Hp → Prop} (h : tT S X.K W (fun ρ M => (f ρ M).bind fun x M1 => match x with | .bl b => .val b M1 | _ => .stuck) σ H Q) :
    tE S X.K W f σ H fun x H1 => ∃ k, x = .bl k ∧ Q k H1 := by
  obtain ⟨F, ι, Z, M, ρ, s, l, p⟩ := h
  refine tO.at s l p fun ι1 Z1 M1 H1 x x' q1 st1 s1 l1 r1 p1 => ?_
  split at p1
  · cases r1
    exact ⟨_, rfl, PostO.fin (W := W) p1 s1 rfl⟩
  · exact p1.elim
theorem t_cmp (hu : X.A.units + 65 < cLine) (ha : PE X ea (tE S X.K W (E.e a))) (hb : PE X eb (tE S X.K W (E.e b))) (hm : behindInMarks (opC o) eb = false) :
    PT X (.Compare ea [opC o] [eb] pos) (tT S X.K W fun ρ M => (evCmp E o a b ρ M).bind fun x M1 => match x with | .bl b => .val b M1 | _ => .stuck) :=
  pt_imp (pt_cmpR (op_cmp hu o) ha hb hm) fun σ H Q h => cmp_two ha hb (tB_of h)
/-- any expression whose value is a bool, as a test -/
theorem t_val {f : Rho → MH → Out PV} (ha : PE X ea (tE S X.K W f)) (he : ∀ whole, isTrue ea X.env whole = (do let v ← whole; standAt ea.pos; holding [v] (truthy v))) :
    PT X ea (tT S X.K W fun ρ M => (f ρ M).bind fun x M1 => match x with | .bl b => .val b M1 | _ => .stuck) :=
  pt_imp (pt_val ha he) fun σ H Q h => tB_of h
def evChain (E : Ev) (o o' : COp) (a b c : ME) : Rho → MH → Out PV := fun ρ M => (E.e a ρ M).bind fun x M1 => (E.e b ρ M1).bind fun y M2 => (match cmpOp o x y M2 with
    | some true => (E.e c ρ M2).bind fun z M3 => (match cmpOp o' y z M3 with
      | some r => .val (.bl r) M3
      | none => .stuck)
    | some false => .val (.bl false) M2
    | none => .stuck)
theorem chain_ok {σ : L2.St} {H : Hp} {Q : VK} (h : tE S X.K W (evChain E o o' a b c) σ H Q) : tChain (rCmp o X.K) (rCmp o' X.K) (tE S X.K W (E.e a)) (tE S X.K W (E.e b)) (tE S X.K W (E.e c)) σ H Q := by
  obtain ⟨F, ι, Z, M, ρ, s, l, p⟩ := h
  refine tO.at s l p fun ι1 Z1 M1 H1 x x' q1 st1 s1 l1 r1 p1 => ?_
  refine tO.at s1 l1 p1 fun ι2 Z2 M2 H2 y y' q2 st2 s2 l2 r2 p2 => ?_
  split at p2
  · rename_i hr
    refine cmp_rel (σ := σ) s2 (r1.mono st2.bars q2) r2 hr ⟨true, rfl, ?_⟩
    rw [if_pos rfl]
    refine tO.at s2 l2 p2 fun ι3 Z3 M3 H3 z z' q3 st3 s3 l3 r3 p3 => ?_
    split at p3
    · rename_i r hr2
      exact cmp_rel (σ := σ) s3 (r2.mono st3.bars q3) r3 hr2 (PostO.fin (W := W) p3 s3 (.bl r))
    · exact p3.elim
  · rename_i hr
    refine cmp_rel (σ := σ) s2 (r1.mono st2.bars q2) r2 hr ⟨false, rfl, ?_⟩
    rw [if_neg Bool.false_ne_true]
    exact PostO.fin (W := W) p2 s2 (.bl false)
  · exact p2.elim
end
end Mp
end

section
set_option Elab.async false
set_option linter.all false
set_option maxRecDepth 100000
set_option maxHeartbeats 2000000
/-! Mp8: and, or, not, if-else, subscripts, slices, fields as readings by the evaluator. -/
namespace Mp
open PySem PySem.Spec PyProof.Rows L2

theorem ix_dict {X : Cx} (hu : X.A.units + 1 < cLine) : IxR X (fun x y H Q => ∃ a v, x = .ref a ∧ DGet H a y (some v) ∧ Q v H) := by
  intro value slice pins s σ H x y v u Q I rx ry h hs
  obtain ⟨a, z, rfl, g, q⟩ := h
  obtain rfl : v = Value.ref a := rx
  exact tail_any (dict_typeIs I g) PySem.F.slot_dict_getitem.lookup (d_getItem hu I g ry fun w' s3 I3 rw' => ⟨z, H, I3, rw', q⟩) hs

section
variable {S : SD} {X : Cx} {W : WX} {E : Ev} {ea eb ec : Expr} {es : List Expr} {a b c : ME} {pos : Pos}
def toB {α : Type} (k : Bool → MH → Out α) : PV → MH → Out α := fun x M1 => match x with | .bl b => k b M1 | _ => .stuck
/-- what is known of an expression: its value, and as a test -/
structure RE (S : SD) (X : Cx) (W : WX) (f : Rho → MH → Out PV) (e : Expr) : Prop where
  v : PE X e (tE S X.K W f)
  t : PT X e (tT S X.K W fun ρ M => (f ρ M).bind (toB fun b M => .val b M))
inductive AllE (R : Expr → ME → Prop) : List Expr → List ME → Prop
  | nil : AllE R [] []
  | cons {e : Expr} {m : ME} {es : List Expr} {ms : List ME} (h : R e m) (r : AllE R es ms) : AllE R (e :: es) (m :: ms)
theorem e_and : ∀ {es : List Expr} {ms : List ME}, AllE (fun e m => RE S X W (E.e m) e) es ms → ms ≠ [] → PE X (.BoolOp .And es pos) (tE S X.K W (evAnd E ms))
  | _, _, .nil, h => absurd rfl h
  | _, _, .cons h .nil, _ => pe_one h.v
  | _, _, .cons h (.cons h2 r), _ => by
    refine pe_imp (pe_and h.v (e_and (.cons h2 r) (List.cons_ne_nil _ _))) fun σ H Q ⟨F, ι, Z, M, ρ, s, l, p⟩ => ?_
    refine tO.at s l p fun ι1 Z1 M1 H1 x x' q1 st1 s1 l1 r1 p1 => ?_
    split at p1
    · cases r1
      exact ⟨true, rfl, by rw [if_pos rfl]; exact tO.of s1 l1 p1⟩
    · cases r1
      exact ⟨false, rfl, by rw [if_neg Bool.false_ne_true]; exact PostO.fin (W := W) p1 s1 (.bl false)⟩
    · exact p1.elim
theorem e_or : ∀ {es : List Expr} {ms : List ME}, AllE (fun e m => RE S X W (E.e m) e) es ms → ms ≠ [] → PE X (.BoolOp .Or es pos) (tE S X.K W (evOr E ms))
  | _, _, .nil, h => absurd rfl h
  | _, _, .cons h .nil, _ => pe_one h.v
  | _, _, .cons h (.cons h2 r), _ => by
    refine pe_imp (pe_or h.v (e_or (.cons h2 r) (List.cons_ne_nil _ _))) fun σ H Q ⟨F, ι, Z, M, ρ, s, l, p⟩ => ?_
    refine tO.at s l p fun ι1 Z1 M1 H1 x x' q1 st1 s1 l1 r1 p1 => ?_
    split at p1
    · cases r1
      exact ⟨false, rfl, by rw [if_neg Bool.false_ne_true]; exact tO.of s1 l1 p1⟩
    · cases r1
      exact ⟨true, rfl, by rw [if_pos rfl]; exact PostO.fin (W := W) p1 s1 (.bl true)⟩
    · exact p1.elim
theorem bind_assoc {α β γ : Type} (o : Out α) (f : α → MH → Out β) (g : β → MH → Out γ) : (o.bind f).bind g = o.bind fun a M => (f a M).bind g := by
  cases o <;> rfl
abbrev vB : Bool → MH → Out Bool := fun b M => .val b M
theorem evAnd_test (m m2 : ME) (ms : List ME) (ρ : Rho) (M : MH) : (evAnd E (m :: m2 :: ms) ρ M).bind (toB vB) = ((E.e m ρ M).bind (toB vB)).bind fun k M1 => if k then (evAnd E (m2 :: ms) ρ M1).bind (toB vB) else .val false M1 := by
  show ((E.e m ρ M).bind fun x M1 => match x with | .bl true => evAnd E (m2 :: ms) ρ M1 | .bl false => .val (.bl false) M1 | _ => .stuck).bind (toB vB) = _
  cases E.e m ρ M with
  | stuck => rfl
  | exc x M' => rfl
  | val x M' =>
    cases x with
    | bl k => cases k <;> rfl
    | _ => rfl
theorem evOr_test (m m2 : ME) (ms : List ME) (ρ : Rho) (M : MH) : (evOr E (m :: m2 :: ms) ρ M).bind (toB vB) = ((E.e m ρ M).bind (toB vB)).bind fun k M1 => if k then .val true M1 else (evOr E (m2 :: ms) ρ M1).bind (toB vB) := by
  show ((E.e m ρ M).bind fun x M1 => match x with | .bl false => evOr E (m2 :: ms) ρ M1 | .bl true => .val (.bl true) M1 | _ => .stuck).bind (toB vB) = _
  cases E.e m ρ M with
  | stuck => rfl
  | exc x M' => rfl
  | val x M' =>
    cases x with
    | bl k => cases k <;> rfl
    | _ => rfl
theorem w_and : ∀ {es : List Expr} {ms : List ME}, AllE (fun e m => RE S X W (E.e m) e) es ms → ms ≠ [] → PW X (.BoolOp .And es pos) (tT S X.K W fun ρ M => (evAnd E ms ρ M).bind (toB vB))
  | _, _, .nil, h => absurd rfl h
  | _, _, .cons h .nil, _ => pw_and1 h.t
  | _, _, @AllE.cons _ e m _ _ h (.cons h2 r), _ => by
    refine pw_imp (pw_and h.t (w_and (.cons h2 r) (List.cons_ne_nil _ _))) fun σ H Q ⟨F, ι, Z, M, ρ, s, l, p⟩ => ?_
    dsimp only at p
    rw [evAnd_test] at p
    refine tO.at s l p fun ι1 Z1 M1 H1 x x' q1 st1 s1 l1 r1 p1 => ?_
    subst r1
    cases x with
    | true => rw [if_pos rfl] at p1 ⊢; exact tO.of s1 l1 p1
    | false => rw [if_neg Bool.false_ne_true] at p1 ⊢; exact PostO.fin (W := W) p1 s1 rfl
theorem w_or : ∀ {es : List Expr} {ms : List ME}, AllE (fun e m => RE S X W (E.e m) e) es ms → ms ≠ [] → PW X (.BoolOp .Or es pos) (tT S X.K W fun ρ M => (evOr E ms ρ M).bind (toB vB))
  | _, _, .nil, h => absurd rfl h
  | _, _, .cons h .nil, _ => pw_or1 h.t
  | _, _, @AllE.cons _ e m _ _ h (.cons h2 r), _ => by
    refine pw_imp (pw_or h.t (w_or (.cons h2 r) (List.cons_ne_nil _ _))) fun σ H Q ⟨F, ι, Z, M, ρ, s, l, p⟩ => ?_
    dsimp only at p
    rw [evOr_test] at p
    refine tO.at s l p fun ι1 Z1 M1 H1 x x' q1 st1 s1 l1 r1 p1 => ?_
    subst r1
    cases x with
    | true => rw [if_pos rfl] at p1 ⊢; exact PostO.fin (W := W) p1 s1 rfl
    | false => rw [if_neg Bool.false_ne_true] at p1 ⊢; exact tO.of s1 l1 p1
theorem r_and {ms : List ME} (h : AllE (fun e m => RE S X W (E.e m) e) es ms) (ne : ms ≠ []) : RE S X W (evAnd E ms) (.BoolOp .And es pos) := ⟨e_and h ne, (w_and h ne).pt⟩
theorem r_or {ms : List ME} (h : AllE (fun e m => RE S X W (E.e m) e) es ms) (ne : ms ≠ []) : RE S X W (evOr E ms) (.BoolOp .Or es pos) := ⟨e_or h ne, (w_or h ne).pt⟩
theorem not_test (a : ME) (ρ : Rho) (M : MH) : ((evT E a ρ M).bind fun b M1 => Out.val (PV.bl (!b)) M1).bind (toB vB) = ((E.e a ρ M).bind (toB vB)).bind fun k M1 => .val (!k) M1 := by
  unfold evT
  cases E.e a ρ M with
  | stuck => rfl
  | exc x M' => rfl
  | val x M' => cases x <;> rfl
theorem r_not (h : RE S X W (E.e a) ea) : RE S X W (fun ρ M => (evT E a ρ M).bind fun b M1 => .val (.bl (!b)) M1) (.UnaryOp .Not ea pos) := by
  refine ⟨pe_imp (pe_not h.v) fun σ H Q ⟨F, ι, Z, M, ρ, s, l, p⟩ => ?_, pt_imp (pt_not h.t) fun σ H Q ⟨F, ι, Z, M, ρ, s, l, p⟩ => ?_⟩
  · dsimp only at p
    unfold evT at p
    rw [bind_assoc] at p
    refine tO.at s l p fun ι1 Z1 M1 H1 x x' q1 st1 s1 l1 r1 p1 => ?_
    cases x with
    | bl k =>
      cases r1
      exact ⟨k, rfl, PostO.fin (W := W) p1 s1 (.bl _)⟩
    | _ => exact False.elim p1
  · dsimp only at p
    rw [not_test] at p
    refine tO.at s l p fun ι1 Z1 M1 H1 x x' q1 st1 s1 l1 r1 p1 => ?_
    subst r1
    exact PostO.fin (W := W) p1 s1 rfl
theorem r_cmp {o : COp} (hu : X.A.units + 65 < cLine) (ha : PE X ea (tE S X.K W (E.e a))) (hb : PE X eb (tE S X.K W (E.e b))) (hm : behindInMarks (opC o) eb = false) : RE S X W (evCmp E o a b) (.Compare ea [opC o] [eb] pos) :=
  ⟨e_cmp hu ha hb hm, t_cmp hu ha hb hm⟩
theorem r_chain {o o' : COp} (hu : X.A.units + 65 < cLine) (ha : PE X ea (tE S X.K W (E.e a))) (hb : PE X eb (tE S X.K W (E.e b))) (hc : PE X ec (tE S X.K W (E.e c))) (hm : lastMarks [opC o, opC o'] [eb, ec] = false) :
    RE S X W (evChain E o o' a b c) (.Compare ea [opC o, opC o'] [eb, ec] pos) :=
  ⟨pe_imp (pe_chain (op_cmp hu o) (op_cmp hu o') ha hb hc hm) fun σ H Q h => chain_ok h, pt_imp (pt_chain (op_cmp hu o) (op_cmp hu o') ha hb hc hm) fun σ H Q h => chain_ok (tB_of h)⟩
/-- an expression without a way of its own as a test -/
def plT : Expr → Bool
  | .UnaryOp .Not _ _ => false
  | .BoolOp _ _ _ => false
  | .IfExp _ _ _ _ => false
  | .Compare _ _ _ _ => false
  | _ => true
theorem plT_true {e : Expr} (h : plT e = true) (env : Env) : ∀ whole, isTrue e env whole = (do let v ← whole; standAt e.pos; holding [v] (truthy v)) := by
  intro whole
  cases e with
  | UnaryOp op x pos => cases op <;> first | rfl | cases h
  | _ => first | rfl | cases h
theorem r_val {f : Rho → MH → Out PV} (h : PE X ea (tE S X.K W f)) (hp : plT ea = true) : RE S X W f ea := ⟨h, t_val h (plT_true hp X.env)⟩
theorem ite_test {f g : Rho → MH → Out PV} (cc : ME) (ρ : Rho) (M : MH) : ((evT E cc ρ M).bind fun r M1 => if r then f ρ M1 else g ρ M1).bind (toB vB) = ((E.e cc ρ M).bind (toB vB)).bind fun k M1 => if k then (f ρ M1).bind (toB vB) else (g ρ M1).bind (toB vB) := by
  unfold evT
  cases E.e cc ρ M with
  | stuck => rfl
  | exc x M' => rfl
  | val x M' =>
    cases x with
    | bl k => cases k <;> rfl
    | _ => rfl
/-- a if t else b, as a value -/
theorem e_ite (hc : RE S X W (E.e c) ec) (ha : PE X ea (tE S X.K W (E.e a))) (hb : PE X eb (tE S X.K W (E.e b))) : PE X (.IfExp ec ea eb pos) (tE S X.K W fun ρ M => (evT E c ρ M).bind fun r M1 => if r then E.e a ρ M1 else E.e b ρ M1) := by
  refine pe_imp (pe_ifExp hc.t ha hb) fun σ H Q ⟨F, ι, Z, M, ρ, s, l, p⟩ => ?_
  refine tO.at s l p fun ι1 Z1 M1 H1 x x' q1 st1 s1 l1 r1 p1 => ?_
  subst r1
  cases x with
  | true => exact tO.of s1 l1 p1
  | false => exact tO.of s1 l1 p1

theorem t_ite (hc : RE S X W (E.e c) ec) (ha : RE S X W (E.e a) ea) (hb : RE S X W (E.e b) eb) : PT X (.IfExp ec ea eb pos) (tT S X.K W fun ρ M => ((evT E c ρ M).bind fun r M1 => if r then E.e a ρ M1 else E.e b ρ M1).bind (toB vB)) := by
  refine ⟨fun pins s σ H Q I ⟨F, ι, Z, M, ρ, s, l, p⟩ => ?_⟩
  dsimp only at p
  rw [ite_test] at p
  have hq : tT S X.K W (fun ρ M => (E.e c ρ M).bind (toB vB)) σ H fun k H1 => if k = true then tT S X.K W (fun ρ M => (E.e a ρ M).bind (toB vB)) σ H1 Q else tT S X.K W (fun ρ M => (E.e b ρ M).bind (toB vB)) σ H1 Q := by
    refine tO.at s l p fun ι1 Z1 M1 H1 x x' q1 st1 s1 l1 r1 p1 => ?_
    subst r1
    cases x with
    | true => rw [if_pos rfl] at p1 ⊢; exact tO.of s1 l1 p1
    | false => rw [if_neg Bool.false_ne_true] at p1 ⊢; exact tO.of s1 l1 p1
  refine PyProof.Rows.isTrue_IfExp (thn (hc.t.run pins _ σ H _ I hq) fun d s1 ⟨H1, I1, q1⟩ => ?_)
  cases d with
  | true =>
    rw [if_pos rfl] at q1
    exact ha.t.run pins s1 σ H1 Q I1 q1
  | false =>
    rw [if_neg Bool.false_ne_true] at q1
    exact hb.t.run pins s1 σ H1 Q I1 q1
theorem r_ite (hc : RE S X W (E.e c) ec) (ha : RE S X W (E.e a) ea) (hb : RE S X W (E.e b) eb) : RE S X W (fun ρ M => (evT E c ρ M).bind fun r M1 => if r then E.e a ρ M1 else E.e b ρ M1) (.IfExp ec ea eb pos) := ⟨e_ite hc ha.v hb.v, t_ite hc ha hb⟩
/-! ### subscripts, slices -/
theorem plainIx_of {b : Expr} (h : plE b = true) : PlainIx b := by
  intro o i
  cases b <;> first | rfl | cases h
theorem atI_of {xs : List PV} {vs : List V} {K : PySem.W.Frag} {ι : List Addr} {B : Addr → Prop} {H : Hp} {i : Int} {j : Nat} {x : PV} (r : RVs K S.CA ι B H xs vs) (h : ixOf xs.length i = some j) (h2 : xs[j]? = some x) : ∃ v, atI vs i = some v ∧ RV K S.CA ι B H x v := by
  obtain ⟨v, e, r'⟩ := r.get h2
  refine ⟨v, ?_, r'⟩
  unfold atI
  rw [← r.length, ← ixOf_eq, h]
  exact e
theorem e_idx (hu : X.A.units + 1 < cLine) (hp : plE eb = true) (ha : PE X ea (tE S X.K W (E.e a))) (hb : PE X eb (tE S X.K W (E.e b))) :
    PE X (.Subscript ea eb pos) (tE S X.K W fun ρ M => (E.e a ρ M).bind fun x M1 => (E.e b ρ M1).bind fun y M2 => (match getI x y M2 with
    | some v => .val v M2
    | none => .stuck)) := by
  refine e_two (pe_ix (ix_seq.or (ix_dict hu)) ha hb (plainIx_of hp)) fun σ F ι Z M H x y x' y' Q s rx ry p => ?_
  have wx := s.view rx
  split at p
  · rename_i v hv
    unfold getI at hv
    split at hv
    · rename_i xs i ev
      rw [ev] at wx
      obtain ⟨ad, vs, e1, h1, r1⟩ := RV.tupI wx
      cases ry
      split at hv
      · rename_i j hj
        obtain ⟨w, e2, r2⟩ := atI_of r1 hj hv
        exact .inl (.inr (.inl ⟨ad, vs, i, w, e1, rfl, h1, e2, PostO.fin (W := W) p s r2⟩))
      · cases hv
    · rename_i xs i ev
      rw [ev] at wx
      obtain ⟨ad, vs, e1, h1, r1⟩ := wx
      cases ry
      split at hv
      · rename_i j hj
        obtain ⟨w, e2, r2⟩ := atI_of r1 hj hv
        exact .inl (.inl ⟨ad, vs, i, w, e1, rfl, SqL.of h1, e2, PostO.fin (W := W) p s r2⟩)
      · cases hv
    · rename_i ns i ev
      rw [ev] at wx
      obtain ⟨ad, e1, h1⟩ := wx
      cases ry
      split at hv
      · rename_i j hj
        have r1 := RVs.ints (K := X.K) (CA := S.CA) (ι := ι) (B := bar F Z) (H := H) ns
        obtain ⟨w, e2, r2⟩ := atI_of (i := i) (j := j) r1 (by rw [List.length_map]; exact hj) hv
        exact .inl (.inl ⟨ad, _, i, w, e1, rfl, h1, e2, PostO.fin (W := W) p s r2⟩)
      · cases hv
    · rename_i kvs k _ ev
      rw [ev] at wx
      obtain ⟨ad, ks, e1, h1, r1⟩ := wx
      split at hv
      · rename_i hk
        obtain ⟨q, hq⟩ := isKey_some hk
        have h3 := RKs.val hq r1
        rw [hv] at h3
        obtain ⟨w, e2, r2⟩ := h3
        exact .inr ⟨ad, w, e1, by rw [key_rel hq ry, ← e2]; exact DGet.k h1, PostO.fin (W := W) p s r2⟩
      · cases hv
    · cases hv
  · exact p.elim
/-- a bound of a slice -/
theorem o_none : PO X none (tO S X.K W REq (evOpt E none)) := ⟨fun pins s σ H Q I ⟨F, ι, Z, M, ρ, s', l, p⟩ => (po_none (X := X)).run pins s σ H Q I (PostO.fin (W := W) p s' rfl)⟩
theorem o_some (ha : PE X ea (tE S X.K W (E.e a))) : PO X (some ea) (tO S X.K W REq (evOpt E (some a))) := by
  refine ⟨fun pins s σ H Q I ⟨F, ι, Z, M, ρ, s', l, p⟩ => (po_some ha).run pins s σ H Q I ?_⟩
  refine tO.at s' l p fun ι1 Z1 M1 H1 x x' q1 st1 s1 l1 r1 p1 => ?_
  split at p1
  · cases r1
    exact ⟨_, rfl, PostO.fin (W := W) p1 s1 rfl⟩
  · exact p1.elim
theorem cut_ints (ns : List Int) (lo hi : Option Int) : (cutL ns lo hi).map V.int = cutV (ns.map V.int) lo hi := by
  rw [← cut_eq]
  unfold cutL
  rw [List.map_take, List.map_drop, List.length_map]
theorem e_slc {el eh : Option Expr} {lo hi : Option ME} {p2 : Pos} (ha : PE X ea (tE S X.K W (E.e a))) (hl : PO X el (tO S X.K W REq (evOpt E lo))) (hh : PO X eh (tO S X.K W REq (evOpt E hi))) :
    PE X (.Subscript ea (.Slice el eh none p2) pos) (tE S X.K W fun ρ M => (E.e a ρ M).bind fun x M1 => (evOpt E lo ρ M1).bind fun l M2 => (evOpt E hi ρ M2).bind fun h M3 => (match view M3 x with
    | .tup xs => .val (.tup (cutL xs l h)) M3
    | .lst xs => newL false (cutL xs l h) M3
    | .scr ns => newL false ((cutL ns l h).map .int) M3
    | _ => .stuck)) := by
  refine pe_imp (pe_slice (sl_list.or sl_tupA) ha hl hh) fun σ H Q ⟨F, ι, Z, M, ρ, s, l, p⟩ => ?_
  refine tO.at s l p fun ι1 Z1 M1 H1 x x' q1 st1 s1 l1 r1 p1 => ?_
  refine tO.at s1 l1 p1 fun ι2 Z2 M2 H2 u u' q2 st2 s2 l2 r2 p2 => ?_
  refine tO.at s2 l2 p2 fun ι3 Z3 M3 H3 v v' q3 st3 s3 l3 r3 p3 => ?_
  subst r2 r3
  have rx := (r1.mono st2.bars q2).mono st3.bars q3
  have wx := s3.view rx
  split at p3
  · rename_i xs ev
    rw [ev] at wx
    have wx' : RV X.K S.CA ι3 (bar F Z3) H3 (.tup xs) x' := wx
    obtain ⟨ad, vs, e1, h1, rr⟩ := RV.tupI wx'
    subst e1
    refine .inr ⟨ad, vs, rfl, h1, fun hw => ?_, fun hw p hp => ?_⟩
    · have e2 : cutL xs u v = xs := by
        unfold cutL
        rw [cutIx_eq, cutIx_eq, rr.length, hw.1, hw.2, ← rr.length]
        simp
      rw [e2] at p3
      exact PostO.fin (W := W) p3 s3 wx'
    · have k := upd_ext (o := HO.tup (cutV vs u v)) hp
      rw [← cut_eq] at k ⊢
      exact PostO.finE (W := W) p3 s3 k (.tup upd_same (not_bar_new s3 hp) ((rr.cut u v).later k))
  · rename_i xs ev
    rw [ev] at wx
    obtain ⟨ad, vs, e1, h1, rr⟩ := wx
    obtain ⟨g1, g2⟩ := newL_ok p3 s3 (rr.cut u v)
    exact .inl ⟨ad, vs, e1, SqL.of h1, by rw [← cut_eq]; exact g2⟩
  · rename_i ns ev
    rw [ev] at wx
    obtain ⟨ad, e1, h1⟩ := wx
    obtain ⟨g1, g2⟩ := newL_ok p3 s3 (RVs.ints _)
    exact .inl ⟨ad, _, e1, h1, by rw [← cut_ints]; exact g2⟩
  · exact p3.elim
end
end Mp
end

section
set_option Elab.async false
set_option linter.all false
set_option maxRecDepth 100000
set_option maxHeartbeats 2000000
/-! Mp9: fields, isinstance, built-ins as readings by the evaluator. -/
namespace Mp
open PySem PySem.Spec PyProof.Rows L2

def tyV (CA : Nat → Addr) : Ty → V
  | .int => .ty "int"
  | .str => .ty "str"
  | .bool => .ty "bool"
  | .tuple => .ty "tuple"
  | .list => .ty "list"
  | .dict => .ty "dict"
  | .own c => .ref (CA c)
def tyU (CA : Nat → Addr) : Ty → Value
  | .int => .type "int"
  | .str => .type "str"
  | .bool => .type "bool"
  | .tuple => .type "tuple"
  | .list => .type "list"
  | .dict => .type "dict"
  | .own c => .ref (CA c)
def kU (CA : Nat → Addr) : TyK → Value
  | .non => .type "NoneType"
  | .bool => .type "bool"
  | .int => .type "int"
  | .str => .type "str"
  | .tuple => .type "tuple"
  | .list => .type "list"
  | .dict => .type "dict"
  | .own c => .ref (CA c)
theorem RFs.get {K : PySem.W.Frag} {CA : Nat → Addr} {ι : List Addr} {B : Addr → Prop} {H : Hp} : ∀ {fs : List PV} {vs : List (Option V)} {i : Nat} {x : PV}, RFs K CA ι B H fs vs → fs[i]? = some x → ∃ v, vs[i]? = some (some v) ∧ RV K CA ι B H x v
  | _, _, _, _, .nil, e => by simp at e
  | _, _, 0, _, .cons h _, e => by
    simp at e
    subst e
    exact ⟨_, rfl, h⟩
  | _, _, i + 1, _, .cons _ r, e => by
    obtain ⟨v, e2, h⟩ := RFs.get (i := i) r (by simpa using e)
    exact ⟨v, by simpa using e2, h⟩
theorem ty_cls (CA : Nat → Addr) (t : Ty) : ClsV (tyV CA t) (tyU CA t) := by
  cases t <;> first | exact .ty _ | exact .own _
theorem ty_clss (CA : Nat → Addr) : ∀ ts : List Ty, Paired ClsV (ts.map (tyV CA)) (ts.map (tyU CA))
  | [] => .nil
  | t :: ts => .cons (ty_cls CA t) (ty_clss CA ts)
theorem ty_rel (CA : Nat → Addr) (t : Ty) : RelV (tyV CA t) (tyU CA t) := by
  cases t <;> rfl
theorem ty_one (CA : Nat → Addr) (t : Ty) : ∀ w, RelV (tyV CA t) w → w = tyU CA t := by
  cases t <;> exact fun w h => h
def kIn (n : Nat) : TyK → Prop
  | .own c => c < n
  | _ => True
def tIn (n : Nat) : Ty → Prop
  | .own c => c < n
  | _ => True
/-- what the written part has to show -/
structure KF (S : SD) (K : PySem.W.Frag) : Prop where
  isi : ∀ k t, kIn S.P.cls.length k → tIn S.P.cls.length t → PySem.W.kitOne K (kU S.CA k) (tyU S.CA t) = some (tyIs k t)
  cls : ∀ c, c < S.P.cls.length → SlX.SCls K (S.CA c) ∧ SlX.SIsi K (S.CA c)
  fld : ∀ c k f i, S.P.cls[c]? = some k → k.fld.lookup f = some i → ∃ p, SlX.Slot1 K (S.CA c) (S.fld f) p i
theorem isi_any {S : SD} {K : PySem.W.Frag} (F : KF S K) {k : TyK} (hk : kIn S.P.cls.length k) : ∀ {ts : List Ty}, (∀ t, t ∈ ts → tIn S.P.cls.length t) → PySem.W.kitAny K (kU S.CA k) (ts.map (tyU S.CA)) = some (ts.any (tyIs k))
  | [], _ => kitAny_nil
  | t :: ts, h => by
    refine kitAny_cons (b := tyIs k t) (F.isi k t hk (h t List.mem_cons_self)) (fun e => ?_) fun e => ?_
    · rw [List.any_cons, e]
      exact isi_any F hk fun u hu => h u (List.mem_cons_of_mem _ hu)
    · rw [List.any_cons, e]
      rfl
section
variable {S : SD} {K : PySem.W.Frag} {ι : List Addr} {F Z : Addr → Prop} {H : Hp} {M : MH}
/-- what is seen of a value's type -/
theorem kind_ok (s : Sim K S.CA F ι Z M H) {x : PV} {v : V} {n : Nat} {k : TyK} (r : RV K S.CA ι (bar F Z) H x v) (e : kindOf n M x = some k) : kIn n k ∧ (TyX K H v (kU S.CA k) ∨ ∃ c a dx vs, k = .own c ∧ v = .ref a ∧ SlX.Slt H a (S.CA c) dx vs) := by
  have w := s.view r
  unfold kindOf at e
  cases ev : view M x <;> rw [ev] at e w <;> (try cases e)
  · cases (show v = .non from w); exact ⟨trivial, .inl (.base .non)⟩
  · cases (show v = .bl _ from w); exact ⟨trivial, .inl (.base (.bl _))⟩
  · cases (show v = .int _ from w); exact ⟨trivial, .inl (.base (.int _))⟩
  · cases (show v = .str _ from w); exact ⟨trivial, .inl (.base (.str _))⟩
  · obtain ⟨a, vs, e1, h1, _⟩ := RV.tupI w
    subst e1
    refine ⟨trivial, .inl ?_⟩
    rcases h1 with h1 | ⟨o, its, n, h1, h2, _⟩
    · rcases h1 with h1 | ⟨o, h1⟩
      · exact .base (.tup h1)
      · exact .fTuple h1
    · exact .kTuple h1 h2
  · obtain ⟨a, vs, e1, h1, _⟩ := w
    subst e1
    exact ⟨trivial, .inl (.base (.lst h1))⟩
  · obtain ⟨a, vs, e1, h1, _⟩ := w
    subst e1
    exact ⟨trivial, .inl (.base (.dK h1))⟩
  · obtain ⟨a, dx, vs, e1, h1, _⟩ := w
    dsimp only at e
    split at e
    · rename_i hb
      cases e
      exact ⟨Nat.blt_eq.mp hb, .inr ⟨_, a, dx, vs, rfl, e1, h1⟩⟩
    · cases e
  · obtain ⟨a, e1, h1⟩ := w
    subst e1
    refine ⟨trivial, .inl ?_⟩
    rcases h1 with h1 | ⟨o, its, n, h1, h2, _⟩
    · rcases h1 with h1 | ⟨o, h1⟩
      · exact .base (.lst h1)
      · exact .base (.frz h1)
    · exact .kList h1 h2
end
section
variable {S : SD} {X : Cx} {W : WX} {E : Ev} {ea eb ec : Expr} {es : List Expr} {a b c : ME} {pos : Pos}
/-! ### fields -/
theorem e_att {fi : Nat} (F : KF S X.K) (ha : PE X ea (tE S X.K W (E.e a))) (hb : attributeBase ea (S.fld fi) X.env (eval ea X.env) = eval ea X.env) :
    PE X (.Attribute ea (S.fld fi) pos) (tE S X.K W fun ρ M => (E.e a ρ M).bind fun x M1 => (match view M1 x with
    | .obj c fs => (match S.P.cls[c]? with
      | some k => (match k.fld.lookup fi with
        | some i => (match fs[i]? with
          | some v => .val v M1
          | none => .stuck)
        | none => .stuck)
      | none => .stuck)
    | _ => .stuck)) := by
  refine pe_imp (SlX.pe_sl ha hb) fun σ H Q ⟨F0, ι, Z, M, ρ, s, l, p⟩ => ?_
  refine tO.at s l p fun ι1 Z1 M1 H1 x x' q1 st1 s1 l1 r1 p1 => ?_
  have w := s1.view r1
  split at p1
  · rename_i c fs ev
    rw [ev] at w
    obtain ⟨ad, dx, vs, e1, h1, rf⟩ := w
    split at p1
    · rename_i k hk
      split at p1
      · rename_i i hi
        split at p1
        · rename_i v hv
          obtain ⟨pp, sl⟩ := F.fld c k fi i hk hi
          obtain ⟨v', e2, r2⟩ := RFs.get rf hv
          have hc : c < S.P.cls.length := (List.getElem?_eq_some_iff.mp hk).1
          exact ⟨ad, S.CA c, dx, pp, vs, i, v', e1, h1, (F.cls c hc).1, sl, e2, PostO.fin (W := W) p1 s1 r2⟩
        · exact p1.elim
      · exact p1.elim
    · exact p1.elim
  · exact p1.elim

/-! ### calls of built-ins -/
theorem backs_pl {pos : Pos} {env : Env} : ∀ {es : List Expr}, es.all plE = true → (backTo pos (starEach es env)).any (·.1) = false
  | [], _ => rfl
  | e :: es, h => by
    rw [List.all_cons, Bool.and_eq_true] at h
    rw [star_pl h.1]
    show (false || (backTo pos (starEach es env)).any (·.1)) = false
    rw [backs_pl h.2]
    rfl
theorem e_fnB {id : String} {x : PySem.Str} {px : Pos} {rr : List V → Hp → VK → Prop} {ms : List ME} {g : List PV → MH → Out PV} (hc : CallR X (.builtin id) rr) (hg : Gl X x) (hm : X.mg x = none) (hv : bootBuiltins x = some (.builtin id))
    (hn : x ≠ "__name__") (hdb : (x == ("__debug__" : Str)) = false) (hp : (ea :: es).all plE = true) (ha : PA X (ea :: es) (tEs S X.K W (evArgs E ms)))
    (hk : ∀ σ F ι Z M H xs vs Q, Sim X.K S.CA F ι Z M H → RVs X.K S.CA ι (bar F Z) H xs vs → PO1 S X.K W (RVo S X.K) σ F ι Z H (g xs M) Q → rr vs H Q) :
    PE X (.Call (.Name x px) (ea :: es) [] pos) (tE S X.K W fun ρ M => (evArgs E ms ρ M).bind fun xs M1 => g xs M1) := by
  have hp1 : plE ea = true := (Bool.and_eq_true_iff.mp (by rw [List.all_cons] at hp; exact hp)).1
  have hp2 : es.all plE = true := (Bool.and_eq_true_iff.mp (by rw [List.all_cons] at hp; exact hp)).2
  refine pe_imp (pe_callB hc hg hm hv ha hn hdb (star_pl hp1 es X.env) (backs_pl hp2)) fun σ H Q ⟨F, ι, Z, M, ρ, s, l, p⟩ => ?_
  exact tO.at s l p fun ι1 Z1 M1 H1 xs vs q1 st1 s1 l1 r1 p1 => hk σ F ι1 Z1 M1 H1 xs vs Q s1 r1 p1
theorem e_fnT {id : String} {x : PySem.Str} {px : Pos} {rr : List V → Hp → VK → Prop} {ms : List ME} {g : List PV → MH → Out PV} (hc : CallR X (.type id) rr) (hg : Gl X x) (hm : X.mg x = none) (hv : bootBuiltins x = some (.type id))
    (hn : x ≠ "__name__") (hdb : (x == ("__debug__" : Str)) = false) (hp : (ea :: es).all plE = true) (ha : PA X (ea :: es) (tEs S X.K W (evArgs E ms)))
    (hk : ∀ σ F ι Z M H xs vs Q, Sim X.K S.CA F ι Z M H → RVs X.K S.CA ι (bar F Z) H xs vs → PO1 S X.K W (RVo S X.K) σ F ι Z H (g xs M) Q → rr vs H Q) :
    PE X (.Call (.Name x px) (ea :: es) [] pos) (tE S X.K W fun ρ M => (evArgs E ms ρ M).bind fun xs M1 => g xs M1) := by
  have hp1 : plE ea = true := (Bool.and_eq_true_iff.mp (by rw [List.all_cons] at hp; exact hp)).1
  have hp2 : es.all plE = true := (Bool.and_eq_true_iff.mp (by rw [List.all_cons] at hp; exact hp)).2
  refine pe_imp (pe_callTy hc hg hm hv ha hn hdb (star_pl hp1 es X.env) (backs_pl hp2)) fun σ H Q ⟨F, ι, Z, M, ρ, s, l, p⟩ => ?_
  exact tO.at s l p fun ι1 Z1 M1 H1 xs vs q1 st1 s1 l1 r1 p1 => hk σ F ι1 Z1 M1 H1 xs vs Q s1 r1 p1
end
section
variable {S : SD} {K : PySem.W.Frag} {W : WX} {σ : L2.St} {F : Addr → Prop} {ι : List Addr} {Z : Addr → Prop} {M : MH} {H : Hp} {Q : VK}
theorem sees_seq (s : Sim K S.CA F ι Z M H) {x : PV} {v : V} (r : RV K S.CA ι (bar F Z) H x v) {ys : List PV} (e : readL M x = some ys) : ∃ p vs, v = .ref p ∧ (SqL K H p vs ∨ SqT K H p vs) ∧ RVs K S.CA ι (bar F Z) H ys vs := s.readL r e
theorem sees_lst (s : Sim K S.CA F ι Z M H) {x : PV} {v : V} (r : RV K S.CA ι (bar F Z) H x v) {ys : List PV} (e : readLL M x = some ys) : ∃ p vs, v = .ref p ∧ SqL K H p vs ∧ RVs K S.CA ι (bar F Z) H ys vs := by
  have w := s.view r
  unfold readLL at e
  cases q : Mp.view M x <;> rw [q] at e w <;> try cases e
  · obtain ⟨a, vs, h1, h2, h3⟩ := w
    exact ⟨a, vs, h1, SqL.of h2, h3⟩
  · obtain ⟨a, h1, h2⟩ := w
    exact ⟨a, _, h1, h2, RVs.ints _⟩
theorem ints_rel {B : Addr → Prop} : ∀ {xs : List PV} {vs : List V} {is : List Int}, RVs K S.CA ι B H xs vs → intsOf xs = some is → xs = is.map PV.int ∧ vs = is.map V.int
  | [], _, is, .nil, e => by
    cases e
    exact ⟨rfl, rfl⟩
  | x :: xs, _, is, .cons h r, e => by
    cases x <;> (try (cases e; done))
    rename_i i
    unfold intsOf at e
    cases q : intsOf xs with
    | none =>
      rw [q] at e
      cases e
    | some js =>
      rw [q] at e
      cases e
      cases h
      obtain ⟨e1, e2⟩ := ints_rel r q
      rw [e1, e2]
      exact ⟨rfl, rfl⟩
theorem bools_rel {B : Addr → Prop} : ∀ {xs : List PV} {vs : List V} {is : List Bool}, RVs K S.CA ι B H xs vs → boolsOf xs = some is → vs = is.map V.bl
  | [], _, is, .nil, e => by
    cases e
    rfl
  | x :: xs, _, is, .cons h r, e => by
    cases x <;> (try (cases e; done))
    rename_i i
    unfold boolsOf at e
    cases q : boolsOf xs with
    | none =>
      rw [q] at e
      cases e
    | some js =>
      rw [q] at e
      cases e
      cases h
      rw [bools_rel r q]
      rfl
end
theorem sumI_eq : ∀ ns : List Int, sumI ns = ns.sum
  | [] => rfl
  | n :: ns => by
    unfold sumI
    rw [sumI_eq ns, List.sum_cons]
theorem insI_perm (a : Int) : ∀ ns : List Int, (insI a ns).Perm (a :: ns)
  | [] => List.Perm.refl _
  | b :: r => by
    unfold insI
    split
    · exact List.Perm.refl _
    · exact ((insI_perm a r).cons b).trans (List.Perm.swap a b r)
theorem sortI_perm : ∀ ns : List Int, (sortI ns).Perm ns
  | [] => List.Perm.refl _
  | a :: r => (insI_perm a _).trans ((sortI_perm r).cons a)
theorem insI_pw (a : Int) : ∀ ns : List Int, ns.Pairwise (· ≤ ·) → (insI a ns).Pairwise (· ≤ ·)
  | [], _ => by
    unfold insI
    exact List.pairwise_singleton _ _
  | b :: r, h => by
    unfold insI
    rw [List.pairwise_cons] at h
    split
    · rename_i hab
      refine List.pairwise_cons.mpr ⟨fun c hc => ?_, List.pairwise_cons.mpr h⟩
      rcases List.mem_cons.mp hc with e | hc
      · rw [e]; exact hab
      · exact Int.le_trans hab (h.1 c hc)
    · rename_i hab
      refine List.pairwise_cons.mpr ⟨fun c hc => ?_, insI_pw a r h.2⟩
      rcases List.mem_cons.mp ((insI_perm a r).mem_iff.mp hc) with e | hc
      · rw [e]; omega
      · exact h.1 c hc
theorem sortI_pw : ∀ ns : List Int, (sortI ns).Pairwise (· ≤ ·)
  | [] => List.Pairwise.nil
  | a :: r => insI_pw a _ (sortI_pw r)
theorem sortI_only {ns ms : List Int} (p : ms.Perm ns) (h : ms.Pairwise (· ≤ ·)) : ms = sortI ns :=
  List.Perm.eq_of_pairwise (fun _ _ _ _ h1 h2 => Int.le_antisymm h1 h2) h (sortI_pw ns) (p.trans (sortI_perm ns).symm)
theorem insU_mem (a c : Int) : ∀ ns : List Int, c ∈ insU a ns ↔ c = a ∨ c ∈ ns
  | [] => by simp [insU]
  | b :: r => by
    unfold insU
    split
    · simp
    · split
      · rename_i e
        subst e
        simp
      · rw [List.mem_cons, insU_mem a c r, List.mem_cons]
        constructor
        · rintro (h | h | h)
          · exact .inr (.inl h)
          · exact .inl h
          · exact .inr (.inr h)
        · rintro (h | h | h)
          · exact .inr (.inl h)
          · exact .inl h
          · exact .inr (.inr h)
theorem sortU_mem (c : Int) : ∀ ns : List Int, c ∈ sortU ns ↔ c ∈ ns
  | [] => Iff.rfl
  | a :: r => by
    unfold sortU
    rw [insU_mem, sortU_mem c r, List.mem_cons]
theorem insU_pw (a : Int) : ∀ ns : List Int, ns.Pairwise (· < ·) → (insU a ns).Pairwise (· < ·)
  | [], _ => by
    unfold insU
    exact List.pairwise_singleton _ _
  | b :: r, h => by
    unfold insU
    rw [List.pairwise_cons] at h
    split
    · rename_i hab
      refine List.pairwise_cons.mpr ⟨fun c hc => ?_, List.pairwise_cons.mpr h⟩
      rcases List.mem_cons.mp hc with e | hc
      · rw [e]; exact hab
      · exact Int.lt_trans hab (h.1 c hc)
    · split
      · exact List.pairwise_cons.mpr h
      · rename_i h1 h2
        refine List.pairwise_cons.mpr ⟨fun c hc => ?_, insU_pw a r h.2⟩
        rcases (insU_mem a c r).mp hc with e | hc
        · rw [e]; omega
        · exact h.1 c hc
theorem sortU_pw : ∀ ns : List Int, (sortU ns).Pairwise (· < ·)
  | [] => List.Pairwise.nil
  | a :: r => insU_pw a _ (sortU_pw r)
theorem pw_ext : ∀ {xs ys : List Int}, xs.Pairwise (· < ·) → ys.Pairwise (· < ·) → (∀ c, c ∈ xs ↔ c ∈ ys) → xs = ys
  | [], [], _, _, _ => rfl
  | [], y :: ys, _, _, h => absurd ((h y).mpr List.mem_cons_self) (List.not_mem_nil)
  | x :: xs, [], _, _, h => absurd ((h x).mp List.mem_cons_self) (List.not_mem_nil)
  | x :: xs, y :: ys, h1, h2, h => by
    rw [List.pairwise_cons] at h1 h2
    have e : x = y := by
      rcases List.mem_cons.mp ((h x).mp List.mem_cons_self) with e | hx
      · exact e
      · rcases List.mem_cons.mp ((h y).mpr List.mem_cons_self) with e | hy
        · exact e.symm
        · have a1 := h1.1 y hy
          have a2 := h2.1 x hx
          omega
    subst e
    refine congrArg (x :: ·) (pw_ext h1.2 h2.2 fun c => ⟨fun hc => ?_, fun hc => ?_⟩)
    · rcases List.mem_cons.mp ((h c).mp (List.mem_cons_of_mem _ hc)) with e | hc'
      · have := h1.1 c hc
        omega
      · exact hc'
    · rcases List.mem_cons.mp ((h c).mpr (List.mem_cons_of_mem _ hc)) with e | hc'
      · have := h2.1 c hc
        omega
      · exact hc'
end Mp
end

section
set_option Elab.async false
set_option linter.all false
set_option maxRecDepth 100000
set_option maxHeartbeats 2000000
/-! Mp10: isinstance, len, list, tuple, sorted, sum, min, max, all, any, int, append. -/
namespace Mp
open PySem PySem.Spec PyProof.Rows L2

/-- the built-in names that are read -/
def bltNames : List PySem.Str := ["isinstance", "len", "list", "tuple", "sorted", "set", "sum", "min", "max", "all", "any", "int", "range", "enumerate", "zip", "str", "bool", "dict"]
/-- what a context has to show -/
structure CF (S : SD) (X : Cx) : Prop where
  hu : X.A.units + 65 < cLine
  calm : X.calm = true
  mg : ∀ x, x ∈ bltNames → X.mg x = none
  kf : KF S X.K
theorem mem_of {x : PySem.Str} {l : List PySem.Str} (h : l.contains x = true) : x ∈ l := by simpa using h
theorem bt_isi : bootBuiltins "isinstance" = some (.builtin "isinstance") := by decide +kernel
theorem bt_len : bootBuiltins "len" = some (.builtin "len") := by decide +kernel
theorem bt_list : bootBuiltins "list" = some (.type "list") := by decide +kernel
theorem bt_tuple : bootBuiltins "tuple" = some (.type "tuple") := by decide +kernel
theorem bt_sorted : bootBuiltins "sorted" = some (.builtin "sorted") := by decide +kernel
theorem bt_set : bootBuiltins "set" = some (.type "set") := by decide +kernel
theorem bt_sum : bootBuiltins "sum" = some (.builtin "sum") := by decide +kernel
theorem bt_min : bootBuiltins "min" = some (.builtin "min") := by decide +kernel
theorem bt_max : bootBuiltins "max" = some (.builtin "max") := by decide +kernel
theorem bt_all : bootBuiltins "all" = some (.builtin "all") := by decide +kernel
theorem bt_any : bootBuiltins "any" = some (.builtin "any") := by decide +kernel
theorem bt_int : bootBuiltins "int" = some (.type "int") := by decide +kernel
theorem bt_range : bootBuiltins "range" = some (.type "range") := by decide +kernel
theorem bt_str : bootBuiltins "str" = some (.type "str") := by decide +kernel
theorem bt_bool : bootBuiltins "bool" = some (.type "bool") := by decide +kernel
theorem bt_dict : bootBuiltins "dict" = some (.type "dict") := by decide +kernel
section
variable {S : SD} {X : Cx} {W : WX} {E : Ev} {ea eb ec : Expr} {es : List Expr} {a b c : ME} {pos px : Pos} {ms : List ME} {m : Bool}
theorem CF.mg' (C : CF S X) (x : PySem.Str) (h : bltNames.contains x = true) : X.mg x = none := C.mg x (mem_of h)
theorem x_len (C : CF S X) (hg : Gl X "len") (hp : (ea :: es).all plE = true) (ha : PA X (ea :: es) (tEs S X.K W (evArgs E ms))) :
    PE X (.Call (.Name "len" px) (ea :: es) [] pos) (tE S X.K W fun ρ M => (evArgs E ms ρ M).bind fun xs M1 => bltF .len m xs M1) := by
  refine e_fnB call_len hg (C.mg' _ (by decide +kernel)) bt_len (by decide) (by decide) hp ha fun σ F ι Z M H xs vs Q s r p => ?_
  replace p : PO1 S X.K W (RVo S X.K) σ F ι Z H (bLen xs M) Q := p
  unfold bLen at p
  split at p <;> (try exact p.elim)
  cases r with
  | cons rx rr =>
    cases rr
    have w := s.view rx
    split at p
    · rename_i ys ev
      rw [ev] at w
      obtain ⟨ad, ws, e1, e2, e3⟩ := RV.tupI w
      subst e1
      exact ⟨_, ws.length, rfl, .inr ⟨ws, e2, rfl⟩, by rw [← e3.length]; exact PostO.fin (W := W) p s (.int _)⟩
    · rename_i ys ev
      rw [ev] at w
      obtain ⟨ad, ws, e1, e2, e3⟩ := w
      subst e1
      exact ⟨_, ws.length, rfl, .inl ⟨ws, SqL.of e2, rfl⟩, by rw [← e3.length]; exact PostO.fin (W := W) p s (.int _)⟩
    · rename_i ns ev
      rw [ev] at w
      obtain ⟨ad, e1, e2⟩ := w
      subst e1
      exact ⟨_, ns.length, rfl, .inl ⟨_, e2, by rw [List.length_map]⟩, PostO.fin (W := W) p s (.int _)⟩
    · exact p.elim
theorem x_list (C : CF S X) (hg : Gl X "list") (hp : (ea :: es).all plE = true) (ha : PA X (ea :: es) (tEs S X.K W (evArgs E ms))) :
    PE X (.Call (.Name "list" px) (ea :: es) [] pos) (tE S X.K W fun ρ M => (evArgs E ms ρ M).bind fun xs M1 => bltF .list m xs M1) := by
  refine e_fnT call_list_of hg (C.mg' _ (by decide +kernel)) bt_list (by decide) (by decide) hp ha fun σ F ι Z M H xs vs Q s r p => ?_
  replace p : PO1 S X.K W (RVo S X.K) σ F ι Z H (bList m xs M) Q := p
  unfold bList at p
  split at p <;> (try exact p.elim)
  cases r with
  | cons rx rr =>
    cases rr
    split at p
    · rename_i ys e
      obtain ⟨ad, ws, e1, e2, e3⟩ := sees_seq s rx e
      subst e1
      exact ⟨ad, ws, rfl, e2, (newL_ok p s e3).2⟩
    · exact p.elim
theorem x_tuple (C : CF S X) (hg : Gl X "tuple") (hp : (ea :: es).all plE = true) (ha : PA X (ea :: es) (tEs S X.K W (evArgs E ms))) :
    PE X (.Call (.Name "tuple" px) (ea :: es) [] pos) (tE S X.K W fun ρ M => (evArgs E ms ρ M).bind fun xs M1 => bltF .tuple m xs M1) := by
  refine e_fnT call_tuple_of hg (C.mg' _ (by decide +kernel)) bt_tuple (by decide) (by decide) hp ha fun σ F ι Z M H xs vs Q s r p => ?_
  replace p : PO1 S X.K W (RVo S X.K) σ F ι Z H (bTuple xs M) Q := p
  unfold bTuple at p
  split at p <;> (try exact p.elim)
  cases r with
  | cons rx rr =>
    cases rr
    split at p
    · rename_i ys e
      have w := s.view rx
      unfold readL at e
      split at p
      · cases q : view M _ <;> rw [q] at e w <;> try cases e
        · have w' : RV X.K S.CA ι (bar F Z) H (.tup _) _ := w
          obtain ⟨ad, ws, e1, e2, e3⟩ := RV.tupI w'
          subst e1
          exact ⟨ad, ws, rfl, .inr ⟨e2, PostO.fin (W := W) p s w'⟩⟩
        · obtain ⟨ad, ws, e1, e2, e3⟩ := w
          subst e1
          refine ⟨ad, ws, rfl, .inl ⟨SqL.of e2, fun q hq => ?_⟩⟩
          have k := upd_ext (o := HO.tup ws) hq
          exact PostO.finE (W := W) p s k (.tup upd_same (not_bar_new s hq) (e3.later k))
        · obtain ⟨ad, e1, e2⟩ := w
          subst e1
          refine ⟨ad, _, rfl, .inl ⟨e2, fun q hq => ?_⟩⟩
          have k := upd_ext (o := HO.tup ((‹List Int›).map V.int)) hq
          exact PostO.finE (W := W) p s k (.tup upd_same (not_bar_new s hq) (RVs.ints _))
      · exact p.elim
    · exact p.elim
theorem x_sorted (C : CF S X) (hg : Gl X "sorted") (hp : (ea :: es).all plE = true) (ha : PA X (ea :: es) (tEs S X.K W (evArgs E ms))) :
    PE X (.Call (.Name "sorted" px) (ea :: es) [] pos) (tE S X.K W fun ρ M => (evArgs E ms ρ M).bind fun xs M1 => bltF .sorted m xs M1) := by
  refine e_fnB cr_sorted hg (C.mg' _ (by decide +kernel)) bt_sorted (by decide) (by decide) hp ha fun σ F ι Z M H xs vs Q s r p => ?_
  replace p : PO1 S X.K W (RVo S X.K) σ F ι Z H (bSorted m xs M) Q := p
  unfold bSorted at p
  split at p <;> (try exact p.elim)
  cases r with
  | cons rx rr =>
    cases rr
    split at p
    · rename_i ys e
      obtain ⟨ad, ws, e1, e2, e3⟩ := sees_lst s rx e
      subst e1
      split at p
      · rename_i is ei
        obtain ⟨e4, e5⟩ := ints_rel e3 ei
        subst e4 e5
        split at p
        · rename_i h64
          refine ⟨ad, is, rfl, e2, h64, fun ns' q pm pw hq => ?_⟩
          rw [sortI_only pm pw]
          exact (newL_ok p s (RVs.ints _)).2 q hq
        · exact p.elim
      · exact p.elim
    · exact p.elim
theorem x_sum (C : CF S X) (hg : Gl X "sum") (hp : (ea :: es).all plE = true) (ha : PA X (ea :: es) (tEs S X.K W (evArgs E ms))) :
    PE X (.Call (.Name "sum" px) (ea :: es) [] pos) (tE S X.K W fun ρ M => (evArgs E ms ρ M).bind fun xs M1 => bltF .sum m xs M1) := by
  refine e_fnB (cr_sum C.calm) hg (C.mg' _ (by decide +kernel)) bt_sum (by decide) (by decide) hp ha fun σ F ι Z M H xs vs Q s r p => ?_
  replace p : PO1 S X.K W (RVo S X.K) σ F ι Z H (bSum xs M) Q := p
  unfold bSum at p
  split at p <;> (try exact p.elim)
  cases r with
  | cons rx rr =>
    cases rr
    split at p
    · rename_i ys e
      obtain ⟨ad, ws, e1, e2, e3⟩ := sees_lst s rx e
      subst e1
      split at p
      · rename_i is ei
        obtain ⟨e4, e5⟩ := ints_rel e3 ei
        subst e4 e5
        refine ⟨ad, is, rfl, e2, ?_⟩
        rw [sumI_eq] at p
        exact PostO.fin (W := W) p s (.int _)
      · exact p.elim
    · exact p.elim
theorem x_all (C : CF S X) (hg : Gl X "all") (hp : (ea :: es).all plE = true) (ha : PA X (ea :: es) (tEs S X.K W (evArgs E ms))) :
    PE X (.Call (.Name "all" px) (ea :: es) [] pos) (tE S X.K W fun ρ M => (evArgs E ms ρ M).bind fun xs M1 => bltF .all m xs M1) := by
  refine e_fnB (cr_all C.calm) hg (C.mg' _ (by decide +kernel)) bt_all (by decide) (by decide) hp ha fun σ F ι Z M H xs vs Q s r p => ?_
  replace p : PO1 S X.K W (RVo S X.K) σ F ι Z H (bAll xs M) Q := p
  unfold bAll at p
  split at p <;> (try exact p.elim)
  cases r with
  | cons rx rr =>
    cases rr
    split at p
    · rename_i ys e
      obtain ⟨ad, ws, e1, e2, e3⟩ := sees_lst s rx e
      subst e1
      split at p
      · rename_i is ei
        have e5 := bools_rel e3 ei
        subst e5
        exact ⟨ad, is, rfl, e2, PostO.fin (W := W) p s (.bl _)⟩
      · exact p.elim
    · exact p.elim
theorem x_any (C : CF S X) (hg : Gl X "any") (hp : (ea :: es).all plE = true) (ha : PA X (ea :: es) (tEs S X.K W (evArgs E ms))) :
    PE X (.Call (.Name "any" px) (ea :: es) [] pos) (tE S X.K W fun ρ M => (evArgs E ms ρ M).bind fun xs M1 => bltF .any m xs M1) := by
  refine e_fnB (cr_any C.calm) hg (C.mg' _ (by decide +kernel)) bt_any (by decide) (by decide) hp ha fun σ F ι Z M H xs vs Q s r p => ?_
  replace p : PO1 S X.K W (RVo S X.K) σ F ι Z H (bAny xs M) Q := p
  unfold bAny at p
  split at p <;> (try exact p.elim)
  cases r with
  | cons rx rr =>
    cases rr
    split at p
    · rename_i ys e
      obtain ⟨ad, ws, e1, e2, e3⟩ := sees_lst s rx e
      subst e1
      split at p
      · rename_i is ei
        have e5 := bools_rel e3 ei
        subst e5
        exact ⟨ad, is, rfl, e2, PostO.fin (W := W) p s (.bl _)⟩
      · exact p.elim
    · exact p.elim
theorem x_min2 (C : CF S X) (hg : Gl X "min") (hp : (ea :: es).all plE = true) (ha : PA X (ea :: es) (tEs S X.K W (evArgs E ms))) :
    PE X (.Call (.Name "min" px) (ea :: es) [] pos) (tE S X.K W fun ρ M => (evArgs E ms ρ M).bind fun xs M1 => bltF .min2 m xs M1) := by
  refine e_fnB (call_min2 C.calm) hg (C.mg' _ (by decide +kernel)) bt_min (by decide) (by decide) hp ha fun σ F ι Z M H xs vs Q s r p => ?_
  replace p : PO1 S X.K W (RVo S X.K) σ F ι Z H (bMin2 xs M) Q := p
  unfold bMin2 at p
  split at p <;> (try exact p.elim)
  cases r with
  | cons rx rr =>
    cases rr with
    | cons ry rr =>
      cases rr
      cases rx
      cases ry
      exact ⟨_, _, rfl, PostO.fin (W := W) p s (.int _)⟩
theorem x_max2 (C : CF S X) (hg : Gl X "max") (hp : (ea :: es).all plE = true) (ha : PA X (ea :: es) (tEs S X.K W (evArgs E ms))) :
    PE X (.Call (.Name "max" px) (ea :: es) [] pos) (tE S X.K W fun ρ M => (evArgs E ms ρ M).bind fun xs M1 => bltF .max2 m xs M1) := by
  refine e_fnB (call_max2 C.calm) hg (C.mg' _ (by decide +kernel)) bt_max (by decide) (by decide) hp ha fun σ F ι Z M H xs vs Q s r p => ?_
  replace p : PO1 S X.K W (RVo S X.K) σ F ι Z H (bMax2 xs M) Q := p
  unfold bMax2 at p
  split at p <;> (try exact p.elim)
  cases r with
  | cons rx rr =>
    cases rr with
    | cons ry rr =>
      cases rr
      cases rx
      cases ry
      exact ⟨_, _, rfl, PostO.fin (W := W) p s (.int _)⟩
theorem x_int (C : CF S X) (hg : Gl X "int") (hp : (ea :: es).all plE = true) (ha : PA X (ea :: es) (tEs S X.K W (evArgs E ms))) :
    PE X (.Call (.Name "int" px) (ea :: es) [] pos) (tE S X.K W fun ρ M => (evArgs E ms ρ M).bind fun xs M1 => bltF .int m xs M1) := by
  refine e_fnT call_int1 hg (C.mg' _ (by decide +kernel)) bt_int (by decide) (by decide) hp ha fun σ F ι Z M H xs vs Q s r p => ?_
  replace p : PO1 S X.K W (RVo S X.K) σ F ι Z H (bInt xs M) Q := p
  unfold bInt at p
  split at p <;> (try exact p.elim)
  all_goals
    cases r with
    | cons rx rr =>
      cases rr
      cases rx
      first
        | exact .inl ⟨_, rfl, PostO.fin (W := W) p s (.int _)⟩
        | exact .inr ⟨_, rfl, PostO.fin (W := W) p s (.int _)⟩
/-! ### isinstance -/
/-- a class's name -/
theorem pe_tyB {x : PySem.Str} {id : String} (C : CF S X) (hx : bltNames.contains x = true) (hg : Gl X x) (hv : bootBuiltins x = some (.type id)) (hn : x ≠ "__name__") (hdb : (x == ("__debug__" : Str)) = false) : PE X (.Name x px) (tC (.ty id)) :=
  ⟨fun _ _ _ H _ I h => ld_blt I hg (C.mg' x hx) hv ⟨.ty id, H, I, rfl, h⟩ hn hdb⟩
inductive AllTy (X : Cx) (CA : Nat → Addr) : List Expr → List Ty → Prop
  | nil : AllTy X CA [] []
  | cons {e : Expr} {t : Ty} {es : List Expr} {ts : List Ty} (hp : plE e = true) (h : PE X e (tC (tyV CA t))) (r : AllTy X CA es ts) : AllTy X CA (e :: es) (t :: ts)
theorem pa_tys {CA : Nat → Addr} : ∀ {es : List Expr} {ts : List Ty}, AllTy X CA es ts → PA X es fun _ H Q => Q (ts.map (tyV CA)) H
  | _, _, .nil => pa_nil
  | _, _, .cons hp h r => pa_imp (pa_cons h (pa_tys r) (star_pl hp _ X.env)) fun σ H Q q => q
theorem e_isi1 {t : Ty} (C : CF S X) (hg : Gl X "isinstance") (hp : plE ea = true) (ht : tIn S.P.cls.length t) (ha : PE X ea (tE S X.K W (E.e a))) (hpc : plE ec = true) (hc : PE X ec (tC (tyV S.CA t))) :
    PE X (.Call (.Name "isinstance" px) [ea, ec] [] pos) (tE S X.K W fun ρ M => (E.e a ρ M).bind fun x M1 => (match typAny S.P.cls.length M1 x [t] with
      | some b => .val (.bl b) M1
      | none => .stuck)) := by
  have hp2 : [ec].all plE = true := by rw [List.all_cons, hpc]; rfl
  refine pe_imp (pe_callB (call_isi.or (SlX.call_isiSl (tyU S.CA t))) hg (C.mg' _ (by decide +kernel)) bt_isi (pa_cons ha (pa_cons hc pa_nil (star_pl hpc [] X.env)) (star_pl hp [ec] X.env)) (by decide) (by decide) (star_pl hp [ec] X.env) (backs_pl hp2))
    fun σ H Q ⟨F, ι, Z, M, ρ, s, l, p⟩ => ?_
  refine tO.at s l p fun ι1 Z1 M1 H1 x x' q1 st1 s1 l1 r1 p1 => ?_
  unfold typAny at p1
  split at p1
  · rename_i b hb
    split at hb
    · rename_i k hk
      obtain ⟨k1, k2⟩ := kind_ok s1 r1 hk
      have hki := C.kf.isi k t k1 ht
      have e : b = tyIs k t := by
        rw [← Option.some.inj hb]
        simp
      subst e
      have q := PostO.fin (W := W) p1 s1 (.bl _)
      rcases k2 with k2 | ⟨c, ad, dx, vs, e1, e2, k2⟩
      · exact .inl ⟨x', tyV S.CA t, kU S.CA k, tyU S.CA t, _, rfl, ty_cls S.CA t, k2, hki, q⟩
      · subst e1 e2
        obtain ⟨c1, c2⟩ := C.kf.cls c k1
        exact .inr ⟨ad, S.CA c, dx, vs, _, _, rfl, ty_rel S.CA t, ty_one S.CA t, k2, c1, c2, hki, q⟩
    · cases hb
  · exact p1.elim
/-! ### append -/
theorem lst_at {K : PySem.W.Frag} {F : Addr → Prop} {ι : List Addr} {Z : Addr → Prop} {M : MH} {H : Hp} (s : Sim K S.CA F ι Z M H) {x : PV} {v : V} (r : RV K S.CA ι (bar F Z) H x v) (h : isLst x M = true) :
    ∃ n ys ad vs, x = .ref n ∧ M[n]? = some (.lst ys) ∧ ι[n]? = some ad ∧ v = .ref ad ∧ Z ad ∧ H ad = some (.lst vs) ∧ RVs K S.CA ι (bar F Z) H ys vs := by
  cases r with
  | @ref n a e =>
    unfold isLst at h
    dsimp only at h
    split at h
    · rename_i ys hm
      obtain ⟨b, e2, z, vs, h1, r⟩ := s.obj n _ hm
      rw [e] at e2
      cases e2
      exact ⟨n, ys, a, vs, rfl, hm, e, rfl, z, h1, r⟩
    · cases h
  | _ => cases h
theorem e_append (ha : PE X ea (tE S X.K W (E.e a))) {apos : Pos} (hp : (eb :: es).all plE = true) (hl : (eb :: es).length < 20) (hline : (apos.endLine == pos.line) = true) (hbase : attributeBase ea "append" X.env (eval ea X.env) = eval ea X.env)
    (hr : PA X (eb :: es) (tEs S X.K W (evArgs E ms))) : PE X (.Call (.Attribute ea "append" apos) (eb :: es) [] pos) (tE S X.K W fun ρ M => (E.e a ρ M).bind fun x M1 => if isLst x M1 then (evArgs E ms ρ M1).bind fun xs M2 => bmF .append x xs M2 else .stuck) := by
  have hp1 : plE eb = true := (Bool.and_eq_true_iff.mp (by rw [List.all_cons] at hp; exact hp)).1
  have hp2 : es.all plE = true := (Bool.and_eq_true_iff.mp (by rw [List.all_cons] at hp; exact hp)).2
  have few : ∀ es : List Expr, es.all plE = true → (backTo pos (starEach es X.env)).all (fun x => !x.1) = true := fun es h => by
    have := backs_pl (pos := pos) (env := X.env) h
    rw [List.any_eq_false] at this
    exact List.all_eq_true.mpr fun x hx => by
      have h2 := this x hx
      cases hx1 : x.1
      · rfl
      · exact absurd hx1 h2
  refine pe_imp (pe_bm PySem.F.plainAttrs_list PySem.F.slot_list_append PySem.F.type_list_append mt_append ha hr hbase ?_ hline (star_pl hp1 es X.env) (backs_pl hp2)) fun σ H Q ⟨F, ι, Z, M, ρ, s, l, p⟩ => ?_
  · rw [few _ hp]
    have h1 : decide ((eb :: es).length + ([] : List Keyword).length + (if ([] : List Keyword).isEmpty then 0 else 1) < 30) = true := decide_eq_true (by
      show (eb :: es).length + 0 + 0 < 30
      omega)
    rw [h1]
    rfl
  refine tO.at s l p fun ι1 Z1 M1 H1 x x' q1 st1 s1 l1 r1 p1 => ?_
  split at p1
  · rename_i hl
    obtain ⟨n, ys, ad, vs, e1, e2, e3, e4, z, h1, r2⟩ := lst_at s1 r1 hl
    refine ⟨?_, ?_⟩
    · subst e4
      exact .inl ⟨rfl, vs, SqL.of h1⟩
    · refine tO.at s1 l1 p1 fun ι2 Z2 M2 H2 xs vs2 q2 st2 s2 l2 r3 p2 => ?_
      replace p2 : PO1 S X.K W (RVo S X.K) σ F ι2 Z2 H2 (mApp x xs M2) Q := p2
      subst e1
      unfold mApp at p2
      dsimp only at p2
      split at p2
      · rename_i ys2 hm
        split at p2
        · rename_i y
          cases r3 with
          | @cons _ y' _ _ ry rr =>
            cases rr
            split at p2
            · rename_i hz
              obtain ⟨b, e5, z2, ws, h2, r4⟩ := s2.obj n _ hm
              have e6 := q2 n ad e3
              rw [e6] at e5
              cases e5
              subst e4
              refine ⟨ad, ws, y', rfl, rfl, h2, ?_, ?_⟩
              · rw [← r4.length]
                exact Nat.lt_of_lt_of_le hz (line_le (Nat.le_refl _))
              · have st : Step Z2 H2 Z2 (upd H2 ad (.lst (ws ++ [y']))) := ⟨fun b v h nz => by rw [upd_ne (fun e => nz (by rw [e]; exact z2))]; exact h, fun _ h => .inl h, fun b v h => by
                  by_cases e : b = ad
                  · exact ⟨.lst (ws ++ [y']), by rw [e]; exact upd_same⟩
                  · exact ⟨v, by rw [upd_ne e]; exact h⟩⟩
                obtain ⟨s3, st3⟩ := s2.put (u := .lst (ws ++ [y'])) (o' := .lst (ys2 ++ [y])) e6 z2 (fun u hu => by rw [h2] at hu; cases hu; refine ⟨fun y q => ?_, fun q => ?_⟩ <;> cases q) ⟨z2, _, upd_same, ((r4.append (.cons ry .nil)).mono st.bars (Pre.refl _))⟩
                exact p2 ι2 Z2 _ _ (Pre.refl _) st3 s3 .non
            · exact p2.elim
        · exact p2.elim
      · exact p2.elim
  · exact p1.elim
/-! ### list(range(n)) -/
theorem e_rlist {m : Bool} {px2 pos2 : Pos} (C : CF S X) (hg : Gl X "list") (hg2 : Gl X "range") (hp : plE ea = true) (ha : PE X ea (tE S X.K W (E.e a))) :
    PE X (.Call (.Name "list" px) [.Call (.Name "range" px2) [ea] [] pos2] [] pos) (tE S X.K W fun ρ M => (evArgs E [a] ρ M).bind fun xs M1 => bltF .rlist m xs M1) := by
  refine pe_imp (pe_listRg C.calm hg (C.mg' _ (by decide +kernel)) (prg_1 hg2 (C.mg' _ (by decide +kernel)) ha (star_pl hp [] X.env))) fun σ H Q ⟨F, ι, Z, M, ρ, s, l, p⟩ => ?_
  dsimp only [evArgs] at p
  rw [bind_assoc] at p
  refine tO.at s l p fun ι1 Z1 M1 H1 x x' q1 st1 s1 l1 r1 p1 => ?_
  replace p1 : PO1 S X.K W (RVo S X.K) σ F ι1 Z1 H1 (bRlist m [x] M1) Q := p1
  unfold bRlist at p1
  split at p1
  · rename_i n e
    cases e
    cases r1
    split at p1
    · rename_i hn
      refine ⟨n, rfl, ⟨by omega, by omega, by omega, by omega, by omega⟩, (newL_ok p1 s1 ?_).2⟩
      unfold rgV
      rw [show (n - 0).toNat = n.toNat by omega]
      have h : ∀ ks : List Nat, RVs X.K S.CA ι1 (bar F Z1) H1 (ks.map fun i : Nat => PV.int (0 + Int.ofNat i)) (ks.map fun i => V.int (0 + (i : Nat))) := fun ks => by
        induction ks with
        | nil => exact .nil
        | cons k ks ih => exact .cons (.int _) ih
      exact h _
    · exact p1.elim
  · exact p1.elim
end
end Mp
end

section
set_option Elab.async false
set_option linter.all false
set_option maxRecDepth 100000
set_option maxHeartbeats 2000000
/-! Mp11: calls of the text's own defs and classes. -/
namespace Mp
open PySem PySem.Spec PyProof.Rows L2

abbrev CT := Nat → List PV → MH → Out PV
/-- a def's promise: what the evaluator tells of it -/
def spC (S : SD) (K : PySem.W.Frag) (C : CT) (f : Nat) : Sp := fun vs H Q E => ∃ F ι Z M xs, Sim K S.CA F ι Z M H ∧ RVs K S.CA ι (bar F Z) H xs vs ∧ PostO K S.CA S.EX E (RVo S K) F ι Z H (C f xs M) Q
section
variable (S : SD) (P : Program) (w : World) (K : PySem.W.Frag) (mg : PySem.Str → Option Value) (base : Heap) (C : CT) (kd : Nat)
/-- the defaults that fill up behind m written arguments -/
def BindAt (fd : FuncData) (ps : List PySem.Str) (g : MFn) (m : Nat) : Prop := ∃ dvs ds, Vals dvs ds ∧ Binds K fd ps ds ∧ ∀ ι B H, RVs K S.CA ι B H (g.dfl.drop (m + g.dfl.length - g.np)) dvs
structure FnAt (f : Nat) (g : MFn) : Prop where
  ex : ∃ fa fd ps, FnOk P w K mg base (L2.CX P w) kd fa fd ps (spC S K C f) ∧ mg (S.fnm f) = some (.ref fa) ∧ PySem.W.keepIn K (.ref fa) = true ∧ ∀ m, m ≤ g.np → g.np ≤ m + g.dfl.length → BindAt S K fd ps g m
structure ClAt (c : Nat) (k : MCls) (g : MFn) : Prop where
  ex : ∃ fa fd ps, FnOk P w K mg base (L2.CX P w) kd fa fd ps (spC S K C k.init) ∧ mg (S.knm c) = some (.ref (S.CA c)) ∧ Mk K (S.CA c) fa ∧ ∀ m, m ≤ g.np → g.np ≤ m + g.dfl.length → BindAt S K fd ps g m
/-- all the text's defs that are called -/
structure FnsAt : Prop where
  fn : ∀ f g, S.P.fns[f]? = some g → S.fnm f ≠ "" → FnAt S P w K mg base C kd f g
  cl : ∀ c k g, S.P.cls[c]? = some k → S.P.fns[k.init]? = some g → S.knm c ≠ "" → ClAt S P w K mg base C kd c k g
end
section
variable {S : SD} {K : PySem.W.Frag} {C : CT} {F : Addr → Prop} {ι : List Addr} {Z : Addr → Prop} {M : MH} {H : Hp}
theorem Sim.bare (s : Sim K S.CA F ι Z M H) : Sim K S.CA (bar F Z) [] (fun _ => False) [] H where
  len := rfl
  nd := List.nodup_nil
  obj := fun n o e => by simp at e
  zt := fun a z => z.elim
  ft := fun a b => b.elim (s.ft a) (s.zt a)
  zf := fun a z => z.elim
  it := fun a m => absurd m List.not_mem_nil
theorem Keep.bars0 (F Z : Addr → Prop) (H : Hp) : Keep (bar F Z) H (bar (bar F Z) fun _ => False) H := fun a o e b => ⟨e, fun b' => b'.elim b fun z => z⟩
/-- a call whose objects stay its own -/
theorem pure_ok {E : XK} {W : Value → Option Addr → Hp → Prop} {f : Nat} {xs : List PV} {vs : List V} {Q : VK} (s : Sim K S.CA F ι Z M H) (r : RVs K S.CA ι (bar F Z) H xs vs) (hE : E = W)
    (p : PostO K S.CA S.EX W (RVo S K) F ι Z H (callP C f xs M) Q) : spC S K C f vs H Q E := by
  subst hE
  unfold callP at p
  cases q : frzL (frz 50) M xs with
  | none =>
    simp only [q] at p
    exact p.elim
  | some pr =>
    obtain ⟨ys, M1⟩ := pr
    simp only [q] at p
    obtain ⟨Z', le, s', r'⟩ := frzL_ok (fun S r e => frz_ok 50 S r e) s r q
    refine ⟨bar F Z', [], fun _ => False, [], ys, s'.bare, r'.mono (Keep.bars0 F Z' H) (Pre.refl []), ?_⟩
    have step : ∀ {H2 : Hp}, (∀ a o, H a = some o → H2 a = some o) → Step Z H Z' H2 := fun k => ⟨fun a o h _ => k a o h, fun a z => .inl (le a z), fun a o h => ⟨o, k a o h⟩⟩
    cases qc : C f ys [] with
    | stuck =>
      simp only [qc] at p
      exact p.elim
    | val v M2 =>
      simp only [qc] at p
      intro ι2 Z2 H2 b pre st s2 rv
      have k : ∀ a o, H a = some o → H2 a = some o := fun a o h => st.keep a o h fun z => z
      cases qf : frz 50 M2 v with
      | none =>
        simp only [qf] at p
        exact p.elim
      | some pr2 =>
        obtain ⟨w', M3⟩ := pr2
        simp only [qf] at p
        obtain ⟨Z3, le3, s3, rw'⟩ := frz_ok 50 s2 rv qf
        exact p ι Z' H2 b (Pre.refl ι) (step k) (s'.ext k) (rw'.mono (fun a o h nb => ⟨h, fun z => nb (.inl z)⟩) (Pre.nil ι))
    | exc x M2 =>
      simp only [qc] at p
      intro ι2 Z2 H2 cls d pre st s2 ex
      have k : ∀ a o, H a = some o → H2 a = some o := fun a o h => st.keep a o h fun z => z
      exact p ι Z' H2 cls d (Pre.refl ι) (step k) (s'.ext k) (S.exk _ _ _ _ _ _ ex ι _ fun a z => .inl z)
theorem own_ok {W : Value → Option Addr → Hp → Prop} {f : Nat} {xs : List PV} {vs : List V} {Q : VK} (s : Sim K S.CA F ι Z M H) (r : RVs K S.CA ι (bar F Z) H xs vs)
    (p : PostO K S.CA S.EX W (RVo S K) F ι Z H (C f xs M) Q) : spC S K C f vs H Q W := ⟨F, ι, Z, M, xs, s, r, p⟩
end
section
variable {S : SD} {X : Cx} {W : WX} {E : Ev} {C : CT} {ea : Expr} {es : List Expr} {ms : List ME} {pos px : Pos} {kd f : Nat} {g : MFn}
/-- f() -/
theorem call0_S {CX : CXT} {fa : Addr} {fd : FuncData} {ps : List PySem.Str} {sp : Sp} {dvs : List V} {ds : List Value} {E : L2.St → XK} {x : PySem.Str} (Fn : FnOk X.prog X.w X.K X.mg X.base CX kd fa fd ps sp) (hr : Room kd X.A) (hg : Gl X x) (hm : X.mg x = some (.ref fa))
    (hk : PySem.W.keepIn X.K (.ref fa) = true) (hb : Binds X.K fd ps ds) (hd : Vals dvs ds) (hx : ∀ σ, PassesAt CX X σ (E σ)) (hdb : (x == ("__debug__" : Str)) = false) : PE X (.Call (.Name x px) [] [] pos) (tCallSD sp dvs E tNil) := by
  constructor
  intro pins s σ H Q I h
  exact wpAny_Call_Name_kw (ld_glob I hg hm (PySem.W.callWith_K0 I.kIn hk (run_fnSD (us := []) Fn hr hb hd (hx σ) I .nil h)) hdb)
/-- what the evaluator does at a call -/
def evCall (S : SD) (E : Ev) (C : CT) (f : Nat) (p : Bool) (ms : List ME) : Rho → MH → Out PV := fun ρ M => (evArgs E ms ρ M).bind fun xs M1 => (match S.P.fns[f]? with
    | some g => if ms.length ≤ g.np ∧ g.np ≤ ms.length + g.dfl.length then
        (if p then callP C f (xs ++ g.dfl.drop (ms.length + g.dfl.length - g.np)) M1 else C f (xs ++ g.dfl.drop (ms.length + g.dfl.length - g.np)) M1) else .stuck
    | none => .stuck)
theorem call_imp {p : Bool} {dvs : List V} {t : TA} (hf : S.P.fns[f]? = some g) (hd : ∀ ι B H, RVs X.K S.CA ι B H (g.dfl.drop (ms.length + g.dfl.length - g.np)) dvs)
    (ht : ∀ σ H Q, tEs S X.K W (evArgs E ms) σ H Q → t σ H Q) {σ : L2.St} {H : Hp} {Q : VK} (h : tE S X.K W (evCall S E C f p ms) σ H Q) : tCallSD (spC S X.K C f) dvs (WE W) t σ H Q := by
  obtain ⟨F, ι, Z, M, ρ, s, l, h⟩ := h
  refine ht _ _ _ ?_
  refine tO.at s l h fun ι1 Z1 M1 H1 xs vs q1 st1 s1 l1 r1 p1 => ?_
  simp only [hf] at p1
  split at p1
  · split at p1
    · exact pure_ok s1 (r1.append (hd _ _ _)) rfl p1
    · exact own_ok s1 (r1.append (hd _ _ _)) p1
  · exact p1.elim
theorem e_call {p : Bool} (tk : L2.Takes X W) (hf : S.P.fns[f]? = some g) (fn : FnAt S X.prog X.w X.K X.mg X.base C kd f g) (hr : Room kd X.A) (hg : Gl X (S.fnm f)) (hdb : (S.fnm f == ("__debug__" : Str)) = false) (h1 : ms.length ≤ g.np) (h2 : g.np ≤ ms.length + g.dfl.length)
    (hp : (ea :: es).all plE = true) (ha : PA X (ea :: es) (tEs S X.K W (evArgs E ms))) : PE X (.Call (.Name (S.fnm f) px) (ea :: es) [] pos) (tE S X.K W (evCall S E C f p ms)) := by
  obtain ⟨fa, fd, ps, ok, hm, hk, hb⟩ := fn.ex
  obtain ⟨dvs, ds, hv, bd, rd⟩ := hb ms.length h1 h2
  have hp1 : plE ea = true := (Bool.and_eq_true_iff.mp (by rw [List.all_cons] at hp; exact hp)).1
  have hp2 : es.all plE = true := (Bool.and_eq_true_iff.mp (by rw [List.all_cons] at hp; exact hp)).2
  exact pe_imp (pe_callSD ok hr hg hm hk bd hv (fun σ => passAt tk σ) ha hdb (star_pl hp1 es X.env) (backs_pl hp2)) fun σ H Q h => call_imp hf rd (fun _ _ _ h => h) h
theorem e_call0 {p : Bool} (tk : L2.Takes X W) (hf : S.P.fns[f]? = some g) (fn : FnAt S X.prog X.w X.K X.mg X.base C kd f g) (hr : Room kd X.A) (hg : Gl X (S.fnm f)) (hdb : (S.fnm f == ("__debug__" : Str)) = false) (h2 : g.np ≤ g.dfl.length) :
    PE X (.Call (.Name (S.fnm f) px) [] [] pos) (tE S X.K W (evCall S E C f p [])) := by
  obtain ⟨fa, fd, ps, ok, hm, hk, hb⟩ := fn.ex
  obtain ⟨dvs, ds, hv, bd, rd⟩ := hb 0 (Nat.zero_le _) (by omega)
  refine pe_imp (call0_S ok hr hg hm hk bd hv (fun σ => passAt tk σ) hdb) fun σ H Q h => call_imp (t := tNil) hf rd (fun σ H Q h => ?_) h
  obtain ⟨F, ι, Z, M, ρ, s, l, p⟩ := h
  exact PostO.fin (W := W) p s .nil
end
end Mp
end

section
set_option Elab.async false
set_option linter.all false
set_option maxRecDepth 100000
set_option maxHeartbeats 2000000
/-! Mp12: a class is made; its slots are put. -/
namespace Mp
open PySem PySem.Spec PyProof.Rows L2

section
variable {S : SD} {K : PySem.W.Frag} {C : CT} {F : Addr → Prop} {ι : List Addr} {Z : Addr → Prop} {M : MH} {H : Hp}
theorem made_sim (s : Sim K S.CA F ι Z M H) {c : Nat} {x dx : Addr} (hx : H x = none) (hdx : H dx = none) (hne : dx ≠ x) :
    Sim K S.CA (bar F Z) [x] (fun b => b = x ∨ b = dx) [.ins c []] (upd (upd H dx (.own x)) x (.ins (S.CA c) dx [])) := by
  have e1 : upd (upd H dx (.own x)) x (.ins (S.CA c) dx []) x = some (.ins (S.CA c) dx []) := upd_same
  have e2 : upd (upd H dx (.own x)) x (.ins (S.CA c) dx []) dx = some (.own x) := by rw [upd_ne hne, upd_same]
  have e3 : ∀ a o, H a = some o → upd (upd H dx (.own x)) x (.ins (S.CA c) dx []) a = some o := fun a o h => by
    rw [upd_ne (ne_of_none h hx), upd_ne (ne_of_none h hdx)]
    exact h
  refine ⟨rfl, List.nodup_cons.mpr ⟨List.not_mem_nil, List.nodup_nil⟩, fun n o e => ?_, fun a z => ?_, fun a b => ?_, fun a z => ?_, fun a m => ?_⟩
  · cases n with
    | zero =>
      have e4 : o = .ins c [] := by simpa using e.symm
      subst e4
      exact ⟨x, rfl, .inl rfl, dx, [], hne, .inl ⟨e1, rfl, rfl, e2, .inr rfl⟩, fun i f h => by simp at h⟩
    | succ n => simp at e
  · rcases z with z | z
    · exact ⟨_, by rw [z]; exact e1⟩
    · exact ⟨_, by rw [z]; exact e2⟩
  · obtain ⟨o, h⟩ := b.elim (s.ft a) (s.zt a)
    exact ⟨o, e3 a o h⟩
  · rcases z with z | z
    · rw [z]; exact not_bar_new s hx
    · rw [z]; exact not_bar_new s hdx
  · have e4 : a = x := by simpa using m
    exact ⟨_, by rw [e4]; exact e1⟩
theorem make_ok {W : Value → Option Addr → Hp → Prop} {c : Nat} {k : MCls} {xs : List PV} {vs : List V} {Q : VK} (s : Sim K S.CA F ι Z M H) (r : RVs K S.CA ι (bar F Z) H xs vs)
    (p : PostO K S.CA S.EX W (RVo S K) F ι Z H (makeI C k c xs M) Q) {x dx : Addr} (hx : H x = none) (hdx : H dx = none) (hne : dx ≠ x) :
    spC S K C k.init (.ref x :: vs) (upd (upd H dx (.own x)) x (.ins (S.CA c) dx [])) (fun v H2 => v = .non ∧ Q (.ref x) H2) W := by
  unfold makeI at p
  cases q : frzL (frz 50) M xs with
  | none =>
    simp only [q] at p
    exact p.elim
  | some pr =>
    obtain ⟨ys, M1⟩ := pr
    simp only [q] at p
    obtain ⟨Z', le, s', r'⟩ := frzL_ok (fun S r e => frz_ok 50 S r e) s r q
    have sm := made_sim s' (c := c) hx hdx hne
    have e3 : ∀ a o, H a = some o → upd (upd H dx (.own x)) x (.ins (S.CA c) dx []) a = some o ∧ ¬ (a = x ∨ a = dx) := fun a o h => by
      have h1 := ne_of_none h hx
      have h2 := ne_of_none h hdx
      refine ⟨?_, fun z => z.elim h1 h2⟩
      rw [upd_ne h1, upd_ne h2]
      exact h
    refine ⟨bar F Z', [x], fun b => b = x ∨ b = dx, [.ins c []], .ref 0 :: ys, sm, .cons (.ref rfl) (r'.mono (fun a o h nb => ⟨(e3 a o h).1, fun b => b.elim nb (e3 a o h).2⟩) (Pre.nil _)), ?_⟩
    have step : ∀ {H2 : Hp}, (∀ a o, H a = some o → H2 a = some o) → Step Z H Z' H2 := fun k => ⟨fun a o h _ => k a o h, fun a z => .inl (le a z), fun a o h => ⟨o, k a o h⟩⟩
    cases qc : C k.init (.ref 0 :: ys) [.ins c []] with
    | stuck =>
      simp only [qc] at p
      exact p.elim
    | exc z M2 =>
      simp only [qc] at p
      intro ι2 Z2 H2 cls d pre st s2 ex
      have kp : ∀ a o, H a = some o → H2 a = some o := fun a o h => st.keep a o (e3 a o h).1 (e3 a o h).2
      exact p ι Z' H2 cls d (Pre.refl ι) (step kp) (s'.ext kp) (S.exk _ _ _ _ _ _ ex ι _ fun a z => .inl z)
    | val v M2 =>
      cases v with
      | non =>
        simp only [qc] at p
        intro ι2 Z2 H2 b pre st s2 rv
        have kp : ∀ a o, H a = some o → H2 a = some o := fun a o h => st.keep a o (e3 a o h).1 (e3 a o h).2
        cases rv
        refine ⟨rfl, ?_⟩
        cases qf : frz 50 M2 (.ref 0) with
        | none =>
          simp only [qf] at p
          exact p.elim
        | some pr2 =>
          obtain ⟨w', M3⟩ := pr2
          simp only [qf] at p
          obtain ⟨Z3, le3, s3, rw'⟩ := frz_ok 50 s2 (.ref (pre 0 x rfl)) qf
          exact p ι Z' H2 _ (Pre.refl ι) (step kp) (s'.ext kp) (rw'.mono (fun a o h nb => ⟨h, fun z => nb (.inl z)⟩) (Pre.nil ι))
      | _ =>
        simp only [qc] at p
        exact p.elim
theorem putS_old {i j : Nat} {v w : V} {vs : List (Option V)} (hj : j ≠ i) (h : vs[j]? = some (some w)) : (SlX.putS i v vs)[j]? = some (some w) := (SlX.putS_ne hj).mpr h
theorem fs_put {fs : List (Option PV)} {vs : List (Option V)} {i : Nat} {x : PV} {v : V} {R : PV → V → Prop} (h : ∀ (j : Nat) (f : PV), fs[j]? = some (some f) → ∃ w, vs[j]? = some (some w) ∧ R f w) (hx : R x v) :
    ∀ (j : Nat) (f : PV), ((fs ++ List.replicate (i + 1 - fs.length) none).set i (some x))[j]? = some (some f) → ∃ w, (SlX.putS i v vs)[j]? = some (some w) ∧ R f w := by
  intro j f e
  by_cases hj : j = i
  · subst hj
    have hl : j < (fs ++ List.replicate (j + 1 - fs.length) none).length := by
      rw [List.length_append, List.length_replicate]
      omega
    rw [List.getElem?_set_self hl] at e
    cases e
    exact ⟨v, SlX.putS_get j v vs, hx⟩
  · rw [List.getElem?_set_ne (Ne.symm hj)] at e
    have e2 : fs[j]? = some (some f) := by
      by_cases hl : j < fs.length
      · rw [List.getElem?_append_left hl] at e
        exact e
      · rw [List.getElem?_append_right (by omega), List.getElem?_replicate] at e
        split at e <;> cases e
    obtain ⟨w, e3, r⟩ := h j f e2
    exact ⟨w, putS_old hj e3, r⟩
/-- a slot of one's own instance is put -/
theorem Sim.slot (s : Sim K S.CA F ι Z M H) {n c i : Nat} {a : Addr} {fs : List (Option PV)} {x : PV} {y : V} (hn : ι[n]? = some a) (hm : M[n]? = some (.ins c fs)) (ry : RV K S.CA ι (bar F Z) H x y) :
    ∃ dx vs Z', SlX.Slt H a (S.CA c) dx vs ∧ Sim K S.CA F ι Z' (M.set n (.ins c ((fs ++ List.replicate (i + 1 - fs.length) none).set i (some x)))) (SlX.slH H a (S.CA c) dx (SlX.putS i y vs)) ∧ Step Z H Z' (SlX.slH H a (S.CA c) dx (SlX.putS i y vs)) := by
  obtain ⟨b, e2, za, dx, vs, ned, hh, hf⟩ := s.obj n _ hm
  rw [hn] at e2
  cases e2
  rcases hh with ⟨h1, h2, h3, h4, zd⟩ | ⟨h1, h2, nb⟩
  · subst h2 h3
    refine ⟨dx, [], fun b => Z b ∧ b ≠ dx, .inl ⟨h1, rfl⟩, ?_⟩
    have same : ∀ b u, H b = some u → b ≠ a → b ≠ dx → SlX.slH H a (S.CA c) dx (SlX.putS i y []) b = some u := fun b u h n1 n2 => by
      rw [SlX.slH_ne n1 n2]
      exact h
    have at_a : SlX.slH H a (S.CA c) dx (SlX.putS i y []) a = some (SlX.SlO a (S.CA c) dx (SlX.putS i y [])) := by
      unfold SlX.slH
      exact upd_same
    have at_d : SlX.slH H a (S.CA c) dx (SlX.putS i y []) dx = some (.xd []) := by
      unfold SlX.slH
      rw [upd_ne ned, upd_same]
    have there : ∀ b u, H b = some u → ∃ u', SlX.slH H a (S.CA c) dx (SlX.putS i y []) b = some u' := fun b u h => by
      by_cases e1 : b = a
      · exact ⟨_, by rw [e1]; exact at_a⟩
      · by_cases e3 : b = dx
        · exact ⟨_, by rw [e3]; exact at_d⟩
        · exact ⟨u, same b u h e1 e3⟩
    have st : Step Z H (fun b => Z b ∧ b ≠ dx) (SlX.slH H a (S.CA c) dx (SlX.putS i y [])) := ⟨fun b u h nz => same b u h (fun e => nz (by rw [e]; exact za)) fun e => nz (by rw [e]; exact zd), fun b z => .inl z.1, there⟩
    have kb := st.bars (F := F)
    refine ⟨⟨by simpa using s.len, s.nd, fun m o e => ?_, fun b z => let ⟨u, h⟩ := s.zt b z.1; there b u h, fun b z => let ⟨u, h⟩ := s.ft b z; there b u h, fun b z => s.zf b z.1, fun b z => let ⟨u, h⟩ := s.it b z; there b u h⟩, st⟩
    by_cases hmn : m = n
    · subst hmn
      have hlt : m < M.length := by simpa using (List.getElem?_eq_some_iff.mp e).1
      rw [List.getElem?_set_self hlt] at e
      cases e
      refine ⟨a, hn, ⟨za, fun e => ned e.symm⟩, dx, SlX.putS i y [], ned, .inr ⟨at_a, at_d, fun bb => bb.elim (s.zf dx zd) fun z => z.2 rfl⟩, ?_⟩
      exact fs_put (R := fun f w => RV K S.CA ι (bar F fun b => Z b ∧ b ≠ dx) (SlX.slH H a (S.CA c) dx (SlX.putS i y [])) f w) (fun j f e => by simp at e) (ry.mono kb (Pre.refl ι))
    · rw [List.getElem?_set_ne (Ne.symm hmn)] at e
      obtain ⟨b, e2, q⟩ := s.obj m o e
      have ne : b ≠ a := fun w => by
        subst w
        obtain ⟨l1, g1⟩ := List.getElem?_eq_some_iff.mp e2
        obtain ⟨l2, g2⟩ := List.getElem?_eq_some_iff.mp hn
        exact hmn ((List.getElem_inj s.nd).mp (g1.trans g2.symm))
      refine ⟨b, e2, ?_⟩
      cases o with
      | lst xs =>
        obtain ⟨z, ws, h, r⟩ := q
        have nd : b ≠ dx := fun e => by rw [e, h4] at h; cases h
        exact ⟨⟨z, nd⟩, ws, same b _ h ne nd, r.mono kb (Pre.refl ι)⟩
      | dct kvs =>
        obtain ⟨z, ws, h, r⟩ := q
        have nd : b ≠ dx := fun e => by rw [e, h4] at h; cases h
        exact ⟨⟨z, nd⟩, ws, same b _ h ne nd, r.mono kb (Pre.refl ι)⟩
      | ins c2 fs2 =>
        obtain ⟨z, dx2, ws, ned2, hh, r⟩ := q
        rcases hh with ⟨g1, g2, g3, g4, zd2⟩ | ⟨g1, g2, nb⟩
        · have nd : b ≠ dx := fun e => by rw [e, h4] at g1; cases g1
          have n1 : dx2 ≠ a := fun e => by rw [e, h1] at g4; cases g4
          have n2 : dx2 ≠ dx := fun e => by
            rw [e, h4] at g4
            cases g4
            exact ne rfl
          exact ⟨⟨z, nd⟩, dx2, ws, ned2, .inl ⟨same b _ g1 ne nd, g2, g3, same dx2 _ g4 n1 n2, zd2, n2⟩, fun j f e => let ⟨v, e2, t⟩ := r j f e; ⟨v, e2, t.mono kb (Pre.refl ι)⟩⟩
        · have nd : b ≠ dx := fun e => by
            rw [e, h4] at g1
            unfold SlX.SlO at g1
            cases g1
          exact ⟨⟨z, nd⟩, dx2, ws, ned2, .inr ⟨same b _ g1 ne nd, kb dx2 _ g2 nb⟩, fun j f e => let ⟨v, e2, t⟩ := r j f e; ⟨v, e2, t.mono kb (Pre.refl ι)⟩⟩
      | frz w =>
        obtain ⟨⟨u, hu⟩, nb, q⟩ := q
        obtain ⟨h1, h2⟩ := kb b u hu nb
        exact ⟨⟨u, h1⟩, h2, RV.mono (K := K) (CA := S.CA) kb (Pre.refl []) q⟩
  · have same : upd H dx (.xd []) = H := funext fun b => by
      by_cases e : b = dx
      · subst e
        rw [upd_same, h2]
      · rw [upd_ne e]
    have e5 : SlX.slH H a (S.CA c) dx (SlX.putS i y vs) = upd H a (SlX.SlO a (S.CA c) dx (SlX.putS i y vs)) := by
      unfold SlX.slH
      rw [same]
    refine ⟨dx, vs, Z, .inr ⟨h1, h2⟩, ?_⟩
    rw [e5]
    have st : Step Z H Z (upd H a (SlX.SlO a (S.CA c) dx (SlX.putS i y vs))) := ⟨fun b u h nz => by rw [upd_ne (fun e => nz (by rw [e]; exact za))]; exact h, fun _ h => .inl h, fun b u h => by
      by_cases e : b = a
      · exact ⟨_, by rw [e]; exact upd_same⟩
      · exact ⟨u, by rw [upd_ne e]; exact h⟩⟩
    have kb := st.bars (F := F)
    refine s.put hn za (fun u hu => ?_) ⟨za, dx, SlX.putS i y vs, ned, .inr ⟨upd_same, kb dx _ h2 nb⟩, ?_⟩
    · rw [h1] at hu
      cases hu
      refine ⟨fun z q => ?_, SlX.slO_not⟩
      unfold SlX.SlO at q
      cases q
    · exact fs_put (R := fun f w => RV K S.CA ι (bar F Z) (upd H a (SlX.SlO a (S.CA c) dx (SlX.putS i y vs))) f w) (fun j f e => let ⟨v, e2, t⟩ := hf j f e; ⟨v, e2, t.mono kb (Pre.refl ι)⟩) (ry.mono kb (Pre.refl ι))
end
section
variable {S : SD} {X : Cx} {W : WX} {E : Ev} {C : CT} {ea : Expr} {es : List Expr} {ms : List ME} {pos px : Pos} {kd c : Nat} {k : MCls} {g : MFn}
/-- C(e, ..) at the slots σ -/
def tMakeS (Cl : Addr) (sp : Sp) (dvs : List V) (E : L2.St → XK) (t : TA) : TE := fun σ H Q => t σ H fun vs H1 => ∀ x dx, H1 x = none → H1 dx = none → dx ≠ x →
  sp (.ref x :: (vs ++ dvs)) (upd (upd H1 dx (.own x)) x (.ins Cl dx [])) (fun v H2 => v = .non ∧ Q (.ref x) H2) (E σ)
theorem makes_at {CX : CXT} {Cl fa : Addr} {fd : FuncData} {ps : List PySem.Str} {sp : Sp} {dvs : List V} {ds : List Value} {E : L2.St → XK} {pins : List (Addr × Obj)} {σ : L2.St} {H : Hp} {s : Shared} {Q : VK} {us : List Value} {vs : List V} (Ma : Mk X.K Cl fa)
    (Fn : FnOk X.prog X.w X.K X.mg X.base CX kd fa fd ps sp) (hr : Room (kd + 1) X.A) (hb : Binds X.K fd ps ds) (hd : Vals dvs ds) (hx : PassesAt CX X σ (E σ)) (I : Inv X pins σ H s) (r : Vals vs us)
    (h : ∀ x dx, H x = none → H dx = none → dx ≠ x → sp (.ref x :: (vs ++ dvs)) (upd (upd H dx (.own x)) x (.ins Cl dx [])) (fun v H2 => v = .non ∧ Q (.ref x) H2) (E σ)) : wpAny (model X.prog X.w) X.A (call (.ref Cl) us) (EP X pins σ Q) X.xe s := by
  have hq := h (s.heap.objs.size + 1) s.heap.objs.size (I.hok.fresh (Nat.le_succ _)) (I.hok.fresh (Nat.le_refl _)) (Nat.ne_of_lt (Nat.lt_succ_self _))
  have J := Inv.made (C := Cl) I
  have rr : Vals (V.ref (s.heap.objs.size + 1) :: (vs ++ dvs)) (Value.ref (s.heap.objs.size + 1) :: (us ++ ds)) := .cons rfl (r.append hd)
  have hl : (Value.ref (s.heap.objs.size + 1) :: us ++ ds).length = ps.length := rr.length.symm.trans (Fn.len _ _ _ _ hq)
  have run := Fn.run _ X.stack _ _ ⟨Value.ref (s.heap.objs.size + 1) :: us, []⟩ (Value.ref (s.heap.objs.size + 1) :: (us ++ ds)) _ _ (E σ) (hr.make Cl us []) (J.env0.make Cl us []) (hb _ (Value.ref (s.heap.objs.size + 1) :: us) J.kIn hl) rr hq
  refine wpAny_call (make_map (f := fa) I.kIn Ma.makes Ma.init (beq_iff_eq.mp Ma.fn) (codeAny_mono run fun r s' hq' => ?_))
  match r, hq' with
  | .error e, hq' => exact hx pins _ _ e s' J hq'
  | .ok (.ret u), hq' =>
    obtain ⟨v, H', I3, rv, ev, q3⟩ := J.after hq'
    subst ev
    exact ⟨rv, V.ref (s.heap.objs.size + 1), H', I3, rfl, q3⟩
theorem make_S {CX : CXT} {Cl fa : Addr} {fd : FuncData} {ps : List PySem.Str} {sp : Sp} {dvs : List V} {ds : List Value} {E : L2.St → XK} {x : PySem.Str} {t : TA} (Ma : Mk X.K Cl fa) (Fn : FnOk X.prog X.w X.K X.mg X.base CX kd fa fd ps sp) (hr : Room (kd + 1) X.A) (hg : Gl X x)
    (hm : X.mg x = some (.ref Cl)) (hb : Binds X.K fd ps ds) (hd : Vals dvs ds) (hx : ∀ σ, PassesAt CX X σ (E σ)) (ha : PA X (ea :: es) t) (hp : (ea :: es).all plE = true) (hdb : (x == ("__debug__" : Str)) = false) :
    PE X (.Call (.Name x px) (ea :: es) [] pos) (tMakeS Cl sp dvs E t) := by
  have hp1 : plE ea = true := (Bool.and_eq_true_iff.mp (by rw [List.all_cons] at hp; exact hp)).1
  have hp2 : es.all plE = true := (Bool.and_eq_true_iff.mp (by rw [List.all_cons] at hp; exact hp)).2
  constructor
  intro pins s σ H Q I h
  refine wpAny_Call_Name_kw (ld_glob I hg hm (PySem.W.callWith_K (h₀ := X.base) I.ok.mod.kin Ma.kp (thn (ha.run pos pins s σ H _ I h) fun us s1 z => ?_) (star_pl hp1 es X.env) (backs_pl hp2)) hdb)
  obtain ⟨vs, H1, I1, r, q⟩ := z
  exact ⟨I1.kIn, makes_at Ma Fn hr hb hd (hx σ) I1 r q⟩
theorem make0_S {CX : CXT} {Cl fa : Addr} {fd : FuncData} {ps : List PySem.Str} {sp : Sp} {dvs : List V} {ds : List Value} {E : L2.St → XK} {x : PySem.Str} (Ma : Mk X.K Cl fa) (Fn : FnOk X.prog X.w X.K X.mg X.base CX kd fa fd ps sp) (hr : Room (kd + 1) X.A) (hg : Gl X x)
    (hm : X.mg x = some (.ref Cl)) (hb : Binds X.K fd ps ds) (hd : Vals dvs ds) (hx : ∀ σ, PassesAt CX X σ (E σ)) (hdb : (x == ("__debug__" : Str)) = false) : PE X (.Call (.Name x px) [] [] pos) (tMakeS Cl sp dvs E tNil) := by
  constructor
  intro pins s σ H Q I h
  exact wpAny_Call_Name_kw (ld_glob I hg hm (PySem.W.callWith_K0 I.kIn Ma.kp (makes_at (us := []) Ma Fn hr hb hd (hx σ) I .nil h)) hdb)
def evMk (S : SD) (E : Ev) (C : CT) (c : Nat) (ms : List ME) : Rho → MH → Out PV := fun ρ M => (evArgs E ms ρ M).bind fun xs M1 => (match S.P.cls[c]? with
    | some k => (match S.P.fns[k.init]? with
      | some g => if ms.length + 1 ≤ g.np ∧ g.np ≤ ms.length + 1 + g.dfl.length then makeI C k c (xs ++ g.dfl.drop (ms.length + 1 + g.dfl.length - g.np)) M1 else .stuck
      | none => .stuck)
    | none => .stuck)
theorem mk_imp {dvs : List V} {t : TA} (hk : S.P.cls[c]? = some k) (hf : S.P.fns[k.init]? = some g) (hd : ∀ ι B H, RVs X.K S.CA ι B H (g.dfl.drop (ms.length + 1 + g.dfl.length - g.np)) dvs)
    (ht : ∀ σ H Q, tEs S X.K W (evArgs E ms) σ H Q → t σ H Q) {σ : L2.St} {H : Hp} {Q : VK} (h : tE S X.K W (evMk S E C c ms) σ H Q) : tMakeS (S.CA c) (spC S X.K C k.init) dvs (WE W) t σ H Q := by
  obtain ⟨F, ι, Z, M, ρ, s, l, h⟩ := h
  refine ht _ _ _ ?_
  refine tO.at s l h fun ι1 Z1 M1 H1 xs vs q1 st1 s1 l1 r1 p1 => ?_
  simp only [hk, hf] at p1
  split at p1
  · intro x dx hx hdx hne
    exact make_ok s1 (r1.append (hd _ _ _)) p1 hx hdx hne
  · exact p1.elim
theorem e_mk (tk : L2.Takes X W) (hk : S.P.cls[c]? = some k) (hf : S.P.fns[k.init]? = some g) (cl : ClAt S X.prog X.w X.K X.mg X.base C kd c k g) (hr : Room (kd + 1) X.A) (hg : Gl X (S.knm c)) (hdb : (S.knm c == ("__debug__" : Str)) = false) (h1 : ms.length + 1 ≤ g.np)
    (h2 : g.np ≤ ms.length + 1 + g.dfl.length) (hp : (ea :: es).all plE = true) (ha : PA X (ea :: es) (tEs S X.K W (evArgs E ms))) : PE X (.Call (.Name (S.knm c) px) (ea :: es) [] pos) (tE S X.K W (evMk S E C c ms)) := by
  obtain ⟨fa, fd, ps, ok, hm, ma, hb⟩ := cl.ex
  obtain ⟨dvs, ds, hv, bd, rd⟩ := hb (ms.length + 1) h1 h2
  exact pe_imp (make_S ma ok hr hg hm bd hv (fun σ => passAt tk σ) ha hp hdb) fun σ H Q h => mk_imp hk hf rd (fun _ _ _ h => h) h
theorem e_mk0 (tk : L2.Takes X W) (hk : S.P.cls[c]? = some k) (hf : S.P.fns[k.init]? = some g) (cl : ClAt S X.prog X.w X.K X.mg X.base C kd c k g) (hr : Room (kd + 1) X.A) (hg : Gl X (S.knm c)) (hdb : (S.knm c == ("__debug__" : Str)) = false) (h1 : 1 ≤ g.np)
    (h2 : g.np ≤ 1 + g.dfl.length) : PE X (.Call (.Name (S.knm c) px) [] [] pos) (tE S X.K W (evMk S E C c [])) := by
  obtain ⟨fa, fd, ps, ok, hm, ma, hb⟩ := cl.ex
  obtain ⟨dvs, ds, hv, bd, rd⟩ := hb 1 h1 h2
  refine pe_imp (make0_S ma ok hr hg hm bd hv (fun σ => passAt tk σ) hdb) fun σ H Q h => mk_imp (t := tNil) hk hf rd (fun σ H Q h => ?_) h
  obtain ⟨F, ι, Z, M, ρ, s, l, p⟩ := h
  exact PostO.fin (W := W) p s .nil
end
end Mp
end

section
set_option Elab.async false
set_option linter.all false
set_option maxRecDepth 100000
set_option maxHeartbeats 2000000
/-! Mp13: what is walked: a list or a tuple, enumerate and zip of such. -/
namespace Mp
open PySem PySem.Spec PyProof.Rows L2

/-! ### enumerate(v) over what can begin -/
theorem meets_enum1 {v : Value} {o : Obj} {HB : Heap → Prop} (B : Begins v o HB) :
    Meets (Builtin.«enumerate.__new__» ⟨[.type "enumerate", v], []⟩) (fun _ R s => HB s.heap ∧
      R (.ok (.ret (.ref (s.heap.push o).objs.size))) { s with heap := (s.heap.push o).push { cls := .type "enumerate", data := .fields #[.none, .bool false, .ref s.heap.objs.size, rawInt 0, .none, .none] } }) := by
  refine .of_wp fun prog w A R s h => ?_
  obtain ⟨hp, g, d, tk, os⟩ := s
  obtain ⟨h1, h⟩ := h
  have hsub := sub_enumerate
  have q1 : ∀ {A' : Around} {E' : Value → Shared → Prop} {Q' : Value → Shared → Prop}, Q' (.ref hp.objs.size) ⟨hp.push o, g, d, tk, os⟩ → wpAny (model prog w) A' (pyIter v) Q' E' ⟨hp, g, d, tk, os⟩ :=
    fun q => B.iter prog w _ _ ⟨hp, g, d, tk, os⟩ _ h1 q
  wp_walk using q1
  refine wpAny_stack_any fun st => wpAny_pure ?_
  split
  · rename_i c _ _ _ _ _
    cases (c == Value.type "enumerate") <;> (wp_walk using q1) <;> exact ⟨_, rfl, h⟩
  · wp_walk using q1
    exact ⟨_, rfl, h⟩
theorem call_enum1 {prog : Program} {w : World} {A : Around} {E' : Value → Shared → Prop} {s : Shared} {v : Value} {o : Obj} {HB : Heap → Prop} {Q : Value → Shared → Prop} (B : Begins v o HB) (h1 : HB s.heap)
    (h : ∀ h', IsEnum h' (s.heap.objs.size + 1) s.heap.objs.size 0 .none → h'.get? s.heap.objs.size = some o → h'.objs.size = s.heap.objs.size + 2 → (∀ b u, s.heap.get? b = some u → h'.get? b = some u) → Q (.ref (s.heap.objs.size + 1)) { s with heap := h' }) :
    wpAny (model prog w) A (call (.type "enumerate") [v]) Q E' s := by
  refine callType_new F.called_enumerate (by decide) (F.typeCall_enumerate_1 _) (F.newCall_enumerate_1 _) (fun obj => F.args_object_init_2 obj _) F.entry_enumerate_new (meets_enum1 B) ⟨h1, ?_⟩
  have hz : (s.heap.push o).objs.size = s.heap.objs.size + 1 := Heap.size_push ..
  have g1 := Heap.get?_push_size (s.heap.push o) (o := { cls := .type "enumerate", data := .fields #[.none, .bool false, .ref s.heap.objs.size, rawInt 0, .none, .none] }) rfl
  show _ ∧ _
  rw [hz] at g1 ⊢
  exact ⟨⟨_, g1, rfl⟩, h _ g1 (Heap.get?_push_of_some _ (Heap.get?_push_size _ B.free)) (by rw [Heap.size_push, hz]) fun b u x => Heap.get?_push_of_some _ (Heap.get?_push_of_some _ x)⟩

/-- enumerate over a tuple, at its end -/
theorem enumT_end {prog : Program} {w : World} {A : Around} {E' : Value → Shared → Prop} {s : Shared} {e it t : Addr} {n : Nat} {i : Int} {its : Array Value} {old : Value} {Q : Option Value → Shared → Prop} (hh : A.handled = none) (he : IsEnum s.heap e it i old)
    (hit : s.heap.IsTupleIter it t n) (ht : s.heap.IsTuple t its) (hx : its[n]? = none) (hQ : ∀ h', Heap.ExtBut it s.heap h' → Q none { s with heap := h' }) : wpAny (model prog w) A (pyNext (.ref e)) Q E' s := by
  have hT : s.TypeIs (.ref e) "enumerate" := ⟨_, he, rfl⟩
  unfold pyNext
  refine wpAny_bind (wpAny_attempt (wpAny_callSpecial?_slot (name := Str.ofString "__next__") hT F.slot_enumerate_next (wpAny_call_entry F.slot_enumerate_next hT F.entry_enumerate_next ?_ (F.args_enumerate_next_1 _))))
  show wpAny _ _ (field (.ref e) 2 >>= _) _ _ _
  have hh1 : A.in1.handled = none := hh
  refine wpAny_bind (wpAny_field he rfl (x := .ref it) rfl (wpAny_bind (wpAny_nextOf_tuple_end hh1 hit ht hx fun h' x ext hx' => ?_)))
  obtain ⟨o, ho, hc⟩ := hx'
  exact wpAny_bind (wpAny_isInstance (T := "StopIteration") (b := true) ⟨o, ho, hc⟩ isSubtype_stop (wpAny_pure (hQ _ ext)))
/-! ### a list (false) or a tuple (true) -/
def SqK : Bool → PySem.W.Frag → Hp → Addr → List V → Prop
  | false => SqL
  | true => SqT
def isK : Bool → Heap → Addr → Array Value → Prop
  | false => Heap.IsList
  | true => Heap.IsTuple
def itK : Bool → Heap → Addr → Addr → Nat → Prop
  | false => Heap.IsListIter
  | true => Heap.IsTupleIter
def obK : Bool → Addr → Obj
  | false => fun a => { cls := .type "list_iterator", data := .fields #[.ref a, .int 0 0] }
  | true => fun a => { cls := .type "tuple_iterator", data := .fields #[.ref a, .int 0 0] }
section
variable {X : Cx} {pins : List (Addr × Obj)} {σ : L2.St} {H : Hp} {s : Shared} {a : Addr} {xs ys : List V} {k : Bool}
theorem seqK (I : Inv X pins σ H s) (h : SqK k X.K H a xs) : ∃ its : List Value, Vals xs its ∧ isK k s.heap a its.toArray := by
  cases k with
  | false =>
    obtain ⟨its, r, p, _⟩ := I.list h
    exact ⟨its, r, p.isList⟩
  | true =>
    obtain ⟨its, r, p, _⟩ := I.tuple h
    exact ⟨its, r, p⟩
theorem seqK_inj (I : Inv X pins σ H s) (h : SqK k X.K H a xs) (h' : SqK k X.K H a ys) : xs = ys := by
  cases k with
  | false => exact I.list_inj h h'
  | true => exact I.tuple_inj h h'
theorem isK_lt {h : Heap} {its : Array Value} (p : isK k h a its) : a < h.objs.size := by
  cases k with
  | false =>
    obtain ⟨o, e, _⟩ := p
    exact Heap.lt_size e
  | true =>
    obtain ⟨o, e, _⟩ := p
    exact Heap.lt_size e
theorem itK_live {h : Heap} {it : Addr} {i : Nat} (p : itK k h it a i) : ∃ o, h.get? it = some o ∧ ∀ v, o.data ≠ .cell v := by
  cases k with
  | false =>
    obtain ⟨o, e, c, d⟩ := p
    exact ⟨o, e, fun v z => by rw [d] at z; cases z⟩
  | true =>
    obtain ⟨o, e, c, d⟩ := p
    exact ⟨o, e, fun v z => by rw [d] at z; cases z⟩
theorem itK_at {h h' : Heap} {it : Addr} {i : Nat} (p : itK k h it a i) (kp : ∀ o, h.get? it = some o → h'.get? it = some o) : itK k h' it a i := by
  cases k with
  | false => exact Heap.IsListIter.at p kp
  | true => exact Heap.IsTupleIter.at p kp
theorem isK_at {h h' : Heap} {its : Array Value} (p : isK k h a its) (kp : ∀ o, h.get? a = some o → h'.get? a = some o) : isK k h' a its := by
  cases k with
  | false => exact Heap.IsList.at p kp
  | true => exact Heap.IsTuple.at p kp
theorem itK_of {h : Heap} {it : Addr} (e : h.get? it = some (obK k a)) : itK k h it a 0 := by
  cases k with
  | false => exact ⟨_, e, rfl, rfl⟩
  | true => exact ⟨_, e, rfl, rfl⟩
theorem begK (its : Array Value) : Begins (.ref a) (obK k a) fun h => isK k h a its := by
  cases k with
  | false => exact begins_list a its
  | true => exact begins_tuple a its
theorem drawK {prog : Program} {w : World} {A : Around} (hh : A.handled = none) (it : Addr) (hne : a ≠ it) (its : Array Value) : Draws prog w A it [it, a] its.size (fun i v => its[i]? = some v) (fun i h => itK k h it a i ∧ isK k h a its) := by
  cases k with
  | false => exact Draws.list hh it a hne its
  | true => exact Draws.tuple hh it a hne its
end
/-- the items of a as it stands at each turn -/
def ItS (k : Bool) (K : PySem.W.Frag) (a : Addr) : It :=
  ⟨fun i H => ∃ xs x, SqK k K H a xs ∧ xs[i]? = some x, fun i H x H' => H' = H ∧ ∀ xs, SqK k K H a xs → xs[i]? = some x, fun i H => ∃ xs : List V, SqK k K H a xs ∧ xs.length ≤ i⟩
def ItE (k : Bool) (K : PySem.W.Frag) (a : Addr) : It :=
  ⟨fun i H => ∃ (xs : List V) (x : V), SqK k K H a xs ∧ xs[i]? = some x, fun i H v H' => ∃ T x, v = .ref T ∧ H T = none ∧ H' = upd H T (.tup [.int (i : Nat), x]) ∧ ∀ xs, SqK k K H a xs → xs[i]? = some x, fun i H => ∃ xs : List V, SqK k K H a xs ∧ xs.length ≤ i⟩
def ItZ (k j : Bool) (K : PySem.W.Frag) (a b : Addr) : It :=
  ⟨fun i H => ∃ (xs ys : List V) (x y : V), SqK k K H a xs ∧ SqK j K H b ys ∧ xs[i]? = some x ∧ ys[i]? = some y,
    fun i H v H' => ∃ T x y, v = .ref T ∧ H T = none ∧ H' = upd H T (.tup [x, y]) ∧ (∀ xs, SqK k K H a xs → xs[i]? = some x) ∧ ∀ ys, SqK j K H b ys → ys[i]? = some y,
    fun i H => ∃ xs ys : List V, SqK k K H a xs ∧ SqK j K H b ys ∧ (xs.length = i ∧ i ≤ ys.length ∨ ys.length = i ∧ i ≤ xs.length)⟩
section
variable {P : Program} {w : World} {K : PySem.W.Frag}
theorem turnS {tg : Expr} (k : Bool) (a it : Addr) : Turn P w K tg (ItS k K a) [it] it (fun i h => itK k h it a i) := by
  cases k with
  | false => exact turn_list a it
  | true => exact turn_tuple a it
theorem turnE {elts : List Expr} {kk : Nat} {tpos : Pos} (k : Bool) (a e it : Addr) :
    Turn P w K (.Tuple elts kk tpos) (ItE k K a) [e, it] e (fun i h => (∃ old, IsEnum h e it ((i : Nat) : Int) old) ∧ itK k h it a i ∧ e ≠ it ∧ a ≠ it ∧ e ≠ a) where
  mem := by simp
  obj := fun i h st b hb => by
    obtain ⟨⟨old, he⟩, hi, _⟩ := st
    rcases (by simpa using hb : b = e ∨ b = it) with z | z
    · rw [z]
      exact ⟨_, he, fun v q => nomatch q⟩
    · rw [z]
      exact itK_live hi
  keep := fun i h h' st kp => by
    obtain ⟨⟨old, he⟩, hi, h1⟩ := st
    exact ⟨⟨old, kp e (by simp) _ he⟩, itK_at hi fun o q => kp it (by simp) o q, h1⟩
  item := by
    intro X hP hw hK hc i pins s σ H E I hf st hg
    subst hP hw hK
    obtain ⟨⟨old, he⟩, hit, hne, hai, hea⟩ := st
    obtain ⟨xs, x, hq, hx⟩ := hg
    obtain ⟨its, rv, p⟩ := seqK I hq
    obtain ⟨u, hu, ru⟩ := rv.get hx
    have hel : e < s.heap.objs.size := Heap.lt_size he
    obtain ⟨o1, ho1, _⟩ := itK_live hit
    have hil : it < s.heap.objs.size := Heap.lt_size ho1
    have hlt : i < its.toArray.size := by
      rw [List.size_toArray]
      exact (List.getElem?_eq_some_iff.mp hu).1
    refine wpAny_pyNext_enum_itemD (drawK (A := X.A.in1) (I.ok.hd hc) it hai its.toArray) he ⟨hit, p⟩ hlt hne (by simp [hne, hea]) fun x2 h' tk px ho st' hT hsz hk => ?_
    have e2 : x2 = u := by
      have px' : its[i]? = some x2 := by simpa using px
      rw [hu] at px'
      exact (Option.some.inj px').symm
    subst e2
    refine ⟨_, rfl, wpAny_letOwnedTupleGo_enum (s := { s with heap := h', toks := tk + 1 }) ho fun h'' he' sb => ?_⟩
    have hT2 : h''.get? s.heap.objs.size = some { cls := .type "tuple", data := .seq #[.int i tk, x2] } := (sb.2 _ (Nat.ne_of_gt hel)).trans hT
    have new : ObjOk X.prog X.w (upd H s.heap.objs.size (.tup [.int (i : Nat), x])) h'' s.heap.objs.size (.tup [.int (i : Nat), x]) :=
      ⟨by show 2 ≤ sizeLine; decide, [.int i tk, x2], .cons ⟨_, rfl⟩ (.cons ru .nil), ⟨_, hT2, rfl, _, rfl⟩⟩
    have I1 : Inv X pins σ (upd H s.heap.objs.size (.tup [.int (i : Nat), x])) { s with heap := h'', toks := tk + 1 } :=
      I.turnedNew (ch := [e, it]) (fun b ob hb q => (sb.2 b (fun z => hb (by simp [z]))).trans (hk b ob (fun z => hb (by simp [z])) (fun z => hb (by simp [z])) q)) hf (Nat.le_refl _) new
    refine ⟨.ref s.heap.objs.size, _, I1, rfl, ⟨_, x, rfl, I.hok.fresh (Nat.le_refl _), rfl, fun ys hy => by rw [seqK_inj I hy hq]; exact hx⟩, ⟨⟨x2, ?_⟩, itK_at st'.1 fun o q => (sb.2 it (Ne.symm hne)).trans q, hne, hai, hea⟩, fun b hb => ?_⟩
    · rw [show ((i + 1 : Nat) : Int) = (i : Int) + 1 by omega]
      exact he'
    · have hb' : b < s.heap.objs.size := by
        rcases (by simpa using hb : b = e ∨ b = it) with z | z
        · rw [z]; exact hel
        · rw [z]; exact hil
      rw [upd_ne (Nat.ne_of_lt hb')]
      exact (hf b hb).1
  done := by
    intro X hP hw hK hc i pins s σ H E I hf st hg
    subst hP hw hK
    obtain ⟨⟨old, he⟩, hit, hne, hai, hea⟩ := st
    obtain ⟨xs, hq, hx⟩ := hg
    obtain ⟨its, rv, p⟩ := seqK I hq
    obtain ⟨f0, f1, f2, f3, f4, f5⟩ := hf it (by simp)
    have hl := rv.length
    have hd := I.ok.hd hc
    cases k with
    | false => exact wpAny_pyNext_enum_end hd he hit p (by simp; omega) fun h' eb => ⟨rfl, I.turned (t' := s.toks) (fun b o hb q => eb b o hb q) f0 f1 f3 f4 f5⟩
    | true =>
      refine enumT_end hd he hit p (by simp; omega) fun h' eb => ⟨rfl, I.turned (t' := s.toks) (fun b o hb q => eb b o hb q) f0 f1 f3 f4 f5⟩
  self := fun A i s Q E st h => let ⟨⟨_, he⟩, _⟩ := st; wpAny_pyIter_enum he h
theorem turnZ {elts : List Expr} {kk : Nat} {tpos : Pos} {k j : Bool} {a b z TI TO i1 i2 : Addr} :
    Turn P w K (.Tuple elts kk tpos) (ItZ k j K a b) [z, TI, TO, i1, i2] z
      (fun i h => IsZip h z TI TO .none ∧ IsTupOf2 h TI (.ref i1) (.ref i2) ∧ (∃ x y, IsTupOf2 h TO x y) ∧ itK k h i1 a i ∧ itK j h i2 b i ∧ ZipSep2 z TI TO i1 i2 [i1, a] [i2, b] ∧ a ≠ i1 ∧ b ≠ i2) where
  mem := by simp
  obj := fun i h st c hc => by
    obtain ⟨hz, hTI, ⟨x, y, hTO⟩, h1, h2, _⟩ := st
    rcases (by simpa using hc : c = z ∨ c = TI ∨ c = TO ∨ c = i1 ∨ c = i2) with q | q | q | q | q
    · rw [q]; exact ⟨_, hz, fun v q => nomatch q⟩
    · rw [q]; exact ⟨_, hTI, fun v q => nomatch q⟩
    · rw [q]; exact ⟨_, hTO, fun v q => nomatch q⟩
    · rw [q]; exact itK_live h1
    · rw [q]; exact itK_live h2
  keep := fun i h h' st kp => by
    obtain ⟨hz, hTI, ⟨x, y, hTO⟩, h1, h2, hs⟩ := st
    exact ⟨kp z (by simp) _ hz, kp TI (by simp) _ hTI, ⟨x, y, kp TO (by simp) _ hTO⟩, itK_at h1 fun o q => kp i1 (by simp) o q, itK_at h2 fun o q => kp i2 (by simp) o q, hs⟩
  item := by
    intro X hP hw hK hc i pins s σ H E I hf st hg
    subst hP hw hK
    obtain ⟨hz, hTI, ⟨x0, y0, hTO⟩, h1, h2, D, na, nb⟩ := st
    obtain ⟨xs, ys, x, y, hqx, hqy, hx, hy⟩ := hg
    obtain ⟨its, rv, p⟩ := seqK I hqx
    obtain ⟨its2, rv2, p2⟩ := seqK I hqy
    obtain ⟨u, hu, ru⟩ := rv.get hx
    obtain ⟨u2, hu2, ru2⟩ := rv2.get hy
    have hzl : z < s.heap.objs.size := Heap.lt_size hz
    have lt1 : i < its.toArray.size := by
      rw [List.size_toArray]
      exact (List.getElem?_eq_some_iff.mp hu).1
    have lt2 : i < its2.toArray.size := by
      rw [List.size_toArray]
      exact (List.getElem?_eq_some_iff.mp hu2).1
    have hd : X.A.in1.handled = none := I.ok.hd hc
    refine wpAny_pyNext_zipD2_item D (drawK hd i1 na its.toArray) (drawK hd i2 nb its2.toArray) hz hTI hTO ⟨h1, p⟩ ⟨h2, p2⟩ lt1 lt2 fun v1 v2 h' tk pv1 pv2 z' TO' st1 st2 hT hsz hk => ?_
    have e1 : v1 = u := by
      have q : its[i]? = some v1 := by simpa using pv1
      rw [hu] at q
      exact (Option.some.inj q).symm
    have e2 : v2 = u2 := by
      have q : its2[i]? = some v2 := by simpa using pv2
      rw [hu2] at q
      exact (Option.some.inj q).symm
    subst e1 e2
    refine ⟨_, rfl, wpAny_letOwnedTupleGo_zip (s := { s with heap := h', toks := tk }) z' fun h'' z'' sb => ?_⟩
    have hT2 : h''.get? s.heap.objs.size = some { cls := .type "tuple", data := .seq #[v1, v2] } := (sb.2 _ (Nat.ne_of_gt hzl)).trans hT
    have new : ObjOk X.prog X.w (upd H s.heap.objs.size (.tup [x, y])) h'' s.heap.objs.size (.tup [x, y]) :=
      ⟨by show 2 ≤ sizeLine; decide, [v1, v2], .cons ru (.cons ru2 .nil), ⟨_, hT2, rfl, _, rfl⟩⟩
    have I1 : Inv X pins σ (upd H s.heap.objs.size (.tup [x, y])) { s with heap := h'', toks := tk } :=
      I.turnedNew (ch := [z, TI, TO, i1, i2]) (fun c o hb q => (sb.2 c (fun q' => hb (by simp [q']))).trans (hk c o (fun q' => hb (by simp [q'])) (fun q' => hb (by simp [q'])) (fun q' => hb (by simp [q'])) (fun q' => hb (by simp [q'])) q)) hf (Nat.le_refl _) new
    refine ⟨.ref s.heap.objs.size, _, I1, rfl, ⟨_, x, y, rfl, I.hok.fresh (Nat.le_refl _), rfl, fun l hl => by rw [seqK_inj I hl hqx]; exact hx, fun l hl => by rw [seqK_inj I hl hqy]; exact hy⟩, ⟨z'', ?_, ⟨v1, v2, ?_⟩, ?_, ?_, D, na, nb⟩, fun c hcm => ?_⟩
    · exact (sb.2 _ D.TIz).trans (hk _ _ D.TIz D.TITO D.TIi1 D.TIi2 hTI)
    · exact (sb.2 _ D.TOz).trans TO'
    · exact itK_at st1.1 fun o q => (sb.2 _ D.zi1.symm).trans q
    · exact itK_at st2.1 fun o q => (sb.2 _ D.zi2.symm).trans q
    · have hlt : c < s.heap.objs.size := by
        rcases (by simpa using hcm : c = z ∨ c = TI ∨ c = TO ∨ c = i1 ∨ c = i2) with q | q | q | q | q
        · rw [q]; exact hzl
        · rw [q]; exact Heap.lt_size hTI
        · rw [q]; exact Heap.lt_size hTO
        · rw [q]; obtain ⟨_, e1, _⟩ := itK_live h1; exact Heap.lt_size e1
        · rw [q]; obtain ⟨_, e2, _⟩ := itK_live h2; exact Heap.lt_size e2
      rw [upd_ne (Nat.ne_of_lt hlt)]
      exact (hf c hcm).1
  done := by
    intro X hP hw hK hc i pins s σ H E I hf st hg
    subst hP hw hK
    obtain ⟨hz, hTI, ⟨x0, y0, hTO⟩, h1, h2, D, na, nb⟩ := st
    obtain ⟨xs, ys, hqx, hqy, hend⟩ := hg
    obtain ⟨its, rv, p⟩ := seqK I hqx
    obtain ⟨its2, rv2, p2⟩ := seqK I hqy
    have l1 := rv.length
    have l2 := rv2.length
    have hd : X.A.in1.handled = none := I.ok.hd hc
    have s1 : its.toArray.size = xs.length := by rw [List.size_toArray]; exact l1.symm
    have s2 : its2.toArray.size = ys.length := by rw [List.size_toArray]; exact l2.symm
    have g1 : i ≤ its.toArray.size := by omega
    have g2 : i ≤ its2.toArray.size := by omega
    have g3 : i = its.toArray.size ∨ i = its2.toArray.size := by omega
    refine wpAny_pyNext_zipD2_end D (drawK hd i1 na its.toArray) (drawK hd i2 nb its2.toArray) hz hTI hTO ⟨h1, p⟩ ⟨h2, p2⟩ g1 g2 g3 fun h' tk hk => ⟨rfl, I.turnedL (t' := tk) (ch := [z, TI, TO, i1, i2]) (fun c o hb q => ?_) hf⟩
    exact hk c o (fun q' => hb (by simp [q'])) (fun q' => hb (by simp [q'])) (fun q' => hb (by simp [q'])) (fun q' => hb (by simp [q'])) q
  self := fun A i s Q E st h => wpAny_pyIter_zip st.1 h
end
/-! ### the iterators begin -/
theorem notIn2 {x p q : Nat} (h1 : x ≠ p) (h2 : x ≠ q) : x ∉ [p, q] := fun h => (List.mem_cons.mp h).elim h1 fun h => h2 (List.mem_singleton.mp h)
theorem sepN (n a b : Nat) (ha : a < n) (hb : b < n) : ZipSep2 (n + 4) (n + 2) (n + 3) n (n + 1) [n, a] [n + 1, b] := by
  have e1 : n + 2 ≠ n + 4 := by omega
  have e2 : n + 3 ≠ n + 4 := by omega
  have e3 : n + 2 ≠ n + 3 := by omega
  have e4 : n + 2 ≠ n := by omega
  have e5 : n + 4 ≠ n := by omega
  have e6 : n + 4 ≠ a := by omega
  have e7 : n + 3 ≠ n := by omega
  have e8 : n + 3 ≠ a := by omega
  have e9 : n + 2 ≠ n + 1 := by omega
  have f1 : n + 4 ≠ n + 1 := by omega
  have f2 : n + 4 ≠ b := by omega
  have f3 : n + 3 ≠ n + 1 := by omega
  have f4 : n + 3 ≠ b := by omega
  have f5 : n ≠ n + 1 := by omega
  have f6 : n ≠ b := by omega
  have f7 : n + 1 ≠ n := by omega
  have f8 : n + 1 ≠ a := by omega
  exact ⟨e1, e2, e3, e4, List.mem_cons_self, notIn2 e5 e6, notIn2 e7 e8, e9, List.mem_cons_self, notIn2 f1 f2, notIn2 f3 f4, notIn2 f5 f6, notIn2 f7 f8⟩
theorem le2 {n c : Nat} (h : c = n + 1 ∨ c = n) : n ≤ c := by omega
theorem le5 {n c : Nat} (h : c = n + 4 ∨ c = n + 2 ∨ c = n + 3 ∨ c = n ∨ c = n + 1) : n ≤ c := by omega
theorem neN {n a : Nat} (h : a < n) : a ≠ n + 1 := by omega
def iS (K : PySem.W.Frag) (tl : TE) : TI := fun σ H R => tl σ H fun x H1 => ∃ a k xs, x = .ref a ∧ SqK k K H1 a xs ∧ R (ItS k K a) H1
def iE (K : PySem.W.Frag) (ta : TA) : TI := fun σ H R => ta σ H fun vs H1 => ∃ a k xs, vs = [.ref a] ∧ SqK k K H1 a xs ∧ R (ItE k K a) H1
def iZ (K : PySem.W.Frag) (ta : TA) : TI := fun σ H R => ta σ H fun vs H1 => ∃ a k xs b j ys, vs = [.ref a, .ref b] ∧ SqK k K H1 a xs ∧ SqK j K H1 b ys ∧ R (ItZ k j K a b) H1
section
variable {X : Cx} {tg : Expr}
theorem pi_sq {l : Expr} {tl : TE} (hl : PE X l tl) : PI X tg l (iS X.K tl) := by
  constructor
  intro pins s σ H R I h
  refine thn (hl.run pins s σ H _ I h) fun v s1 ⟨x, H1, I1, r1, q1⟩ => ?_
  obtain ⟨a, k, xs, e, hq, q⟩ := q1
  subst e
  cases r1
  obtain ⟨its, rv, p⟩ := seqK I1 hq
  refine (begK (k := k) its.toArray).iter _ _ _ _ _ _ p ⟨s1.heap.objs.size, [s1.heap.objs.size], _, _, H1, rfl, I1.kept (t' := s1.toks) fun b o e => Heap.get?_push_of_some _ e, turnS k a _, itK_of (Heap.get?_push_size _ (begK (k := k) (a := a) its.toArray).free), fun b hb => ?_, q⟩
  have e : b = s1.heap.objs.size := by simpa using hb
  subst e
  exact I1.fpOk (Nat.le_refl _) (I1.hok.fresh (Nat.le_refl _))
theorem pi_en {e : Expr} {ta : TA} {p pos tpos : Pos} {elts : List Expr} {kk : Nat} (hg : Gl X "enumerate") (hm : X.mg "enumerate" = none) (ha : PA X [e] ta) (hs : starEach [e] X.env = [(false, eval e X.env)]) :
    PI X (.Tuple elts kk tpos) (.Call (.Name "enumerate" p) [e] [] pos) (iE X.K ta) := by
  constructor
  intro pins s σ H R I h
  refine Call_ (ld_blt I hg hm boot_enumerate (PyProof.Rows.callWith_type1 (thn (ha.run pos pins s σ H _ I h) fun us s1 z => ?_) hs rfl))
  obtain ⟨vs, H1, I1, r1, a, k, xs, ex, hq, q⟩ := z
  subst ex
  obtain ⟨u, rfl, ru⟩ := r1.one
  cases (show u = Value.ref a from ru)
  obtain ⟨its, rv, p'⟩ := seqK I1 hq
  have la := isK_lt p'
  refine call_enum1 (begK (k := k) its.toArray) p' fun h' he hit hsz hk => wpAny_pyIter_enum he ?_
  have I2 : Inv X pins σ H1 { s1 with heap := h' } := I1.kept (t' := s1.toks) hk
  refine ⟨s1.heap.objs.size + 1, [s1.heap.objs.size + 1, s1.heap.objs.size], _, _, H1, rfl, I2, turnE k a (s1.heap.objs.size + 1) s1.heap.objs.size, ⟨⟨.none, he⟩, itK_of hit, Nat.succ_ne_self _, Nat.ne_of_lt la, Nat.ne_of_gt (Nat.lt_succ_of_lt la)⟩, fun b hb => ?_, q⟩
  have hle : s1.heap.objs.size ≤ b := le2 (by simpa using hb)
  exact I1.fpOk hle (I1.hok.fresh hle)
theorem pi_zp {e e2 : Expr} {ta : TA} {p pos tpos : Pos} {elts : List Expr} {kk : Nat} (hg : Gl X "zip") (hm : X.mg "zip" = none) (ha : PA X [e, e2] ta) (hs : starEach [e, e2] X.env = (false, eval e X.env) :: starEach [e2] X.env) (hpl : (backTo pos (starEach [e2] X.env)).any (·.1) = false) :
    PI X (.Tuple elts kk tpos) (.Call (.Name "zip" p) [e, e2] [] pos) (iZ X.K ta) := by
  constructor
  intro pins s σ H R I h
  refine Call_ (ld_blt I hg hm PyProof.Rows.boot_zip (PyProof.Rows.callWith_type1 (thn (ha.run pos pins s σ H _ I h) fun us s1 z => ?_) hs hpl))
  obtain ⟨vs, H1, I1, r1, a, k, xs, b, j, ys, ex, hqx, hqy, q⟩ := z
  subst ex
  obtain ⟨u1, u2, rfl, r, r'⟩ := r1.two
  cases (show u1 = Value.ref a from r)
  cases (show u2 = Value.ref b from r')
  obtain ⟨its, rv, p1⟩ := seqK I1 hqx
  obtain ⟨its2, rv2, p2⟩ := seqK I1 hqy
  have la := isK_lt p1
  have lb := isK_lt p2
  refine zip_begins2 (begK (k := k) its.toArray) (begK (k := j) its2.toArray) p1 p2 fun h' hz hTI hTO h1 h2 hsz hk => wpAny_pyIter_zip hz ?_
  have I2 : Inv X pins σ H1 { s1 with heap := h' } := I1.kept (t' := s1.toks) hk
  refine ⟨s1.heap.objs.size + 4, [s1.heap.objs.size + 4, s1.heap.objs.size + 2, s1.heap.objs.size + 3, s1.heap.objs.size, s1.heap.objs.size + 1], _, _, H1, rfl, I2, turnZ, ⟨hz, hTI, ⟨_, _, hTO⟩, itK_of h1, itK_of h2, sepN _ a b la lb, Nat.ne_of_lt la, neN lb⟩, fun c hcm => ?_, q⟩
  have hle : s1.heap.objs.size ≤ c := le5 (by simpa using hcm)
  exact I1.fpOk hle (I1.hok.fresh hle)
end
end Mp
end

section
set_option Elab.async false
set_option linter.all false
set_option maxRecDepth 100000
set_option maxHeartbeats 2000000
/-! Mp14: targets, what is walked, as readings by the evaluator. -/
namespace Mp
open PySem PySem.Spec PyProof.Rows L2

/-! ### targets -/
/-- σ' is σ but for the slots ts -/
def SameBut (ts : List Nat) (σ σ' : L2.St) : Prop := σ'.length = σ.length ∧ ∀ i, i ∉ ts → σ'[i]? = σ[i]?
theorem SameBut.refl (ts : List Nat) (σ : L2.St) : SameBut ts σ σ := ⟨rfl, fun _ _ => rfl⟩
theorem SameBut.trans {ts us : List Nat} {a b c : L2.St} (x : SameBut ts a b) (y : SameBut us b c) : SameBut (ts ++ us) a c :=
  ⟨y.1.trans x.1, fun i h => (y.2 i fun z => h (List.mem_append_right _ z)).trans (x.2 i fun z => h (List.mem_append_left _ z))⟩
theorem SameBut.weak {ts us : List Nat} {a b : L2.St} (x : SameBut ts a b) (h : ∀ i, i ∈ ts → i ∈ us) : SameBut us a b := ⟨x.1, fun i z => x.2 i fun q => z (h i q)⟩
theorem SameBut.set (σ : L2.St) (i : Nat) (v : Option V) : SameBut [i] σ (σ.set i v) := ⟨by rw [List.length_set], fun j h => by rw [List.getElem?_set_ne (fun e => h (by rw [e]; exact List.mem_cons_self))]⟩
theorem wipe_get : ∀ (vs : List Nat) (σ : L2.St) (i : Nat), (L2.wipe σ vs)[i]? = if i ∈ vs then (if i < σ.length then some none else none) else σ[i]?
  | [], σ, i => by simp [L2.wipe]
  | v :: vs, σ, i => by
    unfold L2.wipe
    have ih := wipe_get vs σ i
    by_cases hi : v = i
    · subst hi
      have hl : (L2.wipe σ vs).length = σ.length := L2.wipe_length σ vs
      rw [if_pos List.mem_cons_self]
      by_cases hlt : v < σ.length
      · rw [if_pos hlt, List.getElem?_set_self (by rw [hl]; exact hlt)]
      · rw [if_neg hlt, List.getElem?_eq_none (by rw [List.length_set, hl]; omega)]
    · rw [List.getElem?_set_ne hi, ih]
      have e : (i ∈ v :: vs) = (i ∈ vs) := by
        rw [List.mem_cons]
        exact propext ⟨fun h => h.elim (fun e => absurd e.symm hi) id, .inr⟩
      simp only [e]
theorem wipe_same {vs ts : List Nat} {σ σ2 : L2.St} (h : SameBut ts (L2.wipe σ vs) σ2) (hs : ∀ i, i ∈ ts → i ∈ vs) : L2.wipe σ2 vs = L2.wipe σ vs := by
  have hl : σ2.length = σ.length := h.1.trans (L2.wipe_length σ vs)
  refine List.ext_getElem? fun i => ?_
  rw [wipe_get, wipe_get, hl]
  by_cases hi : i ∈ vs
  · rw [if_pos hi, if_pos hi]
  · rw [if_neg hi, if_neg hi]
    have e := h.2 i fun z => hi (hs i z)
    rw [e, wipe_get, if_neg hi]
section
variable (S : SD) (K : PySem.W.Frag)
/-- a store's end -/
def PostN (ts : List Nat) (σ : L2.St) (F : Addr → Prop) (ι : List Addr) (Z : Addr → Prop) (H : Hp) (o : Out Rho) (Q : L2.St → Hp → Prop) : Prop :=
  match o with
  | .val ρ' M' => ∀ ι' Z' H' σ', Pre ι ι' → Step Z H Z' H' → Sim K S.CA F ι' Z' M' H' → LR K S.CA ι' (bar F Z') H' ρ' σ' → SameBut ts σ σ' → Q σ' H'
  | _ => False
def tG (f : PV → Rho → MH → Out Rho) (ts : List Nat) : TG := fun v σ H Q => ∃ F ι Z M ρ x, Sim K S.CA F ι Z M H ∧ LR K S.CA ι (bar F Z) H ρ σ ∧ RV K S.CA ι (bar F Z) H x v ∧ PostN S K ts σ F ι Z H (f x ρ M) Q
def tGs (f : List PV → Rho → MH → Out Rho) (ts : List Nat) : TGs := fun vs σ H Q => ∃ F ι Z M ρ xs, Sim K S.CA F ι Z M H ∧ LR K S.CA ι (bar F Z) H ρ σ ∧ RVs K S.CA ι (bar F Z) H xs vs ∧ PostN S K ts σ F ι Z H (f xs ρ M) Q
end
theorem pg_imp {X : Cx} {e : Expr} {t t' : TG} (h : PG X e t) (i : ∀ v σ H Q, t' v σ H Q → t v σ H Q) : PG X e t' := ⟨fun pins s σ H v u Q I r q => h.run pins s σ H v u Q I r (i v σ H Q q)⟩
theorem pgs_imp {X : Cx} {e : List Expr} {t t' : TGs} (h : PGs X e t) (i : ∀ v σ H Q, t' v σ H Q → t v σ H Q) : PGs X e t' := ⟨fun pins s σ H v u Q I r q => h.run pins s σ H v u Q I r (i v σ H Q q)⟩
mutual
def slotsT : MT → List Nat
  | .nm i => [i]
  | .tup ts => slotsTs ts
  | .sub _ _ => []
  | .att _ _ => []
def slotsTs : List MT → List Nat
  | [] => []
  | t :: ts => slotsT t ++ slotsTs ts
end
section
variable {S : SD} {K : PySem.W.Frag}
theorem PostN.later {ts : List Nat} {σ : L2.St} {F : Addr → Prop} {ι ι' : List Addr} {Z Z' : Addr → Prop} {H H' : Hp} {o : Out Rho} {Q : L2.St → Hp → Prop} (p : PostN S K ts σ F ι Z H o Q) (q : Pre ι ι') (s : Step Z H Z' H') : PostN S K ts σ F ι' Z' H' o Q := by
  cases o with
  | val a M' => exact fun ι2 Z2 H2 σ2 x y z w u => p ι2 Z2 H2 σ2 (q.trans x) (s.trans y) z w u
  | exc x M' => exact p.elim
  | stuck => exact p.elim
/-- at a value on the way to a store -/
theorem PostN.at {W : WX} {α β : Type} {R : List Addr → (Addr → Prop) → Hp → α → β → Prop} {ts : List Nat} {σ : L2.St} {F : Addr → Prop} {ι : List Addr} {Z : Addr → Prop} {M : MH} {H : Hp} {ρ : Rho} {f : Rho → MH → Out α} {k : α → MH → Out Rho} {Q : L2.St → Hp → Prop} {T : β → Hp → Prop}
    (s : Sim K S.CA F ι Z M H) (l : LR K S.CA ι (bar F Z) H ρ σ) (p : PostN S K ts σ F ι Z H ((f ρ M).bindX k) Q)
    (g : ∀ ι1 Z1 M1 H1 a b, Pre ι ι1 → Step Z H Z1 H1 → Sim K S.CA F ι1 Z1 M1 H1 → LR K S.CA ι1 (bar F Z1) H1 ρ σ → R ι1 (bar F Z1) H1 a b → PostN S K ts σ F ι1 Z1 H1 (k a M1) Q → T b H1) : tO S K W R f σ H T := by
  refine ⟨F, ι, Z, M, ρ, s, l, ?_⟩
  cases q : f ρ M with
  | val a M' =>
    rw [q] at p
    intro ι1 Z1 H1 b q1 st s1 r
    exact g ι1 Z1 M' H1 a b q1 st s1 (l.mono st.bars q1) r (PostN.later (o := k a M') p q1 st)
  | exc x M' =>
    rw [q] at p
    exact p.elim
  | stuck =>
    rw [q] at p
    exact p.elim
end
section
variable {S : SD} {X : Cx} {W : WX} {E : Ev} {ea eb ec : Expr} {es : List Expr} {a b c : ME} {pos px : Pos}
theorem g_nm {i : Nat} {x : PySem.Str} (hN : X.N.Nodup) (hi : X.N[i]? = some x) (hx : Loc X.env.scope x) (hf : X.fn x = true ∨ X.env.scope.names.lookup x = some .local) :
    PG X (.Name x pos) (tG S X.K (fun x ρ M => if i < ρ.length then .val (ρ.set i (some x)) M else .stuck) [i]) := by
  refine pg_imp (pg_name hN hi hx hf) fun v σ H Q ⟨F, ι, Z, M, ρ, y, s, l, r, p⟩ => ?_
  dsimp only at p
  split at p
  · exact p ι Z H _ (Pre.refl ι) (Step.refl Z H) s (l.set i r) (SameBut.set σ i _)
  · exact p.elim
theorem assigns_pl : ∀ {es : List Expr} (env : Env), es.all plE = true → (assignEach es env).length = es.length ∧ (assignEach es env).findIdx? (·.1) = none ∧ ∀ e r, es = e :: r → (assignEach es env).map (·.2) = assign e env :: (assignEach r env).map (·.2)
  | [], env, _ => ⟨rfl, rfl, fun e r h => by cases h⟩
  | e :: es, env, h => by
    rw [List.all_cons, Bool.and_eq_true] at h
    obtain ⟨h1, h2⟩ := h
    obtain ⟨i1, i2, i3⟩ := assigns_pl env h2
    have q : assignEach (e :: es) env = (false, assign e env) :: assignEach es env := by
      cases e <;> first | rfl | cases h1
    refine ⟨by rw [q, List.length_cons, i1, List.length_cons], ?_, fun e' r e2 => ?_⟩
    · rw [q, List.findIdx?_cons, i2]
      rfl
    · cases e2
      rw [q]
      rfl
/-- all targets of a tuple, from the left -/
inductive AllG (X : Cx) (S : SD) (E : Ev) : List Expr → List MT → Prop
  | nil : AllG X S E [] []
  | cons {e : Expr} {m : MT} {es : List Expr} {ms : List MT} (hp : plE e = true) (h : PG X e (tG S X.K (E.asg m) (slotsT m))) (r : AllG X S E es ms) : AllG X S E (e :: es) (m :: ms)
theorem AllG.pl : ∀ {es : List Expr} {ms : List MT}, AllG X S E es ms → es.all plE = true ∧ es.length = ms.length
  | _, _, .nil => ⟨rfl, rfl⟩
  | _, _, .cons hp _ r => by
    obtain ⟨h1, h2⟩ := r.pl
    exact ⟨by rw [List.all_cons, hp, h1]; rfl, by rw [List.length_cons, List.length_cons, h2]⟩
theorem gs_all : ∀ {es : List Expr} {ms : List MT}, AllG X S E es ms → PGs X es (tGs S X.K (asgTs E.asg ms) (slotsTs ms))
  | _, _, .nil => pgs_imp pgs_nil fun vs σ H Q ⟨F, ι, Z, M, ρ, xs, s, l, r, p⟩ => by
    cases xs with
    | nil =>
      cases r
      exact ⟨rfl, p ι Z H σ (Pre.refl ι) (Step.refl Z H) s l (SameBut.refl _ σ)⟩
    | cons x xs => exact p.elim
  | _, _, @AllG.cons _ _ _ e m es ms hp h r => by
    have hpl : (e :: es).all plE = true := (AllG.cons hp h r).pl.1
    refine pgs_imp (pgs_cons h (gs_all r) ((assigns_pl X.env hpl).2.2 e es rfl)) fun vs σ H Q ⟨F, ι, Z, M, ρ, xs, s, l, rr, p⟩ => ?_
    cases xs with
    | nil => exact p.elim
    | cons x xs =>
      cases rr with
      | @cons _ v _ vr rx rxs =>
        refine ⟨v, vr, rfl, F, ι, Z, M, ρ, x, s, l, rx, ?_⟩
        unfold asgTs at p
        cases q : E.asg m x ρ M with
        | val ρ1 M1 =>
          rw [q] at p
          intro ι1 Z1 H1 σ1 q1 st1 s1 l1 sb1
          refine ⟨F, ι1, Z1, M1, ρ1, xs, s1, l1, rxs.mono st1.bars q1, ?_⟩
          dsimp only [Out.bindX] at p
          cases q2 : asgTs E.asg ms xs ρ1 M1 with
          | val ρ2 M2 =>
            rw [q2] at p
            exact fun ι2 Z2 H2 σ2 x y z w u => p ι2 Z2 H2 σ2 (q1.trans x) (st1.trans y) z w (by unfold slotsTs; exact sb1.trans u)
          | exc x M' =>
            rw [q2] at p
            exact p.elim
          | stuck =>
            rw [q2] at p
            exact p.elim
        | exc x M' =>
          rw [q] at p
          exact p.elim
        | stuck =>
          rw [q] at p
          exact p.elim
theorem g_tup {ms : List MT} {k : Nat} (hc : X.calm = true) (h : AllG X S E es ms) : PG X (.Tuple es k pos) (tG S X.K (fun x ρ M => match x with | .tup xs => if xs.length = ms.length then asgTs E.asg ms xs ρ M else .stuck | _ => .stuck) (slotsTs ms)) := by
  obtain ⟨h1, h2⟩ := h.pl
  obtain ⟨a1, a2, _⟩ := assigns_pl X.env h1
  refine pg_imp (pg_tup hc (gs_all h) rfl a2) fun v σ H Q ⟨F, ι, Z, M, ρ, x, s, l, r, p⟩ => ?_
  cases x with
  | tup xs =>
    obtain ⟨ad, vs, e1, e2, e3⟩ := RV.tupI r
    dsimp only at p
    split at p
    · rename_i hl
      exact ⟨ad, vs, e1, e2, by rw [a1, h2, ← e3.length, hl], F, ι, Z, M, ρ, xs, s, l, e3, p⟩
    · exact p.elim
  | _ => exact p.elim
theorem PSet.or {t t' : TSet} (h : PSet X t) (h' : PSet X t') : PSet X fun o i v H Q => t o i v H Q ∨ t' o i v H Q := by
  intro pins s σ H o i v ov iv u Q I ro ri rv q
  exact q.elim (h pins s σ H o i v ov iv u Q I ro ri rv) (h' pins s σ H o i v ov iv u Q I ro ri rv)
theorem put_step {F : Addr → Prop} {ι : List Addr} {Z : Addr → Prop} {M : MH} {H : Hp} {n : Nat} {ad : Addr} {u v : HO} {o' : MO} (s : Sim X.K S.CA F ι Z M H) (hn : ι[n]? = some ad) (z : Z ad) (hu : H ad = some u) (nk : (∀ y, u ≠ .own y) ∧ u ≠ .xd [])
    (r : Step Z H Z (upd H ad v) → RO X.K S.CA ι F Z (upd H ad v) o' ad) : Sim X.K S.CA F ι Z (M.set n o') (upd H ad v) ∧ Step Z H Z (upd H ad v) := by
  have st : Step Z H Z (upd H ad v) := ⟨fun b w h nz => by rw [upd_ne (fun e => nz (by rw [e]; exact z))]; exact h, fun _ h => .inl h, fun b w h => by
    by_cases e : b = ad
    · exact ⟨v, by rw [e]; exact upd_same⟩
    · exact ⟨w, by rw [upd_ne e]; exact h⟩⟩
  exact s.put hn z (fun w hw => by
    rw [hu] at hw
    cases hw
    exact nk) (r st)
theorem nk_lst {vs : List V} : (∀ y, HO.lst vs ≠ .own y) ∧ HO.lst vs ≠ .xd [] := by
  constructor
  · intro y w
    cases w
  · intro w
    cases w
theorem nk_dk {ks : List (Key × V)} : (∀ y, HO.dK ks ≠ .own y) ∧ HO.dK ks ≠ .xd [] := by
  constructor
  · intro y w
    cases w
  · intro w
    cases w
theorem g_sub (hu : X.A.units + 1 < cLine) (hp : plE eb = true) (ha : PE X ea (tE S X.K W (E.e a))) (hb : PE X eb (tE S X.K W (E.e b))) : PG X (.Subscript ea eb pos) (tG S X.K (fun x ρ M => (E.e a ρ M).bindX fun o M1 => (E.e b ρ M1).bindX fun j M2 => (match o with
    | .ref n => (match M2[n]?, j with
      | some (.lst xs), .int z => (match ixOf xs.length z with
        | some q => .val ρ (M2.set n (.lst (xs.set q x)))
        | none => .stuck)
      | some (.dct kvs), k => if isKey k && decide (kvs.length < 1000000) then .val ρ (M2.set n (.dct (putD k x kvs))) else .stuck
      | _, _ => .stuck)
    | _ => .stuck)) []) := by
  have hsl : ∀ v, assign (.Subscript ea eb pos) X.env v = (do
      let ov ← holding [v] (eval ea X.env)
      let iv ← holding [v, ov] (eval eb X.env)
      standAt pos
      holding [v, ov, iv] (setItem ov iv v)
      release [v, ov, iv] []) := by
    intro v
    cases eb <;> first | rfl | cases hp
  refine pg_imp (pg_sub ha hb (PSet.or set_list (set_dict hu)) hsl) fun v σ H Q ⟨F, ι, Z, M, ρ, x, s, l, rx, p⟩ => ?_
  refine PostN.at s l p fun ι1 Z1 M1 H1 o o' q1 st1 s1 l1 r1 p1 => ?_
  refine PostN.at s1 l1 p1 fun ι2 Z2 M2 H2 j j' q2 st2 s2 l2 r2 p2 => ?_
  have ro := r1.mono st2.bars q2
  have rv := (rx.mono st1.bars q1).mono st2.bars q2
  split at p2
  · rename_i n
    cases ro with
    | @ref _ ad e =>
      split at p2
      · rename_i xs z hm
        obtain ⟨b', e2, zz, vs, h2, r4⟩ := s2.obj n _ hm
        rw [e] at e2
        cases e2
        cases r2
        split at p2
        · rename_i q hq
          refine .inl ⟨ad, vs, z, q, rfl, rfl, h2, by rw [← r4.length, ← ixOf_eq]; exact hq, ?_⟩
          obtain ⟨s3, st3⟩ := put_step (v := .lst (vs.set q v)) (o' := .lst (xs.set q x)) s2 e zz h2 nk_lst fun st => ⟨zz, _, upd_same, (r4.set q rv).mono st.bars (Pre.refl _)⟩
          exact p2 ι2 Z2 _ σ (Pre.refl _) st3 s3 (l2.mono st3.bars (Pre.refl _)) (SameBut.refl _ _)
        · exact p2.elim
      · rename_i jj _ _ kvs hm
        obtain ⟨b', e2, zz, ks, h2, r4⟩ := s2.obj n _ hm
        rw [e] at e2
        cases e2
        split at p2
        · rename_i hk
          obtain ⟨hk1, hk2⟩ := Bool.and_eq_true_iff.mp hk
          obtain ⟨k, hk⟩ := isKey_some hk1
          have hz : ks.length < sizeLine := by
            rw [← r4.length]
            exact Nat.lt_of_lt_of_le (of_decide_eq_true hk2) (line_le (Nat.le_refl _))
          refine .inr ⟨ad, upd H2 ad (.dK (putK ks k v)), rfl, by rw [key_rel hk r2]; exact DPut.k h2 hz, ?_⟩
          obtain ⟨s3, st3⟩ := put_step (v := .dK (putK ks k v)) (o' := .dct (putD jj x kvs)) s2 e zz h2 nk_dk fun st => ⟨zz, _, upd_same, RKs.mono st.bars (Pre.refl _) (r4.put hk rv)⟩
          exact p2 ι2 Z2 _ σ (Pre.refl _) st3 s3 (l2.mono st3.bars (Pre.refl _)) (SameBut.refl _ _)
        · exact p2.elim
      · exact p2.elim
  · exact p2.elim
end

/-! ### what is walked -/
section
variable {S : SD} {K : PySem.W.Frag}
theorem readK_ok {F : Addr → Prop} {ι : List Addr} {Z : Addr → Prop} {M : MH} {H : Hp} (s : Sim K S.CA F ι Z M H) {k : Bool} {x : PV} {v : V} {xs : List PV} (r : RV K S.CA ι (bar F Z) H x v) (e : readK M k x = some xs) : ∃ a vs, v = .ref a ∧ SqK k K H a vs ∧ RVs K S.CA ι (bar F Z) H xs vs := by
  have w := s.view r
  unfold readK at e
  cases q : view M x <;> rw [q] at e w <;> (try cases e) <;> cases k <;> (try cases e)
  · obtain ⟨a, vs, e1, e2, e3⟩ := RV.tupI w
    exact ⟨a, vs, e1, e2, e3⟩
  · obtain ⟨a, vs, e1, e2, e3⟩ := w
    exact ⟨a, vs, e1, SqL.of e2, e3⟩
  · obtain ⟨a, e1, e2⟩ := w
    exact ⟨a, _, e1, e2, RVs.ints _⟩
theorem kindS_read {M : MH} {x : PV} {k : Bool} (h : kindS M x = some k) : ∃ xs, readK M k x = some xs := by
  unfold kindS at h
  unfold readK
  cases q : view M x <;> rw [q] at h <;> (try cases h) <;> exact ⟨_, rfl⟩
/-- the walk J yields what srcAt tells, now and later -/
def RSrc (S : SD) (K : PySem.W.Frag) : List Addr → (Addr → Prop) → Hp → Src → It → Prop := fun ι B H src J => ∀ F Z' ι' M' H', Pre ι ι' → Keep B H (bar F Z') H' → Sim K S.CA F ι' Z' M' H' → ∀ i,
  (∀ x, srcAt M' src i = some (some x) → J.go i H' ∧ ∀ y H'', J.yld i H' y H'' → (∀ a o, H' a = some o → H'' a = some o) ∧ RV K S.CA ι' (bar F Z') H'' x y) ∧ (srcAt M' src i = some none → J.stop i H')
theorem src_sq {ι : List Addr} {B : Addr → Prop} {H : Hp} {k : Bool} {x : PV} {a : Addr} (r : RV K S.CA ι B H x (.ref a)) : RSrc S K ι B H (.sq k x) (ItS k K a) := by
  intro F Z' ι' M' H' pre kp s i
  have r' := r.mono kp pre
  refine ⟨fun y e => ?_, fun e => ?_⟩ <;> unfold srcAt at e <;> dsimp only at e <;> split at e
  · rename_i xs hx
    obtain ⟨a', vs, e1, e2, e3⟩ := readK_ok s r' hx
    cases e1
    have hy : xs[i]? = some y := Option.some.inj e
    obtain ⟨v, e4, r4⟩ := e3.get hy
    refine ⟨⟨vs, v, e2, e4⟩, fun y' H'' q => ?_⟩
    obtain ⟨q1, q2⟩ := q
    subst q1
    have q3 := q2 vs e2
    rw [e4] at q3
    cases q3
    exact ⟨fun _ _ h => h, r4⟩
  · cases e
  · rename_i xs hx
    obtain ⟨a', vs, e1, e2, e3⟩ := readK_ok s r' hx
    cases e1
    have hy : xs[i]? = none := Option.some.inj e
    exact ⟨vs, e2, by rw [← e3.length]; exact List.getElem?_eq_none_iff.mp hy⟩
  · cases e
theorem pair_rel {ι : List Addr} {F Z : Addr → Prop} {M : MH} {H : Hp} (s : Sim K S.CA F ι Z M H) {x y : PV} {v w : V} {T : Addr} (hT : H T = none) (rx : RV K S.CA ι (bar F Z) H x v) (ry : RV K S.CA ι (bar F Z) H y w) :
    (∀ a o, H a = some o → upd H T (.tup [v, w]) a = some o) ∧ RV K S.CA ι (bar F Z) (upd H T (.tup [v, w])) (.tup [x, y]) (.ref T) := by
  have k := upd_ext (o := HO.tup [v, w]) hT
  exact ⟨k, .tup upd_same (not_bar_new s hT) (.cons (rx.later k) (.cons (ry.later k) .nil))⟩
theorem src_enum {ι : List Addr} {B : Addr → Prop} {H : Hp} {k : Bool} {x : PV} {a : Addr} (r : RV K S.CA ι B H x (.ref a)) : RSrc S K ι B H (.enum k x) (ItE k K a) := by
  intro F Z' ι' M' H' pre kp s i
  have r' := r.mono kp pre
  refine ⟨fun y e => ?_, fun e => ?_⟩ <;> unfold srcAt at e <;> dsimp only at e <;> split at e
  · rename_i xs hx
    obtain ⟨a', vs, e1, e2, e3⟩ := readK_ok s r' hx
    cases e1
    split at e
    · rename_i z hz
      cases e
      obtain ⟨v, e4, r4⟩ := e3.get hz
      refine ⟨⟨vs, v, e2, e4⟩, fun y' H'' q => ?_⟩
      obtain ⟨T, w, q1, q2, q3, q4⟩ := q
      subst q1 q3
      have q5 := q4 vs e2
      rw [e4] at q5
      cases q5
      exact pair_rel s q2 (.int _) r4
    · cases e
  · cases e
  · rename_i xs hx
    obtain ⟨a', vs, e1, e2, e3⟩ := readK_ok s r' hx
    cases e1
    split at e
    · cases e
    · rename_i hz
      exact ⟨vs, e2, by rw [← e3.length]; exact List.getElem?_eq_none_iff.mp hz⟩
  · cases e
theorem src_zip {ι : List Addr} {B : Addr → Prop} {H : Hp} {k j : Bool} {x y : PV} {a b : Addr} (r : RV K S.CA ι B H x (.ref a)) (r2 : RV K S.CA ι B H y (.ref b)) : RSrc S K ι B H (.zip k x j y) (ItZ k j K a b) := by
  intro F Z' ι' M' H' pre kp s i
  have ra := r.mono kp pre
  have rb := r2.mono kp pre
  refine ⟨fun y e => ?_, fun e => ?_⟩ <;> unfold srcAt at e <;> dsimp only at e <;> split at e
  · rename_i xs hx
    obtain ⟨a', vs, e1, e2, e3⟩ := readK_ok s ra hx
    cases e1
    split at e
    · rename_i ys hy
      obtain ⟨b', ws, f1, f2, f3⟩ := readK_ok s rb hy
      cases f1
      split at e
      · rename_i z z2 hz hz2
        cases e
        obtain ⟨v, e4, r4⟩ := e3.get hz
        obtain ⟨v2, f4, r5⟩ := f3.get hz2
        refine ⟨⟨vs, ws, v, v2, e2, f2, e4, f4⟩, fun y' H'' q => ?_⟩
        obtain ⟨T, w, w2, q1, q2, q3, q4, q5⟩ := q
        subst q1 q3
        have q6 := q4 vs e2
        rw [e4] at q6
        cases q6
        have q7 := q5 ws f2
        rw [f4] at q7
        cases q7
        exact pair_rel s q2 r4 r5
      · split at e <;> cases e
    · cases e
  · cases e
  · rename_i xs hx
    obtain ⟨a', vs, e1, e2, e3⟩ := readK_ok s ra hx
    cases e1
    split at e
    · rename_i ys hy
      obtain ⟨b', ws, f1, f2, f3⟩ := readK_ok s rb hy
      cases f1
      split at e
      · cases e
      · split at e
        · rename_i hl
          exact ⟨vs, ws, e2, f2, by rw [← e3.length, ← f3.length]; exact hl⟩
        · cases e
    · cases e
  · cases e
theorem src_rng {ι : List Addr} {B : Addr → Prop} {H : Hp} {lo : Int} {n : Nat} : RSrc S K ι B H (.rng lo n) (Itr lo n) := by
  intro F Z' ι' M' H' pre kp s i
  refine ⟨fun y e => ?_, fun e => ?_⟩ <;> unfold srcAt at e <;> dsimp only at e <;> split at e
  · rename_i hi
    cases e
    refine ⟨hi, fun y' H'' q => ?_⟩
    obtain ⟨q1, q2⟩ := q
    subst q1 q2
    exact ⟨fun _ _ h => h, .int _⟩
  · cases e
  · cases e
  · rename_i hi
    exact Nat.le_of_not_lt hi
end
theorem pi_imp {X : Cx} {tg e : Expr} {t t' : TI} (h : PI X tg e t) (i : ∀ σ H R, t' σ H R → t σ H R) : PI X tg e t' := ⟨fun pins s σ H R I q => h.run pins s σ H R I (i σ H R q)⟩
section
variable {S : SD} {X : Cx} {W : WX} {E : Ev} {tg ea eb : Expr} {a b : ME} {pos px tpos : Pos} {elts : List Expr} {kk : Nat}
abbrev tI (S : SD) (X : Cx) (W : WX) (f : Rho → MH → Out Src) : TI := tO S X.K W (RSrc S X.K) f
theorem i_seq (ha : PE X ea (tE S X.K W (E.e a))) : PI X tg ea (tI S X W (evIt E (.seq a))) := by
  refine pi_imp (pi_sq ha) fun σ H R ⟨F, ι, Z, M, ρ, s, l, p⟩ => ?_
  refine tO.at s l p fun ι1 Z1 M1 H1 x x' q1 st1 s1 l1 r1 p1 => ?_
  split at p1
  · rename_i k hk
    obtain ⟨xs, hx⟩ := kindS_read hk
    obtain ⟨ad, vs, e1, e2, e3⟩ := readK_ok s1 r1 hx
    subst e1
    exact ⟨ad, k, vs, rfl, e2, PostO.fin (W := W) p1 s1 (src_sq r1)⟩
  · exact p1.elim
theorem i_enum (C : CF S X) (hg : Gl X "enumerate") (hp : plE ea = true) (ha : PE X ea (tE S X.K W (E.e a))) : PI X (.Tuple elts kk tpos) (.Call (.Name "enumerate" px) [ea] [] pos) (tI S X W (evIt E (.enum a))) := by
  refine pi_imp (pi_en hg (C.mg' _ (by decide +kernel)) (a_cons hp ha a_nil) (star_pl hp [] X.env)) fun σ H R ⟨F, ι, Z, M, ρ, s, l, p⟩ => ?_
  refine tO.at s l p fun ι1 Z1 M1 H1 xs vs q1 st1 s1 l1 r1 p1 => ?_
  split at p1
  · rename_i x
    split at p1
    · rename_i k hk
      cases r1 with
      | cons rx rr =>
        cases rr
        obtain ⟨xs, hx⟩ := kindS_read hk
        obtain ⟨ad, vs, e1, e2, e3⟩ := readK_ok s1 rx hx
        subst e1
        exact ⟨ad, k, vs, rfl, e2, PostO.fin (W := W) p1 s1 (src_enum rx)⟩
    · exact p1.elim
  · exact p1.elim
theorem i_zip (C : CF S X) (hg : Gl X "zip") (hp : plE ea = true) (hp2 : plE eb = true) (ha : PE X ea (tE S X.K W (E.e a))) (hb : PE X eb (tE S X.K W (E.e b))) :
    PI X (.Tuple elts kk tpos) (.Call (.Name "zip" px) [ea, eb] [] pos) (tI S X W (evIt E (.zip a b))) := by
  have hpl : [eb].all plE = true := by rw [List.all_cons, hp2]; rfl
  refine pi_imp (pi_zp hg (C.mg' _ (by decide +kernel)) (a_cons hp ha (a_cons hp2 hb a_nil)) (star_pl hp [eb] X.env) (backs_pl hpl)) fun σ H R ⟨F, ι, Z, M, ρ, s, l, p⟩ => ?_
  refine tO.at s l p fun ι1 Z1 M1 H1 xs vs q1 st1 s1 l1 r1 p1 => ?_
  split at p1
  · rename_i x y
    split at p1
    · rename_i k hk
      split at p1
      · rename_i j hj
        cases r1 with
        | cons rx rr =>
          cases rr with
          | cons ry rr =>
            cases rr
            obtain ⟨xs, hx⟩ := kindS_read hk
            obtain ⟨ad, vs, e1, e2, e3⟩ := readK_ok s1 rx hx
            obtain ⟨ys, hy⟩ := kindS_read hj
            obtain ⟨bd, ws, f1, f2, f3⟩ := readK_ok s1 ry hy
            subst e1 f1
            exact ⟨ad, k, vs, bd, j, ws, rfl, e2, f2, PostO.fin (W := W) p1 s1 (src_zip rx ry)⟩
      · exact p1.elim
    · exact p1.elim
  · exact p1.elim
theorem i_rng1 (C : CF S X) (hg : Gl X "range") (hp : plE ea = true) (ha : PE X ea (tE S X.K W (E.e a))) : PI X tg (.Call (.Name "range" px) [ea] [] pos) (tI S X W (evIt E (.rng1 a))) := by
  refine pi_imp (pi_range1 hg (C.mg' _ (by decide +kernel)) (a_cons hp ha a_nil) (star_pl hp [] X.env)) fun σ H R ⟨F, ι, Z, M, ρ, s, l, p⟩ => ?_
  refine tO.at s l p fun ι1 Z1 M1 H1 xs vs q1 st1 s1 l1 r1 p1 => ?_
  split at p1
  · cases r1 with
    | cons rx rr =>
      cases rr
      cases rx
      split at p1
      · exact ⟨_, rfl, by omega, by omega, PostO.fin (W := W) p1 s1 src_rng⟩
      · exact p1.elim
  · exact p1.elim
theorem i_rng2 (C : CF S X) (hg : Gl X "range") (hp : plE ea = true) (hp2 : plE eb = true) (ha : PE X ea (tE S X.K W (E.e a))) (hb : PE X eb (tE S X.K W (E.e b))) : PI X tg (.Call (.Name "range" px) [ea, eb] [] pos) (tI S X W (evIt E (.rng2 a b))) := by
  refine pi_imp (pi_range2 hg (C.mg' _ (by decide +kernel)) (a_cons hp ha (a_cons hp2 hb a_nil)) ((star_pl hp [eb] X.env).trans (by rw [star_pl hp2 [] X.env]; rfl)) (star_pl hp2 [] X.env)) fun σ H R ⟨F, ι, Z, M, ρ, s, l, p⟩ => ?_
  refine tO.at s l p fun ι1 Z1 M1 H1 xs vs q1 st1 s1 l1 r1 p1 => ?_
  split at p1
  · cases r1 with
    | cons rx rr =>
      cases rr with
      | cons ry rr =>
        cases rr
        cases rx
        cases ry
        split at p1
        · exact ⟨_, _, rfl, by omega, PostO.fin (W := W) p1 s1 src_rng⟩
        · exact p1.elim
  · exact p1.elim
end
end Mp
end

section
set_option Elab.async false
set_option linter.all false
set_option maxRecDepth 100000
set_option maxHeartbeats 2000000
/-! Mp15: comprehensions as readings by the evaluator. -/
namespace Mp
open PySem PySem.Spec PyProof.Rows L2

section
variable {S : SD} {K : PySem.W.Frag} {F F' : Addr → Prop} {ι : List Addr} {Z : Addr → Prop} {M : MH} {H H' : Hp}
theorem RO.chg (kb : Keep (bar F Z) H (bar F' Z) H') (same : ∀ b u, Z b → H b = some u → H' b = some u) {o : MO} {a : Addr} (r : RO K S.CA ι F Z H o a) : RO K S.CA ι F' Z H' o a := by
  cases o with
  | lst xs =>
    obtain ⟨z, vs, h, r⟩ := r
    exact ⟨z, vs, same a _ z h, r.mono kb (Pre.refl ι)⟩
  | dct kvs =>
    obtain ⟨z, vs, h, r⟩ := r
    exact ⟨z, vs, same a _ z h, r.mono kb (Pre.refl ι)⟩
  | ins c fs =>
    obtain ⟨z, dx, vs, ned, h, r⟩ := r
    refine ⟨z, dx, vs, ned, ?_, fun i f e => let ⟨v, e2, q⟩ := r i f e; ⟨v, e2, q.mono kb (Pre.refl ι)⟩⟩
    rcases h with ⟨h1, h2, h3, h4, zd⟩ | ⟨h1, h2, nb⟩
    · exact .inl ⟨same a _ z h1, h2, h3, same dx _ zd h4, zd⟩
    · exact .inr ⟨same a _ z h1, kb dx _ h2 nb⟩
  | frz w =>
    obtain ⟨⟨u, hu⟩, nb, r⟩ := r
    obtain ⟨h1, h2⟩ := kb a u hu nb
    exact ⟨⟨u, h1⟩, h2, RV.mono kb (Pre.refl []) r⟩
theorem Sim.chg (s : Sim K S.CA F ι Z M H) (kb : Keep (bar F Z) H (bar F' Z) H') (same : ∀ b u, Z b → H b = some u → H' b = some u) (there : ∀ b u, H b = some u → ∃ u', H' b = some u') (ft : ∀ b, F' b → ∃ o, H' b = some o) (zf : ∀ b, Z b → ¬ F' b) : Sim K S.CA F' ι Z M H' where
  len := s.len
  nd := s.nd
  obj := fun n o e => let ⟨a, e2, r⟩ := s.obj n o e; ⟨a, e2, r.chg kb same⟩
  zt := fun a z => let ⟨u, h⟩ := s.zt a z; there a u h
  ft := ft
  zf := zf
  it := fun a m => let ⟨u, h⟩ := s.it a m; there a u h
/-- an address that is barred for all that is run meanwhile -/
def andD (F : Addr → Prop) (D : Addr) : Addr → Prop := fun a => F a ∨ a = D
theorem Sim.barF (s : Sim K S.CA F ι Z M H) {D : Addr} (u : HO) (hD : H D = none) : Sim K S.CA (andD F D) ι Z M (upd H D u) ∧ Keep (bar F Z) H (bar (andD F D) Z) (upd H D u) := by
  have ext := upd_ext (o := u) hD
  have kb : Keep (bar F Z) H (bar (andD F D) Z) (upd H D u) := fun a o h nb => by
    refine ⟨ext a o h, fun b => ?_⟩
    rcases b with (f | e) | z
    · exact nb (.inl f)
    · exact ne_of_none h hD e
    · exact nb (.inr z)
  refine ⟨s.chg kb (fun b w _ h => ext b w h) (fun b w h => ⟨w, ext b w h⟩) (fun b f => ?_) (fun b z f => ?_), kb⟩
  · rcases f with f | e
    · obtain ⟨o, h⟩ := s.ft b f
      exact ⟨o, ext b o h⟩
    · exact ⟨u, by rw [e]; exact upd_same⟩
  · rcases f with f | e
    · exact s.zf b z f
    · obtain ⟨o, h⟩ := s.zt b z
      exact ne_of_none h hD e
/-- what is barred may be changed -/
theorem Sim.touch (s : Sim K S.CA F ι Z M H) {D : Addr} (u : HO) (fD : F D) : Sim K S.CA F ι Z M (upd H D u) ∧ Keep (bar F Z) H (bar F Z) (upd H D u) := by
  have kb : Keep (bar F Z) H (bar F Z) (upd H D u) := fun a o h nb => by
    refine ⟨?_, nb⟩
    rw [upd_ne (fun e => nb (.inl (by rw [e]; exact fD)))]
    exact h
  have there : ∀ b w, H b = some w → ∃ w', upd H D u b = some w' := fun b w h => by
    by_cases e : b = D
    · exact ⟨u, by rw [e]; exact upd_same⟩
    · exact ⟨w, by rw [upd_ne e]; exact h⟩
  refine ⟨s.chg kb (fun b w z h => ?_) there (fun b f => let ⟨o, h⟩ := s.ft b f; there b o h) s.zf, kb⟩
  rw [upd_ne (fun e => s.zf b z (by rw [e]; exact fD))]
  exact h
theorem Keep.unbar (F : Addr → Prop) (D : Addr) (Z : Addr → Prop) (H : Hp) : Keep (bar (andD F D) Z) H (bar F Z) H := fun a o h nb => ⟨h, fun b => nb (b.elim (fun f => .inl (.inl f)) .inr)⟩
theorem Sim.unbar {D : Addr} (s : Sim K S.CA (andD F D) ι Z M H) : Sim K S.CA F ι Z M H := s.chg (Keep.unbar F D Z H) (fun _ _ _ h => h) (fun _ u h => ⟨u, h⟩) (fun b f => s.ft b (.inl f)) fun b z f => s.zf b z (.inl f)
theorem not_it {D : Addr} (s : Sim K S.CA F ι Z M H) (fD : F D) : D ∉ ι := fun m => by
  obtain ⟨n, hn, e⟩ := List.getElem_of_mem m
  have hl : n < M.length := by rw [← s.len]; exact hn
  obtain ⟨a, e2, r⟩ := s.obj n M[n] (List.getElem?_eq_getElem hl)
  have e3 : ι[n]? = some D := by rw [List.getElem?_eq_getElem hn, e]
  rw [e3] at e2
  cases e2
  cases hM : M[n] with
  | lst xs =>
    rw [hM] at r
    exact s.zf D r.1 fD
  | dct xs =>
    rw [hM] at r
    exact s.zf D r.1 fD
  | ins c fs =>
    rw [hM] at r
    exact s.zf D r.1 fD
  | frz w =>
    rw [hM] at r
    exact r.2.1 (.inl fD)
/-- what was barred becomes one's own object -/
theorem Sim.take {D : Addr} (s : Sim K S.CA (andD F D) ι Z M H) (nF : ¬ F D) {o : MO} {u : HO} (hD : H D = some u) (r : Keep (bar (andD F D) Z) H (bar F fun a => Z a ∨ a = D) H → RO K S.CA (ι ++ [D]) F (fun a => Z a ∨ a = D) H o D) :
    Sim K S.CA F (ι ++ [D]) (fun a => Z a ∨ a = D) (M ++ [o]) H := by
  have hn := not_it s (.inr rfl)
  have kb : Keep (bar (andD F D) Z) H (bar F fun a => Z a ∨ a = D) H := fun a o h nb => by
    refine ⟨h, fun b => ?_⟩
    rcases b with f | z | e
    · exact nb (.inl (.inl f))
    · exact nb (.inr z)
    · exact nb (.inl (.inr e))
  refine ⟨by simp [s.len], ?_, fun n o' e => ?_, fun a z => ?_, fun a f => s.ft a (.inl f), fun a z f => ?_, fun a m => ?_⟩
  · rw [List.nodup_append]
    refine ⟨s.nd, by simp, fun a ha b hb => ?_⟩
    have e : b = D := by simpa using hb
    subst e
    exact fun e => hn (by rw [← e]; exact ha)
  · by_cases hlt : n < M.length
    · rw [List.getElem?_append_left hlt] at e
      obtain ⟨a, e2, q⟩ := s.obj n o' e
      refine ⟨a, Pre.snoc ι D n a e2, ?_⟩
      cases o' with
      | lst xs =>
        obtain ⟨z, vs, h, r⟩ := q
        exact ⟨.inl z, vs, h, r.mono kb (Pre.snoc ι D)⟩
      | dct xs =>
        obtain ⟨z, vs, h, r⟩ := q
        exact ⟨.inl z, vs, h, r.mono kb (Pre.snoc ι D)⟩
      | ins c fs =>
        obtain ⟨z, dx, vs, ned, h, r⟩ := q
        refine ⟨.inl z, dx, vs, ned, ?_, fun i f e => let ⟨v, e2, q⟩ := r i f e; ⟨v, e2, q.mono kb (Pre.snoc ι D)⟩⟩
        rcases h with ⟨h1, h2, h3, h4, zd⟩ | ⟨h1, h2, nb⟩
        · exact .inl ⟨h1, h2, h3, h4, .inl zd⟩
        · exact .inr ⟨h1, kb dx _ h2 nb⟩
      | frz w =>
        obtain ⟨⟨u, hu⟩, nb, q⟩ := q
        obtain ⟨h1, h2⟩ := kb a u hu nb
        exact ⟨⟨u, h1⟩, h2, RV.mono kb (Pre.refl []) q⟩
    · have e1 : n = M.length := by
        have h2 := (List.getElem?_eq_some_iff.mp e).1
        simp only [List.length_append, List.length_cons, List.length_nil] at h2
        omega
      subst e1
      have e3 : o' = o := by simpa using e.symm
      subst e3
      exact ⟨D, by rw [← s.len]; simp, r kb⟩
  · rcases z with z | e
    · exact s.zt a z
    · exact ⟨u, by rw [e]; exact hD⟩
  · rcases z with z | e
    · exact s.zf a z (.inl f)
    · rw [e] at f
      exact nF f
  · rcases List.mem_append.mp m with m | m
    · exact s.it a m
    · have e : a = D := by simpa using m
      exact ⟨u, by rw [e]; exact hD⟩
/-- the made list is the value -/
theorem made_lst {W : WX} {σ : L2.St} {ι1 : List Addr} {Z1 : Addr → Prop} {H1 : Hp} {m : Bool} {ys : List PV} {vs : List V} {D : Addr} {Q : VK} (p : PO1 S K W (RVo S K) σ F ι1 Z1 H1 (newL m ys M) Q) (pre : Pre ι1 ι) (st : Step Z1 H1 Z H) (hD1 : H1 D = none) (nF : ¬ F D)
    (s : Sim K S.CA (andD F D) ι Z M H) (hD : H D = some (.lst vs)) (r : RVs K S.CA ι (bar (andD F D) Z) H ys vs) : Q (.ref D) H := by
  have nZ : ¬ Z D := fun z => s.zf D z (.inr rfl)
  unfold newL at p
  split at p
  · cases m with
    | false => exact p ι Z H _ pre st s.unbar (.lst hD (fun b => b.elim nF nZ) (r.mono (Keep.unbar F D Z H) (Pre.refl ι)))
    | true =>
      have s2 := s.take nF (o := .lst ys) hD fun kb => ⟨.inr rfl, vs, hD, r.mono kb (Pre.snoc ι D)⟩
      refine p (ι ++ [D]) _ H _ (pre.trans (Pre.snoc ι D)) ⟨st.keep, fun a z => ?_, st.there⟩ s2 (.ref (by rw [← s.len]; simp))
      rcases z with z | e
      · exact st.own a z
      · exact .inr (by rw [e]; exact hD1)
  · exact p.elim
theorem made_dct {W : WX} {σ : L2.St} {ι1 : List Addr} {Z1 : Addr → Prop} {H1 : Hp} {m : Bool} {ys : List (PV × PV)} {vs : List (Key × V)} {D : Addr} {Q : VK} (p : PO1 S K W (RVo S K) σ F ι1 Z1 H1 (newD m ys M) Q) (pre : Pre ι1 ι) (st : Step Z1 H1 Z H) (hD1 : H1 D = none) (nF : ¬ F D)
    (s : Sim K S.CA (andD F D) ι Z M H) (hD : H D = some (.dK vs)) (r : RKs K S.CA ι (bar (andD F D) Z) H ys vs) : Q (.ref D) H := by
  have nZ : ¬ Z D := fun z => s.zf D z (.inr rfl)
  unfold newD at p
  cases m with
  | false => exact p ι Z H _ pre st s.unbar (.dct hD (fun b => b.elim nF nZ) (r.mono (Keep.unbar F D Z H) (Pre.refl ι)))
  | true =>
    have s2 := s.take nF (o := .dct ys) hD fun kb => ⟨.inr rfl, vs, hD, r.mono kb (Pre.snoc ι D)⟩
    refine p (ι ++ [D]) _ H _ (pre.trans (Pre.snoc ι D)) ⟨st.keep, fun a z => ?_, st.there⟩ s2 (.ref (by rw [← s.len]; simp))
    rcases z with z | e
    · exact st.own a z
    · exact .inr (by rw [e]; exact hD1)
end
/-- nothing is let out of a block -/
abbrev W0 : WX := fun _ _ _ _ => False
section
variable {S : SD} {K : PySem.W.Frag} {W : WX} {E : Ev} {t : MT} {e : ME} {ifs : List ME} {vs : List Nat} {m : Bool}
theorem lc_imp {f : Rho → MH → Out Src} (hs : ∀ i, i ∈ slotsT t → i ∈ vs) {σ : L2.St} {H : Hp} {Q : VK}
    (h : tE S K W (fun ρ M => (f ρ M).bind fun s M1 => (lcL E e t ifs (wipeR ρ vs) (srcLen M1 s + 1) 0 s [] M1).bind fun ys M2 => newL m ys M2) σ H Q) :
    tLc (tO S K W (RSrc S K) f) (tG S K (E.asg t) (slotsT t)) (tT S K W0 (evIfs E ifs)) (tE S K W0 (E.e e)) vs σ H Q := by
  obtain ⟨F, ι, Z, M, ρ, s, l, p⟩ := h
  refine tO.at s l p fun ι1 Z1 M1 H1 src J q1 st1 s1 l1 rJ p1 => ?_
  intro D hD
  have nF : ¬ F D := fun f => by
    obtain ⟨o, h⟩ := s1.ft D f
    rw [hD] at h
    cases h
  obtain ⟨s0, kb0⟩ := s1.barF (.lst []) hD
  let Wm : Nat → Nat → Hp → Prop := fun i w H' => ∃ ι' Z' M' acc av, Pre ι1 ι' ∧ Step Z1 H1 Z' H' ∧ Sim K S.CA (andD F D) ι' Z' M' H' ∧ H' D = some (.lst av) ∧ RVs K S.CA ι' (bar (andD F D) Z') H' acc av ∧
    PO1 S K W (RVo S K) σ F ι1 Z1 H1 ((lcL E e t ifs (wipeR ρ vs) w i src acc M').bind fun ys M2 => newL m ys M2) Q
  refine ⟨Wm, ⟨_, ι1, Z1, M1, [], [], Pre.refl _, Step.ext (upd_ext hD), s0, upd_same, .nil, p1⟩, ?_⟩
  rintro i w H' ⟨ι', Z', M', acc, av, pre, st, s', hDv, rv, p'⟩
  have kB : Keep (bar F Z1) H1 (bar (andD F D) Z') H' := fun a o h nb => by
    obtain ⟨g1, g2⟩ := st.bars (F := F) a o h nb
    refine ⟨g1, fun b => ?_⟩
    rcases b with (f | e) | z
    · exact g2 (.inl f)
    · exact ne_of_none h hD e
    · exact g2 (.inr z)
  have lw : LR K S.CA ι' (bar (andD F D) Z') H' (wipeR ρ vs) (L2.wipe σ vs) := (l1.wipe vs).mono kB pre
  obtain ⟨j1, j2⟩ := rJ (andD F D) Z' ι' M' H' pre kB s' i
  cases w with
  | zero => exact p'.elim
  | succ w =>
    unfold lcL at p'
    cases hsrc : srcAt M' src i with
    | none =>
      rw [hsrc] at p'
      exact p'.elim
    | some o =>
      cases o with
      | none =>
        rw [hsrc] at p'
        exact .inl ⟨j2 hsrc, made_lst p' pre st hD nF s' hDv rv⟩
      | some x =>
        rw [hsrc] at p'
        obtain ⟨go, yl⟩ := j1 x hsrc
        refine .inr ⟨go, Wm (i + 1) w, fun H2 h2 => ⟨w, Nat.lt_succ_self w, h2⟩, fun y H2 hy => ?_⟩
        obtain ⟨ext, ry⟩ := yl y H2 hy
        have s2 := s'.ext ext
        have st2 : Step Z' H' Z' H2 := Step.ext ext
        have k2 := st2.bars (F := andD F D)
        refine ⟨andD F D, ι', Z', M', wipeR ρ vs, x, s2, lw.mono k2 (Pre.refl _), ry, ?_⟩
        dsimp only at p'
        cases ha : E.asg t x (wipeR ρ vs) M' with
        | exc z M3 =>
          rw [ha] at p'
          exact p'.elim
        | stuck =>
          rw [ha] at p'
          exact p'.elim
        | val ρ1 M3 =>
          rw [ha] at p'
          dsimp only at p'
          intro ι3 Z3 H3 σ3 pre3 st3 s3 l3 sb3
          refine ⟨wipe_same sb3 hs, andD F D, ι3, Z3, M3, ρ1, s3, l3, ?_⟩
          have D3 : H3 D = some (.lst av) := st3.keep D _ (ext D _ hDv) fun z => s2.zf D z (.inr rfl)
          cases hi : evIfs E ifs ρ1 M3 with
          | exc z M4 =>
            rw [hi] at p'
            exact p'.elim
          | stuck =>
            rw [hi] at p'
            exact p'.elim
          | val b M4 =>
            rw [hi] at p'
            intro ι4 Z4 H4 b' pre4 st4 s4 eb
            subst eb
            have D4 : H4 D = some (.lst av) := st4.keep D _ D3 fun z => s3.zf D z (.inr rfl)
            have st14 : Step Z1 H1 Z4 H4 := ((st.trans st2).trans st3).trans st4
            have rv4 : RVs K S.CA ι4 (bar (andD F D) Z4) H4 acc av := ((rv.mono k2 (Pre.refl _)).mono st3.bars pre3).mono st4.bars pre4
            cases b with
            | false =>
              rw [if_neg Bool.false_ne_true]
              exact ⟨ι4, Z4, M4, acc, av, pre.trans (pre3.trans pre4), st14, s4, D4, rv4, p'⟩
            | true =>
              rw [if_pos rfl]
              refine ⟨andD F D, ι4, Z4, M4, ρ1, s4, l3.mono st4.bars pre4, ?_⟩
              dsimp only at p'
              cases he : E.e e ρ1 M4 with
              | exc z M5 =>
                rw [he] at p'
                exact p'.elim
              | stuck =>
                rw [he] at p'
                exact p'.elim
              | val y2 M5 =>
                rw [he] at p'
                dsimp only at p'
                intro ι5 Z5 H5 v5 pre5 st5 s5 r5
                have D5 : H5 D = some (.lst av) := st5.keep D _ D4 fun z => s4.zf D z (.inr rfl)
                have rv5 := rv4.mono st5.bars pre5
                split at p'
                · rename_i hlen
                  obtain ⟨s6, k6⟩ := s5.touch (D := D) (.lst (av ++ [v5])) (.inr rfl)
                  have st15 := st14.trans st5
                  refine ⟨av, D5, ?_, ι5, Z5, M5, acc ++ [y2], av ++ [v5], pre.trans (pre3.trans (pre4.trans pre5)), ⟨fun a o h nz => ?_, st15.own, fun a o h => ?_⟩, s6, upd_same, (rv5.append (.cons r5 .nil)).mono k6 (Pre.refl _), p'⟩
                  · rw [← rv5.length]
                    exact Nat.lt_of_lt_of_le hlen (line_le (Nat.le_refl _))
                  · rw [upd_ne (ne_of_none h hD)]
                    exact st15.keep a o h nz
                  · rw [upd_ne (ne_of_none h hD)]
                    exact st15.there a o h
                · exact p'.elim
theorem dc_imp {ek ev : ME} {f : Rho → MH → Out Src} (hs : ∀ i, i ∈ slotsT t → i ∈ vs) {σ : L2.St} {H : Hp} {Q : VK}
    (h : tE S K W (fun ρ M => (f ρ M).bind fun s M1 => (dcL E ek ev t ifs (wipeR ρ vs) (srcLen M1 s + 1) 0 s [] M1).bind fun ys M2 => newD m ys M2) σ H Q) :
    tDc (tO S K W (RSrc S K) f) (tG S K (E.asg t) (slotsT t)) (tT S K W0 (evIfs E ifs)) (tE S K W0 (E.e ek)) (tE S K W0 (E.e ev)) vs σ H Q := by
  obtain ⟨F, ι, Z, M, ρ, s, l, p⟩ := h
  refine tO.at s l p fun ι1 Z1 M1 H1 src J q1 st1 s1 l1 rJ p1 => ?_
  intro D hD
  have nF : ¬ F D := fun f => by
    obtain ⟨o, h⟩ := s1.ft D f
    rw [hD] at h
    cases h
  obtain ⟨s0, kb0⟩ := s1.barF (.dK []) hD
  let Wm : Nat → Nat → Hp → Prop := fun i w H' => ∃ ι' Z' M' acc av, Pre ι1 ι' ∧ Step Z1 H1 Z' H' ∧ Sim K S.CA (andD F D) ι' Z' M' H' ∧ H' D = some (.dK av) ∧ RKs K S.CA ι' (bar (andD F D) Z') H' acc av ∧
    PO1 S K W (RVo S K) σ F ι1 Z1 H1 ((dcL E ek ev t ifs (wipeR ρ vs) w i src acc M').bind fun ys M2 => newD m ys M2) Q
  refine ⟨Wm, ⟨_, ι1, Z1, M1, [], [], Pre.refl _, Step.ext (upd_ext hD), s0, upd_same, .nil, p1⟩, ?_⟩
  rintro i w H' ⟨ι', Z', M', acc, av, pre, st, s', hDv, rv, p'⟩
  have kB : Keep (bar F Z1) H1 (bar (andD F D) Z') H' := fun a o h nb => by
    obtain ⟨g1, g2⟩ := st.bars (F := F) a o h nb
    refine ⟨g1, fun b => ?_⟩
    rcases b with (f | e) | z
    · exact g2 (.inl f)
    · exact ne_of_none h hD e
    · exact g2 (.inr z)
  have lw : LR K S.CA ι' (bar (andD F D) Z') H' (wipeR ρ vs) (L2.wipe σ vs) := (l1.wipe vs).mono kB pre
  obtain ⟨j1, j2⟩ := rJ (andD F D) Z' ι' M' H' pre kB s' i
  cases w with
  | zero => exact p'.elim
  | succ w =>
    unfold dcL at p'
    cases hsrc : srcAt M' src i with
    | none =>
      rw [hsrc] at p'
      exact p'.elim
    | some o =>
      cases o with
      | none =>
        rw [hsrc] at p'
        exact .inl ⟨j2 hsrc, made_dct p' pre st hD nF s' hDv rv⟩
      | some x =>
        rw [hsrc] at p'
        obtain ⟨go, yl⟩ := j1 x hsrc
        refine .inr ⟨go, Wm (i + 1) w, fun H2 h2 => ⟨w, Nat.lt_succ_self w, h2⟩, fun y H2 hy => ?_⟩
        obtain ⟨ext, ry⟩ := yl y H2 hy
        have s2 := s'.ext ext
        have st2 : Step Z' H' Z' H2 := Step.ext ext
        have k2 := st2.bars (F := andD F D)
        refine ⟨andD F D, ι', Z', M', wipeR ρ vs, x, s2, lw.mono k2 (Pre.refl _), ry, ?_⟩
        dsimp only at p'
        cases ha : E.asg t x (wipeR ρ vs) M' with
        | exc z M3 =>
          rw [ha] at p'
          exact p'.elim
        | stuck =>
          rw [ha] at p'
          exact p'.elim
        | val ρ1 M3 =>
          rw [ha] at p'
          dsimp only at p'
          intro ι3 Z3 H3 σ3 pre3 st3 s3 l3 sb3
          refine ⟨wipe_same sb3 hs, andD F D, ι3, Z3, M3, ρ1, s3, l3, ?_⟩
          have D3 : H3 D = some (.dK av) := st3.keep D _ (ext D _ hDv) fun z => s2.zf D z (.inr rfl)
          cases hi : evIfs E ifs ρ1 M3 with
          | exc z M4 =>
            rw [hi] at p'
            exact p'.elim
          | stuck =>
            rw [hi] at p'
            exact p'.elim
          | val b M4 =>
            rw [hi] at p'
            intro ι4 Z4 H4 b' pre4 st4 s4 eb
            subst eb
            have D4 : H4 D = some (.dK av) := st4.keep D _ D3 fun z => s3.zf D z (.inr rfl)
            have st14 : Step Z1 H1 Z4 H4 := ((st.trans st2).trans st3).trans st4
            have rv4 : RKs K S.CA ι4 (bar (andD F D) Z4) H4 acc av := ((rv.mono k2 (Pre.refl _)).mono st3.bars pre3).mono st4.bars pre4
            cases b with
            | false =>
              rw [if_neg Bool.false_ne_true]
              exact ⟨ι4, Z4, M4, acc, av, pre.trans (pre3.trans pre4), st14, s4, D4, rv4, p'⟩
            | true =>
              rw [if_pos rfl]
              have l4 := l3.mono st4.bars pre4
              refine ⟨andD F D, ι4, Z4, M4, ρ1, s4, l4, ?_⟩
              dsimp only at p'
              cases hek : E.e ek ρ1 M4 with
              | exc z M5 =>
                rw [hek] at p'
                exact p'.elim
              | stuck =>
                rw [hek] at p'
                exact p'.elim
              | val y2 M5 =>
                rw [hek] at p'
                dsimp only at p'
                intro ι5 Z5 H5 v5 pre5 st5 s5 r5
                refine ⟨andD F D, ι5, Z5, M5, ρ1, s5, l4.mono st5.bars pre5, ?_⟩
                cases hev : E.e ev ρ1 M5 with
                | exc z M6 =>
                  rw [hev] at p'
                  exact p'.elim
                | stuck =>
                  rw [hev] at p'
                  exact p'.elim
                | val y3 M6 =>
                  rw [hev] at p'
                  dsimp only at p'
                  intro ι6 Z6 H6 v6 pre6 st6 s6 r6
                  have st46 := st5.trans st6
                  have D6 : H6 D = some (.dK av) := st46.keep D _ D4 fun z => s4.zf D z (.inr rfl)
                  have rv6 := rv4.mono st46.bars (pre5.trans pre6)
                  split at p'
                  · rename_i hk
                    obtain ⟨hk1, hk2⟩ := Bool.and_eq_true_iff.mp hk
                    obtain ⟨q, hq⟩ := isKey_some hk1
                    obtain ⟨s7, k7⟩ := s6.touch (D := D) (.dK (putK av q v6)) (.inr rfl)
                    have st16 := st14.trans st46
                    refine ⟨av, q, key_rel hq r5, D6, ?_, ι6, Z6, M6, putD y2 y3 acc, putK av q v6, pre.trans (pre3.trans (pre4.trans (pre5.trans pre6))), ⟨fun a o h nz => ?_, st16.own, fun a o h => ?_⟩, s7, upd_same, RKs.mono k7 (Pre.refl _) (rv6.put hq r6), p'⟩
                    · rw [← rv6.length]
                      exact Nat.lt_of_lt_of_le (of_decide_eq_true hk2) (line_le (Nat.le_refl _))
                    · rw [upd_ne (ne_of_none h hD)]
                      exact st16.keep a o h nz
                    · rw [upd_ne (ne_of_none h hD)]
                      exact st16.there a o h
                  · exact p'.elim
end
section
variable {S : SD} {X : Cx} {W : WX} {E : Ev} {t : MT} {e ek ev : ME} {mifs : List ME} {vs : List Nat} {m : Bool} {elt kx vx tg iter : Expr} {ifs : List Expr} {scope : Scope} {own : List (PySem.Str × Nat)} {pos : Pos} {mi : MI}
abbrev BX (X : Cx) (scope : Scope) (s : Shared) (H : Hp) (C : Addr) (cl : List (PySem.Str × Addr)) (fp : List Addr) : Cx := X.blk s H scope (compEnvC scope cl C X.env) fp
/-- all tests of a comprehension -/
inductive AllF (S : SD) (X : Cx) (E : Ev) : List Expr → List ME → Prop
  | nil : AllF S X E [] []
  | one {e : Expr} {m : ME} (h : RE S X W0 (E.e m) e) : AllF S X E [e] [m]
theorem ifs_ok (h : AllF S X E ifs mifs) : PTs X ifs (tT S X.K W0 (evIfs E mifs)) := by
  cases h with
  | nil => exact ⟨fun pins s σ H Q I ⟨F, ι, Z, M, ρ, s', l, p⟩ => (pts_nil (X := X)).run pins s σ H Q I (PostO.fin (W := W0) p s' rfl)⟩
  | one h => exact pts_one h.t
theorem e_lc (hc : X.calm = true) (hN : X.N.Nodup) (ok : blkC X.N X.env.scope scope own = true) (hs : ∀ i, i ∈ slotsT t → i ∈ own.map (·.2)) (hi : PI X tg iter (tI S X W (evIt E mi))) (hg : ∀ s H C cl fp, PG (BX X scope s H C cl fp) tg (tG S X.K (E.asg t) (slotsT t)))
    (ht : ∀ s H C cl fp, AllF S (BX X scope s H C cl fp) E ifs mifs) (he : ∀ s H C cl fp, PE (BX X scope s H C cl fp) elt (tE S X.K W0 (E.e e))) (hf : ∀ x, foldedSetIterable iter X.env x = pure x) :
    PE X (.ListComp elt [⟨tg, iter, ifs, 0⟩] scope pos) (tE S X.K W fun ρ M => (evIt E mi ρ M).bind fun s M1 => (lcL E e t mifs (wipeR ρ (own.map (·.2))) (srcLen M1 s + 1) 0 s [] M1).bind fun ys M2 => newL m ys M2) :=
  pe_imp (pe_lc hc hN hi (blkOk_by ok) hg (fun s H C cl fp => ifs_ok (ht s H C cl fp)) he hf) fun σ H Q h => lc_imp hs h
theorem e_dc (hc : X.calm = true) (hN : X.N.Nodup) (ok : blkC X.N X.env.scope scope own = true) (hs : ∀ i, i ∈ slotsT t → i ∈ own.map (·.2)) (hi : PI X tg iter (tI S X W (evIt E mi))) (hg : ∀ s H C cl fp, PG (BX X scope s H C cl fp) tg (tG S X.K (E.asg t) (slotsT t)))
    (ht : ∀ s H C cl fp, AllF S (BX X scope s H C cl fp) E ifs mifs) (hk : ∀ s H C cl fp, PE (BX X scope s H C cl fp) kx (tE S X.K W0 (E.e ek))) (he : ∀ s H C cl fp, PE (BX X scope s H C cl fp) vx (tE S X.K W0 (E.e ev))) (hf : ∀ x, foldedSetIterable iter X.env x = pure x) :
    PE X (.DictComp kx vx [⟨tg, iter, ifs, 0⟩] scope pos) (tE S X.K W fun ρ M => (evIt E mi ρ M).bind fun s M1 => (dcL E ek ev t mifs (wipeR ρ (own.map (·.2))) (srcLen M1 s + 1) 0 s [] M1).bind fun ys M2 => newD m ys M2) :=
  pe_imp (pe_dc hc hN hi (blkOk_by ok) hg (fun s H C cl fp => ifs_ok (ht s H C cl fp)) hk he hf) fun σ H Q h => dc_imp hs h
end
end Mp
end

section
set_option Elab.async false
set_option linter.all false
set_option maxRecDepth 100000
set_option maxHeartbeats 2000000
/-! Mp16: statements as readings by the evaluator. -/
namespace Mp
open PySem PySem.Spec PyProof.Rows L2

section
variable (S : SD) (K : PySem.W.Frag) (W : WX)
/-- a statement's end, from a known state -/
def PostS (F : Addr → Prop) (ι : List Addr) (Z : Addr → Prop) (H : Hp) (o : SO) (D : Ends) : Prop :=
  match o with
  | .nx ρ' M' => ∀ ι' Z' H' σ', Pre ι ι' → Step Z H Z' H' → Sim K S.CA F ι' Z' M' H' → LR K S.CA ι' (bar F Z') H' ρ' σ' → D.nx σ' H'
  | .rt v M' => ∀ ι' Z' H' w, Pre ι ι' → Step Z H Z' H' → Sim K S.CA F ι' Z' M' H' → RV K S.CA ι' (bar F Z') H' v w → D.rt w H'
  | .bk ρ' M' => ∀ ι' Z' H' σ', Pre ι ι' → Step Z H Z' H' → Sim K S.CA F ι' Z' M' H' → LR K S.CA ι' (bar F Z') H' ρ' σ' → D.bk σ' H'
  | .ct ρ' M' => ∀ ι' Z' H' σ', Pre ι ι' → Step Z H Z' H' → Sim K S.CA F ι' Z' M' H' → LR K S.CA ι' (bar F Z') H' ρ' σ' → D.ct σ' H'
  | .exc x ρ' M' => ∀ ι' Z' H' σ' cls d, Pre ι ι' → Step Z H Z' H' → Sim K S.CA F ι' Z' M' H' → LR K S.CA ι' (bar F Z') H' ρ' σ' → S.EX x ι' (bar F Z') H' cls d → W cls d σ' H'
  | .stuck => False
def tS (f : Rho → MH → SO) : TS := fun D σ H => ∃ F ι Z M ρ, Sim K S.CA F ι Z M H ∧ LR K S.CA ι (bar F Z) H ρ σ ∧ PostS S K W F ι Z H (f ρ M) D
end
theorem ps_imp {X : Cx} {e : Stmt} {t t' : TS} (h : PS X e t) (i : ∀ D σ H, t' D σ H → t D σ H) : PS X e t' := ⟨fun pins s σ H D I q => h.run pins s σ H D I (i D σ H q)⟩
theorem pss_imp {X : Cx} {e : List Stmt} {t t' : TS} (h : PSs X e t) (i : ∀ D σ H, t' D σ H → t D σ H) : PSs X e t' := ⟨fun pins s σ H D I q => h.run pins s σ H D I (i D σ H q)⟩
section
variable {S : SD} {K : PySem.W.Frag} {W : WX} {F : Addr → Prop} {ι ι' : List Addr} {Z Z' : Addr → Prop} {H H' : Hp} {M : MH}
theorem PostS.later {o : SO} {D : Ends} (p : PostS S K W F ι Z H o D) (q : Pre ι ι') (s : Step Z H Z' H') : PostS S K W F ι' Z' H' o D := by
  cases o with
  | nx a M' => exact fun ι2 Z2 H2 σ2 x y z w => p ι2 Z2 H2 σ2 (q.trans x) (s.trans y) z w
  | rt a M' => exact fun ι2 Z2 H2 σ2 x y z w => p ι2 Z2 H2 σ2 (q.trans x) (s.trans y) z w
  | bk a M' => exact fun ι2 Z2 H2 σ2 x y z w => p ι2 Z2 H2 σ2 (q.trans x) (s.trans y) z w
  | ct a M' => exact fun ι2 Z2 H2 σ2 x y z w => p ι2 Z2 H2 σ2 (q.trans x) (s.trans y) z w
  | exc x a M' => exact fun ι2 Z2 H2 σ2 c d x y z w u => p ι2 Z2 H2 σ2 c d (q.trans x) (s.trans y) z w u
  | stuck => exact p
/-- at a value on the way to a statement's end -/
theorem PostS.at {α β : Type} {R : List Addr → (Addr → Prop) → Hp → α → β → Prop} {σ : L2.St} {ρ : Rho} {f : Rho → MH → Out α} {k : α → MH → SO} {D : Ends} {T : β → Hp → Prop}
    (s : Sim K S.CA F ι Z M H) (l : LR K S.CA ι (bar F Z) H ρ σ) (p : PostS S K W F ι Z H (outS (f ρ M) ρ k) D)
    (g : ∀ ι1 Z1 M1 H1 a b, Pre ι ι1 → Step Z H Z1 H1 → Sim K S.CA F ι1 Z1 M1 H1 → LR K S.CA ι1 (bar F Z1) H1 ρ σ → R ι1 (bar F Z1) H1 a b → PostS S K W F ι1 Z1 H1 (k a M1) D → T b H1) : tO S K W R f σ H T := by
  refine ⟨F, ι, Z, M, ρ, s, l, ?_⟩
  cases q : f ρ M with
  | val a M' =>
    rw [q] at p
    intro ι1 Z1 H1 b q1 st s1 r
    exact g ι1 Z1 M' H1 a b q1 st s1 (l.mono st.bars q1) r (PostS.later (o := k a M') p q1 st)
  | exc x M' =>
    rw [q] at p
    intro ι1 Z1 H1 cls d q1 st s1 ex
    exact p ι1 Z1 H1 σ cls d q1 st s1 (l.mono st.bars q1) ex
  | stuck =>
    rw [q] at p
    exact p.elim
end
/-- no comprehension -/
def noComp : Expr → Bool
  | .ListComp _ _ _ _ => false
  | .SetComp _ _ _ _ => false
  | .DictComp _ _ _ _ _ => false
  | _ => true
theorem sw_no {e : Expr} (h : noComp e = true) (tg : Option Expr) (l : Nat) (env : Env) : swapsWith e tg l env = pure false := by
  cases e <;> first | rfl | cases h
/-- a target that is no name -/
def noName : Expr → Bool
  | .Name _ _ => false
  | _ => true
theorem sw_tg {e tg : Expr} (h : noName tg = true) (l : Nat) (env : Env) : swapsWith e (some tg) l env = pure false := by
  cases e <;> first | rfl | (cases tg <;> first | rfl | cases h)
section
variable {S : SD} {X : Cx} {W : WX} {E : Ev} {ea eb ec tg iter : Expr} {es : List Expr} {a b c : ME} {t : MT} {mi : MI} {pos px py : Pos} {i : Nat} {x : PySem.Str}
theorem s_expr (hn : noComp ea = true) (ha : PE X ea (tE S X.K W (E.e a))) : PS X (.Expr ea pos) (tS S X.K W fun ρ M => outS (E.e a ρ M) ρ fun _ M1 => .nx ρ M1) := by
  refine ps_imp (ps_expr ha (sw_no hn _ _ _)) fun D σ H ⟨F, ι, Z, M, ρ, s, l, p⟩ => ?_
  exact PostS.at s l p fun ι1 Z1 M1 H1 x x' q1 st1 s1 l1 r1 p1 => p1 ι1 Z1 H1 σ (Pre.refl _) (Step.refl _ _) s1 l1
theorem s_ret (ha : PE X ea (tE S X.K W (E.e a))) : PS X (.Return (some ea) pos) (tS S X.K W fun ρ M => outS (E.e a ρ M) ρ fun x M1 => .rt x M1) := by
  refine ps_imp (ps_ret ha) fun D σ H ⟨F, ι, Z, M, ρ, s, l, p⟩ => ?_
  exact PostS.at s l p fun ι1 Z1 M1 H1 x x' q1 st1 s1 l1 r1 p1 => p1 ι1 Z1 H1 x' (Pre.refl _) (Step.refl _ _) s1 r1
theorem s_retN : PS X (.Return none pos) (tS S X.K W fun _ M => .rt .non M) := ps_imp ps_retN fun D σ H ⟨F, ι, Z, M, ρ, s, l, p⟩ => p ι Z H _ (Pre.refl _) (Step.refl _ _) s .non
theorem s_pass : PS X (.Pass pos) (tS S X.K W fun ρ M => .nx ρ M) := ps_imp ps_pass fun D σ H ⟨F, ι, Z, M, ρ, s, l, p⟩ => p ι Z H σ (Pre.refl _) (Step.refl _ _) s l
theorem s_brk : PS X (.Break pos) (tS S X.K W fun ρ M => .bk ρ M) := ps_imp ps_break fun D σ H ⟨F, ι, Z, M, ρ, s, l, p⟩ => p ι Z H σ (Pre.refl _) (Step.refl _ _) s l
theorem s_cont : PS X (.Continue pos) (tS S X.K W fun ρ M => .ct ρ M) := ps_imp ps_continue fun D σ H ⟨F, ι, Z, M, ρ, s, l, p⟩ => p ι Z H σ (Pre.refl _) (Step.refl _ _) s l
theorem s_bad {st : Stmt} : PS X st (tS S X.K W fun _ _ => .stuck) := ps_imp ps_never fun D σ H ⟨F, ι, Z, M, ρ, s, l, p⟩ => p
/-- what an assignment does -/
def evAsg (E : Ev) (t : MT) (e : ME) : Rho → MH → SO := fun ρ M => outS (E.e e ρ M) ρ fun x M1 => (match E.asg t x ρ M1 with
    | .val ρ1 M2 => .nx ρ1 M2
    | _ => .stuck)
theorem asg_imp {te : TE} {ts : List Nat} {g : TG} (hg : ∀ v σ H Q, tG S X.K (E.asg t) ts v σ H Q → g v σ H Q) {D : Ends} {σ : L2.St} {H : Hp} (ht : ∀ Q, tE S X.K W (E.e a) σ H Q → te σ H Q) (h : tS S X.K W (evAsg E t a) D σ H) : tAsg te g D σ H := by
  obtain ⟨F, ι, Z, M, ρ, s, l, p⟩ := h
  refine ht _ (PostS.at s l p fun ι1 Z1 M1 H1 x x' q1 st1 s1 l1 r1 p1 => hg _ _ _ _ ⟨F, ι1, Z1, M1, ρ, x, s1, l1, r1, ?_⟩)
  cases q : E.asg t x ρ M1 with
  | val ρ1 M2 =>
    rw [q] at p1
    exact fun ι2 Z2 H2 σ2 q2 st2 s2 l2 sb => p1 ι2 Z2 H2 σ2 q2 st2 s2 l2
  | exc z M2 =>
    rw [q] at p1
    exact p1.elim
  | stuck =>
    rw [q] at p1
    exact p1.elim
/-- target = e; the target no name, or e no comprehension -/
theorem s_asg {ts : List Nat} (hp : plE tg = true) (hn : noComp ea = true ∨ noName tg = true) (hw : swappedStores [tg] ea X.env = pure none) (ha : PE X ea (tE S X.K W (E.e a))) (hg : PG X tg (tG S X.K (E.asg t) ts)) : PS X (.Assign [tg] ea pos) (tS S X.K W (evAsg E t a)) := by
  have h1 : swapsWithSole [tg] ea pos.line X.env = pure false := hn.elim (fun h => sw_no h _ _ _) fun h => sw_tg h _ _
  have hpl : [tg].all plE = true := by rw [List.all_cons, hp]; rfl
  have h2 := (assigns_pl X.env hpl).2.2 tg [] rfl
  exact ps_imp (ps_asg ha hg h1 hw h2) fun D σ H h => asg_imp (fun _ _ _ _ h => h) (fun _ h => h) h
theorem gName_of (h : tG S X.K (fun x ρ M => if i < ρ.length then .val (ρ.set i (some x)) M else .stuck) [i] = tG S X.K (E.asg (.nm i)) [i]) {v : V} {σ : L2.St} {H : Hp} {Q : L2.St → Hp → Prop} (q : tG S X.K (E.asg (.nm i)) [i] v σ H Q) : gName i v σ H Q := by
  rw [← h] at q
  obtain ⟨F, ι, Z, M, ρ, y, s, l, r, p⟩ := q
  dsimp only at p
  split at p
  · exact p ι Z H _ (Pre.refl ι) (Step.refl Z H) s (l.set i r) (SameBut.set σ i _)
  · exact p.elim
/-- what is known of a comprehension's parts -/
structure LcOk (S : SD) (X : Cx) (W : WX) (E2 : Ev) (e : ME) (t : MT) (mi : MI) (mifs : List ME) (vs : List Nat) (elt tg iter : Expr) (ifs : List Expr) (scope : Scope) : Prop where
  ok : ∃ own : List (PySem.Str × Nat), own.map (·.2) = vs ∧ blkC X.N X.env.scope scope own = true
  hs : ∀ i, i ∈ slotsT t → i ∈ vs
  hi : PI X tg iter (tI S X W (evIt E2 mi))
  hg : ∀ s H C cl fp, PG (BX X scope s H C cl fp) tg (tG S X.K (E2.asg t) (slotsT t))
  ht : ∀ s H C cl fp, AllF S (BX X scope s H C cl fp) E2 ifs mifs
  he : ∀ s H C cl fp, PE (BX X scope s H C cl fp) elt (tE S X.K W0 (E2.e e))
  hf : ∀ x, foldedSetIterable iter X.env x = pure x
structure DcOk (S : SD) (X : Cx) (W : WX) (E2 : Ev) (ek ev : ME) (t : MT) (mi : MI) (mifs : List ME) (vs : List Nat) (kx vx tg iter : Expr) (ifs : List Expr) (scope : Scope) : Prop where
  ok : ∃ own : List (PySem.Str × Nat), own.map (·.2) = vs ∧ blkC X.N X.env.scope scope own = true
  hs : ∀ i, i ∈ slotsT t → i ∈ vs
  hi : PI X tg iter (tI S X W (evIt E2 mi))
  hg : ∀ s H C cl fp, PG (BX X scope s H C cl fp) tg (tG S X.K (E2.asg t) (slotsT t))
  ht : ∀ s H C cl fp, AllF S (BX X scope s H C cl fp) E2 ifs mifs
  hk : ∀ s H C cl fp, PE (BX X scope s H C cl fp) kx (tE S X.K W0 (E2.e ek))
  he : ∀ s H C cl fp, PE (BX X scope s H C cl fp) vx (tE S X.K W0 (E2.e ev))
  hf : ∀ x, foldedSetIterable iter X.env x = pure x
def evLc (E2 : Ev) (m : Bool) (vs : List Nat) (e : ME) (t : MT) (mi : MI) (mifs : List ME) : Rho → MH → Out PV := fun ρ M => (evIt E2 mi ρ M).bind fun s M1 => (lcL E2 e t mifs (wipeR ρ vs) (srcLen M1 s + 1) 0 s [] M1).bind fun ys M2 => newL m ys M2
def evDc (E2 : Ev) (m : Bool) (vs : List Nat) (ek ev : ME) (t : MT) (mi : MI) (mifs : List ME) : Rho → MH → Out PV := fun ρ M => (evIt E2 mi ρ M).bind fun s M1 => (dcL E2 ek ev t mifs (wipeR ρ vs) (srcLen M1 s + 1) 0 s [] M1).bind fun ys M2 => newD m ys M2
theorem LcOk.v {E2 : Ev} {e : ME} {mifs : List ME} {vs : List Nat} {m : Bool} {elt : Expr} {ifs : List Expr} {scope : Scope} (h : LcOk S X W E2 e t mi mifs vs elt tg iter ifs scope) (hc : X.calm = true) (hN : X.N.Nodup) : PE X (.ListComp elt [⟨tg, iter, ifs, 0⟩] scope pos) (tE S X.K W (evLc E2 m vs e t mi mifs)) := by
  obtain ⟨own, e1, e2⟩ := h.ok
  subst e1
  exact e_lc hc hN e2 h.hs h.hi h.hg h.ht h.he h.hf
theorem DcOk.v {E2 : Ev} {ek ev : ME} {mifs : List ME} {vs : List Nat} {m : Bool} {kx vx : Expr} {ifs : List Expr} {scope : Scope} (h : DcOk S X W E2 ek ev t mi mifs vs kx vx tg iter ifs scope) (hc : X.calm = true) (hN : X.N.Nodup) : PE X (.DictComp kx vx [⟨tg, iter, ifs, 0⟩] scope pos) (tE S X.K W (evDc E2 m vs ek ev t mi mifs)) := by
  obtain ⟨own, e1, e2⟩ := h.ok
  subst e1
  exact e_dc hc hN e2 h.hs h.hi h.hg h.ht h.hk h.he h.hf
/-- name = [..] -/
theorem s_asgLc {E2 : Ev} {e : ME} {mifs : List ME} {vs : List Nat} {m : Bool} {elt : Expr} {ifs : List Expr} {scope : Scope} {cpos : Pos} (hEa : E.asg (.nm i) = fun x ρ M => if i < ρ.length then .val (ρ.set i (some x)) M else .stuck)
    (hEe : E.e a = evLc E2 m vs e t mi mifs) (hc : X.calm = true) (hN : X.N.Nodup) (hy : X.N[i]? = some x) (hyl : X.env.scope.names.lookup x = some .local) (hsw : swapsWith (.ListComp elt [⟨tg, iter, ifs, 0⟩] scope cpos) (some (.Name x py)) pos.line X.env = pure true)
    (h : LcOk S X W E2 e t mi mifs vs elt tg iter ifs scope) : PS X (.Assign [.Name x py] (.ListComp elt [⟨tg, iter, ifs, 0⟩] scope cpos) pos) (tS S X.K W (evAsg E (.nm i) a)) := by
  obtain ⟨own, e1, e2⟩ := h.ok
  subst e1
  refine ps_imp (ps_setLc (tt := tT S X.K W0 (evIfs E2 mifs)) hc hN hy hyl hsw h.hi (blkOk_by e2) h.hg (fun s H C cl fp => ifs_ok (h.ht s H C cl fp)) h.he h.hf) fun D σ H hh => ?_
  exact asg_imp (ts := [i]) (fun v σ H Q q => gName_of (by rw [hEa]) q) (fun Q hq => lc_imp (m := m) h.hs (by rw [hEe] at hq; exact hq)) hh
/-- the name of a dict that is made on one line -/
theorem setDc {kx vx : Expr} {ifs : List Expr} {scope : Scope} {own : List (PySem.Str × Nat)} {cpos : Pos} {wi : TI} {g : TG} {tt : TT} {tk tv : TE} (hc : X.calm = true) (hN : X.N.Nodup) (hy : X.N[i]? = some x) (hyl : X.env.scope.names.lookup x = some .local)
    (hsw : swapsWith (.DictComp kx vx [⟨tg, iter, ifs, 0⟩] scope cpos) (some (.Name x py)) pos.line X.env = pure true) (hi : PI X tg iter wi) (ok : BlkOk X.N X.env.scope scope own) (hg : ∀ s H C cl fp, PG (BX X scope s H C cl fp) tg g) (ht : ∀ s H C cl fp, PTs (BX X scope s H C cl fp) ifs tt)
    (hk : ∀ s H C cl fp, PE (BX X scope s H C cl fp) kx tk) (he : ∀ s H C cl fp, PE (BX X scope s H C cl fp) vx tv) (hf : ∀ x, foldedSetIterable iter X.env x = pure x) : PS X (.Assign [.Name x py] (.DictComp kx vx [⟨tg, iter, ifs, 0⟩] scope cpos) pos) (tAsg (tDc wi g tt tk tv (own.map (·.2))) (gName i)) := by
  constructor
  intro pins s σ H D I h
  rw [exec_Assign_Name_used _ _ _ _ hsw]
  refine wpAny_bind (wpAny_standAt (wpAny_bind ?_))
  show wpAny _ X.A (do let _ ← comprehension (.DictComp kx vx [⟨tg, iter, ifs, 0⟩] scope cpos) scope X.env (firstIterPos [⟨tg, iter, ifs, 0⟩] cpos) newDict false (eval iter X.env) (some (assign (.Name x py) X.env))) _ _ s
  have h' : tDc wi g tt tk tv (own.map (·.2)) σ H (fun z H1 => gName i z σ H1 D.nx) := h
  refine wpAny_bind (thn (dc_core (Qf := fun _ s' => SP X pins D .next s') hc hN I hi ok hg ht hk he hf h' fun L C s' m H' I' q hn f => ?_) fun _ s' hq => wpAny_pure (wpAny_pure hq))
  obtain ⟨f0, f1, f2, f3, f4, f5⟩ := f
  show wpAny _ _ (assign (.Name x py) X.env (.ref L)) _ _ _
  refine wpAny_assign_Name (store_ok2 (v := V.ref L) I' hN hy (.inl hyl) rfl (fun s2 I2 z => ?_) (.inr hyl))
  obtain ⟨ad, sb, ha⟩ := z
  have neC : C ≠ ad := ha.elim (fun e => by rw [e]; exact f1) fun e => fun e2 => f4 x ad e e2.symm
  exact ⟨m, hn.sameBut sb neC, fun h3 sb3 => ⟨_, H', I2.turned (t' := s2.toks) (fun b o hb e => (sb3.2 b hb).trans e) f0 f1 f3 f4 f5, q⟩⟩
theorem s_asgDc {E2 : Ev} {ek ev : ME} {mifs : List ME} {vs : List Nat} {m : Bool} {kx vx : Expr} {ifs : List Expr} {scope : Scope} {cpos : Pos} (hEa : E.asg (.nm i) = fun x ρ M => if i < ρ.length then .val (ρ.set i (some x)) M else .stuck)
    (hEe : E.e a = evDc E2 m vs ek ev t mi mifs) (hc : X.calm = true) (hN : X.N.Nodup) (hy : X.N[i]? = some x) (hyl : X.env.scope.names.lookup x = some .local) (hsw : swapsWith (.DictComp kx vx [⟨tg, iter, ifs, 0⟩] scope cpos) (some (.Name x py)) pos.line X.env = pure true)
    (h : DcOk S X W E2 ek ev t mi mifs vs kx vx tg iter ifs scope) : PS X (.Assign [.Name x py] (.DictComp kx vx [⟨tg, iter, ifs, 0⟩] scope cpos) pos) (tS S X.K W (evAsg E (.nm i) a)) := by
  obtain ⟨own, e1, e2⟩ := h.ok
  subst e1
  refine ps_imp (setDc (tt := tT S X.K W0 (evIfs E2 mifs)) hc hN hy hyl hsw h.hi (blkOk_by e2) h.hg (fun s H C cl fp => ifs_ok (h.ht s H C cl fp)) h.hk h.he h.hf) fun D σ H hh => ?_
  exact asg_imp (ts := [i]) (fun v σ H Q q => gName_of (by rw [hEa]) q) (fun Q hq => dc_imp (m := m) h.hs (by rw [hEe] at hq; exact hq)) hh
/-- self.f = e -/
theorem s_att {E2 : Ev} {fi : Nat} (Fa : KF S X.K) (hEa : ∀ x ρ M, E.asg (.att b fi) x ρ M = (E2.e b ρ M).bindX fun o M1 => (match o with
    | .ref n => (match M1[n]? with
      | some (.ins c fs) => (match S.P.cls[c]? with
        | some k => (match k.fld.lookup fi with
          | some i => .val ρ (M1.set n (.ins c ((fs ++ List.replicate (i + 1 - fs.length) none).set i (some x))))
          | none => .stuck)
        | none => .stuck)
      | _ => .stuck)
    | _ => .stuck)) (ha : PE X ea (tE S X.K W (E.e a))) (hb : PE X eb (tE S X.K W (E2.e b))) : PS X (.Assign [.Attribute eb (S.fld fi) px] ea pos) (tS S X.K W (evAsg E (.att b fi) a)) := by
  refine ps_imp (SlX.ps_sl hb ha (sw_tg rfl _ _)) fun D σ H ⟨F, ι, Z, M, ρ, s, l, p⟩ => ?_
  refine PostS.at s l p fun ι1 Z1 M1 H1 x x' q1 st1 s1 l1 r1 p1 => ?_
  rw [hEa] at p1
  refine ⟨F, ι1, Z1, M1, ρ, s1, l1, ?_⟩
  cases q : E2.e b ρ M1 with
  | exc z M2 =>
    rw [q] at p1
    exact p1.elim
  | stuck =>
    rw [q] at p1
    exact p1.elim
  | val o M2 =>
    rw [q] at p1
    dsimp only [Out.bindX] at p1
    intro ι2 Z2 H2 o' q2 st2 s2 r2
    cases o with
    | ref n =>
      dsimp only at p1
      cases hm : M2[n]? with
      | none =>
        rw [hm] at p1
        exact p1.elim
      | some ob =>
        rw [hm] at p1
        cases ob with
        | ins c fs =>
          dsimp only at p1
          cases hk : S.P.cls[c]? with
          | none =>
            rw [hk] at p1
            exact p1.elim
          | some k =>
            rw [hk] at p1
            dsimp only at p1
            cases hi : k.fld.lookup fi with
            | none =>
              rw [hi] at p1
              exact p1.elim
            | some j =>
              rw [hi] at p1
              dsimp only at p1
              cases r2 with
              | @ref _ ad hn =>
                obtain ⟨pp, sl⟩ := Fa.fld c k fi j hk hi
                have hc : c < S.P.cls.length := (List.getElem?_eq_some_iff.mp hk).1
                obtain ⟨dx, vs, Z3, h1, s3, st3⟩ := s2.slot (i := j) hn hm (r1.mono st2.bars q2)
                exact ⟨ad, S.CA c, dx, pp, vs, j, rfl, h1, (Fa.cls c hc).1, sl, p1 ι2 Z3 _ σ q2 (st2.trans st3) s3 ((l1.mono st2.bars q2).mono st3.bars (Pre.refl _))⟩
        | _ => exact p1.elim
    | _ => exact p1.elim
end
end Mp
end

section
set_option Elab.async false
set_option linter.all false
set_option maxRecDepth 100000
set_option maxHeartbeats 2000000
/-! Mp17: assignments of several names, if, while, for, lists of statements, dict displays. -/
namespace Mp
open PySem PySem.Spec PyProof.Rows L2

/-! ### a, b = x, y -/
def stF : Expr → Bool
  | .Starred _ _ => true
  | _ => false
theorem stF_no {e : Expr} (h : plE e = true) : stF e = false := by cases e <;> first | rfl | cases h
theorem any_st : ∀ {vs : List Expr}, vs.all plE = true → vs.any (fun | .Starred .. => true | _ => false) = false
  | [], _ => rfl
  | v :: vs, h => by
    rw [List.all_cons, Bool.and_eq_true] at h
    rw [List.any_cons, any_st h.2, Bool.or_false]
    exact stF_no h.1
theorem sw_two {x y : PySem.Str} {px py kt : Pos} {k k2 : Nat} {p2 : Pos} {a b : Expr} {env : Env} (hk : env.scope.kind = .function) (hx : env.scope.names.lookup x = some .local) (hy : env.scope.names.lookup y = some .local) (hl : (py.line == px.line) = true) (hxy : (x == y) = false) (hp : [a, b].all plE = true)
  (hf : [a, b].all (foldedForSure 8) = false) (hc : [a, b].all (constantsAlone 8) = false) :
  swappedStores [.Tuple [.Name x px, .Name y py] k kt] (.Tuple [a, b] k2 p2) env = pure (some [x, y]) := by
  have kx : env.kindOf x = some .local := hx
  have ky : env.kindOf y = some .local := hy
  have hbk : env.blockKind = .function := by unfold Env.blockKind; rw [hk]; rfl
  have e1 : ([x, y] : List PySem.Str).eraseDups.length = 2 := by
    have hyx : ¬ y = x := fun e => by rw [e, beq_self_eq_true] at hxy; cases hxy
    simp [List.eraseDups_cons, hyx]
  unfold swappedStores
  simp only [hbk, hf, hc, kx, ky, List.filterMap, List.head?, Option.map, Option.getD, Expr.pos, beq_self_eq_true, hl, Bool.and_self, if_true, e1]
  exact (if_neg fun h => nomatch (show false = true from h)).trans ((if_neg fun h => nomatch (show false = true from (any_st hp).symm.trans h)).trans rfl)
theorem sw_three {x y z : PySem.Str} {px py pz kt : Pos} {k k2 : Nat} {p2 : Pos} {a b c : Expr} {env : Env} (hk : env.scope.kind = .function) (hx : env.scope.names.lookup x = some .local) (hy : env.scope.names.lookup y = some .local) (hz : env.scope.names.lookup z = some .local) (hl : (py.line == px.line) = true)
  (hl2 : (pz.line == px.line) = true) (hxy : (x == y) = false) (hxz : (x == z) = false) (hyz : (y == z) = false) (hp : [a, b, c].all plE = true) (hf : [a, b, c].all (foldedForSure 8) = false) (hc : [a, b, c].all (constantsAlone 8) = false) :
  swappedStores [.Tuple [.Name x px, .Name y py, .Name z pz] k kt] (.Tuple [a, b, c] k2 p2) env = pure (some [x, y, z]) := by
  have kx : env.kindOf x = some .local := hx
  have ky : env.kindOf y = some .local := hy
  have kz : env.kindOf z = some .local := hz
  have hbk : env.blockKind = .function := by unfold Env.blockKind; rw [hk]; rfl
  have e1 : ([x, y, z] : List PySem.Str).eraseDups.length = 3 := by
    have hyx : ¬ y = x := fun e => by rw [e, beq_self_eq_true] at hxy; cases hxy
    have hzx : ¬ z = x := fun e => by rw [e, beq_self_eq_true] at hxz; cases hxz
    have hzy : ¬ z = y := fun e => by rw [e, beq_self_eq_true] at hyz; cases hyz
    simp [List.eraseDups_cons, hyx, hzx, hzy]
  unfold swappedStores
  simp only [hbk, hf, hc, kx, ky, kz, List.filterMap, List.head?, Option.map, Option.getD, Expr.pos, beq_self_eq_true, hl, hl2, Bool.and_self, if_true, e1]
  exact (if_neg fun h => nomatch (show false = true from h)).trans ((if_neg fun h => nomatch (show false = true from (any_st hp).symm.trans h)).trans rfl)
theorem lt_filterMap {α β : Type} {f : α → Option β} : ∀ {xs : List α} {x : α}, x ∈ xs → f x = none → (xs.filterMap f).length < xs.length
  | y :: ys, x, hm, hx => by
    rcases List.mem_cons.mp hm with e | hm
    · subst e
      rw [List.filterMap_cons_none hx]
      exact Nat.lt_succ_of_le (List.length_filterMap_le f ys)
    · have ih := lt_filterMap hm hx
      cases q : f y with
      | none =>
        rw [List.filterMap_cons_none q]
        exact Nat.lt_succ_of_lt ih
      | some z =>
        rw [List.filterMap_cons_some q]
        exact Nat.succ_lt_succ ih
/-- a target that is no plain local name -/
def notLoc (sc : Scope) : Expr → Bool
  | .Name id _ => !(sc.names.lookup id == some .local)
  | _ => true
theorem sw_none {ts vs : List Expr} {k k2 : Nat} {kt p2 : Pos} {env : Env} (h : ((ts.length == 2) || (ts.length == 3)) = false ∨ vs.length ≠ ts.length ∨ vs.all (foldedForSure 8) = true ∨ ts.any (notLoc env.scope) = true) : swappedStores [.Tuple ts k kt] (.Tuple vs k2 p2) env = pure none := by
  have one : ∀ (c : Prop) [Decidable c] (u : Sem (Option (List PySem.Str))), u = pure none → (if c then pure none else u) = pure none := fun c _ u e => by
    rw [e]
    split <;> rfl
  unfold swappedStores
  dsimp only
  rcases h with h | h | h | h
  · refine if_pos ?_
    rw [h]
    rfl
  · refine if_pos ?_
    have : (vs.length != ts.length) = true := by simpa using h
    rw [this]
    simp
  · refine one _ _ (one _ _ (one _ _ (if_pos h)))
  · refine one _ _ (one _ _ (if_pos ?_))
    rw [Bool.or_eq_true]
    refine .inl ?_
    rw [bne_iff_ne]
    refine Nat.ne_of_lt ?_
    obtain ⟨t, ht, hn⟩ := List.any_eq_true.mp h
    refine lt_filterMap ht ?_
    cases t with
    | Name id pos =>
      have hn' : (!(env.scope.names.lookup id == some .local)) = true := hn
      have hk : (env.kindOf id == some NameKind.local) = false := by
        have h3 : (env.scope.names.lookup id == some NameKind.local) = false := by
          cases hq : (env.scope.names.lookup id == some NameKind.local)
          · rfl
          · rw [hq] at hn'; cases hn'
        exact h3
      dsimp only
      rw [hk]
      rfl
    | _ => rfl

section
variable {S : SD} {X : Cx} {W : WX} {E : Ev} {ea eb ec tg iter : Expr} {es : List Expr} {a b c : ME} {t : MT} {mi : MI} {pos px py pz : Pos} {ms : List ME} {i j k : Nat} {x y z : PySem.Str}
/-- what it does -/
def evPar (E : Ev) (ns : List Nat) (ms : List ME) : Rho → MH → SO := fun ρ M => outS (evArgs E ms ρ M) ρ fun xs M1 => (match setAll ns xs ρ with
    | some ρ1 => .nx ρ1 M1
    | none => .stuck)
theorem setAll_len : ∀ (ns : List Nat) (xs : List PV) (ρ ρ1 : Rho), setAll ns xs ρ = some ρ1 → xs.length = ns.length
  | [], [], _, _, _ => rfl
  | [], _ :: _, _, _, h => by cases h
  | _ :: _, [], _, _, h => by cases h
  | n :: ns, x :: xs, ρ, ρ1, h => by
    unfold setAll at h
    split at h
    · rw [List.length_cons, List.length_cons, setAll_len ns xs _ _ h]
    · cases h
theorem LR.len {K : PySem.W.Frag} {CA : Nat → Addr} {ι : List Addr} {B : Addr → Prop} {H : Hp} {ρ : Rho} {σ : L2.St} (l : LR K CA ι B H ρ σ) : ρ.length = σ.length := l.1
theorem s_par2 {kt k2 : Nat} {pt pt2 : Pos} (hc : X.calm = true) (hN : X.N.Nodup) (hi : X.N[i]? = some x) (hj : X.N[j]? = some y) (hij : i ≠ j) (hx : X.env.scope.names.lookup x = some .local) (hy : X.env.scope.names.lookup y = some .local)
    (hw : swappedStores [.Tuple [.Name x px, .Name y py] kt pt] (.Tuple [ea, eb] k2 pt2) X.env = pure (some [x, y])) (ha : PA X [ea, eb] (tEs S X.K W (evArgs E ms))) :
    PS X (.Assign [.Tuple [.Name x px, .Name y py] kt pt] (.Tuple [ea, eb] k2 pt2) pos) (tS S X.K W (evPar E [i, j] ms)) := by
  refine ps_imp (ps_par hc hN hi hj hij hx hy ha hw rfl) fun D σ H ⟨F, ι, Z, M, ρ, s, l, p⟩ => ?_
  refine PostS.at s l p fun ι1 Z1 M1 H1 xs vs q1 st1 s1 l1 r1 p1 => ?_
  split at p1
  · rename_i ρ1 hset
    have hl := setAll_len _ _ _ _ hset
    match xs, vs, r1, hl, hset with
    | [x1, x2], _, .cons r1 (.cons r2 .nil), _, hset =>
      refine ⟨_, _, rfl, ?_⟩
      unfold setAll at hset
      split at hset
      · unfold setAll at hset
        split at hset
        · unfold setAll at hset
          cases hset
          exact p1 ι1 Z1 H1 _ (Pre.refl _) (Step.refl _ _) s1 ((l1.set i r1).set j r2)
        · cases hset
      · cases hset
  · exact p1.elim
/-- a, b, c = x, y, z with plain local names -/
def tPar3 (i j k : Nat) (ta : TA) : TS := fun D σ H => ta σ H fun vs H1 => ∃ u v w, vs = [u, v, w] ∧ D.nx (((σ.set i (some u)).set j (some v)).set k (some w)) H1
theorem par3 {ta : TA} {kt k2 : Nat} {pt pt2 : Pos} (hc : X.calm = true) (hN : X.N.Nodup) (hi : X.N[i]? = some x) (hj : X.N[j]? = some y) (hk : X.N[k]? = some z) (hij : i ≠ j) (hik : i ≠ k) (hjk : j ≠ k) (hx : X.env.scope.names.lookup x = some .local) (hy : X.env.scope.names.lookup y = some .local)
    (hz : X.env.scope.names.lookup z = some .local) (ha : PA X [ea, eb, ec] ta) (hw : swappedStores [.Tuple [.Name x px, .Name y py, .Name z pz] kt pt] (.Tuple [ea, eb, ec] k2 pt2) X.env = pure (some [x, y, z])) :
    PS X (.Assign [.Tuple [.Name x px, .Name y py, .Name z pz] kt pt] (.Tuple [ea, eb, ec] k2 pt2) pos) (tPar3 i j k ta) := by
  constructor
  intro pins s σ H D I h
  rw [exec_Assign_arm]
  refine wpAny_bind (wpAny_standAt ?_)
  rw [show swapsWithSole [.Tuple [.Name x px, .Name y py, .Name z pz] kt pt] (.Tuple [ea, eb, ec] k2 pt2) pos.line X.env = pure false from rfl]
  refine wpAny_bind (wpAny_pure ?_)
  rw [if_neg Bool.false_ne_true]
  refine wpAny_bind (Tuple_ (thn (ha.run _ pins s σ H _ I h) fun us s1 q => ?_))
  obtain ⟨vs, H1, I1, r1, u, v, w, e1, q1⟩ := q
  subst e1
  match us, r1 with
  | [u1, u2, u3], .cons ru (.cons rv (.cons rw' .nil)) =>
    refine wpAny_newObj_type ?_ (by show 3 ≤ sizeLine; decide)
    have I2 : Inv X pins σ H1 { s1 with heap := s1.heap.push { cls := .type "tuple", data := .seq [u1, u2, u3].toArray } } := I1.kept (t' := s1.toks) fun b o e => Heap.get?_push_of_some _ e
    rw [hw]
    refine wpAny_bind (wpAny_pure ?_)
    show wpAny (model X.prog X.w) X.A (do rule "assign.swapped-stores"; let items ← unpackItems (.ref s1.heap.objs.size) 3 none; assignInOrder [fun v => bindName X.env z v, fun v => bindName X.env y v, fun v => bindName X.env x v] items.reverse; pure Flow.next) _ _ _
    refine wpAny_bind (wpAny_rule (wpAny_bind (unpackItems_tuple (items := #[u1, u2, u3]) (I.ok.hd hc) (IsTup.new s1.heap _) fun h' hx' => ?_)))
    have I3 := I2.kept (h' := h') (t' := s1.toks) fun b o e => hx' b o (Nat.ne_of_lt (Heap.lt_size e)) e
    show wpAny _ _ (assignInOrder [fun v => bindName X.env z v, fun v => bindName X.env y v, fun v => bindName X.env x v] [u3, u2, u1] >>= fun _ => pure Flow.next) _ _ _
    refine wpAny_bind (assignInOrder_cons (wpAny_bindName (store_ok I3 hN hk (.inl hz) rw' (fun s2 I4 => ?_) (.inr hz))))
    refine assignInOrder_cons (wpAny_bindName (store_ok I4 hN hj (.inl hy) rv (fun s3 I5 => ?_) (.inr hy)))
    refine assignInOrder_cons (wpAny_bindName (store_ok I5 hN hi (.inl hx) ru (fun s4 I6 => assignInOrder_nil (wpAny_pure ?_)) (.inr hx)))
    have e : ((σ.set k (some w)).set j (some v)).set i (some u) = ((σ.set i (some u)).set j (some v)).set k (some w) := by
      rw [List.set_comm _ _ (Ne.symm hjk), List.set_comm _ _ (Ne.symm hik), List.set_comm _ _ (Ne.symm hij)]
    rw [e] at I6
    exact ⟨_, H1, I6, q1⟩
theorem s_par3 {kt k2 : Nat} {pt pt2 : Pos} (hc : X.calm = true) (hN : X.N.Nodup) (hi : X.N[i]? = some x) (hj : X.N[j]? = some y) (hk : X.N[k]? = some z) (hij : i ≠ j) (hik : i ≠ k) (hjk : j ≠ k) (hx : X.env.scope.names.lookup x = some .local) (hy : X.env.scope.names.lookup y = some .local)
    (hz : X.env.scope.names.lookup z = some .local) (hw : swappedStores [.Tuple [.Name x px, .Name y py, .Name z pz] kt pt] (.Tuple [ea, eb, ec] k2 pt2) X.env = pure (some [x, y, z])) (ha : PA X [ea, eb, ec] (tEs S X.K W (evArgs E ms))) :
    PS X (.Assign [.Tuple [.Name x px, .Name y py, .Name z pz] kt pt] (.Tuple [ea, eb, ec] k2 pt2) pos) (tS S X.K W (evPar E [i, j, k] ms)) := by
  refine ps_imp (par3 hc hN hi hj hk hij hik hjk hx hy hz ha hw) fun D σ H ⟨F, ι, Z, M, ρ, s, l, p⟩ => ?_
  refine PostS.at s l p fun ι1 Z1 M1 H1 xs vs q1 st1 s1 l1 r1 p1 => ?_
  split at p1
  · rename_i ρ1 hset
    have hl := setAll_len _ _ _ _ hset
    match xs, vs, r1, hl, hset with
    | [x1, x2, x3], _, .cons r1 (.cons r2 (.cons r3 .nil)), _, hset =>
      refine ⟨_, _, _, rfl, ?_⟩
      unfold setAll at hset
      split at hset
      · unfold setAll at hset
        split at hset
        · unfold setAll at hset
          split at hset
          · unfold setAll at hset
            cases hset
            exact p1 ι1 Z1 H1 _ (Pre.refl _) (Step.refl _ _) s1 (((l1.set i r1).set j r2).set k r3)
          · cases hset
        · cases hset
      · cases hset
  · exact p1.elim
/-! ### name op= e -/
def evAug (E : Ev) (i : Nat) (o : BOp) (e : ME) : Rho → MH → SO := fun ρ M => (match ρ[i]? with
    | some (some x) => outS (E.e e ρ M) ρ fun y M1 => (match augOp o x y with
      | some z => .nx (ρ.set i (some z)) M1
      | none => .stuck)
    | _ => .stuck)
theorem s_augA (hN : X.N.Nodup) (hi : X.N[i]? = some x) (hx : Loc X.env.scope x) (hf : X.fn x = true ∨ X.env.scope.names.lookup x = some .local) (ha : PE X ea (tE S X.K W (E.e a))) : PS X (.AugAssign (.Name x px) .Add ea pos) (tS S X.K W (evAug E i .add a)) := by
  refine ps_imp (ps_aug hN hi hx ha ip_add hf) fun D σ H ⟨F, ι, Z, M, ρ, s, l, p⟩ => ?_
  unfold evAug at p
  split at p
  · rename_i u hu
    obtain ⟨v, e, r⟩ := l.2 i u hu
    refine ⟨v, e, PostS.at s l p fun ι1 Z1 M1 H1 y y' q1 st1 s1 l1 r1 p1 => ?_⟩
    unfold augOp at p1
    dsimp only at p1
    split at p1
    · rename_i z hz
      split at hz
      · cases hz
        cases r
        cases r1
        exact ⟨_, _, rfl, rfl, p1 ι1 Z1 H1 _ (Pre.refl _) (Step.refl _ _) s1 (l1.set i (.int _))⟩
      · cases hz
    · exact p1.elim
  · exact p.elim
theorem s_augS (hN : X.N.Nodup) (hi : X.N[i]? = some x) (hx : Loc X.env.scope x) (hf : X.fn x = true ∨ X.env.scope.names.lookup x = some .local) (ha : PE X ea (tE S X.K W (E.e a))) : PS X (.AugAssign (.Name x px) .Sub ea pos) (tS S X.K W (evAug E i .sub a)) := by
  refine ps_imp (ps_aug hN hi hx ha ip_sub hf) fun D σ H ⟨F, ι, Z, M, ρ, s, l, p⟩ => ?_
  unfold evAug at p
  split at p
  · rename_i u hu
    obtain ⟨v, e, r⟩ := l.2 i u hu
    refine ⟨v, e, PostS.at s l p fun ι1 Z1 M1 H1 y y' q1 st1 s1 l1 r1 p1 => ?_⟩
    unfold augOp at p1
    dsimp only at p1
    split at p1
    · rename_i z hz
      split at hz
      · cases hz
        cases r
        cases r1
        exact ⟨_, _, rfl, rfl, p1 ι1 Z1 H1 _ (Pre.refl _) (Step.refl _ _) s1 (l1.set i (.int _))⟩
      · cases hz
    · exact p1.elim
  · exact p.elim
/-! ### lists of statements, if, while, for -/
inductive AllS (R : Stmt → MS → Prop) : List Stmt → List MS → Prop
  | nil : AllS R [] []
  | cons {e : Stmt} {m : MS} {es : List Stmt} {ms : List MS} (h : R e m) (r : AllS R es ms) : AllS R (e :: es) (m :: ms)
theorem ss_ok : ∀ {sts : List Stmt} {ms : List MS}, AllS (fun st m => PS X st (tS S X.K W (E.s m))) sts ms → PSs X sts (tS S X.K W (ssL E ms))
  | _, _, .nil => pss_imp pss_nil fun D σ H ⟨F, ι, Z, M, ρ, s, l, p⟩ => p ι Z H σ (Pre.refl _) (Step.refl _ _) s l
  | _, _, @AllS.cons _ _ m _ ms h r => by
    refine pss_imp (pss_cons h (ss_ok r)) fun D σ H ⟨F, ι, Z, M, ρ, s, l, p⟩ => ?_
    refine ⟨F, ι, Z, M, ρ, s, l, ?_⟩
    unfold ssL at p
    cases q : E.s m ρ M with
    | nx ρ1 M1 =>
      rw [q] at p
      intro ι1 Z1 H1 σ1 q1 st1 s1 l1
      exact ⟨F, ι1, Z1, M1, ρ1, s1, l1, PostS.later (o := ssL E ms ρ1 M1) p q1 st1⟩
    | _ =>
      rw [q] at p
      exact p
theorem s_if {A B : List MS} {sa sb : List Stmt} (hc : RE S X W (E.e c) ec) (ha : PSs X sa (tS S X.K W (ssL E A))) (hb : PSs X sb (tS S X.K W (ssL E B))) :
    PS X (.If ec sa sb pos) (tS S X.K W fun ρ M => outS (evT E c ρ M) ρ fun r M1 => if r then ssL E A ρ M1 else ssL E B ρ M1) := by
  refine ps_imp (ps_if hc.t ha hb) fun D σ H ⟨F, ι, Z, M, ρ, s, l, p⟩ => ?_
  refine PostS.at s l p fun ι1 Z1 M1 H1 r r' q1 st1 s1 l1 e p1 => ?_
  subst e
  cases r with
  | true =>
    rw [if_pos rfl] at p1 ⊢
    exact ⟨F, ι1, Z1, M1, ρ, s1, l1, p1⟩
  | false =>
    rw [if_neg Bool.false_ne_true] at p1 ⊢
    exact ⟨F, ι1, Z1, M1, ρ, s1, l1, p1⟩
theorem s_whl {B : List MS} {sb : List Stmt} (hp : PassesOwn (model X.prog X.w) X.A X.env X.xe) (hc : RE S X W (E.e c) ec) (hb : PSs X sb (tS S X.K W (ssL E B))) : PS X (.While ec sb [] pos) (tS S X.K W fun ρ M => whlL E c (ssL E B) 1000000 ρ M) := by
  refine ps_imp (ps_while hp hc.t hb) fun D σ H ⟨F, ι, Z, M, ρ, s, l, p⟩ => ?_
  let Wm : Nat → L2.St → Hp → Prop := fun w σ' H' => ∃ ι' Z' M' ρ', Pre ι ι' ∧ Step Z H Z' H' ∧ Sim X.K S.CA F ι' Z' M' H' ∧ LR X.K S.CA ι' (bar F Z') H' ρ' σ' ∧ PostS S X.K W F ι' Z' H' (whlL E c (ssL E B) w ρ' M') D
  refine ⟨Wm, ⟨1000000, ι, Z, M, ρ, Pre.refl _, Step.refl _ _, s, l, p⟩, ?_⟩
  rintro w σ1 H1 ⟨ι1, Z1, M1, ρ1, q1, st1, s1, l1, p1⟩
  cases w with
  | zero => exact p1.elim
  | succ w =>
    unfold whlL at p1
    refine ⟨F, ι1, Z1, M1, ρ1, s1, l1, ?_⟩
    change PO1 S X.K W REq σ1 F ι1 Z1 H1 (evT E c ρ1 M1) _
    cases qt : evT E c ρ1 M1 with
    | stuck =>
      rw [qt] at p1
      exact p1.elim
    | exc z M2 =>
      rw [qt] at p1
      intro ι2 Z2 H2 cls d q2 st2 s2 ex
      exact p1 ι2 Z2 H2 σ1 cls d q2 st2 s2 (l1.mono st2.bars q2) ex
    | val r M2 =>
      rw [qt] at p1
      intro ι2 Z2 H2 r' q2 st2 s2 e
      subst e
      have l2 := l1.mono st2.bars q2
      cases r with
      | false =>
        rw [if_neg Bool.false_ne_true]
        exact p1 ι2 Z2 H2 σ1 q2 st2 s2 l2
      | true =>
        rw [if_pos rfl]
        refine ⟨Wm w, fun σ' H' h => ⟨w, Nat.lt_succ_self w, h⟩, F, ι2, Z2, M2, ρ1, s2, l2, ?_⟩
        dsimp only at p1
        have again : ∀ {ρ3 : Rho} {M3 : MH}, PostS S X.K W F ι1 Z1 H1 (whlL E c (ssL E B) w ρ3 M3) D → ∀ ι3 Z3 H3 σ3, Pre ι2 ι3 → Step Z2 H2 Z3 H3 → Sim X.K S.CA F ι3 Z3 M3 H3 → LR X.K S.CA ι3 (bar F Z3) H3 ρ3 σ3 → Wm w σ3 H3 := fun {ρ3 M3} p3 ι3 Z3 H3 σ3 q3 st3 s3 l3 =>
          ⟨ι3, Z3, M3, ρ3, q1.trans (q2.trans q3), st1.trans (st2.trans st3), s3, l3, p3.later (q2.trans q3) (st2.trans st3)⟩
        cases qb : ssL E B ρ1 M2 with
        | nx ρ3 M3 =>
          rw [qb] at p1
          exact again p1
        | ct ρ3 M3 =>
          rw [qb] at p1
          exact again p1
        | bk ρ3 M3 =>
          rw [qb] at p1
          exact fun ι3 Z3 H3 σ3 q3 st3 s3 l3 => p1 ι3 Z3 H3 σ3 (q2.trans q3) (st2.trans st3) s3 l3
        | rt v M3 =>
          rw [qb] at p1
          exact fun ι3 Z3 H3 σ3 q3 st3 s3 l3 => p1 ι3 Z3 H3 σ3 (q2.trans q3) (st2.trans st3) s3 l3
        | exc z ρ3 M3 =>
          rw [qb] at p1
          exact fun ι3 Z3 H3 σ3 cls d q3 st3 s3 l3 ex => p1 ι3 Z3 H3 σ3 cls d (q2.trans q3) (st2.trans st3) s3 l3 ex
        | stuck =>
          rw [qb] at p1
          exact p1.elim
theorem s_for {B : List MS} {sb : List Stmt} {ts : List Nat} (hp : PassesOwn (model X.prog X.w) X.A X.env X.xe) (hc : X.calm = true) (hi : PI X tg iter (tI S X W (evIt E mi))) (hg : PG X tg (tG S X.K (E.asg t) ts)) (hb : PSs X sb (tS S X.K W (ssL E B))) (hf : ∀ x, foldedSetIterable iter X.env x = pure x) :
    PS X (.For tg iter sb [] pos) (tS S X.K W fun ρ M => outS (evIt E mi ρ M) ρ fun s M1 => forL E t (ssL E B) (srcLen M1 s + 1) 0 s ρ M1) := by
  refine ps_imp (ps_for hp hc hi hg hb hf) fun D σ H ⟨F, ι, Z, M, ρ, s, l, p⟩ => ?_
  refine PostS.at s l p fun ι1 Z1 M1 H1 src J q1 st1 s1 l1 rJ p1 => ?_
  let Wm : Nat → Nat → L2.St → Hp → Prop := fun i w σ' H' => ∃ ι' Z' M' ρ', Pre ι1 ι' ∧ Step Z1 H1 Z' H' ∧ Sim X.K S.CA F ι' Z' M' H' ∧ LR X.K S.CA ι' (bar F Z') H' ρ' σ' ∧ PostS S X.K W F ι' Z' H' (forL E t (ssL E B) w i src ρ' M') D
  refine ⟨Wm, ⟨_, ι1, Z1, M1, ρ, Pre.refl _, Step.refl _ _, s1, l1, p1⟩, ?_⟩
  rintro i w σ2 H2 ⟨ι2, Z2, M2, ρ2, q2, st2, s2, l2, p2⟩
  obtain ⟨j1, j2⟩ := rJ F Z2 ι2 M2 H2 q2 st2.bars s2 i
  cases w with
  | zero => exact p2.elim
  | succ w =>
    unfold forL at p2
    cases hsrc : srcAt M2 src i with
    | none =>
      rw [hsrc] at p2
      exact p2.elim
    | some o =>
      cases o with
      | none =>
        rw [hsrc] at p2
        exact .inl ⟨j2 hsrc, p2 ι2 Z2 H2 σ2 (Pre.refl _) (Step.refl _ _) s2 l2⟩
      | some x =>
        rw [hsrc] at p2
        obtain ⟨go, yl⟩ := j1 x hsrc
        refine .inr ⟨go, Wm (i + 1) w, fun σ' H' h => ⟨w, Nat.lt_succ_self w, h⟩, fun y H3 hy => ?_⟩
        obtain ⟨ext, ry⟩ := yl y H3 hy
        have s3 := s2.ext ext
        have st3 : Step Z2 H2 Z2 H3 := Step.ext ext
        have l3 := l2.mono st3.bars (Pre.refl _)
        refine ⟨F, ι2, Z2, M2, ρ2, x, s3, l3, ry, ?_⟩
        dsimp only at p2
        cases ha : E.asg t x ρ2 M2 with
        | exc z M4 =>
          rw [ha] at p2
          exact p2.elim
        | stuck =>
          rw [ha] at p2
          exact p2.elim
        | val ρ4 M4 =>
          rw [ha] at p2
          dsimp only at p2
          intro ι4 Z4 H4 σ4 q4 st4 s4 l4 sb4
          refine ⟨F, ι4, Z4, M4, ρ4, s4, l4, ?_⟩
          have st24 := st3.trans st4
          have again : ∀ {ρ5 : Rho} {M5 : MH}, PostS S X.K W F ι2 Z2 H2 (forL E t (ssL E B) w (i + 1) src ρ5 M5) D → ∀ ι5 Z5 H5 σ5, Pre ι4 ι5 → Step Z4 H4 Z5 H5 → Sim X.K S.CA F ι5 Z5 M5 H5 → LR X.K S.CA ι5 (bar F Z5) H5 ρ5 σ5 → Wm (i + 1) w σ5 H5 := fun {ρ5 M5} p5 ι5 Z5 H5 σ5 q5 st5 s5 l5 =>
            ⟨ι5, Z5, M5, ρ5, q2.trans (q4.trans q5), st2.trans (st24.trans st5), s5, l5, p5.later (q4.trans q5) (st24.trans st5)⟩
          cases qb : ssL E B ρ4 M4 with
          | nx ρ5 M5 =>
            rw [qb] at p2
            exact again p2
          | ct ρ5 M5 =>
            rw [qb] at p2
            exact again p2
          | bk ρ5 M5 =>
            rw [qb] at p2
            exact fun ι5 Z5 H5 σ5 q5 st5 s5 l5 => p2 ι5 Z5 H5 σ5 (q4.trans q5) (st24.trans st5) s5 l5
          | rt v M5 =>
            rw [qb] at p2
            exact fun ι5 Z5 H5 σ5 q5 st5 s5 l5 => p2 ι5 Z5 H5 σ5 (q4.trans q5) (st24.trans st5) s5 l5
          | exc z ρ5 M5 =>
            rw [qb] at p2
            exact fun ι5 Z5 H5 σ5 cls d q5 st5 s5 l5 ex => p2 ι5 Z5 H5 σ5 cls d (q4.trans q5) (st24.trans st5) s5 l5 ex
          | stuck =>
            rw [qb] at p2
            exact p2.elim
end
end Mp
end

section
set_option Elab.async false
set_option linter.all false
set_option maxRecDepth 100000
set_option maxHeartbeats 2000000
/-! Mp18: dict displays. -/
namespace Mp
open PySem PySem.Spec PyProof.Rows L2

/-- the pairs of a display: keys and values, both read -/
inductive AllP (S : SD) (X : Cx) (W : WX) (E : Ev) : List (Option Expr) → List Expr → List ME → List ME → List (TE × TE) → Prop
  | nil : AllP S X W E [] [] [] [] []
  | cons {k v : Expr} {mk mv : ME} {ks : List (Option Expr)} {vs : List Expr} {mks mvs : List ME} {trs : List (TE × TE)} (hk : PE X k (tE S X.K W (E.e mk))) (hv : PE X v (tE S X.K W (E.e mv))) (r : AllP S X W E ks vs mks mvs trs) :
      AllP S X W E (some k :: ks) (v :: vs) (mk :: mks) (mv :: mvs) ((tE S X.K W (E.e mk), tE S X.K W (E.e mv)) :: trs)
section
variable {S : SD} {X : Cx} {W : WX} {E : Ev} {pos : Pos} {ks : List (Option Expr)} {vs : List Expr} {mks mvs : List ME} {trs : List (TE × TE)}
theorem AllP.facts (h : AllP S X W E ks vs mks mvs trs) : PPs X pos ks vs trs ∧ ks.all (·.isSome) = true ∧ ks.length = vs.length ∧ ks.length = mks.length := by
  induction h with
  | nil => exact ⟨pps_nil, rfl, rfl, rfl⟩
  | cons hk hv r ih =>
    obtain ⟨h1, h2, h3, h4⟩ := ih
    exact ⟨pps_cons hk hv h1, by rw [List.all_cons, h2]; rfl, by rw [List.length_cons, List.length_cons, h3], by rw [List.length_cons, List.length_cons, h4]⟩
theorem pairs_ok {σ : L2.St} {F : Addr → Prop} {ι1 : List Addr} {Z1 : Addr → Prop} {H1 : Hp} {p : Addr} {Q : VK} {ρ : Rho} {kk : List (PV × PV) → MH → Out PV} (h : AllP S X W E ks vs mks mvs trs) (hp1 : H1 p = none) :
    ∀ {ι : List Addr} {Z : Addr → Prop} {M : MH} {H : Hp} {acc : List (PV × PV)} {av : List (Key × V)}, Pre ι1 ι → Step Z1 H1 Z H → Sim X.K S.CA (andD F p) ι Z M H → LR X.K S.CA ι (bar (andD F p) Z) H ρ σ → RKs X.K S.CA ι (bar (andD F p) Z) H acc av →
      PO1 S X.K W (RVo S X.K) σ F ι1 Z1 H1 ((evDsp E mks mvs ρ acc M).bind kk) Q →
      ∀ R : List (V × V) → Hp → Prop, (∀ ps H2, (∃ kvs ι2 Z2 M2 acc2, ps = kvs.map (fun kv : Key × V => (kV kv.1, kv.2)) ∧ kvs.length = ks.length ∧ Pre ι1 ι2 ∧ Step Z1 H1 Z2 H2 ∧ Step Z H Z2 H2 ∧ Sim X.K S.CA (andD F p) ι2 Z2 M2 H2 ∧
        RKs X.K S.CA ι2 (bar (andD F p) Z2) H2 acc2 (mergeK av kvs) ∧ PO1 S X.K W (RVo S X.K) σ F ι1 Z1 H1 (kk acc2 M2) Q) → R ps H2) → tPairs trs σ H R := by
  induction h with
  | nil =>
    intro ι Z M H acc av q1 st1 s l r p' R hR
    exact hR _ _ ⟨[], ι, Z, M, acc, rfl, rfl, q1, st1, Step.refl _ _, s, r, p'⟩
  | @cons k v mk mv ks vs mks mvs trs hk hv rest ih =>
    intro ι Z M H acc av q1 st1 s l r p' R hR
    have exq : ∀ {x : PX} {M' : MH}, PO1 S X.K W (RVo S X.K) σ F ι1 Z1 H1 (.exc x M') Q → ∀ ι' Z' H' cls d, Pre ι1 ι' → Step Z1 H1 Z' H' → Sim X.K S.CA (andD F p) ι' Z' M' H' → S.EX x ι' (bar (andD F p) Z') H' cls d → W cls d σ H' := fun {x M'} pe ι' Z' H' cls d a b c e =>
      pe ι' Z' H' cls d a b c.unbar (S.exk _ _ _ _ _ _ e ι' _ fun _ z => z.elim (fun f => .inl (.inl f)) .inr)
    refine ⟨andD F p, ι, Z, M, ρ, s, l, ?_⟩
    unfold evDsp at p'
    cases ek : E.e mk ρ M with
    | stuck =>
      rw [ek] at p'
      exact p'.elim
    | exc x M2 =>
      rw [ek] at p'
      exact fun ι' Z' H' cls d a b c e => exq p' ι' Z' H' cls d (q1.trans a) (st1.trans b) c e
    | val x M2 =>
      rw [ek] at p'
      intro ι2 Z2 H2 x' q2 st2 s2 r2
      refine ⟨andD F p, ι2, Z2, M2, ρ, s2, l.mono st2.bars q2, ?_⟩
      cases ev : E.e mv ρ M2 with
      | stuck =>
        dsimp only [Out.bind] at p'
        rw [ev] at p'
        exact p'.elim
      | exc y M3 =>
        dsimp only [Out.bind] at p'
        rw [ev] at p'
        exact fun ι' Z' H' cls d a b c e => exq p' ι' Z' H' cls d (q1.trans (q2.trans a)) (st1.trans (st2.trans b)) c e
      | val y M3 =>
        dsimp only [Out.bind] at p'
        rw [ev] at p'
        dsimp only [Out.bind] at p'
        intro ι3 Z3 H3 y' q3 st3 s3 r3
        by_cases hkey : isKey x = true
        · rw [if_pos hkey] at p'
          obtain ⟨kq, hq⟩ := isKey_some hkey
          have st23 := st2.trans st3
          have racc := (r.mono st23.bars (q2.trans q3)).put hq r3
          have e0 : x' = kV kq := key_rel hq r2
          subst e0
          refine ih (ι := ι3) (Z := Z3) (M := M3) (H := H3) (acc := putD x y acc) (av := putK av kq y') (q1.trans (q2.trans q3)) (st1.trans st23) s3 (l.mono st23.bars (q2.trans q3)) racc p' _ fun ps H4 z => hR _ _ ?_
          obtain ⟨kvs, ι4, Z4, M4, acc4, e1, e2, e3, e4, e5, e6, e7, e8⟩ := z
          exact ⟨(kq, y') :: kvs, ι4, Z4, M4, acc4, by rw [e1]; rfl, by rw [List.length_cons, List.length_cons, e2], e3, e4, st23.trans e5, e6, e7, e8⟩
        · rw [if_neg hkey] at p'
          exact p'.elim
theorem e_dsp {m : Bool} (h : AllP S X W E ks vs mks mvs trs) : PE X (.Dict ks vs pos) (tE S X.K W fun ρ M => if mks.length ≤ 15 then (evDsp E mks mvs ρ [] M).bind fun kvs M1 => newD m kvs M1 else .stuck) := by
  by_cases h15 : mks.length ≤ 15
  · have core : ∀ {σ : L2.St} {H : Hp} {Q : VK}, tE S X.K W (fun ρ M => if mks.length ≤ 15 then (evDsp E mks mvs ρ [] M).bind fun kvs M1 => newD m kvs M1 else .stuck) σ H Q → tDisp trs σ H Q := fun {σ H Q} ⟨F, ι, Z, M, ρ, s, l, p⟩ => by
      dsimp only at p
      rw [if_pos h15] at p
      intro ad had
      have nF : ¬ F ad := fun f => by
        obtain ⟨o, h⟩ := s.ft ad f
        rw [had] at h
        cases h
      obtain ⟨s0, kb0⟩ := s.barF (.dK []) had
      refine pairs_ok h had (Pre.refl ι) (Step.ext (upd_ext had)) s0 (l.mono kb0 (Pre.refl ι)) .nil p _ fun ps H2 z => ?_
      obtain ⟨kvs, ι2, Z2, M2, acc2, e1, e2, e3, e4, e5, e6, e7, e8⟩ := z
      have hD : H2 ad = some (.dK []) := e5.keep ad _ upd_same fun z => s0.zf ad z (.inr rfl)
      obtain ⟨s6, k6⟩ := e6.touch (D := ad) (.dK (mergeK [] kvs)) (.inr rfl)
      refine ⟨hD, kvs, e1, ?_, made_dct e8 e3 ⟨fun a o h nz => ?_, e4.own, fun a o h => ?_⟩ had nF s6 upd_same (RKs.mono k6 (Pre.refl _) e7)⟩
      · rw [e2, (AllP.facts (pos := pos) h).2.2.2]
        exact h15
      · rw [upd_ne (ne_of_none h had)]
        exact e4.keep a o h nz
      · rw [upd_ne (ne_of_none h had)]
        exact e4.there a o h
    cases h with
    | nil =>
      refine pe_imp pe_dnewK fun σ H Q h ad had => ?_
      have := core h ad had
      exact this.2.elim fun kvs z => by
        obtain ⟨z1, z2, z3⟩ := z
        cases kvs with
        | nil =>
          have e : upd (upd H ad (.dK [])) ad (.dK (mergeK [] [])) = upd H ad (.dK []) := funext fun b => by
            by_cases e : b = ad
            · subst e
              rw [upd_same, upd_same]
              rfl
            · rw [upd_ne e]
          rw [e] at z3
          exact z3
        | cons kv kvs => cases z1
    | cons hk hv r =>
      have h' := AllP.cons hk hv r
      obtain ⟨f1, f2, f3, f4⟩ := AllP.facts (pos := pos) h'
      exact pe_imp (pe_disp f1 f2 f3 (List.cons_ne_nil _ _) (by rw [f4]; exact h15)) fun σ H Q h => core h
  · refine ⟨fun pins s σ H Q I ⟨F, ι, Z, M, ρ, s', l, p⟩ => ?_⟩
    dsimp only at p
    rw [if_neg h15] at p
    exact p.elim
end
end Mp
end

section
set_option Elab.async false
set_option linter.all false
set_option maxRecDepth 100000
/-! Mp19: sorted(set(xs)) of ints. -/
namespace Mp
open PySem PySem.Spec PyProof.Rows L2

abbrev nsO (w : World) : Obj := { cls := .type "set", dict := none, data := .set #[] 0 (.fresh 0 0 (!w.params.followText "set-order")) }
section
variable {P : Program} {w : World} {A : Around} {E : Value → Shared → Prop} {s : Shared}
set_option maxHeartbeats 3200000 in
/-- set(l) of a list of ints -/
theorem call_set_lstI {l : Addr} {its : Array Value} (ns : List Int) {Q : Value → Shared → Prop} (hh : A.handled = none) (hl : s.heap.IsList l its) (hit : IntsAre its.toList ns) (hb : ns.length + 1 < scanBound)
    (h : ∀ (h' : Heap) (tk c : Nat), SetR w h' s.heap.objs.size (fun j => decide (j ∈ ns)) c → c ≤ ns.length → (∀ b u, s.heap.get? b = some u → h'.get? b = some u) → Q (.ref s.heap.objs.size) { s with heap := h', toks := tk }) :
    wpAny (model P w) A (call (.type "set") [.ref l]) Q E s := by
  have hisz : its.size = ns.length := by
    rw [← Array.length_toList]; exact IntsAre.length hit
  have ⟨cc, tl, hmro⟩ := F.called_set.mro; have hmade := F.called_set.made; have hsub := F.called_set.sub
  refine wpAny_call (codeAny_of_tree ?_); show wpAny _ _ (callAny (.type "set") _) _ _ _
  refine wpAny_pure ⟨Code.quiet_builtin _ (by decide +kernel), codeAny_builtin F.entry_type_call ?_⟩; rw [Around.under_plain (weight_type_call_type "set" [.ref l] []) rfl]
  have k1 := F.called_set.notType; have k2 := F.called_set.canCreate; have kct := F.typeCall_set_1 (.ref l)
  repeat (any_goals (first | assumption | wp_step))
  refine codeAny_mono (code_set_led1 (.ref l) (E := E) (Q₁ := fun obj s₁ => obj = .ref s.heap.objs.size ∧ s₁ = { s with heap := s.heap.push (nsO w) }) ⟨rfl, rfl⟩) fun r s₁ hr => ?_
  match r, hr with
  | .error e, hr => exact hr
  | .ok (.ret obj), hr =>
    obtain ⟨rfl, rfl⟩ := hr
    have gS : (s.heap.push (nsO w)).get? s.heap.objs.size = some (nsO w) := Heap.get?_push_size _ rfl
    have tS : Shared.TypeIs { s with heap := s.heap.push (nsO w) } (.ref s.heap.objs.size) "set" := ⟨_, gS, rfl⟩
    have hli := F.called_set.init.lookup; have hbi := F.called_set.init.bind (.ref s.heap.objs.size)
    repeat (any_goals (first | assumption | wp_step))
    refine codeAny_mono (codeAny_call_builtin (R := wants (fun r s₂ => r = .none ∧ ∃ h' tk c, s₂ = { s with heap := h', toks := tk } ∧ SetR w h' s.heap.objs.size (fun j => decide (j ∈ ns)) c ∧ c ≤ ns.length ∧ (∀ b u, s.heap.get? b = some u → h'.get? b = some u)) E)
      F.called_set.init.plain F.entry_set_init (check_set_init_1 tS ?_)) fun r₂ s₂ hr₂ => ?_
    · obtain ⟨⟨ocls, odict, odata, oslots⟩, hol, hcl, nl, hdl⟩ := hl
      simp only at hcl hdl
      subst hcl; subst hdl
      have hol' : (s.heap.push (nsO w)).get? l = some { cls := .type "list", dict := odict, data := .seq its nl, slots := oslots } := Heap.get?_push_of_some _ hol
      have q1 := F.sub_list_set; have q2 := F.sub_list_frozenset; have q3 : (Value.type "list" == Value.type "dict") = false := by decide
      have hl1 : (s.heap.push (nsO w)).IsList l its := ⟨_, hol', rfl, nl, rfl⟩
      unfold Builtin.«set.__init__» noKeywords Builtin.Frozenset.updateFrom
      generalize hPI : pyIter = PI
      wp_walk
      subst hPI
      refine wpAny_pyIter_list hl1 (wpAny_bind (wpAny_runValue ?_))
      have lS : l < s.heap.objs.size := Heap.lt_size hol
      have hh3 : A.in1.in1.in1.handled = none := by simp [hh]
      have neI : l ≠ (s.heap.push (nsO w)).objs.size := by rw [Heap.size_push]; exact Nat.ne_of_lt (Nat.lt_succ_of_lt lS)
      have nSf : s.heap.objs.size ∉ [(s.heap.push (nsO w)).objs.size, l] := by
        rw [Heap.size_push]; exact notIn2 (Nat.ne_of_lt (Nat.lt_succ_self _)) (Nat.ne_of_gt lS)
      have hval : ∀ (i : Nat) (v : Value), its[i]? = some v → ∃ k t, ns[i]? = some k ∧ v = .int k t := fun i v hv => by
        have hi : i < ns.length := by rw [← hisz]; exact (Array.getElem?_eq_some_iff.mp hv).1
        have ⟨t, e⟩ := PyProof.Rows.IntsAre.int_at hit i v (by rw [Array.getElem?_toList]; exact hv)
        exact ⟨ns[i], t, List.getElem?_eq_getElem hi, by rw [e, List.getD_eq_getElem?_getD, List.getElem?_eq_getElem hi]; rfl⟩
      refine set_update_ints ((Walks.list hh3 _ l neI its).toS) s.heap.objs.size nSf ns hisz hb hval (its.size - 0) 0 _ (by omega) (Nat.zero_le _) ⟨⟨_, Heap.get?_push_size _ rfl, rfl, rfl⟩, (hl1.push _)⟩ ?start ?fin
      case start =>
        exact ⟨0, Nat.le_refl 0, setR_new_at (Heap.get?_push_of_some _ gS)⟩
      case fin =>
        intro s' c' hm hc' hS'
        obtain ⟨h', g2, d', tk', os'⟩ := s'
        have e1 : g2 = s.gens := hm.gens
        have e2 : d' = s.drawn := hm.drawn
        have e3 : os' = s.os := hm.os
        subst e1 e2 e3
        show wpAny _ _ _ _ _ _
        refine wpAny_pure ?_
        show wpAny _ _ (ret Value.none) _ _ _
        rw [hisz] at hc'
        refine wpAny_pure ⟨rfl, h', tk', c', rfl, hS', hc', fun b u e => ?_⟩
        have b0 : b < s.heap.objs.size := Heap.lt_size e
        refine hm.heap b u (notIn2 (Nat.ne_of_lt b0) ?_) (Heap.get?_push_of_some _ (Heap.get?_push_of_some _ e))
        rw [Heap.size_push]
        exact Nat.ne_of_lt (Nat.lt_succ_of_lt b0)
    · match r₂, hr₂ with
      | .error e, hr₂ => exact hr₂
      | .ok (.ret r), hr₂ =>
        obtain ⟨rfl, h', tk, c', rfl, hS', hc', hk'⟩ := hr₂
        repeat (any_goals (first | assumption | wp_step))
        exact h _ _ _ hS' hc' hk'
end
/-- set(xs) of a list or a tuple of ints, few of them -/
def rSetI (K : PySem.W.Frag) (w : World) : List V → Hp → VK → Prop := fun xs H Q => ∃ (a : Addr) (ns : List Int), xs = [V.ref a] ∧ (SqL K H a (ns.map V.int) ∨ SqT K H a (ns.map V.int)) ∧ ns.length < 64 ∧
  ∀ q n, H q = none → n ≤ ns.length → Q (.ref q) (upd H q (SetO w q (fun j => decide (j ∈ ns)) n))
theorem cr_setI {X : Cx} (hc : X.calm = true) : CallR X (.type "set") (rSetI X.K X.w) := by
  intro pins s σ H xs us Q I r h
  obtain ⟨a, ns, rfl, hs, h64, q⟩ := h
  rw [Vals.ref1 r]
  have hd := I.ok.hd hc
  have fin : ∀ (h' : Heap) (tk c : Nat), SetR X.w h' s.heap.objs.size (fun j => decide (j ∈ ns)) c → c ≤ ns.length → (∀ b u, s.heap.get? b = some u → h'.get? b = some u) → EP X pins σ Q (.ref s.heap.objs.size) { s with heap := h', toks := tk } := fun h' tk c R hcn k =>
    ⟨.ref _, upd H s.heap.objs.size (SetO X.w s.heap.objs.size (fun j => decide (j ∈ ns)) c), I.laid (t' := tk) k (Nat.le_refl _) (setO_new R), rfl, q _ c (I.hok.fresh (Nat.le_refl _)) hcn⟩
  rcases hs with hs | hs
  · obtain ⟨its, rv, pl, hz⟩ := I.list hs
    exact call_set_lstI ns hd pl.isList (by simpa using rv.ints) (by unfold scanBound; omega) fin
  · obtain ⟨its, rv, pl, hz⟩ := I.tuple hs
    exact call_set_tupI ns hd (show s.heap.IsTuple a its.toArray from pl) (by simpa using rv.ints) (by unfold scanBound; omega) fin
section
variable {S : SD} {X : Cx} {W : WX} {E : Ev} {ea : Expr} {a : ME} {m : Bool} {px px2 pos pos2 : Pos}
theorem x_sset (C : CF S X) (hg : Gl X "sorted") (hg2 : Gl X "set") (hp : plE ea = true) (ha : PE X ea (tE S X.K W (E.e a))) :
    PE X (.Call (.Name "sorted" px) [.Call (.Name "set" px2) [ea] [] pos2] [] pos) (tE S X.K W fun ρ M => (evArgs E [a] ρ M).bind fun xs M1 => bltF .sset m xs M1) := by
  have h1 := pe_callTy (p := px2) (pos := pos2) (cr_setI C.calm) hg2 (C.mg' _ (by decide +kernel)) bt_set (pa_cons ha pa_nil (star_pl hp [] X.env)) (by decide) (by decide) (star_pl hp [] X.env) rfl
  refine pe_imp (pe_callB (cr_sortedSet C.calm) hg (C.mg' _ (by decide +kernel)) bt_sorted (pa_cons h1 pa_nil rfl) (by decide) (by decide) rfl rfl) fun σ H Q ⟨F, ι, Z, M, ρ, s, l, p⟩ => ?_
  dsimp only [evArgs] at p
  rw [bind_assoc] at p
  refine tO.at s l p fun ι1 Z1 M1 H1 x x' q1 st1 s1 l1 r1 p1 => ?_
  replace p1 : PO1 S X.K W (RVo S X.K) σ F ι1 Z1 H1 (bSset m [x] M1) Q := p1
  unfold bSset at p1
  dsimp only at p1
  split at p1
  · rename_i ys e
    obtain ⟨ad, ws, e1, e2, e3⟩ := sees_seq s1 r1 e
    subst e1
    split at p1
    · rename_i is ei
      obtain ⟨e4, e5⟩ := ints_rel e3 ei
      subst e4 e5
      split at p1
      · rename_i h64
        refine ⟨ad, is, rfl, e2, h64, fun q n hq hn => ?_⟩
        have ext := upd_ext (o := SetO X.w q (fun j => decide (j ∈ is)) n) hq
        refine ⟨q, _, n, rfl, upd_same, Nat.lt_of_le_of_lt hn h64, fun ns ad2 pw mem hl had2 => ?_⟩
        have en : ns = sortU is := pw_ext pw (sortU_pw is) fun c => by
          rw [mem c, sortU_mem]
          exact decide_eq_true_iff
        rw [en]
        exact (newL_ok (p1.later (Pre.refl _) (Step.ext ext)) (s1.ext ext) (RVs.ints _)).2 ad2 had2
      · exact p1.elim
    · exact p1.elim
  · exact p1.elim
end
end Mp
end

section
set_option Elab.async false
set_option linter.all false
set_option maxRecDepth 100000
set_option maxHeartbeats 2000000
/-! Mp20: the check that a term is a translation of a written expression, target, statement. -/
namespace Mp
open PySem PySem.Spec PyProof.Rows L2

/-! ### names -/
def lookN : List (PySem.Str × NameKind) → PySem.Str → Option NameKind
  | [], _ => none
  | (y, k) :: r, x => if strEq x y then some k else lookN r x
theorem lookN_eq : ∀ (l : List (PySem.Str × NameKind)) (x : PySem.Str), lookN l x = l.lookup x
  | [], _ => rfl
  | (y, k) :: r, x => by
    unfold lookN
    rw [strEq_beq, lookN_eq r x, List.lookup_cons]
    cases x == y <;> rfl
def nmAt (N : List PySem.Str) (i : Nat) (x : PySem.Str) : Bool := match N[i]? with
  | some y => strEq y x
  | none => false
theorem nmAt_ok {N : List PySem.Str} {i : Nat} {x : PySem.Str} (h : nmAt N i x = true) : N[i]? = some x := by
  unfold nmAt at h
  split at h
  · rename_i y hy
    rw [hy, strEq_iff.mp h]
  · cases h
def visC (sc : Scope) (x : PySem.Str) : Bool := match lookN sc.names x with
  | some .local => true
  | some .cell => true
  | some .free => true
  | _ => false
theorem visC_ok {sc : Scope} {x : PySem.Str} (h : visC sc x = true) : Vis sc x := by
  unfold visC at h
  rw [lookN_eq] at h
  split at h
  · exact .inl (by assumption)
  · exact .inr (.inl (by assumption))
  · exact .inr (.inr (by assumption))
  · cases h
def glC (sc : Scope) (x : PySem.Str) : Bool := match lookN sc.names x with
  | some .globalImplicit => true
  | _ => false
theorem glC_ok {sc : Scope} {x : PySem.Str} (h : glC sc x = true) : sc.names.lookup x = some .globalImplicit := by
  unfold glC at h
  rw [lookN_eq] at h
  split at h
  · assumption
  · cases h
def plainL (sc : Scope) (x : PySem.Str) : Bool := match lookN sc.names x with
  | some .local => true
  | _ => false
theorem plainL_ok {sc : Scope} {x : PySem.Str} (h : plainL sc x = true) : sc.names.lookup x = some .local := by
  unfold plainL at h
  rw [lookN_eq] at h
  split at h
  · assumption
  · cases h
/-- a name that is stored to: of the def itself (fsc none), or of a comprehension's block -/
def locC (sc : Scope) (fsc : Option Scope) (x : PySem.Str) : Bool := match lookN sc.names x with
  | some .local => true
  | some .cell => (match fsc with
    | none => true
    | some s => (match lookN s.names x with
      | some .cell => true
      | _ => false))
  | _ => false
def noDbg (x : PySem.Str) : Bool := !(strEq x "__debug__") && !(strEq x "__classdict__")
theorem noDbg_ok {x : PySem.Str} (h : noDbg x = true) : (x == ("__debug__" : Str)) = false ∧ (x == ("__classdict__" : Str)) = false := by
  unfold noDbg at h
  rw [Bool.and_eq_true, strEq_beq, strEq_beq] at h
  exact ⟨by simpa using h.1, by simpa using h.2⟩
/-! ### small parts -/
def litC (c : Const) (v : PV) : Bool := match c, v with
  | .none, .non => true
  | .bool a, .bl b => a == b
  | .int i, .int j => decide (i = j)
  | .str x, .str y => strEq x y
  | _, _ => false
def opB (o : BOp) (op : Operator) : Bool := match o, op with
  | .add, .Add => true
  | .sub, .Sub => true
  | .mul, .Mult => true
  | .fdiv, .FloorDiv => true
  | .mod, .Mod => true
  | _, _ => false
def cmpB (o : COp) (op : CmpOp) : Bool := match o, op with
  | .eq, .Eq => true
  | .ne, .NotEq => true
  | .lt, .Lt => true
  | .le, .LtE => true
  | .gt, .Gt => true
  | .ge, .GtE => true
  | .is_, .Is => true
  | .isnot, .IsNot => true
  | .in_, .In => true
  | .notin, .NotIn => true
  | _, _ => false
theorem cmpB_ok {o : COp} {op : CmpOp} (h : cmpB o op = true) : op = opC o := by
  cases o <;> cases op <;> first | rfl | cases h
theorem marks_pl {e : Expr} (h : plE e = true) (op : CmpOp) : behindInMarks op e = false := by
  cases e <;> first | rfl | cases h
/-- no call without arguments: attributeBase is nothing then -/
def notC0 : Expr → Bool
  | .Call _ [] [] _ => false
  | _ => true
theorem base_ok {e : Expr} (h : notC0 e = true) (f : PySem.Str) (env : Env) : attributeBase e f env (eval e env) = eval e env := by
  cases e with
  | Call g as kws pos =>
    cases as with
    | nil =>
      cases kws with
      | nil => cases h
      | cons k ks => cases g <;> rfl
    | cons a as => cases g <;> rfl
  | _ => rfl
theorem folded_pl {e : Expr} (h : plE e = true) (env : Env) : ∀ x, foldedSetIterable e env x = pure x := by
  intro x
  cases e <;> first | rfl | cases h
/-! ### the check -/
/-- the check, one level deep -/
structure Ck where
  e : Scope → Option Scope → Expr → ME → Bool
  a : Scope → Option Scope → Expr → MT → Bool
  s : Scope → Stmt → MS → Bool
section
variable (S : SD) (N : List PySem.Str) (k : Ck) (sc : Scope) (fsc : Option Scope)
def argsC : List Expr → List ME → Bool
  | [], [] => true
  | e :: es, m :: ms => plE e && k.e sc fsc e m && argsC es ms
  | _, _ => false
def starsC : List Expr → List (Bool × ME) → Bool
  | [], [] => true
  | .Starred e _ :: es, (true, m) :: ms => k.e sc fsc e m && starsC es ms
  | e :: es, (false, m) :: ms => plE e && k.e sc fsc e m && starsC es ms
  | _, _ => false
def allC : List Expr → List ME → Bool
  | [], [] => true
  | e :: es, m :: ms => k.e sc fsc e m && allC es ms
  | _, _ => false
def optC : Option Expr → Option ME → Bool
  | none, none => true
  | some e, some m => k.e sc fsc e m
  | _, _ => false
def pairsC : List (Option Expr) → List Expr → List ME → List ME → Bool
  | [], [], [], [] => true
  | some x :: xs, y :: ys, m :: ms, n :: ns => k.e sc fsc x m && k.e sc fsc y n && pairsC xs ys ms ns
  | _, _, _, _ => false
def tgsC : List Expr → List MT → Bool
  | [], [] => true
  | e :: es, m :: ms => plE e && k.a sc fsc e m && tgsC es ms
  | _, _ => false
def tyC (e : Expr) (t : Ty) : Bool := match e with
  | .Name x _ => glC sc x && (match t with
    | .int => strEq x "int"
    | .str => strEq x "str"
    | .bool => strEq x "bool"
    | .tuple => strEq x "tuple"
    | .list => strEq x "list"
    | .dict => strEq x "dict"
    | .own c => strEq x (S.knm c) && noDbg x && Nat.blt c S.P.cls.length && !(strEq x ""))
  | _ => false
def isTup : Expr → Bool
  | .Tuple _ _ _ => true
  | _ => false
/-- a call of a built-in by its name, all written -/
def fnC (f x : PySem.Str) (es : List Expr) (n : Nat) : Bool := strEq x f && glC sc x && (Nat.beq es.length n && es.all plE)
def itC (tg it : Expr) (m : MI) : Bool := match m with
  | .seq a => plE it && k.e sc fsc it a
  | .rng1 a => (match it with
    | .Call (.Name f _) [x] [] _ => strEq f "range" && glC sc f && plE x && k.e sc fsc x a
    | _ => false)
  | .rng2 a b => (match it with
    | .Call (.Name f _) [x, y] [] _ => strEq f "range" && glC sc f && plE x && plE y && k.e sc fsc x a && k.e sc fsc y b
    | _ => false)
  | .enum a => isTup tg && (match it with
    | .Call (.Name f _) [x] [] _ => strEq f "enumerate" && glC sc f && plE x && k.e sc fsc x a
    | _ => false)
  | .zip a b => isTup tg && (match it with
    | .Call (.Name f _) [x, y] [] _ => strEq f "zip" && glC sc f && plE x && plE y && k.e sc fsc x a && k.e sc fsc y b
    | _ => false)
  | .items _ => false
def ifsC (sc' : Scope) (f' : Option Scope) : List Expr → List ME → Bool
  | [], [] => true
  | [e], [m] => k.e sc' f' e m
  | _, _ => false
def ownOf (vs : List Nat) : List (PySem.Str × Nat) := vs.map fun i => (N.getD i "", i)
def subN : List Nat → List Nat → Bool
  | [], _ => true
  | a :: r, vs => vs.any (Nat.beq a) && subN r vs
def lcC (elt tg iter : Expr) (ifs : List Expr) (scope : Scope) (vs : List Nat) (e : ME) (t : MT) (it : MI) (mifs : List ME) : Bool :=
  blkC N sc scope (ownOf N vs) && subN (slotsT t) vs && plE iter && itC k sc fsc tg iter it && k.a (relS scope sc) (some scope) tg t && ifsC k (relS scope sc) (some scope) ifs mifs && k.e (relS scope sc) (some scope) elt e
def dcC (kx vx tg iter : Expr) (ifs : List Expr) (scope : Scope) (vs : List Nat) (ek ev : ME) (t : MT) (it : MI) (mifs : List ME) : Bool :=
  blkC N sc scope (ownOf N vs) && subN (slotsT t) vs && plE iter && itC k sc fsc tg iter it && k.a (relS scope sc) (some scope) tg t && ifsC k (relS scope sc) (some scope) ifs mifs && k.e (relS scope sc) (some scope) kx ek && k.e (relS scope sc) (some scope) vx ev
/-- a built-in's name and how many arguments -/
def bltC (b : Blt) (f : PySem.Str) : Bool := match b with
  | .len => strEq f "len"
  | .list => strEq f "list"
  | .tuple => strEq f "tuple"
  | .sorted => strEq f "sorted"
  | .sum => strEq f "sum"
  | .min2 => strEq f "min"
  | .max2 => strEq f "max"
  | .all => strEq f "all"
  | .any => strEq f "any"
  | .int => strEq f "int"
  | _ => false
def bltE (b : Blt) (ms : List ME) (e : Expr) : Bool := match e with
  | .Call (.Name f _) es [] _ => bltC b f && glC sc f && !es.isEmpty && argsC k sc fsc es ms
  | _ => false
def ckE (e : Expr) (m : ME) : Bool := match m with
  | .var i => (match e with
    | .Name x _ => nmAt N i x && visC sc x && noDbg x
    | _ => false)
  | .lit v => (match e with
    | .Constant c _ _ => litC c v
    | _ => false)
  | .con c => (match e with
    | .Name x _ => strEq x (S.cnm c) && glC sc x && noDbg x && !(strEq x "") && (match S.P.con[c]? with
      | some _ => true
      | none => false)
    | _ => false)
  | .tup es => (match e with
    | .Tuple xs _ _ => starsC k sc fsc xs es
    | _ => false)
  | .lst _ es => (match e with
    | .List xs _ => starsC k sc fsc xs es
    | _ => false)
  | .bin o _ a b => (match e with
    | .BinOp x op y _ => opB o op && k.e sc fsc x a && k.e sc fsc y b
    | _ => false)
  | .neg a => (match e with
    | .UnaryOp .USub x _ => k.e sc fsc x a
    | _ => false)
  | .cmp o a b => (match e with
    | .Compare x [op] [y] _ => cmpB o op && plE y && k.e sc fsc x a && k.e sc fsc y b
    | _ => false)
  | .chain o o' a b c => (match e with
    | .Compare x [op, op'] [y, z] _ => cmpB o op && cmpB o' op' && plE z && k.e sc fsc x a && k.e sc fsc y b && k.e sc fsc z c
    | _ => false)
  | .and ms => (match e with
    | .BoolOp .And xs _ => allC k sc fsc xs ms && !ms.isEmpty
    | _ => false)
  | .or ms => (match e with
    | .BoolOp .Or xs _ => allC k sc fsc xs ms && !ms.isEmpty
    | _ => false)
  | .not a => (match e with
    | .UnaryOp .Not x _ => k.e sc fsc x a
    | _ => false)
  | .ite c a b => (match e with
    | .IfExp z x y _ => k.e sc fsc z c && k.e sc fsc x a && k.e sc fsc y b
    | _ => false)
  | .idx a b => (match e with
    | .Subscript x y _ => plE y && k.e sc fsc x a && k.e sc fsc y b
    | _ => false)
  | .slc a lo hi => (match e with
    | .Subscript x (.Slice l h none _) _ => k.e sc fsc x a && optC k sc fsc l lo && optC k sc fsc h hi
    | _ => false)
  | .att a f => (match e with
    | .Attribute x g _ => strEq g (S.fld f) && notC0 x && k.e sc fsc x a
    | _ => false)
  | .isi a [t] => (match e with
    | .Call (.Name f _) [x, y] [] _ => strEq f "isinstance" && glC sc f && plE x && k.e sc fsc x a && tyC S sc y t
    | _ => false)
  | .isi _ _ => false
  | .call f _ ms => (match e with
    | .Call (.Name x _) es [] _ => strEq x (S.fnm f) && glC sc x && noDbg x && argsC k sc fsc es ms && !(strEq x "") && (match S.P.fns[f]? with
      | some g => Nat.ble ms.length g.np && Nat.ble g.np (ms.length + g.dfl.length)
      | none => false)
    | _ => false)
  | .mk c ms => (match e with
    | .Call (.Name x _) es [] _ => strEq x (S.knm c) && glC sc x && noDbg x && argsC k sc fsc es ms && !(strEq x "") && (match S.P.cls[c]? with
      | some cl => (match S.P.fns[cl.init]? with
        | some g => Nat.ble (ms.length + 1) g.np && Nat.ble g.np (ms.length + 1 + g.dfl.length)
        | none => false)
      | none => false)
    | _ => false)
  | .blt .rlist _ ms => (match e, ms with
    | .Call (.Name f _) [.Call (.Name g _) [x] [] _] [] _, [a] => strEq f "list" && glC sc f && strEq g "range" && glC sc g && plE x && k.e sc fsc x a
    | _, _ => false)
  | .blt .sset _ ms => (match e, ms with
    | .Call (.Name f _) [.Call (.Name g _) [x] [] _] [] _, [a] => strEq f "sorted" && glC sc f && strEq g "set" && glC sc g && plE x && k.e sc fsc x a
    | _, _ => false)
  | .blt b _ ms => bltE k sc fsc b ms e
  | .bm .append a ms => (match e with
    | .Call (.Attribute x f apos) es [] cpos => strEq f "append" && (apos.endLine == cpos.line) && notC0 x && !es.isEmpty && Nat.blt es.length 20 && k.e sc fsc x a && argsC k sc fsc es ms
    | _ => false)
  | .bm _ _ _ => false
  | .lc _ vs el t it mifs => (match e with
    | .ListComp elt [⟨tg, iter, ifs, 0⟩] scope _ => lcC N k sc fsc elt tg iter ifs scope vs el t it mifs
    | _ => false)
  | .dc _ vs ek ev t it mifs => (match e with
    | .DictComp kx vx [⟨tg, iter, ifs, 0⟩] scope _ => dcC N k sc fsc kx vx tg iter ifs scope vs ek ev t it mifs
    | _ => false)
  | .dsp _ ks vs => (match e with
    | .Dict xs ys _ => pairsC k sc fsc xs ys ks vs
    | _ => false)
def ckA (e : Expr) (m : MT) : Bool := match m with
  | .nm i => (match e with
    | .Name x _ => nmAt N i x && locC sc fsc x
    | _ => false)
  | .tup ms => (match e with
    | .Tuple xs _ _ => tgsC k sc fsc xs ms
    | _ => false)
  | .sub a i => (match e with
    | .Subscript x y _ => plE y && k.e sc fsc x a && k.e sc fsc y i
    | _ => false)
  | .att _ _ => false
def stsC : List Stmt → List MS → Bool
  | [], [] => true
  | x :: xs, m :: ms => k.s sc x m && stsC xs ms
  | _, _ => false
/-- the stores are not swapped -/
def swC (tg e : Expr) : Bool := match tg with
  | .Tuple ts _ _ => (match e with
    | .Tuple vs _ _ => !((ts.length == 2) || (ts.length == 3)) || !(Nat.beq vs.length ts.length) || vs.all (foldedForSure 8) || ts.any (notLoc sc)
    | _ => true)
  | .List _ _ => false
  | _ => true
def shadows (scope : Scope) (x : PySem.Str) : Bool := scope.names.any fun (n, q) => n == x && (q == .local || q == .cell)
def asgC (t : MT) (a : ME) (st : Stmt) : Bool := match st with
  | .Assign [tg] e _ => plE tg && (noComp e || noName tg) && swC sc tg e && k.e sc none e a && k.a sc none tg t
  | _ => false
def ckS (st : Stmt) (m : MS) : Bool := match m with
  | .expr a => (match st with
    | .Expr e _ => noComp e && k.e sc none e a
    | _ => false)
  | .asg (.att (.var i) f) a => (match st with
    | .Assign [.Attribute (.Name x _) g _] e _ => strEq g (S.fld f) && k.e sc none e a && nmAt N i x && visC sc x && noDbg x
    | _ => false)
  | .asg (.att _ _) _ => false
  | .asg (.nm i) (.lc b vs el t it mifs) => (match st with
    | .Assign [.Name x px] (.ListComp elt gs scope cpos) _ => nmAt N i x && (plainL sc x && (px.line == cpos.line) && !(shadows scope x) || !(plainL sc x) && locC sc none x) && k.e sc none (.ListComp elt gs scope cpos) (.lc b vs el t it mifs)
    | _ => false)
  | .asg (.nm i) (.dc b vs ek ev t it mifs) => (match st with
    | .Assign [.Name x px] (.DictComp kx vx gs scope cpos) _ => nmAt N i x && (plainL sc x && (px.line == cpos.line) && !(shadows scope x) || !(plainL sc x) && locC sc none x) && k.e sc none (.DictComp kx vx gs scope cpos) (.dc b vs ek ev t it mifs)
    | _ => false)
  | .asg t a => asgC k sc t a st
  | .par [i, j] ms => (match st with
    | .Assign [.Tuple [.Name x px, .Name y py] _ _] (.Tuple [u, v] _ _) _ => nmAt N i x && nmAt N j y && plainL sc x && plainL sc y && (py.line == px.line) && !(strEq x y) && !(Nat.beq i j) && !([u, v].all (foldedForSure 8)) && !([u, v].all (constantsAlone 8)) && argsC k sc none [u, v] ms
    | _ => false)
  | .par [i, j, l] ms => (match st with
    | .Assign [.Tuple [.Name x px, .Name y py, .Name z pz] _ _] (.Tuple [u, v, w] _ _) _ => nmAt N i x && nmAt N j y && nmAt N l z && plainL sc x && plainL sc y && plainL sc z && (py.line == px.line) && (pz.line == px.line) && !(strEq x y) && !(strEq x z) && !(strEq y z) &&
        !(Nat.beq i j) && !(Nat.beq i l) && !(Nat.beq j l) && !([u, v, w].all (foldedForSure 8)) && !([u, v, w].all (constantsAlone 8)) && argsC k sc none [u, v, w] ms
    | _ => false)
  | .par _ _ => false
  | .aug i o a => (match st with
    | .AugAssign (.Name x _) op e _ => nmAt N i x && locC sc none x && (match o, op with
      | .add, .Add => true
      | .sub, .Sub => true
      | _, _ => false) && k.e sc none e a
    | _ => false)
  | .ifs c A B => (match st with
    | .If e x y _ => k.e sc none e c && stsC k sc x A && stsC k sc y B
    | _ => false)
  | .whl c A => (match st with
    | .While e x [] _ => k.e sc none e c && stsC k sc x A
    | _ => false)
  | .for_ t it A => (match st with
    | .For tg iter x [] _ => plE iter && itC k sc none tg iter it && k.a sc none tg t && stsC k sc x A
    | _ => false)
  | .ret a => (match st with
    | .Return (some e) _ => k.e sc none e a
    | _ => false)
  | .retN => (match st with
    | .Return none _ => true
    | _ => false)
  | .pass => (match st with
    | .Pass _ => true
    | _ => false)
  | .brk => (match st with
    | .Break _ => true
    | _ => false)
  | .cont => (match st with
    | .Continue _ => true
    | _ => false)
  | .bad => true
end
/-- the check, n levels deep -/
def chk (S : SD) (N : List PySem.Str) : Nat → Ck
  | 0 => ⟨fun _ _ _ _ => false, fun _ _ _ _ => false, fun _ _ _ => false⟩
  | n + 1 => ⟨fun sc f => ckE S N (chk S N n) sc f, fun sc f => ckA N (chk S N n) sc f, fun sc => ckS S N (chk S N n) sc⟩
end Mp
end

section
set_option Elab.async false
set_option linter.all false
set_option maxRecDepth 100000
set_option maxHeartbeats 4000000
/-! Mp21: what is checked is read. -/
namespace Mp
open PySem PySem.Spec PyProof.Rows L2

theorem not_str {x y : PySem.Str} (h : (!(strEq x y)) = true) : x ≠ y := fun e => by
  rw [strEq_iff.mpr e] at h
  cases h
theorem not_beq {i j : Nat} (h : (!(Nat.beq i j)) = true) : i ≠ j := fun e => by
  subst e
  rw [Nat.beq_refl] at h
  cases h
/-- the module's constants -/
def ConsAt (S : SD) (K : PySem.W.Frag) (mg : PySem.Str → Option Value) : Prop := ∀ c v, S.P.con[c]? = some v → S.cnm c ≠ "" → ∃ u w, mg (S.cnm c) = some u ∧ RelV w u ∧ ∀ ι B H, RV K S.CA ι B H v w
/-- the classes' names -/
def ClsAt (S : SD) (mg : PySem.Str → Option Value) : Prop := ∀ c, c < S.P.cls.length → S.knm c ≠ "" → mg (S.knm c) = some (.ref (S.CA c))
structure Ctx (S : SD) (C : CT) (kd : Nat) (N : List PySem.Str) (sc : Scope) (fsc : Option Scope) (W : WX) (X : Cx) : Prop where
  eN : X.N = N
  esc : X.env.scope = sc
  fnc : ∀ x, locC sc fsc x = true → Loc sc x ∧ (X.fn x = true ∨ sc.names.lookup x = some .local)
  nd : N.Nodup
  cf : CF S X
  tk : L2.Takes X W
  rm : Room (kd + 1) X.A
  fns : FnsAt S X.prog X.w X.K X.mg X.base C kd
  con : ConsAt S X.K X.mg
  cls : ClsAt S X.mg
section
variable {S : SD} {C : CT} {kd : Nat} {N : List PySem.Str} {sc : Scope} {fsc : Option Scope} {W : WX} {X : Cx} {E : Ev} {k : Ck}
theorem Ctx.gl (c : Ctx S C kd N sc fsc W X) {x : PySem.Str} (h : glC sc x = true) : Gl X x := by
  have h2 := glC_ok h
  rw [← c.esc] at h2
  exact h2
theorem Ctx.vis (c : Ctx S C kd N sc fsc W X) {x : PySem.Str} (h : visC sc x = true) : Vis X.env.scope x := by
  rw [c.esc]
  exact visC_ok h
theorem Ctx.at_ (c : Ctx S C kd N sc fsc W X) {i : Nat} {x : PySem.Str} (h : nmAt N i x = true) : X.N[i]? = some x := by
  rw [c.eN]
  exact nmAt_ok h
theorem Ctx.nd' (c : Ctx S C kd N sc fsc W X) : X.N.Nodup := by
  rw [c.eN]
  exact c.nd
theorem Ctx.loc (c : Ctx S C kd N sc fsc W X) {x : PySem.Str} (h : locC sc fsc x = true) : Loc X.env.scope x ∧ (X.fn x = true ∨ X.env.scope.names.lookup x = some .local) := by
  rw [c.esc]
  exact c.fnc x h
theorem Ctx.lc (c : Ctx S C kd N sc fsc W X) {x : PySem.Str} (h : plainL sc x = true) : X.env.scope.names.lookup x = some .local := by
  rw [c.esc]
  exact plainL_ok h
theorem Ctx.blk (c : Ctx S C kd N sc fsc W X) (scope : Scope) (s : Shared) (H : Hp) (Ca : Addr) (cl : List (PySem.Str × Addr)) (fp : List Addr) : Ctx S C kd N (relS scope sc) (some scope) W0 (BX X scope s H Ca cl fp) where
  eN := c.eN
  esc := by
    rw [← c.esc]
    rfl
  fnc := fun x h => by
    unfold locC at h
    rw [lookN_eq] at h
    split at h
    · rename_i hl
      exact ⟨.inl hl, .inr hl⟩
    · rename_i hl
      dsimp only at h
      rw [lookN_eq] at h
      split at h
      · rename_i hl2
        refine ⟨.inr hl, .inl ?_⟩
        show (scope.names.lookup x == some .cell) = true
        rw [hl2]
        rfl
      · cases h
    · cases h
  nd := c.nd
  cf := ⟨c.cf.hu, c.cf.calm, c.cf.mg, c.cf.kf⟩
  tk := L2.takes0
  rm := c.rm
  fns := c.fns
  con := c.con
  cls := c.cls
/-- what a checker's level is known to read -/
structure Ok (S : SD) (C : CT) (kd : Nat) (N : List PySem.Str) (k : Ck) (E : Ev) : Prop where
  e : ∀ sc fsc W X e m, Ctx S C kd N sc fsc W X → k.e sc fsc e m = true → RE S X W (E.e m) e
  a : ∀ sc fsc W X e m, Ctx S C kd N sc fsc W X → k.a sc fsc e m = true → PG X e (tG S X.K (E.asg m) (slotsT m))
variable (O : Ok S C kd N k E) (c : Ctx S C kd N sc fsc W X)
include O c
theorem args_ok : ∀ {es : List Expr} {ms : List ME}, argsC k sc fsc es ms = true → es.all plE = true ∧ es.length = ms.length ∧ PA X es (tEs S X.K W (evArgs E ms))
  | [], [], _ => ⟨rfl, rfl, a_nil⟩
  | [], _ :: _, h => by cases h
  | _ :: _, [], h => by cases h
  | e :: es, m :: ms, h => by
    unfold argsC at h
    rw [Bool.and_eq_true, Bool.and_eq_true] at h
    obtain ⟨⟨h1, h2⟩, h3⟩ := h
    obtain ⟨i1, i2, i3⟩ := args_ok h3
    exact ⟨by rw [List.all_cons, h1, i1]; rfl, by rw [List.length_cons, List.length_cons, i2], a_cons h1 (O.e _ _ _ _ _ _ c h2).v i3⟩
theorem stars_ok : ∀ {es : List Expr} {ms : List (Bool × ME)}, starsC k sc fsc es ms = true → PA X es (tEs S X.K W (evStars E ms))
  | [], [], _ => st_nil
  | [], _ :: _, h => by simp [starsC] at h
  | _ :: _, [], h => by
    unfold starsC at h
    split at h <;> simp_all
  | e :: es, (b, m) :: ms, h => by
    unfold starsC at h
    split at h
    · rename_i h1 h2
      cases h1
    · rename_i e' p es' m' ms' h1 h2
      cases h1
      cases h2
      rw [Bool.and_eq_true] at h
      exact st_star (O.e _ _ _ _ _ _ c h.1).v (stars_ok h.2)
    · rename_i e' es' m' ms' h0 h1 h2
      cases h1
      cases h2
      rw [Bool.and_eq_true, Bool.and_eq_true] at h
      obtain ⟨⟨h1, h2⟩, h3⟩ := h
      exact st_cons h1 (O.e _ _ _ _ _ _ c h2).v (stars_ok h3)
    · cases h
theorem all_ok : ∀ {es : List Expr} {ms : List ME}, allC k sc fsc es ms = true → AllE (fun e m => RE S X W (E.e m) e) es ms
  | [], [], _ => .nil
  | [], _ :: _, h => by cases h
  | _ :: _, [], h => by cases h
  | e :: es, m :: ms, h => by
    unfold allC at h
    rw [Bool.and_eq_true] at h
    exact .cons (O.e _ _ _ _ _ _ c h.1) (all_ok h.2)
theorem opt_ok {e : Option Expr} {m : Option ME} (h : optC k sc fsc e m = true) : PO X e (tO S X.K W REq (evOpt E m)) := by
  cases e with
  | none =>
    cases m with
    | none => exact o_none
    | some m => cases h
  | some e =>
    cases m with
    | none => cases h
    | some m => exact o_some (O.e _ _ _ _ _ _ c h).v
theorem pairs_okC : ∀ {xs : List (Option Expr)} {ys : List Expr} {ms ns : List ME}, pairsC k sc fsc xs ys ms ns = true → ∃ trs, AllP S X W E xs ys ms ns trs
  | xs, ys, ms, ns, h => by
    unfold pairsC at h
    split at h
    · exact ⟨_, .nil⟩
    · rename_i x xs' y ys' m ms' n ns'
      rw [Bool.and_eq_true, Bool.and_eq_true] at h
      obtain ⟨⟨h1, h2⟩, h3⟩ := h
      obtain ⟨trs, r⟩ := pairs_okC h3
      exact ⟨_, .cons (O.e _ _ _ _ _ _ c h1).v (O.e _ _ _ _ _ _ c h2).v r⟩
    · cases h
theorem tgs_ok : ∀ {es : List Expr} {ms : List MT}, tgsC k sc fsc es ms = true → AllG X S E es ms
  | [], [], _ => .nil
  | [], _ :: _, h => by cases h
  | _ :: _, [], h => by cases h
  | e :: es, m :: ms, h => by
    unfold tgsC at h
    rw [Bool.and_eq_true, Bool.and_eq_true] at h
    exact .cons h.1.1 (O.a _ _ _ _ _ _ c h.1.2) (tgs_ok h.2)
theorem it_ok {tg it : Expr} {m : MI} (h : itC k sc fsc tg it m = true) : PI X tg it (tI S X W (evIt E m)) := by
  unfold itC at h
  split at h
  · rw [Bool.and_eq_true] at h
    exact i_seq (O.e _ _ _ _ _ _ c h.2).v
  · split at h
    · rw [Bool.and_eq_true, Bool.and_eq_true, Bool.and_eq_true] at h
      obtain ⟨⟨⟨h1, h2⟩, h3⟩, h4⟩ := h
      have e1 := strEq_iff.mp h1
      subst e1
      exact i_rng1 c.cf (c.gl h2) h3 (O.e _ _ _ _ _ _ c h4).v
    · cases h
  · split at h
    · simp only [Bool.and_eq_true] at h
      obtain ⟨⟨⟨⟨⟨h1, h2⟩, h3⟩, h4⟩, h5⟩, h6⟩ := h
      have e1 := strEq_iff.mp h1
      subst e1
      exact i_rng2 c.cf (c.gl h2) h3 h4 (O.e _ _ _ _ _ _ c h5).v (O.e _ _ _ _ _ _ c h6).v
    · cases h
  · rw [Bool.and_eq_true] at h
    obtain ⟨ht, h⟩ := h
    split at h
    · simp only [Bool.and_eq_true] at h
      obtain ⟨⟨⟨h1, h2⟩, h3⟩, h4⟩ := h
      have e1 := strEq_iff.mp h1
      subst e1
      cases tg <;> first | (cases ht; done) | exact i_enum c.cf (c.gl h2) h3 (O.e _ _ _ _ _ _ c h4).v
    · cases h
  · rw [Bool.and_eq_true] at h
    obtain ⟨ht, h⟩ := h
    split at h
    · simp only [Bool.and_eq_true] at h
      obtain ⟨⟨⟨⟨⟨h1, h2⟩, h3⟩, h4⟩, h5⟩, h6⟩ := h
      have e1 := strEq_iff.mp h1
      subst e1
      cases tg <;> first | (cases ht; done) | exact i_zip c.cf (c.gl h2) h3 h4 (O.e _ _ _ _ _ _ c h5).v (O.e _ _ _ _ _ _ c h6).v
    · cases h
  · cases h
omit O c in
theorem ifs_okC (O : Ok S C kd N k E) {sc' : Scope} {f' : Option Scope} {X' : Cx} (c : Ctx S C kd N sc' f' W0 X') {es : List Expr} {ms : List ME} (h : ifsC k sc' f' es ms = true) : AllF S X' E es ms := by
  unfold ifsC at h
  split at h
  · exact .nil
  · exact .one (O.e _ _ _ _ _ _ c h)
  · cases h
omit O c in
theorem subN_ok : ∀ {as vs : List Nat}, subN as vs = true → ∀ i, i ∈ as → i ∈ vs
  | [], _, _, i, h => absurd h List.not_mem_nil
  | a :: as, vs, h, i, hi => by
    unfold subN at h
    rw [Bool.and_eq_true] at h
    rcases List.mem_cons.mp hi with e | hi
    · obtain ⟨b, hb, e2⟩ := List.any_eq_true.mp h.1
      rw [e, Nat.eq_of_beq_eq_true e2]
      exact hb
    · exact subN_ok h.2 i hi
omit O c in
theorem own_map (N : List PySem.Str) (vs : List Nat) : (ownOf N vs).map (·.2) = vs := by
  unfold ownOf
  rw [List.map_map]
  exact List.map_id vs
theorem lc_okC {elt tg iter : Expr} {ifs : List Expr} {scope : Scope} {vs : List Nat} {e : ME} {t : MT} {it : MI} {mifs : List ME} (h : lcC N k sc fsc elt tg iter ifs scope vs e t it mifs = true) : LcOk S X W E e t it mifs vs elt tg iter ifs scope := by
  unfold lcC at h
  simp only [Bool.and_eq_true] at h
  obtain ⟨⟨⟨⟨⟨⟨h1, h2⟩, h3⟩, h4⟩, h5⟩, h6⟩, h7⟩ := h
  exact ⟨⟨ownOf N vs, own_map N vs, by rw [c.eN, c.esc]; exact h1⟩, subN_ok h2, it_ok O c h4, fun s H Ca cl fp => O.a _ _ _ _ _ _ (c.blk scope s H Ca cl fp) h5, fun s H Ca cl fp => ifs_okC O (c.blk scope s H Ca cl fp) h6, fun s H Ca cl fp => (O.e _ _ _ _ _ _ (c.blk scope s H Ca cl fp) h7).v, folded_pl h3 X.env⟩
theorem dc_okC {kx vx tg iter : Expr} {ifs : List Expr} {scope : Scope} {vs : List Nat} {ek ev : ME} {t : MT} {it : MI} {mifs : List ME} (h : dcC N k sc fsc kx vx tg iter ifs scope vs ek ev t it mifs = true) : DcOk S X W E ek ev t it mifs vs kx vx tg iter ifs scope := by
  unfold dcC at h
  simp only [Bool.and_eq_true] at h
  obtain ⟨⟨⟨⟨⟨⟨⟨h1, h2⟩, h3⟩, h4⟩, h5⟩, h6⟩, h7⟩, h8⟩ := h
  exact ⟨⟨ownOf N vs, own_map N vs, by rw [c.eN, c.esc]; exact h1⟩, subN_ok h2, it_ok O c h4, fun s H Ca cl fp => O.a _ _ _ _ _ _ (c.blk scope s H Ca cl fp) h5, fun s H Ca cl fp => ifs_okC O (c.blk scope s H Ca cl fp) h6, fun s H Ca cl fp => (O.e _ _ _ _ _ _ (c.blk scope s H Ca cl fp) h7).v, fun s H Ca cl fp => (O.e _ _ _ _ _ _ (c.blk scope s H Ca cl fp) h8).v, folded_pl h3 X.env⟩
theorem ty_ok {e : Expr} {t : Ty} (h : tyC S sc e t = true) : plE e = true ∧ tIn S.P.cls.length t ∧ PE X e (tC (tyV S.CA t)) := by
  unfold tyC at h
  split at h
  · rename_i x px
    rw [Bool.and_eq_true] at h
    obtain ⟨hg, h⟩ := h
    have hgl := c.gl hg
    refine ⟨rfl, ?_⟩
    cases t with
    | own cc =>
      simp only [Bool.and_eq_true] at h
      obtain ⟨⟨⟨h1, h2⟩, h3⟩, h4⟩ := h
      have e1 := strEq_iff.mp h1
      subst e1
      have hlt : cc < S.P.cls.length := Nat.blt_eq.mp h3
      have ne : S.knm cc ≠ "" := not_str h4
      exact ⟨hlt, pe_glob hgl (c.cls cc hlt ne) rfl (noDbg_ok h2).1⟩
    | int =>
      have e1 := strEq_iff.mp h
      subst e1
      exact ⟨trivial, pe_tyB c.cf (by decide +kernel) hgl bt_int (by decide) (by decide)⟩
    | str =>
      have e1 := strEq_iff.mp h
      subst e1
      exact ⟨trivial, pe_tyB c.cf (by decide +kernel) hgl bt_str (by decide) (by decide)⟩
    | bool =>
      have e1 := strEq_iff.mp h
      subst e1
      exact ⟨trivial, pe_tyB c.cf (by decide +kernel) hgl bt_bool (by decide) (by decide)⟩
    | tuple =>
      have e1 := strEq_iff.mp h
      subst e1
      exact ⟨trivial, pe_tyB c.cf (by decide +kernel) hgl bt_tuple (by decide) (by decide)⟩
    | list =>
      have e1 := strEq_iff.mp h
      subst e1
      exact ⟨trivial, pe_tyB c.cf (by decide +kernel) hgl bt_list (by decide) (by decide)⟩
    | dict =>
      have e1 := strEq_iff.mp h
      subst e1
      exact ⟨trivial, pe_tyB c.cf (by decide +kernel) hgl bt_dict (by decide) (by decide)⟩
  · cases h
theorem blt_ok {b : Blt} {m : Bool} {f : PySem.Str} {px pos : Pos} {es : List Expr} {ms : List ME} (h1 : bltC b f = true) (h2 : glC sc f = true) (h3 : (!es.isEmpty) = true) (h4 : argsC k sc fsc es ms = true) :
    PE X (.Call (.Name f px) es [] pos) (tE S X.K W fun ρ M => (evArgs E ms ρ M).bind fun xs M1 => bltF b m xs M1) := by
  obtain ⟨a1, a2, a3⟩ := args_ok O c h4
  have hg := c.gl h2
  cases es with
  | nil => cases h3
  | cons ea es =>
    cases b <;> first | (cases h1; done) | skip
    all_goals
      have e1 := strEq_iff.mp h1
      subst e1
    · exact x_len c.cf hg a1 a3
    · exact x_list c.cf hg a1 a3
    · exact x_tuple c.cf hg a1 a3
    · exact x_sorted c.cf hg a1 a3
    · exact x_sum c.cf hg a1 a3
    · exact x_min2 c.cf hg a1 a3
    · exact x_max2 c.cf hg a1 a3
    · exact x_all c.cf hg a1 a3
    · exact x_any c.cf hg a1 a3
    · exact x_int c.cf hg a1 a3
theorem ck_e {e : Expr} {m : ME} (h : ckE S N k sc fsc e m = true) : RE S X W (fun ρ M => stepE S.P E C m ρ M) e := by
  have hu := c.cf.hu
  cases m with
  | var i =>
    unfold ckE at h
    dsimp only at h
    split at h
    · simp only [Bool.and_eq_true] at h
      exact r_val (e_var (c.at_ h.1.1) (c.vis h.1.2) (noDbg_ok h.2).1 (noDbg_ok h.2).2) rfl
    · cases h
  | lit v =>
    unfold ckE at h
    dsimp only at h
    split at h
    · refine r_val ?_ rfl
      unfold litC at h
      split at h
      · exact e_lit pe_non fun _ _ _ => .non
      · have e1 := eq_of_beq h
        subst e1
        exact e_lit pe_bl fun _ _ _ => .bl _
      · have e1 := of_decide_eq_true h
        subst e1
        exact e_lit pe_int fun _ _ _ => .int _
      · have e1 := strEq_iff.mp h
        subst e1
        exact e_lit pe_str fun _ _ _ => .str _
      · cases h
    · cases h
  | con ci =>
    unfold ckE at h
    dsimp only at h
    split at h
    · simp only [Bool.and_eq_true] at h
      obtain ⟨⟨⟨⟨h1, h2⟩, h3⟩, h5⟩, h4⟩ := h
      split at h4
      · rename_i v hv
        have e1 := strEq_iff.mp h1
        obtain ⟨u, w, g1, g2, g3⟩ := c.con ci v hv (fun z => by
          rw [e1, strEq_iff.mpr z] at h5
          cases h5)
        subst e1
        have q : stepE S.P E C (.con ci) = fun _ M => Out.val v M := funext fun ρ => funext fun M => by
          show (match S.P.con[ci]? with | some v => Out.val v M | none => .stuck) = _
          rw [hv]
        refine r_val ?_ rfl
        show PE X _ (tE S X.K W (stepE S.P E C (.con ci)))
        rw [q]
        exact e_lit (pe_glob (c.gl h2) g1 g2 (noDbg_ok h3).1) g3
      · cases h4
    · cases h
  | tup es =>
    unfold ckE at h
    dsimp only at h
    split at h
    · exact r_val (e_tup (stars_ok O c h)) rfl
    · cases h
  | lst b es =>
    unfold ckE at h
    dsimp only at h
    split at h
    · exact r_val (e_lst (stars_ok O c h)) rfl
    · cases h
  | bin o b x y =>
    unfold ckE at h
    dsimp only at h
    split at h
    · simp only [Bool.and_eq_true] at h
      obtain ⟨⟨h1, h2⟩, h3⟩ := h
      have r1 := (O.e _ _ _ _ _ _ c h2).v
      have r2 := (O.e _ _ _ _ _ _ c h3).v
      refine r_val ?_ rfl
      unfold opB at h1
      split at h1
      · exact e_add r1 r2
      · exact e_sub r1 r2
      · exact e_mul r1 r2
      · exact e_fdiv r1 r2
      · exact e_mod r1 r2
      · cases h1
    · cases h
  | neg a =>
    unfold ckE at h
    dsimp only at h
    split at h
    · exact r_val (e_neg (O.e _ _ _ _ _ _ c h).v) rfl
    · cases h
  | cmp o a b =>
    unfold ckE at h
    dsimp only at h
    split at h
    · simp only [Bool.and_eq_true] at h
      obtain ⟨⟨⟨h1, h2⟩, h3⟩, h4⟩ := h
      have e1 := cmpB_ok h1
      subst e1
      exact r_cmp hu (O.e _ _ _ _ _ _ c h3).v (O.e _ _ _ _ _ _ c h4).v (marks_pl h2 _)
    · cases h
  | chain o o' a b d =>
    unfold ckE at h
    dsimp only at h
    split at h
    · simp only [Bool.and_eq_true] at h
      obtain ⟨⟨⟨⟨⟨h1, h2⟩, h3⟩, h4⟩, h5⟩, h6⟩ := h
      have e1 := cmpB_ok h1
      have e2 := cmpB_ok h2
      subst e1 e2
      exact r_chain hu (O.e _ _ _ _ _ _ c h4).v (O.e _ _ _ _ _ _ c h5).v (O.e _ _ _ _ _ _ c h6).v (marks_pl h3 _)
    · cases h
  | and ms =>
    unfold ckE at h
    dsimp only at h
    split at h
    · rw [Bool.and_eq_true] at h
      exact r_and (all_ok O c h.1) (by rintro rfl; cases h.2)
    · cases h
  | or ms =>
    unfold ckE at h
    dsimp only at h
    split at h
    · rw [Bool.and_eq_true] at h
      exact r_or (all_ok O c h.1) (by rintro rfl; cases h.2)
    · cases h
  | not a =>
    unfold ckE at h
    dsimp only at h
    split at h
    · exact r_not (O.e _ _ _ _ _ _ c h)
    · cases h
  | ite d a b =>
    unfold ckE at h
    dsimp only at h
    split at h
    · simp only [Bool.and_eq_true] at h
      exact r_ite (O.e _ _ _ _ _ _ c h.1.1) (O.e _ _ _ _ _ _ c h.1.2) (O.e _ _ _ _ _ _ c h.2)
    · cases h
  | idx a b =>
    unfold ckE at h
    dsimp only at h
    split at h
    · simp only [Bool.and_eq_true] at h
      exact r_val (e_idx (by omega) h.1.1 (O.e _ _ _ _ _ _ c h.1.2).v (O.e _ _ _ _ _ _ c h.2).v) rfl
    · cases h
  | slc a lo hi =>
    unfold ckE at h
    dsimp only at h
    split at h
    · simp only [Bool.and_eq_true] at h
      exact r_val (e_slc (O.e _ _ _ _ _ _ c h.1.1).v (opt_ok O c h.1.2) (opt_ok O c h.2)) rfl
    · cases h
  | att a f =>
    unfold ckE at h
    dsimp only at h
    split at h
    · simp only [Bool.and_eq_true] at h
      have e1 := strEq_iff.mp h.1.1
      subst e1
      exact r_val (e_att c.cf.kf (O.e _ _ _ _ _ _ c h.2).v (base_ok h.1.2 _ _)) rfl
    · cases h
  | isi a ts =>
    cases ts with
    | nil =>
      unfold ckE at h
      cases h
    | cons t ts =>
      cases ts with
      | cons t2 ts =>
        unfold ckE at h
        cases h
      | nil =>
        unfold ckE at h
        dsimp only at h
        split at h
        · simp only [Bool.and_eq_true] at h
          obtain ⟨⟨⟨⟨h1, h2⟩, h3⟩, h4⟩, h5⟩ := h
          have e1 := strEq_iff.mp h1
          subst e1
          obtain ⟨t1, t2, t3⟩ := ty_ok O c h5
          exact r_val (e_isi1 c.cf (c.gl h2) h3 t2 (O.e _ _ _ _ _ _ c h4).v t1 t3) rfl
        · cases h
  | call f p ms =>
    unfold ckE at h
    dsimp only at h
    split at h
    · simp only [Bool.and_eq_true] at h
      obtain ⟨⟨⟨⟨⟨h1, h2⟩, h3⟩, h4⟩, h5⟩, h6⟩ := h
      split at h6
      · rename_i g hg
        rw [Bool.and_eq_true] at h6
        have le1 := Nat.le_of_ble_eq_true h6.1
        have le2 := Nat.le_of_ble_eq_true h6.2
        have e1 := strEq_iff.mp h1
        subst e1
        obtain ⟨a1, a2, a3⟩ := args_ok O c h4
        have fn := c.fns.fn f g hg (not_str h5)
        have hr : Room kd X.A := c.rm.mono (Nat.le_succ kd)
        refine r_val ?_ rfl
        rename_i es _ _
        cases es with
        | nil =>
          cases ms with
          | nil => exact e_call0 c.tk hg fn hr (c.gl h2) (noDbg_ok h3).1 (by simpa using le2)
          | cons m ms => cases a2
        | cons ea es => exact e_call c.tk hg fn hr (c.gl h2) (noDbg_ok h3).1 le1 le2 a1 a3
      · cases h6
    · cases h
  | mk ci ms =>
    unfold ckE at h
    dsimp only at h
    split at h
    · rename_i x px es pos
      simp only [Bool.and_eq_true] at h
      obtain ⟨⟨⟨⟨⟨h1, h2⟩, h3⟩, h4⟩, h5⟩, h6⟩ := h
      split at h6
      · rename_i kl hkl
        split at h6
        · rename_i g hg
          rw [Bool.and_eq_true] at h6
          have le1 := Nat.le_of_ble_eq_true h6.1
          have le2 := Nat.le_of_ble_eq_true h6.2
          have e1 := strEq_iff.mp h1
          subst e1
          obtain ⟨a1, a2, a3⟩ := args_ok O c h4
          have cl := c.fns.cl ci kl g hkl hg (not_str h5)
          refine r_val ?_ rfl
          cases es with
          | nil =>
            cases ms with
            | nil => exact e_mk0 c.tk hkl hg cl c.rm (c.gl h2) (noDbg_ok h3).1 (by simpa using le1) (by simpa using le2)
            | cons m ms => cases a2
          | cons ea es => exact e_mk c.tk hkl hg cl c.rm (c.gl h2) (noDbg_ok h3).1 le1 le2 a1 a3
        · cases h6
      · cases h6
    · cases h
  | blt b bm ms =>
    have plain : ∀ (hb : ckE S N k sc fsc e (.blt b bm ms) = bltE k sc fsc b ms e), RE S X W (fun ρ M => stepE S.P E C (.blt b bm ms) ρ M) e := fun hb => by
      rw [hb] at h
      unfold bltE at h
      split at h
      · simp only [Bool.and_eq_true] at h
        exact r_val (blt_ok O c h.1.1.1 h.1.1.2 h.1.2 h.2) rfl
      · cases h
    cases b with
    | rlist =>
      unfold ckE at h
      dsimp only at h
      split at h
      · simp only [Bool.and_eq_true] at h
        obtain ⟨⟨⟨⟨⟨h1, h2⟩, h3⟩, h4⟩, h5⟩, h6⟩ := h
        have e1 := strEq_iff.mp h1
        have e2 := strEq_iff.mp h3
        subst e1 e2
        exact r_val (e_rlist c.cf (c.gl h2) (c.gl h4) h5 (O.e _ _ _ _ _ _ c h6).v) rfl
      · cases h
    | sset =>
      unfold ckE at h
      dsimp only at h
      split at h
      · simp only [Bool.and_eq_true] at h
        obtain ⟨⟨⟨⟨⟨h1, h2⟩, h3⟩, h4⟩, h5⟩, h6⟩ := h
        have e1 := strEq_iff.mp h1
        have e2 := strEq_iff.mp h3
        subst e1 e2
        exact r_val (x_sset c.cf (c.gl h2) (c.gl h4) h5 (O.e _ _ _ _ _ _ c h6).v) rfl
      · cases h
    | _ => exact plain rfl
  | bm o a ms =>
    cases o with
    | append =>
      unfold ckE at h
      dsimp only at h
      split at h
      · rename_i x f apos es cpos
        simp only [Bool.and_eq_true] at h
        obtain ⟨⟨⟨⟨⟨⟨h1, h2⟩, h3⟩, h4⟩, h5⟩, h6⟩, h7⟩ := h
        have e1 := strEq_iff.mp h1
        subst e1
        obtain ⟨a1, a2, a3⟩ := args_ok O c h7
        cases es with
        | nil => cases h4
        | cons eb es => exact r_val (e_append (O.e _ _ _ _ _ _ c h6).v a1 (Nat.blt_eq.mp h5) h2 (base_ok h3 _ _) a3) rfl
      · cases h
    | _ =>
      unfold ckE at h
      cases h
  | lc b vs el t it mifs =>
    unfold ckE at h
    dsimp only at h
    split at h
    · exact r_val ((lc_okC O c h).v c.cf.calm c.nd') rfl
    · cases h
  | dc b vs ek ev t it mifs =>
    unfold ckE at h
    dsimp only at h
    split at h
    · exact r_val ((dc_okC O c h).v c.cf.calm c.nd') rfl
    · cases h
  | dsp b ks vs =>
    unfold ckE at h
    dsimp only at h
    split at h
    · obtain ⟨trs, r⟩ := pairs_okC O c h
      exact r_val (e_dsp r) rfl
    · cases h
theorem ck_a {e : Expr} {m : MT} (h : ckA N k sc fsc e m = true) : PG X e (tG S X.K (fun x ρ M => stepA S.P E m x ρ M) (slotsT m)) := by
  cases m with
  | nm i =>
    unfold ckA at h
    dsimp only at h
    split at h
    · rw [Bool.and_eq_true] at h
      obtain ⟨l1, l2⟩ := c.loc h.2
      exact g_nm c.nd' (c.at_ h.1) l1 l2
    · cases h
  | tup ms =>
    unfold ckA at h
    dsimp only at h
    split at h
    · exact g_tup c.cf.calm (tgs_ok O c h)
    · cases h
  | sub a i =>
    unfold ckA at h
    dsimp only at h
    split at h
    · simp only [Bool.and_eq_true] at h
      have hu := c.cf.hu
      exact g_sub (W := W) (by omega) h.1.1 (O.e _ _ _ _ _ _ c h.1.2).v (O.e _ _ _ _ _ _ c h.2).v
    · cases h
  | att a f => cases h
end
theorem ok0 {S : SD} {C : CT} {kd : Nat} {N : List PySem.Str} : Ok S C kd N (chk S N 0) ev0 := ⟨fun _ _ _ _ _ _ _ h => absurd (show false = true from h) Bool.false_ne_true, fun _ _ _ _ _ _ _ h => absurd (show false = true from h) Bool.false_ne_true⟩
/-- every level -/
theorem ok_all {S : SD} {C : CT} {kd : Nat} {N : List PySem.Str} : ∀ n, Ok S C kd N (chk S N n) (evT0 S.P C n)
  | 0 => ok0
  | n + 1 => ⟨fun _ _ _ _ _ _ c h => ck_e (ok_all n) c h, fun _ _ _ _ _ _ c h => ck_a (ok_all n) c h⟩
end Mp
end

section
set_option Elab.async false
set_option linter.all false
set_option maxRecDepth 100000
set_option maxHeartbeats 4000000
/-! Mp22: statements that are checked are read; defs keep what the evaluator tells of them. -/
namespace Mp
open PySem PySem.Spec PyProof.Rows L2

structure OkS (S : SD) (C : CT) (kd : Nat) (N : List PySem.Str) (k : Ck) (E : Ev) : Prop where
  s : ∀ sc W X st m, Ctx S C kd N sc none W X → sc.kind = .function → PassesOwn (model X.prog X.w) X.A X.env X.xe → k.s sc st m = true → PS X st (tS S X.K W (E.s m))
theorem ok_lc {S : SD} {C : CT} {kd : Nat} {N : List PySem.Str} {sc : Scope} {W : WX} {X : Cx} (c : Ctx S C kd N sc none W X) {n : Nat} {elt : Expr} {gs : List Comprehension} {scope : Scope} {cpos : Pos} {b : Bool} {vs : List Nat} {el : ME} {t : MT} {it : MI} {mifs : List ME}
    (h : (chk S N n).e sc none (.ListComp elt gs scope cpos) (.lc b vs el t it mifs) = true) : ∃ n' tg iter ifs, n = n' + 1 ∧ gs = [⟨tg, iter, ifs, 0⟩] ∧ LcOk S X W (evT0 S.P C n') el t it mifs vs elt tg iter ifs scope := by
  cases n with
  | zero => exact absurd (show false = true from h) Bool.false_ne_true
  | succ n =>
    replace h : ckE S N (chk S N n) sc none (.ListComp elt gs scope cpos) (.lc b vs el t it mifs) = true := h
    unfold ckE at h
    dsimp only at h
    split at h
    · rename_i h0
      cases h0
      exact ⟨n, _, _, _, rfl, rfl, lc_okC (ok_all n) c h⟩
    · cases h
theorem ok_dc {S : SD} {C : CT} {kd : Nat} {N : List PySem.Str} {sc : Scope} {W : WX} {X : Cx} (c : Ctx S C kd N sc none W X) {n : Nat} {kx vx : Expr} {gs : List Comprehension} {scope : Scope} {cpos : Pos} {b : Bool} {vs : List Nat} {ek ev : ME} {t : MT} {it : MI} {mifs : List ME}
    (h : (chk S N n).e sc none (.DictComp kx vx gs scope cpos) (.dc b vs ek ev t it mifs) = true) : ∃ n' tg iter ifs, n = n' + 1 ∧ gs = [⟨tg, iter, ifs, 0⟩] ∧ DcOk S X W (evT0 S.P C n') ek ev t it mifs vs kx vx tg iter ifs scope := by
  cases n with
  | zero => exact absurd (show false = true from h) Bool.false_ne_true
  | succ n =>
    replace h : ckE S N (chk S N n) sc none (.DictComp kx vx gs scope cpos) (.dc b vs ek ev t it mifs) = true := h
    unfold ckE at h
    dsimp only at h
    split at h
    · rename_i h0
      cases h0
      exact ⟨n, _, _, _, rfl, rfl, dc_okC (ok_all n) c h⟩
    · cases h
theorem sw_trueD {kx vx : Expr} {gs : List Comprehension} {scope : Scope} {pos py : Pos} {y : PySem.Str} {l : Nat} {env : Env} (hk : env.scope.kind = .function) (hy : env.scope.names.lookup y = some .local) (hl : (py.line == pos.line) = true) (ha : shadows scope y = false) :
    swapsWith (.DictComp kx vx gs scope pos) (some (.Name y py)) l env = pure true := by
  have ky : env.kindOf y = some .local := hy
  have hb : env.blockKind = .function := by unfold Env.blockKind; rw [hk]; rfl
  unfold shadows at ha
  unfold swapsWith
  simp only [hb, ky, ha, Expr.pos, hl]
  rfl
theorem sw_cellL {elt : Expr} {gs : List Comprehension} {scope : Scope} {pos py : Pos} {y : PySem.Str} {l : Nat} {env : Env} (hy : (env.scope.names.lookup y == some .local) = false) : swapsWith (.ListComp elt gs scope pos) (some (.Name y py)) l env = pure false := by
  have ky : (env.kindOf y == some .local) = false := hy
  unfold swapsWith
  simp only [ky, Bool.and_false, Bool.false_and]
theorem sw_cellD {kx vx : Expr} {gs : List Comprehension} {scope : Scope} {pos py : Pos} {y : PySem.Str} {l : Nat} {env : Env} (hy : (env.scope.names.lookup y == some .local) = false) : swapsWith (.DictComp kx vx gs scope pos) (some (.Name y py)) l env = pure false := by
  have ky : (env.kindOf y == some .local) = false := hy
  unfold swapsWith
  simp only [ky, Bool.and_false, Bool.false_and]
theorem notPlain {sc : Scope} {x : PySem.Str} (h : plainL sc x = false) : (sc.names.lookup x == some .local) = false := by
  unfold plainL at h
  rw [lookN_eq] at h
  split at h
  · cases h
  · rename_i h2
    cases q : sc.names.lookup x with
    | none => rfl
    | some k => cases k <;> first | rfl | exact absurd q h2
theorem not_true {b : Bool} (h : (!b) = true) : b = false := by
  cases b
  · rfl
  · cases h
section
variable {S : SD} {C : CT} {kd : Nat} {N : List PySem.Str} {sc : Scope} {W : WX} {X : Cx} {n : Nat}
theorem sts_ok (OS : OkS S C kd N (chk S N n) (evT0 S.P C n)) (c : Ctx S C kd N sc none W X) (hkind : sc.kind = .function) (hp : PassesOwn (model X.prog X.w) X.A X.env X.xe) : ∀ {xs : List Stmt} {ms : List MS}, stsC (chk S N n) sc xs ms = true → AllS (fun st m => PS X st (tS S X.K W ((evT0 S.P C n).s m))) xs ms
  | [], [], _ => .nil
  | [], _ :: _, h => by cases h
  | _ :: _, [], h => by cases h
  | x :: xs, m :: ms, h => by
    unfold stsC at h
    rw [Bool.and_eq_true] at h
    exact .cons (OS.s _ _ _ _ _ c hkind hp h.1) (sts_ok OS c hkind hp h.2)
theorem sw_okC {tg e : Expr} {env : Env} (he : env.scope = sc) (h : swC sc tg e = true) : swappedStores [tg] e env = pure none := by
  unfold swC at h
  split at h
  · split at h
    · refine sw_none ?_
      rw [he]
      simp only [Bool.or_eq_true] at h
      rcases h with ((h | h) | h) | h
      · exact .inl (not_true h)
      · exact .inr (.inl (fun e => by rw [e, Nat.beq_refl] at h; cases h))
      · exact .inr (.inr (.inl h))
      · exact .inr (.inr (.inr h))
    · rename_i h0
      cases e <;> first | rfl | exact absurd rfl (h0 _ _ _)
  · cases h
  · rename_i h1 h2
    cases tg <;> first | exact absurd rfl (h1 _ _ _) | exact absurd rfl (h2 _ _) | (cases e <;> rfl)
theorem asg_ok (O : Ok S C kd N (chk S N n) (evT0 S.P C n)) (c : Ctx S C kd N sc none W X) {t : MT} {a : ME} {tg e : Expr} {pos : Pos} (h : (plE tg && (noComp e || noName tg) && swC sc tg e && (chk S N n).e sc none e a && (chk S N n).a sc none tg t) = true) :
    PS X (.Assign [tg] e pos) (tS S X.K W (evAsg (evT0 S.P C n) t a)) := by
  simp only [Bool.and_eq_true, Bool.or_eq_true] at h
  obtain ⟨⟨⟨⟨h1, h2⟩, h3⟩, h4⟩, h5⟩ := h
  exact s_asg h1 h2 (sw_okC c.esc h3) (O.e _ _ _ _ _ _ c h4).v (O.a _ _ _ _ _ _ c h5)
theorem ck_s (O : Ok S C kd N (chk S N n) (evT0 S.P C n)) (OS : OkS S C kd N (chk S N n) (evT0 S.P C n)) (hkind : sc.kind = .function) (c : Ctx S C kd N sc none W X) (hp : PassesOwn (model X.prog X.w) X.A X.env X.xe) {st : Stmt} {m : MS} (h : ckS S N (chk S N n) sc st m = true) :
    PS X st (tS S X.K W (stepS (evT0 S.P C n) m)) := by
  have hk : X.env.scope.kind = .function := by rw [c.esc]; exact hkind
  have hnm : ∀ {n0}, n = n0 + 1 → ∀ i, (evT0 S.P C n).asg (.nm i) = fun x ρ M => if i < ρ.length then .val (ρ.set i (some x)) M else .stuck := fun {n0} hn0 i => by
    subst hn0
    rfl
  cases m with
  | expr a =>
    unfold ckS at h
    dsimp only at h
    split at h
    · rw [Bool.and_eq_true] at h
      exact s_expr h.1 (O.e _ _ _ _ _ _ c h.2).v
    · cases h
  | asg t a =>
    have gen : asgC (chk S N n) sc t a st = true → PS X st (tS S X.K W (evAsg (evT0 S.P C n) t a)) := fun h => by
      unfold asgC at h
      split at h
      · exact asg_ok O c h
      · cases h
    cases t with
    | nm i =>
      cases a with
      | lc b vs el t it mifs =>
        unfold ckS at h
        dsimp only at h
        split at h
        · rename_i x px elt gs scope cpos spos
          simp only [Bool.and_eq_true] at h
          obtain ⟨⟨h1, h2⟩, h5⟩ := h
          rcases Bool.or_eq_true_iff.mp h2 with h2 | h2
          · simp only [Bool.and_eq_true] at h2
            obtain ⟨⟨h2, h3⟩, h4⟩ := h2
            obtain ⟨n', tg, iter, ifs, e1, e2, q⟩ := ok_lc c h5
            subst e2
            have hl := c.lc h2
            exact s_asgLc (m := b) (hnm e1 i) (by subst e1; rfl) c.cf.calm c.nd' (c.at_ h1) hl (sw_true hk hl h3 (not_true h4)) q
          · rw [Bool.and_eq_true] at h2
            obtain ⟨n', tg, iter, ifs, e1, e2, q⟩ := ok_lc c h5
            obtain ⟨l1, l2⟩ := c.loc h2.2
            refine ps_imp (ps_asg (O.e _ _ _ _ _ _ c h5).v (g_nm (S := S) (pos := _) c.nd' (c.at_ h1) l1 l2) (sw_cellL (l := spos.line) (by rw [c.esc]; exact notPlain (not_true h2.1))) rfl rfl) fun D σ H hh => asg_imp (fun v σ H Q z => by rw [hnm e1 i] at z; exact z) (fun _ z => z) hh
        · cases h
      | dc b vs ek ev t it mifs =>
        unfold ckS at h
        dsimp only at h
        split at h
        · rename_i x px kx vx gs scope cpos spos
          simp only [Bool.and_eq_true] at h
          obtain ⟨⟨h1, h2⟩, h5⟩ := h
          rcases Bool.or_eq_true_iff.mp h2 with h2 | h2
          · simp only [Bool.and_eq_true] at h2
            obtain ⟨⟨h2, h3⟩, h4⟩ := h2
            obtain ⟨n', tg, iter, ifs, e1, e2, q⟩ := ok_dc c h5
            subst e2
            have hl := c.lc h2
            exact s_asgDc (m := b) (hnm e1 i) (by subst e1; rfl) c.cf.calm c.nd' (c.at_ h1) hl (sw_trueD hk hl h3 (not_true h4)) q
          · rw [Bool.and_eq_true] at h2
            obtain ⟨n', tg, iter, ifs, e1, e2, q⟩ := ok_dc c h5
            obtain ⟨l1, l2⟩ := c.loc h2.2
            refine ps_imp (ps_asg (O.e _ _ _ _ _ _ c h5).v (g_nm (S := S) (pos := _) c.nd' (c.at_ h1) l1 l2) (sw_cellD (l := spos.line) (by rw [c.esc]; exact notPlain (not_true h2.1))) rfl rfl) fun D σ H hh => asg_imp (fun v σ H Q z => by rw [hnm e1 i] at z; exact z) (fun _ z => z) hh
        · cases h
      | _ => exact gen h
    | att b f =>
      cases b with
      | var vi =>
        unfold ckS at h
        dsimp only at h
        split at h
        · simp only [Bool.and_eq_true] at h
          obtain ⟨⟨⟨⟨h1, h2⟩, h3⟩, h4⟩, h5⟩ := h
          have e1 := strEq_iff.mp h1
          subst e1
          obtain ⟨n0, hn0⟩ : ∃ n0, n = n0 + 1 := by
            cases n with
            | zero => exact absurd (show false = true from h2) Bool.false_ne_true
            | succ n0 => exact ⟨n0, rfl⟩
          have hatt : ∀ b fi x ρ M, (evT0 S.P C n).asg (.att b fi) x ρ M = stepA S.P (evT0 S.P C n0) (.att b fi) x ρ M := fun b fi x ρ M => by
            subst hn0
            rfl
          refine s_att (E2 := evT0 S.P C n0) c.cf.kf (fun x ρ M => hatt (.var vi) _ x ρ M) (O.e _ _ _ _ _ _ c h2).v ?_
          cases n0 with
          | zero => exact ⟨fun pins s σ H Q I ⟨F, ι, Z, M, ρ, s', l, p⟩ => p.elim⟩
          | succ n1 => exact e_var (c.at_ h3) (c.vis h4) (noDbg_ok h5).1 (noDbg_ok h5).2
        · cases h
      | _ =>
        unfold ckS at h
        cases h
    | _ => exact gen h
  | par ns ms =>
    cases ns with
    | nil =>
      unfold ckS at h
      cases h
    | cons i ns =>
      cases ns with
      | nil =>
        unfold ckS at h
        cases h
      | cons j ns =>
        cases ns with
        | nil =>
          unfold ckS at h
          dsimp only at h
          split at h
          · simp only [Bool.and_eq_true] at h
            obtain ⟨⟨⟨⟨⟨⟨⟨⟨⟨h1, h2⟩, h3⟩, h4⟩, h5⟩, h6⟩, h7⟩, h8⟩, h9⟩, ha⟩ := h
            obtain ⟨a1, a2, a3⟩ := args_ok O c ha
            have hxy : (_ == _) = false := (strEq_beq _ _).symm.trans (not_true h6)
            exact s_par2 c.cf.calm c.nd' (c.at_ h1) (c.at_ h2) (not_beq h7) (c.lc h3) (c.lc h4) (sw_two hk (c.lc h3) (c.lc h4) h5 hxy a1 (not_true h8) (not_true h9)) a3
          · cases h
        | cons l ns =>
          cases ns with
          | cons q ns =>
            unfold ckS at h
            cases h
          | nil =>
            unfold ckS at h
            dsimp only at h
            split at h
            · simp only [Bool.and_eq_true] at h
              obtain ⟨⟨⟨⟨⟨⟨⟨⟨⟨⟨⟨⟨⟨⟨⟨⟨h1, h2⟩, h3⟩, h4⟩, h5⟩, h6⟩, h7⟩, h8⟩, h9⟩, hb⟩, hc⟩, hd⟩, he⟩, hf⟩, hg⟩, hh⟩, ha⟩ := h
              obtain ⟨a1, a2, a3⟩ := args_ok O c ha
              have hxy : (_ == _) = false := (strEq_beq _ _).symm.trans (not_true h9)
              have hxz : (_ == _) = false := (strEq_beq _ _).symm.trans (not_true hb)
              have hyz : (_ == _) = false := (strEq_beq _ _).symm.trans (not_true hc)
              exact s_par3 c.cf.calm c.nd' (c.at_ h1) (c.at_ h2) (c.at_ h3) (not_beq hd) (not_beq he) (not_beq hf) (c.lc h4) (c.lc h5) (c.lc h6) (sw_three hk (c.lc h4) (c.lc h5) (c.lc h6) h7 h8 hxy hxz hyz a1 (not_true hg) (not_true hh)) a3
            · cases h
  | aug i o a =>
    unfold ckS at h
    dsimp only at h
    split at h
    · simp only [Bool.and_eq_true] at h
      obtain ⟨⟨⟨h1, h2⟩, h3⟩, h4⟩ := h
      obtain ⟨l1, l2⟩ := c.loc h2
      have r := (O.e _ _ _ _ _ _ c h4).v
      split at h3
      · exact s_augA c.nd' (c.at_ h1) l1 l2 r
      · exact s_augS c.nd' (c.at_ h1) l1 l2 r
      · cases h3
    · cases h
  | ifs d A B =>
    unfold ckS at h
    dsimp only at h
    split at h
    · simp only [Bool.and_eq_true] at h
      exact s_if (O.e _ _ _ _ _ _ c h.1.1) (ss_ok (sts_ok OS c hkind hp h.1.2)) (ss_ok (sts_ok OS c hkind hp h.2))
    · cases h
  | whl d A =>
    unfold ckS at h
    dsimp only at h
    split at h
    · rw [Bool.and_eq_true] at h
      exact s_whl hp (O.e _ _ _ _ _ _ c h.1) (ss_ok (sts_ok OS c hkind hp h.2))
    · cases h
  | for_ t it A =>
    unfold ckS at h
    dsimp only at h
    split at h
    · simp only [Bool.and_eq_true] at h
      obtain ⟨⟨⟨h1, h2⟩, h3⟩, h4⟩ := h
      exact s_for hp c.cf.calm (it_ok O c h2) (O.a _ _ _ _ _ _ c h3) (ss_ok (sts_ok OS c hkind hp h4)) (folded_pl h1 X.env)
    · cases h
  | ret a =>
    unfold ckS at h
    dsimp only at h
    split at h
    · exact s_ret (O.e _ _ _ _ _ _ c h).v
    · cases h
  | retN =>
    unfold ckS at h
    dsimp only at h
    split at h
    · exact s_retN
    · cases h
  | pass =>
    unfold ckS at h
    dsimp only at h
    split at h
    · exact s_pass
    · cases h
  | brk =>
    unfold ckS at h
    dsimp only at h
    split at h
    · exact s_brk
    · cases h
  | cont =>
    unfold ckS at h
    dsimp only at h
    split at h
    · exact s_cont
    · cases h
  | bad => exact s_bad
end
end Mp
end

section
set_option Elab.async false
set_option linter.all false
set_option maxRecDepth 100000
set_option maxHeartbeats 4000000
/-! Mp23: all defs of a text keep what the evaluator tells of them, at every call depth. -/
namespace Mp
open PySem PySem.Spec PyProof.Rows L2

theorem oks0 {S : SD} {C : CT} {kd : Nat} {N : List PySem.Str} : OkS S C kd N (chk S N 0) ev0 := ⟨fun _ _ _ _ _ _ _ _ h => absurd (show false = true from h) Bool.false_ne_true⟩
theorem oks_all {S : SD} {C : CT} {kd : Nat} {N : List PySem.Str} : ∀ n, OkS S C kd N (chk S N n) (evT0 S.P C n)
  | 0 => oks0
  | n + 1 => ⟨fun _ _ _ _ _ c hk hp h => ck_s (ok_all n) (oks_all n) hk c hp h⟩
/-- a def as it is written, and as a term -/
structure DefOk (S : SD) (K : PySem.W.Frag) (n : Nat) (g : MFn) (fa : Addr) (fd : FuncData) (ps : List PySem.Str) : Prop where
  ex : ∃ x qual params body scope dvs kws N, FunD K x qual params body scope dvs kws fa fd ∧ FnScope N ps scope ∧ ps.length = g.np ∧ N.length = g.nl ∧ stsC (chk S N n) scope body g.body = true
/-- what a law's written part has to show -/
structure LawF (S : SD) (K : PySem.W.Frag) (mg : PySem.Str → Option Value) (n : Nat) : Prop where
  kf : KF S K
  mgb : ∀ x, x ∈ bltNames → mg x = none
  con : ConsAt S K mg
  cls : ClsAt S mg
  fn : ∀ f g, S.P.fns[f]? = some g → S.fnm f ≠ "" → ∃ fa fd ps, DefOk S K n g fa fd ps ∧ mg (S.fnm f) = some (.ref fa) ∧ PySem.W.keepIn K (.ref fa) = true ∧ ∀ m, m ≤ g.np → g.np ≤ m + g.dfl.length → BindAt S K fd ps g m
  cl : ∀ c k g, S.P.cls[c]? = some k → S.P.fns[k.init]? = some g → S.knm c ≠ "" → ∃ fa fd ps, DefOk S K n g fa fd ps ∧ mg (S.knm c) = some (.ref (S.CA c)) ∧ Mk K (S.CA c) fa ∧ ∀ m, m ≤ g.np → g.np ≤ m + g.dfl.length → BindAt S K fd ps g m
section
variable {S : SD} {P : Program} {w : World} {K : PySem.W.Frag} {mg : PySem.Str → Option Value} {base : Heap} {n : Nat}
/-- one def, over those that it calls -/
theorem fn_ok (L : LawF S K mg n) {kd d : Nat} (fns : FnsAt S P w K mg base (evC S.P n d) kd) {f : Nat} {g : MFn} (hf : S.P.fns[f]? = some g) {fa : Addr} {fd : FuncData} {ps : List PySem.Str} (D : DefOk S K n g fa fd ps) :
    FnOk P w K mg base (L2.CX P w) (kd + 2) fa fd ps (spC S K (evC S.P n (d + 1)) f) := by
  obtain ⟨x, qual, params, body, scope, dvs, kws, N, F, sc, h1, h2, h3⟩ := D.ex
  have ev : ∀ xs M, evC S.P n (d + 1) f xs M = if xs.length = g.np then runBody (evT0 S.P (evC S.P n d) n) g xs M else .stuck := fun xs M => by
    show (match S.P.fns[f]? with | some g => if xs.length = g.np then runBody (evT0 S.P (evC S.P n d) n) g xs M else .stuck | none => .stuck) = _
    rw [hf]
  have len : ∀ vs H Q E, spC S K (evC S.P n (d + 1)) f vs H Q E → vs.length = ps.length := fun vs H Q E ⟨F, ι, Z, M, xs, s, r, p⟩ => by
    rw [ev] at p
    split at p
    · rename_i hl
      rw [← r.length, hl, h1]
    · exact p.elim
  refine F.ok (CX := L2.CX P w) (k := kd + 1) sc len fun cdv A outer s H vs Q E hr hsp => ?_
  obtain ⟨F0, ι, Z, M, xs, sm, r, p⟩ := hsp
  rw [ev] at p
  split at p
  · rename_i hl
    let X := cxOf (L2.CX P w) P w K mg base N qual scope fa cdv A outer s H E
    let W : WX := fun cls d _ H' => E cls d H'
    have tk : L2.Takes X W := takes_of rfl rfl rfl rfl
    have hp : PassesOwn (model X.prog X.w) X.A X.env X.xe := passes_of rfl
    have c : Ctx S (evC S.P n d) kd N scope none W X := {
      eN := rfl
      esc := rfl
      fnc := fun y hy => by
        unfold locC at hy
        rw [lookN_eq] at hy
        split at hy
        · rename_i hl
          exact ⟨.inl hl, .inl rfl⟩
        · rename_i hl
          exact ⟨.inr hl, .inl rfl⟩
        · cases hy
      nd := sc.nd
      cf := ⟨by have := hr.un; show (A.deeper _).units + 65 < cLine; omega, rfl, L.mgb, L.kf⟩
      tk := tk
      rm := hr
      fns := fns
      con := L.con
      cls := L.cls }
    refine ⟨tS S K W (ssL (evT0 S.P (evC S.P n d) n) g.body), ss_ok (X := X) (sts_ok (oks_all n) c sc.kind hp h3), F0, ι, Z, M, xs.map some ++ List.replicate (g.nl - xs.length) none, sm, ⟨?_, fun i y e => ?_⟩, ?_⟩
    · unfold L2.start
      rw [List.length_append, List.length_append, List.length_map, List.length_map, List.length_replicate, List.length_replicate, h2, r.length]
    · have hi : i < xs.length := by
        by_cases hi : i < xs.length
        · exact hi
        · rw [List.getElem?_append_right (by simpa using hi), List.getElem?_replicate] at e
          split at e <;> cases e
      rw [List.getElem?_append_left (by simpa using hi), List.getElem?_map] at e
      cases q : xs[i]? with
      | none =>
        rw [q] at e
        cases e
      | some z =>
        rw [q] at e
        cases e
        obtain ⟨v, e2, rv⟩ := r.get q
        refine ⟨v, ?_, rv⟩
        unfold L2.start
        rw [List.getElem?_append_left (by rw [List.length_map, ← r.length]; exact hi), List.getElem?_map, e2]
        rfl
    · unfold runBody at p
      cases q : ssL (evT0 S.P (evC S.P n d) n) g.body (xs.map some ++ List.replicate (g.nl - xs.length) none) M with
      | nx ρ1 M1 =>
        rw [q] at p
        exact fun ι' Z' H' σ' a b cc l => p ι' Z' H' _ a b cc .non
      | rt v M1 =>
        rw [q] at p
        exact fun ι' Z' H' v' a b cc l => p ι' Z' H' v' a b cc l
      | exc x ρ1 M1 =>
        rw [q] at p
        exact fun ι' Z' H' σ' cls d a b cc l ex => p ι' Z' H' cls d a b cc ex
      | bk ρ1 M1 =>
        rw [q] at p
        exact p.elim
      | ct ρ1 M1 =>
        rw [q] at p
        exact p.elim
      | stuck =>
        rw [q] at p
        exact p.elim
  · exact p.elim
/-- nothing is told of a call at depth 0 -/
theorem fn_ok0 {f : Nat} {g : MFn} {fa : Addr} {fd : FuncData} {ps : List PySem.Str} (D : DefOk S K n g fa fd ps) : FnOk P w K mg base (L2.CX P w) 1 fa fd ps (spC S K (evC S.P n 0) f) := by
  obtain ⟨x, qual, params, body, scope, dvs, kws, N, F, sc, h1, h2, h3⟩ := D.ex
  refine F.ok (CX := L2.CX P w) (k := 0) sc (fun vs H Q E h => ?_) fun cdv A outer s H vs Q E hr hsp => ?_
  · obtain ⟨F, ι, Z, M, xs, s, r, p⟩ := h
    exact p.elim
  · obtain ⟨F, ι, Z, M, xs, s, r, p⟩ := hsp
    exact p.elim
theorem fns_all (L : LawF S K mg n) : ∀ d, FnsAt S P w K mg base (evC S.P n d) (2 * d + 1)
  | 0 => {
    fn := fun f g hf hne => by
      obtain ⟨fa, fd, ps, D, h1, h2, h3⟩ := L.fn f g hf hne
      exact ⟨fa, fd, ps, fn_ok0 D, h1, h2, h3⟩
    cl := fun c k g hc hg hne => by
      obtain ⟨fa, fd, ps, D, h1, h2, h3⟩ := L.cl c k g hc hg hne
      exact ⟨fa, fd, ps, fn_ok0 D, h1, h2, h3⟩ }
  | d + 1 => {
    fn := fun f g hf hne => by
      obtain ⟨fa, fd, ps, D, h1, h2, h3⟩ := L.fn f g hf hne
      exact ⟨fa, fd, ps, fn_ok L (fns_all L d) hf D, h1, h2, h3⟩
    cl := fun c k g hc hg hne => by
      obtain ⟨fa, fd, ps, D, h1, h2, h3⟩ := L.cl c k g hc hg hne
      exact ⟨fa, fd, ps, fn_ok L (fns_all L d) hg D, h1, h2, h3⟩ }
end
end Mp
end

section
set_option Elab.async false
set_option linter.all false
set_option maxRecDepth 100000
set_option maxHeartbeats 4000000
/-! Mp24: what the written part has to show, as one Bool. -/
namespace Mp
open PySem PySem.Spec PyProof.Rows L2

/-- a constant's value, d levels deep -/
def conRel (K : PySem.W.Frag) : Nat → PV → Value → Bool
  | 0, _, _ => false
  | d + 1, v, u => match v, u with
    | .non, .none => true
    | .bl a, .bool b => a == b
    | .int i, .int j _ => decide (i = j)
    | .str x, .str y _ => strEq x y
    | .tup xs, .ref a => (match K.lookup a with
      | some ⟨.type c, _, .seq its _, _⟩ => decide (c = "tuple") && (decide (its.size ≤ sizeLine) && relL (conRel K d) xs its.toList)
      | _ => false)
    | _, _ => false
where relL (f : PV → Value → Bool) : List PV → List Value → Bool
  | [], [] => true
  | x :: xs, u :: us => f x u && relL f xs us
  | _, _ => false
def absU : Value → V
  | .none => .non
  | .bool b => .bl b
  | .int i _ => .int i
  | .str x _ => .str x
  | .ref a => .ref a
  | _ => .non
theorem conL_ok {K : PySem.W.Frag} {CA : Nat → Addr} {f : PV → Value → Bool} (hf : ∀ x u, f x u = true → RelV (absU u) u ∧ ∀ ι B H, RV K CA ι B H x (absU u)) : ∀ {xs : List PV} {us : List Value}, conRel.relL f xs us = true → Vals (us.map absU) us ∧ ∀ ι B H, RVs K CA ι B H xs (us.map absU)
  | [], [], _ => ⟨.nil, fun _ _ _ => .nil⟩
  | [], _ :: _, h => by cases h
  | _ :: _, [], h => by cases h
  | x :: xs, u :: us, h => by
    unfold conRel.relL at h
    rw [Bool.and_eq_true] at h
    obtain ⟨a1, a2⟩ := hf x u h.1
    obtain ⟨b1, b2⟩ := conL_ok hf h.2
    exact ⟨.cons a1 b1, fun ι B H => .cons (a2 ι B H) (b2 ι B H)⟩
theorem con_ok {K : PySem.W.Frag} {CA : Nat → Addr} : ∀ (d : Nat) (v : PV) (u : Value), conRel K d v u = true → RelV (absU u) u ∧ ∀ ι B H, RV K CA ι B H v (absU u)
  | 0, _, _, h => by cases h
  | d + 1, v, u, h => by
    unfold conRel at h
    split at h
    · exact ⟨rfl, fun _ _ _ => .non⟩
    · have e := eq_of_beq h
      subst e
      exact ⟨rfl, fun _ _ _ => .bl _⟩
    · have e := of_decide_eq_true h
      subst e
      exact ⟨⟨_, rfl⟩, fun _ _ _ => .int _⟩
    · have e := strEq_iff.mp h
      subst e
      exact ⟨⟨_, rfl⟩, fun _ _ _ => .str _⟩
    · split at h
      · rename_i hk
        rw [Bool.and_eq_true, Bool.and_eq_true] at h
        obtain ⟨h1, h2, h3⟩ := h
        have e := of_decide_eq_true h1
        subst e
        obtain ⟨b1, b2⟩ := conL_ok (CA := CA) (fun x u => con_ok d x u) h3
        exact ⟨rfl, fun ι B H => .ktup ⟨_, _, _, hk, rfl, rfl, of_decide_eq_true h2, b1⟩ (b2 ι B H)⟩
      · cases h
    · cases h
/-! ### the names of a text -/
/-- the tables' names; the defs as the head has them -/
structure Nms where
  P : MP
  fnm : List PySem.Str
  cnm : List PySem.Str
  knm : List PySem.Str
  fld : List PySem.Str
def noEX : PX → List Addr → (Addr → Prop) → Hp → Value → Option Addr → Prop := fun _ _ _ _ _ _ => False
def sdOf (T : Nms) (K : PySem.W.Frag) : SD where
  P := T.P
  CA := fun c => He.ga K (T.knm.getD c "")
  EX := noEX
  exk := fun _ _ _ _ _ _ h => h.elim
  fnm := fun i => T.fnm.getD i ""
  knm := fun i => T.knm.getD i ""
  cnm := fun i => T.cnm.getD i ""
  fld := fun i => T.fld.getD i ""
def sclsB (K : PySem.W.Frag) (C : Addr) : Bool := PySem.W.plainGet K C Str.empty && (PySem.W.isClsIn K C && (PySem.W.plainOver K C && He.eqO (PySem.W.findIn K (.ref C) "__setattr__") (some (some (.builtin "object.__setattr__")))))
theorem sclsB_ok {K : PySem.W.Frag} {C : Addr} (h : sclsB K C = true) : SlX.SCls K C := by
  unfold sclsB at h
  simp only [Bool.and_eq_true] at h
  exact ⟨h.1, h.2.1, h.2.2.1, He.eqO_ok h.2.2.2⟩
def sisiB (K : PySem.W.Frag) (C : Addr) : Bool := He.eqO (PySem.W.findIn K (.ref C) "__class__") (some (some (.builtin "object.__class__"))) && (He.eqO (PySem.W.specialIn K (.builtin "object.__class__") "__get__") (some (some (.builtin "getset_descriptor.__get__"))) &&
  (decide (PySem.W.takesIn K (.builtin "object.__class__") = some true) && decide (PySem.W.mroIn K C (.type "object") = some true)))
theorem sisiB_ok {K : PySem.W.Frag} {C : Addr} (h : sisiB K C = true) : SlX.SIsi K C := by
  unfold sisiB at h
  simp only [Bool.and_eq_true] at h
  exact ⟨He.eqO_ok h.1, He.eqO_ok h.2.1, of_decide_eq_true h.2.2.1, of_decide_eq_true h.2.2.2⟩
def slotB (K : PySem.W.Frag) (C : Addr) (f : PySem.Str) (i : Nat) : Bool := He.eqO (PySem.W.findIn K (.ref C) f) (some (some (.ref (He.ma K C f)))) && (He.eqO (PySem.W.specialIn K (.ref (He.ma K C f)) "__get__") (some (some (.builtin "member_descriptor.__get__"))) &&
  (decide (PySem.W.takesIn K (.ref (He.ma K C f)) = some true) && (decide (PySem.W.typeIn K (.ref (He.ma K C f)) = some (.type "member_descriptor")) && (decide (PySem.W.slotIn K (He.ma K C f) C = some i) && decide (i < 1000)))))
theorem slotB_ok {K : PySem.W.Frag} {C : Addr} {f : PySem.Str} {i : Nat} (h : slotB K C f i = true) : SlX.Slot1 K C f (He.ma K C f) i := by
  unfold slotB at h
  simp only [Bool.and_eq_true] at h
  obtain ⟨h1, h2, h3, h4, h5, h6⟩ := h
  exact ⟨He.eqO_ok h1, He.eqO_ok h2, of_decide_eq_true h3, of_decide_eq_true h4, of_decide_eq_true h5, of_decide_eq_true h6⟩
def mkrB (K : PySem.W.Frag) (C : Addr) : Bool := PySem.W.makesIn K C && (He.eqO (PySem.W.findIn K (.ref C) "__init__") (some (some (.ref (He.ma K C "__init__")))) && (PySem.W.isFn K (.ref (He.ma K C "__init__")) && PySem.W.keepIn K (.ref C)))
theorem mkrB_ok {K : PySem.W.Frag} {C : Addr} (h : mkrB K C = true) : Mk K C (He.ma K C "__init__") := by
  unfold mkrB at h
  simp only [Bool.and_eq_true] at h
  exact ⟨h.1, He.eqO_ok h.2.1, h.2.2.1, h.2.2.2⟩
def allK (n : Nat) : List TyK := [.non, .bool, .int, .str, .tuple, .list, .dict] ++ (List.range n).map .own
def allT (n : Nat) : List Ty := [.int, .str, .bool, .tuple, .list, .dict] ++ (List.range n).map .own
theorem allK_mem {n : Nat} {k : TyK} (h : kIn n k) : k ∈ allK n := by
  cases k with
  | own c => exact List.mem_append_right _ (List.mem_map.mpr ⟨c, List.mem_range.mpr h, rfl⟩)
  | _ => exact List.mem_append_left _ (by simp)
theorem allT_mem {n : Nat} {k : Ty} (h : tIn n k) : k ∈ allT n := by
  cases k with
  | own c => exact List.mem_append_right _ (List.mem_map.mpr ⟨c, List.mem_range.mpr h, rfl⟩)
  | _ => exact List.mem_append_left _ (by simp)
def isiB (T : Nms) (K : PySem.W.Frag) : Bool := (allK T.P.cls.length).all fun k => (allT T.P.cls.length).all fun t => decide (PySem.W.kitOne K (kU (sdOf T K).CA k) (tyU (sdOf T K).CA t) = some (tyIs k t))
def clsB (T : Nms) (K : PySem.W.Frag) : Bool := (List.range T.P.cls.length).all fun c => sclsB K ((sdOf T K).CA c) && (sisiB K ((sdOf T K).CA c) && (match T.P.cls[c]? with
  | some k => k.fld.all fun p => slotB K ((sdOf T K).CA c) ((sdOf T K).fld p.1) p.2
  | none => true))
theorem lookup_mem' {f i : Nat} : ∀ {l : List (Nat × Nat)}, l.lookup f = some i → (f, i) ∈ l
  | [], h => by cases h
  | (a, b) :: r, h => by
    rw [List.lookup_cons] at h
    cases q : f == a with
    | true =>
      rw [q] at h
      have e : f = a := eq_of_beq q
      have e2 : b = i := Option.some.inj h
      rw [e, e2]
      exact List.mem_cons_self
    | false =>
      rw [q] at h
      exact List.mem_cons_of_mem _ (lookup_mem' h)
theorem kf_ok {T : Nms} {K : PySem.W.Frag} (h1 : isiB T K = true) (h2 : clsB T K = true) : KF (sdOf T K) K where
  isi := fun k t hk ht => of_decide_eq_true (List.all_eq_true.mp (List.all_eq_true.mp h1 k (allK_mem hk)) t (allT_mem ht))
  cls := fun c hc => by
    have h := List.all_eq_true.mp h2 c (List.mem_range.mpr hc)
    simp only [Bool.and_eq_true] at h
    exact ⟨sclsB_ok h.1, sisiB_ok h.2.1⟩
  fld := fun c k f i hc hf => by
    have hlt : c < T.P.cls.length := (List.getElem?_eq_some_iff.mp hc).1
    have h := List.all_eq_true.mp h2 c (List.mem_range.mpr hlt)
    simp only [Bool.and_eq_true] at h
    have h3 := h.2.2
    replace hc : T.P.cls[c]? = some k := hc
    rw [hc] at h3
    exact ⟨_, slotB_ok (List.all_eq_true.mp h3 (f, i) (lookup_mem' hf))⟩
/-! ### constants, names -/
def conB (T : Nms) (K : PySem.W.Frag) : Bool := (List.range T.P.con.length).all fun c => match T.P.con[c]? with
  | some v => strEq ((sdOf T K).cnm c) "" || (match PySem.W.nsIn K mainGlobals ((sdOf T K).cnm c) with
    | some (some u) => conRel K 8 v u
    | _ => false)
  | none => true
theorem conB_ok {T : Nms} {K : PySem.W.Frag} {h : Heap} {mg : PySem.Str → Option Value} (X : K.In h) (G : h.Ns mainGlobals mg) (hb : conB T K = true) : ConsAt (sdOf T K) K mg := by
  intro c v hv hne
  replace hv : T.P.con[c]? = some v := hv
  have hlt : c < T.P.con.length := (List.getElem?_eq_some_iff.mp hv).1
  have h1 := List.all_eq_true.mp hb c (List.mem_range.mpr hlt)
  rw [hv] at h1
  dsimp only at h1
  rw [Bool.or_eq_true] at h1
  replace h1 := h1.resolve_left fun z => hne (strEq_iff.mp z)
  split at h1
  · rename_i u hu
    obtain ⟨r1, r2⟩ := con_ok (CA := (sdOf T K).CA) 8 v u h1
    exact ⟨u, absU u, PySem.W.mg_of X G hu, r1, r2⟩
  · cases h1
def gloB (K : PySem.W.Frag) (x : PySem.Str) : Bool := He.eqO (PySem.W.nsIn K mainGlobals x) (some (some (.ref (He.ga K x))))
theorem gloB_ok {K : PySem.W.Frag} {h : Heap} {mg : PySem.Str → Option Value} (X : K.In h) (G : h.Ns mainGlobals mg) {x : PySem.Str} (hb : gloB K x = true) : mg x = some (.ref (He.ga K x)) := PySem.W.mg_of X G (He.eqO_ok hb)
def freeB (K : PySem.W.Frag) : Bool := bltNames.all fun x => He.eqO (PySem.W.nsIn K mainGlobals x) (some none)
theorem freeB_ok {K : PySem.W.Frag} {h : Heap} {mg : PySem.Str → Option Value} (X : K.In h) (G : h.Ns mainGlobals mg) (hb : freeB K = true) : ∀ x, x ∈ bltNames → mg x = none := fun x hx => PySem.W.mg_none_of X G (He.eqO_ok (List.all_eq_true.mp hb x hx))
/-- all that the head's Bool tells -/
def exB (T : Nms) (K : PySem.W.Frag) : Bool := isiB T K && (clsB T K && (conB T K && (freeB K && (T.fnm.all (fun x => strEq x "" || gloB K x) && (T.knm.all (gloB K) && T.knm.all fun x => mkrB K (He.ga K x))))))
end Mp
end

section
set_option Elab.async false
set_option linter.all false
set_option maxRecDepth 100000
set_option maxHeartbeats 4000000
/-! Mp25: from the head's facts to the promise of the law's def. -/
namespace Mp
open PySem PySem.Spec PyProof.Rows L2

theorem ck_indep (T : Nms) (K : PySem.W.Frag) (N : List PySem.Str) : ∀ n, chk (sdOf T K) N n = chk (sdOf T []) N n
  | 0 => rfl
  | n + 1 => by
    show Ck.mk _ _ _ = Ck.mk _ _ _
    rw [ck_indep T K N n]
    rfl
/-- no defaults: every parameter is written -/
theorem bind0 {S : SD} {K : PySem.W.Frag} {fd : FuncData} {ps : List PySem.Str} {g : MFn} (hd : g.dfl = []) (b : Binds K fd ps []) : ∀ m, m ≤ g.np → g.np ≤ m + g.dfl.length → BindAt S K fd ps g m := fun m _ _ =>
  ⟨[], [], .nil, b, fun ι B H => by
    rw [hd, List.drop_nil]
    exact .nil⟩
/-- defaults: one way to bind for each number of written arguments -/
theorem bindD {S : SD} {K : PySem.W.Frag} {fd : FuncData} {ps : List PySem.Str} {g : MFn} {dvs : List V} (hr : ∀ ι B H, RVs K S.CA ι B H g.dfl dvs) (h : ∀ j, j ≤ dvs.length → j ≤ dvs.length ∧ ∃ ds, Vals (dvs.drop j) ds ∧ Binds K fd ps ds) (hn : g.dfl.length ≤ g.np) :
    ∀ m, m ≤ g.np → g.np ≤ m + g.dfl.length → BindAt S K fd ps g m := fun m h1 h2 => by
  have hl : g.dfl.length = dvs.length := (hr [] (fun _ => False) (fun _ => none)).length
  obtain ⟨_, ds, v, b⟩ := h (m + g.dfl.length - g.np) (by omega)
  exact ⟨_, ds, v, b, fun ι B H => (hr ι B H).drop _⟩
/-- what a text's defs have to show, beside exB -/
structure DefsOk (T : Nms) (K : PySem.W.Frag) (n : Nat) : Prop where
  fn : ∀ f g, T.P.fns[f]? = some g → (sdOf T K).fnm f ≠ "" → ∃ fd ps, DefOk (sdOf T K) K n g (He.ga K ((sdOf T K).fnm f)) fd ps ∧ PySem.W.keepIn K (.ref (He.ga K ((sdOf T K).fnm f))) = true ∧ ∀ m, m ≤ g.np → g.np ≤ m + g.dfl.length → BindAt (sdOf T K) K fd ps g m
  cl : ∀ c k g, T.P.cls[c]? = some k → T.P.fns[k.init]? = some g → (sdOf T K).knm c ≠ "" → ∃ fd ps, DefOk (sdOf T K) K n g (He.ma K (He.ga K ((sdOf T K).knm c)) "__init__") fd ps ∧ ∀ m, m ≤ g.np → g.np ≤ m + g.dfl.length → BindAt (sdOf T K) K fd ps g m
theorem all_getD {l : List PySem.Str} {p : PySem.Str → Bool} (h : l.all p = true) {i : Nat} (hi : l.getD i "" ≠ "") : p (l.getD i "") = true := by
  cases q : l[i]? with
  | none =>
    rw [List.getD_eq_getElem?_getD, q] at hi
    exact absurd rfl hi
  | some x =>
    rw [List.getD_eq_getElem?_getD, q]
    exact List.all_eq_true.mp h x (List.mem_of_getElem? q)
theorem law_of {T : Nms} {K : PySem.W.Frag} {h : Heap} {mg : PySem.Str → Option Value} {n : Nat} (X : K.In h) (G : h.Ns mainGlobals mg) (e : exB T K = true) (D : DefsOk T K n) : LawF (sdOf T K) K mg n := by
  unfold exB at e
  simp only [Bool.and_eq_true] at e
  obtain ⟨e1, e2, e3, e4, e5, e6, e7⟩ := e
  refine ⟨kf_ok e1 e2, freeB_ok X G e4, conB_ok X G e3, fun c hc hne => gloB_ok X G (all_getD e6 hne), fun f g hf hne => ?_, fun c k g hc hg hne => ?_⟩
  · obtain ⟨fd, ps, d, kp, b⟩ := D.fn f g hf hne
    exact ⟨_, fd, ps, d, gloB_ok X G ((Bool.or_eq_true _ _ ▸ all_getD e5 hne).resolve_left fun z => hne (strEq_iff.mp z)), kp, b⟩
  · obtain ⟨fd, ps, d, b⟩ := D.cl c k g hc hg hne
    exact ⟨_, fd, ps, d, gloB_ok X G (all_getD e6 hne), mkrB_ok (all_getD e7 hne), b⟩
/-- the law's promise at the script -/
theorem script_sp {T : Nms} {K : PySem.W.Frag} {C : CT} {f : Nat} {ns : List Int} {M : MH} (hC : C f [.scr ns] [] = .val (.bl true) M) {H : Hp} {a : Addr} (hO : Only H) (hS : SqL K H a (ns.map V.int)) : spC (sdOf T K) K C f [.ref a] H (fun v _ => v = .bl true) fun _ _ _ => False := by
  refine ⟨fun _ => False, [], fun _ => False, [], [.scr ns], ⟨rfl, List.nodup_nil, fun n o e => by simp at e, fun a z => z.elim, fun a z => z.elim, fun a z => z.elim, fun a m => absurd m List.not_mem_nil⟩, .cons ?_ .nil, ?_⟩
  · rcases hS with (hS | ⟨o, hS⟩) | hS
    · rcases hO a with h | ⟨o, xs, h⟩
      · rw [h] at hS
        cases hS
      · rw [h] at hS
        cases hS
    · exact .scr hS fun b => b.elim id id
    · exact .kscr hS
  · rw [hC]
    intro ι' Z' H' b pre st s r
    cases r
    rfl
end Mp
end

section
set_option Elab.async false
set_option linter.all false
set_option maxRecDepth 100000
set_option maxHeartbeats 4000000
/-! Mp26: defs by a table. -/
namespace Mp
open PySem PySem.Spec PyProof.Rows L2

def strsEq : List PySem.Str → List PySem.Str → Bool
  | [], [] => true
  | a :: r, b :: s => strEq a b && strsEq r s
  | _, _ => false
theorem strsEq_ok : ∀ {a b : List PySem.Str}, strsEq a b = true → a = b
  | [], [], _ => rfl
  | [], _ :: _, h => by cases h
  | _ :: _, [], h => by cases h
  | a :: r, b :: s, h => by
    unfold strsEq at h
    rw [Bool.and_eq_true] at h
    rw [strEq_iff.mp h.1, strsEq_ok h.2]
def fnScB (N ps : List PySem.Str) (sc : Scope) : Bool := decide (sc.kind = .function) && (!sc.isCoroutine && (!sc.isGenerator && (decide N.Nodup && (strsEq (N.take ps.length) ps &&
  (ps.all (fun x => decide (sc.names.lookup x = some .local) || decide (sc.names.lookup x = some .cell)) && sc.names.all fun y => !decide (y.2 = .free))))))
theorem fnScB_ok {N ps : List PySem.Str} {sc : Scope} (h : fnScB N ps sc = true) : FnScope N ps sc := by
  unfold fnScB at h
  simp only [Bool.and_eq_true] at h
  obtain ⟨h1, h2, h3, h4, h5, h6, h7⟩ := h
  refine ⟨of_decide_eq_true h1, by simpa using h2, by simpa using h3, of_decide_eq_true h4, strsEq_ok h5, fun x hx => ?_, fun y hy => ?_⟩
  · have q := List.all_eq_true.mp h6 x hx
    rw [Bool.or_eq_true] at q
    exact q.elim (fun q => .inl (of_decide_eq_true q)) fun q => .inr (of_decide_eq_true q)
  · have q := List.all_eq_true.mp h7 y hy
    simpa using q
/-- a def as it is written, as a term, its names -/
structure DT where
  d : He.DefD
  g : MFn
  N : List PySem.Str
  ps : List PySem.Str
def dtB (T : Nms) (n : Nat) (t : DT) : Bool := fnScB t.N t.ps t.d.scope && (decide (t.ps.length = t.g.np) && (decide (t.N.length = t.g.nl) && stsC (chk (sdOf T []) t.N n) t.d.scope t.d.body t.g.body))
abbrev Bnd0 (t : DT) : Prop := ∀ (kV doc pm : Value) (an : Option Addr) (cdv ct : Value) (us : List Value), us.length = t.ps.length → bindArgs (PySem.W.fnOf t.d.name t.d.qual t.d.params t.d.body t.d.scope .none kV doc pm an cdv ct) ⟨us, []⟩ = pure (t.ps.zip us)
section
variable {T : Nms} {n : Nat} {K : PySem.W.Frag} {fn : List He.DefD}
theorem dt_def {t : DT} {fd : FuncData} (F : FunD K t.d.name t.d.qual t.d.params t.d.body t.d.scope (t.d.dvs K) (t.d.kws K) (He.fAd K t.d.at_) fd) (h : dtB T n t = true) : DefOk (sdOf T K) K n t.g (He.fAd K t.d.at_) fd t.ps := by
  unfold dtB at h
  simp only [Bool.and_eq_true] at h
  obtain ⟨h1, h2, h3, h4⟩ := h
  exact ⟨_, _, _, _, _, _, _, _, F, fnScB_ok h1, of_decide_eq_true h2, of_decide_eq_true h3, by rw [ck_indep]; exact h4⟩
/-- a def without defaults -/
theorem dt_ok {t : DT} (c : He.SaysD fa fn K) (hm : t.d ∈ fn) (h : dtB T n t = true) (hd : t.d.dfl = []) (hg : t.g.dfl = []) (b : Bnd0 t) :
    ∃ fd ps, DefOk (sdOf T K) K n t.g (He.fAd K t.d.at_) fd ps ∧ PySem.W.keepIn K (.ref (He.fAd K t.d.at_)) = true ∧ ∀ m, m ≤ t.g.np → t.g.np ≤ m + t.g.dfl.length → BindAt (sdOf T K) K fd ps t.g m := by
  obtain ⟨fd, F⟩ := c.defs hm
  have F0 : FunD K t.d.name t.d.qual t.d.params t.d.body t.d.scope [] (t.d.kws K) (He.fAd K t.d.at_) fd := by
    have e : t.d.dvs K = [] := by
      unfold He.DefD.dvs
      rw [hd]
      rfl
    rw [← e]
    exact F
  exact ⟨fd, t.ps, dt_def F h, F.kp, bind0 hg (F0.bindsN b)⟩
end
/-- a law's end, where what leaves a def hangs on the world -/
theorem walk_ofEw {l : PySem.W.OpenLaw} {n k : Nat} {q : Program} {loose : List PySem.Str} {XP : (PySem.Str → Option Value) → Heap → Prop} {YP : World → Heap → Prop} {d : DefRec} {CX : World → CXT} {x : PySem.Str}
    (hn : l.most = some n) (hn2 : n ≤ sizeLine) (hdf : d.params.defaults = []) (hr : Room k callerA)
    (F : ∀ (w : World) (mg : PySem.Str → Option Value) (fa : Addr) (h : Heap), YP w h → h.Ns mainGlobals mg → mg d.name = some (.ref fa) →
      ∃ (K : PySem.W.Frag) (fd : FuncData) (sp : Sp), K.In h ∧ (∀ (s : Shared) (u : Value), BindsTo s fd ⟨[u], []⟩ [(x, u)]) ∧
        (∀ (H : Hp) (a : Addr) (ns : List Int), ns.length ≤ n → Only H → SqL K H a (ns.map V.int) → sp [.ref a] H (fun v _ => v = .bl true) fun _ _ _ => False) ∧
        ∀ base : Heap, K.In base → base.Ns mainGlobals mg → FnOk l.prog w K mg base (CX w) k fa fd [x] sp)
    (hCX : ∀ (w : World) (H : Hp) (s : Shared) (e : Value) (s' : Shared), CX w [] H s (fun _ _ _ => False) e s' → False) :
    PySem.W.WalkO q loose XP YP l.row.toRowW d [] (fun f vs => PySem.call f vs) := by
  refine Att.attach_call hn hdf fun w s₀ s₁ mg mb fa o pm cd doc a vs ns G Y ho hd hcd hmg hobj hints hlen hg => ?_
  obtain ⟨K, fd, sp, KX, hb, hsp, hF⟩ := F w mg fa _ Y G.T.g hmg
  exact law_call KX G.T.g G.T.b G.T.builtins G.T.nolimit hg hobj hints (Nat.le_trans hlen hn2) hr hF hb (fun H hO hS => hsp H a ns hlen hO hS) fun H e s' => hCX w H s₁ e s'
theorem no_leave {P : Program} {w : World} {outer : List Env} {H : Hp} {s s' : Shared} {e : Value} (h : L2.CX P w outer H s (fun _ _ _ => False) e s') : False := by
  obtain ⟨_, _, _, _, _, _, _, _, _, _, _, _, z⟩ := h
  exact z
end Mp
end

section
set_option Elab.async false
set_option linter.all false
set_option maxRecDepth 100000
set_option maxHeartbeats 4000000
/-! Pe0: the evaluator step by step, as rules of rewriting. -/
namespace Mp
open PySem

def SO.seq (o : SO) (k : Rho → MH → SO) : SO :=
  match o with
  | .nx ρ M => k ρ M
  | q => q
def SO.fin (o : SO) : Out PV :=
  match o with
  | .nx _ M1 => .val .non M1
  | .rt v M1 => .val v M1
  | .exc x _ M1 => .exc x M1
  | _ => .stuck
def andK (x : PV) (o : Out PV) (M : MH) : Out PV :=
  match x with
  | .bl b => if b then o else .val (.bl false) M
  | _ => .stuck
def orK (x : PV) (o : Out PV) (M : MH) : Out PV :=
  match x with
  | .bl b => if b then .val (.bl true) M else o
  | _ => .stuck
def truK (x : PV) (M : MH) : Out Bool :=
  match x with
  | .bl b => .val b M
  | _ => .stuck
def optV {α : Type} (o : Option α) (k : α → Out PV) : Out PV :=
  match o with
  | some a => k a
  | none => .stuck
def rhoK (o : Option (Option PV)) (M : MH) : Out PV :=
  match o with
  | some (some v) => .val v M
  | _ => .stuck
def asgK (o : Out Rho) : SO :=
  match o with
  | .val ρ M => .nx ρ M
  | _ => .stuck
def slcK (v : PV) (l h : Option Int) (M : MH) : Out PV :=
  match v with
  | .tup xs => .val (.tup (cutL xs l h)) M
  | .lst xs => newL false (cutL xs l h) M
  | .scr ns => newL false ((cutL ns l h).map .int) M
  | _ => .stuck
def intK (x : PV) (M : MH) : Out (Option Int) :=
  match x with
  | .int i => .val (some i) M
  | _ => .stuck
def attK (P : MP) (v : PV) (f : Nat) (M : MH) : Out PV :=
  match v with
  | .obj c fs => (match P.cls[c]? with
    | some k => (match k.fld.lookup f with
      | some i => (match fs[i]? with
        | some v => .val v M
        | none => .stuck)
      | none => .stuck)
    | none => .stuck)
  | _ => .stuck
def augK (o : BOp) (i : Nat) (x y : PV) (ρ : Rho) (M : MH) : SO :=
  match augOp o x y with
  | some z => .nx (ρ.set i (some z)) M
  | none => .stuck
def aug0 (o : Option (Option PV)) (k : PV → SO) : SO :=
  match o with
  | some (some x) => k x
  | _ => .stuck
def setK (o : Option Rho) (M : MH) : SO :=
  match o with
  | some ρ => .nx ρ M
  | none => .stuck
def qSeqK (o : Option Bool) (x : PV) (M : MH) : Out Src :=
  match o with
  | some k => .val (.sq k x) M
  | none => .stuck
def qEnumK (xs : List PV) (M : MH) : Out Src :=
  match xs with
  | [x] => (match kindS M x with
    | some k => .val (.enum k x) M
    | none => .stuck)
  | _ => .stuck
def qZipK (xs : List PV) (M : MH) : Out Src :=
  match xs with
  | [x, y] => (match kindS M x with
    | some k => (match kindS M y with
      | some j => .val (.zip k x j y) M
      | none => .stuck)
    | none => .stuck)
  | _ => .stuck
def qRngK (xs : List PV) (M : MH) : Out Src :=
  match xs with
  | [.int n] => if -4611686018427387904 ≤ n ∧ n < 4611686018427387904 then .val (.rng 0 n.toNat) M else .stuck
  | _ => .stuck
def negK (x : PV) (M : MH) : Out PV :=
  match x with
  | .int i => .val (.int (-i)) M
  | _ => .stuck

section
variable {α β : Type}
@[simp] theorem bind_val (a : α) (M : MH) (k : α → MH → Out β) : (Out.val a M).bind k = k a M := rfl
@[simp] theorem bind_exc (x : PX) (M : MH) (k : α → MH → Out β) : (Out.exc x M).bind k = .exc x M := rfl
@[simp] theorem bind_stuck (k : α → MH → Out β) : (Out.stuck : Out α).bind k = .stuck := rfl
@[simp] theorem bindX_val (a : α) (M : MH) (k : α → MH → Out β) : (Out.val a M).bindX k = k a M := rfl
@[simp] theorem outS_val (a : α) (M : MH) (ρ : Rho) (k : α → MH → SO) : outS (Out.val a M) ρ k = k a M := rfl
@[simp] theorem outS_exc (x : PX) (M : MH) (ρ : Rho) (k : α → MH → SO) : outS (Out.exc x M) ρ k = .exc x ρ M := rfl
@[simp] theorem bind_ite (c : Prop) [Decidable c] (a b : Out α) (k : α → MH → Out β) : (if c then a else b).bind k = if c then a.bind k else b.bind k := by split <;> rfl
@[simp] theorem outS_ite (c : Prop) [Decidable c] (a b : Out α) (ρ : Rho) (k : α → MH → SO) : outS (if c then a else b) ρ k = if c then outS a ρ k else outS b ρ k := by split <;> rfl
end
@[simp] theorem seq_nx (ρ : Rho) (M : MH) (k) : (SO.nx ρ M).seq k = k ρ M := rfl
@[simp] theorem seq_rt (v : PV) (M : MH) (k) : (SO.rt v M).seq k = .rt v M := rfl
@[simp] theorem seq_exc (x : PX) (ρ : Rho) (M : MH) (k) : (SO.exc x ρ M).seq k = .exc x ρ M := rfl
@[simp] theorem fin_nx (ρ : Rho) (M : MH) : (SO.nx ρ M).fin = .val .non M := rfl
@[simp] theorem fin_rt (v : PV) (M : MH) : (SO.rt v M).fin = .val v M := rfl
@[simp] theorem fin_exc (x : PX) (ρ : Rho) (M : MH) : (SO.exc x ρ M).fin = .exc x M := rfl
@[simp] theorem seq_ite (c : Prop) [Decidable c] (a b : SO) (k) : (if c then a else b).seq k = if c then a.seq k else b.seq k := by split <;> rfl
@[simp] theorem fin_ite (c : Prop) [Decidable c] (a b : SO) : (if c then a else b).fin = if c then a.fin else b.fin := by split <;> rfl
@[simp] theorem andK_bl (b : Bool) (o : Out PV) (M : MH) : andK (.bl b) o M = if b then o else .val (.bl false) M := rfl
@[simp] theorem orK_bl (b : Bool) (o : Out PV) (M : MH) : orK (.bl b) o M = if b then .val (.bl true) M else o := rfl
@[simp] theorem truK_bl (b : Bool) (M : MH) : truK (.bl b) M = .val b M := rfl
@[simp] theorem optV_some {α : Type} (a : α) (k : α → Out PV) : optV (some a) k = k a := rfl
@[simp] theorem rhoK_some (v : PV) (M : MH) : rhoK (some (some v)) M = .val v M := rfl
@[simp] theorem asgK_val (ρ : Rho) (M : MH) : asgK (.val ρ M) = .nx ρ M := rfl
@[simp] theorem slcK_tup (xs : List PV) (l h : Option Int) (M : MH) : slcK (.tup xs) l h M = .val (.tup (cutL xs l h)) M := rfl
@[simp] theorem slcK_lst (xs : List PV) (l h : Option Int) (M : MH) : slcK (.lst xs) l h M = newL false (cutL xs l h) M := rfl
@[simp] theorem intK_int (i : Int) (M : MH) : intK (.int i) M = .val (some i) M := rfl
@[simp] theorem aug0_some (x : PV) (k : PV → SO) : aug0 (some (some x)) k = k x := rfl
@[simp] theorem setK_some (ρ : Rho) (M : MH) : setK (some ρ) M = .nx ρ M := rfl
@[simp] theorem negK_int (i : Int) (M : MH) : negK (.int i) M = .val (.int (-i)) M := rfl
@[simp] theorem qSeqK_some (k : Bool) (x : PV) (M : MH) : qSeqK (some k) x M = .val (.sq k x) M := rfl

/-! ### the evaluator -/
section
variable (P : MP) (C : Nat → List PV → MH → Out PV) (n : Nat) (E : Ev)
@[simp] theorem ev_e (e : ME) (ρ : Rho) (M : MH) : (evT0 P C (n + 1)).e e ρ M = stepE P (evT0 P C n) C e ρ M := rfl
@[simp] theorem ev_a (t : MT) (x : PV) (ρ : Rho) (M : MH) : (evT0 P C (n + 1)).asg t x ρ M = stepA P (evT0 P C n) t x ρ M := rfl
@[simp] theorem ev_s (s : MS) (ρ : Rho) (M : MH) : (evT0 P C (n + 1)).s s ρ M = stepS (evT0 P C n) s ρ M := rfl
@[simp] theorem stepE_var (i : Nat) (ρ : Rho) (M : MH) : stepE P E C (.var i) ρ M = rhoK ρ[i]? M := by
  unfold stepE rhoK
  dsimp only
  all_goals (split <;> simp_all)
@[simp] theorem stepE_lit (v : PV) (ρ : Rho) (M : MH) : stepE P E C (.lit v) ρ M = .val v M := rfl
@[simp] theorem stepE_con (c : Nat) (ρ : Rho) (M : MH) : stepE P E C (.con c) ρ M = optV P.con[c]? fun v => .val v M := by kernel_rfl
@[simp] theorem stepE_tup (es : List (Bool × ME)) (ρ : Rho) (M : MH) : stepE P E C (.tup es) ρ M = (evStars E es ρ M).bind fun xs M1 => if xs.length ≤ 1000000 then .val (.tup xs) M1 else .stuck := rfl
@[simp] theorem stepE_lst (m : Bool) (es : List (Bool × ME)) (ρ : Rho) (M : MH) : stepE P E C (.lst m es) ρ M = (evStars E es ρ M).bind fun xs M1 => newL m xs M1 := rfl
@[simp] theorem stepE_bin (o : BOp) (m : Bool) (a b : ME) (ρ : Rho) (M : MH) : stepE P E C (.bin o m a b) ρ M = (E.e a ρ M).bind fun x M1 => (E.e b ρ M1).bind fun y M2 => binOp o m x y M2 := rfl
@[simp] theorem stepE_neg (a : ME) (ρ : Rho) (M : MH) : stepE P E C (.neg a) ρ M = (E.e a ρ M).bind fun x M1 => negK x M1 := by kernel_rfl
@[simp] theorem stepE_cmp (o : COp) (a b : ME) (ρ : Rho) (M : MH) : stepE P E C (.cmp o a b) ρ M = (E.e a ρ M).bind fun x M1 => (E.e b ρ M1).bind fun y M2 => optV (cmpOp o x y M2) fun r => .val (.bl r) M2 := by kernel_rfl
def qChainK (E : Ev) (o' : COp) (c : ME) (ρ : Rho) (y : PV) (M : MH) (b : Bool) : Out PV := if b then ((E.e c ρ M).bind fun z M3 => optV (cmpOp o' y z M3) fun r => .val (.bl r) M3) else .val (.bl false) M
@[simp] theorem stepE_chain (o o' : COp) (a b c : ME) (ρ : Rho) (M : MH) : stepE P E C (.chain o o' a b c) ρ M = (E.e a ρ M).bind fun x M1 => (E.e b ρ M1).bind fun y M2 => optV (cmpOp o x y M2) (qChainK E o' c ρ y M2) := by
  show (E.e a ρ M).bind _ = _
  congr 1
  funext x M1
  congr 1
  funext y M2
  cases cmpOp o x y M2 with
  | none => kernel_rfl
  | some b => cases b <;> kernel_rfl
@[simp] theorem stepE_and (es : List ME) (ρ : Rho) (M : MH) : stepE P E C (.and es) ρ M = evAnd E es ρ M := rfl
@[simp] theorem stepE_or (es : List ME) (ρ : Rho) (M : MH) : stepE P E C (.or es) ρ M = evOr E es ρ M := rfl
@[simp] theorem stepE_not (a : ME) (ρ : Rho) (M : MH) : stepE P E C (.not a) ρ M = (evT E a ρ M).bind fun b M1 => .val (.bl (!b)) M1 := rfl
@[simp] theorem stepE_ite (c a b : ME) (ρ : Rho) (M : MH) : stepE P E C (.ite c a b) ρ M = (evT E c ρ M).bind fun r M1 => if r then E.e a ρ M1 else E.e b ρ M1 := rfl
@[simp] theorem stepE_idx (a b : ME) (ρ : Rho) (M : MH) : stepE P E C (.idx a b) ρ M = (E.e a ρ M).bind fun x M1 => (E.e b ρ M1).bind fun y M2 => optV (getI x y M2) fun v => .val v M2 := by kernel_rfl
@[simp] theorem stepE_slc (a : ME) (lo hi : Option ME) (ρ : Rho) (M : MH) : stepE P E C (.slc a lo hi) ρ M = (E.e a ρ M).bind fun x M1 => (evOpt E lo ρ M1).bind fun l M2 => (evOpt E hi ρ M2).bind fun h M3 => slcK (view M3 x) l h M3 := by kernel_rfl
@[simp] theorem stepE_att (a : ME) (f : Nat) (ρ : Rho) (M : MH) : stepE P E C (.att a f) ρ M = (E.e a ρ M).bind fun x M1 => attK P (view M1 x) f M1 := by kernel_rfl
@[simp] theorem stepE_isi (a : ME) (ts : List Ty) (ρ : Rho) (M : MH) : stepE P E C (.isi a ts) ρ M = (E.e a ρ M).bind fun x M1 => optV (typAny P.cls.length M1 x ts) fun b => .val (.bl b) M1 := by kernel_rfl
theorem stepE_call (f : Nat) (p : Bool) (es : List ME) (ρ : Rho) (M : MH) : stepE P E C (.call f p es) ρ M = (evArgs E es ρ M).bind fun xs M1 => optV P.fns[f]? fun g => if es.length ≤ g.np ∧ g.np ≤ es.length + g.dfl.length then
        (if p then callP C f (xs ++ g.dfl.drop (es.length + g.dfl.length - g.np)) M1 else C f (xs ++ g.dfl.drop (es.length + g.dfl.length - g.np)) M1) else .stuck := by kernel_rfl
@[simp] theorem stepE_blt (b : Blt) (m : Bool) (es : List ME) (ρ : Rho) (M : MH) : stepE P E C (.blt b m es) ρ M = (evArgs E es ρ M).bind fun xs M1 => bltF b m xs M1 := rfl
@[simp] theorem stepE_bm (o : BMt) (a : ME) (es : List ME) (ρ : Rho) (M : MH) : stepE P E C (.bm o a es) ρ M = (E.e a ρ M).bind fun x M1 => if isLst x M1 then (evArgs E es ρ M1).bind fun xs M2 => bmF o x xs M2 else .stuck := rfl
@[simp] theorem stepE_lc (m : Bool) (vs : List Nat) (e : ME) (t : MT) (it : MI) (ifs : List ME) (ρ : Rho) (M : MH) : stepE P E C (.lc m vs e t it ifs) ρ M = (evIt E it ρ M).bind fun s M1 => (lcL E e t ifs (wipeR ρ vs) (srcLen M1 s + 1) 0 s [] M1).bind fun ys M2 => newL m ys M2 := rfl
@[simp] theorem stepE_dc (m : Bool) (vs : List Nat) (k v : ME) (t : MT) (it : MI) (ifs : List ME) (ρ : Rho) (M : MH) : stepE P E C (.dc m vs k v t it ifs) ρ M = (evIt E it ρ M).bind fun s M1 => (dcL E k v t ifs (wipeR ρ vs) (srcLen M1 s + 1) 0 s [] M1).bind fun ys M2 => newD m ys M2 := rfl
@[simp] theorem stepE_dsp (m : Bool) (ks vs : List ME) (ρ : Rho) (M : MH) : stepE P E C (.dsp m ks vs) ρ M = if ks.length ≤ 15 then (evDsp E ks vs ρ [] M).bind fun kvs M1 => newD m kvs M1 else .stuck := rfl
/-! statements -/
@[simp] theorem stepS_expr (e : ME) (ρ : Rho) (M : MH) : stepS E (.expr e) ρ M = outS (E.e e ρ M) ρ fun _ M1 => .nx ρ M1 := rfl
@[simp] theorem stepS_asg (t : MT) (e : ME) (ρ : Rho) (M : MH) : stepS E (.asg t e) ρ M = outS (E.e e ρ M) ρ fun x M1 => asgK (E.asg t x ρ M1) := by kernel_rfl
@[simp] theorem stepS_par (ns : List Nat) (es : List ME) (ρ : Rho) (M : MH) : stepS E (.par ns es) ρ M = outS (evArgs E es ρ M) ρ fun xs M1 => setK (setAll ns xs ρ) M1 := by kernel_rfl
@[simp] theorem stepS_aug (i : Nat) (o : BOp) (e : ME) (ρ : Rho) (M : MH) : stepS E (.aug i o e) ρ M = aug0 ρ[i]? fun x => outS (E.e e ρ M) ρ fun y M1 => augK o i x y ρ M1 := by kernel_rfl
@[simp] theorem stepS_ifs (c : ME) (a b : List MS) (ρ : Rho) (M : MH) : stepS E (.ifs c a b) ρ M = outS (evT E c ρ M) ρ fun r M1 => if r then ssL E a ρ M1 else ssL E b ρ M1 := rfl
@[simp] theorem stepS_ret (e : ME) (ρ : Rho) (M : MH) : stepS E (.ret e) ρ M = outS (E.e e ρ M) ρ fun x M1 => .rt x M1 := rfl
@[simp] theorem stepS_retN (ρ : Rho) (M : MH) : stepS E .retN ρ M = .rt .non M := rfl
@[simp] theorem stepS_pass (ρ : Rho) (M : MH) : stepS E .pass ρ M = .nx ρ M := rfl
@[simp] theorem stepS_for (t : MT) (it : MI) (b : List MS) (ρ : Rho) (M : MH) : stepS E (.for_ t it b) ρ M = outS (evIt E it ρ M) ρ fun s M1 => forL E t (ssL E b) (srcLen M1 s + 1) 0 s ρ M1 := rfl
@[simp] theorem ssL_nil (ρ : Rho) (M : MH) : ssL E [] ρ M = .nx ρ M := rfl
@[simp] theorem ssL_cons (a : MS) (r : List MS) (ρ : Rho) (M : MH) : ssL E (a :: r) ρ M = (E.s a ρ M).seq (ssL E r) := by
  show (match E.s a ρ M with | .nx ρ1 M1 => ssL E r ρ1 M1 | q => q) = _
  cases E.s a ρ M <;> rfl
/-! targets -/
@[simp] theorem stepA_nm (i : Nat) (x : PV) (ρ : Rho) (M : MH) : stepA P E (.nm i) x ρ M = if i < ρ.length then .val (ρ.set i (some x)) M else .stuck := rfl
@[simp] theorem stepA_tup (ts : List MT) (xs : List PV) (ρ : Rho) (M : MH) : stepA P E (.tup ts) (.tup xs) ρ M = if xs.length = ts.length then asgTs E.asg ts xs ρ M else .stuck := rfl
@[simp] theorem asgTs_nil (f) (ρ : Rho) (M : MH) : asgTs f [] [] ρ M = .val ρ M := rfl
@[simp] theorem asgTs_cons (f) (t : MT) (ts : List MT) (x : PV) (xs : List PV) (ρ : Rho) (M : MH) : asgTs f (t :: ts) (x :: xs) ρ M = (f t x ρ M).bindX fun ρ1 M1 => asgTs f ts xs ρ1 M1 := rfl
/-! lists of terms -/
@[simp] theorem evArgs_nil (ρ : Rho) (M : MH) : evArgs E [] ρ M = .val [] M := rfl
@[simp] theorem evArgs_cons (a : ME) (r : List ME) (ρ : Rho) (M : MH) : evArgs E (a :: r) ρ M = (E.e a ρ M).bind fun x M1 => (evArgs E r ρ M1).bind fun xs M2 => .val (x :: xs) M2 := rfl
@[simp] theorem evStars_nil (ρ : Rho) (M : MH) : evStars E [] ρ M = .val [] M := rfl
@[simp] theorem evStars_f (a : ME) (r : List (Bool × ME)) (ρ : Rho) (M : MH) : evStars E ((false, a) :: r) ρ M = (E.e a ρ M).bind fun x M1 => (evStars E r ρ M1).bind fun xs M2 => .val (x :: xs) M2 := rfl
def qStarK (o : Option (List PV)) (k : Out (List PV)) : Out (List PV) :=
  match o with
  | some ys => k.bind fun xs M2 => .val (ys ++ xs) M2
  | none => .stuck
@[simp] theorem qStarK_some (ys : List PV) (k : Out (List PV)) : qStarK (some ys) k = k.bind fun xs M2 => .val (ys ++ xs) M2 := rfl
@[simp] theorem evStars_t (a : ME) (r : List (Bool × ME)) (ρ : Rho) (M : MH) : evStars E ((true, a) :: r) ρ M = (E.e a ρ M).bind fun x M1 => qStarK (readL M1 x) (evStars E r ρ M1) := by kernel_rfl
@[simp] theorem evAnd_one (a : ME) (ρ : Rho) (M : MH) : evAnd E [a] ρ M = E.e a ρ M := rfl
@[simp] theorem evAnd_cons (a b : ME) (r : List ME) (ρ : Rho) (M : MH) : evAnd E (a :: b :: r) ρ M = (E.e a ρ M).bind fun x M1 => andK x (evAnd E (b :: r) ρ M1) M1 := by
  show (E.e a ρ M).bind _ = _
  congr 1
  funext x M1
  cases x <;> try rfl
  rename_i b; cases b <;> rfl
@[simp] theorem evOr_one (a : ME) (ρ : Rho) (M : MH) : evOr E [a] ρ M = E.e a ρ M := rfl
@[simp] theorem evOr_cons (a b : ME) (r : List ME) (ρ : Rho) (M : MH) : evOr E (a :: b :: r) ρ M = (E.e a ρ M).bind fun x M1 => orK x (evOr E (b :: r) ρ M1) M1 := by
  show (E.e a ρ M).bind _ = _
  congr 1
  funext x M1
  cases x <;> try rfl
  rename_i b; cases b <;> rfl
@[simp] theorem evT_eq (c : ME) (ρ : Rho) (M : MH) : evT E c ρ M = (E.e c ρ M).bind fun x M1 => truK x M1 := by kernel_rfl
@[simp] theorem evOpt_none (ρ : Rho) (M : MH) : evOpt E none ρ M = .val none M := rfl
@[simp] theorem evOpt_some (a : ME) (ρ : Rho) (M : MH) : evOpt E (some a) ρ M = (E.e a ρ M).bind fun x M1 => intK x M1 := by kernel_rfl
@[simp] theorem evIt_seq (e : ME) (ρ : Rho) (M : MH) : evIt E (.seq e) ρ M = (E.e e ρ M).bind fun x M1 => qSeqK (kindS M1 x) x M1 := by kernel_rfl
@[simp] theorem evIt_rng1 (e : ME) (ρ : Rho) (M : MH) : evIt E (.rng1 e) ρ M = (evArgs E [e] ρ M).bind fun xs M1 => qRngK xs M1 := by kernel_rfl
@[simp] theorem evIt_enum (e : ME) (ρ : Rho) (M : MH) : evIt E (.enum e) ρ M = (evArgs E [e] ρ M).bind fun xs M1 => qEnumK xs M1 := by kernel_rfl
@[simp] theorem evIt_zip (a b : ME) (ρ : Rho) (M : MH) : evIt E (.zip a b) ρ M = (evArgs E [a, b] ρ M).bind fun xs M1 => qZipK xs M1 := by kernel_rfl
@[simp] theorem evIfs_nil (ρ : Rho) (M : MH) : evIfs E [] ρ M = .val true M := rfl
@[simp] theorem evIfs_one (a : ME) (ρ : Rho) (M : MH) : evIfs E [a] ρ M = evT E a ρ M := rfl
theorem runBody_eq (g : MFn) (xs : List PV) (M : MH) : runBody E g xs M = (ssL E g.body (xs.map some ++ List.replicate (g.nl - xs.length) none) M).fin := by
  unfold runBody SO.fin
  cases ssL E g.body (xs.map some ++ List.replicate (g.nl - xs.length) none) M <;> rfl
theorem evC_succ (d f : Nat) (xs : List PV) (M : MH) {g : MFn} (h : P.fns[f]? = some g) (hl : xs.length = g.np) :
    evC P n (d + 1) f xs M = (ssL (evT0 P (evC P n d) n) g.body (xs.map some ++ List.replicate (g.nl - xs.length) none) M).fin := by
  show (match P.fns[f]? with | some g => if xs.length = g.np then runBody (evT0 P (evC P n d) n) g xs M else .stuck | none => .stuck) = _
  rw [h]
  simp only [if_pos hl]
  exact runBody_eq _ _ _ _
end
/-! values -/
@[simp] theorem view_non (M : MH) : view M .non = .non := rfl
@[simp] theorem view_bl (M : MH) (b) : view M (.bl b) = .bl b := rfl
@[simp] theorem view_int (M : MH) (b) : view M (.int b) = .int b := rfl
@[simp] theorem view_str (M : MH) (b) : view M (.str b) = .str b := rfl
@[simp] theorem view_tup (M : MH) (b) : view M (.tup b) = .tup b := rfl
@[simp] theorem view_lst (M : MH) (b) : view M (.lst b) = .lst b := rfl
@[simp] theorem view_dct (M : MH) (b) : view M (.dct b) = .dct b := rfl
@[simp] theorem view_scr (M : MH) (b) : view M (.scr b) = .scr b := rfl
@[simp] theorem view_obj (M : MH) (c fs) : view M (.obj c fs) = .obj c fs := rfl
theorem ite_bl (c : Bool) (b : Bool) (M : MH) : (if c = true then Out.val (PV.bl b) M else .val (.bl false) M) = .val (.bl (c && b)) M := by cases c <;> simp
theorem ite_bl2 (c : Bool) (b : Bool) (M : MH) : (if c = true then Out.val (PV.bl true) M else .val (.bl b) M) = .val (.bl (c || b)) M := by cases c <;> simp
end Mp
end

section
set_option Elab.async false
set_option linter.all false
set_option maxRecDepth 100000
set_option maxHeartbeats 4000000
/-! Pe1: values without references; calls; comprehensions. -/
namespace Mp
open PySem

/-! ### no reference, k levels deep -/
def pureB : Nat → PV → Bool
  | 0, _ => false
  | k + 1, v => match v with
    | .ref _ => false
    | .tup xs => xs.all (pureB k)
    | .lst xs => xs.all (pureB k)
    | .dct kvs => kvs.all fun p => pureB k p.1 && pureB k p.2
    | .obj _ fs => fs.all (pureB k)
    | _ => true
theorem frzL_pure {f : MH → PV → Option (PV × MH)} {p : PV → Bool} (h : ∀ M v, p v = true → f M v = some (v, M)) : ∀ {M : MH} {xs : List PV}, xs.all p = true → frzL f M xs = some (xs, M)
  | _, [], _ => rfl
  | M, x :: xs, e => by
    rw [List.all_cons, Bool.and_eq_true] at e
    unfold frzL
    rw [h M x e.1]
    dsimp only
    rw [frzL_pure h e.2]
theorem frzD_pure {f : MH → PV → Option (PV × MH)} {p : PV → Bool} (h : ∀ M v, p v = true → f M v = some (v, M)) : ∀ {M : MH} {xs : List (PV × PV)}, (xs.all fun q => p q.1 && p q.2) = true → frzD f M xs = some (xs, M)
  | _, [], _ => rfl
  | M, (k, x) :: xs, e => by
    rw [List.all_cons, Bool.and_eq_true, Bool.and_eq_true] at e
    unfold frzD
    rw [h M k e.1.1]
    dsimp only
    rw [h M x e.1.2]
    dsimp only
    rw [frzD_pure h e.2]
theorem frz_pure : ∀ (k : Nat) (M : MH) (v : PV), pureB k v = true → frz k M v = some (v, M)
  | 0, _, _, h => by cases h
  | k + 1, M, v, h => by
    unfold pureB at h
    cases v with
    | ref n => cases h
    | tup xs =>
      show (match frzL (frz k) M xs with | some (ys, M1) => some (PV.tup ys, M1) | none => none) = _
      rw [frzL_pure (frz_pure k) h]
    | lst xs =>
      show (match frzL (frz k) M xs with | some (ys, M1) => some (PV.lst ys, M1) | none => none) = _
      rw [frzL_pure (frz_pure k) h]
    | dct xs =>
      show (match frzD (frz k) M xs with | some (ys, M1) => some (PV.dct ys, M1) | none => none) = _
      rw [frzD_pure (frz_pure k) h]
    | obj c xs =>
      show (match frzL (frz k) M xs with | some (ys, M1) => some (PV.obj c ys, M1) | none => none) = _
      rw [frzL_pure (frz_pure k) h]
    | _ => rfl
theorem pure_mono : ∀ (k : Nat) (v : PV), pureB k v = true → pureB (k + 1) v = true
  | 0, _, h => by cases h
  | k + 1, v, h => by
    unfold pureB at h ⊢
    cases v with
    | tup xs => exact List.all_eq_true.mpr fun x hx => pure_mono k x (List.all_eq_true.mp h x hx)
    | lst xs => exact List.all_eq_true.mpr fun x hx => pure_mono k x (List.all_eq_true.mp h x hx)
    | dct xs =>
      exact List.all_eq_true.mpr fun x hx => by
        have q := List.all_eq_true.mp h x hx
        rw [Bool.and_eq_true] at q ⊢
        exact ⟨pure_mono k _ q.1, pure_mono k _ q.2⟩
    | obj c xs => exact List.all_eq_true.mpr fun x hx => pure_mono k x (List.all_eq_true.mp h x hx)
    | _ => exact h
theorem pure_le {j k : Nat} (h : j ≤ k) {v : PV} (p : pureB j v = true) : pureB k v = true := by
  induction h with
  | refl => exact p
  | step _ ih => exact pure_mono _ _ ih
@[simp] theorem pure_non (k : Nat) : pureB (k + 1) .non = true := rfl
@[simp] theorem pure_bl (k : Nat) (b) : pureB (k + 1) (.bl b) = true := rfl
@[simp] theorem pure_int (k : Nat) (b) : pureB (k + 1) (.int b) = true := rfl
@[simp] theorem pure_str (k : Nat) (b) : pureB (k + 1) (.str b) = true := rfl
@[simp] theorem pure_scr (k : Nat) (b) : pureB (k + 1) (.scr b) = true := rfl
@[simp] theorem pure_tup (k : Nat) (xs) : pureB (k + 1) (.tup xs) = xs.all (pureB k) := rfl
@[simp] theorem pure_lst (k : Nat) (xs) : pureB (k + 1) (.lst xs) = xs.all (pureB k) := rfl
@[simp] theorem pure_obj (k : Nat) (c xs) : pureB (k + 1) (.obj c xs) = xs.all (pureB k) := rfl
/-! ### calls -/
/-- at f stands a def with n parameters, no defaults -/
def Cal (P : MP) (f n : Nat) : Prop := ∃ g, P.fns[f]? = some g ∧ g.np = n ∧ g.dfl = []
theorem stepE_callT (P : MP) (C : Nat → List PV → MH → Out PV) (E : Ev) (f : Nat) (p : Bool) (es : List ME) (ρ : Rho) (M : MH) (h : Cal P f es.length) :
    stepE P E C (.call f p es) ρ M = (evArgs E es ρ M).bind fun xs M1 => if p then callP C f xs M1 else C f xs M1 := by
  obtain ⟨g, h1, h2, h3⟩ := h
  rw [stepE_call, h1]
  congr 1
  funext xs M1
  rw [optV_some, h2, h3]
  simp
theorem callP_ok {C : Nat → List PV → MH → Out PV} {f : Nat} {xs : List PV} {M M2 : MH} {v : PV} (hx : xs.all (pureB 50) = true) (h : C f xs [] = .val v M2) (hv : pureB 50 v = true) : callP C f xs M = .val v M := by
  unfold callP
  rw [frzL_pure (frz_pure 50) hx]
  dsimp only
  rw [h]
  dsimp only
  rw [frz_pure 50 M2 v hv]
theorem callP_exc {C : Nat → List PV → MH → Out PV} {f : Nat} {xs : List PV} {M M2 : MH} {x : PX} (hx : xs.all (pureB 50) = true) (h : C f xs [] = .exc x M2) : callP C f xs M = .exc x M := by
  unfold callP
  rw [frzL_pure (frz_pure 50) hx]
  dsimp only
  rw [h]
/-! ### comprehensions that leave the heap -/
/-- each turn: the target takes the item, the test tells p, the element is g -/
theorem lcL_run {E : Ev} {e : ME} {t : MT} {ifs : List ME} {ρ : Rho} {s : Src} {M : MH} {n : Nat} {it : Nat → PV} {p : Nat → Bool} {g : Nat → PV}
    (hs : ∀ i, i < n → srcAt M s i = some (some (it i))) (he : srcAt M s n = some none)
    (ht : ∀ i, i < n → ∃ ρ1, E.asg t (it i) ρ M = .val ρ1 M ∧ evIfs E ifs ρ1 M = .val (p i) M ∧ (p i = true → E.e e ρ1 M = .val (g i) M)) :
    ∀ (k i : Nat) (w : Nat) (acc : List PV), i + k = n → k < w → acc.length + k ≤ 1000000 → lcL E e t ifs ρ w i s acc M = .val (acc ++ ((List.range' i k).filter p).map g) M
  | 0, i, w + 1, acc, hk, _, _ => by
    have e1 : i = n := by omega
    subst e1
    unfold lcL
    rw [he]
    simp
  | k + 1, i, w + 1, acc, hk, hw, ha => by
    obtain ⟨ρ1, h1, h2, h3⟩ := ht i (by omega)
    unfold lcL
    rw [hs i (by omega)]
    dsimp only
    rw [h1]
    dsimp only
    rw [h2]
    rw [List.range'_succ]
    cases hp : p i with
    | true =>
      dsimp only
      rw [h3 hp]
      dsimp only
      rw [if_pos (by omega), lcL_run hs he ht k (i + 1) w (acc ++ [g i]) (by omega) (by omega) (by simp; omega), List.filter_cons, hp]
      simp
    | false =>
      dsimp only
      rw [lcL_run hs he ht k (i + 1) w acc (by omega) (by omega) (by omega), List.filter_cons, hp]
      simp
theorem kindS_tup (M : MH) (xs : List PV) : kindS M (.tup xs) = some true := rfl
theorem kindS_lst (M : MH) (xs : List PV) : kindS M (.lst xs) = some false := rfl
/-- over a list or a tuple -/
theorem lcL_seq {E : Ev} {e : ME} {t : MT} {ifs : List ME} {ρ : Rho} {M : MH} {k : Bool} {v : PV} {xs : List PV} {p : PV → Bool} {g : PV → PV} (hv : readK M k v = some xs) (hl : xs.length ≤ 1000000)
    (ht : ∀ x, x ∈ xs → ∃ ρ1, E.asg t x ρ M = .val ρ1 M ∧ evIfs E ifs ρ1 M = .val (p x) M ∧ (p x = true → E.e e ρ1 M = .val (g x) M)) :
    lcL E e t ifs ρ (srcLen M (.sq k v) + 1) 0 (.sq k v) [] M = .val ((xs.filter p).map g) M := by
  have e1 : srcLen M (.sq k v) = xs.length := by
    show lenK M k v = _
    unfold lenK
    rw [hv]
  rw [e1]
  have at_ : ∀ i, srcAt M (.sq k v) i = some xs[i]? := fun i => by
    show (match readK M k v with | some xs => some xs[i]? | none => none) = _
    rw [hv]
  rw [lcL_run (n := xs.length) (it := fun i => xs.getD i .non) (p := fun i => p (xs.getD i .non)) (g := fun i => g (xs.getD i .non)) (fun i hi => by rw [at_]; simp [hi]) (by rw [at_]; simp)
    (fun i hi => ht _ (by simp [hi])) xs.length 0 (xs.length + 1) [] (by omega) (by omega) (by simpa using hl)]
  congr 1
  rw [List.nil_append]
  have key : ∀ (ys : List PV) (a : List PV), ((List.range' a.length ys.length).filter fun i => p ((a ++ ys).getD i .non)).map (fun i => g ((a ++ ys).getD i .non)) = (ys.filter p).map g := by
    intro ys
    induction ys with
    | nil => intro a; rfl
    | cons y ys ih =>
      intro a
      have h1 := ih (a ++ [y])
      rw [List.append_assoc, List.singleton_append, List.length_append] at h1
      rw [List.length_cons, List.range'_succ, List.filter_cons, List.filter_cons]
      have e2 : (a ++ y :: ys).getD a.length .non = y := by simp
      rw [e2]
      cases hp : p y with
      | true => simp only [if_true, List.map_cons, e2]; rw [← h1]; simp
      | false => simp only [Bool.false_eq_true, if_false]; rw [← h1]; simp
  exact key xs []
/-! ### operators -/
@[simp] theorem cmp_eq (x y : PV) (M : MH) : cmpOp .eq x y M = eqV M x y := rfl
@[simp] theorem cmp_ne (x y : PV) (M : MH) : cmpOp .ne x y M = (eqV M x y).map (!·) := by
  show (match eqV M x y with | some b => some (!b) | none => none) = _
  cases eqV M x y <;> rfl
@[simp] theorem cmp_lt (i j : Int) (M : MH) : cmpOp .lt (.int i) (.int j) M = some (decide (i < j)) := rfl
@[simp] theorem cmp_le (i j : Int) (M : MH) : cmpOp .le (.int i) (.int j) M = some (decide (i ≤ j)) := rfl
@[simp] theorem cmp_gt (i j : Int) (M : MH) : cmpOp .gt (.int i) (.int j) M = some (decide (j < i)) := rfl
@[simp] theorem cmp_ge (i j : Int) (M : MH) : cmpOp .ge (.int i) (.int j) M = some (decide (j ≤ i)) := rfl
@[simp] theorem cmp_in_tup (x : PV) (xs : List PV) (M : MH) : cmpOp .in_ x (.tup xs) M = inL M x xs := rfl
@[simp] theorem cmp_in_lst (x : PV) (xs : List PV) (M : MH) : cmpOp .in_ x (.lst xs) M = inL M x xs := rfl
@[simp] theorem cmp_notin_tup (x : PV) (xs : List PV) (M : MH) : cmpOp .notin x (.tup xs) M = (inL M x xs).map (!·) := by
  show (match inL M x xs with | some b => some (!b) | none => none) = _
  cases inL M x xs <;> rfl
def isNon : PV → Bool
  | .non => true
  | _ => false
@[simp] theorem cmp_is (x : PV) (M : MH) : cmpOp .is_ x .non M = some (isNon x) := by cases x <;> rfl
@[simp] theorem cmp_isnot (x : PV) (M : MH) : cmpOp .isnot x .non M = some (!isNon x) := by cases x <;> rfl
@[simp] theorem isNon_non : isNon .non = true := rfl
@[simp] theorem isNon_int (i : Int) : isNon (.int i) = false := rfl
theorem inL_ok {M : MH} {x : PV} {xs : List PV} (h1 : okB 40 M x = true) (h2 : ∀ y, y ∈ xs → okB 40 M y = true) : inL M x xs = some (xs.any fun y => eqB 40 M y x) := by
  unfold inL
  rw [h1, List.all_eq_true.mpr h2]
  rfl
theorem eqV_ok {M : MH} {x y : PV} (h1 : okB 40 M x = true) (h2 : okB 40 M y = true) : eqV M x y = some (eqB 40 M x y) := by
  unfold eqV
  rw [h1, h2]
  rfl
@[simp] theorem bin_add_int (m : Bool) (i j : Int) (M : MH) : binOp .add m (.int i) (.int j) M = .val (.int (i + j)) M := rfl
@[simp] theorem bin_sub_int (m : Bool) (i j : Int) (M : MH) : binOp .sub m (.int i) (.int j) M = .val (.int (i - j)) M := rfl
theorem any_congr' {α : Type} {p q : α → Bool} : ∀ {xs : List α}, (∀ x, x ∈ xs → p x = q x) → xs.any p = xs.any q
  | [], _ => rfl
  | x :: xs, h => by rw [List.any_cons, List.any_cons, h x List.mem_cons_self, any_congr' fun y hy => h y (List.mem_cons_of_mem _ hy)]
theorem all_congr' {α : Type} {p q : α → Bool} : ∀ {xs : List α}, (∀ x, x ∈ xs → p x = q x) → xs.all p = xs.all q
  | [], _ => rfl
  | x :: xs, h => by rw [List.all_cons, List.all_cons, h x List.mem_cons_self, all_congr' fun y hy => h y (List.mem_cons_of_mem _ hy)]
end Mp
end

section
set_option Elab.async false
set_option linter.all false
set_option maxRecDepth 100000
set_option maxHeartbeats 4000000
/-! Pe2: walks over lists of anything. -/
namespace Mp
open PySem

/-- what is walked are the items of L -/
def SrcL {α : Type} (M : MH) (s : Src) (L : List α) (inj : α → PV) : Prop := (∀ i, i ≤ L.length → srcAt M s i = some (L[i]?.map inj)) ∧ L.length ≤ srcLen M s
section
variable {α : Type} {L : List α} {inj : α → PV} {M : MH} {s : Src}
theorem src_seq {k : Bool} {v : PV} (h : readK M k v = some (L.map inj)) : SrcL M (.sq k v) L inj := by
  refine ⟨fun i _ => ?_, ?_⟩
  · show (match readK M k v with | some xs => some xs[i]? | none => none) = _
    rw [h]
    simp
  · show L.length ≤ lenK M k v
    unfold lenK
    rw [h]
    simp
theorem src_tup (L : List α) (inj : α → PV) (M : MH) : SrcL M (.sq true (.tup (L.map inj))) L inj := src_seq rfl
theorem src_lst (L : List α) (inj : α → PV) (M : MH) : SrcL M (.sq false (.lst (L.map inj))) L inj := src_seq rfl
theorem srcEnum {k : Bool} {v : PV} (h : readK M k v = some (L.map inj)) : SrcL M (.enum k v) L.zipIdx (fun q => .tup [.int q.2, inj q.1]) := by
  refine ⟨fun i hi => ?_, ?_⟩
  · show (match readK M k v with
    | some xs => (match xs[i]? with
      | some x => some (some (PV.tup [PV.int i, x]))
      | none => some none)
    | none => none) = _
    rw [h]
    simp only [List.getElem?_map, List.getElem?_zipIdx]
    cases L[i]? with
    | none => rfl
    | some x => simp
  · show _ ≤ lenK M k v
    unfold lenK
    rw [h]
    simp
theorem srcZip {β : Type} {L' : List β} {inj' : β → PV} {k j : Bool} {u v : PV} (h : readK M k u = some (L.map inj)) (h' : readK M j v = some (L'.map inj')) : SrcL M (.zip k u j v) (L.zip L') (fun q => .tup [inj q.1, inj' q.2]) := by
  refine ⟨fun i hi => ?_, ?_⟩
  · show (match readK M k u with
    | some xs => (match readK M j v with
      | some ys => (match xs[i]?, ys[i]? with
        | some x, some y => some (some (PV.tup [x, y]))
        | _, _ => if (xs.length = i ∧ i ≤ ys.length) ∨ (ys.length = i ∧ i ≤ xs.length) then some none else none)
      | none => none)
    | none => none) = _
    rw [h, h']
    simp only [List.getElem?_map, List.length_map]
    rw [List.length_zip] at hi
    by_cases h1 : i < L.length
    · by_cases h2 : i < L'.length
      · have e : (L.zip L')[i]? = some (L[i], L'[i]) := by
          rw [List.getElem?_eq_getElem (by rw [List.length_zip]; omega)]
          simp
        rw [e, List.getElem?_eq_getElem h1, List.getElem?_eq_getElem h2]
        rfl
      · have e : (L.zip L')[i]? = none := by
          rw [List.getElem?_eq_none]
          rw [List.length_zip]; omega
        rw [e, List.getElem?_eq_none (by omega : L'.length ≤ i)]
        cases L[i]? <;> (simp; omega)
    · have e : (L.zip L')[i]? = none := by
        rw [List.getElem?_eq_none]
        rw [List.length_zip]; omega
      rw [e, List.getElem?_eq_none (by omega : L.length ≤ i)]
      simp; omega
  · show _ ≤ lenK M k u
    unfold lenK
    rw [h, List.length_zip]
    simp
    omega
theorem srcRng (lo : Int) (n : Nat) : SrcL M (.rng lo n) (List.range n) (fun i => .int (lo + (i : Nat))) := by
  refine ⟨fun i hi => ?_, ?_⟩
  · show some (if i < n then some (PV.int (lo + i)) else none) = _
    by_cases h : i < n
    · rw [if_pos h, List.getElem?_range h]
      rfl
    · rw [if_neg h, List.getElem?_eq_none (by simpa using h)]
      rfl
  · simp [srcLen]
theorem SrcL.len {k : Bool} {v : PV} (h : readK M k v = some (L.map inj)) : srcLen M (.sq k v) = L.length := by
  show lenK M k v = _
  unfold lenK
  rw [h]
  simp
/-- a list comprehension: p what is kept, g the element -/
theorem lcL_go {E : Ev} {e : ME} {t : MT} {ifs : List ME} {ρ : Rho} {p : α → Bool} {g : α → PV} (hs : SrcL M s L inj)
    (ht : ∀ x, x ∈ L → ∃ ρ1, E.asg t (inj x) ρ M = .val ρ1 M ∧ evIfs E ifs ρ1 M = .val (p x) M ∧ (p x = true → E.e e ρ1 M = .val (g x) M)) :
    ∀ (r pre : List α) (w : Nat) (acc : List PV), L = pre ++ r → r.length < w → acc.length + r.length ≤ 1000000 → lcL E e t ifs ρ w pre.length s acc M = .val (acc ++ (r.filter p).map g) M
  | [], pre, w + 1, acc, hL, _, _ => by
    rw [List.append_nil] at hL
    unfold lcL
    rw [hs.1 pre.length (by rw [hL]; exact Nat.le_refl _), hL]
    simp
  | x :: r, pre, w + 1, acc, hL, hw, ha => by
    obtain ⟨ρ1, h1, h2, h3⟩ := ht x (by rw [hL]; simp)
    have e0 : L[pre.length]? = some x := by rw [hL]; simp
    have ih := fun acc' h' => lcL_go hs ht r (pre ++ [x]) w acc' (by rw [hL]; simp) (by simpa using hw) h'
    rw [List.length_append] at ih
    unfold lcL
    rw [hs.1 pre.length (by rw [hL]; simp), e0]
    dsimp only [Option.map_some]
    rw [h1]
    dsimp only
    rw [h2]
    cases hp : p x with
    | true =>
      dsimp only
      rw [h3 hp]
      dsimp only
      rw [List.length_cons] at ha
      rw [if_pos (by omega)]
      rw [show pre.length + 1 = pre.length + [x].length from rfl, ih (acc ++ [g x]) (by simp; omega), List.filter_cons, hp]
      simp
    | false =>
      dsimp only
      rw [List.length_cons] at ha
      rw [show pre.length + 1 = pre.length + [x].length from rfl, ih acc (by omega), List.filter_cons, hp]
      simp
theorem lcL_items {E : Ev} {e : ME} {t : MT} {ifs : List ME} {ρ : Rho} {p : α → Bool} {g : α → PV} (hs : SrcL M s L inj) (hl : L.length ≤ 1000000)
    (ht : ∀ x, x ∈ L → ∃ ρ1, E.asg t (inj x) ρ M = .val ρ1 M ∧ evIfs E ifs ρ1 M = .val (p x) M ∧ (p x = true → E.e e ρ1 M = .val (g x) M)) :
    lcL E e t ifs ρ (srcLen M s + 1) 0 s [] M = .val ((L.filter p).map g) M := by
  have := lcL_go hs ht L [] (srcLen M s + 1) [] rfl (by have := hs.2; omega) (by simpa using hl)
  simpa using this
/-- without a test -/
theorem lcL_all {E : Ev} {e : ME} {t : MT} {ρ : Rho} {g : α → PV} (hs : SrcL M s L inj) (hl : L.length ≤ 1000000)
    (ht : ∀ x, x ∈ L → ∃ ρ1, E.asg t (inj x) ρ M = .val ρ1 M ∧ E.e e ρ1 M = .val (g x) M) :
    lcL E e t [] ρ (srcLen M s + 1) 0 s [] M = .val (L.map g) M := by
  rw [lcL_items (p := fun _ => true) hs hl fun x hx => let ⟨ρ1, h1, h2⟩ := ht x hx; ⟨ρ1, h1, rfl, fun _ => h2⟩]
  rw [List.filter_eq_self.mpr fun _ _ => rfl]
/-- a for loop, from turn to turn: st the state ahead of the i-th turn -/
theorem forL_go {E : Ev} {t : MT} {body : Rho → MH → SO} (L : List α) {st : List α → Rho → MH → Prop} {r' : SO} :
    (∀ pre ρ M, st pre ρ M → SrcL M s L inj) →
    (∀ pre x post ρ M, L = pre ++ x :: post → st pre ρ M → ∃ ρ1 M1, E.asg t (inj x) ρ M = .val ρ1 M1 ∧ ((∃ ρ2 M2, (body ρ1 M1 = .nx ρ2 M2 ∨ body ρ1 M1 = .ct ρ2 M2) ∧ st (pre ++ [x]) ρ2 M2) ∨ (body ρ1 M1 = r' ∧ (∀ a b, r' ≠ .nx a b) ∧ (∀ a b, r' ≠ .ct a b) ∧ ∀ a b, r' ≠ .bk a b))) →
    ∀ (r pre : List α) (w : Nat) (ρ : Rho) (M : MH), L = pre ++ r → r.length < w → st pre ρ M → (∃ ρ2 M2, forL E t body w pre.length s ρ M = .nx ρ2 M2 ∧ st L ρ2 M2) ∨ forL E t body w pre.length s ρ M = r' := by
  intro hs ht r
  induction r with
  | nil =>
    intro pre w ρ M hL hw h0
    rw [List.append_nil] at hL
    subst hL
    refine .inl ⟨ρ, M, ?_, h0⟩
    cases w with
    | zero => exact absurd hw (Nat.not_lt_zero _)
    | succ w =>
      unfold forL
      rw [(hs _ _ _ h0).1 L.length (Nat.le_refl _)]
      simp
  | cons x r ih =>
    intro pre w ρ M hL hw h0
    cases w with
    | zero => exact absurd hw (Nat.not_lt_zero _)
    | succ w =>
      obtain ⟨ρ1, M1, h1, h2⟩ := ht pre x r ρ M hL h0
      have e0 : L[pre.length]? = some x := by rw [hL]; simp
      have step : forL E t body (w + 1) pre.length s ρ M = (match body ρ1 M1 with
        | .nx ρ2 M2 => forL E t body w (pre.length + 1) s ρ2 M2
        | .ct ρ2 M2 => forL E t body w (pre.length + 1) s ρ2 M2
        | .bk ρ2 M2 => .nx ρ2 M2
        | r => r) := by
        conv => lhs; unfold forL
        rw [(hs _ _ _ h0).1 pre.length (by rw [hL]; simp), e0]
        dsimp only [Option.map_some]
        rw [h1]
        all_goals rfl
      rcases h2 with ⟨ρ2, M2, h3, h4⟩ | ⟨h3, n1, n2, n3⟩
      · have q := ih (pre ++ [x]) w ρ2 M2 (by rw [hL]; simp) (by simpa using hw) h4
        rw [List.length_append] at q
        rcases h3 with h3 | h3
        · rw [step, h3]
          exact q
        · rw [step, h3]
          exact q
      · right
        rw [step, h3]
        cases r' with
        | nx a b => exact absurd rfl (n1 a b)
        | ct a b => exact absurd rfl (n2 a b)
        | bk a b => exact absurd rfl (n3 a b)
        | _ => rfl
/-- a for loop that goes through -/
theorem forL_all {E : Ev} {t : MT} {body : Rho → MH → SO} {L : List α} {st : List α → Rho → MH → Prop} {ρ : Rho} {M : MH} (hs : ∀ pre ρ M, st pre ρ M → SrcL M s L inj)
    (ht : ∀ pre x post ρ M, L = pre ++ x :: post → st pre ρ M → ∃ ρ1 M1, E.asg t (inj x) ρ M = .val ρ1 M1 ∧ ∃ ρ2 M2, (body ρ1 M1 = .nx ρ2 M2 ∨ body ρ1 M1 = .ct ρ2 M2) ∧ st (pre ++ [x]) ρ2 M2) (h0 : st [] ρ M) :
    ∃ ρ2 M2, forL E t body (srcLen M s + 1) 0 s ρ M = .nx ρ2 M2 ∧ st L ρ2 M2 := by
  rcases forL_go (r' := .stuck) L hs (fun pre x post ρ M hL h => let ⟨ρ1, M1, h1, h2⟩ := ht pre x post ρ M hL h; ⟨ρ1, M1, h1, .inl h2⟩) L [] (srcLen M s + 1) ρ M rfl (by have := (hs _ _ _ h0).2; omega) h0 with h | h
  · exact h
  · exfalso
    have key : ∀ (r pre : List α) (w : Nat) (ρ : Rho) (M : MH), L = pre ++ r → r.length < w → st pre ρ M → ∃ ρ2 M2, forL E t body w pre.length s ρ M = .nx ρ2 M2 := by
      intro r
      induction r with
      | nil =>
        intro pre w ρ M hL hw h0
        rw [List.append_nil] at hL
        subst hL
        cases w with
        | zero => exact absurd hw (Nat.not_lt_zero _)
        | succ w =>
          refine ⟨ρ, M, ?_⟩
          unfold forL
          rw [(hs _ _ _ h0).1 L.length (Nat.le_refl _)]
          simp
      | cons x r ih =>
        intro pre w ρ M hL hw h0
        cases w with
        | zero => exact absurd hw (Nat.not_lt_zero _)
        | succ w =>
          obtain ⟨ρ1, M1, h1, ρ2, M2, h3, h4⟩ := ht pre x r ρ M hL h0
          have e0 : L[pre.length]? = some x := by rw [hL]; simp
          obtain ⟨ρ3, M3, q⟩ := ih (pre ++ [x]) w ρ2 M2 (by rw [hL]; simp) (by simpa using hw) h4
          rw [List.length_append] at q
          refine ⟨ρ3, M3, ?_⟩
          unfold forL
          rw [(hs _ _ _ h0).1 pre.length (by rw [hL]; simp), e0]
          dsimp only [Option.map_some]
          rw [h1]
          dsimp only
          rcases h3 with h3 | h3 <;> rw [h3] <;> exact q
    obtain ⟨ρ2, M2, q⟩ := key L [] (srcLen M s + 1) ρ M rfl (by have := (hs _ _ _ h0).2; omega) h0
    have q' : forL E t body (srcLen M s + 1) 0 s ρ M = .nx ρ2 M2 := q
    rw [show (0 : Nat) = ([] : List α).length from rfl, h] at q'
    cases q'
end
/-! ### all, any -/
theorem boolsOf_map {α : Type} (q : α → Bool) : ∀ xs : List α, boolsOf (xs.map fun x => PV.bl (q x)) = some (xs.map q)
  | [] => rfl
  | x :: xs => by
    rw [List.map_cons]
    unfold boolsOf
    rw [boolsOf_map q xs]
    rfl
@[simp] theorem bAll_map {α : Type} (m : Bool) (q : α → Bool) (xs : List α) (M : MH) : bltF .all m [.lst (xs.map fun x => PV.bl (q x))] M = .val (.bl (xs.all q)) M := by
  show bAll [.lst (xs.map fun x => PV.bl (q x))] M = _
  have e : readLL M (.lst (xs.map fun x => PV.bl (q x))) = some (xs.map fun x => PV.bl (q x)) := rfl
  unfold bAll
  dsimp only
  rw [e]
  dsimp only
  rw [boolsOf_map]
  simp [List.all_map, Function.comp_def]
@[simp] theorem bAny_map {α : Type} (m : Bool) (q : α → Bool) (xs : List α) (M : MH) : bltF .any m [.lst (xs.map fun x => PV.bl (q x))] M = .val (.bl (xs.any q)) M := by
  show bAny [.lst (xs.map fun x => PV.bl (q x))] M = _
  have e : readLL M (.lst (xs.map fun x => PV.bl (q x))) = some (xs.map fun x => PV.bl (q x)) := rfl
  unfold bAny
  dsimp only
  rw [e]
  dsimp only
  rw [boolsOf_map]
  simp [List.any_map, Function.comp_def]
theorem newL_f {xs : List PV} {M : MH} (h : xs.length ≤ 1000000) : newL false xs M = .val (.lst xs) M := by
  unfold newL
  rw [if_pos h]
  rfl
theorem newL_t {xs : List PV} {M : MH} (h : xs.length ≤ 1000000) : newL true xs M = .val (.ref M.length) (M ++ [.lst xs]) := by
  unfold newL
  rw [if_pos h]
  rfl
@[simp] theorem bLen_tup (m : Bool) (xs : List PV) (M : MH) : bltF .len m [.tup xs] M = .val (.int xs.length) M := rfl
@[simp] theorem bLen_lst (m : Bool) (xs : List PV) (M : MH) : bltF .len m [.lst xs] M = .val (.int xs.length) M := rfl
@[simp] theorem bInt_int (m : Bool) (i : Int) (M : MH) : bltF .int m [.int i] M = .val (.int i) M := rfl
theorem bTuple_lst (m : Bool) (xs : List PV) (M : MH) (h : xs.length ≤ 1000000) : bltF .tuple m [.lst xs] M = .val (.tup xs) M := by
  show (if xs.length ≤ 1000000 then Out.val (PV.tup xs) M else .stuck) = _
  rw [if_pos h]
theorem bTuple_tup (m : Bool) (xs : List PV) (M : MH) (h : xs.length ≤ 1000000) : bltF .tuple m [.tup xs] M = .val (.tup xs) M := by
  show (if xs.length ≤ 1000000 then Out.val (PV.tup xs) M else .stuck) = _
  rw [if_pos h]
theorem bList_tup (m : Bool) (xs : List PV) (M : MH) : bltF .list m [.tup xs] M = newL m xs M := rfl
theorem bList_lst (m : Bool) (xs : List PV) (M : MH) : bltF .list m [.lst xs] M = newL m xs M := rfl
@[simp] theorem zipK_tt (a b : List PV) (M : MH) : qZipK [.tup a, .tup b] M = .val (.zip true (.tup a) true (.tup b)) M := rfl
@[simp] theorem zipK_tl (a b : List PV) (M : MH) : qZipK [.tup a, .lst b] M = .val (.zip true (.tup a) false (.lst b)) M := rfl
@[simp] theorem zipK_lt (a b : List PV) (M : MH) : qZipK [.lst a, .tup b] M = .val (.zip false (.lst a) true (.tup b)) M := rfl
@[simp] theorem zipK_ll (a b : List PV) (M : MH) : qZipK [.lst a, .lst b] M = .val (.zip false (.lst a) false (.lst b)) M := rfl
@[simp] theorem enumK_t (a : List PV) (M : MH) : qEnumK [.tup a] M = .val (.enum true (.tup a)) M := rfl
@[simp] theorem enumK_l (a : List PV) (M : MH) : qEnumK [.lst a] M = .val (.enum false (.lst a)) M := rfl
@[simp] theorem readL_tup (M : MH) (a : List PV) : readL M (.tup a) = some a := rfl
@[simp] theorem readL_lst (M : MH) (a : List PV) : readL M (.lst a) = some a := rfl
theorem cutL_from {α : Type} (xs : List α) (i : Nat) : cutL xs (some (i : Int)) none = xs.drop i := by
  unfold cutL cutIx
  dsimp only
  rw [if_pos (by omega), Int.toNat_natCast]
  by_cases h : i ≤ xs.length
  · rw [Nat.min_eq_left h]
    exact List.take_of_length_le (by simp)
  · rw [Nat.min_eq_right (by omega), Nat.sub_self]
    rw [List.drop_eq_nil_of_le (by omega : xs.length ≤ i)]
    simp
theorem cutL_to {α : Type} (xs : List α) (i : Nat) : cutL xs none (some (i : Int)) = xs.take i := by
  unfold cutL cutIx
  dsimp only
  rw [if_pos (by omega), Int.toNat_natCast, Nat.sub_zero, List.drop_zero]
  by_cases h : i ≤ xs.length
  · rw [Nat.min_eq_left h]
  · rw [Nat.min_eq_right (by omega), List.take_of_length_le (Nat.le_refl _), List.take_of_length_le (by omega)]
@[simp] theorem cutL_1 {α : Type} (xs : List α) : cutL xs (some 1) none = xs.drop 1 := cutL_from xs 1
@[simp] theorem cutL_2 {α : Type} (xs : List α) : cutL xs (some 2) none = xs.drop 2 := cutL_from xs 2
@[simp] theorem cutL_t2 {α : Type} (xs : List α) : cutL xs none (some 2) = xs.take 2 := cutL_to xs 2
theorem getI_tup {xs : List PV} {i : Nat} {v : PV} {M : MH} (h : xs[i]? = some v) : getI (.tup xs) (.int i) M = some v := by
  have hl := (List.getElem?_eq_some_iff.mp h).1
  have e : ixOf xs.length (i : Int) = some i := by
    unfold ixOf
    rw [if_pos (by omega), if_pos (by omega)]
    simp
  show (match ixOf xs.length (i : Int) with | some j => xs[j]? | none => none) = _
  rw [e]
  exact h
theorem getI_lst {xs : List PV} {i : Nat} {v : PV} {M : MH} (h : xs[i]? = some v) : getI (.lst xs) (.int i) M = some v := getI_tup (M := M) h
section
variable (a b c e f g : PV) (r : List PV) (M : MH)
@[simp] theorem getI_t0 : getI (.tup (a :: r)) (.int 0) M = some a := getI_tup (i := 0) rfl
@[simp] theorem getI_t1 : getI (.tup (a :: b :: r)) (.int 1) M = some b := getI_tup (i := 1) rfl
@[simp] theorem getI_t2 : getI (.tup (a :: b :: c :: r)) (.int 2) M = some c := getI_tup (i := 2) rfl
@[simp] theorem getI_t3 : getI (.tup (a :: b :: c :: e :: r)) (.int 3) M = some e := getI_tup (i := 3) rfl
@[simp] theorem getI_t4 : getI (.tup (a :: b :: c :: e :: f :: r)) (.int 4) M = some f := getI_tup (i := 4) rfl
@[simp] theorem getI_t5 : getI (.tup (a :: b :: c :: e :: f :: g :: r)) (.int 5) M = some g := getI_tup (i := 5) rfl
@[simp] theorem getI_l0 : getI (.lst (a :: r)) (.int 0) M = some a := getI_lst (i := 0) rfl
@[simp] theorem getI_l1 : getI (.lst (a :: b :: r)) (.int 1) M = some b := getI_lst (i := 1) rfl
@[simp] theorem getI_l2 : getI (.lst (a :: b :: c :: r)) (.int 2) M = some c := getI_lst (i := 2) rfl
@[simp] theorem getI_l3 : getI (.lst (a :: b :: c :: e :: r)) (.int 3) M = some e := getI_lst (i := 3) rfl
@[simp] theorem getI_l4 : getI (.lst (a :: b :: c :: e :: f :: r)) (.int 4) M = some f := getI_lst (i := 4) rfl
end
end Mp
end

section
set_option Elab.async false
set_option linter.all false
set_option maxRecDepth 100000
set_option maxHeartbeats 4000000
/-! Pe3: lists and dicts that a def makes for itself. -/
namespace Mp
open PySem

theorem get_end (M : MH) (o : MO) : (M ++ [o])[M.length]? = some o := by simp
theorem set_end (M : MH) (o o' : MO) : (M ++ [o]).set M.length o' = M ++ [o'] := by simp
theorem view_ref {M : MH} {n : Nat} {xs : List PV} (h : M[n]? = some (.lst xs)) : view M (.ref n) = .lst xs := by
  show (match M[n]? with | some (.lst xs) => PV.lst xs | some (.dct kvs) => .dct kvs | some (.frz w) => w | _ => PV.ref n) = _
  rw [h]
def subK (o j x : PV) (ρ : Rho) (M2 : MH) : Out Rho :=
  match o with
  | .ref n => (match M2[n]?, j with
    | some (.lst xs), .int z => (match ixOf xs.length z with
      | some q => .val ρ (M2.set n (.lst (xs.set q x)))
      | none => .stuck)
    | some (.dct kvs), k => if isKey k && decide (kvs.length < 1000000) then .val ρ (M2.set n (.dct (putD k x kvs))) else .stuck
    | _, _ => .stuck)
  | _ => .stuck
@[simp] theorem stepA_sub (P : MP) (E : Ev) (a i : ME) (x : PV) (ρ : Rho) (M : MH) : stepA P E (.sub a i) x ρ M = (E.e a ρ M).bindX fun o M1 => (E.e i ρ M1).bindX fun j M2 => subK o j x ρ M2 := by kernel_rfl
theorem ixOf_nat {n i : Nat} (h : i < n) : ixOf n (i : Int) = some i := by
  unfold ixOf
  rw [if_pos (by omega), if_pos (by omega)]
  simp
theorem subK_lst {M : MH} {n i : Nat} {xs : List PV} (h : M[n]? = some (.lst xs)) (hi : i < xs.length) (x : PV) (ρ : Rho) : subK (.ref n) (.int (i : Int)) x ρ M = .val ρ (M.set n (.lst (xs.set i x))) := by
  unfold subK
  dsimp only
  rw [h]
  dsimp only
  rw [ixOf_nat hi]
theorem getI_ref {M : MH} {n i : Nat} {xs : List PV} {v : PV} (h : M[n]? = some (.lst xs)) (hi : xs[i]? = some v) : getI (.ref n) (.int (i : Int)) M = some v := by
  unfold getI
  rw [view_ref h]
  dsimp only
  rw [ixOf_nat (List.getElem?_eq_some_iff.mp hi).1]
  exact hi
theorem readL_ref {M : MH} {n : Nat} {xs : List PV} (h : M[n]? = some (.lst xs)) : readL M (.ref n) = some xs := by
  unfold readL
  rw [view_ref h]
theorem bTuple_ref {M : MH} {n : Nat} {xs : List PV} (m : Bool) (h : M[n]? = some (.lst xs)) (hl : xs.length ≤ 1000000) : bltF .tuple m [.ref n] M = .val (.tup xs) M := by
  show (match readL M (.ref n) with | some ys => if ys.length ≤ 1000000 then Out.val (PV.tup ys) M else .stuck | none => .stuck) = _
  rw [readL_ref h]
  dsimp only
  rw [if_pos hl]
theorem isLst_ref {M : MH} {n : Nat} {xs : List PV} (h : M[n]? = some (.lst xs)) : isLst (.ref n) M = true := by
  show (match M[n]? with | some (.lst _) => true | _ => false) = true
  rw [h]
theorem app_ref {M : MH} {n : Nat} {xs : List PV} (h : M[n]? = some (.lst xs)) (hl : xs.length < 1000000) (y : PV) : bmF .append (.ref n) [y] M = .val .non (M.set n (.lst (xs ++ [y]))) := by
  show (match M[n]? with
    | some (.lst ys) => if ys.length < 1000000 then Out.val PV.non (M.set n (.lst (ys ++ [y]))) else .stuck
    | _ => .stuck) = _
  rw [h]
  dsimp only
  rw [if_pos hl]
@[simp] theorem bMin2_int (m : Bool) (i j : Int) (M : MH) : bltF .min2 m [.int i, .int j] M = .val (.int (if j < i then j else i)) M := rfl
/-! ### a dict comprehension with keys that are numbers, all different -/
theorem putD_new {k v : PV} {kvs : List (PV × PV)} (h : ∀ p, p ∈ kvs → keyEq p.1 k = false) : putD k v kvs = kvs ++ [(k, v)] := by
  unfold putD
  rw [if_neg]
  intro e
  obtain ⟨p, hp, hk⟩ := List.any_eq_true.mp e
  rw [h p hp] at hk
  cases hk
section
variable {α : Type} {L : List α} {inj : α → PV} {M : MH} {s : Src}
theorem dcL_go {E : Ev} {k v : ME} {t : MT} {ρ : Rho} {f g : α → PV} (hs : SrcL M s L inj)
    (ht : ∀ x, x ∈ L → ∃ ρ1, E.asg t (inj x) ρ M = .val ρ1 M ∧ E.e k ρ1 M = .val (f x) M ∧ E.e v ρ1 M = .val (g x) M ∧ isKey (f x) = true) (hd : L.Pairwise fun a b => keyEq (f a) (f b) = false) :
    ∀ (r pre : List α) (w : Nat), L = pre ++ r → r.length < w → L.length ≤ 1000000 → dcL E k v t [] ρ w pre.length s (pre.map fun x => (f x, g x)) M = .val (L.map fun x => (f x, g x)) M
  | [], pre, w + 1, hL, _, _ => by
    rw [List.append_nil] at hL
    unfold dcL
    rw [hs.1 pre.length (by rw [hL]; exact Nat.le_refl _), hL]
    simp
  | x :: r, pre, w + 1, hL, hw, hl => by
    obtain ⟨ρ1, h1, h2, h3, h4⟩ := ht x (by rw [hL]; simp)
    have e0 : L[pre.length]? = some x := by rw [hL]; simp
    have hlen : pre.length < 1000000 := by
      have : L.length = pre.length + (r.length + 1) := by rw [hL]; simp
      omega
    have ih := dcL_go hs ht hd r (pre ++ [x]) w (by rw [hL]; simp) (by simpa using hw) hl
    rw [List.length_append] at ih
    unfold dcL
    rw [hs.1 pre.length (by rw [hL]; simp), e0]
    dsimp only [Option.map_some]
    rw [h1]
    dsimp only
    show (match evIfs E [] ρ1 M with
      | .val true M2 => (match E.e k ρ1 M2 with
        | .val y M3 => (match E.e v ρ1 M3 with
          | .val z M4 => if isKey y && decide ((pre.map fun x => (f x, g x)).length < 1000000) then dcL E k v t [] ρ w (pre.length + 1) s (putD y z (pre.map fun x => (f x, g x))) M4 else .stuck
          | _ => .stuck)
        | _ => .stuck)
      | .val false M2 => dcL E k v t [] ρ w (pre.length + 1) s (pre.map fun x => (f x, g x)) M2
      | _ => .stuck) = _
    rw [evIfs_nil]
    dsimp only
    rw [h2]
    dsimp only
    rw [h3]
    dsimp only
    rw [h4, List.length_map, decide_eq_true hlen]
    rw [Bool.and_self, if_pos rfl, putD_new]
    · rw [show pre.length + 1 = pre.length + [x].length from rfl]
      rw [List.map_append] at ih
      exact ih
    · intro p hp
      obtain ⟨y, hy, rfl⟩ := List.mem_map.mp hp
      rw [hL, List.pairwise_append] at hd
      exact hd.2.2 y hy x List.mem_cons_self
theorem dcL_all {E : Ev} {k v : ME} {t : MT} {ρ : Rho} {f g : α → PV} (hs : SrcL M s L inj) (hl : L.length ≤ 1000000)
    (ht : ∀ x, x ∈ L → ∃ ρ1, E.asg t (inj x) ρ M = .val ρ1 M ∧ E.e k ρ1 M = .val (f x) M ∧ E.e v ρ1 M = .val (g x) M ∧ isKey (f x) = true) (hd : L.Pairwise fun a b => keyEq (f a) (f b) = false) :
    dcL E k v t [] ρ (srcLen M s + 1) 0 s [] M = .val (L.map fun x => (f x, g x)) M :=
  dcL_go hs ht hd L [] (srcLen M s + 1) rfl (by have := hs.2; omega) hl
end
end Mp
end

section
set_option Elab.async false
set_option linter.all false
set_option maxRecDepth 1000000
set_option maxHeartbeats 4000000
/-! Pk0: the terms of the package's defs and of the helpers that many laws share. -/
namespace Mp.Pk
open PySem Mp
def m__law_number : MFn := ⟨2, 8, [], [
  .asg (.nm 2) (.ite (.cmp .ne (.var 0) (.lst false [])) (.slc (.var 0) none (some (.lit (.int 63)))) (.lst false [(false, (.lit (.int 5)))])),
  .asg (.nm 3) (.bin .add false (.idx (.var 2) (.bin .mod false (.blt .int false [(.var 1)]) (.blt .len false [(.var 2)]))) (.bin .mul false (.lit (.int 13)) (.bin .fdiv false (.var 1) (.blt .len false [(.var 2)])))),
  .par [4, 5] [(.bin .mod false (.blt .int false [(.var 3)]) (.lit (.int 1000003))), (.bin .mod false (.blt .int false [(.bin .fdiv false (.var 3) (.lit (.int 1000003)))]) (.lit (.int 999983)))],
  .asg (.nm 6) (.bin .mod false (.blt .int false [(.blt .sum false [(.var 2)])]) (.lit (.int 65521))),
  .asg (.nm 7) (.bin .mod false (.blt .int false [(.bin .add false (.bin .add false (.bin .mul false (.bin .add false (.var 4) (.bin .mul false (.lit (.int 977)) (.var 1))) (.lit (.int 48271))) (.bin .mul false (.lit (.int 31)) (.var 5))) (.var 6))]) (.lit (.int 2147483647))),
  .ret (.bin .add false (.bin .mul false (.bin .mod false (.blt .int false [(.bin .mul false (.var 7) (.bin .add false (.bin .add false (.var 7) (.bin .mul false (.lit (.int 31)) (.var 1))) (.lit (.int 7))))]) (.lit (.int 2147483629))) (.lit (.int 65537))) (.var 5))]⟩
def m_is_number : MFn := ⟨3, 3, [], [
  .ret (.and [(.isi (.var 0) [.int]), (.not (.isi (.var 0) [.bool])), (.chain .le .le (.var 1) (.var 0) (.var 2))])]⟩
def m_is_word : MFn := ⟨2, 2, [], [
  .ret (.and [(.isi (.var 0) [.str]), (.cmp .in_ (.var 0) (.var 1))])]⟩
def m_are_marks : MFn := ⟨1, 4, [], [
  .ifs (.or [(.not (.isi (.var 0) [.tuple])), (.not (.blt .all false [(.lc false [1] (.call 1 true [(.var 1), (.con 4)]) (.nm 1) (.seq (.var 0)) [])]))]) [.ret (.lit (.bl false))] [],
  .ret (.blt .all false [(.lc false [2, 3] (.cmp .lt (.var 2) (.var 3)) (.tup [(.nm 2), (.nm 3)]) (.zip (.var 0) (.slc (.var 0) (some (.lit (.int 1))) none)) [])])]⟩
def m_Line__init : MFn := ⟨6, 9, [(.str (PySem.Str.ofString "all")), (.tup [])], [
  .asg (.nm 6) (.tup [(false, (.var 1)), (false, (.var 2)), (false, (.var 3))]),
  .for_ (.tup [(.nm 7), (.nm 8)]) (.zip (.con 5) (.var 6)) [.ifs (.not (.call 0 true [(.var 8), (.lit (.int 1)), (.lit (.int 2))])) [.bad] []],
  .ifs (.not (.call 1 true [(.var 4), (.con 3)])) [.bad] [],
  .ifs (.not (.call 2 true [(.var 5)])) [.bad] [],
  .asg (.att (.var 0) 0) (.var 1),
  .asg (.att (.var 0) 1) (.var 2),
  .asg (.att (.var 0) 2) (.var 3),
  .asg (.att (.var 0) 3) (.var 4),
  .asg (.att (.var 0) 4) (.var 5)]⟩
def m__law_plain : MFn := ⟨2, 9, [], [
  .asg (.tup [(.nm 2), (.nm 3), (.nm 4)]) (.idx (.var 1) (.bin .mod false (.blt .int false [(.var 0)]) (.blt .len false [(.var 1)]))),
  .asg (.nm 5) (.idx (.tup [(false, (.lit (.str (PySem.Str.ofString "none")))), (false, (.lit (.str (PySem.Str.ofString "first")))), (false, (.lit (.str (PySem.Str.ofString "unread")))), (false, (.lit (.str (PySem.Str.ofString "all")))), (false, (.lit (.str (PySem.Str.ofString "all"))))]) (.bin .mod false (.blt .int false [(.bin .fdiv false (.var 0) (.lit (.int 10)))]) (.lit (.int 5)))),
  .asg (.nm 6) (.lst true []),
  .for_ (.tup [(.nm 7), (.nm 8)]) (.enum (.tup [(false, (.lit (.str (PySem.Str.ofString "barred")))), (false, (.lit (.str (PySem.Str.ofString "fresh")))), (false, (.lit (.str (PySem.Str.ofString "kept")))), (false, (.lit (.str (PySem.Str.ofString "named"))))])) [.ifs (.cmp .eq (.bin .mod false (.blt .int false [(.bin .fdiv false (.var 0) (.idx (.tup [(false, (.lit (.int 50))), (false, (.lit (.int 150))), (false, (.lit (.int 450))), (false, (.lit (.int 1350)))]) (.var 7)))]) (.lit (.int 3))) (.lit (.int 0))) [.expr (.bm .append (.var 6) [(.var 8)])] []],
  .ret (.tup [(false, (.var 2)), (false, (.var 3)), (false, (.var 4)), (false, (.var 5)), (false, (.blt .tuple false [(.var 6)]))])]⟩
def m__law_line : MFn := ⟨1, 1, [], [
  .ret (.mk 0 [(.idx (.var 0) (.lit (.int 0))), (.idx (.var 0) (.lit (.int 1))), (.idx (.var 0) (.lit (.int 2))), (.idx (.var 0) (.lit (.int 3))), (.idx (.var 0) (.lit (.int 4)))])]⟩
def m__law_first : MFn := ⟨0, 0, [], [
  .ret (.tup [(false, (.lit (.bl true))), (false, (.tup [])), (false, (.tup [])), (false, (.tup [])), (false, (.tup [])), (false, (.lit .non))])]⟩
def m_first_state : MFn := ⟨1, 1, [], [
  .expr (.call 11 true [(.var 0)]),
  .ret (.con 0)]⟩
def m__law_deeds : MFn := ⟨2, 6, [], [
  .asg (.nm 2) (.lst true []),
  .for_ (.nm 3) (.rng1 (.idx (.var 0) (.lit (.int 0)))) [.asg (.nm 4) (.blt .len false [(.lc false [5] (.var 5) (.nm 5) (.seq (.call 51 true [(.var 1)])) [(.cmp .eq (.idx (.var 5) (.lit (.int 1))) (.var 3))])]), .ifs (.and [(.idx (.var 1) (.lit (.str (PySem.Str.ofString "open")))), (.cmp .lt (.var 4) (.idx (.var 0) (.lit (.int 1))))]) [.expr (.bm .append (.var 2) [(.tup [(false, (.lit (.str (PySem.Str.ofString "ask")))), (false, (.var 3))])])] []],
  .asg (.nm 2) (.bin .add true (.bin .add false (.var 2) (.ite (.cmp .ne (.idx (.var 1) (.lit (.str (PySem.Str.ofString "row")))) (.lst false [])) (.lst false [(false, (.tup [(false, (.lit (.str (PySem.Str.ofString "do"))))]))]) (.lst false []))) (.ite (.cmp .ne (.idx (.var 1) (.lit (.str (PySem.Str.ofString "elder")))) (.lst false [])) (.lst false [(false, (.tup [(false, (.lit (.str (PySem.Str.ofString "late"))))]))]) (.lst false []))),
  .asg (.nm 2) (.bin .add true (.var 2) (.ite (.cmp .ne (.idx (.var 1) (.lit (.str (PySem.Str.ofString "under")))) (.lst false [])) (.lst false [(false, (.tup [(false, (.lit (.str (PySem.Str.ofString "piece"))))]))]) (.lst false []))),
  .ifs (.not (.idx (.var 1) (.lit (.str (PySem.Str.ofString "open"))))) [.ret (.bin .add false (.var 2) (.lst false [(false, (.tup [(false, (.lit (.str (PySem.Str.ofString "open"))))]))]))] [],
  .ret (.bin .add false (.var 2) (.lc false [4] (.tup [(false, (.lit (.str (PySem.Str.ofString "cut")))), (false, (.var 4))]) (.nm 4) (.rng1 (.bin .add false (.blt .len false [(.idx (.var 1) (.lit (.str (PySem.Str.ofString "row"))))]) (.lit (.int 1)))) []))]⟩
def m__law_world : MFn := ⟨1, 5, [], [
  .asg (.nm 1) (.lc false [2, 3] (.lst false [(false, (.var 2)), (false, (.idx (.var 3) (.lit (.int 0)))), (false, (.idx (.var 3) (.lit (.int 1)))), (false, (.idx (.var 3) (.lit (.int 2)))), (false, (.idx (.var 3) (.lit (.int 3))))]) (.tup [(.nm 2), (.nm 3)]) (.enum (.idx (.var 0) (.lit (.int 1)))) []),
  .ret (.dsp false [(.lit (.str (PySem.Str.ofString "open"))), (.lit (.str (PySem.Str.ofString "asks"))), (.lit (.str (PySem.Str.ofString "row"))), (.lit (.str (PySem.Str.ofString "elder"))), (.lit (.str (PySem.Str.ofString "under"))), (.lit (.str (PySem.Str.ofString "half"))), (.lit (.str (PySem.Str.ofString "next")))] [(.idx (.var 0) (.lit (.int 0))), (.var 1), (.blt .list false [(.idx (.var 0) (.lit (.int 2)))]), (.blt .list false [(.idx (.var 0) (.lit (.int 3)))]), (.lc false [4] (.blt .list false [(.var 4)]) (.nm 4) (.seq (.idx (.var 0) (.lit (.int 4)))) []), (.idx (.var 0) (.lit (.int 5))), (.blt .len false [(.var 1)])])]⟩
def m_after : MFn := ⟨3, 3, [], [
  .expr (.call 41 true [(.var 0), (.var 1), (.var 2)]),
  .ret (.idx (.call 34 true [(.var 0), (.var 1), (.var 2)]) (.lit (.int 0)))]⟩
def m_is_state : MFn := ⟨2, 2, [], [
  .expr (.call 11 true [(.var 0)]),
  .ret (.call 20 true [(.var 0), (.var 1)])]⟩
def m_done_counts : MFn := ⟨3, 4, [], [
  .expr (.call 21 true [(.var 0), (.var 1)]),
  .expr (.call 12 true [(.var 0), (.var 2)]),
  .ret (.lc false [3] (.idx (.idx (.idx (.var 1) (.lit (.int 1))) (.var 3)) (.lit (.int 2))) (.nm 3) (.seq (.call 17 true [(.idx (.var 1) (.lit (.int 1))), (.var 2)])) [])]⟩
def m_check_line : MFn := ⟨1, 1, [], [
  .ifs (.not (.isi (.var 0) [(.own 0)])) [.bad] []]⟩
def m__law_open : MFn := ⟨1, 2, [], [
  .ret (.lc false [1] (.var 1) (.nm 1) (.seq (.idx (.var 0) (.lit (.str (PySem.Str.ofString "asks"))))) [(.cmp .eq (.idx (.var 1) (.lit (.int 2))) (.lit (.str (PySem.Str.ofString "open"))))])]⟩
def m_check_deed : MFn := ⟨3, 3, [], [
  .expr (.call 21 true [(.var 0), (.var 1)]),
  .ifs (.not (.call 26 true [(.var 0), (.var 2)])) [.bad] [],
  .ifs (.not (.call 27 true [(.var 0), (.var 1), (.var 2)])) [.bad] []]⟩
def m_outcome : MFn := ⟨3, 11, [], [
  .asg (.tup [(.nm 3), (.nm 4), (.nm 5), (.nm 6), (.nm 7), (.nm 8)]) (.var 1),
  .asg (.nm 9) (.lst false []),
  .ifs (.cmp .eq (.idx (.var 2) (.lit (.int 0))) (.lit (.str (PySem.Str.ofString "ask")))) [.par [4, 5] [(.tup [(true, (.var 4)), (false, (.tup [(false, (.idx (.var 2) (.lit (.int 1)))), (false, (.lit (.str (PySem.Str.ofString "open")))), (false, (.lit (.int 0))), (false, (.lit (.bl false)))]))]), (.tup [(true, (.var 5)), (false, (.blt .len false [(.var 4)]))])]] [.ifs (.cmp .eq (.idx (.var 2) (.lit (.int 0))) (.lit (.str (PySem.Str.ofString "do")))) [.asg (.tup [(.nm 4), (.nm 9)]) (.call 29 true [(.var 0), (.var 4), (.idx (.var 5) (.lit (.int 0)))]), .par [5, 7] [(.slc (.var 5) (some (.lit (.int 1))) none), (.tup [(true, (.var 7)), (false, (.tup [(false, (.idx (.var 5) (.lit (.int 0)))), (false, (.att (.var 0) 2))]))])]] [.ifs (.cmp .eq (.idx (.var 2) (.lit (.int 0))) (.lit (.str (PySem.Str.ofString "late")))) [.asg (.tup [(.nm 4), (.nm 9)]) (.call 29 true [(.var 0), (.var 4), (.idx (.var 6) (.lit (.int 0)))]), .asg (.nm 6) (.slc (.var 6) (some (.lit (.int 1))) none)] [.ifs (.cmp .eq (.idx (.var 2) (.lit (.int 0))) (.lit (.str (PySem.Str.ofString "open")))) [.par [3, 5] [(.lit (.bl true)), (.blt .tuple false [(.call 16 true [(.var 4)])])], .asg (.nm 6) (.ite (.cmp .in_ (.lit (.str (PySem.Str.ofString "barred"))) (.att (.var 0) 4)) (.tup []) (.var 6))] [.asg (.tup [(.nm 10), (.nm 9)]) (.ite (.cmp .eq (.idx (.var 2) (.lit (.int 0))) (.lit (.str (PySem.Str.ofString "piece")))) (.call 31 true [(.var 0), (.var 1)]) (.call 33 true [(.var 0), (.var 1), (.idx (.var 2) (.lit (.int 1)))])), .ret (.tup [(false, (.call 22 true [(.var 10)])), (false, (.var 9))])]]]],
  .ret (.tup [(false, (.call 22 true [(.tup [(false, (.var 3)), (false, (.var 4)), (false, (.var 5)), (false, (.var 6)), (false, (.var 7)), (false, (.var 8))])])), (false, (.var 9))])]⟩
def m_is_state_of : MFn := ⟨2, 5, [], [
  .ifs (.or [(.not (.isi (.var 1) [.tuple])), (.cmp .ne (.blt .len false [(.var 1)]) (.lit (.int 6))), (.not (.isi (.idx (.var 1) (.lit (.int 0))) [.bool]))]) [.ret (.lit (.bl false))] [],
  .asg (.nm 2) (.idx (.var 1) (.lit (.int 1))),
  .ifs (.or [(.not (.isi (.var 2) [.tuple])), (.not (.blt .all false [(.lc false [3] (.call 13 true [(.var 0), (.var 3)]) (.nm 3) (.seq (.var 2)) [])]))]) [.ret (.lit (.bl false))] [],
  .ifs (.not (.call 19 true [(.var 0), (.var 2), (.var 1)])) [.ret (.lit (.bl false))] [],
  .ifs (.and [(.not (.idx (.var 1) (.lit (.int 0)))), (.or [(.cmp .ne (.idx (.var 1) (.lit (.int 2))) (.tup [])), (.cmp .ne (.idx (.var 1) (.lit (.int 4))) (.tup [])), (.and [(.cmp .in_ (.lit (.str (PySem.Str.ofString "fresh"))) (.att (.var 0) 4)), (.cmp .isnot (.idx (.var 1) (.lit (.int 5))) (.lit .non))])])]) [.ret (.lit (.bl false))] [],
  .ifs (.not (.blt .all false [(.lc false [4] (.cmp .le (.blt .len false [(.call 17 true [(.var 2), (.var 4)])]) (.att (.var 0) 1)) (.nm 4) (.rng1 (.att (.var 0) 0)) [])])) [.ret (.lit (.bl false))] [],
  .ret (.cmp .eq (.call 18 true [(.var 1)]) (.blt .rlist false [(.blt .len false [(.var 2)])]))]⟩
def m_check_state : MFn := ⟨2, 2, [], [
  .expr (.call 11 true [(.var 0)]),
  .ifs (.not (.call 20 true [(.var 0), (.var 1)])) [.bad] []]⟩
def m_check_asker : MFn := ⟨2, 2, [], [
  .ifs (.not (.call 0 true [(.var 1), (.lit (.int 0)), (.bin .sub false (.att (.var 0) 0) (.lit (.int 1)))])) [.bad] []]⟩
def m_open_of : MFn := ⟨2, 3, [], [
  .ret (.lc false [2] (.var 2) (.nm 2) (.seq (.call 16 true [(.var 0)])) [(.cmp .eq (.idx (.idx (.var 0) (.var 2)) (.lit (.int 0))) (.var 1))])]⟩
def m_is_deed : MFn := ⟨2, 2, [], [
  .ifs (.or [(.not (.isi (.var 1) [.tuple])), (.cmp .eq (.var 1) (.tup [])), (.not (.isi (.idx (.var 1) (.lit (.int 0))) [.str]))]) [.ret (.lit (.bl false))] [],
  .ifs (.cmp .in_ (.idx (.var 1) (.lit (.int 0))) (.con 6)) [.ret (.cmp .eq (.blt .len false [(.var 1)]) (.lit (.int 1)))] [],
  .ifs (.cmp .eq (.idx (.var 1) (.lit (.int 0))) (.lit (.str (PySem.Str.ofString "ask")))) [.ret (.and [(.cmp .eq (.blt .len false [(.var 1)]) (.lit (.int 2))), (.call 0 true [(.idx (.var 1) (.lit (.int 1))), (.lit (.int 0)), (.bin .sub false (.att (.var 0) 0) (.lit (.int 1)))])])] [],
  .ifs (.or [(.cmp .ne (.idx (.var 1) (.lit (.int 0))) (.lit (.str (PySem.Str.ofString "cut")))), (.cmp .ne (.blt .len false [(.var 1)]) (.lit (.int 2))), (.not (.isi (.idx (.var 1) (.lit (.int 1))) [.int])), (.isi (.idx (.var 1) (.lit (.int 1))) [.bool])]) [.ret (.lit (.bl false))] [],
  .ret (.cmp .ge (.idx (.var 1) (.lit (.int 1))) (.lit (.int 0)))]⟩
def m_can_do : MFn := ⟨3, 9, [], [
  .asg (.tup [(.nm 3), (.nm 4), (.nm 5), (.nm 6), (.nm 7), (.nm 8)]) (.var 1),
  .ifs (.cmp .eq (.idx (.var 2) (.lit (.int 0))) (.lit (.str (PySem.Str.ofString "ask")))) [.ret (.and [(.var 3), (.cmp .lt (.blt .len false [(.call 17 true [(.var 4), (.idx (.var 2) (.lit (.int 1)))])]) (.att (.var 0) 1))])] [],
  .ifs (.cmp .eq (.idx (.var 2) (.lit (.int 0))) (.lit (.str (PySem.Str.ofString "do")))) [.ret (.cmp .ne (.var 5) (.tup []))] [],
  .ifs (.cmp .eq (.idx (.var 2) (.lit (.int 0))) (.lit (.str (PySem.Str.ofString "late")))) [.ret (.cmp .ne (.var 6) (.tup []))] [],
  .ifs (.cmp .eq (.idx (.var 2) (.lit (.int 0))) (.lit (.str (PySem.Str.ofString "piece")))) [.ret (.cmp .ne (.var 7) (.tup []))] [],
  .ret (.ite (.cmp .eq (.idx (.var 2) (.lit (.int 0))) (.lit (.str (PySem.Str.ofString "cut")))) (.and [(.var 3), (.cmp .le (.idx (.var 2) (.lit (.int 1))) (.blt .len false [(.var 5)]))]) (.not (.var 3)))]⟩
def m_taken_up : MFn := ⟨3, 13, [], [
  .asg (.tup [(.nm 3), (.nm 4), (.nm 5), (.nm 6)]) (.idx (.var 1) (.var 2)),
  .ifs (.and [(.cmp .in_ (.lit (.str (PySem.Str.ofString "kept"))) (.att (.var 0) 4)), (.cmp .gt (.var 5) (.lit (.int 0)))]) [.ret (.tup [(false, (.var 1)), (false, (.lst false []))])] [],
  .asg (.nm 7) (.lc false [8, 9] (.var 8) (.tup [(.nm 8), (.nm 9)]) (.zip (.slc (.con 7) (some (.lit (.int 1))) none) (.tup [(false, (.cmp .gt (.var 5) (.lit (.int 0)))), (false, (.var 6)), (false, (.cmp .eq (.var 4) (.lit (.str (PySem.Str.ofString "lost")))))])) [(.var 9)]),
  .asg (.nm 10) (.lst true []),
  .for_ (.tup [(.nm 11), (.nm 12)]) (.enum (.var 1)) [.ifs (.and [(.cmp .lt (.var 11) (.var 2)), (.cmp .eq (.idx (.var 12) (.lit (.int 0))) (.var 3))]) [.asg (.nm 12) (.tup [(true, (.slc (.var 12) none (some (.lit (.int 3))))), (false, (.lit (.bl true)))])] [], .expr (.bm .append (.var 10) [(.ite (.cmp .eq (.var 11) (.var 2)) (.tup [(false, (.var 3)), (false, (.var 4)), (false, (.blt .min2 false [(.con 2), (.bin .add false (.var 5) (.lit (.int 1)))])), (false, (.var 6))]) (.var 12))])],
  .ret (.tup [(false, (.blt .tuple false [(.var 10)])), (false, (.var 7))])]⟩
def m_open_asks : MFn := ⟨1, 3, [], [
  .ret (.lc false [1, 2] (.var 1) (.tup [(.nm 1), (.nm 2)]) (.enum (.var 0)) [(.cmp .eq (.idx (.var 2) (.lit (.int 1))) (.lit (.str (PySem.Str.ofString "open"))))])]⟩
def m_read : MFn := ⟨2, 13, [], [
  .asg (.tup [(.nm 2), (.nm 3), (.nm 4), (.nm 5), (.nm 6), (.nm 7)]) (.var 1),
  .asg (.tup [(.nm 8), (.nm 9)]) (.idx (.var 6) (.lit (.int 0))),
  .asg (.nm 10) (.ite (.cmp .eq (.var 9) (.lit (.int 1))) (.slc (.var 6) (some (.lit (.int 1))) none) (.tup [(false, (.tup [(false, (.var 8)), (false, (.bin .sub false (.var 9) (.lit (.int 1))))])), (true, (.slc (.var 6) (some (.lit (.int 1))) none))])),
  .ifs (.and [(.cmp .in_ (.lit (.str (PySem.Str.ofString "named"))) (.att (.var 0) 4)), (.cmp .ne (.var 7) (.var 8))]) [.asg (.nm 7) (.lit .non)] [],
  .ifs (.and [(.cmp .eq (.att (.var 0) 2) (.lit (.int 2))), (.cmp .is_ (.var 7) (.lit .non))]) [.ret (.tup [(false, (.tup [(false, (.var 2)), (false, (.var 3)), (false, (.var 4)), (false, (.var 5)), (false, (.var 10)), (false, (.var 8))])), (false, (.lst false []))])] [],
  .asg (.nm 11) (.call 30 true [(.var 0), (.var 3), (.var 8)]),
  .ifs (.cmp .is_ (.var 11) (.lit .non)) [.ret (.tup [(false, (.tup [(false, (.var 2)), (false, (.var 3)), (false, (.var 4)), (false, (.var 5)), (false, (.var 10)), (false, (.lit .non))])), (false, (.lst false []))])] [],
  .asg (.nm 12) (.and [(.cmp .eq (.var 11) (.var 8)), (.or [(.cmp .is_ (.var 7) (.lit .non)), (.cmp .eq (.var 7) (.var 8))])]),
  .ret (.tup [(false, (.tup [(false, (.var 2)), (false, (.call 28 true [(.var 3), (.var 11), (.lit (.str (PySem.Str.ofString "told")))])), (false, (.var 4)), (false, (.var 5)), (false, (.var 10)), (false, (.lit .non))])), (false, (.ite (.var 12) (.lst false []) (.lst false [(false, (.lit (.str (PySem.Str.ofString "own"))))])))])]⟩
def m_cut : MFn := ⟨3, 12, [], [
  .asg (.tup [(.nm 3), (.nm 4), (.nm 5), (.nm 6), (.nm 7), (.nm 8)]) (.var 1),
  .asg (.nm 9) (.call 32 true [(.var 0), (.var 4), (.var 8)]),
  .asg (.nm 10) (.ite (.blt .any false [(.lc false [11] (.cmp .gt (.idx (.idx (.var 4) (.var 11)) (.lit (.int 2))) (.lit (.int 0))) (.nm 11) (.seq (.var 9)) [])]) (.lst false [(false, (.lit (.str (PySem.Str.ofString "lost"))))]) (.lst false [])),
  .for_ (.nm 11) (.seq (.var 9)) [.asg (.nm 4) (.call 28 true [(.var 4), (.var 11), (.lit (.str (PySem.Str.ofString "lost")))])],
  .ret (.tup [(false, (.tup [(false, (.lit (.bl false))), (false, (.var 4)), (false, (.tup [])), (false, (.slc (.var 5) none (some (.var 2)))), (false, (.tup [])), (false, (.ite (.cmp .in_ (.lit (.str (PySem.Str.ofString "fresh"))) (.att (.var 0) 4)) (.lit .non) (.var 8)))])), (false, (.var 10))])]⟩
def m_tidied : MFn := ⟨1, 12, [], [
  .asg (.tup [(.nm 1), (.nm 2), (.nm 3), (.nm 4), (.nm 5), (.nm 6)]) (.var 0),
  .asg (.nm 7) (.call 18 true [(.var 0)]),
  .asg (.nm 8) (.dc false [9, 10] (.var 10) (.var 9) (.tup [(.nm 9), (.nm 10)]) (.enum (.var 7)) []),
  .ret (.tup [(false, (.var 1)), (false, (.blt .tuple false [(.lc false [10] (.idx (.var 2) (.var 10)) (.nm 10) (.seq (.var 7)) [])])), (false, (.blt .tuple false [(.lc false [10] (.idx (.var 8) (.var 10)) (.nm 10) (.seq (.var 3)) [])])), (false, (.blt .tuple false [(.lc false [10] (.idx (.var 8) (.var 10)) (.nm 10) (.seq (.var 4)) [])])), (false, (.blt .tuple false [(.lc false [10, 11] (.tup [(false, (.idx (.var 8) (.var 10))), (false, (.var 11))]) (.tup [(.nm 10), (.nm 11)]) (.seq (.var 5)) [])])), (false, (.ite (.cmp .is_ (.var 6) (.lit .non)) (.lit .non) (.idx (.var 8) (.var 6))))])]⟩
def m_is_ask : MFn := ⟨2, 2, [], [
  .ifs (.or [(.not (.isi (.var 1) [.tuple])), (.cmp .ne (.blt .len false [(.var 1)]) (.lit (.int 4))), (.not (.call 0 true [(.idx (.var 1) (.lit (.int 0))), (.lit (.int 0)), (.bin .sub false (.att (.var 0) 0) (.lit (.int 1)))]))]) [.ret (.lit (.bl false))] [],
  .ret (.and [(.call 1 true [(.idx (.var 1) (.lit (.int 1))), (.con 1)]), (.call 0 true [(.idx (.var 1) (.lit (.int 2))), (.lit (.int 0)), (.con 2)]), (.isi (.idx (.var 1) (.lit (.int 3))) [.bool])])]⟩
def m_are_parts : MFn := ⟨3, 4, [], [
  .asg (.nm 3) (.blt .len false [(.var 1)]),
  .ifs (.or [(.not (.call 14 true [(.idx (.var 2) (.lit (.int 2))), (.var 3)])), (.not (.call 14 true [(.idx (.var 2) (.lit (.int 3))), (.var 3)])), (.not (.call 15 true [(.var 0), (.idx (.var 2) (.lit (.int 4))), (.var 3)]))]) [.ret (.lit (.bl false))] [],
  .ifs (.and [(.cmp .ne (.idx (.var 2) (.lit (.int 4))) (.tup [])), (.cmp .ne (.idx (.var 2) (.lit (.int 2))) (.tup [])), (.cmp .ge (.idx (.idx (.idx (.var 2) (.lit (.int 4))) (.neg (.lit (.int 1)))) (.lit (.int 0))) (.idx (.idx (.var 2) (.lit (.int 2))) (.lit (.int 0))))]) [.ret (.lit (.bl false))] [],
  .ret (.or [(.cmp .is_ (.idx (.var 2) (.lit (.int 5))) (.lit .non)), (.and [(.cmp .eq (.att (.var 0) 2) (.lit (.int 2))), (.call 0 true [(.idx (.var 2) (.lit (.int 5))), (.lit (.int 0)), (.bin .sub false (.var 3) (.lit (.int 1)))])])])]⟩
def m_left_in : MFn := ⟨1, 9, [], [
  .asg (.tup [(.nm 1), (.nm 2), (.nm 3), (.nm 4), (.nm 5), (.nm 6)]) (.var 0),
  .asg (.nm 7) (.lst false [(true, (.call 16 true [(.var 2)])), (true, (.var 3)), (true, (.var 4)), (true, (.lc false [8] (.idx (.var 8) (.lit (.int 0))) (.nm 8) (.seq (.var 5)) []))]),
  .ret (.blt .sset false [(.ite (.cmp .is_ (.var 6) (.lit .non)) (.var 7) (.lst false [(true, (.var 7)), (false, (.var 6))]))])]⟩
def m_awaiting : MFn := ⟨3, 4, [], [
  .ifs (.cmp .in_ (.lit (.str (PySem.Str.ofString "named"))) (.att (.var 0) 4)) [.ret (.ite (.cmp .eq (.idx (.idx (.var 1) (.var 2)) (.lit (.int 1))) (.lit (.str (PySem.Str.ofString "open")))) (.var 2) (.lit .non))] [],
  .asg (.nm 3) (.call 16 true [(.var 1)]),
  .ret (.ite (.cmp .ne (.var 3) (.lst false [])) (.idx (.var 3) (.lit (.int 0))) (.lit .non))]⟩
def m_with_word : MFn := ⟨3, 4, [], [
  .asg (.nm 3) (.blt .list true [(.var 0)]),
  .asg (.sub (.var 3) (.var 1)) (.tup [(false, (.idx (.idx (.var 3) (.var 1)) (.lit (.int 0)))), (false, (.var 2)), (true, (.slc (.idx (.var 3) (.var 1)) (some (.lit (.int 2))) none))]),
  .ret (.blt .tuple false [(.var 3)])]⟩
def m_lost_by : MFn := ⟨3, 5, [], [
  .asg (.nm 3) (.call 16 true [(.var 1)]),
  .ifs (.cmp .eq (.att (.var 0) 3) (.lit (.str (PySem.Str.ofString "none")))) [.ret (.var 3)] [],
  .ifs (.cmp .eq (.att (.var 0) 3) (.lit (.str (PySem.Str.ofString "first")))) [.ret (.slc (.var 3) (some (.lit (.int 1))) none)] [],
  .asg (.nm 4) (.ite (.and [(.cmp .isnot (.var 2) (.lit .non)), (.cmp .eq (.att (.var 0) 3) (.lit (.str (PySem.Str.ofString "unread"))))]) (.call 30 true [(.var 0), (.var 1), (.var 2)]) (.lit .non)),
  .ret (.ite (.cmp .is_ (.var 4) (.lit .non)) (.lst false []) (.lst false [(false, (.var 4))]))]⟩
def m_is_row : MFn := ⟨2, 4, [], [
  .ifs (.or [(.not (.isi (.var 0) [.tuple])), (.not (.blt .all false [(.lc false [2] (.call 0 true [(.var 2), (.lit (.int 0)), (.bin .sub false (.var 1) (.lit (.int 1)))]) (.nm 2) (.seq (.var 0)) [])]))]) [.ret (.lit (.bl false))] [],
  .ret (.blt .all false [(.lc false [2, 3] (.cmp .lt (.var 2) (.var 3)) (.tup [(.nm 2), (.nm 3)]) (.zip (.var 0) (.slc (.var 0) (some (.lit (.int 1))) none)) [])])]⟩
def m_are_answers : MFn := ⟨3, 6, [], [
  .ifs (.or [(.not (.isi (.var 1) [.tuple])), (.not (.blt .all false [(.lc false [3] (.and [(.isi (.var 3) [.tuple]), (.cmp .eq (.blt .len false [(.var 3)]) (.lit (.int 2)))]) (.nm 3) (.seq (.var 1)) [])]))]) [.ret (.lit (.bl false))] [],
  .ifs (.not (.call 14 true [(.blt .tuple false [(.lc false [3] (.idx (.var 3) (.lit (.int 0))) (.nm 3) (.seq (.var 1)) [])]), (.var 2)])) [.ret (.lit (.bl false))] [],
  .asg (.nm 4) (.lst false [(false, (.lit (.int 1))), (true, (.bin .mul false (.lst false [(false, (.att (.var 0) 2))]) (.blt .len false [(.var 1)])))]),
  .ret (.blt .all false [(.lc false [3, 5] (.call 0 true [(.idx (.var 3) (.lit (.int 1))), (.var 5), (.att (.var 0) 2)]) (.tup [(.nm 3), (.nm 5)]) (.zip (.var 1) (.var 4)) [])])]⟩
def m_trace : MFn := ⟨2, 2, [], [
  .expr (.call 11 true [(.var 0)]),
  .ret (.idx (.call 39 true [(.var 0), (.var 1)]) (.lit (.int 0)))]⟩
def m_deeds : MFn := ⟨2, 2, [], [
  .expr (.call 21 true [(.var 0), (.var 1)]),
  .ret (.call 35 true [(.var 0), (.var 1)])]⟩
def m_check_history : MFn := ⟨2, 4, [], [
  .ifs (.not (.isi (.var 1) [.list, .tuple])) [.bad] [],
  .asg (.tup [(.nm 2), (.nm 3)]) (.call 38 true [(.var 0), (.var 1)]),
  .ifs (.cmp .is_ (.var 3) (.lit .non)) [.bad] [],
  .ret (.tup [(false, (.var 2)), (false, (.var 3))])]⟩
def m_walked : MFn := ⟨2, 7, [], [
  .par [2, 3] [(.lst true [(false, (.con 0))]), (.lst true [])],
  .for_ (.nm 4) (.seq (.var 1)) [.ifs (.or [(.not (.call 26 true [(.var 0), (.var 4)])), (.not (.call 27 true [(.var 0), (.idx (.var 2) (.neg (.lit (.int 1)))), (.var 4)]))]) [.ret (.tup [(false, (.var 2)), (false, (.lit .non))])] [], .asg (.tup [(.nm 5), (.nm 6)]) (.call 34 true [(.var 0), (.idx (.var 2) (.neg (.lit (.int 1)))), (.var 4)]), .expr (.bm .append (.var 2) [(.var 5)]), .expr (.bm .append (.var 3) [(.var 6)])],
  .ret (.tup [(false, (.var 2)), (false, (.var 3))])]⟩
def m__law_later : MFn := ⟨3, 5, [], [
  .asg (.nm 3) (.call 49 true [(.var 1)]),
  .asg (.nm 4) (.call 60 true [(.var 0), (.var 3), (.var 2)]),
  .ret (.tup [(false, (.call 53 true [(.var 3)])), (false, (.var 4))])]⟩
def m__law_cut : MFn := ⟨3, 5, [], [
  .asg (.nm 3) (.call 58 true [(.var 0), (.var 1)]),
  .for_ (.nm 4) (.seq (.var 3)) [.asg (.sub (.var 4) (.lit (.int 2))) (.lit (.str (PySem.Str.ofString "lost")))],
  .asg (.sub (.var 1) (.lit (.str (PySem.Str.ofString "elder")))) (.slc (.idx (.var 1) (.lit (.str (PySem.Str.ofString "row")))) none (some (.var 2))),
  .asg (.tup [(.sub (.var 1) (.lit (.str (PySem.Str.ofString "open")))), (.sub (.var 1) (.lit (.str (PySem.Str.ofString "row")))), (.sub (.var 1) (.lit (.str (PySem.Str.ofString "under"))))]) (.tup [(false, (.lit (.bl false))), (false, (.lst false [])), (false, (.lst false []))]),
  .ifs (.cmp .in_ (.lit (.str (PySem.Str.ofString "fresh"))) (.idx (.var 0) (.lit (.int 4)))) [.asg (.sub (.var 1) (.lit (.str (PySem.Str.ofString "half")))) (.lit .non)] [],
  .ret (.ite (.blt .any false [(.lc false [4] (.cmp .gt (.idx (.var 4) (.lit (.int 3))) (.lit (.int 0))) (.nm 4) (.seq (.var 3)) [])]) (.lst false [(false, (.lit (.str (PySem.Str.ofString "lost"))))]) (.lst false []))]⟩
def m__law_lost : MFn := ⟨2, 5, [], [
  .par [2, 3] [(.call 51 true [(.var 1)]), (.idx (.var 1) (.lit (.str (PySem.Str.ofString "half"))))],
  .ifs (.cmp .eq (.idx (.var 0) (.lit (.int 3))) (.lit (.str (PySem.Str.ofString "unread")))) [.asg (.nm 4) (.ite (.cmp .is_ (.var 3) (.lit .non)) (.lit .non) (.call 56 true [(.var 0), (.var 1), (.var 3)])), .ret (.ite (.cmp .is_ (.var 4) (.lit .non)) (.lst false []) (.lst false [(false, (.var 4))]))] [],
  .ret (.idx (.dsp false [(.lit (.str (PySem.Str.ofString "none"))), (.lit (.str (PySem.Str.ofString "first"))), (.lit (.str (PySem.Str.ofString "all")))] [(.var 2), (.slc (.var 2) (some (.lit (.int 1))) none), (.lst false [])]) (.idx (.var 0) (.lit (.int 3))))]⟩
def m__law_waits : MFn := ⟨3, 5, [], [
  .asg (.nm 3) (.call 51 true [(.var 1)]),
  .ifs (.cmp .in_ (.lit (.str (PySem.Str.ofString "named"))) (.idx (.var 0) (.lit (.int 4)))) [.asg (.nm 3) (.lc false [4] (.var 4) (.nm 4) (.seq (.var 3)) [(.cmp .eq (.idx (.var 4) (.lit (.int 0))) (.var 2))])] [],
  .ret (.ite (.cmp .ne (.var 3) (.lst false [])) (.idx (.var 3) (.lit (.int 0))) (.lit .non))]⟩
def m_broken_by : MFn := ⟨3, 3, [], [
  .expr (.call 41 true [(.var 0), (.var 1), (.var 2)]),
  .ret (.idx (.call 34 true [(.var 0), (.var 1), (.var 2)]) (.lit (.int 1)))]⟩
def m_all_states : MFn := ⟨1, 1, [], [
  .expr (.call 11 true [(.var 0)]),
  .ret (.blt .list false [(.call 37 true [(.var 0)])])]⟩
end Mp.Pk
end

section
set_option Elab.async false
set_option linter.all false
set_option maxRecDepth 100000
set_option maxHeartbeats 4000000
/-! Pk1: what is asked of numbers, words, marks; lines. -/
namespace Mp.Pk
open PySem Mp

/-! ### plain data -/
theorem okB_any : ∀ (k : Nat) (M : MH) (v : PV), okB k [] v = true → okB k M v = true ∧ view M v = v
  | 0, _, _, h => by cases h
  | k + 1, M, v, h => by
    unfold okB at h ⊢
    cases v with
    | tup xs => exact ⟨List.all_eq_true.mpr fun x hx => (okB_any k M x (List.all_eq_true.mp h x hx)).1, rfl⟩
    | lst xs => exact ⟨List.all_eq_true.mpr fun x hx => (okB_any k M x (List.all_eq_true.mp h x hx)).1, rfl⟩
    | scr ns => exact ⟨List.all_eq_true.mpr fun x hx => (okB_any k M x (List.all_eq_true.mp h x hx)).1, rfl⟩
    | ref n => simp [view] at h
    | _ => exact ⟨h, rfl⟩
theorem okB_mono : ∀ (k : Nat) (M : MH) (v : PV), okB k M v = true → okB (k + 1) M v = true
  | 0, _, _, h => by cases h
  | k + 1, M, v, h => by
    unfold okB at h ⊢
    generalize view M v = w at h ⊢
    cases w with
    | tup xs => exact List.all_eq_true.mpr fun x hx => okB_mono k M x (List.all_eq_true.mp h x hx)
    | lst xs => exact List.all_eq_true.mpr fun x hx => okB_mono k M x (List.all_eq_true.mp h x hx)
    | scr xs => exact List.all_eq_true.mpr fun x hx => okB_mono k M x (List.all_eq_true.mp h x hx)
    | _ => exact h
theorem okB_pure : ∀ (k : Nat) (v : PV), okB k [] v = true → pureB k v = true
  | 0, _, h => by cases h
  | k + 1, v, h => by
    unfold okB at h
    unfold pureB
    cases v with
    | tup xs => exact List.all_eq_true.mpr fun x hx => okB_pure k x (List.all_eq_true.mp h x hx)
    | lst xs => exact List.all_eq_true.mpr fun x hx => okB_pure k x (List.all_eq_true.mp h x hx)
    | ref n => simp [view] at h
    | dct n => simp at h
    | obj c n => simp at h
    | _ => rfl
/-- plain data, k levels deep, without references -/
def Dat (k : Nat) (v : PV) : Prop := okB k [] v = true
theorem Dat.le {j k : Nat} {v : PV} (h : Dat j v) (e : j ≤ k) : Dat k v := by
  induction e with
  | refl => exact h
  | step _ ih => exact okB_mono _ _ _ ih
theorem Dat.ok {k j : Nat} {v : PV} (h : Dat k v) (M : MH) (e : k ≤ j) : okB j M v = true := (okB_any j M v (h.le e)).1
theorem Dat.view {k : Nat} {v : PV} (h : Dat k v) (M : MH) : Mp.view M v = v := (okB_any k M v h).2
theorem Dat.pure {k j : Nat} {v : PV} (h : Dat k v) (e : k ≤ j) : pureB j v = true := pure_le e (okB_pure k v h)
theorem Dat.mem {k : Nat} {xs : List PV} (h : Dat (k + 1) (.tup xs)) {x : PV} (hx : x ∈ xs) : Dat k x := List.all_eq_true.mp h x hx

/-! ### numbers, words -/
/-- a whole number within bounds, no bool -/
def isNum (v : PV) (lo hi : Int) : Bool := match v with
  | .int i => decide (lo ≤ i) && decide (i ≤ hi)
  | _ => false
theorem ev_is_number (P : MP) (h : P.fns[0]? = some m_is_number) (d : Nat) (v : PV) {k : Nat} (hv : Dat k v) (lo hi : Int) (M : MH) : evC P 30 (d + 1) 0 [v, .int lo, .int hi] M = .val (.bl (isNum v lo hi)) M := by
  rw [evC_succ P 30 d 0 _ M h rfl]
  cases v with
  | ref n => cases k <;> simp [Dat, okB, view] at hv
  | obj c n => cases k <;> simp [Dat, okB] at hv
  | int i => by_cases h1 : lo ≤ i <;> simp [m_is_number, typAny, kindOf, tyIs, cmpOp, h1, qChainK, isNum]
  | _ => rfl
theorem cp_is_number (P : MP) (h : P.fns[0]? = some m_is_number) (d : Nat) (v : PV) {k : Nat} (hv : Dat k v) (hk : k ≤ 50) (lo hi : Int) (M : MH) : callP (evC P 30 (d + 1)) 0 [v, .int lo, .int hi] M = .val (.bl (isNum v lo hi)) M :=
  callP_ok (by simp [hv.pure hk]) (ev_is_number P h d v hv lo hi []) rfl
/-- a text among some -/
def isWrd (v : PV) (ws : List PV) : Bool := match v with
  | .str x => ws.any fun w => match w with
    | .str y => strEq y x
    | _ => false
  | _ => false
def allStr (ws : List PV) : Bool := ws.all fun w => match w with
  | .str y => y.cps.toList.all fun c => decide (c < 1114112)
  | _ => false
theorem ev_is_word (P : MP) (h : P.fns[1]? = some m_is_word) (d : Nat) (v : PV) {k : Nat} (hv : Dat k v) (ws : List PV) (hw : allStr ws = true) (M : MH) : evC P 30 (d + 1) 1 [v, .tup ws] M = .val (.bl (isWrd v ws)) M := by
  rw [evC_succ P 30 d 1 _ M h rfl]
  cases v with
  | ref n => cases k <;> simp [Dat, okB, view] at hv
  | obj c n => cases k <;> simp [Dat, okB] at hv
  | str x =>
    have h1 : okB 40 M (.str x) = true := by
      cases k with
      | zero => cases hv
      | succ k => exact hv
    have h2 : ∀ w, w ∈ ws → okB 40 M w = true := fun w hm => by
      have q := List.all_eq_true.mp hw w hm
      cases w with
      | str y => exact q
      | _ => cases q
    have h3 : (ws.any fun y => eqB 40 M y (.str x)) = isWrd (.str x) ws := any_congr' fun w hm => by
      have q := List.all_eq_true.mp hw w hm
      cases w with
      | str y => rfl
      | _ => cases q
    simp [m_is_word, typAny, kindOf, tyIs, inL_ok h1 h2, h3]
  | _ => rfl
theorem cp_is_word (P : MP) (h : P.fns[1]? = some m_is_word) (d : Nat) (v : PV) {k : Nat} (hv : Dat k v) (hk : k ≤ 50) (ws : List PV) (hw : allStr ws = true) (M : MH) : callP (evC P 30 (d + 1)) 1 [v, .tup ws] M = .val (.bl (isWrd v ws)) M :=
  callP_ok (by
    have h2 : ws.all (pureB 49) = true := List.all_eq_true.mpr fun w hm => by
      have q := List.all_eq_true.mp hw w hm
      cases w with
      | str y => rfl
      | _ => cases q
    simp only [List.all_cons, List.all_nil, hv.pure hk, pure_tup, h2, Bool.and_self]) (ev_is_word P h d v hv ws hw []) rfl
end Mp.Pk
end

section
set_option Elab.async false
set_option linter.all false
set_option maxRecDepth 100000
set_option maxHeartbeats 4000000
/-! Pk2: lines, asks, rows, answers. -/
namespace Mp.Pk
open PySem Mp

@[simp] theorem eqV_int (M : MH) (i j : Int) : eqV M (.int i) (.int j) = some (decide (i = j)) := rfl
/-! ### lines -/
structure Ln where
  askers : Int
  ahead : Int
  pieces : Int
  again : Nat
  barred : Bool
  fresh : Bool
  kept : Bool
  named : Bool
def againV : Nat → PV
  | 0 => .str (PySem.Str.ofString "none")
  | 1 => .str (PySem.Str.ofString "first")
  | 2 => .str (PySem.Str.ofString "unread")
  | _ => .str (PySem.Str.ofString "all")
def marksL (L : Ln) : List PV := (if L.barred then [PV.str (PySem.Str.ofString "barred")] else []) ++ ((if L.fresh then [PV.str (PySem.Str.ofString "fresh")] else []) ++ ((if L.kept then [PV.str (PySem.Str.ofString "kept")] else []) ++ (if L.named then [PV.str (PySem.Str.ofString "named")] else [])))
def lnV (L : Ln) : PV := .obj 0 [againV L.again, .int L.ahead, .int L.askers, .tup (marksL L), .int L.pieces]
structure Ln.Ok (L : Ln) : Prop where
  a : L.askers = 1 ∨ L.askers = 2
  h : L.ahead = 1 ∨ L.ahead = 2
  p : L.pieces = 1 ∨ L.pieces = 2
def lineCls : MCls := ⟨3, 5, [(0, 2), (1, 1), (2, 4), (3, 0), (4, 3)]⟩
section
variable {P : MP} (hc : P.cls[0]? = some lineCls) (L : Ln) (M : MH)
include hc
theorem att_askers : attK P (lnV L) 0 M = .val (.int L.askers) M := by unfold attK lnV; dsimp only; rw [hc]; rfl
theorem att_ahead : attK P (lnV L) 1 M = .val (.int L.ahead) M := by unfold attK lnV; dsimp only; rw [hc]; rfl
theorem att_pieces : attK P (lnV L) 2 M = .val (.int L.pieces) M := by unfold attK lnV; dsimp only; rw [hc]; rfl
theorem att_again : attK P (lnV L) 3 M = .val (againV L.again) M := by unfold attK lnV; dsimp only; rw [hc]; rfl
theorem att_marks : attK P (lnV L) 4 M = .val (.tup (marksL L)) M := by unfold attK lnV; dsimp only; rw [hc]; rfl
end
@[simp] theorem view_ln (L : Ln) (M : MH) : view M (lnV L) = lnV L := rfl
theorem marks_str (L : Ln) : allStr (marksL L) = true := by
  obtain ⟨_, _, _, _, b, f, k, n⟩ := L
  cases b <;> cases f <;> cases k <;> cases n <;> kernel_rfl
theorem againV_pure (n k : Nat) : pureB (k + 1) (againV n) = true := by
  unfold againV
  split <;> rfl
theorem allStr_pure {ws : List PV} (h : allStr ws = true) (k : Nat) : ws.all (pureB (k + 1)) = true := List.all_eq_true.mpr fun w hm => by
  have q := List.all_eq_true.mp h w hm
  cases w with
  | str y => rfl
  | _ => cases q
theorem ln_pure (L : Ln) (k : Nat) : pureB (k + 3) (lnV L) = true := by
  unfold lnV
  simp [againV_pure, allStr_pure (marks_str L)]
theorem in_fresh (L : Ln) (M : MH) : inL M (.str (PySem.Str.ofString "fresh")) (marksL L) = some L.fresh := by
  obtain ⟨_, _, _, _, b, f, k, n⟩ := L
  cases b <;> cases f <;> cases k <;> cases n <;> kernel_rfl
theorem in_named (L : Ln) (M : MH) : inL M (.str (PySem.Str.ofString "named")) (marksL L) = some L.named := by
  obtain ⟨_, _, _, _, b, f, k, n⟩ := L
  cases b <;> cases f <;> cases k <;> cases n <;> kernel_rfl
theorem in_kept (L : Ln) (M : MH) : inL M (.str (PySem.Str.ofString "kept")) (marksL L) = some L.kept := by
  obtain ⟨_, _, _, _, b, f, k, n⟩ := L
  cases b <;> cases f <;> cases k <;> cases n <;> kernel_rfl
theorem in_barred (L : Ln) (M : MH) : inL M (.str (PySem.Str.ofString "barred")) (marksL L) = some L.barred := by
  obtain ⟨_, _, _, _, b, f, k, n⟩ := L
  cases b <;> cases f <;> cases k <;> cases n <;> kernel_rfl
/-! ### asks -/
inductive Wd where | op | told | lost
  deriving DecidableEq
def wdV : Wd → PV
  | .op => .str (PySem.Str.ofString "open")
  | .told => .str (PySem.Str.ofString "told")
  | .lost => .str (PySem.Str.ofString "lost")
structure Ask where
  a : Int
  w : Wd
  n : Int
  l : Bool
  deriving DecidableEq
def askV (k : Ask) : PV := .tup [.int k.a, wdV k.w, .int k.n, .bl k.l]
theorem wd_open (w : Wd) (M : MH) : eqV M (wdV w) (.str (PySem.Str.ofString "open")) = some (decide (w = .op)) := by cases w <;> kernel_rfl
theorem wd_lost (w : Wd) (M : MH) : eqV M (wdV w) (.str (PySem.Str.ofString "lost")) = some (decide (w = .lost)) := by cases w <;> kernel_rfl
theorem wd_pure (w : Wd) (k : Nat) : pureB (k + 1) (wdV w) = true := by cases w <;> rfl
theorem ask_pure (q : Ask) (k : Nat) : pureB (k + 2) (askV q) = true := by simp [askV, wd_pure]
def askOk (L : Ln) (q : Ask) : Prop := (0 ≤ q.a ∧ q.a ≤ L.askers - 1) ∧ (0 ≤ q.n ∧ q.n ≤ 2)
def wordsL : List PV := [.str (PySem.Str.ofString "open"), .str (PySem.Str.ofString "told"), .str (PySem.Str.ofString "lost")]
def isBl : PV → Bool
  | .bl _ => true
  | _ => false
def isAskV (L : Ln) (v : PV) : Bool := match v with
  | .tup [a, w, n, l] => isNum a 0 (L.askers - 1) && (isWrd w wordsL && (isNum n 0 2 && isBl l))
  | _ => false
def isTupB : PV → Bool
  | .tup _ => true
  | _ => false
def isStrB : PV → Bool
  | .str _ => true
  | _ => false
def isIntB : PV → Bool
  | .bl _ => true
  | .int _ => true
  | _ => false
@[simp] theorem typ_tup (n : Nat) (M : MH) (xs : List PV) : typAny n M (.tup xs) [.tuple] = some true := rfl
section
variable {k : Nat} {v : PV} (h : Dat k v) (n : Nat) (M : MH)
include h
theorem typ_tuple : typAny n M v [.tuple] = some (isTupB v) := by
  cases v with
  | ref n => cases k <;> simp [Dat, okB, view] at h
  | obj c n => cases k <;> simp [Dat, okB] at h
  | _ => rfl
theorem typ_bool : typAny n M v [.bool] = some (isBl v) := by
  cases v with
  | ref n => cases k <;> simp [Dat, okB, view] at h
  | obj c n => cases k <;> simp [Dat, okB] at h
  | _ => rfl
theorem typ_str : typAny n M v [.str] = some (isStrB v) := by
  cases v with
  | ref n => cases k <;> simp [Dat, okB, view] at h
  | obj c n => cases k <;> simp [Dat, okB] at h
  | _ => rfl
theorem typ_int : typAny n M v [.int] = some (isIntB v) := by
  cases v with
  | ref n => cases k <;> simp [Dat, okB, view] at h
  | obj c n => cases k <;> simp [Dat, okB] at h
  | _ => rfl
end
theorem isNum_iff {v : PV} {lo hi : Int} : isNum v lo hi = true ↔ ∃ i, v = .int i ∧ lo ≤ i ∧ i ≤ hi := by
  unfold isNum
  split
  · rename_i i
    rw [Bool.and_eq_true, decide_eq_true_eq, decide_eq_true_eq]
    exact ⟨fun h => ⟨i, rfl, h.1, h.2⟩, fun ⟨j, e, h1, h2⟩ => by cases e; exact ⟨h1, h2⟩⟩
  · rename_i h
    exact ⟨fun e => by (cases e), fun ⟨i, e, _⟩ => (h i e).elim⟩
theorem isWrd_words {v : PV} (h : isWrd v wordsL = true) : ∃ w, v = wdV w := by
  unfold isWrd at h
  split at h
  · rename_i x
    simp only [wordsL, List.any_cons, List.any_nil, Bool.or_false, Bool.or_eq_true] at h
    rcases h with h | h | h
    · exact ⟨.op, by rw [← strEq_iff.mp h]; rfl⟩
    · exact ⟨.told, by rw [← strEq_iff.mp h]; rfl⟩
    · exact ⟨.lost, by rw [← strEq_iff.mp h]; rfl⟩
  · cases h
theorem wrd_wd (w : Wd) : isWrd (wdV w) wordsL = true := by cases w <;> decide +kernel
theorem isAskV_iff {L : Ln} {v : PV} : isAskV L v = true ↔ ∃ q, v = askV q ∧ askOk L q := by
  constructor
  · intro h
    unfold isAskV at h
    split at h
    · rename_i a w n l
      simp only [Bool.and_eq_true] at h
      obtain ⟨h1, h2, h3, h4⟩ := h
      obtain ⟨i, rfl, i1, i2⟩ := isNum_iff.mp h1
      obtain ⟨w, rfl⟩ := isWrd_words h2
      obtain ⟨j, rfl, j1, j2⟩ := isNum_iff.mp h3
      cases l with
      | bl b => exact ⟨⟨i, w, j, b⟩, rfl, ⟨i1, i2⟩, ⟨j1, j2⟩⟩
      | _ => cases h4
    · cases h
  · rintro ⟨q, rfl, ⟨h1, h2⟩, h3, h4⟩
    simp [isAskV, askV, isNum, wrd_wd, isBl, h1, h2, h3, h4]
/-- what the proofs ask of the tables -/
structure PkS (P : MP) : Prop where
  f0 : P.fns[0]? = some m_is_number
  f1 : P.fns[1]? = some m_is_word
  f11 : P.fns[11]? = some m_check_line
  f12 : P.fns[12]? = some m_check_asker
  f13 : P.fns[13]? = some m_is_ask
  f14 : P.fns[14]? = some m_is_row
  f15 : P.fns[15]? = some m_are_answers
  f16 : P.fns[16]? = some m_open_asks
  f17 : P.fns[17]? = some m_open_of
  f18 : P.fns[18]? = some m_left_in
  f19 : P.fns[19]? = some m_are_parts
  f20 : P.fns[20]? = some m_is_state_of
  cl : P.cls[0]? = some lineCls
  c0 : P.con[0]? = some (.tup [.bl true, .tup [], .tup [], .tup [], .tup [], .non])
  c1 : P.con[1]? = some (.tup wordsL)
  c2 : P.con[2]? = some (.int 2)
theorem cal {P : MP} {f : Nat} {g : MFn} (h : P.fns[f]? = some g) (hd : g.dfl = []) : Cal P f g.np := ⟨g, h, rfl, hd⟩
section
variable {P : MP} (T : PkS P)
include T
theorem PkS.k0 : Cal P 0 3 := cal T.f0 rfl
theorem PkS.k1 : Cal P 1 2 := cal T.f1 rfl
theorem PkS.k11 : Cal P 11 1 := cal T.f11 rfl
theorem PkS.k12 : Cal P 12 2 := cal T.f12 rfl
theorem PkS.k13 : Cal P 13 2 := cal T.f13 rfl
theorem PkS.k14 : Cal P 14 2 := cal T.f14 rfl
theorem PkS.k15 : Cal P 15 3 := cal T.f15 rfl
theorem PkS.k16 : Cal P 16 1 := cal T.f16 rfl
theorem PkS.k17 : Cal P 17 2 := cal T.f17 rfl
theorem PkS.k18 : Cal P 18 1 := cal T.f18 rfl
theorem PkS.k19 : Cal P 19 3 := cal T.f19 rfl
theorem PkS.k20 : Cal P 20 2 := cal T.f20 rfl
theorem ev_is_ask (d : Nat) (L : Ln) (v : PV) {k : Nat} (hv : Dat k v) (hk : k ≤ 40) (M : MH) : evC P 30 (d + 2) 13 [lnV L, v] M = .val (.bl (isAskV L v)) M := by
  rw [evC_succ P 30 (d + 1) 13 _ M T.f13 rfl]
  cases v with
  | ref n => cases k <;> simp [Dat, okB, view] at hv
  | obj c n => cases k <;> simp [Dat, okB] at hv
  | tup xs =>
    cases k with
    | zero => cases hv
    | succ k =>
    by_cases hl : xs.length = 4
    · match xs, hl with
      | [a, w, n, l], _ =>
        have da : Dat k a := hv.mem (by simp)
        have dw : Dat k w := hv.mem (by simp)
        have dn : Dat k n := hv.mem (by simp)
        have dl : Dat k l := hv.mem (by simp)
        have e0 := cp_is_number P T.f0 d a da (by omega) 0 (L.askers - 1) M
        have e1 := cp_is_word P T.f1 d w dw (by omega) wordsL (by decide +kernel) M
        have e2 := cp_is_number P T.f0 d n dn (by omega) 0 2 M
        simp [m_is_ask, stepE_callT, T.k0, T.k1, T.c1, T.c2, att_askers T.cl, e0, e1, e2, typ_bool dl]
        unfold isAskV
        dsimp only
        cases isNum a 0 (L.askers - 1) <;> cases isWrd w wordsL <;> cases isNum n 0 2 <;> simp
      | [], h => cases h
      | [_], h => cases h
      | [_, _], h => cases h
      | [_, _, _], h => cases h
      | _ :: _ :: _ :: _ :: _ :: _, h => simp at h
    · have hl2 : ¬ ((xs.length : Int) = 4) := by omega
      simp [m_is_ask, hl2]
      unfold isAskV
      split
      · rename_i h
        cases h
        exact absurd rfl hl
      · rfl
  | _ => rfl
theorem cp_is_ask (d : Nat) (L : Ln) (v : PV) {k : Nat} (hv : Dat k v) (hk : k ≤ 40) (M : MH) : callP (evC P 30 (d + 2)) 13 [lnV L, v] M = .val (.bl (isAskV L v)) M :=
  callP_ok (by simp [hv.pure (show k ≤ 50 by omega), ln_pure L 47]) (ev_is_ask T d L v hv hk []) rfl
end
end Mp.Pk
end

section
set_option Elab.async false
set_option linter.all false
set_option maxRecDepth 100000
set_option maxHeartbeats 4000000
/-! Pk3: rows, answers under way. -/
namespace Mp.Pk
open PySem Mp

/-! ### rows -/
def ascI : List Int → Bool
  | a :: b :: r => decide (a < b) && ascI (b :: r)
  | _ => true
theorem ascI_zip : ∀ ns : List Int, ((ns.zip (ns.drop 1)).all fun q => decide (q.1 < q.2)) = ascI ns
  | [] => rfl
  | [a] => rfl
  | a :: b :: r => by
    have ih := ascI_zip (b :: r)
    simp only [List.drop_succ_cons, List.drop_zero] at ih ⊢
    rw [List.zip_cons_cons, List.all_cons, ih]
    rfl
def intsL (ns : List Int) : List PV := ns.map PV.int
/-- all items are whole numbers within bounds, and rise -/
def isRowV (v : PV) (many : Int) : Bool := match v with
  | .tup xs => xs.all (fun x => isNum x 0 (many - 1)) && ascI (xs.map fun x => match x with | .int i => i | _ => 0)
  | _ => false
theorem all_ints {xs : List PV} {lo hi : Int} (h : (xs.all fun x => isNum x lo hi) = true) : ∃ ns : List Int, xs = ns.map PV.int ∧ ∀ i, i ∈ ns → lo ≤ i ∧ i ≤ hi := by
  induction xs with
  | nil => exact ⟨[], rfl, fun _ h => absurd h List.not_mem_nil⟩
  | cons x xs ih =>
    rw [List.all_cons, Bool.and_eq_true] at h
    obtain ⟨i, rfl, h1, h2⟩ := isNum_iff.mp h.1
    obtain ⟨ns, rfl, h3⟩ := ih h.2
    refine ⟨i :: ns, rfl, fun j hj => ?_⟩
    rcases List.mem_cons.mp hj with rfl | hj
    · exact ⟨h1, h2⟩
    · exact h3 j hj
theorem isRowV_ints (ns : List Int) (many : Int) : isRowV (.tup (ns.map PV.int)) many = ((ns.all fun i => decide (0 ≤ i) && decide (i ≤ many - 1)) && ascI ns) := by
  unfold isRowV
  dsimp only
  rw [List.all_map, List.map_map]
  congr 1
  show ascI (ns.map fun i => i) = _
  rw [List.map_id']
theorem ints_pure (ns : List Int) (k : Nat) : (ns.map PV.int).all (pureB (k + 1)) = true := by simp
section
variable {P : MP} (T : PkS P)
include T
theorem ev_is_row (d : Nat) (v : PV) {k : Nat} (hv : Dat k v) (hk : k ≤ 40) (hl : ∀ xs, v = .tup xs → xs.length ≤ 1000000) (many : Int) (M : MH) : evC P 30 (d + 2) 14 [v, .int many] M = .val (.bl (isRowV v many)) M := by
  rw [evC_succ P 30 (d + 1) 14 _ M T.f14 rfl]
  cases v with
  | ref n => cases k <;> simp [Dat, okB, view] at hv
  | obj c n => cases k <;> simp [Dat, okB] at hv
  | tup xs =>
    cases k with
    | zero => cases hv
    | succ k =>
    have hx := hl xs rfl
    have hs : SrcL M (.sq true (.tup xs)) xs id := src_seq (by rw [List.map_id]; rfl)
    have e0 : ∀ j, lcL (evT0 P (evC P 30 (d + 1)) (j + 5)) (.call 0 true [.var 2, .lit (.int 0), .bin .sub false (.var 1) (.lit (.int 1))]) (.nm 2) [] [some (PV.tup xs), some (PV.int many), none, none] (srcLen M (.sq true (.tup xs)) + 1) 0 (.sq true (.tup xs)) [] M = .val (xs.map fun x => .bl (isNum x 0 (many - 1))) M := by
      intro j
      refine lcL_all hs hx fun x hm => ⟨_, rfl, ?_⟩
      have dx := hv.mem hm
      simp [stepE_callT, T.k0, cp_is_number P T.f0 d x dx (by omega) 0 (many - 1) M]
    have eb := bAll_map false (fun x => isNum x 0 (many - 1)) xs M
    cases hA : xs.all fun x => isNum x 0 (many - 1) with
    | false =>
      simp [m_is_row, kindS_tup, wipeR, e0, newL_f, hx, eb, hA]
      unfold isRowV
      dsimp only
      rw [hA]
      rfl
    | true =>
      obtain ⟨ns, rfl, hb⟩ := all_ints hA
      have hn : ns.length ≤ 1000000 := by simpa using hx
      have hz : SrcL M (.zip true (.tup (ns.map PV.int)) true (.tup ((ns.map PV.int).drop 1))) (ns.zip (ns.drop 1)) (fun q => PV.tup [PV.int q.1, PV.int q.2]) := srcZip rfl (by rw [← List.map_drop]; rfl)
      have e1 : ∀ j, lcL (evT0 P (evC P 30 (d + 1)) (j + 5)) (.cmp .lt (.var 2) (.var 3)) (.tup [.nm 2, .nm 3]) [] [some (PV.tup (ns.map PV.int)), some (PV.int many), none, none] (srcLen M (.zip true (.tup (ns.map PV.int)) true (.tup ((ns.map PV.int).drop 1))) + 1) 0 (.zip true (.tup (ns.map PV.int)) true (.tup ((ns.map PV.int).drop 1))) [] M = .val ((ns.zip (ns.drop 1)).map fun q => .bl (decide (q.1 < q.2))) M := by
        intro j
        refine lcL_all hz (by rw [List.length_zip]; omega) fun q hm => ⟨_, rfl, ?_⟩
        simp
      have eb2 := bAll_map false (fun q : Int × Int => decide (q.1 < q.2)) (ns.zip (ns.drop 1)) M
      rw [ascI_zip] at eb2
      have hl2 : ((ns.zip (ns.drop 1)).map fun q => PV.bl (decide (q.1 < q.2))).length ≤ 1000000 := by
        rw [List.length_map, List.length_zip]
        omega
      rw [isRowV_ints]
      have hA2 : (ns.all fun i => decide (0 ≤ i) && decide (i ≤ many - 1)) = true := List.all_eq_true.mpr fun i hi => by simp [hb i hi]
      simp [-List.map_map, -List.drop_one, -List.map_drop, m_is_row, kindS_tup, wipeR, e0, newL_f, hn, eb, hA, e1, eb2, hA2, newL_f hl2]
  | _ => rfl
end
end Mp.Pk
end

section
set_option Elab.async false
set_option linter.all false
set_option maxRecDepth 100000
set_option maxHeartbeats 4000000
/-! Pk4: states as plain data; open asks, what is left. -/
namespace Mp.Pk
open PySem Mp

def natV (i : Nat) : PV := .int (i : Int)
def rowV (ns : List Nat) : PV := .tup (ns.map natV)
def ansV (q : Nat × Int) : PV := .tup [natV q.1, .int q.2]
def halfV : Option Nat → PV
  | none => .non
  | some i => natV i
structure St where
  o : Bool
  asks : List Ask
  row : List Nat
  elder : List Nat
  under : List (Nat × Int)
  half : Option Nat
  deriving DecidableEq
def stV (s : St) : PV := .tup [.bl s.o, .tup (s.asks.map askV), rowV s.row, rowV s.elder, .tup (s.under.map ansV), halfV s.half]
/-! ### rows -/
def Row (ns : List Nat) (many : Nat) : Prop := ns.Pairwise (· < ·) ∧ ∀ i, i ∈ ns → i < many
theorem asc_nat : ∀ (ns : List Nat), ascI (ns.map fun i : Nat => (i : Int)) = true ↔ ns.Pairwise (· < ·)
  | [] => by simp [ascI]
  | [a] => by simp [ascI]
  | a :: b :: r => by
    have ih := asc_nat (b :: r)
    simp only [List.map_cons] at ih ⊢
    unfold ascI
    rw [Bool.and_eq_true, decide_eq_true_eq]
    constructor
    · rintro ⟨h1, h2⟩
      have h3 := ih.mp h2
      refine List.pairwise_cons.mpr ⟨fun c hc => ?_, h3⟩
      rcases List.mem_cons.mp hc with rfl | hc
      · omega
      · have := (List.pairwise_cons.mp h3).1 c hc
        omega
    · intro h
      obtain ⟨h1, h2⟩ := List.pairwise_cons.mp h
      exact ⟨by have := h1 b List.mem_cons_self; omega, ih.mpr h2⟩
theorem ints_nat : ∀ {is : List Int}, (∀ i, i ∈ is → 0 ≤ i) → ∃ ns : List Nat, is = ns.map fun i : Nat => (i : Int)
  | [], _ => ⟨[], rfl⟩
  | i :: is, h => by
    obtain ⟨ns, e⟩ := ints_nat (is := is) fun j hj => h j (List.mem_cons_of_mem _ hj)
    refine ⟨i.toNat :: ns, ?_⟩
    rw [List.map_cons, ← e, Int.toNat_of_nonneg (h i List.mem_cons_self)]
theorem isRowV_iff {v : PV} {many : Nat} : isRowV v many = true ↔ ∃ ns, v = rowV ns ∧ Row ns many := by
  constructor
  · intro h
    cases v with
    | tup xs =>
      have h0 := h
      unfold isRowV at h
      dsimp only at h
      rw [Bool.and_eq_true] at h
      obtain ⟨is, rfl, hb⟩ := all_ints h.1
      obtain ⟨ns, rfl⟩ := ints_nat fun i hi => (hb i hi).1
      rw [isRowV_ints, Bool.and_eq_true] at h0
      refine ⟨ns, by unfold rowV; rw [List.map_map]; rfl, (asc_nat ns).mp h0.2, fun i hi => ?_⟩
      have := (hb (i : Int) (List.mem_map.mpr ⟨i, hi, rfl⟩)).2
      omega
    | _ => cases h
  · rintro ⟨ns, rfl, h1, h2⟩
    have e : rowV ns = .tup ((ns.map fun i : Nat => (i : Int)).map PV.int) := by unfold rowV; rw [List.map_map]; rfl
    rw [e, isRowV_ints, Bool.and_eq_true]
    refine ⟨List.all_eq_true.mpr fun i hi => ?_, (asc_nat ns).mpr h1⟩
    obtain ⟨j, hj, rfl⟩ := List.mem_map.mp hi
    have := h2 j hj
    simp
    omega
/-! ### answers under way -/
def isPair : PV → Bool
  | .tup [_, _] => true
  | _ => false
def fstV : PV → PV
  | .tup (a :: _) => a
  | _ => .non
def sndV : PV → PV
  | .tup (_ :: b :: _) => b
  | _ => .non
def ansLow (p : Int) : Int → List PV → Bool
  | _, [] => true
  | lo, x :: r => isNum (sndV x) lo p && ansLow p p r
def isAnsV (p : Int) (v : PV) (many : Int) : Bool := match v with
  | .tup xs => xs.all isPair && (isRowV (.tup (xs.map fstV)) many && ansLow p 1 xs)
  | _ => false
theorem ansLow_zip (p : Int) : ∀ (xs : List PV) (lo : Int) (n : Nat), xs.length ≤ n + 1 → ((xs.zip (lo :: List.replicate n p)).all fun q => isNum (sndV q.1) q.2 p) = ansLow p lo xs
  | [], _, _, _ => rfl
  | [x], lo, n, _ => by simp [ansLow]
  | x :: y :: r, lo, 0, h => by simp at h
  | x :: y :: r, lo, n + 1, h => by
    have ih := ansLow_zip p (y :: r) p n (by simpa using h)
    rw [List.replicate_succ, List.zip_cons_cons, List.all_cons, ih]
    rfl
def Under (p : Int) (us : List (Nat × Int)) (many : Nat) : Prop := Row (us.map (·.1)) many ∧ (∀ q, q ∈ us → 1 ≤ q.2 ∧ q.2 ≤ p) ∧ ∀ q, q ∈ us.drop 1 → q.2 = p
theorem ansLow_iff {p : Int} (hp : 1 ≤ p) : ∀ (us : List (Nat × Int)) (lo : Int), lo ≤ p → 1 ≤ lo → (ansLow p lo (us.map ansV) = true ↔ ((∀ q, us.head? = some q → lo ≤ q.2 ∧ q.2 ≤ p) ∧ ∀ q, q ∈ us.drop 1 → q.2 = p))
  | [], _, _, _ => by simp [ansLow]
  | q :: r, lo, h1, h2 => by
    have ih := ansLow_iff hp r p (by omega) hp
    rw [List.map_cons]
    unfold ansLow
    rw [Bool.and_eq_true, ih]
    have e : isNum (sndV (ansV q)) lo p = true ↔ lo ≤ q.2 ∧ q.2 ≤ p := by
      show (decide (lo ≤ q.2) && decide (q.2 ≤ p)) = true ↔ _
      simp
    rw [e]
    constructor
    · rintro ⟨h3, h4, h5⟩
      refine ⟨fun q' e => by cases e; exact h3, fun q' hq => ?_⟩
      rw [List.drop_succ_cons, List.drop_zero] at hq
      cases r with
      | nil => cases hq
      | cons b r =>
        rcases List.mem_cons.mp hq with rfl | hq
        · have := h4 q' rfl
          omega
        · exact h5 q' hq
    · rintro ⟨h3, h4⟩
      rw [List.drop_succ_cons, List.drop_zero] at h4
      refine ⟨h3 q rfl, fun q' e => ?_, fun q' hq => h4 q' (List.mem_of_mem_drop hq)⟩
      have := h4 q' (List.mem_of_mem_head? e)
      omega
theorem isAnsV_iff {p : Int} (hp : 1 ≤ p) {v : PV} {many : Nat} : isAnsV p v many = true ↔ ∃ us, v = .tup (us.map ansV) ∧ Under p us many := by
  constructor
  · intro h
    cases v with
    | tup xs =>
      unfold isAnsV at h
      dsimp only at h
      rw [Bool.and_eq_true, Bool.and_eq_true] at h
      obtain ⟨h1, h2, h3⟩ := h
      obtain ⟨ns, e, hr⟩ := isRowV_iff.mp h2
      have key : ∀ (xs : List PV) (ns : List Nat) (lo : Int), xs.all isPair = true → xs.map fstV = ns.map natV → ansLow p lo xs = true → ∃ us : List (Nat × Int), xs = us.map ansV ∧ us.map (·.1) = ns := by
        intro xs
        induction xs with
        | nil =>
          intro ns lo _ e _
          cases ns with
          | nil => exact ⟨[], rfl, rfl⟩
          | cons a b => cases e
        | cons x xs ih =>
          intro ns lo h1 e h3
          cases ns with
          | nil => cases e
          | cons n ns =>
            rw [List.map_cons, List.map_cons] at e
            injection e with e1 e2
            rw [List.all_cons, Bool.and_eq_true] at h1
            unfold ansLow at h3
            rw [Bool.and_eq_true] at h3
            obtain ⟨us, rfl, hu⟩ := ih ns p h1.2 e2 h3.2
            have hx := h1.1
            unfold isPair at hx
            split at hx
            · rename_i a b
              obtain ⟨j, ej, _⟩ := isNum_iff.mp h3.1
              have ej' : b = .int j := ej
              have ea : a = natV n := e1
              exact ⟨(n, j) :: us, by rw [ea, ej']; rfl, by rw [List.map_cons, hu]⟩
            · cases hx
      have e' : xs.map fstV = ns.map natV := by
        unfold rowV at e
        injection e
      obtain ⟨us, rfl, hu⟩ := key xs ns 1 h1 e' h3
      refine ⟨us, rfl, by rw [hu]; exact hr, ?_⟩
      obtain ⟨a1, a2⟩ := (ansLow_iff hp us 1 hp (by omega)).mp h3
      refine ⟨fun q hq => ?_, a2⟩
      cases us with
      | nil => cases hq
      | cons u us =>
        rcases List.mem_cons.mp hq with rfl | hq
        · exact a1 q rfl
        · have := a2 q hq
          omega
    | _ => cases h
  · rintro ⟨us, rfl, h1, h2, h3⟩
    unfold isAnsV
    dsimp only
    rw [Bool.and_eq_true, Bool.and_eq_true]
    refine ⟨List.all_eq_true.mpr fun x hx => ?_, ?_, (ansLow_iff hp us 1 hp (by omega)).mpr ⟨fun q e => h2 q (List.mem_of_mem_head? e), h3⟩⟩
    · obtain ⟨q, _, rfl⟩ := List.mem_map.mp hx
      rfl
    · refine isRowV_iff.mpr ⟨us.map (·.1), ?_, h1⟩
      unfold rowV
      rw [List.map_map, List.map_map]
      rfl
section
variable {P : MP} (T : PkS P)
include T
theorem cp_is_row (d : Nat) (v : PV) {k : Nat} (hv : Dat k v) (hk : k ≤ 40) (hl : ∀ xs, v = .tup xs → xs.length ≤ 1000000) (many : Int) (M : MH) : callP (evC P 30 (d + 2)) 14 [v, .int many] M = .val (.bl (isRowV v many)) M :=
  callP_ok (by simp [hv.pure (show k ≤ 50 by omega)]) (ev_is_row T d v hv hk hl many []) rfl
theorem ev_are_answers (d : Nat) (L : Ln) (v : PV) {k : Nat} (hv : Dat k v) (hk : k ≤ 40) (hl : ∀ xs, v = .tup xs → xs.length ≤ 1000) (many : Int) (M : MH) : evC P 30 (d + 3) 15 [lnV L, v, .int many] M = .val (.bl (isAnsV L.pieces v many)) M := by
  rw [evC_succ P 30 (d + 2) 15 _ M T.f15 rfl]
  cases v with
  | ref n => cases k <;> simp [Dat, okB, view] at hv
  | obj c n => cases k <;> simp [Dat, okB] at hv
  | tup xs =>
    cases k with
    | zero => cases hv
    | succ k =>
    have hx := hl xs rfl
    have hs : SrcL M (.sq true (.tup xs)) xs id := src_seq (by rw [List.map_id]; rfl)
    have e0 : ∀ j, lcL (evT0 P (evC P 30 (d + 2)) (j + 5)) (.and [.isi (.var 3) [.tuple], .cmp .eq (.blt .len false [.var 3]) (.lit (.int 2))]) (.nm 3) [] [some (lnV L), some (PV.tup xs), some (PV.int many), none, none, none] (srcLen M (.sq true (.tup xs)) + 1) 0 (.sq true (.tup xs)) [] M = .val (xs.map fun x => .bl (isPair x)) M := by
      intro j
      refine lcL_all hs (by omega) fun x hm => ⟨_, rfl, ?_⟩
      have dx := hv.mem hm
      cases x with
      | tup ys =>
        simp
        match ys with
        | [] => rfl
        | [_] => rfl
        | [_, _] => rfl
        | a :: b :: c :: r =>
          simp [isPair]
          omega
      | ref n => cases k <;> simp [Dat, okB, view] at dx
      | obj c n => cases k <;> simp [Dat, okB] at dx
      | _ => rfl
    have eb := bAll_map false isPair xs M
    have hn1 : (xs.map fun x => PV.bl (isPair x)).length ≤ 1000000 := by rw [List.length_map]; omega
    cases hA : xs.all isPair with
    | false =>
      simp [-List.map_map, m_are_answers, kindS_tup, wipeR, e0, newL_f hn1, eb, hA]
      unfold isAnsV
      dsimp only
      rw [hA]
      rfl
    | true =>
      have e1 : ∀ j, lcL (evT0 P (evC P 30 (d + 2)) (j + 5)) (.idx (.var 3) (.lit (.int 0))) (.nm 3) [] [some (lnV L), some (PV.tup xs), some (PV.int many), none, none, none] (srcLen M (.sq true (.tup xs)) + 1) 0 (.sq true (.tup xs)) [] M = .val (xs.map fstV) M := by
        intro j
        refine lcL_all hs (by omega) fun x hm => ⟨_, rfl, ?_⟩
        have q := List.all_eq_true.mp hA x hm
        unfold isPair at q
        split at q
        · rfl
        · cases q
      have hn2 : (xs.map fstV).length ≤ 1000000 := by rw [List.length_map]; omega
      have df : Dat (k + 1) (.tup (xs.map fstV)) := List.all_eq_true.mpr fun x hx => by
        obtain ⟨y, hy, rfl⟩ := List.mem_map.mp hx
        have dy := hv.mem hy
        have q := List.all_eq_true.mp hA y hy
        unfold isPair at q
        split at q
        · rename_i a b
          cases k with
          | zero => cases dy
          | succ k => exact okB_mono _ _ _ (dy.mem (x := a) (by simp))
        · cases q
      have er := cp_is_row T d (.tup (xs.map fstV)) df (by omega) (fun ys e => by cases e; omega) many M
      cases hR : isRowV (.tup (xs.map fstV)) many with
      | false =>
        rw [hR] at er
        simp [-List.map_map, m_are_answers, kindS_tup, wipeR, e0, newL_f hn1, eb, hA, e1, newL_f hn2, bTuple_lst false _ M hn2, stepE_callT, T.k14, er]
        unfold isAnsV
        dsimp only
        rw [hA, hR]
        rfl
      | true =>
        rw [hR] at er
        have em : binOp .mul false (.lst [PV.int L.pieces]) (.int xs.length) M = .val (.lst (List.replicate xs.length (PV.int L.pieces))) M := by
          show (if (0 : Int) ≤ (xs.length : Int) ∧ (xs.length : Int) ≤ 1000 ∧ 1 ≤ 1000 then newL false (List.replicate (Int.toNat xs.length) [PV.int L.pieces]).flatten M else .stuck) = _
          rw [if_pos ⟨by omega, by omega, by omega⟩, Int.toNat_natCast]
          have e : (List.replicate xs.length [PV.int L.pieces]).flatten = List.replicate xs.length (PV.int L.pieces) := by
            induction xs.length with
            | zero => rfl
            | succ n ih => rw [List.replicate_succ, List.flatten_cons, ih]; rfl
          rw [e, newL_f (by rw [List.length_replicate]; omega)]
        have hz : SrcL M (.zip true (.tup xs) false (.lst (PV.int 1 :: List.replicate xs.length (PV.int L.pieces)))) (xs.zip (1 :: List.replicate xs.length L.pieces)) (fun q => PV.tup [id q.1, PV.int q.2]) := srcZip (by rw [List.map_id]; rfl) (by rw [List.map_cons, List.map_replicate]; rfl)
        have e2 : ∀ j, lcL (evT0 P (evC P 30 (d + 2)) (j + 5)) (.call 0 true [.idx (.var 3) (.lit (.int 1)), .var 5, .att (.var 0) 2]) (.tup [.nm 3, .nm 5]) [] [some (lnV L), some (PV.tup xs), some (PV.int many), none, some (.lst (PV.int 1 :: List.replicate xs.length (PV.int L.pieces))), none] (srcLen M (.zip true (.tup xs) false (.lst (PV.int 1 :: List.replicate xs.length (PV.int L.pieces)))) + 1) 0 (.zip true (.tup xs) false (.lst (PV.int 1 :: List.replicate xs.length (PV.int L.pieces)))) [] M = .val ((xs.zip (1 :: List.replicate xs.length L.pieces)).map fun q => .bl (isNum (sndV q.1) q.2 L.pieces)) M := by
          intro j
          refine lcL_all hz (by rw [List.length_zip]; omega) fun q hm => ⟨_, rfl, ?_⟩
          have hq : q.1 ∈ xs := (List.of_mem_zip (a := q.1) (b := q.2) hm).1
          have dq := hv.mem hq
          have z := List.all_eq_true.mp hA q.1 hq
          unfold isPair at z
          split at z
          · rename_i a b ea
            rw [ea] at dq
            cases k with
            | zero => cases dq
            | succ k =>
            have db : Dat k b := dq.mem (by simp)
            simp [ea, stepE_callT, T.k0, att_pieces T.cl, cp_is_number P T.f0 (d + 1) b db (by omega) q.2 L.pieces M, sndV]
          · cases z
        have eb2 := bAll_map false (fun q : PV × Int => isNum (sndV q.1) q.2 L.pieces) (xs.zip (1 :: List.replicate xs.length L.pieces)) M
        rw [ansLow_zip L.pieces xs 1 xs.length (by omega)] at eb2
        have hn3 : ((xs.zip (1 :: List.replicate xs.length L.pieces)).map fun q => PV.bl (isNum (sndV q.1) q.2 L.pieces)).length ≤ 1000000 := by rw [List.length_map, List.length_zip]; omega
        have hn4 : (PV.int 1 :: List.replicate xs.length (PV.int L.pieces)).length ≤ 1000000 := by rw [List.length_cons, List.length_replicate]; omega
        have hn5 : ([PV.int L.pieces] : List PV).length ≤ 1000000 := by simp
        simp [-List.map_map, m_are_answers, kindS_tup, wipeR, e0, newL_f hn1, eb, hA, e1, newL_f hn2, bTuple_lst false _ M hn2, stepE_callT, T.k14, er, em, newL_f hn4, att_pieces T.cl, newL_f hn5, e2, newL_f hn3, eb2]
        unfold isAnsV
        dsimp only
        rw [hA, hR]
        rfl
  | _ => rfl
theorem cp_are_answers (d : Nat) (L : Ln) (v : PV) {k : Nat} (hv : Dat k v) (hk : k ≤ 40) (hl : ∀ xs, v = .tup xs → xs.length ≤ 1000) (many : Int) (M : MH) : callP (evC P 30 (d + 3)) 15 [lnV L, v, .int many] M = .val (.bl (isAnsV L.pieces v many)) M :=
  callP_ok (by simp [hv.pure (show k ≤ 50 by omega), ln_pure L 47]) (ev_are_answers T d L v hv hk hl many []) rfl
end
end Mp.Pk
end

section
set_option Elab.async false
set_option linter.all false
set_option maxRecDepth 100000
set_option maxHeartbeats 4000000
/-! Pk5: open asks, what is left. -/
namespace Mp.Pk
open PySem Mp

def aAt (asks : List Ask) (i : Nat) : Ask := asks.getD i ⟨0, .op, 0, false⟩
/-- the places of all open asks -/
def openI (asks : List Ask) : List Nat := (asks.zipIdx.filter fun q => decide (q.1.w = .op)).map (·.2)
def openOf (asks : List Ask) (a : Int) : List Nat := (openI asks).filter fun i => decide ((aAt asks i).a = a)
theorem zipIdx_mem {α : Type} {asks : List α} {q : α × Nat} (h : q ∈ asks.zipIdx) : asks[q.2]? = some q.1 := by
  have := List.mem_zipIdx_iff_getElem?.mp h
  simpa using this
theorem aAt_of {asks : List Ask} {i : Nat} {q : Ask} (h : asks[i]? = some q) : aAt asks i = q := by
  unfold aAt
  rw [List.getD_eq_getElem?_getD, h]
  rfl
theorem mem_openI {asks : List Ask} {i : Nat} : i ∈ openI asks ↔ i < asks.length ∧ (aAt asks i).w = .op := by
  unfold openI
  rw [List.mem_map]
  constructor
  · rintro ⟨q, hq, rfl⟩
    obtain ⟨h1, h2⟩ := List.mem_filter.mp hq
    have h3 := zipIdx_mem h1
    refine ⟨(List.getElem?_eq_some_iff.mp h3).1, ?_⟩
    rw [aAt_of h3]
    simpa using h2
  · rintro ⟨h1, h2⟩
    have h3 : asks[i]? = some (aAt asks i) := by
      unfold aAt
      rw [List.getD_eq_getElem?_getD, List.getElem?_eq_getElem h1]
      rfl
    exact ⟨(aAt asks i, i), List.mem_filter.mpr ⟨List.mem_zipIdx_iff_getElem?.mpr h3, by simpa using h2⟩, rfl⟩
theorem openI_asc (asks : List Ask) : (openI asks).Pairwise (· < ·) := by
  unfold openI
  refine List.Pairwise.map _ (R := fun a b => a.2 < b.2) (fun _ _ h => h) ?_
  refine List.Pairwise.filter _ ?_
  have h : (asks.zipIdx.map (·.2)).Pairwise (· < ·) := by
    rw [List.zipIdx_map_snd]
    exact List.pairwise_lt_range'
  exact List.pairwise_map.mp h
theorem openI_len (asks : List Ask) : (openI asks).length ≤ asks.length := by
  unfold openI
  rw [List.length_map]
  refine Nat.le_trans (List.length_filter_le _ _) ?_
  rw [List.length_zipIdx]
  exact Nat.le_refl _
theorem openOf_len (asks : List Ask) (a : Int) : (openOf asks a).length ≤ asks.length := Nat.le_trans (List.length_filter_le _ _) (openI_len asks)
theorem nats_pure (ns : List Nat) (k : Nat) : (ns.map natV).all (pureB (k + 1)) = true := by simp [natV]
theorem asks_pure (asks : List Ask) (k : Nat) : (asks.map askV).all (pureB (k + 2)) = true := by simp [ask_pure]
theorem ask_dat (q : Ask) : Dat 3 (askV q) := by
  obtain ⟨a, w, n, l⟩ := q
  show okB 3 [] _ = true
  cases w <;> kernel_rfl
theorem asks_dat (asks : List Ask) : Dat 4 (.tup (asks.map askV)) := List.all_eq_true.mpr fun x hx => by
  obtain ⟨q, _, rfl⟩ := List.mem_map.mp hx
  exact ask_dat q
theorem row_dat (ns : List Nat) : Dat 2 (rowV ns) := List.all_eq_true.mpr fun x hx => by
  obtain ⟨q, _, rfl⟩ := List.mem_map.mp hx
  rfl
theorem ans_dat (us : List (Nat × Int)) : Dat 3 (.tup (us.map ansV)) := List.all_eq_true.mpr fun x hx => by
  obtain ⟨q, _, rfl⟩ := List.mem_map.mp hx
  rfl
theorem half_dat (h : Option Nat) : Dat 1 (halfV h) := by cases h <;> rfl
theorem st_dat (s : St) : Dat 5 (stV s) := by
  refine List.all_eq_true.mpr fun x hx => ?_
  simp only [List.mem_cons, List.not_mem_nil, or_false] at hx
  rcases hx with rfl | rfl | rfl | rfl | rfl | rfl
  · rfl
  · exact asks_dat s.asks
  · exact (row_dat s.row).le (by decide)
  · exact (row_dat s.elder).le (by decide)
  · exact (ans_dat s.under).le (by decide)
  · exact (half_dat s.half).le (by decide)
theorem st_pure (s : St) (k : Nat) : pureB (k + 5) (stV s) = true := (st_dat s).pure (by omega)
@[simp] theorem readL_row (M : MH) (ns : List Nat) : readL M (rowV ns) = some (ns.map natV) := rfl
@[simp] theorem view_row (M : MH) (ns : List Nat) : view M (rowV ns) = rowV ns := rfl
@[simp] theorem view_nat (M : MH) (i : Nat) : view M (natV i) = natV i := rfl
/-! ### sorted sets -/
def insN (a : Nat) : List Nat → List Nat
  | [] => [a]
  | b :: r => if a < b then a :: b :: r else if a = b then b :: r else b :: insN a r
def sortN : List Nat → List Nat
  | [] => []
  | a :: r => insN a (sortN r)
theorem insU_nat (a : Nat) : ∀ ns : List Nat, insU (a : Int) (ns.map fun i : Nat => (i : Int)) = (insN a ns).map fun i : Nat => (i : Int)
  | [] => rfl
  | b :: r => by
    rw [List.map_cons]
    unfold insU insN
    have ih := insU_nat a r
    by_cases h1 : a < b
    · rw [if_pos (by omega), if_pos h1]
      rfl
    · rw [if_neg (by omega), if_neg h1]
      by_cases h2 : a = b
      · rw [if_pos (by omega), if_pos h2]
        rfl
      · rw [if_neg (by omega), if_neg h2, ih]
        rfl
theorem sortU_nat : ∀ ns : List Nat, sortU (ns.map fun i : Nat => (i : Int)) = (sortN ns).map fun i : Nat => (i : Int)
  | [] => rfl
  | a :: r => by
    rw [List.map_cons]
    unfold sortU sortN
    rw [sortU_nat r, insU_nat]
theorem mem_insN {a x : Nat} : ∀ {ns : List Nat}, x ∈ insN a ns ↔ x = a ∨ x ∈ ns
  | [] => by simp [insN]
  | b :: r => by
    unfold insN
    split
    · simp
    · split
      · rename_i h
        subst h
        simp
      · rw [List.mem_cons, mem_insN, List.mem_cons]
        constructor
        · rintro (h | h | h)
          · exact .inr (.inl h)
          · exact .inl h
          · exact .inr (.inr h)
        · rintro (h | h | h)
          · exact .inr (.inl h)
          · exact .inl h
          · exact .inr (.inr h)
theorem mem_sortN {x : Nat} : ∀ {ns : List Nat}, x ∈ sortN ns ↔ x ∈ ns
  | [] => by simp [sortN]
  | a :: r => by
    unfold sortN
    rw [mem_insN, mem_sortN, List.mem_cons]
theorem insN_asc {a : Nat} : ∀ {ns : List Nat}, ns.Pairwise (· < ·) → (insN a ns).Pairwise (· < ·)
  | [], _ => by simp [insN]
  | b :: r, h => by
    obtain ⟨h1, h2⟩ := List.pairwise_cons.mp h
    unfold insN
    split
    · rename_i hab
      refine List.pairwise_cons.mpr ⟨fun c hc => ?_, h⟩
      rcases List.mem_cons.mp hc with rfl | hc
      · exact hab
      · have := h1 c hc
        omega
    · split
      · exact h
      · rename_i n1 n2
        refine List.pairwise_cons.mpr ⟨fun c hc => ?_, insN_asc h2⟩
        rcases mem_insN.mp hc with rfl | hc
        · omega
        · exact h1 c hc
theorem sortN_asc : ∀ ns : List Nat, (sortN ns).Pairwise (· < ·)
  | [] => by simp [sortN]
  | a :: r => by
    unfold sortN
    exact insN_asc (sortN_asc r)
/-- two rising lists with the same items -/
theorem asc_ext : ∀ {a b : List Nat}, a.Pairwise (· < ·) → b.Pairwise (· < ·) → (∀ x, x ∈ a ↔ x ∈ b) → a = b
  | [], [], _, _, _ => rfl
  | [], y :: b, _, _, h => absurd ((h y).mpr List.mem_cons_self) List.not_mem_nil
  | x :: a, [], _, _, h => absurd ((h x).mp List.mem_cons_self) List.not_mem_nil
  | x :: a, y :: b, ha, hb, h => by
    obtain ⟨a1, a2⟩ := List.pairwise_cons.mp ha
    obtain ⟨b1, b2⟩ := List.pairwise_cons.mp hb
    have e : x = y := by
      have h1 := (h x).mp List.mem_cons_self
      have h2 := (h y).mpr List.mem_cons_self
      rcases List.mem_cons.mp h1 with h1 | h1
      · exact h1
      · rcases List.mem_cons.mp h2 with h2 | h2
        · exact h2.symm
        · have := b1 x h1
          have := a1 y h2
          omega
    subst e
    rw [asc_ext a2 b2 fun z => ⟨fun hz => ?_, fun hz => ?_⟩]
    · rcases List.mem_cons.mp ((h z).mp (List.mem_cons_of_mem _ hz)) with rfl | q
      · exact absurd (a1 z hz) (Nat.lt_irrefl _)
      · exact q
    · rcases List.mem_cons.mp ((h z).mpr (List.mem_cons_of_mem _ hz)) with rfl | q
      · exact absurd (b1 z hz) (Nat.lt_irrefl _)
      · exact q
/-- all that is open, in a row or under way, or the half answer -/
def foundN (s : St) : List Nat := openI s.asks ++ (s.row ++ (s.elder ++ s.under.map (·.1)))
def leftN (s : St) : List Nat := sortN (match s.half with
  | none => foundN s
  | some h => foundN s ++ [h])
theorem intsOf_nat : ∀ ns : List Nat, intsOf (ns.map natV) = some (ns.map fun i : Nat => (i : Int))
  | [] => rfl
  | a :: r => by
    rw [List.map_cons, List.map_cons]
    show (match intsOf (r.map natV) with | some is => some ((a : Int) :: is) | none => none) = _
    rw [intsOf_nat r]
theorem sset_nat (ns : List Nat) (M : MH) (h : ns.length < 64) : bltF .sset false [.lst (ns.map natV)] M = .val (.lst ((sortN ns).map natV)) M := by
  show (match intsOf (ns.map natV) with
      | some is => if is.length < 64 then newL false ((sortU is).map .int) M else .stuck
      | none => .stuck) = _
  rw [intsOf_nat]
  dsimp only
  rw [if_pos (by simpa using h), sortU_nat, List.map_map]
  have hl : (sortN ns).length ≤ ns.length := by
    clear h
    induction ns with
    | nil => exact Nat.le_refl _
    | cons a r ih =>
      unfold sortN
      have key : ∀ (a : Nat) (l : List Nat), (insN a l).length ≤ l.length + 1 := by
        intro a l
        induction l with
        | nil => exact Nat.le_refl _
        | cons b l ih2 =>
          unfold insN
          split
          · simp
          · split
            · simp
            · simp only [List.length_cons]
              omega
      have := key a (sortN r)
      simp only [List.length_cons]
      omega
  rw [newL_f (by rw [List.length_map]; omega)]
  rfl
section
variable {P : MP} (T : PkS P)
include T
theorem ev_open_asks (d : Nat) (asks : List Ask) (hl : asks.length ≤ 1000000) (M : MH) : evC P 30 (d + 1) 16 [.tup (asks.map askV)] M = .val (.lst ((openI asks).map natV)) M := by
  rw [evC_succ P 30 d 16 _ M T.f16 rfl]
  have hs : SrcL M (.enum true (.tup (asks.map askV))) asks.zipIdx (fun q => PV.tup [PV.int q.2, askV q.1]) := srcEnum rfl
  have e0 : ∀ j, lcL (evT0 P (evC P 30 d) (j + 5)) (.var 1) (.tup [.nm 1, .nm 2]) [.cmp .eq (.idx (.var 2) (.lit (.int 1))) (.lit (.str (PySem.Str.ofString "open")))] [some (PV.tup (asks.map askV)), none, none] (srcLen M (.enum true (.tup (asks.map askV))) + 1) 0 (.enum true (.tup (asks.map askV))) [] M = .val ((openI asks).map natV) M := by
    intro j
    rw [lcL_items (p := fun q : Ask × Nat => decide (q.1.w = .op)) (g := fun q => natV q.2) hs (by rw [List.length_zipIdx]; exact hl) fun q _ => ⟨_, rfl, ?_, fun _ => rfl⟩]
    · unfold openI
      rw [List.map_map]
      rfl
    · simp [askV, wd_open]
  have hn : ((openI asks).map natV).length ≤ 1000000 := by rw [List.length_map]; have := openI_len asks; omega
  simp [-List.map_map, m_open_asks, wipeR, e0, newL_f hn]
theorem cp_open_asks (d : Nat) (asks : List Ask) (hl : asks.length ≤ 1000000) (M : MH) : callP (evC P 30 (d + 1)) 16 [.tup (asks.map askV)] M = .val (.lst ((openI asks).map natV)) M :=
  callP_ok (by simp only [List.all_cons, List.all_nil, pure_tup, asks_pure asks 47, Bool.and_self]) (ev_open_asks T d asks hl []) (by simp only [pure_lst, nats_pure _ 48])
theorem ev_open_of (d : Nat) (asks : List Ask) (hl : asks.length ≤ 1000000) (a : Int) (M : MH) : evC P 30 (d + 2) 17 [.tup (asks.map askV), .int a] M = .val (.lst ((openOf asks a).map natV)) M := by
  rw [evC_succ P 30 (d + 1) 17 _ M T.f17 rfl]
  have hs : SrcL M (.sq false (.lst ((openI asks).map natV))) (openI asks) natV := src_lst _ _ _
  have e0 : ∀ j, lcL (evT0 P (evC P 30 (d + 1)) (j + 6)) (.var 2) (.nm 2) [.cmp .eq (.idx (.idx (.var 0) (.var 2)) (.lit (.int 0))) (.var 1)] [some (PV.tup (asks.map askV)), some (PV.int a), none] (srcLen M (.sq false (.lst ((openI asks).map natV))) + 1) 0 (.sq false (.lst ((openI asks).map natV))) [] M = .val ((openOf asks a).map natV) M := by
    intro j
    rw [lcL_items (p := fun i : Nat => decide ((aAt asks i).a = a)) (g := natV) hs (by have := openI_len asks; omega) fun i hi => ⟨_, rfl, ?_, fun _ => rfl⟩]
    · rfl
    · have h1 := (mem_openI.mp hi).1
      have e1 : getI (.tup (asks.map askV)) (natV i) M = some (askV (aAt asks i)) := getI_tup (by rw [List.getElem?_map, List.getElem?_eq_getElem h1]; rw [aAt_of (List.getElem?_eq_getElem h1)]; rfl)
      simp [e1, askV]
  have hn : ((openOf asks a).map natV).length ≤ 1000000 := by rw [List.length_map]; have := openOf_len asks a; omega
  simp [-List.map_map, m_open_of, wipeR, stepE_callT, T.k16, cp_open_asks T d asks hl, kindS_lst, e0, newL_f hn]
theorem cp_open_of (d : Nat) (asks : List Ask) (hl : asks.length ≤ 1000000) (a : Int) (M : MH) : callP (evC P 30 (d + 2)) 17 [.tup (asks.map askV), .int a] M = .val (.lst ((openOf asks a).map natV)) M :=
  callP_ok (by simp only [List.all_cons, List.all_nil, pure_tup, asks_pure asks 47, pure_int, Bool.and_self]) (ev_open_of T d asks hl a []) (by simp only [pure_lst, nats_pure _ 48])
theorem ev_left_in (d : Nat) (s : St) (hl : (foundN s).length < 63) (ha : s.asks.length ≤ 1000) (M : MH) : evC P 30 (d + 2) 18 [stV s] M = .val (.lst ((leftN s).map natV)) M := by
  rw [evC_succ P 30 (d + 1) 18 _ M T.f18 rfl]
  have hu : s.under.length < 63 := by
    have : (foundN s).length = (openI s.asks).length + (s.row.length + (s.elder.length + s.under.length)) := by unfold foundN; simp
    omega
  have hs : SrcL M (.sq true (.tup (s.under.map ansV))) s.under ansV := src_tup _ _ _
  have e0 : ∀ j σ, lcL (evT0 P (evC P 30 (d + 1)) (j + 6)) (.idx (.var 8) (.lit (.int 0))) (.nm 8) [] [some σ, some (PV.bl s.o), some (PV.tup (s.asks.map askV)), some (rowV s.row), some (rowV s.elder), some (.tup (s.under.map ansV)), some (halfV s.half), none, none] (srcLen M (.sq true (.tup (s.under.map ansV))) + 1) 0 (.sq true (.tup (s.under.map ansV))) [] M = .val ((s.under.map (·.1)).map natV) M := by
    intro j σ
    rw [lcL_all (g := fun q : Nat × Int => natV q.1) hs (by omega) fun i hi => ⟨_, rfl, ?_⟩]
    · rw [List.map_map]
      rfl
    · simp [ansV]
  have hn : ((s.under.map (·.1)).map natV).length ≤ 1000000 := by simp; omega
  have hf : ((foundN s).map natV).length ≤ 1000000 := by rw [List.length_map]; omega
  have ef : (openI s.asks).map natV ++ (s.row.map natV ++ (s.elder.map natV ++ (s.under.map (·.1)).map natV)) = (foundN s).map natV := by unfold foundN; simp only [List.map_append]
  have hf2 : ∀ h, ((foundN s).map natV ++ [natV h]).length ≤ 1000000 := fun h => by rw [List.length_append]; simp only [List.length_map, List.length_cons, List.length_nil]; omega
  have es := sset_nat (foundN s) M (by omega)
  have es2 : ∀ h, bltF .sset false [.lst ((foundN s).map natV ++ [natV h])] M = .val (.lst ((sortN (foundN s ++ [h])).map natV)) M := fun h => by
    have := sset_nat (foundN s ++ [h]) M (by rw [List.length_append]; simp only [List.length_cons, List.length_nil]; omega)
    rw [List.map_append] at this
    exact this
  have hfl : ([PV.lst ((openI s.asks).map natV)] : List PV) = [PV.lst ((openI s.asks).map natV)] := rfl
  have hn1 : ((openI s.asks).map natV).length ≤ 1000000 := by rw [List.length_map]; have := openI_len s.asks; omega
  cases hh : s.half with
  | none =>
    simp only [hh] at e0
    have el : leftN s = sortN (foundN s) := by unfold leftN; rw [hh]
    simp [-List.map_map, -List.append_assoc, m_left_in, wipeR, stV, stepE_callT, T.k16, cp_open_asks T d s.asks (by omega), kindS_tup, e0, hh, newL_f hn, ef, newL_f hf, show isNon (halfV none) = true from rfl, es, el]
  | some h =>
    simp only [hh] at e0
    have es3 : bltF .sset false [.lst ((foundN s).map natV ++ [halfV (some h)])] M = .val (.lst ((sortN (foundN s ++ [h])).map natV)) M := es2 h
    have hf3 : ((foundN s).map natV ++ [halfV (some h)]).length ≤ 1000000 := hf2 h
    have el : leftN s = sortN (foundN s ++ [h]) := by unfold leftN; rw [hh]
    simp [-List.map_map, -List.append_assoc, m_left_in, wipeR, stV, stepE_callT, T.k16, cp_open_asks T d s.asks (by omega), kindS_tup, e0, hh, newL_f hn, ef, newL_f hf, show isNon (halfV (some h)) = false from rfl, newL_f hf3, es3, el]
theorem cp_left_in (d : Nat) (s : St) (hl : (foundN s).length < 63) (ha : s.asks.length ≤ 1000) (M : MH) : callP (evC P 30 (d + 2)) 18 [stV s] M = .val (.lst ((leftN s).map natV)) M :=
  callP_ok (by simp only [List.all_cons, List.all_nil, st_pure s 45, Bool.and_self]) (ev_left_in T d s hl ha []) (by simp only [pure_lst, nats_pure _ 48])
end
end Mp.Pk
end

section
set_option Elab.async false
set_option linter.all false
set_option maxRecDepth 100000
set_option maxHeartbeats 4000000
/-! Pk6: which tuples are states. -/
namespace Mp.Pk
open PySem Mp

def isNilB : PV → Bool
  | .tup xs => xs.isEmpty
  | _ => false
theorem eqV_nil {k : Nat} {v : PV} (h : Dat k v) (hk : k ≤ 40) (M : MH) : eqV M v (.tup []) = some (isNilB v) := by
  have h1 := h.ok M hk
  rw [eqV_ok h1 rfl]
  congr 1
  have hv := h.view M
  show (match view M v, view M (.tup []) with
    | .non, .non => true
    | .bl a, .bl b => a == b
    | .bl a, .int j => decide (b2i a = j)
    | .int i, .bl b => decide (i = b2i b)
    | .int i, .int j => decide (i = j)
    | .str a, .str b => strEq a b
    | .tup xs, .tup ys => eqL (eqB 39 M) xs ys
    | .lst xs, .lst ys => eqL (eqB 39 M) xs ys
    | .scr ns, .lst ys => eqL (eqB 39 M) (ns.map .int) ys
    | .lst xs, .scr ns => eqL (eqB 39 M) xs (ns.map .int)
    | .scr ms, .scr ns => eqL (eqB 39 M) (ms.map .int) (ns.map .int)
    | _, _ => false) = _
  rw [hv]
  cases v with
  | tup xs => cases xs <;> rfl
  | _ => rfl
theorem getI_last (xs : List PV) (x : PV) (M : MH) : getI (.tup (xs ++ [x])) (.int (-1)) M = some x := by
  show (match ixOf (xs ++ [x]).length (-1) with | some j => (xs ++ [x])[j]? | none => none) = _
  have e : ixOf (xs ++ [x]).length (-1) = some xs.length := by
    unfold ixOf
    rw [if_neg (by decide), if_pos (by rw [List.length_append]; simp; omega)]
    congr 1
    rw [List.length_append]
    simp
    omega
  rw [e]
  simp
theorem snoc {α : Type} (us : List α) : us = [] ∨ ∃ L b, us = L ++ [b] := by
  rcases List.eq_nil_or_concat us with h | ⟨a, b, h⟩
  · exact .inl h
  · exact .inr ⟨a, b, by rw [h, List.concat_eq_append]⟩
/-! ### the parts -/
def CrossN (row : List Nat) (us : List (Nat × Int)) : Prop := ∀ a b, row.head? = some a → us.getLast? = some b → b.1 < a
structure PartsN (L : Ln) (n : Nat) (row elder : List Nat) (us : List (Nat × Int)) (half : Option Nat) : Prop where
  pr : Row row n
  pe : Row elder n
  pu : Under L.pieces us n
  pc : CrossN row us
  ph : ∀ h, half = some h → L.pieces = 2 ∧ h < n
def PartsV (L : Ln) (n : Nat) (r e u h : PV) : Prop := ∃ row elder us half, r = rowV row ∧ e = rowV elder ∧ u = .tup (us.map ansV) ∧ h = halfV half ∧ PartsN L n row elder us half
theorem rowV_inj {a b : List Nat} (h : rowV a = rowV b) : a = b := by
  unfold rowV at h
  injection h with h
  induction a generalizing b with
  | nil => cases b with
    | nil => rfl
    | cons x b => cases h
  | cons x a ih => cases b with
    | nil => cases h
    | cons y b =>
      rw [List.map_cons, List.map_cons] at h
      injection h with h1 h2
      unfold natV at h1
      injection h1 with h1
      rw [Int.ofNat.inj h1, ih h2]
theorem ansL_inj {a b : List (Nat × Int)} (h : PV.tup (a.map ansV) = .tup (b.map ansV)) : a = b := by
  injection h with h
  induction a generalizing b with
  | nil => cases b with
    | nil => rfl
    | cons x b => cases h
  | cons x a ih => cases b with
    | nil => cases h
    | cons y b =>
      rw [List.map_cons, List.map_cons] at h
      injection h with h1 h2
      unfold ansV natV at h1
      injection h1 with h1
      injection h1 with h3 h4
      injection h3 with h3
      injection h4 with h4
      injection h4 with h4
      rw [ih h2]
      congr 1
      exact Prod.ext (Int.ofNat.inj h3) h4
theorem isNum_nat {v : PV} {n : Nat} : isNum v 0 ((n : Int) - 1) = true ↔ ∃ i, v = natV i ∧ i < n := by
  rw [isNum_iff]
  constructor
  · rintro ⟨i, rfl, h1, h2⟩
    exact ⟨i.toNat, by unfold natV; rw [Int.toNat_of_nonneg h1], by omega⟩
  · rintro ⟨i, rfl, h⟩
    exact ⟨i, rfl, by omega, by omega⟩
def tl : PV → Nat
  | .tup xs => xs.length
  | _ => 0
section
variable {P : MP} (T : PkS P)
include T
theorem ev_are_parts (d : Nat) (L : Ln) (hp : 1 ≤ L.pieces) (asks : List Ask) (o a r e u h : PV) {k : Nat} (dr : Dat k r) (de : Dat k e) (du : Dat k u) (dh : Dat k h) (hk : k ≤ 40) (zr : tl r ≤ 1000) (ze : tl e ≤ 1000) (zu : tl u ≤ 1000) (M : MH) :
    ∃ b, evC P 30 (d + 4) 19 [lnV L, .tup (asks.map askV), .tup [o, a, r, e, u, h]] M = .val (.bl b) M ∧ (b = true ↔ PartsV L asks.length r e u h) := by
  rw [evC_succ P 30 (d + 3) 19 _ M T.f19 rfl]
  have e1 := cp_is_row T (d + 1) r dr hk (fun xs e => by subst e; have : xs.length ≤ 1000 := zr; omega) asks.length M
  have e2 := cp_is_row T (d + 1) e de hk (fun xs e => by subst e; have : xs.length ≤ 1000 := ze; omega) asks.length M
  have e3 := cp_are_answers T d L u du hk (fun xs e => by subst e; exact zu) asks.length M
  cases hr : isRowV r asks.length with
  | false =>
    rw [hr] at e1
    refine ⟨false, by simp [m_are_parts, stepE_callT, T.k14, e1], fun z => (by cases z), fun ⟨row, elder, us, half, a1, a2, a3, a4, a5⟩ => ?_⟩
    rw [isRowV_iff.mpr ⟨row, a1, a5.pr⟩] at hr
    cases hr
  | true =>
  rw [hr] at e1
  cases he : isRowV e asks.length with
  | false =>
    rw [he] at e2
    refine ⟨false, by simp [m_are_parts, stepE_callT, T.k14, e1, e2], fun z => (by cases z), fun ⟨row, elder, us, half, a1, a2, a3, a4, a5⟩ => ?_⟩
    rw [isRowV_iff.mpr ⟨elder, a2, a5.pe⟩] at he
    cases he
  | true =>
  rw [he] at e2
  cases hu : isAnsV L.pieces u asks.length with
  | false =>
    rw [hu] at e3
    refine ⟨false, by simp [m_are_parts, stepE_callT, T.k14, T.k15, e1, e2, e3], fun z => (by cases z), fun ⟨row, elder, us, half, a1, a2, a3, a4, a5⟩ => ?_⟩
    rw [(isAnsV_iff hp).mpr ⟨us, a3, a5.pu⟩] at hu
    cases hu
  | true =>
  rw [hu] at e3
  obtain ⟨row, rfl, R⟩ := isRowV_iff.mp hr
  obtain ⟨elder, rfl, E⟩ := isRowV_iff.mp he
  obtain ⟨us, rfl, U⟩ := (isAnsV_iff hp).mp hu
  have q1 := eqV_nil dr hk M
  have q2 := eqV_nil du hk M
  -- the half answer
  have eh := cp_is_number P T.f0 (d + 2) h dh (by omega) 0 ((asks.length : Int) - 1) M
  have fin : ∀ (ρ : Rho), ρ = [some (lnV L), some (PV.tup (asks.map askV)), some (.tup [o, a, rowV row, rowV elder, .tup (us.map ansV), h]), some (.int asks.length)] →
      stepS (evT0 P (evC P 30 (d + 3)) 29) (.ret (.or [.cmp .is_ (.idx (.var 2) (.lit (.int 5))) (.lit .non), .and [.cmp .eq (.att (.var 0) 2) (.lit (.int 2)), .call 0 true [.idx (.var 2) (.lit (.int 5)), .lit (.int 0), .bin .sub false (.var 3) (.lit (.int 1))]]])) ρ M
        = .rt (.bl (isNon h || (decide (L.pieces = 2) && isNum h 0 ((asks.length : Int) - 1)))) M := by
    intro ρ e
    subst e
    simp [stepE_callT, T.k0, eh, att_pieces T.cl]
    cases isNon h
    · by_cases hp2 : L.pieces = 2 <;> simp [hp2]
    · rfl
  have halfI : (isNon h || (decide (L.pieces = 2) && isNum h 0 ((asks.length : Int) - 1))) = true ↔ ∃ half, h = halfV half ∧ ∀ i, half = some i → L.pieces = 2 ∧ i < asks.length := by
    rw [Bool.or_eq_true, Bool.and_eq_true, decide_eq_true_eq, isNum_nat]
    constructor
    · rintro (z | ⟨z1, i, rfl, z2⟩)
      · refine ⟨none, ?_, fun i e => by cases e⟩
        cases h <;> first | rfl | cases z
      · exact ⟨some i, rfl, fun j e => by cases e; exact ⟨z1, z2⟩⟩
    · rintro ⟨half, rfl, z⟩
      cases half with
      | none => exact .inl rfl
      | some i => exact .inr ⟨(z i rfl).1, i, rfl, (z i rfl).2⟩
  have ok : CrossN row us → ∃ b, (isNon h || (decide (L.pieces = 2) && isNum h 0 ((asks.length : Int) - 1))) = b ∧ (b = true ↔ PartsV L asks.length (rowV row) (rowV elder) (.tup (us.map ansV)) h) := fun cr => by
    refine ⟨_, rfl, ?_⟩
    rw [halfI]
    constructor
    · rintro ⟨half, e, z⟩
      exact ⟨row, elder, us, half, rfl, rfl, rfl, e, R, E, U, cr, z⟩
    · rintro ⟨row', elder', us', half, a1, a2, a3, a4, a5⟩
      exact ⟨half, a4, a5.ph⟩
  have bad : ¬ CrossN row us → ¬ PartsV L asks.length (rowV row) (rowV elder) (.tup (us.map ansV)) h := fun nc ⟨row', elder', us', half, a1, a2, a3, a4, a5⟩ => by
    have b1 := rowV_inj a1
    have b3 := ansL_inj a3
    subst b1 b3
    exact nc a5.pc
  have f := fin _ rfl
  rcases snoc us with rfl | ⟨us0, x, rfl⟩
  · obtain ⟨b, hb, hb2⟩ := ok fun a b _ e => by cases e
    refine ⟨b, ?_, hb2⟩
    have q2' : eqV M (.tup []) (.tup []) = some true := rfl
    simp only [List.map_nil] at f e3
    rw [hb] at f
    simp [m_are_parts, stepE_callT, T.k14, T.k15, e1, e2, e3, q2', -stepS_ret, f]
  · have e9 : (us0 ++ [x]).map ansV = us0.map ansV ++ [ansV x] := by simp
    have q2' : eqV M (.tup (us0.map ansV ++ [ansV x])) (.tup []) = some false := by
      rw [← e9, q2, e9]
      cases us0 <;> rfl
    have gl := getI_last (us0.map ansV) (ansV x) M
    rw [e9] at e3 f du
    cases row with
    | nil =>
      obtain ⟨b, hb, hb2⟩ := ok fun a b e _ => by cases e
      refine ⟨b, ?_, hb2⟩
      rw [e9]
      have q1' : eqV M (rowV []) (.tup []) = some true := rfl
      rw [hb] at f
      simp [m_are_parts, stepE_callT, T.k14, T.k15, e1, e2, e3, q2', q1', -stepS_ret, f]
    | cons y row =>
      have q1' : eqV M (rowV (y :: row)) (.tup []) = some false := q1
      have g0 : getI (rowV (y :: row)) (.int 0) M = some (natV y) := getI_t0 _ _ _
      have g1 : getI (ansV x) (.int 0) M = some (natV x.1) := getI_t0 _ _ _
      by_cases hc : x.1 < y
      · obtain ⟨b, hb, hb2⟩ := ok fun a b e e' => by
          cases e
          rw [List.getLast?_append] at e'
          cases e'
          exact hc
        refine ⟨b, ?_, hb2⟩
        rw [e9]
        rw [hb] at f
        have hc2 : ¬ ((y : Int) ≤ (x.1 : Int)) := by omega
        simp [m_are_parts, stepE_callT, T.k14, T.k15, e1, e2, e3, q2', q1', gl, g0, g1, natV, hc2, -stepS_ret]
        rw [f]
        rfl
      · refine ⟨false, ?_, fun z => (by cases z), fun z => (bad (fun cr => hc (cr y x rfl (by rw [List.getLast?_append]; rfl))) z).elim⟩
        rw [e9]
        have hc2 : (y : Int) ≤ (x.1 : Int) := by omega
        simp [m_are_parts, stepE_callT, T.k14, T.k15, e1, e2, e3, q2', q1', gl, g0, g1, natV, hc2]
theorem cp_are_parts (d : Nat) (L : Ln) (hp : 1 ≤ L.pieces) (asks : List Ask) (o a r e u h : PV) {k : Nat} (dO : Dat k o) (da : Dat k a) (dr : Dat k r) (de : Dat k e) (du : Dat k u) (dh : Dat k h) (hk : k ≤ 38) (zr : tl r ≤ 1000) (ze : tl e ≤ 1000) (zu : tl u ≤ 1000) (M : MH) :
    ∃ b, callP (evC P 30 (d + 4)) 19 [lnV L, .tup (asks.map askV), .tup [o, a, r, e, u, h]] M = .val (.bl b) M ∧ (b = true ↔ PartsV L asks.length r e u h) := by
  obtain ⟨b, h1, h2⟩ := ev_are_parts T d L hp asks o a r e u h dr de du dh (by omega) zr ze zu []
  have p : ∀ {v : PV}, Dat k v → pureB 49 v = true := fun h => h.pure (by omega)
  exact ⟨b, callP_ok (by simp only [List.all_cons, List.all_nil, ln_pure L 47, pure_tup, asks_pure asks 47, p dO, p da, p dr, p de, p du, p dh, Bool.and_self]) h1 rfl, h2⟩
end
/-! ### states -/
structure GoodS (L : Ln) (s : St) : Prop where
  asks : ∀ q, q ∈ s.asks → askOk L q
  parts : PartsN L s.asks.length s.row s.elder s.under s.half
  closed : s.o = false → s.row = [] ∧ s.under = [] ∧ (L.fresh = true → s.half = none)
  ahead : ∀ a : Nat, (a : Int) < L.askers → ((openOf s.asks a).length : Int) ≤ L.ahead
  left : leftN s = List.range s.asks.length
def StOk (L : Ln) (v : PV) : Prop := ∃ s, v = stV s ∧ GoodS L s
theorem wdV_inj {a b : Wd} (h : wdV a = wdV b) : a = b := by
  cases a <;> cases b <;> first | rfl | exact absurd (congrArg (fun v => match v with | .str x => x.cps.toList | _ => []) h) (by decide +kernel)
theorem askV_inj {a b : Ask} (h : askV a = askV b) : a = b := by
  obtain ⟨a1, a2, a3, a4⟩ := a
  obtain ⟨b1, b2, b3, b4⟩ := b
  unfold askV at h
  injection h with h
  injection h with h1 h
  injection h with h2 h
  injection h with h3 h
  injection h with h4 h
  injection h1 with h1
  injection h3 with h3
  injection h4 with h4
  have h5 := wdV_inj h2
  clear h2
  dsimp only at h1 h3 h4 h5
  subst h1 h3 h4 h5
  rfl
theorem asksV_inj : ∀ {a b : List Ask}, a.map askV = b.map askV → a = b
  | [], [], _ => rfl
  | [], _ :: _, h => by cases h
  | _ :: _, [], h => by cases h
  | x :: a, y :: b, h => by
    rw [List.map_cons, List.map_cons] at h
    injection h with h1 h2
    rw [askV_inj h1, asksV_inj h2]
theorem halfV_inj {a b : Option Nat} (h : halfV a = halfV b) : a = b := by
  cases a with
  | none => cases b with
    | none => rfl
    | some j => cases h
  | some i => cases b with
    | none => cases h
    | some j =>
      unfold halfV natV at h
      injection h with h
      rw [Int.ofNat.inj h]
theorem all_asks {L : Ln} {xs : List PV} (h : xs.all (isAskV L) = true) : ∃ asks : List Ask, xs = asks.map askV ∧ ∀ q, q ∈ asks → askOk L q := by
  induction xs with
  | nil => exact ⟨[], rfl, fun _ h => absurd h List.not_mem_nil⟩
  | cons x xs ih =>
    rw [List.all_cons, Bool.and_eq_true] at h
    obtain ⟨q, rfl, hq⟩ := isAskV_iff.mp h.1
    obtain ⟨qs, rfl, hs⟩ := ih h.2
    refine ⟨q :: qs, rfl, fun z hz => ?_⟩
    rcases List.mem_cons.mp hz with rfl | hz
    · exact hq
    · exact hs z hz
/-- how long the parts are -/
def Small (v : PV) : Prop := ∀ o a r e u h, v = .tup [o, a, r, e, u, h] → tl a + (tl r + (tl e + tl u)) < 62
theorem eqV_nats (a b : List Nat) (M : MH) : eqV M (.lst (a.map natV)) (.lst (b.map natV)) = some (decide (a = b)) := by
  have h1 : ∀ a : List Nat, okB 40 M (.lst (a.map natV)) = true := fun a => List.all_eq_true.mpr fun x hx => by
    obtain ⟨i, _, rfl⟩ := List.mem_map.mp hx
    rfl
  rw [eqV_ok (h1 a) (h1 b)]
  congr 1
  show eqL (eqB 39 M) (a.map natV) (b.map natV) = _
  induction a generalizing b with
  | nil => cases b <;> rfl
  | cons x a ih => cases b with
    | nil => rfl
    | cons y b =>
      rw [List.map_cons, List.map_cons]
      show (decide ((x : Int) = y) && eqL (eqB 39 M) (a.map natV) (b.map natV)) = _
      rw [ih b]
      by_cases h : x = y
      · subst h
        simp
      · have h2 : ¬ ((x : Int) = y) := by omega
        simp [h, h2]
theorem rlist_nat (n : Nat) (M : MH) (h : n < 1000000) : bltF .rlist false [.int n] M = .val (.lst ((List.range n).map natV)) M := by
  show (if (-4611686018427387904 : Int) ≤ n ∧ (n : Int) < 1000000 then newL false ((List.range (Int.toNat n)).map fun i : Nat => PV.int (0 + Int.ofNat i)) M else .stuck) = _
  rw [if_pos (by omega), Int.toNat_natCast]
  have e : ((List.range n).map fun i : Nat => PV.int (0 + Int.ofNat i)) = (List.range n).map natV := List.map_congr_left fun i _ => by
    show PV.int (0 + Int.ofNat i) = .int (i : Int)
    rw [Int.zero_add]
    rfl
  rw [e, newL_f (by simp; omega)]
section
variable {P : MP} (T : PkS P)
include T
theorem tt1 (d : Nat) (sv : PV) (ln : List Nat) (asks : List Ask) (L : Ln) (M : MH) (B : Bool) (z : PV) (el : callP (evC P 30 (d + 2 + 2)) 18 [sv] M = .val (.lst (ln.map natV)) M) (elen : bltF .len false [.tup (asks.map askV)] M = .val z M)
  (erl : bltF .rlist false [z] M = .val (.lst ((List.range asks.length).map natV)) M) (eqn : eqV M (.lst (ln.map natV)) (.lst ((List.range asks.length).map natV)) = some B) :
  (evT0 P (evC P 30 (d + 4)) 28).e (.call 18 true [(.var 1)]) [some (lnV L), some sv, some (.tup (asks.map askV)), none, none] M = .val (.lst (ln.map natV)) M := by
    simp [-List.map_map, -bLen_tup, stepE_callT, T.k18, el, elen, erl, eqn]
theorem tt2 (d : Nat) (sv : PV) (ln : List Nat) (asks : List Ask) (L : Ln) (M : MH) (B : Bool) (z : PV) (elen : bltF .len false [.tup (asks.map askV)] M = .val z M)
  (erl : bltF .rlist false [z] M = .val (.lst ((List.range asks.length).map natV)) M) :
  (evT0 P (evC P 30 (d + 4)) 28).e (.blt .rlist false [(.blt .len false [(.var 2)])]) [some (lnV L), some sv, some (.tup (asks.map askV)), none, none] M = .val (.lst ((List.range asks.length).map natV)) M := by
    simp [-List.map_map, -bLen_tup, elen, erl]
theorem tt3 (d : Nat) (sv : PV) (ln : List Nat) (asks : List Ask) (L : Ln) (M : MH) (B : Bool) (z : PV) (el : callP (evC P 30 (d + 2 + 2)) 18 [sv] M = .val (.lst (ln.map natV)) M) (elen : bltF .len false [.tup (asks.map askV)] M = .val z M)
  (erl : bltF .rlist false [z] M = .val (.lst ((List.range asks.length).map natV)) M) (eqn : eqV M (.lst (ln.map natV)) (.lst ((List.range asks.length).map natV)) = some B) :
  (evT0 P (evC P 30 (d + 4)) 29).e (.cmp .eq (.call 18 true [(.var 1)]) (.blt .rlist false [(.blt .len false [(.var 2)])])) [some (lnV L), some sv, some (.tup (asks.map askV)), none, none] M = .val (.bl B) M := by
    have h1 := tt1 T d sv ln asks L M B z el elen erl eqn
    have h2 := tt2 T d sv ln asks L M B z elen erl
    rw [ev_e, stepE_cmp, h1, bind_val, h2, bind_val, cmp_eq, eqn, optV_some]
/-- the last part: what is closed, how far ahead, what is left -/
theorem st_tail (d : Nat) (L : Ln) (hL : L.Ok) (o : Bool) (asks : List Ask) (row elder : List Nat) (us : List (Nat × Int)) (half : Option Nat) (hz : asks.length + (row.length + (elder.length + us.length)) < 62) (M : MH) :
    (ssL (evT0 P (evC P 30 (d + 4)) 30) (m_is_state_of.body.drop 4) [some (lnV L), some (stV ⟨o, asks, row, elder, us, half⟩), some (.tup (asks.map askV)), none, none] M).fin
      = .val (.bl (!(!o && (!row.isEmpty || (!us.isEmpty || (L.fresh && !half.isNone)))) && (((List.range L.askers.toNat).all fun i : Nat => decide (((openOf asks i).length : Int) ≤ L.ahead)) && decide (leftN ⟨o, asks, row, elder, us, half⟩ = List.range asks.length)))) M := by
  have q1 : eqV M (rowV row) (.tup []) = some row.isEmpty := by
    rw [eqV_nil (row_dat row) (by omega)]
    cases row <;> rfl
  have q2 : eqV M (.tup (us.map ansV)) (.tup []) = some us.isEmpty := by
    rw [eqV_nil (ans_dat us) (by omega)]
    cases us <;> rfl
  have nh : isNon (halfV half) = half.isNone := by cases half <;> rfl
  have ha2 : L.askers.toNat ≤ 2 := by rcases hL.a with h | h <;> omega
  have er : qRngK [.int L.askers] M = .val (.rng 0 L.askers.toNat) M := by
    unfold qRngK
    dsimp only
    rw [if_pos (by rcases hL.a with h | h <;> omega)]
  have sr : SrcL M (.rng 0 L.askers.toNat) (List.range L.askers.toNat) (fun i => .int (0 + (i : Nat))) := srcRng 0 _
  have e2 : ∀ j, lcL (evT0 P (evC P 30 (d + 4)) (j + 6)) (.cmp .le (.blt .len false [.call 17 true [.var 2, .var 4]]) (.att (.var 0) 1)) (.nm 4) [] [some (lnV L), some (stV ⟨o, asks, row, elder, us, half⟩), some (.tup (asks.map askV)), none, none] (srcLen M (.rng 0 L.askers.toNat) + 1) 0 (.rng 0 L.askers.toNat) [] M = .val ((List.range L.askers.toNat).map fun i : Nat => .bl (decide (((openOf asks i).length : Int) ≤ L.ahead))) M := by
    intro j
    refine lcL_all sr (by rw [List.length_range]; omega) fun i hi => ⟨_, rfl, ?_⟩
    simp [stepE_callT, T.k17, cp_open_of T (d + 2) asks (by omega), att_ahead T.cl]
  have eb2 := bAll_map false (fun i : Nat => decide (((openOf asks i).length : Int) ≤ L.ahead)) (List.range L.askers.toNat) M
  have hn2 : ((List.range L.askers.toNat).map fun i : Nat => PV.bl (decide (((openOf asks i).length : Int) ≤ L.ahead))).length ≤ 1000000 := by rw [List.length_map, List.length_range]; omega
  have hf : (foundN ⟨o, asks, row, elder, us, half⟩).length < 63 := by
    have := openI_len asks
    unfold foundN
    simp only [List.length_append, List.length_map]
    omega
  have el := cp_left_in T (d + 2) ⟨o, asks, row, elder, us, half⟩ hf (show asks.length ≤ 1000 by omega) M
  have erl := rlist_nat asks.length M (by omega)
  have eqn := eqV_nats (leftN ⟨o, asks, row, elder, us, half⟩) (List.range asks.length) M
  have inf := in_fresh L M
  have g0 : getI (stV ⟨o, asks, row, elder, us, half⟩) (.int 0) M = some (.bl o) := getI_t0 _ _ _
  have g2 : getI (stV ⟨o, asks, row, elder, us, half⟩) (.int 2) M = some (rowV row) := getI_t2 _ _ _ _ _
  have g4 : getI (stV ⟨o, asks, row, elder, us, half⟩) (.int 4) M = some (.tup (us.map ansV)) := getI_t4 _ _ _ _ _ _ _
  have g5 : getI (stV ⟨o, asks, row, elder, us, half⟩) (.int 5) M = some (halfV half) := getI_t5 _ _ _ _ _ _ _ _
  generalize hA : (((List.range L.askers.toNat).all fun i : Nat => decide (((openOf asks i).length : Int) ≤ L.ahead))) = A at eb2 ⊢
  generalize hB : decide (leftN ⟨o, asks, row, elder, us, half⟩ = List.range asks.length) = B at eqn ⊢
  generalize row.isEmpty = R1 at q1 ⊢
  generalize us.isEmpty = R2 at q2 ⊢
  generalize half.isNone = R3 at nh ⊢
  generalize L.fresh = R4 at inf ⊢
  generalize stV ⟨o, asks, row, elder, us, half⟩ = sv at e2 el g0 g2 g4 g5 ⊢
  generalize leftN ⟨o, asks, row, elder, us, half⟩ = ln at el eqn hB
  have b0 : m_is_state_of.body.drop 4 = [.ifs (.and [(.not (.idx (.var 1) (.lit (.int 0)))), (.or [(.cmp .ne (.idx (.var 1) (.lit (.int 2))) (.tup [])), (.cmp .ne (.idx (.var 1) (.lit (.int 4))) (.tup [])), (.and [(.cmp .in_ (.lit (.str (PySem.Str.ofString "fresh"))) (.att (.var 0) 4)), (.cmp .isnot (.idx (.var 1) (.lit (.int 5))) (.lit .non))])])]) [.ret (.lit (.bl false))] [],
    .ifs (.not (.blt .all false [(.lc false [4] (.cmp .le (.blt .len false [(.call 17 true [(.var 2), (.var 4)])]) (.att (.var 0) 1)) (.nm 4) (.rng1 (.att (.var 0) 0)) [])])) [.ret (.lit (.bl false))] [],
    .ret (.cmp .eq (.call 18 true [(.var 1)]) (.blt .rlist false [(.blt .len false [(.var 2)])]))] := rfl
  rw [b0]
  have s1 : stepS (evT0 P (evC P 30 (d + 4)) 29) (.ifs (.and [(.not (.idx (.var 1) (.lit (.int 0)))), (.or [(.cmp .ne (.idx (.var 1) (.lit (.int 2))) (.tup [])), (.cmp .ne (.idx (.var 1) (.lit (.int 4))) (.tup [])), (.and [(.cmp .in_ (.lit (.str (PySem.Str.ofString "fresh"))) (.att (.var 0) 4)), (.cmp .isnot (.idx (.var 1) (.lit (.int 5))) (.lit .non))])])]) [.ret (.lit (.bl false))] []) [some (lnV L), some sv, some (.tup (asks.map askV)), none, none] M = if (!o && (!R1 || (!R2 || (R4 && !R3)))) then .rt (.bl false) M else .nx [some (lnV L), some sv, some (.tup (asks.map askV)), none, none] M := by
    simp [g0, g2, g4, g5, q1, q2, nh, att_marks T.cl, inf]
    cases o <;> cases R1 <;> cases R2 <;> cases R4 <;> cases R3 <;> rfl
  have s2 : stepS (evT0 P (evC P 30 (d + 4)) 29) (.ifs (.not (.blt .all false [(.lc false [4] (.cmp .le (.blt .len false [(.call 17 true [(.var 2), (.var 4)])]) (.att (.var 0) 1)) (.nm 4) (.rng1 (.att (.var 0) 0)) [])])) [.ret (.lit (.bl false))] []) [some (lnV L), some sv, some (.tup (asks.map askV)), none, none] M = if A then .nx [some (lnV L), some sv, some (.tup (asks.map askV)), none, none] M else .rt (.bl false) M := by
    simp [-List.map_map, wipeR, e2, newL_f hn2, eb2, att_askers T.cl, er]
    cases A <;> rfl
  have s3 : stepS (evT0 P (evC P 30 (d + 4)) 29) (.ret (.cmp .eq (.call 18 true [(.var 1)]) (.blt .rlist false [(.blt .len false [(.var 2)])]))) [some (lnV L), some sv, some (.tup (asks.map askV)), none, none] M = .rt (.bl B) M := by
    have elen : bltF .len false [.tup (asks.map askV)] M = .val (.int asks.length) M := by rw [bLen_tup, List.length_map]
    generalize PV.int (asks.length : Int) = z at elen erl
    rw [stepS_ret, tt3 T d sv ln asks L M B z el elen erl eqn, outS_val]
  generalize (!o && (!R1 || (!R2 || (R4 && !R3)))) = Cc at s1 ⊢
  clear e2 el g0 g2 g4 g5 hf hB eqn eb2 hA q1 q2 nh inf
  rw [ssL_cons, ev_s, s1]
  cases Cc
  · simp only [Bool.false_eq_true, if_false, seq_nx, ssL_cons, ev_s, s2]
    cases A
    · simp only [Bool.false_eq_true, if_false, seq_rt, fin_rt, Bool.not_false, Bool.true_and, Bool.false_and]
    · simp only [if_true, seq_nx, ssL_cons, ev_s, s3, seq_rt, fin_rt, Bool.not_false, Bool.true_and]
  · simp only [if_true, seq_rt, fin_rt, Bool.not_true, Bool.false_and]
theorem st_head (d : Nat) (L : Ln) (M : MH) (o : Bool) (as : List PV) (r e u h : PV) {k : Nat} (da : Dat k (.tup as)) (hk : k ≤ 40) (hl : as.length ≤ 1000) (b : Bool)
    (hp : as.all (isAskV L) = true → ∀ asks : List Ask, as = asks.map askV → callP (evC P 30 (d + 4)) 19 [lnV L, .tup (asks.map askV), .tup [.bl o, .tup (asks.map askV), r, e, u, h]] M = .val (.bl b) M) :
    (ssL (evT0 P (evC P 30 (d + 4)) 30) m_is_state_of.body [some (lnV L), some (.tup [.bl o, .tup as, r, e, u, h]), none, none, none] M).fin
      = if as.all (isAskV L) && b then (ssL (evT0 P (evC P 30 (d + 4)) 30) (m_is_state_of.body.drop 4) [some (lnV L), some (.tup [.bl o, .tup as, r, e, u, h]), some (.tup as), none, none] M).fin else .val (.bl false) M := by
  have ss : SrcL M (.sq true (.tup as)) as id := src_seq (by rw [List.map_id]; rfl)
  have e0 : ∀ j, lcL (evT0 P (evC P 30 (d + 4)) (j + 5)) (.call 13 true [.var 0, .var 3]) (.nm 3) [] [some (lnV L), some (.tup [.bl o, .tup as, r, e, u, h]), some (.tup as), none, none] (srcLen M (.sq true (.tup as)) + 1) 0 (.sq true (.tup as)) [] M = .val (as.map fun x => .bl (isAskV L x)) M := by
    intro j
    refine lcL_all ss (by omega) fun x hm => ⟨_, rfl, ?_⟩
    have dx : Dat (k - 1) x := by
      cases k with
      | zero => cases da
      | succ k => exact da.mem hm
    simp [stepE_callT, T.k13, cp_is_ask T (d + 2) L x dx (by omega) M]
  have eb := bAll_map false (isAskV L) as M
  have hn1 : (as.map fun x => PV.bl (isAskV L x)).length ≤ 1000000 := by rw [List.length_map]; omega
  have et : typAny P.cls.length M (PV.bl o) [Ty.bool] = some true := rfl
  cases hA : as.all (isAskV L) with
  | false =>
    rw [hA] at eb
    simp [-List.map_map, m_is_state_of, kindS_tup, wipeR, e0, newL_f hn1, eb, et]
  | true =>
    obtain ⟨asks, rfl, hq⟩ := all_asks hA
    rw [hA] at eb
    have hp := hp hA asks rfl
    cases b <;> simp [-List.map_map, m_is_state_of, kindS_tup, wipeR, e0, newL_f hn1, eb, et, stepE_callT, T.k19, hp]
theorem st_uniq {o : Bool} {asks : List Ask} {row elder : List Nat} {us : List (Nat × Int)} {half : Option Nat} {s : St} (es : PV.tup [.bl o, .tup (asks.map askV), rowV row, rowV elder, .tup (us.map ansV), halfV half] = stV s) : s = ⟨o, asks, row, elder, us, half⟩ := by
  obtain ⟨s1, s2, s3, s4, s5, s6⟩ := s
  unfold stV at es
  injection es with es
  injection es with e0 es
  injection es with e1 es
  injection es with e2 es
  injection es with e3 es
  injection es with e4 es
  injection es with e5 _
  injection e0 with e0
  injection e1 with e1
  have e1 := asksV_inj e1
  have e2 := rowV_inj e2
  have e3 := rowV_inj e3
  have e4 := ansL_inj e4
  have e5 := halfV_inj e5
  dsimp only at e0 e1 e2 e3 e4 e5
  rw [e0, e1, e2, e3, e4, e5]
theorem ev_is_state_of (d : Nat) (L : Ln) (hL : L.Ok) (v : PV) {k : Nat} (hv : Dat k v) (hk : k ≤ 38) (hs : Small v) (M : MH) :
    ∃ b, evC P 30 (d + 5) 20 [lnV L, v] M = .val (.bl b) M ∧ (b = true ↔ StOk L v) := by
  have E : ∀ r, (ssL (evT0 P (evC P 30 (d + 4)) 30) m_is_state_of.body [some (lnV L), some v, none, none, none] M).fin = r → evC P 30 (d + 5) 20 [lnV L, v] M = r := fun r h => by
    rw [evC_succ P 30 (d + 4) 20 _ M T.f20 rfl]
    exact h
  have no : ¬ StOk L v → (ssL (evT0 P (evC P 30 (d + 4)) 30) m_is_state_of.body [some (lnV L), some v, none, none, none] M).fin = .val (.bl false) M → ∃ b, evC P 30 (d + 5) 20 [lnV L, v] M = .val (.bl b) M ∧ (b = true ↔ StOk L v) := fun n e => ⟨false, E _ e, fun z => (by cases z), fun z => (n z).elim⟩
  have hp : 1 ≤ L.pieces := by rcases hL.p with h | h <;> omega
  have t0 := typ_tuple hv P.cls.length M
  cases hT : isTupB v with
  | false =>
    rw [hT] at t0
    refine no ?_ ?_
    · rintro ⟨s, rfl, _⟩
      cases hT
    · simp [m_is_state_of, t0]
  | true =>
    cases v with
    | tup xs =>
      cases k with
      | zero => cases hv
      | succ k =>
      by_cases hl : xs.length = 6
      · match xs, hl with
        | [o, a, r, e, u, h], _ =>
          have dO : Dat k o := hv.mem (by simp)
          have da : Dat k a := hv.mem (by simp)
          have dr : Dat k r := hv.mem (by simp)
          have de : Dat k e := hv.mem (by simp)
          have du : Dat k u := hv.mem (by simp)
          have dh : Dat k h := hv.mem (by simp)
          have z := hs o a r e u h rfl
          have t1 := typ_bool dO P.cls.length M
          cases hO : isBl o with
          | false =>
            rw [hO] at t1
            refine no ?_ ?_
            · rintro ⟨s, es, _⟩
              unfold stV at es
              injection es with es
              injection es with es _
              rw [es] at hO
              cases hO
            · simp [m_is_state_of, t1]
          | true =>
          have t2 := typ_tuple da P.cls.length M
          cases hA : isTupB a with
          | false =>
            rw [hA] at t2
            rw [hO] at t1
            refine no ?_ ?_
            · rintro ⟨s, es, _⟩
              unfold stV at es
              injection es with es
              injection es with _ es
              injection es with es _
              rw [es] at hA
              cases hA
            · simp [m_is_state_of, t1, t2]
          | true =>
          cases o with
          | bl o =>
            cases a with
            | tup as =>
              have has : as.length + (tl r + (tl e + tl u)) < 62 := z
              by_cases hAll : as.all (isAskV L) = true
              · obtain ⟨asks, rfl, hq⟩ := all_asks hAll
                obtain ⟨b1, p1, p2⟩ := cp_are_parts T d L hp asks (.bl o) (.tup (asks.map askV)) r e u h dO da dr de du dh (by omega) (by omega) (by omega) (by omega) M
                have hd := st_head T d L M o (asks.map askV) r e u h da (by omega) (by omega) b1 (fun _ asks' e => by rw [← asksV_inj e]; exact p1)
                rw [hAll, Bool.true_and] at hd
                cases b1 with
                | false =>
                  refine no ?_ (hd.trans rfl)
                  rintro ⟨s, es, g⟩
                  unfold stV at es
                  injection es with es
                  injection es with _ es
                  injection es with e1 es
                  injection es with e2 es
                  injection es with e3 es
                  injection es with e4 es
                  injection es with e5 _
                  injection e1 with e1
                  have e1 := asksV_inj e1
                  subst e1
                  have := p2.mpr ⟨_, _, _, _, e2, e3, e4, e5, g.parts⟩
                  cases this
                | true =>
                  obtain ⟨row, elder, us, half, rfl, rfl, rfl, rfl, N⟩ := p2.mp rfl
                  have hz : asks.length + (row.length + (elder.length + us.length)) < 62 := by
                    have z' : (asks.map askV).length + ((row.map natV).length + ((elder.map natV).length + (us.map ansV).length)) < 62 := z
                    simp only [List.length_map] at z'
                    exact z'
                  have tail := st_tail T d L hL o asks row elder us half hz M
                  refine ⟨_, E _ (hd.trans tail), ?_⟩
                  rw [Bool.and_eq_true, Bool.and_eq_true, List.all_eq_true, decide_eq_true_eq]
                  constructor
                  · rintro ⟨c1, c2, c3⟩
                    refine ⟨⟨o, asks, row, elder, us, half⟩, rfl, hq, N, fun ho => ?_, fun a h => ?_, c3⟩
                    · dsimp only at ho ⊢
                      subst ho
                      clear tail hd E no p1 hs hv da du dr de dh hAll
                      cases row <;> cases us <;> cases half <;> cases hf : L.fresh <;> simp_all
                    · have := c2 a (List.mem_range.mpr (by omega))
                      simpa using this
                  · rintro ⟨s, es, g⟩
                    have := st_uniq T es
                    subst this
                    refine ⟨?_, fun a h => ?_, g.left⟩
                    · have c := g.closed
                      dsimp only at c
                      clear tail hd E no p1 hs hv da du dr de dh hAll g es
                      cases o <;> cases row <;> cases us <;> cases half <;> cases hf : L.fresh <;> simp_all
                    · have := g.ahead a (by have := List.mem_range.mp h; omega)
                      simpa using this
              · have hAll' : as.all (isAskV L) = false := by simpa using hAll
                have hd := st_head T d L M o as r e u h da (by omega) (by omega) true (fun h => absurd h hAll)
                rw [hAll'] at hd
                refine no ?_ (hd.trans rfl)
                rintro ⟨s, es, g⟩
                unfold stV at es
                injection es with es
                injection es with _ es
                injection es with es _
                injection es with es
                rw [es] at hAll'
                have : (s.asks.map askV).all (isAskV L) = true := List.all_eq_true.mpr fun x hx => by
                  obtain ⟨q, hq, rfl⟩ := List.mem_map.mp hx
                  exact isAskV_iff.mpr ⟨q, rfl, g.asks q hq⟩
                rw [this] at hAll'
                cases hAll'
            | _ => cases hA
          | _ => cases hO
        | [], h => cases h
        | [_], h => cases h
        | [_, _], h => cases h
        | [_, _, _], h => cases h
        | [_, _, _, _], h => cases h
        | [_, _, _, _, _], h => cases h
        | _ :: _ :: _ :: _ :: _ :: _ :: _ :: _, h => simp at h
      · refine no ?_ ?_
        · rintro ⟨s, es, g⟩
          unfold stV at es
          injection es with es
          rw [es] at hl
          exact hl rfl
        · have hl2 : ¬ ((xs.length : Int) = 6) := by omega
          simp [m_is_state_of, hl2]
    | _ => cases hT
end
end Mp.Pk
end

section
set_option Elab.async false
set_option linter.all false
set_option maxRecDepth 100000
set_option maxHeartbeats 4000000
/-! Pk7: what is checked; doors to states. -/
namespace Mp.Pk
open PySem Mp

structure PkT (P : MP) : Prop extends PkS P where
  f21 : P.fns[21]? = some m_check_state
  f23 : P.fns[23]? = some m_first_state
  f24 : P.fns[24]? = some m_is_state
  f25 : P.fns[25]? = some m_done_counts
theorem typ_ln {P : MP} (h : P.cls[0]? = some lineCls) (L : Ln) (M : MH) : typAny P.cls.length M (lnV L) [.own 0] = some true := by
  have hl : 0 < P.cls.length := (List.getElem?_eq_some_iff.mp h).1
  unfold typAny kindOf lnV
  simp [hl, tyIs]
def firstS : St := ⟨true, [], [], [], [], none⟩
section
variable {P : MP} (T : PkT P)
include T
theorem PkT.k21 : Cal P 21 2 := cal T.f21 rfl
theorem PkT.k23 : Cal P 23 1 := cal T.f23 rfl
theorem PkT.k24 : Cal P 24 2 := cal T.f24 rfl
theorem PkT.k25 : Cal P 25 3 := cal T.f25 rfl
theorem ev_check_line (d : Nat) (L : Ln) (M : MH) : evC P 30 (d + 1) 11 [lnV L] M = .val .non M := by
  rw [evC_succ P 30 d 11 _ M T.f11 rfl]
  simp [m_check_line, typ_ln T.cl]
theorem cp_check_line (d : Nat) (L : Ln) (M : MH) : callP (evC P 30 (d + 1)) 11 [lnV L] M = .val .non M :=
  callP_ok (by simp [ln_pure L 47]) (ev_check_line T d L []) rfl
theorem ev_check_asker (d : Nat) (L : Ln) (a : Int) (h0 : 0 ≤ a) (h1 : a < L.askers) (M : MH) : evC P 30 (d + 2) 12 [lnV L, .int a] M = .val .non M := by
  rw [evC_succ P 30 (d + 1) 12 _ M T.f12 rfl]
  have e := cp_is_number P T.f0 d (.int a) (show Dat 1 (.int a) from rfl) (by omega) 0 (L.askers - 1) M
  have e2 : isNum (.int a) 0 (L.askers - 1) = true := isNum_iff.mpr ⟨a, rfl, h0, by omega⟩
  rw [e2] at e
  simp [m_check_asker, stepE_callT, T.k0, att_askers T.cl, e]
theorem cp_check_asker (d : Nat) (L : Ln) (a : Int) (h0 : 0 ≤ a) (h1 : a < L.askers) (M : MH) : callP (evC P 30 (d + 2)) 12 [lnV L, .int a] M = .val .non M :=
  callP_ok (by simp [ln_pure L 47]) (ev_check_asker T d L a h0 h1 []) rfl
theorem cp_is_state_of (d : Nat) (L : Ln) (hL : L.Ok) (v : PV) {k : Nat} (hv : Dat k v) (hk : k ≤ 38) (hs : Small v) (M : MH) :
    ∃ b, callP (evC P 30 (d + 5)) 20 [lnV L, v] M = .val (.bl b) M ∧ (b = true ↔ StOk L v) := by
  obtain ⟨b, h1, h2⟩ := ev_is_state_of T.toPkS d L hL v hv hk hs []
  exact ⟨b, callP_ok (by simp [ln_pure L 47, hv.pure (show k ≤ 50 by omega)]) h1 rfl, h2⟩
theorem ev_is_state (d : Nat) (L : Ln) (hL : L.Ok) (v : PV) {k : Nat} (hv : Dat k v) (hk : k ≤ 38) (hs : Small v) (M : MH) :
    ∃ b, evC P 30 (d + 6) 24 [lnV L, v] M = .val (.bl b) M ∧ (b = true ↔ StOk L v) := by
  obtain ⟨b, h1, h2⟩ := cp_is_state_of T d L hL v hv hk hs M
  refine ⟨b, ?_, h2⟩
  rw [evC_succ P 30 (d + 5) 24 _ M T.f24 rfl]
  simp [m_is_state, stepE_callT, T.k11, T.k20, cp_check_line T (d + 4) L, h1]
theorem cp_is_state (d : Nat) (L : Ln) (hL : L.Ok) (v : PV) {k : Nat} (hv : Dat k v) (hk : k ≤ 38) (hs : Small v) (M : MH) :
    ∃ b, callP (evC P 30 (d + 6)) 24 [lnV L, v] M = .val (.bl b) M ∧ (b = true ↔ StOk L v) := by
  obtain ⟨b, h1, h2⟩ := ev_is_state T d L hL v hv hk hs []
  exact ⟨b, callP_ok (by simp [ln_pure L 47, hv.pure (show k ≤ 50 by omega)]) h1 rfl, h2⟩
theorem ev_check_state (d : Nat) (L : Ln) (hL : L.Ok) (s : St) (g : GoodS L s) (hs : Small (stV s)) (M : MH) : evC P 30 (d + 6) 21 [lnV L, stV s] M = .val .non M := by
  obtain ⟨b, h1, h2⟩ := cp_is_state_of T d L hL (stV s) (st_dat s) (by omega) hs M
  rw [h2.mpr ⟨s, rfl, g⟩] at h1
  rw [evC_succ P 30 (d + 5) 21 _ M T.f21 rfl]
  simp [m_check_state, stepE_callT, T.k11, T.k20, cp_check_line T (d + 4) L, h1]
theorem cp_check_state (d : Nat) (L : Ln) (hL : L.Ok) (s : St) (g : GoodS L s) (hs : Small (stV s)) (M : MH) : callP (evC P 30 (d + 6)) 21 [lnV L, stV s] M = .val .non M :=
  callP_ok (by simp [ln_pure L 47, st_pure s 45]) (ev_check_state T d L hL s g hs []) rfl
theorem ev_first_state (d : Nat) (L : Ln) (M : MH) : evC P 30 (d + 2) 23 [lnV L] M = .val (stV firstS) M := by
  rw [evC_succ P 30 (d + 1) 23 _ M T.f23 rfl]
  simp [m_first_state, stepE_callT, T.k11, cp_check_line T d L, T.c0]
  rfl
theorem cp_first_state (d : Nat) (L : Ln) (M : MH) : callP (evC P 30 (d + 2)) 23 [lnV L] M = .val (stV firstS) M :=
  callP_ok (by simp [ln_pure L 47]) (ev_first_state T d L []) (st_pure _ 45)
def doneV (s : St) (a : Int) : List PV := (openOf s.asks a).map fun i => PV.int (aAt s.asks i).n
theorem ev_done_counts (d : Nat) (L : Ln) (hL : L.Ok) (s : St) (g : GoodS L s) (hs : Small (stV s)) (a : Int) (h0 : 0 ≤ a) (h1 : a < L.askers) (M : MH) : evC P 30 (d + 7) 25 [lnV L, stV s, .int a] M = .val (.lst (doneV s a)) M := by
  rw [evC_succ P 30 (d + 6) 25 _ M T.f25 rfl]
  have hal : s.asks.length < 62 := by
    have : (s.asks.map askV).length + _ < 62 := hs _ _ _ _ _ _ rfl
    rw [List.length_map] at this
    omega
  have g1 : getI (stV s) (.int 1) M = some (.tup (s.asks.map askV)) := getI_t1 _ _ _ _
  have hsr : SrcL M (.sq false (.lst ((openOf s.asks a).map natV))) (openOf s.asks a) natV := src_lst _ _ _
  have hol := openOf_len s.asks a
  have e0 : ∀ j, lcL (evT0 P (evC P 30 (d + 6)) (j + 6)) (.idx (.idx (.idx (.var 1) (.lit (.int 1))) (.var 3)) (.lit (.int 2))) (.nm 3) [] [some (lnV L), some (stV s), some (.int a), none] (srcLen M (.sq false (.lst ((openOf s.asks a).map natV))) + 1) 0 (.sq false (.lst ((openOf s.asks a).map natV))) [] M = .val (doneV s a) M := by
    intro j
    refine lcL_all hsr (by omega) fun i hi => ⟨_, rfl, ?_⟩
    have h2 := (mem_openI.mp (List.mem_filter.mp hi).1).1
    have e1 : getI (.tup (s.asks.map askV)) (natV i) M = some (askV (aAt s.asks i)) := getI_tup (by rw [List.getElem?_map, List.getElem?_eq_getElem h2]; rw [aAt_of (List.getElem?_eq_getElem h2)]; rfl)
    simp [g1, e1, askV]
  have hn : (doneV s a).length ≤ 1000000 := by unfold doneV; rw [List.length_map]; omega
  have ec := cp_check_state T d L hL s g hs M
  have ea := cp_check_asker T (d + 4) L a h0 h1 M
  have eo := cp_open_of T.toPkS (d + 4) s.asks (by omega) a M
  simp [m_done_counts, stepE_callT, T.k21, T.k12, T.k17, ec, ea, g1, eo, kindS_lst, wipeR, e0, newL_f hn]
theorem cp_done_counts (d : Nat) (L : Ln) (hL : L.Ok) (s : St) (g : GoodS L s) (hs : Small (stV s)) (a : Int) (h0 : 0 ≤ a) (h1 : a < L.askers) (M : MH) : callP (evC P 30 (d + 7)) 25 [lnV L, stV s, .int a] M = .val (.lst (doneV s a)) M :=
  callP_ok (by simp [ln_pure L 47, st_pure s 45]) (ev_done_counts T d L hL s g hs a h0 h1 []) (by simp [doneV])
end
end Mp.Pk
end

section
set_option Elab.async false
set_option linter.all false
set_option maxRecDepth 100000
set_option maxHeartbeats 4000000
/-! Pk8: deeds: which are possible; what an answer is awaited for, what is told as lost. -/
namespace Mp.Pk
open PySem Mp

inductive Dd where
  | ask (a : Nat) | do_ | late | piece | cut (m : Nat) | open_
  deriving DecidableEq
def sv (x : String) : PV := .str (PySem.Str.ofString x)
def ddV : Dd → PV
  | .ask a => .tup [.str (PySem.Str.ofString "ask"), .int a]
  | .do_ => .tup [.str (PySem.Str.ofString "do")]
  | .late => .tup [.str (PySem.Str.ofString "late")]
  | .piece => .tup [.str (PySem.Str.ofString "piece")]
  | .cut m => .tup [.str (PySem.Str.ofString "cut"), .int m]
  | .open_ => .tup [.str (PySem.Str.ofString "open")]
theorem dd_dat (x : Dd) : Dat 2 (ddV x) := by
  show okB 2 [] (ddV x) = true
  cases x <;> kernel_rfl
theorem dd_pure (x : Dd) (k : Nat) : pureB (k + 2) (ddV x) = true := by cases x <;> rfl
def isAsk : Dd → Bool
  | .ask _ => true
  | _ => false
def isDo : Dd → Bool
  | .do_ => true
  | _ => false
def isLate : Dd → Bool
  | .late => true
  | _ => false
def isPiece : Dd → Bool
  | .piece => true
  | _ => false
def isCut : Dd → Bool
  | .cut _ => true
  | _ => false
def isOpen : Dd → Bool
  | .open_ => true
  | _ => false
def ddW : Dd → PV
  | .ask _ => .str (PySem.Str.ofString "ask")
  | .do_ => .str (PySem.Str.ofString "do")
  | .late => .str (PySem.Str.ofString "late")
  | .piece => .str (PySem.Str.ofString "piece")
  | .cut _ => .str (PySem.Str.ofString "cut")
  | .open_ => .str (PySem.Str.ofString "open")
theorem dd0 (x : Dd) (M : MH) : getI (ddV x) (.int 0) M = some (ddW x) := by cases x <;> exact getI_t0 _ _ _
@[simp] theorem view_dd (x : Dd) (M : MH) : view M (ddV x) = ddV x := by cases x <;> rfl
theorem w_ask (x : Dd) (M : MH) : eqV M (ddW x) (.str (PySem.Str.ofString "ask")) = some (isAsk x) := by cases x <;> kernel_rfl
theorem w_do (x : Dd) (M : MH) : eqV M (ddW x) (.str (PySem.Str.ofString "do")) = some (isDo x) := by cases x <;> kernel_rfl
theorem w_late (x : Dd) (M : MH) : eqV M (ddW x) (.str (PySem.Str.ofString "late")) = some (isLate x) := by cases x <;> kernel_rfl
theorem w_piece (x : Dd) (M : MH) : eqV M (ddW x) (.str (PySem.Str.ofString "piece")) = some (isPiece x) := by cases x <;> kernel_rfl
theorem w_cut (x : Dd) (M : MH) : eqV M (ddW x) (.str (PySem.Str.ofString "cut")) = some (isCut x) := by cases x <;> kernel_rfl
theorem w_open (x : Dd) (M : MH) : eqV M (ddW x) (.str (PySem.Str.ofString "open")) = some (isOpen x) := by cases x <;> kernel_rfl
def plainL : List PV := [.str (PySem.Str.ofString "do"), .str (PySem.Str.ofString "late"), .str (PySem.Str.ofString "piece"), .str (PySem.Str.ofString "open")]
theorem w_plain (x : Dd) (M : MH) : inL M (ddW x) plainL = some (isDo x || (isLate x || (isPiece x || isOpen x))) := by cases x <;> kernel_rfl
theorem dd_nil (x : Dd) (M : MH) : eqV M (ddV x) (.tup []) = some false := by
  rw [eqV_nil (dd_dat x) (by omega)]
  cases x <;> rfl
structure PkD (P : MP) : Prop extends PkT P where
  f26 : P.fns[26]? = some m_is_deed
  f27 : P.fns[27]? = some m_can_do
  f30 : P.fns[30]? = some m_awaiting
  f32 : P.fns[32]? = some m_lost_by
  c6 : P.con[6]? = some (.tup plainL)
/-- which deeds are possible -/
def canDo (L : Ln) (s : St) : Dd → Bool
  | .ask a => s.o && decide (((openOf s.asks a).length : Int) < L.ahead)
  | .do_ => !s.row.isEmpty
  | .late => !s.elder.isEmpty
  | .piece => !s.under.isEmpty
  | .cut m => s.o && decide (m ≤ s.row.length)
  | .open_ => !s.o
def ddOk (L : Ln) : Dd → Prop
  | .ask a => (a : Int) < L.askers
  | _ => True
/-- the ask for which an answer waits -/
def await (L : Ln) (asks : List Ask) (last : Nat) : Option Nat := if L.named then (if (aAt asks last).w = .op then some last else none) else (openI asks).head?
def lostBy (L : Ln) (asks : List Ask) (half : Option Nat) : List Nat :=
  if L.again = 0 then openI asks else if L.again = 1 then (openI asks).drop 1 else if L.again = 2 then (match half with
    | none => []
    | some h => (await L asks h).toList) else []
theorem ag_none (n : Nat) (M : MH) : eqV M (againV n) (.str (PySem.Str.ofString "none")) = some (decide (n = 0)) := by
  match n with
  | 0 => kernel_rfl
  | 1 => kernel_rfl
  | 2 => kernel_rfl
  | n + 3 =>
    have e : decide (n + 3 = 0) = false := by simp
    rw [e]
    kernel_rfl
theorem ag_first (n : Nat) (M : MH) : eqV M (againV n) (.str (PySem.Str.ofString "first")) = some (decide (n = 1)) := by
  match n with
  | 0 => kernel_rfl
  | 1 => kernel_rfl
  | 2 => kernel_rfl
  | n + 3 =>
    have e : decide (n + 3 = 1) = false := by simp
    rw [e]
    kernel_rfl
theorem ag_unread (n : Nat) (M : MH) : eqV M (againV n) (.str (PySem.Str.ofString "unread")) = some (decide (n = 2)) := by
  match n with
  | 0 => kernel_rfl
  | 1 => kernel_rfl
  | 2 => kernel_rfl
  | n + 3 =>
    have e : decide (n + 3 = 2) = false := by simp
    rw [e]
    kernel_rfl
theorem half_pure (h : Option Nat) (k : Nat) : pureB (k + 1) (halfV h) = true := by cases h <;> rfl
section
variable {P : MP} (T : PkD P)
include T
theorem PkD.k26 : Cal P 26 2 := cal T.f26 rfl
theorem PkD.k27 : Cal P 27 3 := cal T.f27 rfl
theorem PkD.k30 : Cal P 30 3 := cal T.f30 rfl
theorem PkD.k32 : Cal P 32 3 := cal T.f32 rfl
theorem ev_is_deed (d : Nat) (L : Ln) (x : Dd) (hx : ddOk L x) (M : MH) : evC P 30 (d + 2) 26 [lnV L, ddV x] M = .val (.bl true) M := by
  rw [evC_succ P 30 (d + 1) 26 _ M T.f26 rfl]
  have t0 := typ_tuple (dd_dat x) P.cls.length M
  have t1 : typAny P.cls.length M (ddW x) [.str] = some true := by cases x <;> rfl
  have et : isTupB (ddV x) = true := by cases x <;> rfl
  rw [et] at t0
  have h0 := dd0 x M
  have h1 := w_plain x M
  have h2 := w_ask x M
  have h3 := w_cut x M
  have h4 := dd_nil x M
  have h5 := T.c6
  cases x with
  | ask a =>
    have g1 : getI (ddV (.ask a)) (.int 1) M = some (.int a) := getI_t1 _ _ _ _
    have gl : bltF .len false [ddV (.ask a)] M = .val (.int 2) M := rfl
    have e := cp_is_number P T.f0 d (.int a) (show Dat 1 (.int (a : Int)) from rfl) (by omega) 0 (L.askers - 1) M
    rw [isNum_iff.mpr ⟨(a : Int), rfl, by omega, by have : (a : Int) < L.askers := hx; omega⟩] at e
    simp [m_is_deed, t0, t1, h0, h1, h2, h3, h4, h5, isDo, isLate, isPiece, isOpen, isAsk, isCut, gl, g1, stepE_callT, T.k0, att_askers T.cl, e]
  | cut m =>
    have g1 : getI (ddV (.cut m)) (.int 1) M = some (.int m) := getI_t1 _ _ _ _
    have gl : bltF .len false [ddV (.cut m)] M = .val (.int 2) M := rfl
    have t2 : typAny P.cls.length M (.int (m : Int)) [.int] = some true := rfl
    have t3 : typAny P.cls.length M (.int (m : Int)) [.bool] = some false := rfl
    have hm : (0 : Int) ≤ m := by omega
    simp [m_is_deed, t0, t1, h0, h1, h2, h3, h4, h5, isDo, isLate, isPiece, isOpen, isAsk, isCut, gl, g1, t2, t3]
  | do_ =>
    have gl : bltF .len false [ddV .do_] M = .val (.int 1) M := rfl
    simp [m_is_deed, t0, t1, h0, h1, h2, h3, h4, h5, isDo, isLate, isPiece, isOpen, isAsk, isCut, gl]
  | late =>
    have gl : bltF .len false [ddV .late] M = .val (.int 1) M := rfl
    simp [m_is_deed, t0, t1, h0, h1, h2, h3, h4, h5, isDo, isLate, isPiece, isOpen, isAsk, isCut, gl]
  | piece =>
    have gl : bltF .len false [ddV .piece] M = .val (.int 1) M := rfl
    simp [m_is_deed, t0, t1, h0, h1, h2, h3, h4, h5, isDo, isLate, isPiece, isOpen, isAsk, isCut, gl]
  | open_ =>
    have gl : bltF .len false [ddV .open_] M = .val (.int 1) M := rfl
    simp [m_is_deed, t0, t1, h0, h1, h2, h3, h4, h5, isDo, isLate, isPiece, isOpen, isAsk, isCut, gl]
theorem cp_is_deed (d : Nat) (L : Ln) (x : Dd) (hx : ddOk L x) (M : MH) : callP (evC P 30 (d + 2)) 26 [lnV L, ddV x] M = .val (.bl true) M :=
  callP_ok (by simp [ln_pure L 47, dd_pure x 48]) (ev_is_deed T d L x hx []) rfl
theorem bLen_row (m : Bool) (ns : List Nat) (M : MH) : bltF .len m [rowV ns] M = .val (.int ns.length) M := by
  show bltF .len m [.tup (ns.map natV)] M = _
  rw [bLen_tup, List.length_map]
theorem row_nil (ns : List Nat) (M : MH) : eqV M (rowV ns) (.tup []) = some ns.isEmpty := by
  rw [eqV_nil (row_dat ns) (by omega)]
  cases ns <;> rfl
theorem ans_nil (us : List (Nat × Int)) (M : MH) : eqV M (.tup (us.map ansV)) (.tup []) = some us.isEmpty := by
  rw [eqV_nil (ans_dat us) (by omega)]
  cases us <;> rfl
theorem ev_can_do (d : Nat) (L : Ln) (s : St) (hl : s.asks.length ≤ 1000000) (x : Dd) (M : MH) : evC P 30 (d + 3) 27 [lnV L, stV s, ddV x] M = .val (.bl (canDo L s x)) M := by
  rw [evC_succ P 30 (d + 2) 27 _ M T.f27 rfl]
  have h0 := dd0 x M
  have h1 := w_ask x M
  have h2 := w_do x M
  have h3 := w_late x M
  have h4 := w_piece x M
  have h5 := w_cut x M
  have n1 := row_nil T s.row M
  have n2 := row_nil T s.elder M
  have n3 := ans_nil T s.under M
  have nl := bLen_row T false s.row M
  cases x with
  | ask a =>
    have g1 : getI (ddV (.ask a)) (.int 1) M = some (.int a) := getI_t1 _ _ _ _
    have eo := cp_open_of T.toPkS d s.asks hl a M
    have el : bltF .len false [.lst ((openOf s.asks a).map natV)] M = .val (.int (openOf s.asks a).length) M := by rw [bLen_lst, List.length_map]
    simp [-bLen_lst, -List.map_map, m_can_do, stV, h0, h1, isAsk, g1, stepE_callT, T.k17, eo, el, att_ahead T.cl, canDo]
    cases s.o <;> simp
  | do_ => simp [m_can_do, stV, h0, h1, h2, isAsk, isDo, n1, canDo]
  | late => simp [m_can_do, stV, h0, h1, h2, h3, isAsk, isDo, isLate, n2, canDo]
  | piece => simp [m_can_do, stV, h0, h1, h2, h3, h4, isAsk, isDo, isLate, isPiece, n3, canDo]
  | cut m =>
    have g1 : getI (ddV (.cut m)) (.int 1) M = some (.int m) := getI_t1 _ _ _ _
    simp [-bLen_tup, m_can_do, stV, h0, h1, h2, h3, h4, h5, isAsk, isDo, isLate, isPiece, isCut, g1, nl, canDo]
    cases s.o <;> simp
  | open_ => simp [m_can_do, stV, h0, h1, h2, h3, h4, h5, isAsk, isDo, isLate, isPiece, isCut, canDo]
theorem cp_can_do (d : Nat) (L : Ln) (s : St) (hl : s.asks.length ≤ 1000000) (x : Dd) (M : MH) : callP (evC P 30 (d + 3)) 27 [lnV L, stV s, ddV x] M = .val (.bl (canDo L s x)) M :=
  callP_ok (by simp [ln_pure L 47, st_pure s 45, dd_pure x 48]) (ev_can_do T d L s hl x []) rfl
theorem getI_asks {asks : List Ask} {i : Nat} (h : i < asks.length) (M : MH) : getI (.tup (asks.map askV)) (natV i) M = some (askV (aAt asks i)) :=
  getI_tup (by rw [List.getElem?_map, List.getElem?_eq_getElem h, aAt_of (List.getElem?_eq_getElem h)]; rfl)
theorem ev_awaiting (d : Nat) (L : Ln) (asks : List Ask) (hl : asks.length ≤ 1000000) (last : Nat) (h : last < asks.length) (M : MH) : evC P 30 (d + 2) 30 [lnV L, .tup (asks.map askV), natV last] M = .val (halfV (await L asks last)) M := by
  rw [evC_succ P 30 (d + 1) 30 _ M T.f30 rfl]
  have g := getI_asks T h M
  have g1 : getI (askV (aAt asks last)) (.int 1) M = some (wdV (aAt asks last).w) := getI_t1 _ _ _ _
  have w := wd_open (aAt asks last).w M
  have inn := in_named L M
  have eo := cp_open_asks T.toPkS d asks hl M
  cases hN : L.named with
  | true =>
    rw [hN] at inn
    have ea : await L asks last = if (aAt asks last).w = .op then some last else none := by unfold await; rw [hN]; rfl
    rw [ea]
    simp [m_awaiting, att_marks T.cl, inn, g, g1, w]
    by_cases ho : (aAt asks last).w = .op <;> simp [ho, halfV]
  | false =>
    rw [hN] at inn
    have ea : await L asks last = (openI asks).head? := by unfold await; rw [hN]; rfl
    rw [ea]
    cases hO : openI asks with
    | nil =>
      rw [hO] at eo
      have e0 : eqV M (.lst []) (.lst []) = some true := rfl
      simp [m_awaiting, att_marks T.cl, inn, stepE_callT, T.k16, eo, newL, e0]
      rfl
    | cons a r =>
      rw [hO] at eo
      have e0 : eqV M (.lst (natV a :: r.map natV)) (.lst []) = some false := by
        have := eqV_nats (a :: r) [] M
        simpa using this
      simp [m_awaiting, att_marks T.cl, inn, stepE_callT, T.k16, eo, newL, e0]
      rfl
theorem cp_awaiting (d : Nat) (L : Ln) (asks : List Ask) (hl : asks.length ≤ 1000000) (last : Nat) (h : last < asks.length) (M : MH) : callP (evC P 30 (d + 2)) 30 [lnV L, .tup (asks.map askV), natV last] M = .val (halfV (await L asks last)) M :=
  callP_ok (by simp only [List.all_cons, List.all_nil, ln_pure L 47, pure_tup, asks_pure asks 47, natV, pure_int, Bool.and_self]) (ev_awaiting T d L asks hl last h []) (half_pure _ 49)
theorem ev_lost_by (d : Nat) (L : Ln) (asks : List Ask) (hl : asks.length ≤ 1000000) (half : Option Nat) (h : ∀ i, half = some i → i < asks.length) (M : MH) : evC P 30 (d + 3) 32 [lnV L, .tup (asks.map askV), halfV half] M = .val (.lst ((lostBy L asks half).map natV)) M := by
  rw [evC_succ P 30 (d + 2) 32 _ M T.f32 rfl]
  have eo := cp_open_asks T.toPkS (d + 1) asks hl M
  have a0 := ag_none L.again M
  have a1 := ag_first L.again M
  have a2 := ag_unread L.again M
  have hn := openI_len asks
  by_cases h0 : L.again = 0
  · have e : lostBy L asks half = openI asks := by unfold lostBy; rw [if_pos h0]
    rw [e]
    rw [decide_eq_true h0] at a0
    simp [m_lost_by, stepE_callT, T.k16, eo, att_again T.cl, a0]
  · rw [decide_eq_false h0] at a0
    by_cases h1 : L.again = 1
    · have e : lostBy L asks half = (openI asks).drop 1 := by unfold lostBy; rw [if_neg h0, if_pos h1]
      rw [e]
      have hd : (((openI asks).map natV).drop 1).length ≤ 1000000 := by rw [List.length_drop, List.length_map]; omega
      have n := newL_f (M := M) hd
      simp only [List.drop_one] at n
      rw [decide_eq_true h1] at a1
      simp [m_lost_by, stepE_callT, T.k16, eo, att_again T.cl, a0, a1, n]
    · rw [decide_eq_false h1] at a1
      by_cases h2 : L.again = 2
      · rw [decide_eq_true h2] at a2
        cases half with
        | none =>
          have e : lostBy L asks none = [] := by unfold lostBy; rw [if_neg h0, if_neg h1, if_pos h2]
          rw [e]
          simp [m_lost_by, stepE_callT, T.k16, eo, att_again T.cl, a0, a1, a2, halfV, newL]
        | some i =>
          have e : lostBy L asks (some i) = (await L asks i).toList := by unfold lostBy; rw [if_neg h0, if_neg h1, if_pos h2]
          rw [e]
          have ew := cp_awaiting T d L asks hl i (h i rfl) M
          have hni : isNon (natV i) = false := rfl
          cases hA : await L asks i with
          | none =>
            rw [hA] at ew
            simp [m_lost_by, stepE_callT, T.k16, T.k30, eo, att_again T.cl, a0, a1, a2, halfV, newL, hni, ew]
          | some j =>
            rw [hA] at ew
            have hnj : isNon (natV j) = false := rfl
            simp [m_lost_by, stepE_callT, T.k16, T.k30, eo, att_again T.cl, a0, a1, a2, halfV, newL, hni, ew, hnj]
      · rw [decide_eq_false h2] at a2
        have e : lostBy L asks half = [] := by unfold lostBy; rw [if_neg h0, if_neg h1, if_neg h2]
        rw [e]
        cases half with
        | none => simp [m_lost_by, stepE_callT, T.k16, eo, att_again T.cl, a0, a1, a2, halfV, newL]
        | some i =>
          have hni : isNon (natV i) = false := rfl
          simp [m_lost_by, stepE_callT, T.k16, eo, att_again T.cl, a0, a1, a2, halfV, newL, hni]
theorem cp_lost_by (d : Nat) (L : Ln) (asks : List Ask) (hl : asks.length ≤ 1000000) (half : Option Nat) (h : ∀ i, half = some i → i < asks.length) (M : MH) : callP (evC P 30 (d + 3)) 32 [lnV L, .tup (asks.map askV), halfV half] M = .val (.lst ((lostBy L asks half).map natV)) M :=
  callP_ok (by simp only [List.all_cons, List.all_nil, ln_pure L 47, pure_tup, asks_pure asks 47, half_pure half 49, Bool.and_self]) (ev_lost_by T d L asks hl half h []) (by simp only [pure_lst, nats_pure _ 48])
end
end Mp.Pk
end

section
set_option Elab.async false
set_option linter.all false
set_option maxRecDepth 100000
set_option maxHeartbeats 4000000
/-! Pk9: asks with another word; an ask that is taken up. -/
namespace Mp.Pk
open PySem Mp

def setW (asks : List Ask) (i : Nat) (w : Wd) : List Ask := asks.set i { aAt asks i with w := w }
/-- asks behind one that the server takes up -/
def takenA (L : Ln) (asks : List Ask) (i : Nat) : List Ask :=
  if L.kept && decide (0 < (aAt asks i).n) then asks else asks.zipIdx.map fun q =>
    if q.2 = i then { aAt asks i with n := if (aAt asks i).n + 1 < 2 then (aAt asks i).n + 1 else 2 } else if q.2 < i ∧ q.1.a = (aAt asks i).a then { q.1 with l := true } else q.1
def takenB (L : Ln) (asks : List Ask) (i : Nat) : List PV :=
  if L.kept && decide (0 < (aAt asks i).n) then [] else
    (if 0 < (aAt asks i).n then [PV.str (PySem.Str.ofString "once")] else []) ++ ((if (aAt asks i).l then [PV.str (PySem.Str.ofString "order")] else []) ++ (if (aAt asks i).w = .lost then [PV.str (PySem.Str.ofString "lost")] else []))
def wishL : List PV := [.str (PySem.Str.ofString "own"), .str (PySem.Str.ofString "once"), .str (PySem.Str.ofString "order"), .str (PySem.Str.ofString "lost")]
structure PkE (P : MP) : Prop extends PkD P where
  f22 : P.fns[22]? = some m_tidied
  f28 : P.fns[28]? = some m_with_word
  f29 : P.fns[29]? = some m_taken_up
  c7 : P.con[7]? = some (.tup wishL)
theorem askV_take2 (q : Ask) (M : MH) : slcK (askV q) (some 2) none M = .val (.tup [.int q.n, .bl q.l]) M := rfl
theorem askV_take3 (q : Ask) (M : MH) : slcK (askV q) none (some 3) M = .val (.tup [.int q.a, wdV q.w, .int q.n]) M := rfl
@[simp] theorem view_ask (q : Ask) (M : MH) : view M (askV q) = askV q := rfl
theorem setW_len (asks : List Ask) (i : Nat) (w : Wd) : (setW asks i w).length = asks.length := by unfold setW; rw [List.length_set]
theorem takenA_len (L : Ln) (asks : List Ask) (i : Nat) : (takenA L asks i).length = asks.length := by
  unfold takenA
  split
  · rfl
  · rw [List.length_map, List.length_zipIdx]
section
variable {P : MP} (T : PkE P)
include T
theorem PkE.k22 : Cal P 22 1 := cal T.f22 rfl
theorem PkE.k28 : Cal P 28 3 := cal T.f28 rfl
theorem PkE.k29 : Cal P 29 3 := cal T.f29 rfl
theorem ev_with_word (d : Nat) (asks : List Ask) (hl : asks.length ≤ 1000000) (i : Nat) (hi : i < asks.length) (w : Wd) (M : MH) :
    evC P 30 (d + 1) 28 [.tup (asks.map askV), natV i, wdV w] M = .val (.tup ((setW asks i w).map askV)) (M ++ [.lst ((setW asks i w).map askV)]) := by
  rw [evC_succ P 30 d 28 _ M T.f28 rfl]
  have n0 := newL_t (xs := asks.map askV) (M := M) (by rw [List.length_map]; exact hl)
  have h0 := get_end M (.lst (asks.map askV))
  have hx : (asks.map askV)[i]? = some (askV (aAt asks i)) := by rw [List.getElem?_map, List.getElem?_eq_getElem hi, aAt_of (List.getElem?_eq_getElem hi)]; rfl
  have g := getI_ref (i := i) h0 hx
  have sb := subK_lst (i := i) h0 (by rw [List.length_map]; exact hi) (askV { aAt asks i with w := w }) [some (PV.tup (asks.map askV)), some (natV i), some (wdV w), some (.ref M.length)]
  rw [set_end] at sb
  have es : (asks.map askV).set i (askV { aAt asks i with w := w }) = (setW asks i w).map askV := by unfold setW; rw [List.map_set]
  rw [es] at sb
  have h1 := get_end M (.lst ((setW asks i w).map askV))
  have bt := bTuple_ref false h1 (by rw [List.length_map, setW_len]; exact hl)
  have g0 : getI (askV (aAt asks i)) (.int 0) (M ++ [.lst (asks.map askV)]) = some (.int (aAt asks i).a) := getI_t0 _ _ _
  have s2 := askV_take2 (aAt asks i) (M ++ [.lst (asks.map askV)])
  change getI (.ref M.length) (natV i) _ = _ at g
  change subK (.ref M.length) (natV i) (.tup [.int (aAt asks i).a, wdV w, .int (aAt asks i).n, .bl (aAt asks i).l]) _ _ = _ at sb
  simp [-List.map_map, m_with_word, bList_tup, n0, g, g0, s2, sb, bt]
theorem cp_with_word (d : Nat) (asks : List Ask) (hl : asks.length ≤ 1000000) (i : Nat) (hi : i < asks.length) (w : Wd) (M : MH) :
    callP (evC P 30 (d + 1)) 28 [.tup (asks.map askV), natV i, wdV w] M = .val (.tup ((setW asks i w).map askV)) M :=
  callP_ok (by simp only [List.all_cons, List.all_nil, pure_tup, asks_pure asks 47, natV, pure_int, wd_pure w 49, Bool.and_self]) (ev_with_word T d asks hl i hi w []) (by simp only [pure_tup, asks_pure _ 47])
theorem ev_taken_up (d : Nat) (L : Ln) (asks : List Ask) (hl : asks.length ≤ 1000) (i : Nat) (hi : i < asks.length) :
    ∃ M', evC P 30 (d + 1) 29 [lnV L, .tup (asks.map askV), natV i] [] = .val (.tup [.tup ((takenA L asks i).map askV), .lst (takenB L asks i)]) M' := by
  rw [evC_succ P 30 d 29 _ [] T.f29 rfl]
  have ga : getI (.tup (asks.map askV)) (natV i) [] = some (askV (aAt asks i)) := getI_tup (by rw [List.getElem?_map, List.getElem?_eq_getElem hi, aAt_of (List.getElem?_eq_getElem hi)]; rfl)
  obtain ⟨qa, hqa⟩ : ∃ q, q = aAt asks i := ⟨_, rfl⟩
  have ik := in_kept L []
  have c7 := T.c7
  rw [← hqa] at ga
  -- the wishes
  have wb : ∀ (M : MH), SrcL M (.zip true (.tup (wishL.drop 1)) true (.tup [.bl (decide (0 < qa.n)), .bl qa.l, .bl (decide (qa.w = .lost))])) ((wishL.drop 1).zip [decide (0 < qa.n), qa.l, decide (qa.w = .lost)]) (fun q => PV.tup [id q.1, PV.bl q.2]) := fun M => srcZip (by rw [List.map_id]; rfl) rfl
  have e0 : ∀ j, lcL (evT0 P (evC P 30 d) (j + 5)) (.var 8) (.tup [.nm 8, .nm 9]) [.var 9] [some (lnV L), some (.tup (asks.map askV)), some (natV i), some (.int qa.a), some (wdV qa.w), some (.int qa.n), some (.bl qa.l), none, none, none, none, none, none] (srcLen [] (.zip true (.tup (wishL.drop 1)) true (.tup [.bl (decide (0 < qa.n)), .bl qa.l, .bl (decide (qa.w = .lost))])) + 1) 0 (.zip true (.tup (wishL.drop 1)) true (.tup [.bl (decide (0 < qa.n)), .bl qa.l, .bl (decide (qa.w = .lost))])) [] []
      = .val ((if 0 < qa.n then [PV.str (PySem.Str.ofString "once")] else []) ++ ((if qa.l then [PV.str (PySem.Str.ofString "order")] else []) ++ (if qa.w = .lost then [PV.str (PySem.Str.ofString "lost")] else []))) [] := by
    intro j
    rw [lcL_items (p := fun q : PV × Bool => q.2) (g := fun q => q.1) (wb []) (by simp [wishL]) fun q _ => ⟨_, rfl, by simp, fun _ => by simp⟩]
    congr 1
    by_cases h1 : 0 < qa.n <;> cases h2 : qa.l <;> by_cases h3 : qa.w = .lost <;> simp [wishL, h1, h3]
  have wl := wd_lost qa.w []
  obtain ⟨f, hf⟩ : ∃ f : Ask × Nat → Ask, f = fun q => if q.2 = i then { qa with n := if qa.n + 1 < 2 then qa.n + 1 else 2 } else if q.2 < i ∧ q.1.a = qa.a then { q.1 with l := true } else q.1 := ⟨_, rfl⟩
  have b0 : m_taken_up.body = [
  .asg (.tup [(.nm 3), (.nm 4), (.nm 5), (.nm 6)]) (.idx (.var 1) (.var 2)),
  .ifs (.and [(.cmp .in_ (.lit (.str (PySem.Str.ofString "kept"))) (.att (.var 0) 4)), (.cmp .gt (.var 5) (.lit (.int 0)))]) [.ret (.tup [(false, (.var 1)), (false, (.lst false []))])] [],
  .asg (.nm 7) (.lc false [8, 9] (.var 8) (.tup [(.nm 8), (.nm 9)]) (.zip (.slc (.con 7) (some (.lit (.int 1))) none) (.tup [(false, (.cmp .gt (.var 5) (.lit (.int 0)))), (false, (.var 6)), (false, (.cmp .eq (.var 4) (.lit (.str (PySem.Str.ofString "lost")))))])) [(.var 9)]),
  .asg (.nm 10) (.lst true []),
  .for_ (.tup [(.nm 11), (.nm 12)]) (.enum (.var 1)) [.ifs (.and [(.cmp .lt (.var 11) (.var 2)), (.cmp .eq (.idx (.var 12) (.lit (.int 0))) (.var 3))]) [.asg (.nm 12) (.tup [(true, (.slc (.var 12) none (some (.lit (.int 3))))), (false, (.lit (.bl true)))])] [], .expr (.bm .append (.var 10) [(.ite (.cmp .eq (.var 11) (.var 2)) (.tup [(false, (.var 3)), (false, (.var 4)), (false, (.blt .min2 false [(.con 2), (.bin .add false (.var 5) (.lit (.int 1)))])), (false, (.var 6))]) (.var 12))])],
  .ret (.tup [(false, (.blt .tuple false [(.var 10)])), (false, (.var 7))])] := rfl
  change ∃ M', (ssL (evT0 P (evC P 30 d) 30) m_taken_up.body [some (lnV L), some (.tup (asks.map askV)), some (natV i), none, none, none, none, none, none, none, none, none, none] []).fin = _
  rw [b0]
  have s1 : stepS (evT0 P (evC P 30 d) 29) (.asg (.tup [(.nm 3), (.nm 4), (.nm 5), (.nm 6)]) (.idx (.var 1) (.var 2))) [some (lnV L), some (.tup (asks.map askV)), some (natV i), none, none, none, none, none, none, none, none, none, none] [] = .nx [some (lnV L), some (.tup (asks.map askV)), some (natV i), some (.int qa.a), some (wdV qa.w), some (.int qa.n), some (.bl qa.l), none, none, none, none, none, none] [] := by
    simp [ga, askV]
  have s2 : stepS (evT0 P (evC P 30 d) 29) (.ifs (.and [(.cmp .in_ (.lit (.str (PySem.Str.ofString "kept"))) (.att (.var 0) 4)), (.cmp .gt (.var 5) (.lit (.int 0)))]) [.ret (.tup [(false, (.var 1)), (false, (.lst false []))])] []) [some (lnV L), some (.tup (asks.map askV)), some (natV i), some (.int qa.a), some (wdV qa.w), some (.int qa.n), some (.bl qa.l), none, none, none, none, none, none] []
      = if L.kept && decide (0 < qa.n) then .rt (.tup [.tup (asks.map askV), .lst []]) [] else .nx [some (lnV L), some (.tup (asks.map askV)), some (natV i), some (.int qa.a), some (wdV qa.w), some (.int qa.n), some (.bl qa.l), none, none, none, none, none, none] [] := by
    generalize L.kept = kp at ik ⊢
    cases kp <;> by_cases h : 0 < qa.n <;> simp [att_marks T.cl, ik, h, newL]
  rw [ssL_cons, ev_s, s1, seq_nx, ssL_cons, ev_s, s2]
  cases hk : L.kept && decide (0 < qa.n) with
  | true =>
    have e1 : takenA L asks i = asks := by unfold takenA; rw [← hqa, hk]; rfl
    have e2 : takenB L asks i = [] := by unfold takenB; rw [← hqa, hk]; rfl
    rw [e1, e2]
    exact ⟨[], rfl⟩
  | false =>
  have e1 : takenA L asks i = asks.zipIdx.map f := by unfold takenA; rw [← hqa, hk, hf]; rfl
  have e2 : takenB L asks i = (if 0 < qa.n then [PV.str (PySem.Str.ofString "once")] else []) ++ ((if qa.l then [PV.str (PySem.Str.ofString "order")] else []) ++ (if qa.w = .lost then [PV.str (PySem.Str.ofString "lost")] else [])) := by unfold takenB; rw [← hqa, hk]; rfl
  rw [e1, e2]
  generalize hbr : (if 0 < qa.n then [PV.str (PySem.Str.ofString "once")] else []) ++ ((if qa.l then [PV.str (PySem.Str.ofString "order")] else []) ++ (if qa.w = .lost then [PV.str (PySem.Str.ofString "lost")] else [])) = br at e0 ⊢
  have hbl : br.length ≤ 1000000 := by
    rw [← hbr]
    by_cases h1 : 0 < qa.n <;> cases h2 : qa.l <;> by_cases h3 : qa.w = .lost <;> simp [h1, h3]
  simp only [Bool.false_eq_true, if_false, seq_nx]
  have s3 : stepS (evT0 P (evC P 30 d) 29) (.asg (.nm 7) (.lc false [8, 9] (.var 8) (.tup [(.nm 8), (.nm 9)]) (.zip (.slc (.con 7) (some (.lit (.int 1))) none) (.tup [(false, (.cmp .gt (.var 5) (.lit (.int 0)))), (false, (.var 6)), (false, (.cmp .eq (.var 4) (.lit (.str (PySem.Str.ofString "lost")))))])) [(.var 9)])) [some (lnV L), some (.tup (asks.map askV)), some (natV i), some (.int qa.a), some (wdV qa.w), some (.int qa.n), some (.bl qa.l), none, none, none, none, none, none] []
      = .nx [some (lnV L), some (.tup (asks.map askV)), some (natV i), some (.int qa.a), some (wdV qa.w), some (.int qa.n), some (.bl qa.l), some (.lst br), none, none, none, none, none] [] := by
    have ez : evIt (evT0 P (evC P 30 d) 28) (.zip (.slc (.con 7) (some (.lit (.int 1))) none) (.tup [(false, (.cmp .gt (.var 5) (.lit (.int 0)))), (false, (.var 6)), (false, (.cmp .eq (.var 4) (.lit (.str (PySem.Str.ofString "lost")))))])) [some (lnV L), some (.tup (asks.map askV)), some (natV i), some (.int qa.a), some (wdV qa.w), some (.int qa.n), some (.bl qa.l), none, none, none, none, none, none] [] = .val (.zip true (.tup (wishL.drop 1)) true (.tup [.bl (decide (0 < qa.n)), .bl qa.l, .bl (decide (qa.w = .lost))])) [] := by
      simp [-List.drop_one, c7, wl]
    rw [stepS_asg, ev_e, stepE_lc, ez, bind_val]
    show (outS ((lcL (evT0 P (evC P 30 d) 28) _ _ _ [some (lnV L), some (.tup (asks.map askV)), some (natV i), some (.int qa.a), some (wdV qa.w), some (.int qa.n), some (.bl qa.l), none, none, none, none, none, none] _ 0 _ [] []).bind _) _ _) = _
    rw [e0 23, bind_val, newL_f hbl, outS_val]
    rfl
  have s4 : stepS (evT0 P (evC P 30 d) 29) (.asg (.nm 10) (.lst true [])) [some (lnV L), some (.tup (asks.map askV)), some (natV i), some (.int qa.a), some (wdV qa.w), some (.int qa.n), some (.bl qa.l), some (.lst br), none, none, none, none, none] []
      = .nx [some (lnV L), some (.tup (asks.map askV)), some (natV i), some (.int qa.a), some (wdV qa.w), some (.int qa.n), some (.bl qa.l), some (.lst br), none, none, some (.ref 0), none, none] [.lst []] := by
    simp [newL]
  rw [ssL_cons, ev_s, s3, seq_nx, ssL_cons, ev_s, s4, seq_nx]
  have hse : ∀ M, SrcL M (.enum true (.tup (asks.map askV))) asks.zipIdx (fun q => PV.tup [PV.int q.2, askV q.1]) := fun M => srcEnum rfl
  generalize hbd : ([.ifs (.and [(.cmp .lt (.var 11) (.var 2)), (.cmp .eq (.idx (.var 12) (.lit (.int 0))) (.var 3))]) [.asg (.nm 12) (.tup [(true, (.slc (.var 12) none (some (.lit (.int 3))))), (false, (.lit (.bl true)))])] [], .expr (.bm .append (.var 10) [(.ite (.cmp .eq (.var 11) (.var 2)) (.tup [(false, (.var 3)), (false, (.var 4)), (false, (.blt .min2 false [(.con 2), (.bin .add false (.var 5) (.lit (.int 1)))])), (false, (.var 6))]) (.var 12))])] : List MS) = bd
  have turn : ∀ (q : Ask × Nat) (xs : List PV), xs.length < 1000000 → ∃ x12, ssL (evT0 P (evC P 30 d) 29) bd [some (lnV L), some (.tup (asks.map askV)), some (natV i), some (.int qa.a), some (wdV qa.w), some (.int qa.n), some (.bl qa.l), some (.lst br), none, none, some (.ref 0), some (.int q.2), some (askV q.1)] [.lst xs]
      = .nx [some (lnV L), some (.tup (asks.map askV)), some (natV i), some (.int qa.a), some (wdV qa.w), some (.int qa.n), some (.bl qa.l), some (.lst br), none, none, some (.ref 0), some (.int q.2), x12] [.lst (xs ++ [askV (f q)])] := by
    intro q xs hx
    have ga0 : getI (askV q.1) (.int 0) [.lst xs] = some (.int q.1.a) := getI_t0 _ _ _
    have sl := askV_take3 q.1 [.lst xs]
    have il : isLst (.ref 0) [.lst xs] = true := rfl
    have ap := fun y => app_ref (M := [.lst xs]) (n := 0) (xs := xs) rfl hx y
    have c2 := T.c2
    rw [← hbd]
    by_cases h1 : q.2 = i
    · have e : askV (f q) = .tup [.int qa.a, wdV qa.w, .int (if qa.n + 1 < 2 then qa.n + 1 else 2), .bl qa.l] := by rw [hf]; dsimp only; rw [if_pos h1]; rfl
      refine ⟨some (askV q.1), ?_⟩
      rw [e]
      have h2 : ¬ ((i : Int) < i) := by omega
      simp [natV, h1, h2, il, ap, c2]
    · have h1' : ¬ ((q.2 : Int) = i) := by omega
      by_cases h3 : q.2 < i
      · have h3' : (q.2 : Int) < i := by omega
        by_cases h4 : q.1.a = qa.a
        · have e : askV (f q) = .tup [.int q.1.a, wdV q.1.w, .int q.1.n, .bl true] := by rw [hf]; dsimp only; rw [if_neg h1, if_pos ⟨h3, h4⟩]; rfl
          refine ⟨some (.tup [.int q.1.a, wdV q.1.w, .int q.1.n, .bl true]), ?_⟩
          rw [e]
          simp [natV, h1', h3', ga0, h4, sl, il, ap]
        · have e : askV (f q) = askV q.1 := by rw [hf]; dsimp only; rw [if_neg h1, if_neg fun z => h4 z.2]
          refine ⟨some (askV q.1), ?_⟩
          rw [e]
          simp [natV, h1', h3', ga0, h4, il, ap]
      · have h3' : ¬ ((q.2 : Int) < i) := by omega
        have e : askV (f q) = askV q.1 := by rw [hf]; dsimp only; rw [if_neg h1, if_neg fun z => h3 z.1]
        refine ⟨some (askV q.1), ?_⟩
        rw [e]
        simp [natV, h1', h3', il, ap]
  obtain ⟨ρ, M', h1, h2, x11, x12, h3⟩ := forL_all (s := .enum true (.tup (asks.map askV))) (inj := fun q : Ask × Nat => PV.tup [PV.int q.2, askV q.1]) (E := evT0 P (evC P 30 d) 29) (t := .tup [.nm 11, .nm 12]) (body := ssL (evT0 P (evC P 30 d) 29) bd) (L := asks.zipIdx)
    (st := fun pre ρ M' => M' = [.lst (pre.map fun q => askV (f q))] ∧ ∃ x11 x12, ρ = [some (lnV L), some (.tup (asks.map askV)), some (natV i), some (.int qa.a), some (wdV qa.w), some (.int qa.n), some (.bl qa.l), some (.lst br), none, none, some (.ref 0), x11, x12])
    (ρ := [some (lnV L), some (.tup (asks.map askV)), some (natV i), some (.int qa.a), some (wdV qa.w), some (.int qa.n), some (.bl qa.l), some (.lst br), none, none, some (.ref 0), none, none]) (M := [.lst []])
    (fun pre ρ M' h => hse M') (fun pre q post ρ M' hL h => by
      obtain ⟨rfl, x11, x12, rfl⟩ := h
      refine ⟨_, _, rfl, ?_⟩
      have hlen : (pre.map fun q => askV (f q)).length < 1000000 := by
        have : asks.zipIdx.length = pre.length + (post.length + 1) := by rw [hL]; simp
        rw [List.length_zipIdx] at this
        rw [List.length_map]
        omega
      obtain ⟨y12, ht⟩ := turn q _ hlen
      exact ⟨_, _, .inl ht, by rw [List.map_append]; rfl, _, _, rfl⟩) ⟨rfl, none, none, rfl⟩
  subst h2 h3
  have s5 : stepS (evT0 P (evC P 30 d) 29) (.for_ (.tup [(.nm 11), (.nm 12)]) (.enum (.var 1)) bd) [some (lnV L), some (.tup (asks.map askV)), some (natV i), some (.int qa.a), some (wdV qa.w), some (.int qa.n), some (.bl qa.l), some (.lst br), none, none, some (.ref 0), none, none] [.lst []]
      = .nx [some (lnV L), some (.tup (asks.map askV)), some (natV i), some (.int qa.a), some (wdV qa.w), some (.int qa.n), some (.bl qa.l), some (.lst br), none, none, some (.ref 0), x11, x12] [.lst (asks.zipIdx.map fun q => askV (f q))] := by
    have ei : evIt (evT0 P (evC P 30 d) 29) (.enum (.var 1)) [some (lnV L), some (.tup (asks.map askV)), some (natV i), some (.int qa.a), some (wdV qa.w), some (.int qa.n), some (.bl qa.l), some (.lst br), none, none, some (.ref 0), none, none] [.lst []] = .val (.enum true (.tup (asks.map askV))) [.lst []] := by simp
    rw [stepS_for, ei, outS_val, h1]
  have em : (asks.zipIdx.map fun q => askV (f q)) = (asks.zipIdx.map f).map askV := by rw [List.map_map]; rfl
  have bt := bTuple_ref (M := [.lst ((asks.zipIdx.map f).map askV)]) (n := 0) false rfl (by rw [List.length_map, List.length_map, List.length_zipIdx]; omega)
  refine ⟨[.lst ((asks.zipIdx.map f).map askV)], ?_⟩
  rw [ssL_cons, ev_s, s5, seq_nx, em]
  simp [-List.map_map, bt]
theorem cp_taken_up (d : Nat) (L : Ln) (asks : List Ask) (hl : asks.length ≤ 1000) (i : Nat) (hi : i < asks.length) (M : MH) :
    callP (evC P 30 (d + 1)) 29 [lnV L, .tup (asks.map askV), natV i] M = .val (.tup [.tup ((takenA L asks i).map askV), .lst (takenB L asks i)]) M := by
  obtain ⟨M', h⟩ := ev_taken_up T d L asks hl i hi
  refine callP_ok (by simp only [List.all_cons, List.all_nil, ln_pure L 47, pure_tup, asks_pure asks 47, natV, pure_int, Bool.and_self]) h ?_
  have hb : (takenB L asks i).all (pureB 48) = true := by
    unfold takenB
    split
    · rfl
    · by_cases h1 : 0 < (aAt asks i).n <;> cases h2 : (aAt asks i).l <;> by_cases h3 : (aAt asks i).w = .lost <;> simp [h1, h3]
  simp only [pure_tup, List.all_cons, List.all_nil, asks_pure _ 46, pure_lst, hb, Bool.and_self]
end
end Mp.Pk
end

section
set_option Elab.async false
set_option linter.all false
set_option maxRecDepth 100000
set_option maxHeartbeats 4000000
/-! Pk10: a state without the asks of which nothing is left. -/
namespace Mp.Pk
open PySem Mp

def tidyN (s : St) : St := ⟨s.o, (leftN s).map (aAt s.asks), s.row.map fun i => (leftN s).idxOf i, s.elder.map fun i => (leftN s).idxOf i, s.under.map fun q => ((leftN s).idxOf q.1, q.2), s.half.map fun i => (leftN s).idxOf i⟩
def spotsV (left : List Nat) : List (PV × PV) := left.zipIdx.map fun q => (natV q.1, PV.int q.2)
theorem spot_get : ∀ (left : List Nat) (k i : Nat), i ∈ left → getD (natV i) ((left.zipIdx k).map fun q => (natV q.1, PV.int q.2)) = some (natV (k + left.idxOf i))
  | [], _, _, h => by cases h
  | a :: r, k, i, h => by
    rw [List.zipIdx_cons, List.map_cons]
    show (if decide ((a : Int) = (i : Int)) then some (PV.int k) else getD (natV i) ((r.zipIdx (k + 1)).map fun q => (natV q.1, PV.int q.2))) = _
    by_cases e : a = i
    · subst e
      simp [natV]
    · have e' : ¬ ((a : Int) = (i : Int)) := by omega
      have hi : i ∈ r := by
        rcases List.mem_cons.mp h with h | h
        · exact absurd h.symm e
        · exact h
      rw [decide_eq_false e', spot_get r (k + 1) i hi, List.idxOf_cons]
      have e2 : (a == i) = false := by simpa using e
      rw [e2]
      simp only [Bool.false_eq_true, if_false, cond_false]
      congr 2
      omega
theorem spots_getI {left : List Nat} {i : Nat} (h : i ∈ left) (M : MH) : getI (.dct (spotsV left)) (natV i) M = some (natV (left.idxOf i)) := by
  show (if isKey (natV i) then getD (natV i) (spotsV left) else none) = _
  rw [show isKey (natV i) = true from rfl, if_pos rfl]
  have := spot_get left 0 i h
  rw [Nat.zero_add] at this
  exact this
theorem left_mem_found {s : St} {i : Nat} (h : i ∈ foundN s) : i ∈ leftN s := by
  unfold leftN
  rw [mem_sortN]
  cases s.half with
  | none => exact h
  | some j => exact List.mem_append_left _ h
theorem left_mem_half {s : St} {i : Nat} (h : s.half = some i) : i ∈ leftN s := by
  unfold leftN
  rw [mem_sortN, h]
  exact List.mem_append_right _ (by simp)
theorem sortN_len : ∀ ns : List Nat, (sortN ns).length ≤ ns.length
  | [] => Nat.le_refl _
  | a :: r => by
    have key : ∀ (a : Nat) (l : List Nat), (insN a l).length ≤ l.length + 1 := by
      intro a l
      induction l with
      | nil => exact Nat.le_refl _
      | cons b l ih2 =>
        unfold insN
        split
        · simp
        · split
          · simp
          · simp only [List.length_cons]
            omega
    have h1 := key a (sortN r)
    have h2 := sortN_len r
    unfold sortN
    simp only [List.length_cons]
    omega
theorem left_len (s : St) : (leftN s).length ≤ (foundN s).length + 1 := by
  unfold leftN
  refine Nat.le_trans (sortN_len _) ?_
  cases s.half with
  | none => exact Nat.le_succ _
  | some h => simp
theorem left_asc (s : St) : (leftN s).Pairwise (· < ·) := by unfold leftN; exact sortN_asc _
section
variable {P : MP} (T : PkE P)
include T
theorem ev_tidied (d : Nat) (s : St) (hf : (foundN s).length < 63) (ha : s.asks.length ≤ 1000) (hr : ∀ i, i ∈ leftN s → i < s.asks.length) (M : MH) : evC P 30 (d + 3) 22 [stV s] M = .val (stV (tidyN s)) M := by
  rw [evC_succ P 30 (d + 2) 22 _ M T.f22 rfl]
  have el := cp_left_in T.toPkS d s hf ha M
  have hll := left_len s
  have hzl : SrcL M (.enum false (.lst ((leftN s).map natV))) (leftN s).zipIdx (fun q => PV.tup [PV.int q.2, natV q.1]) := srcEnum rfl
  have hfl : (foundN s).length = (openI s.asks).length + (s.row.length + (s.elder.length + s.under.length)) := by unfold foundN; simp
  have inRow : ∀ i, i ∈ s.row → i ∈ leftN s := fun i h => left_mem_found (by unfold foundN; simp [h])
  have inEld : ∀ i, i ∈ s.elder → i ∈ leftN s := fun i h => left_mem_found (by unfold foundN; simp [h])
  have inUnd : ∀ q, q ∈ s.under → q.1 ∈ leftN s := fun q h => left_mem_found (by unfold foundN; simp only [List.mem_append, List.mem_map]; exact .inr (.inr (.inr ⟨q, h, rfl⟩)))
  have inHalf : ∀ i, s.half = some i → i ∈ leftN s := fun i h => left_mem_half h
  have hasc := left_asc s
  obtain ⟨left, hleft⟩ : ∃ left, left = leftN s := ⟨_, rfl⟩
  have et : tidyN s = ⟨s.o, left.map (aAt s.asks), s.row.map fun i => left.idxOf i, s.elder.map fun i => left.idxOf i, s.under.map fun q => (left.idxOf q.1, q.2), s.half.map fun i => left.idxOf i⟩ := by rw [hleft]; rfl
  rw [et]
  rw [← hleft] at el hll hzl hasc hr inRow inEld inUnd inHalf
  clear hleft et
  have ds : ∀ j ρ, ρ = [some (stV s), some (.bl s.o), some (.tup (s.asks.map askV)), some (rowV s.row), some (rowV s.elder), some (.tup (s.under.map ansV)), some (halfV s.half), some (.lst (left.map natV)), none, none, none, none] → dcL (evT0 P (evC P 30 (d + 2)) (j + 5)) (.var 10) (.var 9) (.tup [(.nm 9), (.nm 10)]) [] ρ (srcLen M (.enum false (.lst (left.map natV))) + 1) 0 (.enum false (.lst (left.map natV))) [] M = .val (spotsV left) M := by
    intro j ρ hρ
    subst hρ
    refine dcL_all (f := fun q : Nat × Nat => natV q.1) (g := fun q => PV.int q.2) hzl (by rw [List.length_zipIdx]; omega) (fun q hq => ⟨_, rfl, rfl, rfl, rfl⟩) ?_
    have h1 : (left.zipIdx.map Prod.fst).Pairwise (· < ·) := by
      rw [List.zipIdx_map_fst]
      exact hasc
    refine (List.pairwise_map.mp h1).imp fun {a b} h => ?_
    show decide ((a.1 : Int) = b.1) = false
    exact decide_eq_false (by omega)
  have s1 : stepS (evT0 P (evC P 30 (d + 2)) 29) (.asg (.tup [(.nm 1), (.nm 2), (.nm 3), (.nm 4), (.nm 5), (.nm 6)]) (.var 0)) [some (stV s), none, none, none, none, none, none, none, none, none, none, none] M = .nx [some (stV s), some (.bl s.o), some (.tup (s.asks.map askV)), some (rowV s.row), some (rowV s.elder), some (.tup (s.under.map ansV)), some (halfV s.half), none, none, none, none, none] M := by
    simp [stV]
  have s2 : stepS (evT0 P (evC P 30 (d + 2)) 29) (.asg (.nm 7) (.call 18 true [(.var 0)])) [some (stV s), some (.bl s.o), some (.tup (s.asks.map askV)), some (rowV s.row), some (rowV s.elder), some (.tup (s.under.map ansV)), some (halfV s.half), none, none, none, none, none] M = .nx [some (stV s), some (.bl s.o), some (.tup (s.asks.map askV)), some (rowV s.row), some (rowV s.elder), some (.tup (s.under.map ansV)), some (halfV s.half), some (.lst (left.map natV)), none, none, none, none] M := by
    simp [stepE_callT, T.k18, el]
  have s3 : stepS (evT0 P (evC P 30 (d + 2)) 29) (.asg (.nm 8) (.dc false [9, 10] (.var 10) (.var 9) (.tup [(.nm 9), (.nm 10)]) (.enum (.var 7)) [])) [some (stV s), some (.bl s.o), some (.tup (s.asks.map askV)), some (rowV s.row), some (rowV s.elder), some (.tup (s.under.map ansV)), some (halfV s.half), some (.lst (left.map natV)), none, none, none, none] M = .nx [some (stV s), some (.bl s.o), some (.tup (s.asks.map askV)), some (rowV s.row), some (rowV s.elder), some (.tup (s.under.map ansV)), some (halfV s.half), some (.lst (left.map natV)), some (.dct (spotsV left)), none, none, none] M := by
    have ei : evIt (evT0 P (evC P 30 (d + 2)) 28) (.enum (.var 7)) [some (stV s), some (.bl s.o), some (.tup (s.asks.map askV)), some (rowV s.row), some (rowV s.elder), some (.tup (s.under.map ansV)), some (halfV s.half), some (.lst (left.map natV)), none, none, none, none] M = .val (.enum false (.lst (left.map natV))) M := by simp
    rw [stepS_asg, ev_e, stepE_dc, ei, bind_val]
    have dd := ds 23 _ rfl
    show (outS ((dcL (evT0 P (evC P 30 (d + 2)) 28) _ _ _ [] [some (stV s), some (.bl s.o), some (.tup (s.asks.map askV)), some (rowV s.row), some (rowV s.elder), some (.tup (s.under.map ansV)), some (halfV s.half), some (.lst (left.map natV)), none, none, none, none] _ 0 _ [] M).bind _) _ _) = _
    rw [dd, bind_val]
    rfl
  -- the parts of the new state
  obtain ⟨ρ, hρ⟩ : ∃ ρ : Rho, ρ = [some (stV s), some (.bl s.o), some (.tup (s.asks.map askV)), some (rowV s.row), some (rowV s.elder), some (.tup (s.under.map ansV)), some (halfV s.half), some (.lst (left.map natV)), some (.dct (spotsV left)), none, none, none] := ⟨_, rfl⟩
  have v1 : ∀ j, (evT0 P (evC P 30 (d + 2)) (j + 6)).e (.blt .tuple false [(.lc false [10] (.idx (.var 2) (.var 10)) (.nm 10) (.seq (.var 7)) [])]) ρ M = .val (.tup ((left.map (aAt s.asks)).map askV)) M := by
    intro j
    have e : lcL (evT0 P (evC P 30 (d + 2)) (j + 4)) (.idx (.var 2) (.var 10)) (.nm 10) [] ρ (srcLen M (.sq false (.lst (left.map natV))) + 1) 0 (.sq false (.lst (left.map natV))) [] M = .val ((left.map (aAt s.asks)).map askV) M := by
      subst hρ
      rw [lcL_all (g := fun i => askV (aAt s.asks i)) (src_lst left natV M) (by omega) fun i hi => ⟨_, rfl, ?_⟩]
      · rw [List.map_map]; rfl
      · have g := getI_asks T.toPkD (hr i hi) M
        simp [g]
    have hn : ((left.map (aAt s.asks)).map askV).length ≤ 1000000 := by rw [List.length_map, List.length_map]; omega
    have ei : evIt (evT0 P (evC P 30 (d + 2)) (j + 4)) (.seq (.var 7)) ρ M = .val (.sq false (.lst (left.map natV))) M := by subst hρ; rfl
    have ew : wipeR ρ [10] = ρ := by subst hρ; rfl
    rw [ev_e, stepE_blt, evArgs_cons, ev_e, stepE_lc, ei, bind_val, ew, e, bind_val, newL_f hn, bind_val, evArgs_nil, bind_val, bind_val, bTuple_lst _ _ _ hn]
  have vrow : ∀ (j x : Nat) (ns : List Nat), ρ[x]? = some (some (rowV ns)) → (∀ i, i ∈ ns → i ∈ left) → ns.length < 63 → (evT0 P (evC P 30 (d + 2)) (j + 6)).e (.blt .tuple false [(.lc false [10] (.idx (.var 8) (.var 10)) (.nm 10) (.seq (.var x)) [])]) ρ M = .val (rowV (ns.map fun i => left.idxOf i)) M := by
    intro j x ns hx hin hns
    have e : lcL (evT0 P (evC P 30 (d + 2)) (j + 4)) (.idx (.var 8) (.var 10)) (.nm 10) [] ρ (srcLen M (.sq true (rowV ns)) + 1) 0 (.sq true (rowV ns)) [] M = .val ((ns.map fun i => left.idxOf i).map natV) M := by
      clear hx
      subst hρ
      rw [lcL_all (g := fun i => natV (left.idxOf i)) (show SrcL M (.sq true (rowV ns)) ns natV from src_tup ns natV M) (by omega) fun i hi => ⟨_, rfl, ?_⟩]
      · rw [List.map_map]; rfl
      · have g := spots_getI (hin i hi) M
        simp [g]
    have hn : ((ns.map fun i => left.idxOf i).map natV).length ≤ 1000000 := by rw [List.length_map, List.length_map]; omega
    have ei : evIt (evT0 P (evC P 30 (d + 2)) (j + 4)) (.seq (.var x)) ρ M = .val (.sq true (rowV ns)) M := by
      rw [evIt_seq, ev_e, stepE_var, hx]
      rfl
    have ew : wipeR ρ [10] = ρ := by subst hρ; rfl
    rw [ev_e, stepE_blt, evArgs_cons, ev_e, stepE_lc, ei, bind_val, ew, e, bind_val, newL_f hn, bind_val, evArgs_nil, bind_val, bind_val, bTuple_lst _ _ _ hn]
    rfl
  have v4 : ∀ j, (evT0 P (evC P 30 (d + 2)) (j + 6)).e (.blt .tuple false [(.lc false [10, 11] (.tup [(false, (.idx (.var 8) (.var 10))), (false, (.var 11))]) (.tup [(.nm 10), (.nm 11)]) (.seq (.var 5)) [])]) ρ M = .val (.tup ((s.under.map fun q => (left.idxOf q.1, q.2)).map ansV)) M := by
    intro j
    have e : lcL (evT0 P (evC P 30 (d + 2)) (j + 4)) (.tup [(false, (.idx (.var 8) (.var 10))), (false, (.var 11))]) (.tup [(.nm 10), (.nm 11)]) [] ρ (srcLen M (.sq true (.tup (s.under.map ansV))) + 1) 0 (.sq true (.tup (s.under.map ansV))) [] M = .val ((s.under.map fun q => (left.idxOf q.1, q.2)).map ansV) M := by
      subst hρ
      rw [lcL_all (g := fun q : Nat × Int => ansV (left.idxOf q.1, q.2)) (src_tup s.under ansV M) (by omega) fun q hq => ⟨_, rfl, ?_⟩]
      · rw [List.map_map]; rfl
      · have g := spots_getI (inUnd q hq) M
        simp [g, ansV]
    have hn : ((s.under.map fun q => (left.idxOf q.1, q.2)).map ansV).length ≤ 1000000 := by rw [List.length_map, List.length_map]; omega
    have ei : evIt (evT0 P (evC P 30 (d + 2)) (j + 4)) (.seq (.var 5)) ρ M = .val (.sq true (.tup (s.under.map ansV))) M := by subst hρ; rfl
    have ew : wipeR ρ [10, 11] = ρ := by subst hρ; rfl
    rw [ev_e, stepE_blt, evArgs_cons, ev_e, stepE_lc, ei, bind_val, ew, e, bind_val, newL_f hn, bind_val, evArgs_nil, bind_val, bind_val, bTuple_lst _ _ _ hn]
  have v5 : ∀ j, (evT0 P (evC P 30 (d + 2)) (j + 6)).e (.ite (.cmp .is_ (.var 6) (.lit .non)) (.lit .non) (.idx (.var 8) (.var 6))) ρ M = .val (halfV (s.half.map fun i => left.idxOf i)) M := by
    intro j
    subst hρ
    cases hh : s.half with
    | none => simp [halfV]
    | some i =>
      have g := spots_getI (inHalf i hh) M
      have hni : isNon (natV i) = false := rfl
      simp [halfV, g, hni]
  have v0 : ∀ j, (evT0 P (evC P 30 (d + 2)) (j + 6)).e (.var 1) ρ M = .val (.bl s.o) M := by
    intro j
    subst hρ
    rfl
  have s4 : stepS (evT0 P (evC P 30 (d + 2)) 29) (.ret (.tup [(false, (.var 1)), (false, (.blt .tuple false [(.lc false [10] (.idx (.var 2) (.var 10)) (.nm 10) (.seq (.var 7)) [])])), (false, (.blt .tuple false [(.lc false [10] (.idx (.var 8) (.var 10)) (.nm 10) (.seq (.var 3)) [])])), (false, (.blt .tuple false [(.lc false [10] (.idx (.var 8) (.var 10)) (.nm 10) (.seq (.var 4)) [])])), (false, (.blt .tuple false [(.lc false [10, 11] (.tup [(false, (.idx (.var 8) (.var 10))), (false, (.var 11))]) (.tup [(.nm 10), (.nm 11)]) (.seq (.var 5)) [])])), (false, (.ite (.cmp .is_ (.var 6) (.lit .non)) (.lit .non) (.idx (.var 8) (.var 6))))])) ρ M
      = .rt (stV ⟨s.o, left.map (aAt s.asks), s.row.map fun i => left.idxOf i, s.elder.map fun i => left.idxOf i, s.under.map fun q => (left.idxOf q.1, q.2), s.half.map fun i => left.idxOf i⟩) M := by
    rw [stepS_ret, ev_e, stepE_tup, evStars_f, v0 22, bind_val, evStars_f, v1 22, bind_val, evStars_f, vrow 22 3 s.row (by subst hρ; rfl) inRow (by omega), bind_val, evStars_f, vrow 22 4 s.elder (by subst hρ; rfl) inEld (by omega), bind_val, evStars_f, v4 22, bind_val, evStars_f, v5 22, bind_val, evStars_nil]
    rfl
  have b0 : m_tidied.body = [.asg (.tup [(.nm 1), (.nm 2), (.nm 3), (.nm 4), (.nm 5), (.nm 6)]) (.var 0), .asg (.nm 7) (.call 18 true [(.var 0)]), .asg (.nm 8) (.dc false [9, 10] (.var 10) (.var 9) (.tup [(.nm 9), (.nm 10)]) (.enum (.var 7)) []),
    .ret (.tup [(false, (.var 1)), (false, (.blt .tuple false [(.lc false [10] (.idx (.var 2) (.var 10)) (.nm 10) (.seq (.var 7)) [])])), (false, (.blt .tuple false [(.lc false [10] (.idx (.var 8) (.var 10)) (.nm 10) (.seq (.var 3)) [])])), (false, (.blt .tuple false [(.lc false [10] (.idx (.var 8) (.var 10)) (.nm 10) (.seq (.var 4)) [])])), (false, (.blt .tuple false [(.lc false [10, 11] (.tup [(false, (.idx (.var 8) (.var 10))), (false, (.var 11))]) (.tup [(.nm 10), (.nm 11)]) (.seq (.var 5)) [])])), (false, (.ite (.cmp .is_ (.var 6) (.lit .non)) (.lit .non) (.idx (.var 8) (.var 6))))])] := rfl
  change (ssL (evT0 P (evC P 30 (d + 2)) 30) m_tidied.body [some (stV s), none, none, none, none, none, none, none, none, none, none, none] M).fin = _
  rw [b0, ssL_cons, ev_s, s1, seq_nx, ssL_cons, ev_s, s2, seq_nx, ssL_cons, ev_s, s3, seq_nx, ssL_cons, ev_s, ← hρ, s4, seq_rt, fin_rt]
theorem cp_tidied (d : Nat) (s : St) (hf : (foundN s).length < 63) (ha : s.asks.length ≤ 1000) (hr : ∀ i, i ∈ leftN s → i < s.asks.length) (M : MH) : callP (evC P 30 (d + 3)) 22 [stV s] M = .val (stV (tidyN s)) M :=
  callP_ok (by simp [st_pure s 45]) (ev_tidied T d s hf ha hr []) (st_pure _ 45)
end
end Mp.Pk
end

section
set_option Elab.async false
set_option linter.all false
set_option maxRecDepth 100000
set_option maxHeartbeats 4000000
/-! Pk11: a piece that the asker reads. -/
namespace Mp.Pk
open PySem Mp

def unN (i : Nat) (n : Int) (r : List (Nat × Int)) : List (Nat × Int) := if n = 1 then r else (i, n - 1) :: r
def halfN (L : Ln) (half : Option Nat) (last : Nat) : Option Nat := if L.named && !decide (half = some last) then none else half
def ownL : List PV := [.str (PySem.Str.ofString "own")]
def readN (L : Ln) (s : St) (last : Nat) (n : Int) (r : List (Nat × Int)) : St × List PV :=
  if decide (L.pieces = 2) && (halfN L s.half last).isNone then (⟨s.o, s.asks, s.row, s.elder, unN last n r, some last⟩, [])
  else match await L s.asks last with
    | none => (⟨s.o, s.asks, s.row, s.elder, unN last n r, none⟩, [])
    | some q => (⟨s.o, setW s.asks q .told, s.row, s.elder, unN last n r, none⟩, if decide (q = last) && ((halfN L s.half last).isNone || decide (halfN L s.half last = some last)) then [] else ownL)
theorem eq_half (h : Option Nat) (i : Nat) (M : MH) : eqV M (halfV h) (natV i) = some (decide (h = some i)) := by
  cases h with
  | none =>
    rw [decide_eq_false (by simp)]
    kernel_rfl
  | some j =>
    show eqV M (.int j) (.int i) = _
    rw [show eqV M (.int j) (.int i) = some (decide ((j : Int) = i)) from by kernel_rfl]
    congr 1
    by_cases e : j = i
    · subst e; simp
    · have : ¬ ((j : Int) = i) := by omega
      simp [e, this]
@[simp] theorem half_none : halfV none = PV.non := rfl
theorem isNon_half (h : Option Nat) : isNon (halfV h) = h.isNone := by cases h <;> rfl
theorem await_lt {L : Ln} {asks : List Ask} {last q : Nat} (h : await L asks last = some q) (hl : last < asks.length) : q < asks.length ∧ (aAt asks q).w = .op := by
  unfold await at h
  split at h
  · split at h
    · rename_i ho
      cases h
      exact ⟨hl, ho⟩
    · cases h
  · have : q ∈ openI asks := by
      cases e : openI asks with
      | nil => rw [e] at h; cases h
      | cons a r => rw [e] at h; cases h; exact List.mem_cons_self
    exact mem_openI.mp this
structure PkF (P : MP) : Prop extends PkE P where
  f31 : P.fns[31]? = some m_read
  f33 : P.fns[33]? = some m_cut
  f34 : P.fns[34]? = some m_outcome
  f41 : P.fns[41]? = some m_check_deed
  f42 : P.fns[42]? = some m_after
section
variable {P : MP} (T : PkF P)
include T
theorem PkF.k31 : Cal P 31 2 := cal T.f31 rfl
theorem PkF.k33 : Cal P 33 3 := cal T.f33 rfl
theorem PkF.k34 : Cal P 34 3 := cal T.f34 rfl
theorem PkF.k41 : Cal P 41 3 := cal T.f41 rfl
theorem PkF.k42 : Cal P 42 3 := cal T.f42 rfl
theorem ev_read (d : Nat) (L : Ln) (s : St) (hl : s.asks.length ≤ 1000) (last : Nat) (n : Int) (r : List (Nat × Int)) (hu : s.under = (last, n) :: r) (hur : r.length < 1000) (h : last < s.asks.length) (M : MH) :
    ∃ M', evC P 30 (d + 3) 31 [lnV L, stV s] M = .val (.tup [stV (readN L s last n r).1, .lst (readN L s last n r).2]) M' := by
  rw [evC_succ P 30 (d + 2) 31 _ M T.f31 rfl]
  have eh := eq_half s.half last M
  have inn := in_named L M
  have ea := cp_awaiting T.toPkD d L s.asks (by omega) last h M
  obtain ⟨σ, hσ⟩ : ∃ σ, σ = stV s := ⟨_, rfl⟩
  have s1 : stepS (evT0 P (evC P 30 (d + 2)) 29) (.asg (.tup [(.nm 2), (.nm 3), (.nm 4), (.nm 5), (.nm 6), (.nm 7)]) (.var 1)) [some (lnV L), some (stV s), none, none, none, none, none, none, none, none, none, none, none] M
    = .nx [some (lnV L), some σ, some (.bl s.o), some (.tup (s.asks.map askV)), some (rowV s.row), some (rowV s.elder), some (.tup (ansV (last, n) :: r.map ansV)), some (halfV s.half), none, none, none, none, none] M := by
    subst hσ
    simp [stV, hu]
  have s2 : stepS (evT0 P (evC P 30 (d + 2)) 29) (.asg (.tup [(.nm 8), (.nm 9)]) (.idx (.var 6) (.lit (.int 0)))) [some (lnV L), some σ, some (.bl s.o), some (.tup (s.asks.map askV)), some (rowV s.row), some (rowV s.elder), some (.tup (ansV (last, n) :: r.map ansV)), some (halfV s.half), none, none, none, none, none] M
    = .nx [some (lnV L), some σ, some (.bl s.o), some (.tup (s.asks.map askV)), some (rowV s.row), some (rowV s.elder), some (.tup (ansV (last, n) :: r.map ansV)), some (halfV s.half), some (natV last), some (.int n), none, none, none] M := by
    simp [ansV, natV]
  have s3 : stepS (evT0 P (evC P 30 (d + 2)) 29) (.asg (.nm 10) (.ite (.cmp .eq (.var 9) (.lit (.int 1))) (.slc (.var 6) (some (.lit (.int 1))) none) (.tup [(false, (.tup [(false, (.var 8)), (false, (.bin .sub false (.var 9) (.lit (.int 1))))])), (true, (.slc (.var 6) (some (.lit (.int 1))) none))]))) [some (lnV L), some σ, some (.bl s.o), some (.tup (s.asks.map askV)), some (rowV s.row), some (rowV s.elder), some (.tup (ansV (last, n) :: r.map ansV)), some (halfV s.half), some (natV last), some (.int n), none, none, none] M
    = .nx [some (lnV L), some σ, some (.bl s.o), some (.tup (s.asks.map askV)), some (rowV s.row), some (rowV s.elder), some (.tup (ansV (last, n) :: r.map ansV)), some (halfV s.half), some (natV last), some (.int n), some (.tup ((unN last n r).map ansV)), none, none] M := by
    have e1 : eqV M (.int n) (.int 1) = some (decide (n = 1)) := by kernel_rfl
    by_cases hn : n = 1
    · rw [decide_eq_true hn] at e1
      have e : unN last n r = r := by unfold unN; rw [if_pos hn]
      rw [e]
      simp [-List.map_map, e1]
    · rw [decide_eq_false hn] at e1
      have e : unN last n r = (last, n - 1) :: r := by unfold unN; rw [if_neg hn]
      rw [e]
      have hlen : r.length + 1 ≤ 1000000 := by omega
      simp [-List.map_map, e1, ansV, hlen]
  have s4 : stepS (evT0 P (evC P 30 (d + 2)) 29) (.ifs (.and [(.cmp .in_ (.lit (.str (PySem.Str.ofString "named"))) (.att (.var 0) 4)), (.cmp .ne (.var 7) (.var 8))]) [.asg (.nm 7) (.lit .non)] []) [some (lnV L), some σ, some (.bl s.o), some (.tup (s.asks.map askV)), some (rowV s.row), some (rowV s.elder), some (.tup (ansV (last, n) :: r.map ansV)), some (halfV s.half), some (natV last), some (.int n), some (.tup ((unN last n r).map ansV)), none, none] M
    = .nx [some (lnV L), some σ, some (.bl s.o), some (.tup (s.asks.map askV)), some (rowV s.row), some (rowV s.elder), some (.tup (ansV (last, n) :: r.map ansV)), some (halfV (halfN L s.half last)), some (natV last), some (.int n), some (.tup ((unN last n r).map ansV)), none, none] M := by
    unfold halfN
    generalize L.named = nb at inn ⊢
    generalize decide (s.half = some last) = hb at eh ⊢
    cases nb <;> cases hb <;> simp [att_marks T.cl, inn, eh]
  unfold readN
  generalize hus : unN last n r = us at s3 s4 ⊢
  generalize hhh : halfN L s.half last = hh at s4 ⊢
  have eh2 := eq_half hh last M
  have ein := isNon_half hh
  have p2 : eqV M (.int L.pieces) (.int 2) = some (decide (L.pieces = 2)) := by
    rw [show eqV M (.int L.pieces) (.int 2) = some (decide ((L.pieces : Int) = 2)) from by kernel_rfl]
  have s5 : stepS (evT0 P (evC P 30 (d + 2)) 29) (.ifs (.and [(.cmp .eq (.att (.var 0) 2) (.lit (.int 2))), (.cmp .is_ (.var 7) (.lit .non))]) [.ret (.tup [(false, (.tup [(false, (.var 2)), (false, (.var 3)), (false, (.var 4)), (false, (.var 5)), (false, (.var 10)), (false, (.var 8))])), (false, (.lst false []))])] []) [some (lnV L), some σ, some (.bl s.o), some (.tup (s.asks.map askV)), some (rowV s.row), some (rowV s.elder), some (.tup (ansV (last, n) :: r.map ansV)), some (halfV hh), some (natV last), some (.int n), some (.tup (us.map ansV)), none, none] M
    = if decide (L.pieces = 2) && hh.isNone then .rt (.tup [stV ⟨s.o, s.asks, s.row, s.elder, us, some last⟩, .lst []]) M else .nx [some (lnV L), some σ, some (.bl s.o), some (.tup (s.asks.map askV)), some (rowV s.row), some (rowV s.elder), some (.tup (ansV (last, n) :: r.map ansV)), some (halfV hh), some (natV last), some (.int n), some (.tup (us.map ansV)), none, none] M := by
    generalize decide (L.pieces = 2) = pb at p2 ⊢
    generalize hh.isNone = hb at ein ⊢
    cases pb <;> cases hb <;> simp [att_pieces T.cl, p2, ein, newL, stV] <;> rfl
  have b0 : m_read.body = [
  .asg (.tup [(.nm 2), (.nm 3), (.nm 4), (.nm 5), (.nm 6), (.nm 7)]) (.var 1),
  .asg (.tup [(.nm 8), (.nm 9)]) (.idx (.var 6) (.lit (.int 0))),
  .asg (.nm 10) (.ite (.cmp .eq (.var 9) (.lit (.int 1))) (.slc (.var 6) (some (.lit (.int 1))) none) (.tup [(false, (.tup [(false, (.var 8)), (false, (.bin .sub false (.var 9) (.lit (.int 1))))])), (true, (.slc (.var 6) (some (.lit (.int 1))) none))])),
  .ifs (.and [(.cmp .in_ (.lit (.str (PySem.Str.ofString "named"))) (.att (.var 0) 4)), (.cmp .ne (.var 7) (.var 8))]) [.asg (.nm 7) (.lit .non)] [],
  .ifs (.and [(.cmp .eq (.att (.var 0) 2) (.lit (.int 2))), (.cmp .is_ (.var 7) (.lit .non))]) [.ret (.tup [(false, (.tup [(false, (.var 2)), (false, (.var 3)), (false, (.var 4)), (false, (.var 5)), (false, (.var 10)), (false, (.var 8))])), (false, (.lst false []))])] [],
  .asg (.nm 11) (.call 30 true [(.var 0), (.var 3), (.var 8)]),
  .ifs (.cmp .is_ (.var 11) (.lit .non)) [.ret (.tup [(false, (.tup [(false, (.var 2)), (false, (.var 3)), (false, (.var 4)), (false, (.var 5)), (false, (.var 10)), (false, (.lit .non))])), (false, (.lst false []))])] [],
  .asg (.nm 12) (.and [(.cmp .eq (.var 11) (.var 8)), (.or [(.cmp .is_ (.var 7) (.lit .non)), (.cmp .eq (.var 7) (.var 8))])]),
  .ret (.tup [(false, (.tup [(false, (.var 2)), (false, (.call 28 true [(.var 3), (.var 11), (.lit (.str (PySem.Str.ofString "told")))])), (false, (.var 4)), (false, (.var 5)), (false, (.var 10)), (false, (.lit .non))])), (false, (.ite (.var 12) (.lst false []) (.lst false [(false, (.lit (.str (PySem.Str.ofString "own"))))])))])] := rfl
  change ∃ M', (ssL (evT0 P (evC P 30 (d + 2)) 30) m_read.body [some (lnV L), some (stV s), none, none, none, none, none, none, none, none, none, none, none] M).fin = _
  rw [b0, ssL_cons, ev_s, s1, seq_nx, ssL_cons, ev_s, s2, seq_nx, ssL_cons, ev_s, s3, seq_nx, ssL_cons, ev_s, s4, seq_nx, ssL_cons, ev_s, s5]
  by_cases hc : (decide (L.pieces = 2) && hh.isNone) = true
  · rw [if_pos hc, if_pos hc, seq_rt, fin_rt]
    exact ⟨M, rfl⟩
  rw [if_neg hc, if_neg hc, seq_nx]
  cases hA : await L s.asks last with
  | none =>
    rw [hA] at ea
    refine ⟨M, ?_⟩
    simp [-List.map_map, stepE_callT, T.k30, ea, newL, stV]
  | some q =>
    rw [hA] at ea
    have hq := (await_lt hA h).1
    have ew := cp_with_word T.toPkE (d + 1) s.asks (by omega) q hq .told M
    have eq1 : eqV M (natV q) (natV last) = some (decide (q = last)) := by
      have := eq_half (some q) last M
      simp only [Option.some.injEq] at this
      exact this
    have hnq : isNon (natV q) = false := rfl
    refine ⟨M, ?_⟩
    dsimp only
    change callP _ 28 [_, _, .str (PySem.Str.ofString "told")] _ = _ at ew
    generalize decide (q = last) = qb at eq1 ⊢
    generalize decide (hh = some last) = hb at eh2 ⊢
    generalize hh.isNone = nb at ein ⊢
    change callP _ 30 _ _ = .val (natV q) _ at ea
    cases qb <;> cases hb <;> cases nb <;> simp [-List.map_map, stepE_callT, T.k30, T.k28, ea, hnq, newL, eq1, eh2, ein, ew, stV, ownL] <;> rfl
theorem read_pure (L : Ln) (s : St) (last : Nat) (n : Int) (r : List (Nat × Int)) : (readN L s last n r).2 = [] ∨ (readN L s last n r).2 = ownL := by
  unfold readN
  split
  · exact .inl rfl
  · split
    · exact .inl rfl
    · split
      · exact .inl rfl
      · exact .inr rfl
theorem cp_read (d : Nat) (L : Ln) (s : St) (hl : s.asks.length ≤ 1000) (last : Nat) (n : Int) (r : List (Nat × Int)) (hu : s.under = (last, n) :: r) (hur : r.length < 1000) (h : last < s.asks.length) (M : MH) :
    callP (evC P 30 (d + 3)) 31 [lnV L, stV s] M = .val (.tup [stV (readN L s last n r).1, .lst (readN L s last n r).2]) M := by
  obtain ⟨M', e⟩ := ev_read T d L s hl last n r hu hur h []
  refine callP_ok (by simp only [List.all_cons, List.all_nil, ln_pure L 47, st_pure s 45, Bool.and_self]) e ?_
  have : pureB 49 (.lst (readN L s last n r).2) = true := by
    rcases read_pure T L s last n r with h | h <;> rw [h] <;> rfl
  simp only [pure_tup, List.all_cons, List.all_nil, st_pure _ 44, this, Bool.and_self]
end
end Mp.Pk
end

section
set_option Elab.async false
set_option linter.all false
set_option maxRecDepth 100000
set_option maxHeartbeats 4000000
/-! Pk12: the line goes down. -/
namespace Mp.Pk
open PySem Mp

def lostL : List PV := [.str (PySem.Str.ofString "lost")]
def markL (asks : List Ask) (ns : List Nat) : List Ask := ns.foldl (fun a i => setW a i .lost) asks
def cutN (L : Ln) (s : St) (m : Nat) : St × List PV :=
  (⟨false, markL s.asks (lostBy L s.asks s.half), [], s.row.take m, [], if L.fresh then none else s.half⟩, if (lostBy L s.asks s.half).any fun i => decide (0 < (aAt s.asks i).n) then lostL else [])
theorem markL_len (asks : List Ask) (ns : List Nat) : (markL asks ns).length = asks.length := by
  unfold markL
  induction ns generalizing asks with
  | nil => rfl
  | cons a r ih => rw [List.foldl_cons, ih, setW_len]
theorem await_lt' {L : Ln} {asks : List Ask} {last q : Nat} (h : await L asks last = some q) (hl : last < asks.length) : q < asks.length := (await_lt h hl).1
theorem lostBy_open {L : Ln} {asks : List Ask} {half : Option Nat} (hh : ∀ i, half = some i → i < asks.length) {i : Nat} (h : i ∈ lostBy L asks half) : i ∈ openI asks := by
  unfold lostBy at h
  split at h
  · exact h
  · split at h
    · exact List.mem_of_mem_drop h
    · split at h
      · cases half with
        | none => cases h
        | some j =>
          simp only [Option.mem_toList] at h
          exact mem_openI.mpr (await_lt h (hh j rfl))
      · cases h
theorem lostBy_lt {L : Ln} {asks : List Ask} {half : Option Nat} (hh : ∀ i, half = some i → i < asks.length) {i : Nat} (h : i ∈ lostBy L asks half) : i < asks.length := (mem_openI.mp (lostBy_open hh h)).1
theorem lostBy_len (L : Ln) (asks : List Ask) (half : Option Nat) : (lostBy L asks half).length ≤ asks.length + 1 := by
  have := openI_len asks
  unfold lostBy
  split
  · omega
  · split
    · rw [List.length_drop]; omega
    · split
      · cases half with
        | none => exact Nat.zero_le _
        | some j =>
          dsimp only
          cases await L asks j with
          | none => exact Nat.zero_le _
          | some q => show 1 ≤ _; omega
      · exact Nat.zero_le _
section
variable {P : MP} (T : PkF P)
include T
theorem ev_cut (d : Nat) (L : Ln) (s : St) (hl : s.asks.length ≤ 1000) (hh : ∀ i, s.half = some i → i < s.asks.length) (m : Nat) (M : MH) :
    evC P 30 (d + 4) 33 [lnV L, stV s, .int m] M = .val (.tup [stV (cutN L s m).1, .lst (cutN L s m).2]) M := by
  rw [evC_succ P 30 (d + 3) 33 _ M T.f33 rfl]
  have inn := in_fresh L M
  have el := cp_lost_by T.toPkD d L s.asks (by omega) s.half hh M
  have hlt := fun i (h : i ∈ lostBy L s.asks s.half) => lostBy_lt hh h
  have hln := lostBy_len L s.asks s.half
  unfold cutN
  generalize lostBy L s.asks s.half = lost at el hlt hln ⊢
  obtain ⟨σ, hσ⟩ : ∃ σ, σ = stV s := ⟨_, rfl⟩
  have hsr : ∀ M, SrcL M (.sq false (.lst (lost.map natV))) lost natV := fun M => src_lst _ _ _
  have s1 : stepS (evT0 P (evC P 30 (d + 3)) 29) (.asg (.tup [(.nm 3), (.nm 4), (.nm 5), (.nm 6), (.nm 7), (.nm 8)]) (.var 1)) [some (lnV L), some (stV s), some (.int m), none, none, none, none, none, none, none, none, none] M
    = .nx [some (lnV L), some σ, some (.int m), some (.bl s.o), some (.tup (s.asks.map askV)), some (rowV s.row), some (rowV s.elder), some (.tup (s.under.map ansV)), some (halfV s.half), none, none, none] M := by
    subst hσ
    simp [stV]
  have s2 : stepS (evT0 P (evC P 30 (d + 3)) 29) (.asg (.nm 9) (.call 32 true [(.var 0), (.var 4), (.var 8)])) [some (lnV L), some σ, some (.int m), some (.bl s.o), some (.tup (s.asks.map askV)), some (rowV s.row), some (rowV s.elder), some (.tup (s.under.map ansV)), some (halfV s.half), none, none, none] M
    = .nx [some (lnV L), some σ, some (.int m), some (.bl s.o), some (.tup (s.asks.map askV)), some (rowV s.row), some (rowV s.elder), some (.tup (s.under.map ansV)), some (halfV s.half), some (.lst (lost.map natV)), none, none] M := by
    simp [stepE_callT, T.k32, el]
  obtain ⟨br, hbr⟩ : ∃ br : List PV, br = if lost.any (fun i => decide (0 < (aAt s.asks i).n)) then lostL else [] := ⟨_, rfl⟩
  have s3 : stepS (evT0 P (evC P 30 (d + 3)) 29) (.asg (.nm 10) (.ite (.blt .any false [(.lc false [11] (.cmp .gt (.idx (.idx (.var 4) (.var 11)) (.lit (.int 2))) (.lit (.int 0))) (.nm 11) (.seq (.var 9)) [])]) (.lst false [(false, (.lit (.str (PySem.Str.ofString "lost"))))]) (.lst false []))) [some (lnV L), some σ, some (.int m), some (.bl s.o), some (.tup (s.asks.map askV)), some (rowV s.row), some (rowV s.elder), some (.tup (s.under.map ansV)), some (halfV s.half), some (.lst (lost.map natV)), none, none] M
    = .nx [some (lnV L), some σ, some (.int m), some (.bl s.o), some (.tup (s.asks.map askV)), some (rowV s.row), some (rowV s.elder), some (.tup (s.under.map ansV)), some (halfV s.half), some (.lst (lost.map natV)), some (.lst br), none] M := by
    have e0 : ∀ j, lcL (evT0 P (evC P 30 (d + 3)) (j + 6)) (.cmp .gt (.idx (.idx (.var 4) (.var 11)) (.lit (.int 2))) (.lit (.int 0))) (.nm 11) [] [some (lnV L), some σ, some (.int m), some (.bl s.o), some (.tup (s.asks.map askV)), some (rowV s.row), some (rowV s.elder), some (.tup (s.under.map ansV)), some (halfV s.half), some (.lst (lost.map natV)), none, none] (srcLen M (.sq false (.lst (lost.map natV))) + 1) 0 (.sq false (.lst (lost.map natV))) [] M = .val (lost.map fun i => PV.bl (decide (0 < (aAt s.asks i).n))) M := by
      intro j
      refine lcL_all (hsr M) (by omega) fun i hi => ⟨_, rfl, ?_⟩
      have g := getI_asks T.toPkD (hlt i hi) M
      have g2 : getI (askV (aAt s.asks i)) (.int 2) M = some (.int (aAt s.asks i).n) := getI_t2 _ _ _ _ _
      simp [g, g2]
    have hnl : lost.length ≤ 1000000 := by omega
    have ba := bAny_map false (fun i => decide (0 < (aAt s.asks i).n)) lost M
    subst hbr
    generalize lost.any (fun i => decide (0 < (aAt s.asks i).n)) = B at ba ⊢
    cases B <;> simp [-List.map_map, -bAny_map, kindS_lst, wipeR, e0, ba, newL, lostL, hnl]
  obtain ⟨ρ, M', h1, h2, x11, h3⟩ := forL_all (s := .sq false (.lst (lost.map natV))) (inj := natV) (E := evT0 P (evC P 30 (d + 3)) 29) (t := .nm 11) (body := ssL (evT0 P (evC P 30 (d + 3)) 29) [.asg (.nm 4) (.call 28 true [(.var 4), (.var 11), (.lit (.str (PySem.Str.ofString "lost")))])]) (L := lost)
    (st := fun pre ρ M' => M' = M ∧ ∃ x11, ρ = [some (lnV L), some σ, some (.int m), some (.bl s.o), some (.tup ((markL s.asks pre).map askV)), some (rowV s.row), some (rowV s.elder), some (.tup (s.under.map ansV)), some (halfV s.half), some (.lst (lost.map natV)), some (.lst br), x11])
    (ρ := [some (lnV L), some σ, some (.int m), some (.bl s.o), some (.tup (s.asks.map askV)), some (rowV s.row), some (rowV s.elder), some (.tup (s.under.map ansV)), some (halfV s.half), some (.lst (lost.map natV)), some (.lst br), none]) (M := M)
    (fun pre ρ M' h => hsr M') (fun pre i post ρ M' hL h => by
      obtain ⟨rfl, x11, rfl⟩ := h
      have hi : i < (markL s.asks pre).length := by rw [markL_len]; exact hlt i (by rw [hL]; simp)
      have ew := cp_with_word T.toPkE (d + 2) (markL s.asks pre) (by rw [markL_len]; omega) i hi .lost M'
      change callP _ 28 [_, _, .str (PySem.Str.ofString "lost")] _ = _ at ew
      refine ⟨_, _, rfl, ?_⟩
      refine ⟨[some (lnV L), some σ, some (.int m), some (.bl s.o), some (.tup ((markL s.asks (pre ++ [i])).map askV)), some (rowV s.row), some (rowV s.elder), some (.tup (s.under.map ansV)), some (halfV s.half), some (.lst (lost.map natV)), some (.lst br), some (natV i)], _, .inl ?_, rfl, some (natV i), ?_⟩
      · have em : markL s.asks (pre ++ [i]) = setW (markL s.asks pre) i .lost := by unfold markL; rw [List.foldl_append]; rfl
        rw [em]
        simp [stepE_callT, T.k28, ew]
      · rfl) ⟨rfl, none, rfl⟩
  subst h2 h3
  have s4 : stepS (evT0 P (evC P 30 (d + 3)) 29) (.for_ (.nm 11) (.seq (.var 9)) [.asg (.nm 4) (.call 28 true [(.var 4), (.var 11), (.lit (.str (PySem.Str.ofString "lost")))])]) [some (lnV L), some σ, some (.int m), some (.bl s.o), some (.tup (s.asks.map askV)), some (rowV s.row), some (rowV s.elder), some (.tup (s.under.map ansV)), some (halfV s.half), some (.lst (lost.map natV)), some (.lst br), none] M'
    = .nx [some (lnV L), some σ, some (.int m), some (.bl s.o), some (.tup ((markL s.asks lost).map askV)), some (rowV s.row), some (rowV s.elder), some (.tup (s.under.map ansV)), some (halfV s.half), some (.lst (lost.map natV)), some (.lst br), x11] M' := by
    have ei : evIt (evT0 P (evC P 30 (d + 3)) 29) (.seq (.var 9)) [some (lnV L), some σ, some (.int m), some (.bl s.o), some (.tup (s.asks.map askV)), some (rowV s.row), some (rowV s.elder), some (.tup (s.under.map ansV)), some (halfV s.half), some (.lst (lost.map natV)), some (.lst br), none] M' = .val (.sq false (.lst (lost.map natV))) M' := by simp [kindS_lst]
    rw [stepS_for, ei, outS_val, h1]
  have ct : cutL (s.row.map natV) none (some (m : Int)) = (s.row.take m).map natV := by rw [cutL_to, List.map_take]
  have s5 : stepS (evT0 P (evC P 30 (d + 3)) 29) (.ret (.tup [(false, (.tup [(false, (.lit (.bl false))), (false, (.var 4)), (false, (.tup [])), (false, (.slc (.var 5) none (some (.var 2)))), (false, (.tup [])), (false, (.ite (.cmp .in_ (.lit (.str (PySem.Str.ofString "fresh"))) (.att (.var 0) 4)) (.lit .non) (.var 8)))])), (false, (.var 10))])) [some (lnV L), some σ, some (.int m), some (.bl s.o), some (.tup ((markL s.asks lost).map askV)), some (rowV s.row), some (rowV s.elder), some (.tup (s.under.map ansV)), some (halfV s.half), some (.lst (lost.map natV)), some (.lst br), x11] M'
    = .rt (.tup [stV ⟨false, markL s.asks lost, [], s.row.take m, [], if L.fresh then none else s.half⟩, .lst br]) M' := by
    have er : rowV s.row = .tup (s.row.map natV) := rfl
    generalize L.fresh = fb at inn ⊢
    cases fb <;> simp [-List.map_take, att_marks T.cl, inn, er, ct, stV, rowV]
  have b0 : m_cut.body = [
  .asg (.tup [(.nm 3), (.nm 4), (.nm 5), (.nm 6), (.nm 7), (.nm 8)]) (.var 1),
  .asg (.nm 9) (.call 32 true [(.var 0), (.var 4), (.var 8)]),
  .asg (.nm 10) (.ite (.blt .any false [(.lc false [11] (.cmp .gt (.idx (.idx (.var 4) (.var 11)) (.lit (.int 2))) (.lit (.int 0))) (.nm 11) (.seq (.var 9)) [])]) (.lst false [(false, (.lit (.str (PySem.Str.ofString "lost"))))]) (.lst false [])),
  .for_ (.nm 11) (.seq (.var 9)) [.asg (.nm 4) (.call 28 true [(.var 4), (.var 11), (.lit (.str (PySem.Str.ofString "lost")))])],
  .ret (.tup [(false, (.tup [(false, (.lit (.bl false))), (false, (.var 4)), (false, (.tup [])), (false, (.slc (.var 5) none (some (.var 2)))), (false, (.tup [])), (false, (.ite (.cmp .in_ (.lit (.str (PySem.Str.ofString "fresh"))) (.att (.var 0) 4)) (.lit .non) (.var 8)))])), (false, (.var 10))])] := rfl
  change (ssL (evT0 P (evC P 30 (d + 3)) 30) m_cut.body [some (lnV L), some (stV s), some (.int m), none, none, none, none, none, none, none, none, none] M').fin = _
  rw [b0, ssL_cons, ev_s, s1, seq_nx, ssL_cons, ev_s, s2, seq_nx, ssL_cons, ev_s, s3, seq_nx, ssL_cons, ev_s, s4, seq_nx, ssL_cons, ev_s, s5, seq_rt, fin_rt]
  rw [hbr]
theorem cp_cut (d : Nat) (L : Ln) (s : St) (hl : s.asks.length ≤ 1000) (hh : ∀ i, s.half = some i → i < s.asks.length) (m : Nat) (M : MH) :
    callP (evC P 30 (d + 4)) 33 [lnV L, stV s, .int m] M = .val (.tup [stV (cutN L s m).1, .lst (cutN L s m).2]) M := by
  refine callP_ok (by simp only [List.all_cons, List.all_nil, ln_pure L 47, st_pure s 45, pure_int, Bool.and_self]) (ev_cut T d L s hl hh m []) ?_
  have : pureB 49 (.lst (cutN L s m).2) = true := by
    unfold cutN
    dsimp only
    split <;> rfl
  simp only [pure_tup, List.all_cons, List.all_nil, st_pure _ 44, this, Bool.and_self]
end
end Mp.Pk
end

section
set_option Elab.async false
set_option linter.all false
set_option maxRecDepth 100000
set_option maxHeartbeats 4000000
/-! Pk13: what a deed leaves. -/
namespace Mp.Pk
open PySem Mp

/-- a deed's state before it is tidied -/
def preN (L : Ln) (s : St) : Dd → St
  | .ask a => ⟨s.o, s.asks ++ [⟨a, .op, 0, false⟩], s.row ++ [s.asks.length], s.elder, s.under, s.half⟩
  | .do_ => match s.row with
    | [] => s
    | i :: r => ⟨s.o, takenA L s.asks i, r, s.elder, s.under ++ [(i, L.pieces)], s.half⟩
  | .late => match s.elder with
    | [] => s
    | i :: r => ⟨s.o, takenA L s.asks i, s.row, r, s.under, s.half⟩
  | .open_ => ⟨true, s.asks, openI s.asks, if L.barred then [] else s.elder, s.under, s.half⟩
  | .piece => match s.under with
    | [] => s
    | (i, n) :: r => (readN L s i n r).1
  | .cut m => (cutN L s m).1
def brkN (L : Ln) (s : St) : Dd → List PV
  | .ask _ => []
  | .do_ => match s.row with
    | [] => []
    | i :: r => takenB L s.asks i
  | .late => match s.elder with
    | [] => []
    | i :: r => takenB L s.asks i
  | .open_ => []
  | .piece => match s.under with
    | [] => []
    | (i, n) :: r => (readN L s i n r).2
  | .cut m => (cutN L s m).2
structure Fit (s : St) : Prop where
  f : (foundN s).length < 63
  a : s.asks.length ≤ 1000
  r : ∀ i, i ∈ leftN s → i < s.asks.length
section
variable {P : MP} (T : PkF P)
include T
theorem ev_outcome (d : Nat) (L : Ln) (s : St) (x : Dd) (hl : s.asks.length ≤ 900) (hr : s.row.length < 900) (he : s.elder.length < 900) (hu : s.under.length < 900) (ir : ∀ i, i ∈ s.row → i < s.asks.length) (ie : ∀ i, i ∈ s.elder → i < s.asks.length) (iu : ∀ q, q ∈ s.under → q.1 < s.asks.length) (ih : ∀ i, s.half = some i → i < s.asks.length)
    (hc : canDo L s x = true) (hf : Fit (preN L s x)) (M : MH) :
    evC P 30 (d + 5) 34 [lnV L, stV s, ddV x] M = .val (.tup [stV (tidyN (preN L s x)), .lst (brkN L s x)]) M := by
  rw [evC_succ P 30 (d + 4) 34 _ M T.f34 rfl]
  have h0 := dd0 x M
  have h1 := w_ask x M
  have h2 := w_do x M
  have h3 := w_late x M
  have h4 := w_piece x M
  have h5 := w_open x M
  have et := cp_tidied T.toPkE (d + 1) (preN L s x) hf.f hf.a hf.r M
  generalize stV (tidyN (preN L s x)) = tv at et ⊢
  obtain ⟨σ, hσ⟩ : ∃ σ, σ = stV s := ⟨_, rfl⟩
  have s1 : stepS (evT0 P (evC P 30 (d + 4)) 29) (.asg (.tup [(.nm 3), (.nm 4), (.nm 5), (.nm 6), (.nm 7), (.nm 8)]) (.var 1)) [some (lnV L), some (stV s), some (ddV x), none, none, none, none, none, none, none, none] M
    = .nx [some (lnV L), some σ, some (ddV x), some (.bl s.o), some (.tup (s.asks.map askV)), some (rowV s.row), some (rowV s.elder), some (.tup (s.under.map ansV)), some (halfV s.half), none, none] M := by
    subst hσ
    simp [stV]
  have s2 : stepS (evT0 P (evC P 30 (d + 4)) 29) (.asg (.nm 9) (.lst false [])) [some (lnV L), some σ, some (ddV x), some (.bl s.o), some (.tup (s.asks.map askV)), some (rowV s.row), some (rowV s.elder), some (.tup (s.under.map ansV)), some (halfV s.half), none, none] M
    = .nx [some (lnV L), some σ, some (ddV x), some (.bl s.o), some (.tup (s.asks.map askV)), some (rowV s.row), some (rowV s.elder), some (.tup (s.under.map ansV)), some (halfV s.half), some (.lst []), none] M := by
    simp [newL]
  obtain ⟨rest, hrest⟩ : ∃ rest, m_outcome.body = (.asg (.tup [(.nm 3), (.nm 4), (.nm 5), (.nm 6), (.nm 7), (.nm 8)]) (.var 1)) :: (.asg (.nm 9) (.lst false [])) :: rest ∧ rest = m_outcome.body.drop 2 := ⟨_, rfl, rfl⟩
  change (ssL (evT0 P (evC P 30 (d + 4)) 30) m_outcome.body [some (lnV L), some (stV s), some (ddV x), none, none, none, none, none, none, none, none] M).fin = _
  rw [hrest.1, ssL_cons, ev_s, s1, seq_nx, ssL_cons, ev_s, s2, seq_nx, hrest.2]
  clear s1 s2 hrest
  have es : stV (preN L s x) = .tup [.bl (preN L s x).o, .tup ((preN L s x).asks.map askV), rowV (preN L s x).row, rowV (preN L s x).elder, .tup ((preN L s x).under.map ansV), halfV (preN L s x).half] := rfl
  have hl2 : s.asks.length + 1 ≤ 1000000 := by omega
  have hr2 : s.row.length + 1 ≤ 1000000 := by omega
  have hu2 : s.under.length + 1 ≤ 1000000 := by omega
  cases x with
  | ask a =>
    have g1 : getI (ddV (.ask a)) (.int 1) M = some (.int a) := getI_t1 _ _ _ _
    rw [es] at et
    simp only [preN, List.map_append, List.map_cons, List.map_nil, rowV] at et
    simp [-List.map_map, m_outcome, setAll, h0, h1, isAsk, g1, rowV, hl2, hr2, stepE_callT, T.k22]
    change callP _ 22 [.tup [_, .tup (_ ++ [.tup [.int (a : Int), .str (PySem.Str.ofString "open"), .int 0, .bl false]]), .tup (_ ++ [.int (s.asks.length : Int)]), _, _, _]] _ = _ at et
    simp [-List.map_map, et, brkN, rowV]
  | do_ =>
    cases hR : s.row with
    | nil => unfold canDo at hc; rw [hR] at hc; cases hc
    | cons i r =>
      have hi := ir i (by rw [hR]; exact List.mem_cons_self)
      have ek := cp_taken_up T.toPkE (d + 3) L s.asks (by omega) i hi M
      rw [es] at et
      simp only [preN, hR, List.map_append, List.map_cons, List.map_nil] at et
      have g0 : getI (rowV (i :: r)) (.int 0) M = some (natV i) := getI_t0 _ _ _
      have sl : slcK (rowV (i :: r)) (some 1) none M = .val (rowV r) M := by show slcK (.tup (natV i :: r.map natV)) (some 1) none M = _; rw [slcK_tup, cutL_1]; rfl
      simp [-List.map_map, m_outcome, setAll, h0, h1, h2, isAsk, isDo, g0, sl, hu2, stepE_callT, T.k22, T.k29, ek, att_pieces T.cl]
      change callP _ 22 [.tup [_, _, _, _, .tup (_ ++ [.tup [natV i, .int L.pieces]]), _]] _ = _ at et
      simp [-List.map_map, et, brkN, hR]
  | late =>
    cases hR : s.elder with
    | nil => unfold canDo at hc; rw [hR] at hc; cases hc
    | cons i r =>
      have hi := ie i (by rw [hR]; exact List.mem_cons_self)
      have ek := cp_taken_up T.toPkE (d + 3) L s.asks (by omega) i hi M
      rw [es] at et
      simp only [preN, hR] at et
      have g0 : getI (rowV (i :: r)) (.int 0) M = some (natV i) := getI_t0 _ _ _
      have sl : slcK (rowV (i :: r)) (some 1) none M = .val (rowV r) M := by show slcK (.tup (natV i :: r.map natV)) (some 1) none M = _; rw [slcK_tup, cutL_1]; rfl
      simp [-List.map_map, m_outcome, setAll, h0, h1, h2, h3, isAsk, isDo, isLate, g0, sl, stepE_callT, T.k22, T.k29, ek, et]
      simp [brkN, hR]
  | open_ =>
    have eo := cp_open_asks T.toPkS (d + 3) s.asks (by omega) M
    have ol := openI_len s.asks
    have bt := bTuple_lst false ((openI s.asks).map natV) M (by rw [List.length_map]; omega)
    have inn := in_barred L M
    have e1 : (PV.tup ((openI s.asks).map natV)) = rowV (openI s.asks) := rfl
    rw [es] at et
    simp only [preN] at et
    cases hb : L.barred with
    | true =>
      rw [hb] at inn et
      simp only [if_true] at et
      simp [-List.map_map, m_outcome, setAll, h0, h1, h2, h3, h5, isAsk, isDo, isLate, isOpen, stepE_callT, T.k22, T.k16, eo, bt, inn, att_marks T.cl, brkN, e1]
      change callP _ 22 [.tup [_, _, _, .tup [], _, _]] _ = _ at et
      simp [-List.map_map, et]
    | false =>
      rw [hb] at inn et
      simp only [Bool.false_eq_true, if_false] at et
      simp [-List.map_map, m_outcome, setAll, h0, h1, h2, h3, h5, isAsk, isDo, isLate, isOpen, stepE_callT, T.k22, T.k16, eo, bt, inn, att_marks T.cl, brkN, e1, et]
  | piece =>
    cases hU : s.under with
    | nil => unfold canDo at hc; rw [hU] at hc; cases hc
    | cons q r =>
      obtain ⟨i, n⟩ := q
      have hi := iu (i, n) (by rw [hU]; exact List.mem_cons_self)
      have er := cp_read T (d + 1) L s (by omega) i n r hU (by rw [hU] at hu; simp at hu; omega) hi M
      have ep : preN L s .piece = (readN L s i n r).1 := by unfold preN; rw [hU]
      rw [ep] at et
      rw [← hσ] at er
      simp [-List.map_map, m_outcome, setAll, h0, h1, h2, h3, h4, h5, isAsk, isDo, isLate, isOpen, isPiece, stepE_callT, T.k22, T.k31, er, et, brkN, hU]
  | cut m =>
    have g1 : getI (ddV (.cut m)) (.int 1) M = some (.int m) := getI_t1 _ _ _ _
    have er := cp_cut T d L s (by omega) ih m M
    have ep : preN L s (.cut m) = (cutN L s m).1 := rfl
    rw [ep] at et
    rw [← hσ] at er
    simp [-List.map_map, m_outcome, setAll, h0, h1, h2, h3, h4, h5, isAsk, isDo, isLate, isOpen, isPiece, stepE_callT, T.k22, T.k33, g1, er, et, brkN]
end
end Mp.Pk
end

section
set_option Elab.async false
set_option linter.all false
set_option maxRecDepth 100000
set_option maxHeartbeats 4000000
/-! Pk14: a deed on a state. -/
namespace Mp.Pk
open PySem Mp

theorem brk_pure (L : Ln) (s : St) (x : Dd) (k : Nat) : pureB (k + 3) (.lst (brkN L s x)) = true := by
  have tb : ∀ i, pureB (k + 3) (.lst (takenB L s.asks i)) = true := by
    intro i
    unfold takenB
    split
    · rfl
    · by_cases h1 : 0 < (aAt s.asks i).n <;> cases h2 : (aAt s.asks i).l <;> by_cases h3 : (aAt s.asks i).w = .lost <;> simp [h1, h3]
  cases x with
  | ask a => rfl
  | do_ =>
    unfold brkN
    dsimp only
    split
    · rfl
    · exact tb _
  | late =>
    unfold brkN
    dsimp only
    split
    · rfl
    · exact tb _
  | open_ => rfl
  | piece =>
    unfold brkN
    dsimp only
    split
    · rfl
    · rename_i i n r _
      have : (readN L s i n r).2 = [] ∨ (readN L s i n r).2 = ownL := by
        unfold readN
        split
        · exact .inl rfl
        · split
          · exact .inl rfl
          · split
            · exact .inl rfl
            · exact .inr rfl
      rcases this with h | h <;> rw [h] <;> rfl
  | cut m =>
    unfold brkN cutN
    dsimp only
    split <;> rfl
/-- a state and a deed on which the walk through `outcome` is known -/
structure Go (L : Ln) (s : St) (x : Dd) : Prop where
  g : GoodS L s
  dx : ddOk L x
  c : canDo L s x = true
  z : s.asks.length + (s.row.length + (s.elder.length + s.under.length)) < 60
theorem Go.small {L : Ln} {s : St} {x : Dd} (h : Go L s x) : Small (stV s) := by
  intro o a r e u hh e1
  have z := h.z
  unfold stV at e1
  injection e1 with e1
  injection e1 with e0 e1
  injection e1 with e2 e1
  injection e1 with e3 e1
  injection e1 with e4 e1
  injection e1 with e5 e1
  subst e2 e3 e4 e5
  show (s.asks.map askV).length + ((s.row.map natV).length + ((s.elder.map natV).length + (s.under.map ansV).length)) < 62
  simp only [List.length_map]
  omega
section
variable {P : MP} (T : PkF P)
include T
theorem cp_outcome (d : Nat) (L : Ln) (s : St) (x : Dd) (G : Go L s x) (hf : Fit (preN L s x)) (M : MH) :
    callP (evC P 30 (d + 5)) 34 [lnV L, stV s, ddV x] M = .val (.tup [stV (tidyN (preN L s x)), .lst (brkN L s x)]) M := by
  have z := G.z
  have p := G.g.parts
  refine callP_ok (by simp only [List.all_cons, List.all_nil, ln_pure L 47, st_pure s 45, dd_pure x 48, Bool.and_self]) (ev_outcome T d L s x (by omega) (by omega) (by omega) (by omega) p.pr.2 p.pe.2 (fun q hq => p.pu.1.2 q.1 (List.mem_map_of_mem hq)) (fun i hi => (p.ph i hi).2) G.c hf []) ?_
  simp only [pure_tup, List.all_cons, List.all_nil, st_pure _ 44, brk_pure L s x 46, Bool.and_self]
theorem ev_check_deed (d : Nat) (L : Ln) (hL : L.Ok) (s : St) (x : Dd) (G : Go L s x) (M : MH) : evC P 30 (d + 7) 41 [lnV L, stV s, ddV x] M = .val .non M := by
  rw [evC_succ P 30 (d + 6) 41 _ M T.f41 rfl]
  have e1 := cp_check_state T.toPkT d L hL s G.g G.small M
  have e2 := cp_is_deed T.toPkD (d + 4) L x G.dx M
  have e3 := cp_can_do T.toPkD (d + 3) L s (by have := G.z; omega) x M
  rw [G.c] at e3
  simp [m_check_deed, stepE_callT, T.k21, T.k26, T.k27, e1, e2, e3]
theorem cp_check_deed (d : Nat) (L : Ln) (hL : L.Ok) (s : St) (x : Dd) (G : Go L s x) (M : MH) : callP (evC P 30 (d + 7)) 41 [lnV L, stV s, ddV x] M = .val .non M :=
  callP_ok (by simp only [List.all_cons, List.all_nil, ln_pure L 47, st_pure s 45, dd_pure x 48, Bool.and_self]) (ev_check_deed T d L hL s x G []) rfl
theorem ev_after (d : Nat) (L : Ln) (hL : L.Ok) (s : St) (x : Dd) (G : Go L s x) (hf : Fit (preN L s x)) (M : MH) : evC P 30 (d + 8) 42 [lnV L, stV s, ddV x] M = .val (stV (tidyN (preN L s x))) M := by
  rw [evC_succ P 30 (d + 7) 42 _ M T.f42 rfl]
  have e1 := cp_check_deed T d L hL s x G M
  have e2 := cp_outcome T (d + 2) L s x G hf M
  simp [m_after, stepE_callT, T.k41, T.k34, e1, e2]
theorem cp_after (d : Nat) (L : Ln) (hL : L.Ok) (s : St) (x : Dd) (G : Go L s x) (hf : Fit (preN L s x)) (M : MH) : callP (evC P 30 (d + 8)) 42 [lnV L, stV s, ddV x] M = .val (stV (tidyN (preN L s x))) M :=
  callP_ok (by simp only [List.all_cons, List.all_nil, ln_pure L 47, st_pure s 45, dd_pure x 48, Bool.and_self]) (ev_after T d L hL s x G hf []) (st_pure _ 45)
end
end Mp.Pk
end

section
set_option Elab.async false
set_option linter.all false
set_option maxRecDepth 100000
set_option maxHeartbeats 4000000
/-! Pk15: a tidied state is a good one. -/
namespace Mp.Pk
open PySem Mp

theorem asc_sub {ns : List Nat} {n : Nat} (h : ns.Pairwise (· < ·)) (hn : ∀ i, i ∈ ns → i < n) : ns.Sublist (List.range n) := by
  have : ns = (List.range n).filter fun i => decide (i ∈ ns) := by
    refine asc_ext h (List.pairwise_lt_range.filter _) fun x => ?_
    rw [List.mem_filter, List.mem_range]
    exact ⟨fun hx => ⟨hn x hx, by simpa using hx⟩, fun hx => by simpa using hx.2⟩
  rw [this]
  exact List.filter_sublist
theorem asc_len {ns : List Nat} {n : Nat} (h : Row ns n) : ns.length ≤ n := by
  have := (asc_sub h.1 h.2).length_le
  rwa [List.length_range] at this
theorem openOf_count (asks : List Ask) (a : Int) : (openOf asks a).length = (List.range asks.length).countP fun i => decide ((aAt asks i).w = .op ∧ (aAt asks i).a = a) := by
  have e : openOf asks a = (List.range asks.length).filter fun i => decide ((aAt asks i).w = .op ∧ (aAt asks i).a = a) := by
    refine asc_ext ((openI_asc asks).filter _) (List.pairwise_lt_range.filter _) fun x => ?_
    unfold openOf
    rw [List.mem_filter, List.mem_filter, mem_openI, List.mem_range]
    simp [and_assoc]
  rw [e, ← List.countP_eq_length_filter]
/-- what a deed leaves before it is tidied -/
structure PreS (L : Ln) (s : St) : Prop where
  asks : ∀ q, q ∈ s.asks → askOk L q
  parts : PartsN L s.asks.length s.row s.elder s.under s.half
  closed : s.o = false → s.row = [] ∧ s.under = [] ∧ (L.fresh = true → s.half = none)
  ahead : ∀ a : Nat, (a : Int) < L.askers → ((openOf s.asks a).length : Int) ≤ L.ahead
theorem mem_left {s : St} {i : Nat} : i ∈ leftN s ↔ i ∈ openI s.asks ∨ i ∈ s.row ∨ i ∈ s.elder ∨ (∃ n, (i, n) ∈ s.under) ∨ s.half = some i := by
  unfold leftN
  rw [mem_sortN]
  cases hh : s.half with
  | none => simp [foundN]
  | some j =>
    simp only [foundN, List.mem_append, List.mem_map, List.mem_singleton, Option.some.injEq]
    constructor
    · rintro ((h | h | h | ⟨q, h, rfl⟩) | rfl)
      · exact .inl h
      · exact .inr (.inl h)
      · exact .inr (.inr (.inl h))
      · exact .inr (.inr (.inr (.inl ⟨q.2, h⟩)))
      · exact .inr (.inr (.inr (.inr rfl)))
    · rintro (h | h | h | ⟨n, h⟩ | h)
      · exact .inl (.inl h)
      · exact .inl (.inr (.inl h))
      · exact .inl (.inr (.inr (.inl h)))
      · exact .inl (.inr (.inr (.inr ⟨_, h, rfl⟩)))
      · exact .inr h.symm
theorem PreS.range {L : Ln} {s : St} (h : PreS L s) {i : Nat} (hi : i ∈ leftN s) : i < s.asks.length := by
  have p := h.parts
  rcases mem_left.mp hi with h | h | h | ⟨n, h⟩ | h
  · exact (mem_openI.mp h).1
  · exact p.pr.2 i h
  · exact p.pe.2 i h
  · exact p.pu.1.2 i (List.mem_map.mpr ⟨(i, n), h, rfl⟩)
  · exact (p.ph i h).2
theorem idx_lt {l : List Nat} (h : l.Pairwise (· < ·)) : ∀ {a b : Nat}, a ∈ l → b ∈ l → a < b → l.idxOf a < l.idxOf b := by
  induction l with
  | nil => intro a b ha; cases ha
  | cons c r ih =>
    obtain ⟨h1, h2⟩ := List.pairwise_cons.mp h
    intro a b ha hb hab
    rw [List.idxOf_cons, List.idxOf_cons]
    have hcb : (c == b) = false := by
      rcases List.mem_cons.mp ha with rfl | ha
      · simpa using (by omega : ¬ a = b)
      · have := h1 a ha
        simpa using (by omega : ¬ c = b)
    rw [hcb]
    have hbr : b ∈ r := by
      rcases List.mem_cons.mp hb with rfl | hb
      · simp at hcb
      · exact hb
    by_cases e : c = a
    · subst e
      simp
    · have e' : (c == a) = false := by simpa using e
      rw [e']
      have har : a ∈ r := by
        rcases List.mem_cons.mp ha with rfl | ha
        · exact absurd rfl e
        · exact ha
      simp only [cond_false, Bool.false_eq_true, if_false]
      have := ih h2 har hbr hab
      omega
theorem row_idx {l ns : List Nat} (hl : l.Pairwise (· < ·)) (h : ns.Pairwise (· < ·)) (hi : ∀ i, i ∈ ns → i ∈ l) : Row (ns.map fun i => l.idxOf i) l.length := by
  constructor
  · rw [List.pairwise_map]
    exact h.imp_of_mem fun {a b} ha hb hab => idx_lt hl (hi a ha) (hi b hb) hab
  · intro j hj
    obtain ⟨i, h1, rfl⟩ := List.mem_map.mp hj
    exact List.idxOf_lt_length_of_mem (hi i h1)
theorem tidy_at {l : List Nat} {asks : List Ask} {j : Nat} (hj : j < l.length) : aAt (l.map (aAt asks)) j = aAt asks (l[j]) := by
  refine aAt_of ?_
  rw [List.getElem?_map, List.getElem?_eq_getElem hj]
  rfl
theorem tidy_count {l : List Nat} {asks : List Ask} (hl : l.Pairwise (· < ·)) (hn : ∀ i, i ∈ l → i < asks.length) (a : Int) : (openOf (l.map (aAt asks)) a).length ≤ (openOf asks a).length := by
  rw [openOf_count, openOf_count]
  refine Nat.le_trans (Nat.le_of_eq ?_) ((asc_sub hl hn).countP_le (p := fun i => decide ((aAt asks i).w = .op ∧ (aAt asks i).a = a)))
  have e : l = (List.range l.length).map fun j => l.getD j 0 := by
    refine List.ext_getElem (by simp) fun j h1 h2 => ?_
    rw [List.getElem_map, List.getElem_range, List.getD_eq_getElem?_getD, List.getElem?_eq_getElem h1]
    rfl
  conv => rhs; rw [e, List.countP_map]
  rw [List.length_map]
  refine List.countP_congr fun j hj => ?_
  have hj' := List.mem_range.mp hj
  show decide _ = true ↔ decide _ = true
  have e2 : l.getD j 0 = l[j] := by rw [List.getD_eq_getElem?_getD, List.getElem?_eq_getElem hj']; rfl
  dsimp only
  rw [tidy_at hj', decide_eq_true_iff, decide_eq_true_iff, e2]
theorem tidy_good {L : Ln} {s : St} (h : PreS L s) : GoodS L (tidyN s) := by
  have p := h.parts
  have ra := left_asc s
  have rr := fun i (hi : i ∈ leftN s) => h.range hi
  have iR : ∀ i, i ∈ s.row → i ∈ leftN s := fun i hi => mem_left.mpr (.inr (.inl hi))
  have iE : ∀ i, i ∈ s.elder → i ∈ leftN s := fun i hi => mem_left.mpr (.inr (.inr (.inl hi)))
  have iU : ∀ i, i ∈ s.under.map (·.1) → i ∈ leftN s := fun i hi => by
    obtain ⟨q, h1, rfl⟩ := List.mem_map.mp hi
    exact mem_left.mpr (.inr (.inr (.inr (.inl ⟨q.2, h1⟩))))
  have iH : ∀ i, s.half = some i → i ∈ leftN s := fun i hi => mem_left.mpr (.inr (.inr (.inr (.inr hi))))
  have hmem := fun (i : Nat) => @mem_left s i
  unfold tidyN
  generalize leftN s = l at ra rr iR iE iU iH hmem ⊢
  constructor
  · intro q hq
    obtain ⟨i, h1, rfl⟩ := List.mem_map.mp hq
    have hi := rr i h1
    refine h.asks _ ?_
    rw [aAt_of (List.getElem?_eq_getElem hi)]
    exact List.getElem_mem hi
  · dsimp only
    rw [List.length_map]
    constructor
    · exact row_idx ra p.pr.1 iR
    · exact row_idx ra p.pe.1 iE
    · refine ⟨?_, ?_, ?_⟩
      · have := row_idx ra p.pu.1.1 iU
        rw [List.map_map] at this ⊢
        exact this
      · intro q hq
        obtain ⟨q0, h1, rfl⟩ := List.mem_map.mp hq
        exact p.pu.2.1 q0 h1
      · intro q hq
        rw [← List.map_drop] at hq
        obtain ⟨q0, h1, rfl⟩ := List.mem_map.mp hq
        exact p.pu.2.2 q0 h1
    · intro a b ha hb
      rw [List.head?_map] at ha
      rw [List.getLast?_map] at hb
      cases h1 : s.row.head? with
      | none => rw [h1] at ha; cases ha
      | some a0 =>
        cases h2 : s.under.getLast? with
        | none => rw [h2] at hb; cases hb
        | some b0 =>
          rw [h1] at ha
          rw [h2] at hb
          cases ha
          cases hb
          exact idx_lt ra (iU _ (List.mem_map_of_mem (List.mem_of_getLast? h2))) (iR _ (List.mem_of_head? h1)) (p.pc a0 b0 h1 h2)
    · intro i hi
      cases hh : s.half with
      | none => rw [hh] at hi; cases hi
      | some j =>
        rw [hh] at hi
        cases hi
        exact ⟨(p.ph j hh).1, List.idxOf_lt_length_of_mem (iH j hh)⟩
  · intro ho
    obtain ⟨h1, h2, h3⟩ := h.closed ho
    refine ⟨?_, ?_, fun hf => ?_⟩
    · dsimp only; rw [h1]; rfl
    · dsimp only; rw [h2]; rfl
    · dsimp only; rw [h3 hf]; rfl
  · intro a ha
    have h1 := tidy_count ra rr (a : Int)
    have h2 := h.ahead a ha
    dsimp only
    omega
  · dsimp only
    rw [List.length_map]
    refine asc_ext (left_asc _) List.pairwise_lt_range fun x => ?_
    rw [mem_left, List.mem_range]
    constructor
    · rintro (hx | hx | hx | ⟨n, hx⟩ | hx)
      · have := (mem_openI.mp hx).1
        rwa [List.length_map] at this
      · exact (row_idx ra p.pr.1 iR).2 x hx
      · exact (row_idx ra p.pe.1 iE).2 x hx
      · obtain ⟨q, h1, h2⟩ := List.mem_map.mp hx
        injection h2 with h2 h3
        rw [← h2]
        exact List.idxOf_lt_length_of_mem (iU _ (List.mem_map_of_mem h1))
      · cases hh : s.half with
        | none => rw [hh] at hx; cases hx
        | some j =>
          rw [hh] at hx
          cases hx
          exact List.idxOf_lt_length_of_mem (iH j hh)
    · intro hx
      have hn : l.Nodup := ra.imp fun h => by omega
      have ei : l.idxOf (l[x]) = x := List.Nodup.idxOf_getElem hn x hx
      have hm : l[x] ∈ l := List.getElem_mem hx
      rcases (hmem _).mp hm with h1 | h1 | h1 | ⟨n, h1⟩ | h1
      · refine .inl (mem_openI.mpr ⟨by rw [List.length_map]; exact hx, ?_⟩)
        rw [tidy_at hx]
        exact (mem_openI.mp h1).2
      · exact .inr (.inl (List.mem_map.mpr ⟨_, h1, ei⟩))
      · exact .inr (.inr (.inl (List.mem_map.mpr ⟨_, h1, ei⟩)))
      · exact .inr (.inr (.inr (.inl ⟨n, List.mem_map.mpr ⟨_, h1, by dsimp only; rw [ei]⟩⟩)))
      · refine .inr (.inr (.inr (.inr ?_)))
        rw [h1]
        show some (l.idxOf l[x]) = some x
        rw [ei]
end Mp.Pk
end

section
set_option Elab.async false
set_option linter.all false
set_option maxRecDepth 100000
set_option maxHeartbeats 4000000
/-! Pk16: a deed leaves a state that is good once tidied. -/
namespace Mp.Pk
open PySem Mp

/-- asks of the same askers, of which none is opened -/
structure Wk (L : Ln) (b a : List Ask) : Prop where
  len : b.length = a.length
  ok : (∀ q, q ∈ a → askOk L q) → ∀ q, q ∈ b → askOk L q
  at_ : ∀ j, j < a.length → (aAt b j).a = (aAt a j).a ∧ ((aAt b j).w = .op → (aAt a j).w = .op)
theorem Wk.refl (L : Ln) (a : List Ask) : Wk L a a := ⟨rfl, fun h => h, fun j _ => ⟨rfl, fun h => h⟩⟩
theorem Wk.trans {L : Ln} {c b a : List Ask} (h : Wk L c b) (g : Wk L b a) : Wk L c a :=
  ⟨h.len.trans g.len, fun q => h.ok (g.ok q), fun j hj => by
    have h1 := h.at_ j (by rw [g.len]; exact hj)
    have h2 := g.at_ j hj
    exact ⟨h1.1.trans h2.1, fun q => h2.2 (h1.2 q)⟩⟩
theorem aAt_lt {asks : List Ask} {i : Nat} (h : i < asks.length) : aAt asks i = asks[i] := aAt_of (List.getElem?_eq_getElem h)
theorem aAt_mem {asks : List Ask} {i : Nat} (h : i < asks.length) : aAt asks i ∈ asks := by rw [aAt_lt h]; exact List.getElem_mem h
theorem Wk.setW (L : Ln) (a : List Ask) (i : Nat) (hi : i < a.length) (w : Wd) (hw : w ≠ .op) : Wk L (setW a i w) a := by
  refine ⟨setW_len a i w, fun h q hq => ?_, fun j hj => ?_⟩
  · unfold Pk.setW at hq
    rcases List.mem_or_eq_of_mem_set hq with hq | rfl
    · exact h q hq
    · have hq := h _ (aAt_mem hi)
      exact ⟨hq.1, hq.2⟩
  · have hg : (Pk.setW a i w)[j]? = some (if i = j then { aAt a i with w := w } else a[j]) := by
      unfold Pk.setW
      rw [List.getElem?_set]
      split
      · rename_i e
        subst e
        first | rfl | rw [if_pos hj]
      · exact List.getElem?_eq_getElem hj
    rw [aAt_of hg, aAt_lt hj]
    split
    · rename_i e
      subst e
      rw [aAt_lt hj]
      exact ⟨rfl, fun h => absurd h hw⟩
    · exact ⟨rfl, fun h => h⟩
theorem Wk.mark (L : Ln) (ns : List Nat) : ∀ (a : List Ask), (∀ i, i ∈ ns → i < a.length) → Wk L (markL a ns) a := by
  induction ns with
  | nil => intro a _; exact Wk.refl L a
  | cons i r ih =>
    intro a h
    have hi := h i List.mem_cons_self
    have h1 : Wk L (markL (Pk.setW a i .lost) r) (Pk.setW a i .lost) := ih _ fun j hj => by rw [setW_len]; exact h j (List.mem_cons_of_mem _ hj)
    exact h1.trans (Wk.setW L a i hi .lost (by intro h; cases h))
theorem Wk.taken (L : Ln) (a : List Ask) (i : Nat) (hi : i < a.length) : Wk L (takenA L a i) a := by
  refine ⟨takenA_len L a i, fun h q hq => ?_, fun j hj => ?_⟩
  · unfold takenA at hq
    split at hq
    · exact h q hq
    · obtain ⟨z, hz, rfl⟩ := List.mem_map.mp hq
      have hz1 : z.1 ∈ a := by
        have := zipIdx_mem hz
        exact List.mem_of_getElem? this
      have ha := h _ (aAt_mem hi)
      dsimp only
      split
      · refine ⟨ha.1, ?_⟩
        have := ha.2
        dsimp only
        split <;> omega
      · have hq := h _ hz1
        split
        · exact ⟨hq.1, hq.2⟩
        · exact hq
  · have hj2 : j < (takenA L a i).length := by rw [takenA_len]; exact hj
    have e : (aAt (takenA L a i) j).a = (aAt a j).a ∧ (aAt (takenA L a i) j).w = (aAt a j).w := by
      unfold takenA
      split
      · exact ⟨rfl, rfl⟩
      · have hg : (a.zipIdx.map fun q : Ask × Nat => if q.2 = i then { aAt a i with n := if (aAt a i).n + 1 < 2 then (aAt a i).n + 1 else 2 } else if q.2 < i ∧ q.1.a = (aAt a i).a then { q.1 with l := true } else q.1)[j]? = some (if j = i then { aAt a i with n := if (aAt a i).n + 1 < 2 then (aAt a i).n + 1 else 2 } else if j < i ∧ (a[j]).a = (aAt a i).a then { a[j] with l := true } else a[j]) := by
          rw [List.getElem?_map, List.getElem?_zipIdx, List.getElem?_eq_getElem hj]
          simp
        rw [aAt_of hg, aAt_lt hj]
        split
        · rename_i e
          subst e
          rw [aAt_lt hj]
          exact ⟨rfl, rfl⟩
        · split
          · exact ⟨rfl, rfl⟩
          · exact ⟨rfl, rfl⟩
    exact ⟨e.1, fun h => by rw [← e.2]; exact h⟩
theorem Wk.count {L : Ln} {b a : List Ask} (h : Wk L b a) (x : Int) : (openOf b x).length ≤ (openOf a x).length := by
  rw [openOf_count, openOf_count, h.len]
  refine List.countP_mono_left fun j hj hp => ?_
  have := h.at_ j (List.mem_range.mp hj)
  rw [decide_eq_true_iff] at hp ⊢
  exact ⟨this.2 hp.1, by rw [← this.1]; exact hp.2⟩
theorem snoc_count (a : List Ask) (q : Ask) (x : Int) : (openOf (a ++ [q]) x).length ≤ (openOf a x).length + (if q.a = x then 1 else 0) := by
  rw [openOf_count, openOf_count, List.length_append, List.length_singleton, List.range_succ, List.countP_append]
  have e1 : (List.range a.length).countP (fun i => decide ((aAt (a ++ [q]) i).w = .op ∧ (aAt (a ++ [q]) i).a = x)) = (List.range a.length).countP fun i => decide ((aAt a i).w = .op ∧ (aAt a i).a = x) := by
    refine List.countP_congr fun j hj => ?_
    have hj' := List.mem_range.mp hj
    have e : aAt (a ++ [q]) j = aAt a j := by
      rw [aAt_lt hj', aAt_lt (by rw [List.length_append]; omega), List.getElem_append_left hj']
    rw [decide_eq_true_iff, decide_eq_true_iff, e]
  rw [e1]
  have e2 : aAt (a ++ [q]) a.length = q := aAt_of (by simp)
  rw [List.countP_singleton, e2]
  by_cases h : q.a = x
  · rw [if_pos h]; split <;> omega
  · rw [if_neg h, if_neg (by rw [decide_eq_true_iff]; exact fun z => h z.2)]
    exact Nat.le_refl _
theorem readN_asks (L : Ln) (s : St) (i : Nat) (n : Int) (r : List (Nat × Int)) (h : i < s.asks.length) : Wk L (readN L s i n r).1.asks s.asks := by
  unfold readN
  split
  · exact Wk.refl _ _
  · split
    · exact Wk.refl _ _
    · rename_i q hq
      exact Wk.setW L _ _ (await_lt hq h).1 _ (by intro h; cases h)
theorem readN_rest (L : Ln) (s : St) (i : Nat) (n : Int) (r : List (Nat × Int)) : (readN L s i n r).1.o = s.o ∧ (readN L s i n r).1.row = s.row ∧ (readN L s i n r).1.elder = s.elder ∧ (readN L s i n r).1.under = unN i n r ∧ (∀ j, (readN L s i n r).1.half = some j → L.pieces = 2 ∧ j = i) := by
  unfold readN
  split
  · rename_i h
    refine ⟨rfl, rfl, rfl, rfl, fun j hj => ?_⟩
    rw [Bool.and_eq_true, decide_eq_true_iff] at h
    cases hj
    exact ⟨h.1, rfl⟩
  · split
    · exact ⟨rfl, rfl, rfl, rfl, fun j hj => by cases hj⟩
    · exact ⟨rfl, rfl, rfl, rfl, fun j hj => by cases hj⟩
theorem row_tail {i : Nat} {r : List Nat} {n : Nat} (h : Row (i :: r) n) : Row r n := ⟨(List.pairwise_cons.mp h.1).2, fun j hj => h.2 j (List.mem_cons_of_mem _ hj)⟩
theorem mem_le_last {us : List Nat} (h : us.Pairwise (· < ·)) {b : Nat} (hb : us.getLast? = some b) : ∀ i, i ∈ us → i ≤ b := by
  intro i hi
  obtain ⟨ys, rfl⟩ := List.getLast?_eq_some_iff.mp hb
  rcases List.mem_append.mp hi with hi | hi
  · exact Nat.le_of_lt ((List.pairwise_append.mp h).2.2 i hi b (by simp))
  · rw [List.mem_singleton] at hi
    omega
theorem pre_good {L : Ln} (hL : L.Ok) {s : St} {x : Dd} (g : GoodS L s) (dx : ddOk L x) (c : canDo L s x = true) : PreS L (preN L s x) := by
  have p := g.parts
  have hp : 1 ≤ L.pieces := by rcases hL.p with h | h <;> omega
  cases x with
  | ask a =>
    have ha : (a : Int) < L.askers := dx
    unfold canDo at c
    rw [Bool.and_eq_true, decide_eq_true_iff] at c
    refine ⟨?_, ?_, ?_, ?_⟩
    · intro q hq
      rcases List.mem_append.mp hq with hq | hq
      · exact g.asks q hq
      · rw [List.mem_singleton] at hq
        subst hq
        refine ⟨⟨?_, ?_⟩, ?_, ?_⟩ <;> dsimp only <;> omega
    · show PartsN L (s.asks ++ [_]).length (s.row ++ [s.asks.length]) s.elder s.under s.half
      rw [List.length_append, List.length_singleton]
      refine ⟨⟨?_, ?_⟩, ⟨p.pe.1, fun i hi => Nat.lt_succ_of_lt (p.pe.2 i hi)⟩, ⟨⟨p.pu.1.1, fun i hi => Nat.lt_succ_of_lt (p.pu.1.2 i hi)⟩, p.pu.2⟩, ?_, fun h hh => ⟨(p.ph h hh).1, Nat.lt_succ_of_lt (p.ph h hh).2⟩⟩
      · rw [List.pairwise_append]
        exact ⟨p.pr.1, List.pairwise_singleton _ _, fun i hi j hj => by rw [List.mem_singleton] at hj; subst hj; exact p.pr.2 i hi⟩
      · intro i hi
        rcases List.mem_append.mp hi with hi | hi
        · exact Nat.lt_succ_of_lt (p.pr.2 i hi)
        · rw [List.mem_singleton] at hi; omega
      · intro u v hu hv
        cases hR : s.row with
        | nil =>
          rw [hR] at hu
          cases hu
          exact p.pu.1.2 v.1 (List.mem_map_of_mem (List.mem_of_getLast? hv))
        | cons i r =>
          rw [hR] at hu
          exact p.pc u v (by rw [hR]; exact hu) hv
    · intro ho
      exact absurd (c.1.symm.trans ho) (by decide)
    · intro b hb
      have h1 := snoc_count s.asks ⟨a, .op, 0, false⟩ (b : Int)
      have h2 := g.ahead b hb
      show ((openOf (s.asks ++ [⟨a, .op, 0, false⟩]) b).length : Int) ≤ _
      by_cases e : (a : Int) = b
      · rw [if_pos e] at h1
        have c2 := c.2
        rw [e] at c2
        omega
      · rw [if_neg e] at h1
        omega
  | do_ =>
    cases hR : s.row with
    | nil => unfold canDo at c; rw [hR] at c; cases c
    | cons i r =>
      have ep : preN L s .do_ = ⟨s.o, takenA L s.asks i, r, s.elder, s.under ++ [(i, L.pieces)], s.half⟩ := by unfold preN; rw [hR]
      rw [ep]
      have pr := p.pr
      rw [hR] at pr
      have hi := pr.2 i List.mem_cons_self
      have w := Wk.taken L s.asks i hi
      have hlast : ∀ b, b ∈ s.under → b.1 < i := by
        intro b hb
        rcases snoc s.under with h | ⟨us, z, h⟩
        · rw [h] at hb; cases hb
        · have hz : s.under.getLast? = some z := by rw [h, List.getLast?_append]; rfl
          have h1 := p.pc i z (by rw [hR]; rfl) hz
          have h2 := mem_le_last p.pu.1.1 (b := z.1) (by rw [List.getLast?_map, hz]; rfl) b.1 (List.mem_map_of_mem hb)
          omega
      refine ⟨w.ok g.asks, ?_, ?_, fun b hb => ?_⟩
      · show PartsN L (takenA L s.asks i).length r s.elder (s.under ++ [(i, L.pieces)]) s.half
        rw [w.len]
        refine ⟨row_tail pr, p.pe, ⟨⟨?_, ?_⟩, ?_, ?_⟩, ?_, p.ph⟩
        · rw [List.map_append, List.pairwise_append]
          refine ⟨p.pu.1.1, List.pairwise_singleton _ _, fun u hu v hv => ?_⟩
          obtain ⟨b, hb, rfl⟩ := List.mem_map.mp hu
          simp only [List.map_cons, List.map_nil, List.mem_singleton] at hv
          subst hv
          exact hlast b hb
        · intro u hu
          rw [List.map_append] at hu
          rcases List.mem_append.mp hu with hu | hu
          · exact p.pu.1.2 u hu
          · simp only [List.map_cons, List.map_nil, List.mem_singleton] at hu
            subst hu
            exact hi
        · intro q hq
          rcases List.mem_append.mp hq with hq | hq
          · exact p.pu.2.1 q hq
          · rw [List.mem_singleton] at hq
            subst hq
            exact ⟨hp, Int.le_refl _⟩
        · intro q hq
          cases hU : s.under with
          | nil => rw [hU] at hq; cases hq
          | cons u us =>
            rw [hU] at hq
            change q ∈ us ++ [(i, L.pieces)] at hq
            rcases List.mem_append.mp hq with hq | hq
            · exact p.pu.2.2 q (by rw [hU]; exact hq)
            · rw [List.mem_singleton] at hq
              subst hq
              rfl
        · intro u v hu hv
          rw [List.getLast?_append] at hv
          cases hv
          exact (List.pairwise_cons.mp pr.1).1 u (List.mem_of_head? hu)
      · intro ho
        have := (g.closed ho).1
        rw [hR] at this
        cases this
      · have := w.count (b : Int)
        have := g.ahead b hb
        dsimp only
        omega
  | late =>
    cases hR : s.elder with
    | nil => unfold canDo at c; rw [hR] at c; cases c
    | cons i r =>
      have ep : preN L s .late = ⟨s.o, takenA L s.asks i, s.row, r, s.under, s.half⟩ := by unfold preN; rw [hR]
      rw [ep]
      have pe := p.pe
      rw [hR] at pe
      have hi := pe.2 i List.mem_cons_self
      have w := Wk.taken L s.asks i hi
      refine ⟨w.ok g.asks, ?_, g.closed, fun b hb => ?_⟩
      · show PartsN L (takenA L s.asks i).length s.row r s.under s.half
        rw [w.len]
        exact ⟨p.pr, row_tail pe, p.pu, p.pc, p.ph⟩
      · have := w.count (b : Int)
        have := g.ahead b hb
        dsimp only
        omega
  | open_ =>
    have ho : s.o = false := by
      unfold canDo at c
      simpa using c
    obtain ⟨c1, c2, c3⟩ := g.closed ho
    refine ⟨g.asks, ?_, fun h => (by cases h), g.ahead⟩
    show PartsN L s.asks.length (openI s.asks) (if L.barred then [] else s.elder) s.under s.half
    refine ⟨⟨openI_asc _, fun i hi => (mem_openI.mp hi).1⟩, ?_, p.pu, ?_, p.ph⟩
    · split
      · exact ⟨List.Pairwise.nil, fun i hi => by cases hi⟩
      · exact p.pe
    · intro u v hu hv
      rw [c2] at hv
      cases hv
  | piece =>
    cases hU : s.under with
    | nil => unfold canDo at c; rw [hU] at c; cases c
    | cons q r =>
      obtain ⟨i, n⟩ := q
      have ep : preN L s .piece = (readN L s i n r).1 := by unfold preN; rw [hU]
      rw [ep]
      have pu := p.pu
      rw [hU] at pu
      have hi : i < s.asks.length := pu.1.2 i (by simp)
      have w := readN_asks L s i n r hi
      obtain ⟨e1, e2, e3, e4, e5⟩ := readN_rest L s i n r
      have pu1 : Row (i :: r.map (·.1)) s.asks.length := pu.1
      refine ⟨w.ok g.asks, ?_, ?_, fun b hb => ?_⟩
      · rw [w.len, e2, e3, e4]
        have n1 := pu.2.1 (i, n) List.mem_cons_self
        dsimp only at n1
        refine ⟨p.pr, p.pe, ?_, ?_, fun h hh => ?_⟩
        · unfold unN
          split
          · refine ⟨row_tail pu1, fun q hq => pu.2.1 q (List.mem_cons_of_mem _ hq), fun q hq => pu.2.2 q (List.mem_of_mem_drop hq)⟩
          · refine ⟨pu1, fun q hq => ?_, fun q hq => pu.2.2 q hq⟩
            rcases List.mem_cons.mp hq with rfl | hq
            · dsimp only; omega
            · exact pu.2.1 q (List.mem_cons_of_mem _ hq)
        · intro u v hu hv
          have key : ∀ z : Nat × Int, s.under.getLast? = some z → z.1 < u := fun z hz => p.pc u z hu hz
          rw [hU] at key
          unfold unN at hv
          rcases snoc r with h | ⟨us, z, h⟩
          · subst h
            split at hv
            · cases hv
            · cases hv
              exact key (i, n) rfl
          · have hz : ((i, n) :: r).getLast? = some z := by rw [h, ← List.cons_append, List.getLast?_append]; rfl
            have hv2 : v = z := by
              split at hv
              · rw [h, List.getLast?_append] at hv
                cases hv
                rfl
              · rw [h, ← List.cons_append, List.getLast?_append] at hv
                cases hv
                rfl
            subst hv2
            exact key v hz
        · obtain ⟨h1, rfl⟩ := e5 h hh
          exact ⟨h1, hi⟩
      · intro ho
        rw [e1] at ho
        have := (g.closed ho).2.1
        rw [hU] at this
        cases this
      · have := w.count (b : Int)
        have := g.ahead b hb
        omega
  | cut m =>
    have hh : ∀ i, s.half = some i → i < s.asks.length := fun i hi => (p.ph i hi).2
    have w := Wk.mark L (lostBy L s.asks s.half) s.asks fun i hi => lostBy_lt hh hi
    show PreS L ⟨false, markL s.asks (lostBy L s.asks s.half), [], s.row.take m, [], if L.fresh then none else s.half⟩
    refine ⟨w.ok g.asks, ?_, fun _ => ⟨rfl, rfl, fun hf => by dsimp only; rw [hf]; rfl⟩, fun b hb => ?_⟩
    · dsimp only
      rw [w.len]
      refine ⟨⟨List.Pairwise.nil, fun i hi => by cases hi⟩, ⟨p.pr.1.sublist (List.take_sublist _ _), fun i hi => p.pr.2 i (List.mem_of_mem_take hi)⟩, ⟨⟨List.Pairwise.nil, fun i hi => by cases hi⟩, fun q hq => (by cases hq), fun q hq => (by cases hq)⟩, fun u v hu => (by cases hu), fun i hi => ?_⟩
      split at hi
      · cases hi
      · exact p.ph i hi
    · have := w.count (b : Int)
      have := g.ahead b hb
      dsimp only
      omega
theorem pre_len {L : Ln} {s : St} {x : Dd} (g : GoodS L s) : (preN L s x).asks.length ≤ s.asks.length + 1 := by
  have p := g.parts
  cases x with
  | ask a => show (s.asks ++ [_]).length ≤ _; rw [List.length_append]; exact Nat.le_refl _
  | do_ =>
    unfold preN
    dsimp only
    split
    · exact Nat.le_succ _
    · show (takenA L s.asks _).length ≤ _; rw [takenA_len]; exact Nat.le_succ _
  | late =>
    unfold preN
    dsimp only
    split
    · exact Nat.le_succ _
    · show (takenA L s.asks _).length ≤ _; rw [takenA_len]; exact Nat.le_succ _
  | open_ => exact Nat.le_succ _
  | piece =>
    cases hU : s.under with
    | nil => unfold preN; rw [hU]; exact Nat.le_succ _
    | cons q r =>
      obtain ⟨i, n⟩ := q
      have ep : preN L s .piece = (readN L s i n r).1 := by unfold preN; rw [hU]
      have hi : i < s.asks.length := p.pu.1.2 i (by rw [hU]; simp)
      rw [ep, (readN_asks L s i n r hi).len]
      exact Nat.le_succ _
  | cut m =>
    show (markL s.asks _).length ≤ _
    rw [markL_len]
    exact Nat.le_succ _
theorem under_len {p : Int} {us : List (Nat × Int)} {n : Nat} (h : Under p us n) : us.length ≤ n := by
  have := asc_len h.1
  rwa [List.length_map] at this
/-- a state is no larger than its asks allow -/
theorem GoodS.size {L : Ln} {s : St} (g : GoodS L s) : s.row.length ≤ s.asks.length ∧ s.elder.length ≤ s.asks.length ∧ s.under.length ≤ s.asks.length := ⟨asc_len g.parts.pr, asc_len g.parts.pe, under_len g.parts.pu⟩
theorem PreS.fit {L : Ln} {s : St} (h : PreS L s) (z : s.asks.length ≤ 15) : Fit s := by
  refine ⟨?_, by omega, fun i hi => h.range hi⟩
  have h1 := asc_len h.parts.pr
  have h2 := asc_len h.parts.pe
  have h3 := under_len h.parts.pu
  have h4 := openI_len s.asks
  unfold foundN
  simp only [List.length_append, List.length_map]
  omega
theorem tidy_len {L : Ln} {s : St} (h : PreS L s) : (tidyN s).asks.length ≤ s.asks.length := by
  unfold tidyN
  dsimp only
  rw [List.length_map]
  exact asc_len ⟨left_asc s, fun i hi => h.range hi⟩
/-- a deed on a state of fewer than 15 asks -/
theorem deed_good {L : Ln} (hL : L.Ok) {s : St} {x : Dd} (g : GoodS L s) (dx : ddOk L x) (c : canDo L s x = true) (z : s.asks.length ≤ 14) :
    Go L s x ∧ Fit (preN L s x) ∧ GoodS L (tidyN (preN L s x)) ∧ (tidyN (preN L s x)).asks.length ≤ s.asks.length + 1 := by
  have h := pre_good hL g dx c
  have l := pre_len (x := x) g
  have q := g.size
  exact ⟨⟨g, dx, c, by omega⟩, h.fit (by omega), tidy_good h, Nat.le_trans (tidy_len h) l⟩
theorem first_good {L : Ln} (hL : L.Ok) : GoodS L firstS := by
  refine ⟨fun q hq => (by cases hq), ⟨⟨List.Pairwise.nil, fun i hi => by cases hi⟩, ⟨List.Pairwise.nil, fun i hi => by cases hi⟩, ⟨⟨List.Pairwise.nil, fun i hi => by cases hi⟩, fun q hq => (by cases hq), fun q hq => (by cases hq)⟩, fun u v hu => (by cases hu), fun i hi => (by cases hi)⟩, fun h => (by cases h), fun a ha => ?_, rfl⟩
  show ((0 : Nat) : Int) ≤ _
  rcases hL.h with h | h <;> omega
end Mp.Pk
end

section
set_option Elab.async false
set_option linter.all false
set_option maxRecDepth 100000
set_option maxHeartbeats 4000000
/-! Pl0: the numbers that a law draws. -/
namespace Mp.Pk
open PySem Mp

def seedL (ns : List Int) : List Int := if ns = [] then [5] else ns.take 63
theorem seed_ne (ns : List Int) : 0 < (seedL ns).length ∧ (seedL ns).length ≤ 63 := by
  unfold seedL
  split
  · exact ⟨by decide, by decide⟩
  · rename_i h
    rw [List.length_take]
    have : ns.length ≠ 0 := fun e => h (List.length_eq_zero_iff.mp e)
    omega
def pickI (l : List Int) (i : Int) : Int := l.getD (i % l.length).toNat 0
def num3 (l : List Int) (i : Int) : Int := pickI l i + 13 * (i / l.length)
def num4 (l : List Int) (i : Int) : Int := num3 l i % 1000003
def num5 (l : List Int) (i : Int) : Int := num3 l i / 1000003 % 999983
def num6 (l : List Int) : Int := sumI l % 65521
def num7 (l : List Int) (i : Int) : Int := ((num4 l i + 977 * i) * 48271 + 31 * num5 l i + num6 l) % 2147483647
/-- a law's number i -/
def numV (ns : List Int) (i : Int) : Int := num7 (seedL ns) i * (num7 (seedL ns) i + 31 * i + 7) % 2147483629 * 65537 + num5 (seedL ns) i
theorem numV_nn (ns : List Int) (i : Int) : 0 ≤ numV ns i := by
  unfold numV num5
  have h1 := Int.emod_nonneg (num7 (seedL ns) i * (num7 (seedL ns) i + 31 * i + 7)) (b := 2147483629) (by decide)
  have h2 := Int.emod_nonneg (num3 (seedL ns) i / 1000003) (b := 999983) (by decide)
  omega
@[simp] theorem bin_mul_l (m : Bool) (i j : Int) (M : MH) (h : small64 i = true) : binOp .mul m (.int i) (.int j) M = .val (.int (i * j)) M := by
  show (if small64 i || small64 j then Out.val (PV.int (i * j)) M else .stuck) = _
  rw [h]
  rfl
@[simp] theorem bin_mul_r (m : Bool) (i j : Int) (M : MH) (h : small64 j = true) : binOp .mul m (.int i) (.int j) M = .val (.int (i * j)) M := by
  show (if small64 i || small64 j then Out.val (PV.int (i * j)) M else .stuck) = _
  rw [h, Bool.or_true]
  rfl
@[simp] theorem bin_mod (m : Bool) (i j : Int) (M : MH) (h : 0 < j) : binOp .mod m (.int i) (.int j) M = .val (.int (i % j)) M := by
  show (if 0 < j then Out.val (PV.int (i % j)) M else .stuck) = _
  rw [if_pos h]
@[simp] theorem bin_fdiv (m : Bool) (i j : Int) (M : MH) (h : 0 < j ∧ j < 1073741824) : binOp .fdiv m (.int i) (.int j) M = .val (.int (i / j)) M := by
  show (if 0 < j ∧ j < 1073741824 then Out.val (PV.int (i / j)) M else .stuck) = _
  rw [if_pos h]
theorem intsOf_ints : ∀ is : List Int, intsOf (is.map .int) = some is
  | [] => rfl
  | a :: r => by
    rw [List.map_cons]
    show (match intsOf (r.map .int) with | some is => some (a :: is) | none => none) = _
    rw [intsOf_ints r]
theorem bSum_ints (m : Bool) (is : List Int) (M : MH) : bltF .sum m [.lst (is.map .int)] M = .val (.int (sumI is)) M := by
  show (match intsOf (is.map .int) with | some is => Out.val (PV.int (sumI is)) M | none => .stuck) = _
  rw [intsOf_ints]
theorem scr_nil (ns : List Int) (M : MH) : eqV M (.scr ns) (.lst []) = some (decide (ns = [])) := by
  have h1 : okB 40 M (.scr ns) = true := List.all_eq_true.mpr fun x hx => by
    obtain ⟨i, _, rfl⟩ := List.mem_map.mp hx
    rfl
  rw [eqV_ok h1 (show okB 40 M (.lst []) = true from rfl)]
  cases ns <;> rfl
theorem num7_lt (l : List Int) (i : Int) : small64 (num7 l i) = true := by
  unfold small64 num7
  have h1 := Int.emod_nonneg ((num4 l i + 977 * i) * 48271 + 31 * num5 l i + num6 l) (b := 2147483647) (by decide)
  have h2 := Int.emod_lt_of_pos ((num4 l i + 977 * i) * 48271 + 31 * num5 l i + num6 l) (b := 2147483647) (by decide)
  rw [decide_eq_true_iff]
  omega
structure PlA (P : MP) : Prop where
  f46 : P.fns[46]? = some m__law_number
section
variable {P : MP} (T : PlA P)
include T
theorem PlA.k46 : Cal P 46 2 := cal T.f46 rfl
theorem ev_number (d : Nat) (ns : List Int) (i : Int) (M : MH) : evC P 30 (d + 1) 46 [.scr ns, .int i] M = .val (.int (numV ns i)) M := by
  rw [evC_succ P 30 d 46 _ M T.f46 rfl]
  have e0 := scr_nil ns M
  obtain ⟨l1, l2⟩ := seed_ne ns
  have s1 : stepS (evT0 P (evC P 30 d) 29) (.asg (.nm 2) (.ite (.cmp .ne (.var 0) (.lst false [])) (.slc (.var 0) none (some (.lit (.int 63)))) (.lst false [(false, (.lit (.int 5)))]))) [some (.scr ns), some (.int i), none, none, none, none, none, none] M
    = .nx [some (.scr ns), some (.int i), some (.lst ((seedL ns).map .int)), none, none, none, none, none] M := by
    by_cases h : ns = []
    · subst h
      simp [e0, newL, seedL]
    · have es : seedL ns = ns.take 63 := by unfold seedL; rw [if_neg h]
      have ec : cutL ns none (some 63) = ns.take 63 := cutL_to ns 63
      have nl := newL_f (xs := (ns.take 63).map PV.int) (M := M) (by rw [List.length_map, List.length_take]; omega)
      have sl : slcK (.scr ns) none (some 63) M = .val (.lst ((ns.take 63).map .int)) M := by
        show newL false ((cutL ns none (some 63)).map .int) M = _
        rw [ec, nl]
      rw [decide_eq_false h] at e0
      rw [es]
      simp [-List.map_take, e0, newL, sl]
  unfold numV
  generalize seedL ns = l at s1 l1 l2 ⊢
  have bl : bltF .len false [.lst (l.map .int)] M = .val (.int l.length) M := by rw [bLen_lst, List.length_map]
  have p1 : (0 : Int) < l.length := by omega
  have m0 := Int.emod_nonneg i (b := (l.length : Int)) (by omega)
  have m1 := Int.emod_lt_of_pos i p1
  have gi : getI (.lst (l.map .int)) (.int (i % l.length)) M = some (.int (pickI l i)) := by
    have e : i % (l.length : Int) = ((i % l.length).toNat : Int) := by omega
    rw [e]
    refine getI_lst ?_
    unfold pickI
    rw [List.getElem?_map, List.getD_eq_getElem?_getD, List.getElem?_eq_getElem (by omega)]
    rfl
  have bs := bSum_ints false l M
  have s2 : stepS (evT0 P (evC P 30 d) 29) (.asg (.nm 3) (.bin .add false (.idx (.var 2) (.bin .mod false (.blt .int false [(.var 1)]) (.blt .len false [(.var 2)]))) (.bin .mul false (.lit (.int 13)) (.bin .fdiv false (.var 1) (.blt .len false [(.var 2)]))))) [some (.scr ns), some (.int i), some (.lst (l.map .int)), none, none, none, none, none] M
    = .nx [some (.scr ns), some (.int i), some (.lst (l.map .int)), some (.int (num3 l i)), none, none, none, none] M := by
    have f1 := bin_fdiv false i l.length M ⟨p1, by omega⟩
    have f2 := bin_mod false i l.length M p1
    have f3 := bin_mul_l false 13 (i / l.length) M (by decide)
    simp [-bLen_lst, bl, f1, f2, f3, gi, num3]
  have s3 : stepS (evT0 P (evC P 30 d) 29) (.par [4, 5] [(.bin .mod false (.blt .int false [(.var 3)]) (.lit (.int 1000003))), (.bin .mod false (.blt .int false [(.bin .fdiv false (.var 3) (.lit (.int 1000003)))]) (.lit (.int 999983)))]) [some (.scr ns), some (.int i), some (.lst (l.map .int)), some (.int (num3 l i)), none, none, none, none] M
    = .nx [some (.scr ns), some (.int i), some (.lst (l.map .int)), some (.int (num3 l i)), some (.int (num4 l i)), some (.int (num5 l i)), none, none] M := by
    simp [setAll, num4, num5]
  have s4 : stepS (evT0 P (evC P 30 d) 29) (.asg (.nm 6) (.bin .mod false (.blt .int false [(.blt .sum false [(.var 2)])]) (.lit (.int 65521)))) [some (.scr ns), some (.int i), some (.lst (l.map .int)), some (.int (num3 l i)), some (.int (num4 l i)), some (.int (num5 l i)), none, none] M
    = .nx [some (.scr ns), some (.int i), some (.lst (l.map .int)), some (.int (num3 l i)), some (.int (num4 l i)), some (.int (num5 l i)), some (.int (num6 l)), none] M := by
    simp [bs, num6]
  have s5 : stepS (evT0 P (evC P 30 d) 29) (.asg (.nm 7) (.bin .mod false (.blt .int false [(.bin .add false (.bin .add false (.bin .mul false (.bin .add false (.var 4) (.bin .mul false (.lit (.int 977)) (.var 1))) (.lit (.int 48271))) (.bin .mul false (.lit (.int 31)) (.var 5))) (.var 6))]) (.lit (.int 2147483647)))) [some (.scr ns), some (.int i), some (.lst (l.map .int)), some (.int (num3 l i)), some (.int (num4 l i)), some (.int (num5 l i)), some (.int (num6 l)), none] M
    = .nx [some (.scr ns), some (.int i), some (.lst (l.map .int)), some (.int (num3 l i)), some (.int (num4 l i)), some (.int (num5 l i)), some (.int (num6 l)), some (.int (num7 l i))] M := by
    have f1 := fun j => bin_mul_l false 977 j M (by decide)
    have f2 := fun j => bin_mul_l false 31 j M (by decide)
    have f3 := fun j => bin_mul_r false j 48271 M (by decide)
    simp [f1, f2, f3, num7]
  have s6 : stepS (evT0 P (evC P 30 d) 29) (.ret (.bin .add false (.bin .mul false (.bin .mod false (.blt .int false [(.bin .mul false (.var 7) (.bin .add false (.bin .add false (.var 7) (.bin .mul false (.lit (.int 31)) (.var 1))) (.lit (.int 7))))]) (.lit (.int 2147483629))) (.lit (.int 65537))) (.var 5))) [some (.scr ns), some (.int i), some (.lst (l.map .int)), some (.int (num3 l i)), some (.int (num4 l i)), some (.int (num5 l i)), some (.int (num6 l)), some (.int (num7 l i))] M
    = .rt (.int (num7 l i * (num7 l i + 31 * i + 7) % 2147483629 * 65537 + num5 l i)) M := by
    have f1 := fun j => bin_mul_l false (num7 l i) j M (num7_lt l i)
    have f2 := fun j => bin_mul_l false 31 j M (by decide)
    have f3 := fun j => bin_mul_r false j 65537 M (by decide)
    simp [f1, f2, f3]
  have b0 : m__law_number.body = [
  .asg (.nm 2) (.ite (.cmp .ne (.var 0) (.lst false [])) (.slc (.var 0) none (some (.lit (.int 63)))) (.lst false [(false, (.lit (.int 5)))])),
  .asg (.nm 3) (.bin .add false (.idx (.var 2) (.bin .mod false (.blt .int false [(.var 1)]) (.blt .len false [(.var 2)]))) (.bin .mul false (.lit (.int 13)) (.bin .fdiv false (.var 1) (.blt .len false [(.var 2)])))),
  .par [4, 5] [(.bin .mod false (.blt .int false [(.var 3)]) (.lit (.int 1000003))), (.bin .mod false (.blt .int false [(.bin .fdiv false (.var 3) (.lit (.int 1000003)))]) (.lit (.int 999983)))],
  .asg (.nm 6) (.bin .mod false (.blt .int false [(.blt .sum false [(.var 2)])]) (.lit (.int 65521))),
  .asg (.nm 7) (.bin .mod false (.blt .int false [(.bin .add false (.bin .add false (.bin .mul false (.bin .add false (.var 4) (.bin .mul false (.lit (.int 977)) (.var 1))) (.lit (.int 48271))) (.bin .mul false (.lit (.int 31)) (.var 5))) (.var 6))]) (.lit (.int 2147483647))),
  .ret (.bin .add false (.bin .mul false (.bin .mod false (.blt .int false [(.bin .mul false (.var 7) (.bin .add false (.bin .add false (.var 7) (.bin .mul false (.lit (.int 31)) (.var 1))) (.lit (.int 7))))]) (.lit (.int 2147483629))) (.lit (.int 65537))) (.var 5))] := rfl
  change (ssL (evT0 P (evC P 30 d) 30) m__law_number.body [some (.scr ns), some (.int i), none, none, none, none, none, none] M).fin = _
  rw [b0, ssL_cons, ev_s, s1, seq_nx, ssL_cons, ev_s, s2, seq_nx, ssL_cons, ev_s, s3, seq_nx, ssL_cons, ev_s, s4, seq_nx, ssL_cons, ev_s, s5, seq_nx, ssL_cons, ev_s, s6, seq_rt, fin_rt]
theorem cp_number (d : Nat) (ns : List Int) (i : Int) (M : MH) : callP (evC P 30 (d + 1)) 46 [.scr ns, .int i] M = .val (.int (numV ns i)) M :=
  callP_ok rfl (ev_number T d ns i []) rfl
end
end Mp.Pk
end

section
set_option Elab.async false
set_option linter.all false
set_option maxRecDepth 100000
set_option maxHeartbeats 4000000
/-! Pl1: the line that a law draws. -/
namespace Mp.Pk
open PySem Mp

def szV (q : Int × Int × Int) : PV := .tup [.int q.1, .int q.2.1, .int q.2.2]
def pickZ (szs : List (Int × Int × Int)) (n : Int) : Int × Int × Int := szs.getD (n % szs.length).toNat (1, 1, 1)
def linN (n : Int) (q : Int × Int × Int) : Ln := ⟨q.1, q.2.1, q.2.2, (n / 10 % 5).toNat, decide (n / 50 % 3 = 0), decide (n / 150 % 3 = 0), decide (n / 450 % 3 = 0), decide (n / 1350 % 3 = 0)⟩
/-- the parts of a line, as laws have them -/
def plV (L : Ln) : PV := .tup [.int L.askers, .int L.ahead, .int L.pieces, againV L.again, .tup (marksL L)]
theorem pl_pure (L : Ln) (k : Nat) : pureB (k + 3) (plV L) = true := by
  unfold plV
  simp [againV_pure, allStr_pure (marks_str L)]
def mkL : List (Int × PV) := [(50, .str (PySem.Str.ofString "barred")), (150, .str (PySem.Str.ofString "fresh")), (450, .str (PySem.Str.ofString "kept")), (1350, .str (PySem.Str.ofString "named"))]
theorem eq_int (i j : Int) (M : MH) : eqV M (.int i) (.int j) = some (decide (i = j)) := by kernel_rfl
structure PlB (P : MP) : Prop extends PlA P where
  f47 : P.fns[47]? = some m__law_plain
section
variable {P : MP} (T : PlB P)
include T
theorem PlB.k47 : Cal P 47 2 := cal T.f47 rfl
theorem mk_sel (n : Int) (q : Int × Int × Int) : (mkL.zipIdx.filter fun z => decide (n / z.1.1 % 3 = 0)).map (fun z => z.1.2) = marksL (linN n q) := by
  unfold linN marksL
  dsimp only
  by_cases h1 : n / 50 % 3 = 0 <;> by_cases h2 : n / 150 % 3 = 0 <;> by_cases h3 : n / 450 % 3 = 0 <;> by_cases h4 : n / 1350 % 3 = 0 <;> simp [mkL, List.zipIdx, List.filter, h1, h2, h3, h4]
theorem ev_plain (d : Nat) (n : Int) (szs : List (Int × Int × Int)) (hz : szs ≠ []) (hz2 : szs.length < 1000) :
    ∃ M', evC P 30 (d + 1) 47 [.int n, .lst (szs.map szV)] [] = .val (plV (linN n (pickZ szs n))) M' := by
  rw [evC_succ P 30 d 47 _ [] T.f47 rfl]
  have p0 : szs.length ≠ 0 := fun e => hz (List.length_eq_zero_iff.mp e)
  have p1 : (0 : Int) < szs.length := by omega
  have bl : bltF .len false [.lst (szs.map szV)] [] = .val (.int szs.length) [] := by rw [bLen_lst, List.length_map]
  have m0 := Int.emod_nonneg n (b := (szs.length : Int)) (by omega)
  have m1 := Int.emod_lt_of_pos n p1
  have gi : getI (.lst (szs.map szV)) (.int (n % szs.length)) [] = some (szV (pickZ szs n)) := by
    have e : n % (szs.length : Int) = ((n % szs.length).toNat : Int) := by omega
    rw [e]
    refine getI_lst ?_
    unfold pickZ
    rw [List.getElem?_map, List.getD_eq_getElem?_getD, List.getElem?_eq_getElem (by omega)]
    rfl
  have f0 := bin_mod false n szs.length [] p1
  have hsel := mk_sel T n (pickZ szs n)
  obtain ⟨sv, hsv⟩ : ∃ sv, sv = PV.lst (szs.map szV) := ⟨_, rfl⟩
  rw [← hsv] at bl gi ⊢
  generalize hq : pickZ szs n = q at gi hsel ⊢
  obtain ⟨q1, q2, q3⟩ := q
  have s1 : stepS (evT0 P (evC P 30 d) 29) (.asg (.tup [(.nm 2), (.nm 3), (.nm 4)]) (.idx (.var 1) (.bin .mod false (.blt .int false [(.var 0)]) (.blt .len false [(.var 1)])))) [some (.int n), some sv, none, none, none, none, none, none, none] []
    = .nx [some (.int n), some sv, some (.int q1), some (.int q2), some (.int q3), none, none, none, none] [] := by
    simp [bl, f0, gi, szV]
  have ga : getI (.tup [.str (PySem.Str.ofString "none"), .str (PySem.Str.ofString "first"), .str (PySem.Str.ofString "unread"), .str (PySem.Str.ofString "all"), .str (PySem.Str.ofString "all")]) (.int (n / 10 % 5)) [] = some (againV (n / 10 % 5).toNat) := by
    have a0 := Int.emod_nonneg (n / 10) (b := 5) (by omega)
    have a1 := Int.emod_lt_of_pos (n / 10) (b := 5) (by omega)
    have e : n / 10 % 5 = ((n / 10 % 5).toNat : Int) := by omega
    rw [e]
    generalize hk : (n / 10 % 5).toNat = k at *
    have hk5 : k < 5 := by omega
    rw [Int.toNat_natCast]
    match k, hk5 with
    | 0, _ => exact getI_tup (i := 0) rfl
    | 1, _ => exact getI_tup (i := 1) rfl
    | 2, _ => exact getI_tup (i := 2) rfl
    | 3, _ => exact getI_tup (i := 3) rfl
    | 4, _ => exact getI_tup (i := 4) rfl
  generalize hav : againV (n / 10 % 5).toNat = av at ga
  have s2 : stepS (evT0 P (evC P 30 d) 29) (.asg (.nm 5) (.idx (.tup [(false, (.lit (.str (PySem.Str.ofString "none")))), (false, (.lit (.str (PySem.Str.ofString "first")))), (false, (.lit (.str (PySem.Str.ofString "unread")))), (false, (.lit (.str (PySem.Str.ofString "all")))), (false, (.lit (.str (PySem.Str.ofString "all"))))]) (.bin .mod false (.blt .int false [(.bin .fdiv false (.var 0) (.lit (.int 10)))]) (.lit (.int 5))))) [some (.int n), some sv, some (.int q1), some (.int q2), some (.int q3), none, none, none, none] []
    = .nx [some (.int n), some sv, some (.int q1), some (.int q2), some (.int q3), some av, none, none, none] [] := by
    simp [ga]
  have s3 : stepS (evT0 P (evC P 30 d) 29) (.asg (.nm 6) (.lst true [])) [some (.int n), some sv, some (.int q1), some (.int q2), some (.int q3), some av, none, none, none] []
    = .nx [some (.int n), some sv, some (.int q1), some (.int q2), some (.int q3), some av, some (.ref 0), none, none] [.lst []] := by
    simp [newL]
  generalize hbd : ([.ifs (.cmp .eq (.bin .mod false (.blt .int false [(.bin .fdiv false (.var 0) (.idx (.tup [(false, (.lit (.int 50))), (false, (.lit (.int 150))), (false, (.lit (.int 450))), (false, (.lit (.int 1350)))]) (.var 7)))]) (.lit (.int 3))) (.lit (.int 0))) [.expr (.bm .append (.var 6) [(.var 8)])] []] : List MS) = bd
  have hse : ∀ M, SrcL M (.enum true (.tup (mkL.map (·.2)))) mkL.zipIdx (fun z => PV.tup [PV.int z.2, z.1.2]) := fun M => srcEnum rfl
  have turn : ∀ (z : (Int × PV) × Nat) (xs : List PV), z ∈ mkL.zipIdx → xs.length < 1000000 → ssL (evT0 P (evC P 30 d) 29) bd [some (.int n), some sv, some (.int q1), some (.int q2), some (.int q3), some av, some (.ref 0), some (.int z.2), some z.1.2] [.lst xs]
      = .nx [some (.int n), some sv, some (.int q1), some (.int q2), some (.int q3), some av, some (.ref 0), some (.int z.2), some z.1.2] [.lst (if n / z.1.1 % 3 = 0 then xs ++ [z.1.2] else xs)] := by
    intro z xs hz hx
    have il : isLst (.ref 0) [.lst xs] = true := rfl
    have ap := fun y => app_ref (M := [.lst xs]) (n := 0) (xs := xs) rfl hx y
    have gz : getI (.tup [.int 50, .int 150, .int 450, .int 1350]) (.int z.2) [.lst xs] = some (.int z.1.1) ∧ (0 < z.1.1 ∧ z.1.1 < 1073741824) := by
      have : z = ((50, .str (PySem.Str.ofString "barred")), 0) ∨ z = ((150, .str (PySem.Str.ofString "fresh")), 1) ∨ z = ((450, .str (PySem.Str.ofString "kept")), 2) ∨ z = ((1350, .str (PySem.Str.ofString "named")), 3) := by
        simpa [mkL, List.zipIdx] using hz
      rcases this with rfl | rfl | rfl | rfl
      · exact ⟨getI_tup (i := 0) rfl, by decide, by decide⟩
      · exact ⟨getI_tup (i := 1) rfl, by decide, by decide⟩
      · exact ⟨getI_tup (i := 2) rfl, by decide, by decide⟩
      · exact ⟨getI_tup (i := 3) rfl, by decide, by decide⟩
    have fd := fun M => bin_fdiv false n z.1.1 M gz.2
    have eqi := eq_int (n / z.1.1 % 3) 0 [.lst xs]
    rw [← hbd]
    by_cases h : n / z.1.1 % 3 = 0
    · rw [decide_eq_true h] at eqi
      rw [if_pos h]
      simp [gz.1, fd, eqi, il, ap]
    · rw [decide_eq_false h] at eqi
      rw [if_neg h]
      simp [gz.1, fd, eqi]
  obtain ⟨ρ, M', h1, h2, x7, x8, h3⟩ := forL_all (s := .enum true (.tup (mkL.map (·.2)))) (inj := fun z : (Int × PV) × Nat => PV.tup [PV.int z.2, z.1.2]) (E := evT0 P (evC P 30 d) 29) (t := .tup [.nm 7, .nm 8]) (body := ssL (evT0 P (evC P 30 d) 29) bd) (L := mkL.zipIdx)
    (st := fun pre ρ M' => M' = [.lst ((pre.filter fun z => decide (n / z.1.1 % 3 = 0)).map fun z => z.1.2)] ∧ ∃ x7 x8, ρ = [some (.int n), some sv, some (.int q1), some (.int q2), some (.int q3), some av, some (.ref 0), x7, x8])
    (ρ := [some (.int n), some sv, some (.int q1), some (.int q2), some (.int q3), some av, some (.ref 0), none, none]) (M := [.lst []])
    (fun pre ρ M' h => hse M') (fun pre z post ρ M' hL h => by
      obtain ⟨rfl, x7, x8, rfl⟩ := h
      refine ⟨_, _, rfl, ?_⟩
      have hlen : ((pre.filter fun z => decide (n / z.1.1 % 3 = 0)).map fun z => z.1.2).length < 1000000 := by
        have : mkL.zipIdx.length = pre.length + (post.length + 1) := by rw [hL]; simp
        rw [List.length_zipIdx] at this
        have h4 : mkL.length = 4 := rfl
        have := List.length_filter_le (fun z : (Int × PV) × Nat => decide (n / z.1.1 % 3 = 0)) pre
        rw [List.length_map]
        omega
      have ht := turn z _ (by rw [hL]; simp) hlen
      refine ⟨_, _, .inl ht, ?_, _, _, rfl⟩
      rw [List.filter_append, List.map_append]
      by_cases h : n / z.1.1 % 3 = 0
      · rw [if_pos h]
        simp [List.filter, h]
      · rw [if_neg h]
        simp [List.filter, h]) ⟨rfl, none, none, rfl⟩
  rw [hsel] at h2
  subst h2 h3
  have s4 : stepS (evT0 P (evC P 30 d) 29) (.for_ (.tup [(.nm 7), (.nm 8)]) (.enum (.tup [(false, (.lit (.str (PySem.Str.ofString "barred")))), (false, (.lit (.str (PySem.Str.ofString "fresh")))), (false, (.lit (.str (PySem.Str.ofString "kept")))), (false, (.lit (.str (PySem.Str.ofString "named"))))])) bd) [some (.int n), some sv, some (.int q1), some (.int q2), some (.int q3), some av, some (.ref 0), none, none] [.lst []]
    = .nx [some (.int n), some sv, some (.int q1), some (.int q2), some (.int q3), some av, some (.ref 0), x7, x8] [.lst (marksL (linN n (q1, q2, q3)))] := by
    have ei : ∀ ρ M, evIt (evT0 P (evC P 30 d) 29) (.enum (.tup [(false, (.lit (.str (PySem.Str.ofString "barred")))), (false, (.lit (.str (PySem.Str.ofString "fresh")))), (false, (.lit (.str (PySem.Str.ofString "kept")))), (false, (.lit (.str (PySem.Str.ofString "named"))))])) ρ M = .val (.enum true (.tup (mkL.map (·.2)))) M := by
      intro ρ M
      simp [mkL]
    rw [stepS_for, ei, outS_val, h1]
  have ml : (marksL (linN n (q1, q2, q3))).length ≤ 1000000 := by
    rw [← hsel, List.length_map]
    refine Nat.le_trans (List.length_filter_le _ _) ?_
    decide
  have bt := bTuple_ref (M := [.lst (marksL (linN n (q1, q2, q3)))]) (n := 0) false rfl ml
  have b0 : m__law_plain.body = [
  .asg (.tup [(.nm 2), (.nm 3), (.nm 4)]) (.idx (.var 1) (.bin .mod false (.blt .int false [(.var 0)]) (.blt .len false [(.var 1)]))),
  .asg (.nm 5) (.idx (.tup [(false, (.lit (.str (PySem.Str.ofString "none")))), (false, (.lit (.str (PySem.Str.ofString "first")))), (false, (.lit (.str (PySem.Str.ofString "unread")))), (false, (.lit (.str (PySem.Str.ofString "all")))), (false, (.lit (.str (PySem.Str.ofString "all"))))]) (.bin .mod false (.blt .int false [(.bin .fdiv false (.var 0) (.lit (.int 10)))]) (.lit (.int 5)))),
  .asg (.nm 6) (.lst true []),
  .for_ (.tup [(.nm 7), (.nm 8)]) (.enum (.tup [(false, (.lit (.str (PySem.Str.ofString "barred")))), (false, (.lit (.str (PySem.Str.ofString "fresh")))), (false, (.lit (.str (PySem.Str.ofString "kept")))), (false, (.lit (.str (PySem.Str.ofString "named"))))])) bd,
  .ret (.tup [(false, (.var 2)), (false, (.var 3)), (false, (.var 4)), (false, (.var 5)), (false, (.blt .tuple false [(.var 6)]))])] := by rw [← hbd]; rfl
  change ∃ M', (ssL (evT0 P (evC P 30 d) 30) m__law_plain.body [some (.int n), some sv, none, none, none, none, none, none, none] []).fin = _
  rw [b0, ssL_cons, ev_s, s1, seq_nx, ssL_cons, ev_s, s2, seq_nx, ssL_cons, ev_s, s3, seq_nx, ssL_cons, ev_s, s4, seq_nx]
  refine ⟨[.lst (marksL (linN n (q1, q2, q3)))], ?_⟩
  have ep : plV (linN n (q1, q2, q3)) = .tup [.int q1, .int q2, .int q3, av, .tup (marksL (linN n (q1, q2, q3)))] := by rw [← hav]; rfl
  rw [ep]
  simp [bt]
theorem sz_pure (szs : List (Int × Int × Int)) (k : Nat) : (szs.map szV).all (pureB (k + 2)) = true := by simp [szV]
theorem cp_plain (d : Nat) (n : Int) (szs : List (Int × Int × Int)) (hz : szs ≠ []) (hz2 : szs.length < 1000) (M : MH) : callP (evC P 30 (d + 1)) 47 [.int n, .lst (szs.map szV)] M = .val (plV (linN n (pickZ szs n))) M := by
  obtain ⟨M', e⟩ := ev_plain T d n szs hz hz2
  exact callP_ok (by simp only [List.all_cons, List.all_nil, pure_int, pure_lst, sz_pure T szs 47, Bool.and_self]) e (pl_pure _ 47)
theorem pick_ok {szs : List (Int × Int × Int)} (h : ∀ q, q ∈ szs → (q.1 = 1 ∨ q.1 = 2) ∧ (q.2.1 = 1 ∨ q.2.1 = 2) ∧ (q.2.2 = 1 ∨ q.2.2 = 2)) (n m : Int) : (linN n (pickZ szs m)).Ok := by
  have key : ((pickZ szs m).1 = 1 ∨ (pickZ szs m).1 = 2) ∧ ((pickZ szs m).2.1 = 1 ∨ (pickZ szs m).2.1 = 2) ∧ ((pickZ szs m).2.2 = 1 ∨ (pickZ szs m).2.2 = 2) := by
    unfold pickZ
    rw [List.getD_eq_getElem?_getD]
    cases e : szs[(m % szs.length).toNat]? with
    | none => exact ⟨.inl rfl, .inl rfl, .inl rfl⟩
    | some q => exact h q (List.mem_of_getElem? e)
  exact ⟨key.1, key.2.1, key.2.2⟩
end
end Mp.Pk
end

section
set_option Elab.async false
set_option linter.all false
set_option maxRecDepth 100000
set_option maxHeartbeats 4000000
/-! Pl2: a law's line as an instance. -/
namespace Mp.Pk
open PySem Mp

def marksW : List PV := [.str (PySem.Str.ofString "barred"), .str (PySem.Str.ofString "fresh"), .str (PySem.Str.ofString "kept"), .str (PySem.Str.ofString "named")]
def againW : List PV := [.str (PySem.Str.ofString "none"), .str (PySem.Str.ofString "first"), .str (PySem.Str.ofString "unread"), .str (PySem.Str.ofString "all")]
def partW : List PV := [.str (PySem.Str.ofString "askers"), .str (PySem.Str.ofString "ahead"), .str (PySem.Str.ofString "pieces"), .str (PySem.Str.ofString "again"), .str (PySem.Str.ofString "marks")]
def ltV (a b : PV) : Bool := match a, b with
  | .str x, .str y => strLt x y
  | _, _ => false
theorem cmp_ltV {a b : PV} (h : ltV a b = true) (M : MH) : cmpOp .lt a b M = some true := by
  cases a with
  | str x => cases b with
    | str y => exact congrArg some h
    | _ => cases h
  | _ => cases h
theorem marks_wrd (L : Ln) : (marksL L).all (fun v => isWrd v marksW) = true := by
  obtain ⟨_, _, _, _, b, f, k, n⟩ := L
  cases b <;> cases f <;> cases k <;> cases n <;> kernel_rfl
theorem marks_asc (L : Ln) : ((marksL L).zip ((marksL L).drop 1)).all (fun q => ltV q.1 q.2) = true := by
  obtain ⟨_, _, _, _, b, f, k, n⟩ := L
  cases b <;> cases f <;> cases k <;> cases n <;> kernel_rfl
theorem marks_len (L : Ln) : (marksL L).length ≤ 4 := by
  obtain ⟨_, _, _, _, b, f, k, n⟩ := L
  cases b <;> cases f <;> cases k <;> cases n <;> simp [marksL]
theorem again_wrd (n : Nat) : isWrd (againV n) againW = true := by
  unfold againV
  split <;> kernel_rfl
theorem again_dat (n : Nat) : Dat 1 (againV n) := by
  show okB 1 [] (againV n) = true
  unfold againV
  split <;> kernel_rfl
theorem stepA_att (P : MP) (E : Ev) (a : ME) (f : Nat) (x : PV) (ρ : Rho) (M : MH) {n c i : Nat} {fs : List (Option PV)} {k : MCls} (h1 : E.e a ρ M = .val (.ref n) M) (h2 : M[n]? = some (.ins c fs)) (h3 : P.cls[c]? = some k) (h4 : k.fld.lookup f = some i) :
    stepA P E (.att a f) x ρ M = .val ρ (M.set n (.ins c ((fs ++ List.replicate (i + 1 - fs.length) none).set i (some x)))) := by
  unfold stepA
  dsimp only
  rw [h1]
  show (match M[n]? with
      | some (.ins c fs) => (match P.cls[c]? with
        | some k => (match k.fld.lookup f with
          | some i => Out.val ρ (M.set n (.ins c ((fs ++ List.replicate (i + 1 - fs.length) none).set i (some x))))
          | none => .stuck)
        | none => .stuck)
      | _ => .stuck) = _
  rw [h2]
  dsimp only
  rw [h3]
  dsimp only
  rw [h4]
theorem stepE_mk (P : MP) (C : Nat → List PV → MH → Out PV) (E : Ev) (c : Nat) (es : List ME) (ρ : Rho) (M : MH) {k : MCls} {g : MFn} (hk : P.cls[c]? = some k) (hg : P.fns[k.init]? = some g) (hl : es.length + 1 = g.np) :
    stepE P E C (.mk c es) ρ M = (evArgs E es ρ M).bind fun xs M1 => makeI C k c xs M1 := by
  show ((evArgs E es ρ M).bind fun xs M1 => _) = _
  congr 1
  funext xs M1
  rw [hk]
  dsimp only
  rw [hg]
  dsimp only
  rw [if_pos ⟨by omega, by omega⟩]
  rw [show es.length + 1 + g.dfl.length - g.np = g.dfl.length by omega, List.drop_length, List.append_nil]
structure PlC (P : MP) : Prop extends PlB P where
  toS : PkF P
  f2 : P.fns[2]? = some m_are_marks
  f3 : P.fns[3]? = some m_Line__init
  f48 : P.fns[48]? = some m__law_line
  c3 : P.con[3]? = some (.tup againW)
  c4 : P.con[4]? = some (.tup marksW)
  c5 : P.con[5]? = some (.tup partW)
section
variable {P : MP} (T : PlC P)
include T
theorem PlC.k2 : Cal P 2 1 := cal T.f2 rfl
theorem PlC.k48 : Cal P 48 1 := cal T.f48 rfl
theorem ev_are_marks (d : Nat) (L : Ln) (M : MH) : evC P 30 (d + 2) 2 [.tup (marksL L)] M = .val (.bl true) M := by
  rw [evC_succ P 30 (d + 1) 2 _ M T.f2 rfl]
  have hl := marks_len L
  have h1 := List.all_eq_true.mp (marks_wrd L)
  have h2 := List.all_eq_true.mp (marks_asc L)
  have hs := List.all_eq_true.mp (marks_str L)
  generalize marksL L = ms at hl h1 h2 hs ⊢
  have t0 : typAny P.cls.length M (.tup ms) [.tuple] = some true := rfl
  have c4 := T.c4
  have e0 : ∀ j, lcL (evT0 P (evC P 30 (d + 1)) (j + 5)) (.call 1 true [(.var 1), (.con 4)]) (.nm 1) [] [some (.tup ms), none, none, none] (srcLen M (.sq true (.tup ms)) + 1) 0 (.sq true (.tup ms)) [] M = .val (ms.map fun _ => PV.bl true) M := by
    intro j
    refine lcL_all (inj := id) (src_seq (by simp [readK])) (by omega) fun v hv => ⟨_, rfl, ?_⟩
    have hst := hs v hv
    have hd : Dat 1 v := by
      cases v with
      | str a => exact hst
      | _ => cases hst
    have ew := cp_is_word P T.toS.f1 d v hd (by omega) marksW rfl M
    rw [h1 v hv] at ew
    simp [stepE_callT, T.toS.k1, c4, ew]
  have e1 : ∀ j, lcL (evT0 P (evC P 30 (d + 1)) (j + 5)) (.cmp .lt (.var 2) (.var 3)) (.tup [(.nm 2), (.nm 3)]) [] [some (.tup ms), none, none, none] (srcLen M (.zip true (.tup ms) true (.tup (ms.drop 1))) + 1) 0 (.zip true (.tup ms) true (.tup (ms.drop 1))) [] M = .val ((ms.zip (ms.drop 1)).map fun _ => PV.bl true) M := by
    intro j
    refine lcL_all (inj := fun q : PV × PV => .tup [id q.1, id q.2]) (srcZip (by simp [readK]) (by simp [readK])) (by rw [List.length_zip]; omega) fun q hq => ⟨_, rfl, ?_⟩
    have := cmp_ltV (h2 q hq) M
    simp [this]
  have hn : (ms.map fun _ => PV.bl true).length ≤ 1000000 := by rw [List.length_map]; omega
  have hn2 : ((ms.zip (ms.drop 1)).map fun _ => PV.bl true).length ≤ 1000000 := by rw [List.length_map, List.length_zip]; omega
  have b1 := bAll_map false (fun _ => true) ms M
  have b2 := bAll_map false (fun _ => true) (ms.zip (ms.drop 1)) M
  have r1 : ms.all (fun _ => true) = true := by simp
  have r2 : (ms.zip (ms.drop 1)).all (fun _ => true) = true := by simp
  rw [r1] at b1
  rw [r2] at b2
  have n1 := newL_f (M := M) hn
  have n2 := newL_f (M := M) hn2
  have s1 : stepS (evT0 P (evC P 30 (d + 1)) 29) (.ifs (.or [(.not (.isi (.var 0) [.tuple])), (.not (.blt .all false [(.lc false [1] (.call 1 true [(.var 1), (.con 4)]) (.nm 1) (.seq (.var 0)) [])]))]) [.ret (.lit (.bl false))] []) [some (.tup ms), none, none, none] M = .nx [some (.tup ms), none, none, none] M := by
    simp [-List.map_const_fun, t0, kindS_tup, wipeR, e0, n1, b1]
  have s2 : stepS (evT0 P (evC P 30 (d + 1)) 29) (.ret (.blt .all false [(.lc false [2, 3] (.cmp .lt (.var 2) (.var 3)) (.tup [(.nm 2), (.nm 3)]) (.zip (.var 0) (.slc (.var 0) (some (.lit (.int 1))) none)) [])])) [some (.tup ms), none, none, none] M = .rt (.bl true) M := by
    simp [-List.map_const_fun, -List.drop_one, kindS_tup, wipeR, e1, n2, b2]
  change (ssL (evT0 P (evC P 30 (d + 1)) 30) [.ifs (.or [(.not (.isi (.var 0) [.tuple])), (.not (.blt .all false [(.lc false [1] (.call 1 true [(.var 1), (.con 4)]) (.nm 1) (.seq (.var 0)) [])]))]) [.ret (.lit (.bl false))] [], .ret (.blt .all false [(.lc false [2, 3] (.cmp .lt (.var 2) (.var 3)) (.tup [(.nm 2), (.nm 3)]) (.zip (.var 0) (.slc (.var 0) (some (.lit (.int 1))) none)) [])])] [some (.tup ms), none, none, none] M).fin = _
  rw [ssL_cons, ev_s, s1, seq_nx, ssL_cons, ev_s, s2, seq_rt, fin_rt]
theorem cp_are_marks (d : Nat) (L : Ln) (M : MH) : callP (evC P 30 (d + 2)) 2 [.tup (marksL L)] M = .val (.bl true) M :=
  callP_ok (by simp only [List.all_cons, List.all_nil, pure_tup, allStr_pure (marks_str L) 48, Bool.and_self]) (ev_are_marks T d L []) rfl
def cutO (o : Out PV) : Option (PV × MH) := match o with
  | .val v M => some (v, M)
  | _ => none
theorem ev_init (d : Nat) (L : Ln) (hL : L.Ok) : evC P 30 (d + 3) 3 [.ref 0, .int L.askers, .int L.ahead, .int L.pieces, againV L.again, .tup (marksL L)] [.ins 0 []] = .val .non [.ins 0 [some (againV L.again), some (.int L.ahead), some (.int L.askers), some (.tup (marksL L)), some (.int L.pieces)]] := by
  rw [evC_succ P 30 (d + 2) 3 _ _ T.f3 rfl]
  have cl := T.toS.cl
  have em := cp_are_marks T d L [.ins 0 []]
  have ew := cp_is_word P T.toS.f1 (d + 1) (againV L.again) (again_dat L.again) (by omega) againW rfl [.ins 0 []]
  rw [again_wrd] at ew
  have en : ∀ i : Int, (i = 1 ∨ i = 2) → callP (evC P 30 (d + 2)) 0 [.int i, .int 1, .int 2] [.ins 0 []] = .val (.bl true) [.ins 0 []] := by
    intro i hi
    have := cp_is_number P T.toS.f0 (d + 1) (.int i) (show Dat 1 (.int i) from rfl) (by omega) 1 2 [.ins 0 []]
    rw [isNum_iff.mpr ⟨i, rfl, by omega, by omega⟩] at this
    exact this
  have ea := en _ hL.a
  have eh := en _ hL.h
  have ep := en _ hL.p
  generalize againV L.again = ag at *
  generalize marksL L = ms at *
  generalize L.askers = a at *
  generalize L.ahead = h at *
  generalize L.pieces = p at *
  have c3 := T.c3
  have c5 := T.c5
  have hse : ∀ M, SrcL M (.zip true (.tup partW) true (.tup [.int a, .int h, .int p])) (partW.zip [a, h, p]) (fun q => PV.tup [id q.1, PV.int q.2]) := fun M => srcZip (by simp [readK]) rfl
  have s1 : stepS (evT0 P (evC P 30 (d + 2)) 29) (.asg (.nm 6) (.tup [(false, (.var 1)), (false, (.var 2)), (false, (.var 3))])) [some (.ref 0), some (.int a), some (.int h), some (.int p), some ag, some (.tup ms), none, none, none] [.ins 0 []]
    = .nx [some (.ref 0), some (.int a), some (.int h), some (.int p), some ag, some (.tup ms), some (.tup [.int a, .int h, .int p]), none, none] [.ins 0 []] := by
    simp
  obtain ⟨ρ, M', h1, h2, x7, x8, h3⟩ := forL_all (s := .zip true (.tup partW) true (.tup [.int a, .int h, .int p])) (inj := fun q : PV × Int => PV.tup [id q.1, PV.int q.2]) (E := evT0 P (evC P 30 (d + 2)) 29) (t := .tup [.nm 7, .nm 8]) (body := ssL (evT0 P (evC P 30 (d + 2)) 29) [.ifs (.not (.call 0 true [(.var 8), (.lit (.int 1)), (.lit (.int 2))])) [.bad] []]) (L := partW.zip [a, h, p])
    (st := fun pre ρ M' => M' = [.ins 0 []] ∧ ∃ x7 x8, ρ = [some (.ref 0), some (.int a), some (.int h), some (.int p), some ag, some (.tup ms), some (.tup [.int a, .int h, .int p]), x7, x8])
    (ρ := [some (.ref 0), some (.int a), some (.int h), some (.int p), some ag, some (.tup ms), some (.tup [.int a, .int h, .int p]), none, none]) (M := [.ins 0 []])
    (fun pre ρ M' h => hse M') (fun pre q post ρ M' hL h => by
      obtain ⟨rfl, x7, x8, rfl⟩ := h
      refine ⟨_, _, rfl, ?_⟩
      have hm : q.2 = a ∨ q.2 = h ∨ q.2 = p := by
        have : q ∈ partW.zip [a, h, p] := by rw [hL]; simp
        have := List.of_mem_zip this
        simpa using this.2
      have hn : callP (evC P 30 (d + 2)) 0 [.int q.2, .int 1, .int 2] [.ins 0 []] = .val (.bl true) [.ins 0 []] := by
        rcases hm with e | e | e <;> rw [e] <;> assumption
      refine ⟨[some (.ref 0), some (.int a), some (.int h), some (.int p), some ag, some (.tup ms), some (.tup [.int a, .int h, .int p]), some q.1, some (.int q.2)], _, .inl ?_, rfl, _, _, rfl⟩
      simp [stepE_callT, T.toS.k0, hn]) ⟨rfl, none, none, rfl⟩
  subst h2 h3
  have s2 : stepS (evT0 P (evC P 30 (d + 2)) 29) (.for_ (.tup [(.nm 7), (.nm 8)]) (.zip (.con 5) (.var 6)) [.ifs (.not (.call 0 true [(.var 8), (.lit (.int 1)), (.lit (.int 2))])) [.bad] []]) [some (.ref 0), some (.int a), some (.int h), some (.int p), some ag, some (.tup ms), some (.tup [.int a, .int h, .int p]), none, none] [.ins 0 []]
    = .nx [some (.ref 0), some (.int a), some (.int h), some (.int p), some ag, some (.tup ms), some (.tup [.int a, .int h, .int p]), x7, x8] [.ins 0 []] := by
    have ei : evIt (evT0 P (evC P 30 (d + 2)) 29) (.zip (.con 5) (.var 6)) [some (.ref 0), some (.int a), some (.int h), some (.int p), some ag, some (.tup ms), some (.tup [.int a, .int h, .int p]), none, none] [.ins 0 []] = .val (.zip true (.tup partW) true (.tup [.int a, .int h, .int p])) [.ins 0 []] := by simp [c5]
    rw [stepS_for, ei, outS_val, h1]
  have s3 : stepS (evT0 P (evC P 30 (d + 2)) 29) (.ifs (.not (.call 1 true [(.var 4), (.con 3)])) [.bad] []) [some (.ref 0), some (.int a), some (.int h), some (.int p), some ag, some (.tup ms), some (.tup [.int a, .int h, .int p]), x7, x8] [.ins 0 []]
    = .nx [some (.ref 0), some (.int a), some (.int h), some (.int p), some ag, some (.tup ms), some (.tup [.int a, .int h, .int p]), x7, x8] [.ins 0 []] := by
    simp [stepE_callT, T.toS.k1, c3, ew]
  have s4 : stepS (evT0 P (evC P 30 (d + 2)) 29) (.ifs (.not (.call 2 true [(.var 5)])) [.bad] []) [some (.ref 0), some (.int a), some (.int h), some (.int p), some ag, some (.tup ms), some (.tup [.int a, .int h, .int p]), x7, x8] [.ins 0 []]
    = .nx [some (.ref 0), some (.int a), some (.int h), some (.int p), some ag, some (.tup ms), some (.tup [.int a, .int h, .int p]), x7, x8] [.ins 0 []] := by
    simp [stepE_callT, T.k2, em]
  have at_ : ∀ (f i : Nat) (z : ME) (x : PV) (fs fs' : List (Option PV)), (fs ++ List.replicate (i + 1 - fs.length) none).set i (some x) = fs' → lineCls.fld.lookup f = some i → (∀ M, (evT0 P (evC P 30 (d + 2)) 29).e z [some (.ref 0), some (.int a), some (.int h), some (.int p), some ag, some (.tup ms), some (.tup [.int a, .int h, .int p]), x7, x8] M = .val x M) →
      stepS (evT0 P (evC P 30 (d + 2)) 29) (.asg (.att (.var 0) f) z) [some (.ref 0), some (.int a), some (.int h), some (.int p), some ag, some (.tup ms), some (.tup [.int a, .int h, .int p]), x7, x8] [.ins 0 fs] = .nx [some (.ref 0), some (.int a), some (.int h), some (.int p), some ag, some (.tup ms), some (.tup [.int a, .int h, .int p]), x7, x8] [.ins 0 fs'] := by
    intro f i z x fs fs' hs hf hz
    subst hs
    rw [stepS_asg, hz, outS_val, ev_a, stepA_att P _ (.var 0) f x _ _ (n := 0) (c := 0) (i := i) (fs := fs) (by simp) rfl cl hf]
    rfl
  have a1 := at_ 0 2 (.var 1) (.int a) [] [none, none, some (.int a)] rfl rfl (fun M => by simp)
  have a2 := at_ 1 1 (.var 2) (.int h) [none, none, some (.int a)] [none, some (.int h), some (.int a)] rfl rfl (fun M => by simp)
  have a3 := at_ 2 4 (.var 3) (.int p) [none, some (.int h), some (.int a)] [none, some (.int h), some (.int a), none, some (.int p)] rfl rfl (fun M => by simp)
  have a4 := at_ 3 0 (.var 4) ag [none, some (.int h), some (.int a), none, some (.int p)] [some ag, some (.int h), some (.int a), none, some (.int p)] rfl rfl (fun M => by simp)
  have a5 := at_ 4 3 (.var 5) (.tup ms) [some ag, some (.int h), some (.int a), none, some (.int p)] [some ag, some (.int h), some (.int a), some (.tup ms), some (.int p)] rfl rfl (fun M => by simp)
  have b0 : m_Line__init.body = [
  .asg (.nm 6) (.tup [(false, (.var 1)), (false, (.var 2)), (false, (.var 3))]),
  .for_ (.tup [(.nm 7), (.nm 8)]) (.zip (.con 5) (.var 6)) [.ifs (.not (.call 0 true [(.var 8), (.lit (.int 1)), (.lit (.int 2))])) [.bad] []],
  .ifs (.not (.call 1 true [(.var 4), (.con 3)])) [.bad] [],
  .ifs (.not (.call 2 true [(.var 5)])) [.bad] [],
  .asg (.att (.var 0) 0) (.var 1),
  .asg (.att (.var 0) 1) (.var 2),
  .asg (.att (.var 0) 2) (.var 3),
  .asg (.att (.var 0) 3) (.var 4),
  .asg (.att (.var 0) 4) (.var 5)] := rfl
  change (ssL (evT0 P (evC P 30 (d + 2)) 30) m_Line__init.body [some (.ref 0), some (.int a), some (.int h), some (.int p), some ag, some (.tup ms), none, none, none] [.ins 0 []]).fin = _
  rw [b0, ssL_cons, ev_s, s1, seq_nx, ssL_cons, ev_s, s2, seq_nx, ssL_cons, ev_s, s3, seq_nx, ssL_cons, ev_s, s4, seq_nx, ssL_cons, ev_s, a1, seq_nx, ssL_cons, ev_s, a2, seq_nx, ssL_cons, ev_s, a3, seq_nx, ssL_cons, ev_s, a4, seq_nx, ssL_cons, ev_s, a5, seq_nx, ssL_nil, fin_nx]
theorem ev_line (d : Nat) (L : Ln) (hL : L.Ok) (M : MH) : evC P 30 (d + 4) 48 [plV L] M = .val (lnV L) M := by
  rw [evC_succ P 30 (d + 3) 48 _ M T.f48 rfl]
  have g0 : getI (plV L) (.int 0) M = some (.int L.askers) := getI_t0 _ _ _
  have g1 : getI (plV L) (.int 1) M = some (.int L.ahead) := getI_t1 _ _ _ _
  have g2 : getI (plV L) (.int 2) M = some (.int L.pieces) := getI_t2 _ _ _ _ _
  have g3 : getI (plV L) (.int 3) M = some (againV L.again) := getI_t3 _ _ _ _ _ _
  have g4 : getI (plV L) (.int 4) M = some (.tup (marksL L)) := getI_t4 _ _ _ _ _ _ _
  have e := ev_init T d L hL
  have pm : (marksL L).all (pureB 49) = true := allStr_pure (marks_str L) 48
  have mk : makeI (evC P 30 (d + 3)) lineCls 0 [.int L.askers, .int L.ahead, .int L.pieces, againV L.again, .tup (marksL L)] M = .val (lnV L) M := by
    unfold makeI
    have hx : [PV.int L.askers, .int L.ahead, .int L.pieces, againV L.again, .tup (marksL L)].all (pureB 50) = true := by
      simp only [List.all_cons, List.all_nil, pure_int, againV_pure L.again 49, pure_tup, pm, Bool.and_self]
    rw [frzL_pure (fun M v h => frz_pure 50 M v h) hx]
    dsimp only
    rw [show lineCls.init = 3 from rfl, e]
    dsimp only
    have fz : frz 50 [.ins 0 [some (againV L.again), some (.int L.ahead), some (.int L.askers), some (.tup (marksL L)), some (.int L.pieces)]] (.ref 0) = (match frzL (frz 49) [.ins 0 [some (againV L.again), some (.int L.ahead), some (.int L.askers), some (.tup (marksL L)), some (.int L.pieces)]] [againV L.again, .int L.ahead, .int L.askers, .tup (marksL L), .int L.pieces] with
          | some (ys, M1) => some (.obj 0 ys, M1.set 0 (.frz (.obj 0 ys)))
          | none => none) := rfl
    have hy : [againV L.again, PV.int L.ahead, .int L.askers, .tup (marksL L), .int L.pieces].all (pureB 49) = true := by
      simp only [List.all_cons, List.all_nil, pure_int, againV_pure L.again 48, pure_tup, allStr_pure (marks_str L) 47, Bool.and_self]
    rw [fz, frzL_pure (fun M v h => frz_pure 49 M v h) hy]
    rfl
  have sm := fun (E : Ev) (es : List ME) (he : es.length = 5) (ρ : Rho) (M : MH) => stepE_mk P (evC P 30 (d + 3)) E 0 es ρ M T.toS.cl (g := m_Line__init) T.f3 (by rw [he]; rfl)
  change (ssL (evT0 P (evC P 30 (d + 3)) 30) m__law_line.body [some (plV L)] M).fin = _
  have vp : view M (plV L) = plV L := rfl
  simp [m__law_line, sm, g0, g1, g2, g3, g4, mk]
theorem cp_line (d : Nat) (L : Ln) (hL : L.Ok) (M : MH) : callP (evC P 30 (d + 4)) 48 [plV L] M = .val (lnV L) M :=
  callP_ok (by simp only [List.all_cons, List.all_nil, pl_pure L 47, Bool.and_self]) (ev_line T d L hL []) (ln_pure L 47)
end
end Mp.Pk
end

section
set_option Elab.async false
set_option linter.all false
set_option maxRecDepth 100000
set_option maxHeartbeats 4000000
/-! Pl3: a law's world and the deeds that it finds possible. -/
namespace Mp.Pk
open PySem Mp

def wAsk (z : Ask × Nat) : PV := .lst [.int z.2, .int z.1.a, wdV z.1.w, .int z.1.n, .bl z.1.l]
def wAns (q : Nat × Int) : PV := .lst [natV q.1, .int q.2]
def kv (x : String) (v : PV) : PV × PV := (.str (PySem.Str.ofString x), v)
def wlV (o asks row elder under half next : PV) : PV := .dct [(.str (PySem.Str.ofString "open"), o), (.str (PySem.Str.ofString "asks"), asks), (.str (PySem.Str.ofString "row"), row), (.str (PySem.Str.ofString "elder"), elder), (.str (PySem.Str.ofString "under"), under), (.str (PySem.Str.ofString "half"), half), (.str (PySem.Str.ofString "next"), next)]
def worldV (s : St) : PV := wlV (.bl s.o) (.lst (s.asks.zipIdx.map wAsk)) (.lst (s.row.map natV)) (.lst (s.elder.map natV)) (.lst (s.under.map wAns)) (halfV s.half) (.int s.asks.length)
theorem wl_open (o a r e u h n : PV) (M : MH) : getI (wlV o a r e u h n) (.str (PySem.Str.ofString "open")) M = some o := by kernel_rfl
theorem wl_asks (o a r e u h n : PV) (M : MH) : getI (wlV o a r e u h n) (.str (PySem.Str.ofString "asks")) M = some a := by kernel_rfl
theorem wl_row (o a r e u h n : PV) (M : MH) : getI (wlV o a r e u h n) (.str (PySem.Str.ofString "row")) M = some r := by kernel_rfl
theorem wl_elder (o a r e u h n : PV) (M : MH) : getI (wlV o a r e u h n) (.str (PySem.Str.ofString "elder")) M = some e := by kernel_rfl
theorem wl_under (o a r e u h n : PV) (M : MH) : getI (wlV o a r e u h n) (.str (PySem.Str.ofString "under")) M = some u := by kernel_rfl
theorem wl_half (o a r e u h n : PV) (M : MH) : getI (wlV o a r e u h n) (.str (PySem.Str.ofString "half")) M = some h := by kernel_rfl
theorem wl_next (o a r e u h n : PV) (M : MH) : getI (wlV o a r e u h n) (.str (PySem.Str.ofString "next")) M = some n := by kernel_rfl
theorem wl_put (o a r e u h n : PV) : putD (.str (PySem.Str.ofString "next")) n (putD (.str (PySem.Str.ofString "half")) h (putD (.str (PySem.Str.ofString "under")) u (putD (.str (PySem.Str.ofString "elder")) e (putD (.str (PySem.Str.ofString "row")) r (putD (.str (PySem.Str.ofString "asks")) a (putD (.str (PySem.Str.ofString "open")) o [])))))) =
  [(.str (PySem.Str.ofString "open"), o), (.str (PySem.Str.ofString "asks"), a), (.str (PySem.Str.ofString "row"), r), (.str (PySem.Str.ofString "elder"), e), (.str (PySem.Str.ofString "under"), u), (.str (PySem.Str.ofString "half"), h), (.str (PySem.Str.ofString "next"), n)] := by kernel_rfl
@[simp] theorem evDsp_nil (E : Ev) (ρ : Rho) (acc : List (PV × PV)) (M : MH) : evDsp E [] [] ρ acc M = .val acc M := rfl
@[simp] theorem evDsp_str (P : MP) (C : Nat → List PV → MH → Out PV) (n : Nat) (k : PySem.Str) (ks : List ME) (v : ME) (vs : List ME) (ρ : Rho) (acc : List (PV × PV)) (M : MH) : evDsp (evT0 P C (n + 1)) (.lit (.str k) :: ks) (v :: vs) ρ acc M = ((evT0 P C (n + 1)).e v ρ M).bind fun y M2 => evDsp (evT0 P C (n + 1)) ks vs ρ (putD (.str k) y acc) M2 := rfl
theorem bin_add_l {x y : PV} {M : MH} {xs ys : List PV} (m : Bool) (hx : view M x = .lst xs) (hy : view M y = .lst ys) : binOp .add m x y M = newL m (xs ++ ys) M := by
  show (match view M x, view M y with
    | .int i, .int j => Out.val (PV.int (i + j)) M
    | .int i, .bl b => .val (.int (i + b2i b)) M
    | .str a, .str b => if a.length + b.length ≤ 1000000 then .val (.str (a ++ b)) M else .stuck
    | .tup xs, .tup ys => if xs.length + ys.length ≤ 1000000 then .val (.tup (xs ++ ys)) M else .stuck
    | .lst xs, .lst ys => newL m (xs ++ ys) M
    | _, _ => .stuck) = _
  rw [hx, hy]
theorem lst_nil {xs : List PV} {M : MH} (h : xs.all (okB 39 M) = true) : eqV M (.lst xs) (.lst []) = some xs.isEmpty := by
  rw [eqV_ok (show okB 40 M (.lst xs) = true from h) (show okB 40 M (.lst []) = true from rfl)]
  cases xs <;> rfl
theorem wans_ok (us : List (Nat × Int)) (M : MH) : (us.map wAns).all (okB 39 M) = true := List.all_eq_true.mpr fun x hx => by
  obtain ⟨q, _, rfl⟩ := List.mem_map.mp hx
  rfl
theorem nats_ok (us : List Nat) (M : MH) : (us.map natV).all (okB 39 M) = true := List.all_eq_true.mpr fun x hx => by
  obtain ⟨q, _, rfl⟩ := List.mem_map.mp hx
  rfl
/-- the deeds that a law finds possible -/
def dList (L : Ln) (s : St) : List Dd :=
  ((List.range L.askers.toNat).filter fun a : Nat => s.o && decide (((openOf s.asks (a : Int)).length : Int) < L.ahead)).map Dd.ask ++ ((if s.row.isEmpty then [] else [Dd.do_]) ++ ((if s.elder.isEmpty then [] else [Dd.late]) ++ ((if s.under.isEmpty then [] else [Dd.piece]) ++ (if s.o then (List.range (s.row.length + 1)).map Dd.cut else [Dd.open_]))))
theorem dList_can {L : Ln} {s : St} {x : Dd} (h : x ∈ dList L s) : ddOk L x ∧ canDo L s x = true := by
  unfold dList at h
  rcases List.mem_append.mp h with h | h
  · obtain ⟨a, h1, rfl⟩ := List.mem_map.mp h
    obtain ⟨h2, h3⟩ := List.mem_filter.mp h1
    have := List.mem_range.mp h2
    exact ⟨by show (a : Int) < L.askers; omega, h3⟩
  rcases List.mem_append.mp h with h | h
  · cases hr : s.row.isEmpty with
    | true => rw [hr] at h; simp at h
    | false => rw [hr] at h; simp at h; subst h; exact ⟨trivial, by unfold canDo; rw [hr]; rfl⟩
  rcases List.mem_append.mp h with h | h
  · cases hr : s.elder.isEmpty with
    | true => rw [hr] at h; simp at h
    | false => rw [hr] at h; simp at h; subst h; exact ⟨trivial, by unfold canDo; rw [hr]; rfl⟩
  rcases List.mem_append.mp h with h | h
  · cases hr : s.under.isEmpty with
    | true => rw [hr] at h; simp at h
    | false => rw [hr] at h; simp at h; subst h; exact ⟨trivial, by unfold canDo; rw [hr]; rfl⟩
  cases ho : s.o with
  | true =>
    rw [ho] at h
    simp at h
    obtain ⟨m, hm, rfl⟩ := h
    refine ⟨trivial, ?_⟩
    unfold canDo
    rw [ho]
    show (true && decide (m ≤ s.row.length)) = true
    rw [decide_eq_true (by omega)]
    rfl
  | false => rw [ho] at h; simp at h; subst h; exact ⟨trivial, by unfold canDo; rw [ho]; rfl⟩
theorem dList_ne (L : Ln) (s : St) : dList L s ≠ [] := by
  unfold dList
  intro h
  have h1 := (List.append_eq_nil_iff.mp h).2
  have h2 := (List.append_eq_nil_iff.mp h1).2
  have h3 := (List.append_eq_nil_iff.mp h2).2
  have h4 := (List.append_eq_nil_iff.mp h3).2
  cases ho : s.o with
  | true => rw [ho] at h4; simp at h4
  | false => rw [ho] at h4; simp at h4
theorem opens_len (asks : List Ask) (a : Int) : ((asks.zipIdx.filter fun z => decide (z.1.w = .op)).filter fun z => decide (z.1.a = a)).length = (openOf asks a).length := by
  unfold openOf openI
  rw [List.filter_map, List.length_map]
  congr 1
  refine List.filter_congr fun z hz => ?_
  have := aAt_of (zipIdx_mem (List.mem_filter.mp hz).1)
  show _ = decide ((aAt asks z.2).a = a)
  rw [this]
structure PlD (P : MP) : Prop extends PlC P where
  f49 : P.fns[49]? = some m__law_world
  f50 : P.fns[50]? = some m__law_first
  f51 : P.fns[51]? = some m__law_open
  f52 : P.fns[52]? = some m__law_deeds
section
variable {P : MP} (T : PlD P)
include T
theorem PlD.k49 : Cal P 49 1 := cal T.f49 rfl
theorem PlD.k50 : Cal P 50 0 := cal T.f50 rfl
theorem PlD.k51 : Cal P 51 1 := cal T.f51 rfl
theorem PlD.k52 : Cal P 52 2 := cal T.f52 rfl
theorem ev_lfirst (d : Nat) (M : MH) : evC P 30 (d + 1) 50 [] M = .val (stV firstS) M := by
  rw [evC_succ P 30 d 50 _ M T.f50 rfl]
  simp [m__law_first]
  rfl
theorem cp_lfirst (d : Nat) (M : MH) : callP (evC P 30 (d + 1)) 50 [] M = .val (stV firstS) M := callP_ok rfl (ev_lfirst T d []) (st_pure _ 45)
theorem wpure (s : St) (k : Nat) : pureB (k + 4) (worldV s) = true := by
  have h1 : (s.asks.zipIdx.map wAsk).all (pureB (k + 2)) = true := List.all_eq_true.mpr fun x hx => by
    obtain ⟨z, _, rfl⟩ := List.mem_map.mp hx
    simp only [wAsk, pure_lst, List.all_cons, List.all_nil, pure_int, wd_pure z.1.w k, pure_bl, Bool.and_self]
  have h2 : (s.under.map wAns).all (pureB (k + 2)) = true := List.all_eq_true.mpr fun x hx => by
    obtain ⟨z, _, rfl⟩ := List.mem_map.mp hx
    rfl
  have h3 := nats_pure s.row (k + 1)
  have h4 := nats_pure s.elder (k + 1)
  have h5 := half_pure s.half (k + 2)
  show List.all _ (fun p : PV × PV => pureB (k + 3) p.1 && pureB (k + 3) p.2) = true
  simp only [List.all_cons, List.all_nil, pure_str, pure_bl, pure_lst, pure_int, h1, h2, h3, h4, h5, Bool.and_self]
theorem ev_world (d : Nat) (s : St) (ha : s.asks.length ≤ 1000) (hr : s.row.length ≤ 1000) (he : s.elder.length ≤ 1000) (hu : s.under.length ≤ 1000) (M : MH) : evC P 30 (d + 1) 49 [stV s] M = .val (worldV s) M := by
  rw [evC_succ P 30 d 49 _ M T.f49 rfl]
  have g0 : getI (stV s) (.int 0) M = some (.bl s.o) := getI_t0 _ _ _
  have g1 : getI (stV s) (.int 1) M = some (.tup (s.asks.map askV)) := getI_t1 _ _ _ _
  have g2 : getI (stV s) (.int 2) M = some (.tup (s.row.map natV)) := getI_t2 _ _ _ _ _
  have g3 : getI (stV s) (.int 3) M = some (.tup (s.elder.map natV)) := getI_t3 _ _ _ _ _ _
  have g4 : getI (stV s) (.int 4) M = some (.tup (s.under.map ansV)) := getI_t4 _ _ _ _ _ _ _
  have g5 : getI (stV s) (.int 5) M = some (halfV s.half) := getI_t5 _ _ _ _ _ _ _ _
  obtain ⟨σ, hσ⟩ : ∃ σ, σ = stV s := ⟨_, rfl⟩
  have e0 : ∀ j, lcL (evT0 P (evC P 30 d) (j + 5)) (.lst false [(false, (.var 2)), (false, (.idx (.var 3) (.lit (.int 0)))), (false, (.idx (.var 3) (.lit (.int 1)))), (false, (.idx (.var 3) (.lit (.int 2)))), (false, (.idx (.var 3) (.lit (.int 3))))]) (.tup [(.nm 2), (.nm 3)]) [] [some (stV s), none, none, none, none] (srcLen M (.enum true (.tup (s.asks.map askV))) + 1) 0 (.enum true (.tup (s.asks.map askV))) [] M = .val (s.asks.zipIdx.map wAsk) M := by
    intro j
    refine lcL_all (inj := fun z : Ask × Nat => .tup [.int z.2, askV z.1]) (srcEnum rfl) (by rw [List.length_zipIdx]; omega) fun z hz => ⟨_, rfl, ?_⟩
    have q0 : getI (askV z.1) (.int 0) M = some (.int z.1.a) := getI_t0 _ _ _
    have q1 : getI (askV z.1) (.int 1) M = some (wdV z.1.w) := getI_t1 _ _ _ _
    have q2 : getI (askV z.1) (.int 2) M = some (.int z.1.n) := getI_t2 _ _ _ _ _
    have q3 : getI (askV z.1) (.int 3) M = some (.bl z.1.l) := getI_t3 _ _ _ _ _ _
    simp [q0, q1, q2, q3, newL, wAsk]
  have n0 : (s.asks.zipIdx.map wAsk).length ≤ 1000000 := by rw [List.length_map, List.length_zipIdx]; omega
  have s1 : stepS (evT0 P (evC P 30 d) 29) (.asg (.nm 1) (.lc false [2, 3] (.lst false [(false, (.var 2)), (false, (.idx (.var 3) (.lit (.int 0)))), (false, (.idx (.var 3) (.lit (.int 1)))), (false, (.idx (.var 3) (.lit (.int 2)))), (false, (.idx (.var 3) (.lit (.int 3))))]) (.tup [(.nm 2), (.nm 3)]) (.enum (.idx (.var 0) (.lit (.int 1)))) [])) [some (stV s), none, none, none, none] M = .nx [some (stV s), some (.lst (s.asks.zipIdx.map wAsk)), none, none, none] M := by
    simp [-List.map_map, g1, wipeR, e0, newL_f n0]
  have e1 : ∀ j, lcL (evT0 P (evC P 30 d) (j + 5)) (.blt .list false [(.var 4)]) (.nm 4) [] [some (stV s), some (.lst (s.asks.zipIdx.map wAsk)), none, none, none] (srcLen M (.sq true (.tup (s.under.map ansV))) + 1) 0 (.sq true (.tup (s.under.map ansV))) [] M = .val (s.under.map wAns) M := by
    intro j
    refine lcL_all (src_tup s.under ansV M) (by omega) fun z hz => ⟨_, rfl, ?_⟩
    simp [ansV, bList_tup, newL, wAns]
  have n1 : (s.under.map wAns).length ≤ 1000000 := by rw [List.length_map]; omega
  have n2 := newL_f (xs := s.row.map natV) (M := M) (by rw [List.length_map]; omega)
  have n3 := newL_f (xs := s.elder.map natV) (M := M) (by rw [List.length_map]; omega)
  have n4 := newL_f (M := M) n1
  have bl : bltF .len false [.lst (s.asks.zipIdx.map wAsk)] M = .val (.int s.asks.length) M := by rw [bLen_lst, List.length_map, List.length_zipIdx]
  have pt := wl_put (.bl s.o) (.lst (s.asks.zipIdx.map wAsk)) (.lst (s.row.map natV)) (.lst (s.elder.map natV)) (.lst (s.under.map wAns)) (halfV s.half) (.int s.asks.length)
  have b0 : m__law_world.body = [.asg (.nm 1) (.lc false [2, 3] (.lst false [(false, (.var 2)), (false, (.idx (.var 3) (.lit (.int 0)))), (false, (.idx (.var 3) (.lit (.int 1)))), (false, (.idx (.var 3) (.lit (.int 2)))), (false, (.idx (.var 3) (.lit (.int 3))))]) (.tup [(.nm 2), (.nm 3)]) (.enum (.idx (.var 0) (.lit (.int 1)))) [])] ++ m__law_world.body.drop 1 := rfl
  change (ssL (evT0 P (evC P 30 d) 30) m__law_world.body [some (stV s), none, none, none, none] M).fin = _
  rw [b0, List.singleton_append, ssL_cons, ev_s, s1, seq_nx]
  simp [-List.map_map, -bLen_lst, m__law_world, bl, g0, g2, g3, g4, g5, bList_tup, n2, n3, n4, kindS_tup, wipeR, e1, newD, pt, worldV, wlV]
theorem cp_world (d : Nat) (s : St) (ha : s.asks.length ≤ 1000) (hr : s.row.length ≤ 1000) (he : s.elder.length ≤ 1000) (hu : s.under.length ≤ 1000) (M : MH) : callP (evC P 30 (d + 1)) 49 [stV s] M = .val (worldV s) M :=
  callP_ok (by simp only [List.all_cons, List.all_nil, st_pure s 45, Bool.and_self]) (ev_world T d s ha hr he hu []) (wpure T s 46)
theorem ev_open (d : Nat) (s : St) (ha : s.asks.length ≤ 1000) (M : MH) : evC P 30 (d + 1) 51 [worldV s] M = .val (.lst ((s.asks.zipIdx.filter fun z => decide (z.1.w = .op)).map wAsk)) M := by
  rw [evC_succ P 30 d 51 _ M T.f51 rfl]
  have g : getI (worldV s) (.str (PySem.Str.ofString "asks")) M = some (.lst (s.asks.zipIdx.map wAsk)) := wl_asks _ _ _ _ _ _ _ M
  have e0 : ∀ j, lcL (evT0 P (evC P 30 d) (j + 5)) (.var 1) (.nm 1) [(.cmp .eq (.idx (.var 1) (.lit (.int 2))) (.lit (.str (PySem.Str.ofString "open"))))] [some (worldV s), none] (srcLen M (.sq false (.lst (s.asks.zipIdx.map wAsk))) + 1) 0 (.sq false (.lst (s.asks.zipIdx.map wAsk))) [] M = .val ((s.asks.zipIdx.filter fun z => decide (z.1.w = .op)).map wAsk) M := by
    intro j
    refine lcL_items (src_lst _ _ M) (by rw [List.length_zipIdx]; omega) fun z hz => ⟨_, rfl, ?_, fun _ => by simp⟩
    have q2 : getI (wAsk z) (.int 2) M = some (wdV z.1.w) := getI_l2 _ _ _ _ _
    have w := wd_open z.1.w M
    simp [q2, w]
  have n0 : ((s.asks.zipIdx.filter fun z => decide (z.1.w = .op)).map wAsk).length ≤ 1000000 := by
    rw [List.length_map]
    refine Nat.le_trans (List.length_filter_le _ _) ?_
    rw [List.length_zipIdx]
    omega
  have vw : view M (worldV s) = worldV s := rfl
  simp [-List.map_map, m__law_open, g, kindS_lst, wipeR, e0, newL_f n0]
theorem wasks_pure (zs : List (Ask × Nat)) (k : Nat) : (zs.map wAsk).all (pureB (k + 2)) = true := List.all_eq_true.mpr fun x hx => by
  obtain ⟨z, _, rfl⟩ := List.mem_map.mp hx
  simp only [wAsk, pure_lst, List.all_cons, List.all_nil, pure_int, wd_pure z.1.w k, pure_bl, Bool.and_self]
theorem cp_open (d : Nat) (s : St) (ha : s.asks.length ≤ 1000) (M : MH) : callP (evC P 30 (d + 1)) 51 [worldV s] M = .val (.lst ((s.asks.zipIdx.filter fun z => decide (z.1.w = .op)).map wAsk)) M :=
  callP_ok (by simp only [List.all_cons, List.all_nil, wpure T s 46, Bool.and_self]) (ev_open T d s ha []) (by simp only [pure_lst, wasks_pure T _ 47])
end
end Mp.Pk
end

section
set_option Elab.async false
set_option linter.all false
set_option maxRecDepth 100000
set_option maxHeartbeats 4000000
/-! Pl4: the deeds that a law finds possible. -/
namespace Mp.Pk
open PySem Mp

@[simp] theorem view_pl (L : Ln) (M : MH) : view M (plV L) = plV L := rfl
@[simp] theorem view_world (s : St) (M : MH) : view M (worldV s) = worldV s := rfl
theorem rngK_nat (n : Nat) (h : n < 1000000) (M : MH) : qRngK [.int (n : Int)] M = .val (.rng 0 n) M := by
  show (if -4611686018427387904 ≤ (n : Int) ∧ (n : Int) < 4611686018427387904 then Out.val (Src.rng 0 (n : Int).toNat) M else .stuck) = _
  rw [if_pos (by omega), Int.toNat_natCast]
section
variable {P : MP} (T : PlD P)
include T
theorem ev_deeds (d : Nat) (L : Ln) (hL : L.Ok) (s : St) (ha : s.asks.length ≤ 1000) (hr : s.row.length ≤ 1000) (he : s.elder.length ≤ 1000) (hu : s.under.length ≤ 1000) :
    ∃ M', evC P 30 (d + 2) 52 [plV L, worldV s] [] = .val (.lst ((dList L s).map ddV)) M' := by
  rw [evC_succ P 30 (d + 1) 52 _ [] T.f52 rfl]
  have p0 : ∀ M, getI (plV L) (.int 0) M = some (.int L.askers) := fun M => getI_t0 _ _ _
  have p1 : ∀ M, getI (plV L) (.int 1) M = some (.int L.ahead) := fun M => getI_t1 _ _ _ _
  obtain ⟨k, hk, hk2⟩ : ∃ k : Nat, L.askers = k ∧ k ≤ 2 := by
    rcases hL.a with h | h
    · exact ⟨1, h, by omega⟩
    · exact ⟨2, h, by omega⟩
  have wo := wl_open (.bl s.o) (.lst (s.asks.zipIdx.map wAsk)) (.lst (s.row.map natV)) (.lst (s.elder.map natV)) (.lst (s.under.map wAns)) (halfV s.half) (.int s.asks.length)
  have wr := wl_row (.bl s.o) (.lst (s.asks.zipIdx.map wAsk)) (.lst (s.row.map natV)) (.lst (s.elder.map natV)) (.lst (s.under.map wAns)) (halfV s.half) (.int s.asks.length)
  have we := wl_elder (.bl s.o) (.lst (s.asks.zipIdx.map wAsk)) (.lst (s.row.map natV)) (.lst (s.elder.map natV)) (.lst (s.under.map wAns)) (halfV s.half) (.int s.asks.length)
  have wu := wl_under (.bl s.o) (.lst (s.asks.zipIdx.map wAsk)) (.lst (s.row.map natV)) (.lst (s.elder.map natV)) (.lst (s.under.map wAns)) (halfV s.half) (.int s.asks.length)
  change ∀ M, getI (worldV s) _ M = _ at wo wr we wu
  have co := cp_open T d s ha
  have vw : ∀ M, view M (worldV s) = worldV s := fun _ => rfl
  obtain ⟨ω, hω⟩ : ∃ ω, ω = worldV s := ⟨_, rfl⟩
  rw [← hω] at wo wr we wu co vw ⊢
  obtain ⟨f, hf⟩ : ∃ f : Nat → Bool, f = fun a : Nat => s.o && decide (((openOf s.asks (a : Int)).length : Int) < L.ahead) := ⟨_, rfl⟩
  have ed : dList L s = ((List.range k).filter f).map Dd.ask ++ ((if s.row.isEmpty then [] else [Dd.do_]) ++ ((if s.elder.isEmpty then [] else [Dd.late]) ++ ((if s.under.isEmpty then [] else [Dd.piece]) ++ (if s.o then (List.range (s.row.length + 1)).map Dd.cut else [Dd.open_])))) := by
    unfold dList
    rw [hf, hk, Int.toNat_natCast]
  rw [ed]
  have s1 : stepS (evT0 P (evC P 30 (d + 1)) 29) (.asg (.nm 2) (.lst true [])) [some (plV L), some ω, none, none, none, none] [] = .nx [some (plV L), some ω, some (.ref 0), none, none, none] [.lst []] := by
    simp [newL]
  generalize hbd : ([.asg (.nm 4) (.blt .len false [(.lc false [5] (.var 5) (.nm 5) (.seq (.call 51 true [(.var 1)])) [(.cmp .eq (.idx (.var 5) (.lit (.int 1))) (.var 3))])]), .ifs (.and [(.idx (.var 1) (.lit (.str (PySem.Str.ofString "open")))), (.cmp .lt (.var 4) (.idx (.var 0) (.lit (.int 1))))]) [.expr (.bm .append (.var 2) [(.tup [(false, (.lit (.str (PySem.Str.ofString "ask")))), (false, (.var 3))])])] []] : List MS) = bd
  have turn : ∀ (a : Nat) (xs : List PV) (x4 x5 : Option PV), xs.length < 1000000 → ∃ y4 y5, ssL (evT0 P (evC P 30 (d + 1)) 29) bd [some (plV L), some ω, some (.ref 0), some (.int (0 + (a : Nat))), x4, x5] [.lst xs]
      = .nx [some (plV L), some ω, some (.ref 0), some (.int (0 + (a : Nat))), y4, y5] [.lst (if f a then xs ++ [ddV (.ask a)] else xs)] := by
    intro a xs x4 x5 hx
    rw [Int.zero_add]
    have il : isLst (.ref 0) [.lst xs] = true := rfl
    have ap := fun y => app_ref (M := [.lst xs]) (n := 0) (xs := xs) rfl hx y
    obtain ⟨opn, hopn⟩ : ∃ opn, opn = s.asks.zipIdx.filter fun z => decide (z.1.w = .op) := ⟨_, rfl⟩
    have ol : opn.length ≤ 1000 := by
      rw [hopn]
      refine Nat.le_trans (List.length_filter_le _ _) ?_
      rw [List.length_zipIdx]
      exact ha
    have cnt : (opn.filter fun z => decide (z.1.a = (a : Int))).length = (openOf s.asks (a : Int)).length := by rw [hopn]; exact opens_len s.asks a
    have fa : f a = (s.o && decide (((openOf s.asks (a : Int)).length : Int) < L.ahead)) := by rw [hf]
    rw [← cnt] at fa
    have cox := co [.lst xs]
    rw [← hopn] at cox
    have e0 : ∀ j x4, lcL (evT0 P (evC P 30 (d + 1)) (j + 5)) (.var 5) (.nm 5) [(.cmp .eq (.idx (.var 5) (.lit (.int 1))) (.var 3))] [some (plV L), some ω, some (.ref 0), some (.int (a : Nat)), x4, none] (srcLen [.lst xs] (.sq false (.lst (opn.map wAsk))) + 1) 0 (.sq false (.lst (opn.map wAsk))) [] [.lst xs] = .val ((opn.filter fun z => decide (z.1.a = (a : Int))).map wAsk) [.lst xs] := by
      intro j x4
      refine lcL_items (src_lst _ _ _) (by omega) fun z hz => ⟨_, rfl, ?_, fun _ => by simp⟩
      have q1 : getI (wAsk z) (.int 1) [.lst xs] = some (.int z.1.a) := getI_l1 _ _ _ _
      have qe := eq_int z.1.a a [.lst xs]
      simp [q1, qe]
    have nf : ((opn.filter fun z => decide (z.1.a = (a : Int))).map wAsk).length ≤ 1000000 := by
      rw [List.length_map]
      have := List.length_filter_le (fun z : Ask × Nat => decide (z.1.a = (a : Int))) opn
      omega
    generalize hC : opn.filter (fun z => decide (z.1.a = (a : Int))) = C at fa e0 nf
    have bl : bltF .len false [.lst (C.map wAsk)] [.lst xs] = .val (.int C.length) [.lst xs] := by rw [bLen_lst, List.length_map]
    refine ⟨some (.int C.length), x5, ?_⟩
    rw [← hbd, fa]
    have t1 : stepS (evT0 P (evC P 30 (d + 1)) 28) (.asg (.nm 4) (.blt .len false [(.lc false [5] (.var 5) (.nm 5) (.seq (.call 51 true [(.var 1)])) [(.cmp .eq (.idx (.var 5) (.lit (.int 1))) (.var 3))])])) [some (plV L), some ω, some (.ref 0), some (.int (a : Nat)), x4, x5] [.lst xs] = .nx [some (plV L), some ω, some (.ref 0), some (.int (a : Nat)), some (.int C.length), x5] [.lst xs] := by
      simp [-List.map_map, -bLen_lst, stepE_callT, T.k51, cox, kindS_lst, wipeR, e0, newL_f nf, bl]
    rw [ssL_cons, ev_s, t1, seq_nx]
    have wo' := wo [.lst xs]
    have p1' := p1 [.lst xs]
    generalize hB : decide ((C.length : Int) < L.ahead) = B
    cases ho : s.o with
    | false => rw [ho] at wo'; simp [wo']
    | true =>
      rw [ho] at wo'
      cases B with
      | false =>
        have : ¬ ((C.length : Int) < L.ahead) := of_decide_eq_false hB
        simp [wo', p1', this]
      | true =>
        have : (C.length : Int) < L.ahead := of_decide_eq_true hB
        simp [wo', p1', this, il, ap, ddV]
  obtain ⟨ρ, M', h1, h2, x3, x4, x5, h3⟩ := forL_all (s := .rng 0 k) (inj := fun i : Nat => PV.int (0 + (i : Nat))) (E := evT0 P (evC P 30 (d + 1)) 29) (t := .nm 3) (body := ssL (evT0 P (evC P 30 (d + 1)) 29) bd) (L := List.range k)
    (st := fun pre ρ M' => M' = [.lst ((pre.filter f).map fun a => ddV (.ask a))] ∧ ∃ x3 x4 x5, ρ = [some (plV L), some ω, some (.ref 0), x3, x4, x5])
    (ρ := [some (plV L), some ω, some (.ref 0), none, none, none]) (M := [.lst []])
    (fun pre ρ M' h => srcRng 0 k) (fun pre a post ρ M' hR h => by
      obtain ⟨rfl, x3, x4, x5, rfl⟩ := h
      refine ⟨_, _, rfl, ?_⟩
      have hlen : ((pre.filter f).map fun a => ddV (.ask a)).length < 1000000 := by
        have : (List.range k).length = pre.length + (post.length + 1) := by rw [hR]; simp
        rw [List.length_range] at this
        have := List.length_filter_le f pre
        rw [List.length_map]
        omega
      obtain ⟨y4, y5, ht⟩ := turn a _ x4 x5 hlen
      refine ⟨_, _, .inl ht, ?_, _, _, _, rfl⟩
      rw [List.filter_append, List.map_append]
      cases hfa : f a <;> simp [List.filter, hfa]) ⟨rfl, none, none, none, rfl⟩
  subst h2 h3
  obtain ⟨l0, hl0⟩ : ∃ l0 : List PV, l0 = ((List.range k).filter f).map fun a => ddV (.ask a) := ⟨_, rfl⟩
  rw [← hl0] at h1
  have l0n : l0.length ≤ 2 := by
    rw [hl0, List.length_map]
    refine Nat.le_trans (List.length_filter_le _ _) ?_
    rw [List.length_range]
    exact hk2
  have s2 : stepS (evT0 P (evC P 30 (d + 1)) 29) (.for_ (.nm 3) (.rng1 (.idx (.var 0) (.lit (.int 0)))) bd) [some (plV L), some ω, some (.ref 0), none, none, none] [.lst []] = .nx [some (plV L), some ω, some (.ref 0), x3, x4, x5] [.lst l0] := by
    have ei : evIt (evT0 P (evC P 30 (d + 1)) 29) (.rng1 (.idx (.var 0) (.lit (.int 0)))) [some (plV L), some ω, some (.ref 0), none, none, none] [.lst []] = .val (.rng 0 k) [.lst []] := by
      have e1 : (evT0 P (evC P 30 (d + 1)) 29).e (.idx (.var 0) (.lit (.int 0))) [some (plV L), some ω, some (.ref 0), none, none, none] [.lst []] = .val (.int (k : Int)) [.lst []] := by
        rw [← hk]
        simp [p0]
      rw [evIt_rng1, evArgs_cons, e1, bind_val, evArgs_nil, bind_val, bind_val, rngK_nat k (by omega)]
    rw [stepS_for, ei, outS_val, h1]
  obtain ⟨l1, hl1⟩ : ∃ l1 : List PV, l1 = l0 ++ ((if s.row.isEmpty then [] else [ddV .do_]) ++ (if s.elder.isEmpty then [] else [ddV .late])) := ⟨_, rfl⟩
  have l1n : l1.length ≤ 4 := by
    rw [hl1]
    cases s.row.isEmpty <;> cases s.elder.isEmpty <;> simp <;> omega
  have s3 : stepS (evT0 P (evC P 30 (d + 1)) 29) (.asg (.nm 2) (.bin .add true (.bin .add false (.var 2) (.ite (.cmp .ne (.idx (.var 1) (.lit (.str (PySem.Str.ofString "row")))) (.lst false [])) (.lst false [(false, (.tup [(false, (.lit (.str (PySem.Str.ofString "do"))))]))]) (.lst false []))) (.ite (.cmp .ne (.idx (.var 1) (.lit (.str (PySem.Str.ofString "elder")))) (.lst false [])) (.lst false [(false, (.tup [(false, (.lit (.str (PySem.Str.ofString "late"))))]))]) (.lst false [])))) [some (plV L), some ω, some (.ref 0), x3, x4, x5] [.lst l0]
      = .nx [some (plV L), some ω, some (.ref 1), x3, x4, x5] [.lst l0, .lst l1] := by
    have n1 := lst_nil (nats_ok s.row [.lst l0])
    have n2 := lst_nil (nats_ok s.elder [.lst l0])
    have ie1 : (s.row.map natV).isEmpty = s.row.isEmpty := by cases s.row <;> rfl
    have ie2 : (s.elder.map natV).isEmpty = s.elder.isEmpty := by cases s.elder <;> rfl
    rw [ie1] at n1
    rw [ie2] at n2
    have wr' := wr [.lst l0]
    have we' := we [.lst l0]
    have ad : ∀ (x : List PV) (m : Bool), binOp .add m (.ref 0) (.lst x) [.lst l0] = newL m (l0 ++ x) [.lst l0] := fun x m => bin_add_l m rfl rfl
    have ad2 : ∀ (x y : List PV) (m : Bool), binOp .add m (.lst x) (.lst y) [.lst l0] = newL m (x ++ y) [.lst l0] := fun x y m => bin_add_l m rfl rfl
    subst hl1
    have hz : ∀ n, n ≤ 2 → l0.length + n ≤ 1000000 := fun n _ => by omega
    have hz0 : l0.length ≤ 1000000 := by omega
    cases h1 : s.row.isEmpty <;> cases h2 : s.elder.isEmpty <;> rw [h1] at n1 <;> rw [h2] at n2 <;> simp [wr', we', n1, n2, ad, ad2, newL, ddV, hz, hz0]
  obtain ⟨l2, hl2⟩ : ∃ l2 : List PV, l2 = l1 ++ (if s.under.isEmpty then [] else [ddV .piece]) := ⟨_, rfl⟩
  have l2n : l2.length ≤ 5 := by
    rw [hl2]
    cases s.under.isEmpty <;> simp <;> omega
  have s4 : stepS (evT0 P (evC P 30 (d + 1)) 29) (.asg (.nm 2) (.bin .add true (.var 2) (.ite (.cmp .ne (.idx (.var 1) (.lit (.str (PySem.Str.ofString "under")))) (.lst false [])) (.lst false [(false, (.tup [(false, (.lit (.str (PySem.Str.ofString "piece"))))]))]) (.lst false [])))) [some (plV L), some ω, some (.ref 1), x3, x4, x5] [.lst l0, .lst l1]
      = .nx [some (plV L), some ω, some (.ref 2), x3, x4, x5] [.lst l0, .lst l1, .lst l2] := by
    have n1 := lst_nil (wans_ok s.under [.lst l0, .lst l1])
    have ie1 : (s.under.map wAns).isEmpty = s.under.isEmpty := by cases s.under <;> rfl
    rw [ie1] at n1
    have wu' := wu [.lst l0, .lst l1]
    have ad : ∀ (x : List PV) (m : Bool), binOp .add m (.ref 1) (.lst x) [.lst l0, .lst l1] = newL m (l1 ++ x) [.lst l0, .lst l1] := fun x m => bin_add_l m rfl rfl
    subst hl2
    have hz : l1.length + 1 ≤ 1000000 := by omega
    have hz0 : l1.length ≤ 1000000 := by omega
    cases h1 : s.under.isEmpty <;> rw [h1] at n1 <;> simp [wu', n1, ad, newL, ddV, hz, hz0]
  have b0 : m__law_deeds.body = [.asg (.nm 2) (.lst true []), .for_ (.nm 3) (.rng1 (.idx (.var 0) (.lit (.int 0)))) bd,
  .asg (.nm 2) (.bin .add true (.bin .add false (.var 2) (.ite (.cmp .ne (.idx (.var 1) (.lit (.str (PySem.Str.ofString "row")))) (.lst false [])) (.lst false [(false, (.tup [(false, (.lit (.str (PySem.Str.ofString "do"))))]))]) (.lst false []))) (.ite (.cmp .ne (.idx (.var 1) (.lit (.str (PySem.Str.ofString "elder")))) (.lst false [])) (.lst false [(false, (.tup [(false, (.lit (.str (PySem.Str.ofString "late"))))]))]) (.lst false []))),
  .asg (.nm 2) (.bin .add true (.var 2) (.ite (.cmp .ne (.idx (.var 1) (.lit (.str (PySem.Str.ofString "under")))) (.lst false [])) (.lst false [(false, (.tup [(false, (.lit (.str (PySem.Str.ofString "piece"))))]))]) (.lst false []))),
  .ifs (.not (.idx (.var 1) (.lit (.str (PySem.Str.ofString "open"))))) [.ret (.bin .add false (.var 2) (.lst false [(false, (.tup [(false, (.lit (.str (PySem.Str.ofString "open"))))]))]))] [],
  .ret (.bin .add false (.var 2) (.lc false [4] (.tup [(false, (.lit (.str (PySem.Str.ofString "cut")))), (false, (.var 4))]) (.nm 4) (.rng1 (.bin .add false (.blt .len false [(.idx (.var 1) (.lit (.str (PySem.Str.ofString "row"))))]) (.lit (.int 1)))) []))] := by rw [← hbd]; rfl
  change ∃ M', (ssL (evT0 P (evC P 30 (d + 1)) 30) m__law_deeds.body [some (plV L), some ω, none, none, none, none] []).fin = _
  rw [b0, ssL_cons, ev_s, s1, seq_nx, ssL_cons, ev_s, s2, seq_nx, ssL_cons, ev_s, s3, seq_nx, ssL_cons, ev_s, s4, seq_nx]
  obtain ⟨M', hM⟩ : ∃ M' : MH, M' = [.lst l0, .lst l1, .lst l2] := ⟨_, rfl⟩
  have v2 : view M' (.ref 2) = .lst l2 := by rw [hM]; rfl
  have wo' := wo M'
  have wr' := wr M'
  have ad : ∀ (x : List PV), l2.length + x.length ≤ 1000000 → binOp .add false (.ref 2) (.lst x) M' = .val (.lst (l2 ++ x)) M' := fun x hx => by rw [bin_add_l false v2 rfl, newL_f (by rw [List.length_append]; exact hx)]
  rw [← hM]
  refine ⟨M', ?_⟩
  have el : (((List.range k).filter f).map Dd.ask ++ ((if s.row.isEmpty then [] else [Dd.do_]) ++ ((if s.elder.isEmpty then [] else [Dd.late]) ++ ((if s.under.isEmpty then [] else [Dd.piece]) ++ (if s.o then (List.range (s.row.length + 1)).map Dd.cut else [Dd.open_]))))).map ddV = l2 ++ (if s.o then ((List.range (s.row.length + 1)).map fun m : Nat => ddV (.cut m)) else [ddV .open_]) := by
    rw [hl2, hl1, hl0]
    generalize s.row.isEmpty = b1
    generalize s.elder.isEmpty = b2
    generalize s.under.isEmpty = b3
    generalize s.o = b4
    simp only [List.map_append, List.map_map, List.append_assoc]
    cases b1 <;> cases b2 <;> cases b3 <;> cases b4 <;> simp only [Bool.false_eq_true, if_true, if_false, List.map_cons, List.map_nil, List.map_map] <;> rfl
  rw [el]
  cases ho : s.o with
  | false =>
    rw [ho] at wo'
    have := ad [ddV .open_] (by simp; omega)
    change binOp .add false (.ref 2) (.lst [.tup [.str (PySem.Str.ofString "open")]]) M' = _ at this
    simp [wo', newL, this]
  | true =>
    rw [ho] at wo'
    have bl : bltF .len false [.lst (s.row.map natV)] M' = .val (.int s.row.length) M' := by rw [bLen_lst, List.length_map]
    have rk := rngK_nat (s.row.length + 1) (by omega) M'
    have e0 : ∀ j, lcL (evT0 P (evC P 30 (d + 1)) (j + 5)) (.tup [(false, (.lit (.str (PySem.Str.ofString "cut")))), (false, (.var 4))]) (.nm 4) [] [some (plV L), some ω, some (.ref 2), x3, none, x5] (srcLen M' (.rng 0 (s.row.length + 1)) + 1) 0 (.rng 0 (s.row.length + 1)) [] M' = .val ((List.range (s.row.length + 1)).map fun m : Nat => ddV (.cut m)) M' := by
      intro j
      refine lcL_all (srcRng 0 (s.row.length + 1)) (by rw [List.length_range]; omega) fun m hm => ⟨_, rfl, ?_⟩
      simp [ddV]
    have nl := newL_f (xs := (List.range (s.row.length + 1)).map fun m : Nat => ddV (.cut m)) (M := M') (by rw [List.length_map, List.length_range]; omega)
    have := ad ((List.range (s.row.length + 1)).map fun m : Nat => ddV (.cut m)) (by rw [List.length_map, List.length_range]; omega)
    rw [show ((s.row.length + 1 : Nat) : Int) = (s.row.length : Int) + 1 from by omega] at rk
    have ei : evIt (evT0 P (evC P 30 (d + 1)) 27) (.rng1 (.bin .add false (.blt .len false [(.idx (.var 1) (.lit (.str (PySem.Str.ofString "row"))))]) (.lit (.int 1)))) [some (plV L), some ω, some (.ref 2), x3, x4, x5] M' = .val (.rng 0 (s.row.length + 1)) M' := by
      have e1 : (evT0 P (evC P 30 (d + 1)) 27).e (.bin .add false (.blt .len false [(.idx (.var 1) (.lit (.str (PySem.Str.ofString "row"))))]) (.lit (.int 1))) [some (plV L), some ω, some (.ref 2), x3, x4, x5] M' = .val (.int ((s.row.length : Int) + 1)) M' := by
        simp [-List.map_map, -bLen_lst, wr', bl]
      rw [evIt_rng1, evArgs_cons, e1, bind_val, evArgs_nil, bind_val, bind_val, rk]
    have s5 : stepS (evT0 P (evC P 30 (d + 1)) 29) (.ifs (.not (.idx (.var 1) (.lit (.str (PySem.Str.ofString "open"))))) [.ret (.bin .add false (.var 2) (.lst false [(false, (.tup [(false, (.lit (.str (PySem.Str.ofString "open"))))]))]))] []) [some (plV L), some ω, some (.ref 2), x3, x4, x5] M' = .nx [some (plV L), some ω, some (.ref 2), x3, x4, x5] M' := by
      simp [wo']
    have e2 : (evT0 P (evC P 30 (d + 1)) 28).e (.lc false [4] (.tup [(false, (.lit (.str (PySem.Str.ofString "cut")))), (false, (.var 4))]) (.nm 4) (.rng1 (.bin .add false (.blt .len false [(.idx (.var 1) (.lit (.str (PySem.Str.ofString "row"))))]) (.lit (.int 1)))) []) [some (plV L), some ω, some (.ref 2), x3, x4, x5] M' = .val (.lst ((List.range (s.row.length + 1)).map fun m : Nat => ddV (.cut m))) M' := by
      rw [ev_e, stepE_lc, ei, bind_val]
      show ((lcL (evT0 P (evC P 30 (d + 1)) 27) _ _ _ [some (plV L), some ω, some (.ref 2), x3, none, x5] _ 0 _ [] M').bind _) = _
      rw [e0 22, bind_val, nl]
    have ev2 : (evT0 P (evC P 30 (d + 1)) 28).e (.var 2) [some (plV L), some ω, some (.ref 2), x3, x4, x5] M' = .val (.ref 2) M' := by simp
    rw [ssL_cons, ev_s, s5, seq_nx, ssL_cons, ev_s, stepS_ret, ev_e, stepE_bin, ev2, bind_val, e2, bind_val, this, outS_val, seq_rt, fin_rt]
    rfl
theorem cp_deeds (d : Nat) (L : Ln) (hL : L.Ok) (s : St) (ha : s.asks.length ≤ 1000) (hr : s.row.length ≤ 1000) (he : s.elder.length ≤ 1000) (hu : s.under.length ≤ 1000) (M : MH) :
    callP (evC P 30 (d + 2)) 52 [plV L, worldV s] M = .val (.lst ((dList L s).map ddV)) M := by
  obtain ⟨M', e⟩ := ev_deeds T d L hL s ha hr he hu
  refine callP_ok (by simp only [List.all_cons, List.all_nil, pl_pure L 47, wpure T s 46, Bool.and_self]) e ?_
  rw [pure_lst]
  exact List.all_eq_true.mpr fun x hx => by
    obtain ⟨y, _, rfl⟩ := List.mem_map.mp hx
    exact dd_pure y 47
end
end Mp.Pk
end

section
set_option Elab.async false
set_option linter.all false
set_option maxRecDepth 1000000
set_option maxHeartbeats 4000000
namespace Mp.K02
open PySem L2 Mp
/-! defs: law _law_right _law_plain _law_number _law_line _law_first first_state _law_deeds _law_world after is_state _law_is_state done_counts _law_bent check_line _law_open check_deed outcome is_state_of _law_is_ask _law_are_parts check_state check_asker open_of is_deed can_do taken_up open_asks read cut tidied is_ask are_parts left_in _law_is_number _law_is_row _law_are_answers is_number awaiting with_word lost_by is_word is_row are_answers are_marks -/
def m_law : MFn := ⟨1, 3, [], [
  .asg (.nm 1) (.lst false [(false, (.tup [(false, (.lit (.int 1))), (false, (.lit (.int 1))), (false, (.lit (.int 1)))])), (false, (.tup [(false, (.lit (.int 1))), (false, (.lit (.int 2))), (false, (.lit (.int 1)))])), (false, (.tup [(false, (.lit (.int 2))), (false, (.lit (.int 1))), (false, (.lit (.int 1)))])), (false, (.tup [(false, (.lit (.int 2))), (false, (.lit (.int 2))), (false, (.lit (.int 1)))])), (false, (.tup [(false, (.lit (.int 1))), (false, (.lit (.int 2))), (false, (.lit (.int 2)))])), (false, (.tup [(false, (.lit (.int 2))), (false, (.lit (.int 2))), (false, (.lit (.int 2)))])), (false, (.tup [(false, (.lit (.int 2))), (false, (.lit (.int 1))), (false, (.lit (.int 2)))]))]),
  .for_ (.nm 2) (.seq (.tup [(false, (.lit (.int 0))), (false, (.lit (.int 1000))), (false, (.lit (.int 2000)))])) [.ifs (.not (.call 63 true [(.var 0), (.bin .add false (.var 2) (.lit (.int 10))), (.call 47 true [(.blt .int false [(.call 46 true [(.var 0), (.var 2)])]), (.var 1)])])) [.ret (.lit (.bl false))] []],
  .ret (.lit (.bl true))]⟩
def m__law_right : MFn := ⟨3, 12, [], [
  .par [3, 4] [(.call 48 true [(.var 2)]), (.call 50 true [])],
  .ifs (.cmp .ne (.call 23 true [(.var 3)]) (.var 4)) [.ret (.lit (.bl false))] [],
  .for_ (.nm 5) (.rng1 (.lit (.int 14))) [.asg (.nm 6) (.call 52 true [(.var 2), (.call 49 true [(.var 4)])]), .asg (.nm 4) (.call 42 true [(.var 3), (.var 4), (.idx (.var 6) (.bin .mod false (.blt .int false [(.call 46 true [(.var 0), (.bin .add false (.var 1) (.var 5))])]) (.blt .len false [(.var 6)])))]), .ifs (.or [(.not (.call 24 true [(.var 3), (.var 4)])), (.not (.call 64 true [(.var 2), (.var 4)]))]) [.ret (.lit (.bl false))] [], .for_ (.nm 7) (.rng1 (.idx (.var 2) (.lit (.int 0)))) [.asg (.nm 9) (.lc false [11] (.idx (.var 11) (.lit (.int 2))) (.nm 11) (.seq (.idx (.var 4) (.lit (.int 1)))) [(.cmp .eq (.slc (.var 11) none (some (.lit (.int 2)))) (.tup [(false, (.var 7)), (false, (.lit (.str (PySem.Str.ofString "open"))))]))]), .ifs (.cmp .ne (.call 25 true [(.var 3), (.var 4), (.var 7)]) (.var 9)) [.ret (.lit (.bl false))] []], .for_ (.nm 8) (.rng1 (.lit (.int 5))) [.asg (.nm 10) (.call 65 true [(.var 0), (.bin .add false (.bin .add false (.bin .add false (.var 1) (.lit (.int 50))) (.bin .mul false (.lit (.int 7)) (.var 5))) (.var 8)), (.var 4)]), .ifs (.cmp .ne (.call 24 true [(.var 3), (.var 10)]) (.call 64 true [(.var 2), (.var 10)])) [.ret (.lit (.bl false))] []]],
  .for_ (.nm 10) (.seq (.tup [(false, (.lit .non)), (false, (.lit (.int 5))), (false, (.tup [])), (false, (.slc (.var 4) none (some (.lit (.int 5))))), (false, (.blt .list false [(.var 4)])), (false, (.lit (.str (PySem.Str.ofString "state")))), (false, (.bin .add false (.var 4) (.tup [(false, (.lit .non))])))])) [.ifs (.call 24 true [(.var 3), (.var 10)]) [.ret (.lit (.bl false))] []],
  .ret (.lit (.bl true))]⟩
def m__law_plain : MFn := ⟨2, 9, [], [
  .asg (.tup [(.nm 2), (.nm 3), (.nm 4)]) (.idx (.var 1) (.bin .mod false (.blt .int false [(.var 0)]) (.blt .len false [(.var 1)]))),
  .asg (.nm 5) (.idx (.tup [(false, (.lit (.str (PySem.Str.ofString "none")))), (false, (.lit (.str (PySem.Str.ofString "first")))), (false, (.lit (.str (PySem.Str.ofString "unread")))), (false, (.lit (.str (PySem.Str.ofString "all")))), (false, (.lit (.str (PySem.Str.ofString "all"))))]) (.bin .mod false (.blt .int false [(.bin .fdiv false (.var 0) (.lit (.int 10)))]) (.lit (.int 5)))),
  .asg (.nm 6) (.lst true []),
  .for_ (.tup [(.nm 7), (.nm 8)]) (.enum (.tup [(false, (.lit (.str (PySem.Str.ofString "barred")))), (false, (.lit (.str (PySem.Str.ofString "fresh")))), (false, (.lit (.str (PySem.Str.ofString "kept")))), (false, (.lit (.str (PySem.Str.ofString "named"))))])) [.ifs (.cmp .eq (.bin .mod false (.blt .int false [(.bin .fdiv false (.var 0) (.idx (.tup [(false, (.lit (.int 50))), (false, (.lit (.int 150))), (false, (.lit (.int 450))), (false, (.lit (.int 1350)))]) (.var 7)))]) (.lit (.int 3))) (.lit (.int 0))) [.expr (.bm .append (.var 6) [(.var 8)])] []],
  .ret (.tup [(false, (.var 2)), (false, (.var 3)), (false, (.var 4)), (false, (.var 5)), (false, (.blt .tuple false [(.var 6)]))])]⟩
def m__law_number : MFn := ⟨2, 8, [], [
  .asg (.nm 2) (.ite (.cmp .ne (.var 0) (.lst false [])) (.slc (.var 0) none (some (.lit (.int 63)))) (.lst false [(false, (.lit (.int 5)))])),
  .asg (.nm 3) (.bin .add false (.idx (.var 2) (.bin .mod false (.blt .int false [(.var 1)]) (.blt .len false [(.var 2)]))) (.bin .mul false (.lit (.int 13)) (.bin .fdiv false (.var 1) (.blt .len false [(.var 2)])))),
  .par [4, 5] [(.bin .mod false (.blt .int false [(.var 3)]) (.lit (.int 1000003))), (.bin .mod false (.blt .int false [(.bin .fdiv false (.var 3) (.lit (.int 1000003)))]) (.lit (.int 999983)))],
  .asg (.nm 6) (.bin .mod false (.blt .int false [(.blt .sum false [(.var 2)])]) (.lit (.int 65521))),
  .asg (.nm 7) (.bin .mod false (.blt .int false [(.bin .add false (.bin .add false (.bin .mul false (.bin .add false (.var 4) (.bin .mul false (.lit (.int 977)) (.var 1))) (.lit (.int 48271))) (.bin .mul false (.lit (.int 31)) (.var 5))) (.var 6))]) (.lit (.int 2147483647))),
  .ret (.bin .add false (.bin .mul false (.bin .mod false (.blt .int false [(.bin .mul false (.var 7) (.bin .add false (.bin .add false (.var 7) (.bin .mul false (.lit (.int 31)) (.var 1))) (.lit (.int 7))))]) (.lit (.int 2147483629))) (.lit (.int 65537))) (.var 5))]⟩
def m__law_line : MFn := ⟨1, 1, [], [
  .ret (.mk 0 [(.idx (.var 0) (.lit (.int 0))), (.idx (.var 0) (.lit (.int 1))), (.idx (.var 0) (.lit (.int 2))), (.idx (.var 0) (.lit (.int 3))), (.idx (.var 0) (.lit (.int 4)))])]⟩
def m__law_first : MFn := ⟨0, 0, [], [
  .ret (.tup [(false, (.lit (.bl true))), (false, (.tup [])), (false, (.tup [])), (false, (.tup [])), (false, (.tup [])), (false, (.lit .non))])]⟩
def m_first_state : MFn := ⟨1, 1, [], [
  .expr (.call 11 true [(.var 0)]),
  .ret (.con 0)]⟩
def m__law_deeds : MFn := ⟨2, 6, [], [
  .asg (.nm 2) (.lst true []),
  .for_ (.nm 3) (.rng1 (.idx (.var 0) (.lit (.int 0)))) [.asg (.nm 4) (.blt .len false [(.lc false [5] (.var 5) (.nm 5) (.seq (.call 51 true [(.var 1)])) [(.cmp .eq (.idx (.var 5) (.lit (.int 1))) (.var 3))])]), .ifs (.and [(.idx (.var 1) (.lit (.str (PySem.Str.ofString "open")))), (.cmp .lt (.var 4) (.idx (.var 0) (.lit (.int 1))))]) [.expr (.bm .append (.var 2) [(.tup [(false, (.lit (.str (PySem.Str.ofString "ask")))), (false, (.var 3))])])] []],
  .asg (.nm 2) (.bin .add true (.bin .add false (.var 2) (.ite (.cmp .ne (.idx (.var 1) (.lit (.str (PySem.Str.ofString "row")))) (.lst false [])) (.lst false [(false, (.tup [(false, (.lit (.str (PySem.Str.ofString "do"))))]))]) (.lst false []))) (.ite (.cmp .ne (.idx (.var 1) (.lit (.str (PySem.Str.ofString "elder")))) (.lst false [])) (.lst false [(false, (.tup [(false, (.lit (.str (PySem.Str.ofString "late"))))]))]) (.lst false []))),
  .asg (.nm 2) (.bin .add true (.var 2) (.ite (.cmp .ne (.idx (.var 1) (.lit (.str (PySem.Str.ofString "under")))) (.lst false [])) (.lst false [(false, (.tup [(false, (.lit (.str (PySem.Str.ofString "piece"))))]))]) (.lst false []))),
  .ifs (.not (.idx (.var 1) (.lit (.str (PySem.Str.ofString "open"))))) [.ret (.bin .add false (.var 2) (.lst false [(false, (.tup [(false, (.lit (.str (PySem.Str.ofString "open"))))]))]))] [],
  .ret (.bin .add false (.var 2) (.lc false [4] (.tup [(false, (.lit (.str (PySem.Str.ofString "cut")))), (false, (.var 4))]) (.nm 4) (.rng1 (.bin .add false (.blt .len false [(.idx (.var 1) (.lit (.str (PySem.Str.ofString "row"))))]) (.lit (.int 1)))) []))]⟩
def m__law_world : MFn := ⟨1, 5, [], [
  .asg (.nm 1) (.lc false [2, 3] (.lst false [(false, (.var 2)), (false, (.idx (.var 3) (.lit (.int 0)))), (false, (.idx (.var 3) (.lit (.int 1)))), (false, (.idx (.var 3) (.lit (.int 2)))), (false, (.idx (.var 3) (.lit (.int 3))))]) (.tup [(.nm 2), (.nm 3)]) (.enum (.idx (.var 0) (.lit (.int 1)))) []),
  .ret (.dsp false [(.lit (.str (PySem.Str.ofString "open"))), (.lit (.str (PySem.Str.ofString "asks"))), (.lit (.str (PySem.Str.ofString "row"))), (.lit (.str (PySem.Str.ofString "elder"))), (.lit (.str (PySem.Str.ofString "under"))), (.lit (.str (PySem.Str.ofString "half"))), (.lit (.str (PySem.Str.ofString "next")))] [(.idx (.var 0) (.lit (.int 0))), (.var 1), (.blt .list false [(.idx (.var 0) (.lit (.int 2)))]), (.blt .list false [(.idx (.var 0) (.lit (.int 3)))]), (.lc false [4] (.blt .list false [(.var 4)]) (.nm 4) (.seq (.idx (.var 0) (.lit (.int 4)))) []), (.idx (.var 0) (.lit (.int 5))), (.blt .len false [(.var 1)])])]⟩
def m_after : MFn := ⟨3, 3, [], [
  .expr (.call 41 true [(.var 0), (.var 1), (.var 2)]),
  .ret (.idx (.call 34 true [(.var 0), (.var 1), (.var 2)]) (.lit (.int 0)))]⟩
def m_is_state : MFn := ⟨2, 2, [], [
  .expr (.call 11 true [(.var 0)]),
  .ret (.call 20 true [(.var 0), (.var 1)])]⟩
def m__law_is_state : MFn := ⟨2, 7, [], [
  .ifs (.or [(.not (.isi (.var 1) [.tuple])), (.cmp .ne (.blt .len false [(.var 1)]) (.lit (.int 6))), (.not (.isi (.idx (.var 1) (.lit (.int 0))) [.bool]))]) [.ret (.lit (.bl false))] [],
  .ifs (.or [(.not (.isi (.idx (.var 1) (.lit (.int 1))) [.tuple])), (.not (.blt .all false [(.lc false [2] (.call 66 true [(.var 0), (.var 2)]) (.nm 2) (.seq (.idx (.var 1) (.lit (.int 1)))) [])]))]) [.ret (.lit (.bl false))] [],
  .ifs (.not (.call 67 true [(.var 0), (.var 1)])) [.ret (.lit (.bl false))] [],
  .ifs (.and [(.not (.idx (.var 1) (.lit (.int 0)))), (.cmp .ne (.tup [(false, (.idx (.var 1) (.lit (.int 2)))), (false, (.idx (.var 1) (.lit (.int 4))))]) (.tup [(false, (.tup [])), (false, (.tup []))]))]) [.ret (.lit (.bl false))] [],
  .ifs (.and [(.not (.idx (.var 1) (.lit (.int 0)))), (.cmp .in_ (.lit (.str (PySem.Str.ofString "fresh"))) (.idx (.var 0) (.lit (.int 4)))), (.cmp .isnot (.idx (.var 1) (.lit (.int 5))) (.lit .non))]) [.ret (.lit (.bl false))] [],
  .for_ (.nm 3) (.rng1 (.idx (.var 0) (.lit (.int 0)))) [.ifs (.cmp .gt (.blt .len false [(.lc false [2] (.var 2) (.nm 2) (.seq (.idx (.var 1) (.lit (.int 1)))) [(.cmp .eq (.slc (.var 2) none (some (.lit (.int 2)))) (.tup [(false, (.var 3)), (false, (.lit (.str (PySem.Str.ofString "open"))))]))])]) (.idx (.var 0) (.lit (.int 1)))) [.ret (.lit (.bl false))] []],
  .asg (.nm 4) (.bin .add false (.bin .add false (.bin .add false (.idx (.var 1) (.lit (.int 2))) (.idx (.var 1) (.lit (.int 3)))) (.blt .tuple false [(.lc false [5] (.idx (.var 5) (.lit (.int 0))) (.nm 5) (.seq (.idx (.var 1) (.lit (.int 4)))) [])])) (.tup [(false, (.idx (.var 1) (.lit (.int 5))))])),
  .ret (.blt .all false [(.lc false [6, 2] (.or [(.cmp .eq (.idx (.var 2) (.lit (.int 1))) (.lit (.str (PySem.Str.ofString "open")))), (.cmp .in_ (.var 6) (.var 4))]) (.tup [(.nm 6), (.nm 2)]) (.enum (.idx (.var 1) (.lit (.int 1)))) [])])]⟩
def m_done_counts : MFn := ⟨3, 4, [], [
  .expr (.call 21 true [(.var 0), (.var 1)]),
  .expr (.call 12 true [(.var 0), (.var 2)]),
  .ret (.lc false [3] (.idx (.idx (.idx (.var 1) (.lit (.int 1))) (.var 3)) (.lit (.int 2))) (.nm 3) (.seq (.call 17 true [(.idx (.var 1) (.lit (.int 1))), (.var 2)])) [])]⟩
def m__law_bent : MFn := ⟨3, 12, [], [
  .asg (.nm 3) (.blt .int false [(.call 46 true [(.var 0), (.var 1)])]),
  .asg (.nm 4) (.lst true [(false, (.lit .non)), (false, (.lit (.int 0))), (false, (.lit (.int 1))), (false, (.lit (.bl true))), (false, (.lit (.str (PySem.Str.ofString "0")))), (false, (.tup [])), (false, (.tup [(false, (.lit (.int 0)))])), (false, (.tup [(false, (.lit (.int 1)))])), (false, (.tup [(false, (.lit (.int 0))), (false, (.lit (.int 1)))])), (false, (.tup [(false, (.lit (.int 1))), (false, (.lit (.int 0)))])), (false, (.tup [(false, (.lit (.int 0))), (false, (.lit (.int 0)))])), (false, (.tup [(false, (.tup [(false, (.lit (.int 0))), (false, (.lit (.int 1)))]))])), (false, (.tup [(false, (.tup [(false, (.lit (.int 0))), (false, (.lit (.int 2)))]))])), (false, (.tup [(false, (.tup [(false, (.lit (.int 1))), (false, (.lit (.int 2)))]))]))]),
  .expr (.bm .append (.var 4) [(.tup [(false, (.tup [(false, (.lit (.int 0))), (false, (.lit (.int 1)))])), (false, (.tup [(false, (.lit (.int 1))), (false, (.lit (.int 1)))]))])]),
  .par [5, 6, 7] [(.idx (.var 4) (.bin .mod false (.blt .int false [(.bin .fdiv false (.var 3) (.lit (.int 10)))]) (.lit (.int 15)))), (.bin .mod false (.blt .int false [(.var 3)]) (.lit (.int 9))), (.blt .list true [(.var 2)])],
  .ifs (.cmp .lt (.var 6) (.lit (.int 6))) [.asg (.sub (.var 7) (.var 6)) (.var 5), .ret (.blt .tuple false [(.var 7)])] [],
  .asg (.nm 8) (.blt .list true [(.idx (.var 2) (.lit (.int 1)))]),
  .ifs (.cmp .eq (.var 6) (.lit (.int 6))) [.asg (.nm 9) (.idx (.tup [(false, (.lit (.str (PySem.Str.ofString "open")))), (false, (.lit (.str (PySem.Str.ofString "told")))), (false, (.lit (.str (PySem.Str.ofString "lost")))), (false, (.lit (.str (PySem.Str.ofString "Open"))))]) (.bin .mod false (.blt .int false [(.bin .fdiv false (.var 3) (.lit (.int 600)))]) (.lit (.int 4)))), .expr (.bm .append (.var 8) [(.tup [(false, (.bin .mod false (.blt .int false [(.bin .fdiv false (.var 3) (.lit (.int 200)))]) (.lit (.int 3)))), (false, (.var 9)), (false, (.bin .mod false (.blt .int false [(.bin .fdiv false (.var 3) (.lit (.int 3000)))]) (.lit (.int 4)))), (false, (.cmp .gt (.bin .mod false (.blt .int false [(.bin .fdiv false (.var 3) (.lit (.int 15000)))]) (.lit (.int 2))) (.lit (.int 0))))])])] [.ifs (.cmp .ne (.var 8) (.lst false [])) [.asg (.nm 10) (.bin .mod false (.blt .int false [(.bin .fdiv false (.var 3) (.lit (.int 200)))]) (.blt .len false [(.var 8)])), .asg (.nm 11) (.blt .list true [(.idx (.var 8) (.var 10))]), .asg (.sub (.var 11) (.bin .mod false (.blt .int false [(.bin .fdiv false (.var 3) (.lit (.int 3000)))]) (.lit (.int 4)))) (.idx (.lst false [(false, (.lit (.int 0))), (false, (.lit (.int 1))), (false, (.lit (.int 2))), (false, (.lit (.int 3))), (false, (.lit (.bl true))), (false, (.lit (.bl false))), (false, (.lit (.str (PySem.Str.ofString "told")))), (false, (.lit (.str (PySem.Str.ofString "lost")))), (false, (.lit .non))]) (.bin .mod false (.blt .int false [(.bin .fdiv false (.var 3) (.lit (.int 15000)))]) (.lit (.int 9)))), .asg (.sub (.var 8) (.var 10)) (.blt .tuple false [(.var 11)])] []],
  .ret (.tup [(false, (.idx (.var 7) (.lit (.int 0)))), (false, (.blt .tuple false [(.var 8)])), (false, (.idx (.var 7) (.lit (.int 2)))), (false, (.idx (.var 7) (.lit (.int 3)))), (false, (.idx (.var 7) (.lit (.int 4)))), (false, (.idx (.var 7) (.lit (.int 5))))])]⟩
def m_check_line : MFn := ⟨1, 1, [], [
  .ifs (.not (.isi (.var 0) [(.own 0)])) [.bad] []]⟩
def m__law_open : MFn := ⟨1, 2, [], [
  .ret (.lc false [1] (.var 1) (.nm 1) (.seq (.idx (.var 0) (.lit (.str (PySem.Str.ofString "asks"))))) [(.cmp .eq (.idx (.var 1) (.lit (.int 2))) (.lit (.str (PySem.Str.ofString "open"))))])]⟩
def m_check_deed : MFn := ⟨3, 3, [], [
  .expr (.call 21 true [(.var 0), (.var 1)]),
  .ifs (.not (.call 26 true [(.var 0), (.var 2)])) [.bad] [],
  .ifs (.not (.call 27 true [(.var 0), (.var 1), (.var 2)])) [.bad] []]⟩
def m_outcome : MFn := ⟨3, 11, [], [
  .asg (.tup [(.nm 3), (.nm 4), (.nm 5), (.nm 6), (.nm 7), (.nm 8)]) (.var 1),
  .asg (.nm 9) (.lst false []),
  .ifs (.cmp .eq (.idx (.var 2) (.lit (.int 0))) (.lit (.str (PySem.Str.ofString "ask")))) [.par [4, 5] [(.tup [(true, (.var 4)), (false, (.tup [(false, (.idx (.var 2) (.lit (.int 1)))), (false, (.lit (.str (PySem.Str.ofString "open")))), (false, (.lit (.int 0))), (false, (.lit (.bl false)))]))]), (.tup [(true, (.var 5)), (false, (.blt .len false [(.var 4)]))])]] [.ifs (.cmp .eq (.idx (.var 2) (.lit (.int 0))) (.lit (.str (PySem.Str.ofString "do")))) [.asg (.tup [(.nm 4), (.nm 9)]) (.call 29 true [(.var 0), (.var 4), (.idx (.var 5) (.lit (.int 0)))]), .par [5, 7] [(.slc (.var 5) (some (.lit (.int 1))) none), (.tup [(true, (.var 7)), (false, (.tup [(false, (.idx (.var 5) (.lit (.int 0)))), (false, (.att (.var 0) 2))]))])]] [.ifs (.cmp .eq (.idx (.var 2) (.lit (.int 0))) (.lit (.str (PySem.Str.ofString "late")))) [.asg (.tup [(.nm 4), (.nm 9)]) (.call 29 true [(.var 0), (.var 4), (.idx (.var 6) (.lit (.int 0)))]), .asg (.nm 6) (.slc (.var 6) (some (.lit (.int 1))) none)] [.ifs (.cmp .eq (.idx (.var 2) (.lit (.int 0))) (.lit (.str (PySem.Str.ofString "open")))) [.par [3, 5] [(.lit (.bl true)), (.blt .tuple false [(.call 16 true [(.var 4)])])], .asg (.nm 6) (.ite (.cmp .in_ (.lit (.str (PySem.Str.ofString "barred"))) (.att (.var 0) 4)) (.tup []) (.var 6))] [.asg (.tup [(.nm 10), (.nm 9)]) (.ite (.cmp .eq (.idx (.var 2) (.lit (.int 0))) (.lit (.str (PySem.Str.ofString "piece")))) (.call 31 true [(.var 0), (.var 1)]) (.call 33 true [(.var 0), (.var 1), (.idx (.var 2) (.lit (.int 1)))])), .ret (.tup [(false, (.call 22 true [(.var 10)])), (false, (.var 9))])]]]],
  .ret (.tup [(false, (.call 22 true [(.tup [(false, (.var 3)), (false, (.var 4)), (false, (.var 5)), (false, (.var 6)), (false, (.var 7)), (false, (.var 8))])])), (false, (.var 9))])]⟩
def m_is_state_of : MFn := ⟨2, 5, [], [
  .ifs (.or [(.not (.isi (.var 1) [.tuple])), (.cmp .ne (.blt .len false [(.var 1)]) (.lit (.int 6))), (.not (.isi (.idx (.var 1) (.lit (.int 0))) [.bool]))]) [.ret (.lit (.bl false))] [],
  .asg (.nm 2) (.idx (.var 1) (.lit (.int 1))),
  .ifs (.or [(.not (.isi (.var 2) [.tuple])), (.not (.blt .all false [(.lc false [3] (.call 13 true [(.var 0), (.var 3)]) (.nm 3) (.seq (.var 2)) [])]))]) [.ret (.lit (.bl false))] [],
  .ifs (.not (.call 19 true [(.var 0), (.var 2), (.var 1)])) [.ret (.lit (.bl false))] [],
  .ifs (.and [(.not (.idx (.var 1) (.lit (.int 0)))), (.or [(.cmp .ne (.idx (.var 1) (.lit (.int 2))) (.tup [])), (.cmp .ne (.idx (.var 1) (.lit (.int 4))) (.tup [])), (.and [(.cmp .in_ (.lit (.str (PySem.Str.ofString "fresh"))) (.att (.var 0) 4)), (.cmp .isnot (.idx (.var 1) (.lit (.int 5))) (.lit .non))])])]) [.ret (.lit (.bl false))] [],
  .ifs (.not (.blt .all false [(.lc false [4] (.cmp .le (.blt .len false [(.call 17 true [(.var 2), (.var 4)])]) (.att (.var 0) 1)) (.nm 4) (.rng1 (.att (.var 0) 0)) [])])) [.ret (.lit (.bl false))] [],
  .ret (.cmp .eq (.call 18 true [(.var 1)]) (.blt .rlist false [(.blt .len false [(.var 2)])]))]⟩
def m__law_is_ask : MFn := ⟨2, 2, [], [
  .ifs (.or [(.not (.isi (.var 1) [.tuple])), (.cmp .ne (.blt .len false [(.var 1)]) (.lit (.int 4))), (.not (.call 68 true [(.idx (.var 1) (.lit (.int 0))), (.lit (.int 0)), (.bin .sub false (.idx (.var 0) (.lit (.int 0))) (.lit (.int 1)))]))]) [.ret (.lit (.bl false))] [],
  .ifs (.or [(.not (.isi (.idx (.var 1) (.lit (.int 1))) [.str])), (.cmp .notin (.idx (.var 1) (.lit (.int 1))) (.tup [(false, (.lit (.str (PySem.Str.ofString "open")))), (false, (.lit (.str (PySem.Str.ofString "told")))), (false, (.lit (.str (PySem.Str.ofString "lost"))))]))]) [.ret (.lit (.bl false))] [],
  .ret (.and [(.call 68 true [(.idx (.var 1) (.lit (.int 2))), (.lit (.int 0)), (.lit (.int 2))]), (.isi (.idx (.var 1) (.lit (.int 3))) [.bool])])]⟩
def m__law_are_parts : MFn := ⟨2, 5, [], [
  .par [2, 3] [(.blt .len false [(.idx (.var 1) (.lit (.int 1)))]), (.idx (.var 1) (.lit (.int 5)))],
  .ifs (.or [(.not (.call 69 true [(.idx (.var 1) (.lit (.int 2))), (.var 2)])), (.not (.call 69 true [(.idx (.var 1) (.lit (.int 3))), (.var 2)]))]) [.ret (.lit (.bl false))] [],
  .ifs (.not (.call 70 true [(.var 0), (.idx (.var 1) (.lit (.int 4))), (.var 2)])) [.ret (.lit (.bl false))] [],
  .ifs (.and [(.cmp .ne (.idx (.var 1) (.lit (.int 2))) (.tup [])), (.blt .any false [(.lc false [4] (.cmp .ge (.idx (.var 4) (.lit (.int 0))) (.idx (.idx (.var 1) (.lit (.int 2))) (.lit (.int 0)))) (.nm 4) (.seq (.idx (.var 1) (.lit (.int 4)))) [])])]) [.ret (.lit (.bl false))] [],
  .ret (.or [(.cmp .is_ (.var 3) (.lit .non)), (.and [(.cmp .eq (.idx (.var 0) (.lit (.int 2))) (.lit (.int 2))), (.call 68 true [(.var 3), (.lit (.int 0)), (.bin .sub false (.var 2) (.lit (.int 1)))])])])]⟩
def m_check_state : MFn := ⟨2, 2, [], [
  .expr (.call 11 true [(.var 0)]),
  .ifs (.not (.call 20 true [(.var 0), (.var 1)])) [.bad] []]⟩
def m_check_asker : MFn := ⟨2, 2, [], [
  .ifs (.not (.call 0 true [(.var 1), (.lit (.int 0)), (.bin .sub false (.att (.var 0) 0) (.lit (.int 1)))])) [.bad] []]⟩
def m_open_of : MFn := ⟨2, 3, [], [
  .ret (.lc false [2] (.var 2) (.nm 2) (.seq (.call 16 true [(.var 0)])) [(.cmp .eq (.idx (.idx (.var 0) (.var 2)) (.lit (.int 0))) (.var 1))])]⟩
def m_is_deed : MFn := ⟨2, 2, [], [
  .ifs (.or [(.not (.isi (.var 1) [.tuple])), (.cmp .eq (.var 1) (.tup [])), (.not (.isi (.idx (.var 1) (.lit (.int 0))) [.str]))]) [.ret (.lit (.bl false))] [],
  .ifs (.cmp .in_ (.idx (.var 1) (.lit (.int 0))) (.con 6)) [.ret (.cmp .eq (.blt .len false [(.var 1)]) (.lit (.int 1)))] [],
  .ifs (.cmp .eq (.idx (.var 1) (.lit (.int 0))) (.lit (.str (PySem.Str.ofString "ask")))) [.ret (.and [(.cmp .eq (.blt .len false [(.var 1)]) (.lit (.int 2))), (.call 0 true [(.idx (.var 1) (.lit (.int 1))), (.lit (.int 0)), (.bin .sub false (.att (.var 0) 0) (.lit (.int 1)))])])] [],
  .ifs (.or [(.cmp .ne (.idx (.var 1) (.lit (.int 0))) (.lit (.str (PySem.Str.ofString "cut")))), (.cmp .ne (.blt .len false [(.var 1)]) (.lit (.int 2))), (.not (.isi (.idx (.var 1) (.lit (.int 1))) [.int])), (.isi (.idx (.var 1) (.lit (.int 1))) [.bool])]) [.ret (.lit (.bl false))] [],
  .ret (.cmp .ge (.idx (.var 1) (.lit (.int 1))) (.lit (.int 0)))]⟩
def m_can_do : MFn := ⟨3, 9, [], [
  .asg (.tup [(.nm 3), (.nm 4), (.nm 5), (.nm 6), (.nm 7), (.nm 8)]) (.var 1),
  .ifs (.cmp .eq (.idx (.var 2) (.lit (.int 0))) (.lit (.str (PySem.Str.ofString "ask")))) [.ret (.and [(.var 3), (.cmp .lt (.blt .len false [(.call 17 true [(.var 4), (.idx (.var 2) (.lit (.int 1)))])]) (.att (.var 0) 1))])] [],
  .ifs (.cmp .eq (.idx (.var 2) (.lit (.int 0))) (.lit (.str (PySem.Str.ofString "do")))) [.ret (.cmp .ne (.var 5) (.tup []))] [],
  .ifs (.cmp .eq (.idx (.var 2) (.lit (.int 0))) (.lit (.str (PySem.Str.ofString "late")))) [.ret (.cmp .ne (.var 6) (.tup []))] [],
  .ifs (.cmp .eq (.idx (.var 2) (.lit (.int 0))) (.lit (.str (PySem.Str.ofString "piece")))) [.ret (.cmp .ne (.var 7) (.tup []))] [],
  .ret (.ite (.cmp .eq (.idx (.var 2) (.lit (.int 0))) (.lit (.str (PySem.Str.ofString "cut")))) (.and [(.var 3), (.cmp .le (.idx (.var 2) (.lit (.int 1))) (.blt .len false [(.var 5)]))]) (.not (.var 3)))]⟩
def m_taken_up : MFn := ⟨3, 13, [], [
  .asg (.tup [(.nm 3), (.nm 4), (.nm 5), (.nm 6)]) (.idx (.var 1) (.var 2)),
  .ifs (.and [(.cmp .in_ (.lit (.str (PySem.Str.ofString "kept"))) (.att (.var 0) 4)), (.cmp .gt (.var 5) (.lit (.int 0)))]) [.ret (.tup [(false, (.var 1)), (false, (.lst false []))])] [],
  .asg (.nm 7) (.lc false [8, 9] (.var 8) (.tup [(.nm 8), (.nm 9)]) (.zip (.slc (.con 7) (some (.lit (.int 1))) none) (.tup [(false, (.cmp .gt (.var 5) (.lit (.int 0)))), (false, (.var 6)), (false, (.cmp .eq (.var 4) (.lit (.str (PySem.Str.ofString "lost")))))])) [(.var 9)]),
  .asg (.nm 10) (.lst true []),
  .for_ (.tup [(.nm 11), (.nm 12)]) (.enum (.var 1)) [.ifs (.and [(.cmp .lt (.var 11) (.var 2)), (.cmp .eq (.idx (.var 12) (.lit (.int 0))) (.var 3))]) [.asg (.nm 12) (.tup [(true, (.slc (.var 12) none (some (.lit (.int 3))))), (false, (.lit (.bl true)))])] [], .expr (.bm .append (.var 10) [(.ite (.cmp .eq (.var 11) (.var 2)) (.tup [(false, (.var 3)), (false, (.var 4)), (false, (.blt .min2 false [(.con 2), (.bin .add false (.var 5) (.lit (.int 1)))])), (false, (.var 6))]) (.var 12))])],
  .ret (.tup [(false, (.blt .tuple false [(.var 10)])), (false, (.var 7))])]⟩
def m_open_asks : MFn := ⟨1, 3, [], [
  .ret (.lc false [1, 2] (.var 1) (.tup [(.nm 1), (.nm 2)]) (.enum (.var 0)) [(.cmp .eq (.idx (.var 2) (.lit (.int 1))) (.lit (.str (PySem.Str.ofString "open"))))])]⟩
def m_read : MFn := ⟨2, 13, [], [
  .asg (.tup [(.nm 2), (.nm 3), (.nm 4), (.nm 5), (.nm 6), (.nm 7)]) (.var 1),
  .asg (.tup [(.nm 8), (.nm 9)]) (.idx (.var 6) (.lit (.int 0))),
  .asg (.nm 10) (.ite (.cmp .eq (.var 9) (.lit (.int 1))) (.slc (.var 6) (some (.lit (.int 1))) none) (.tup [(false, (.tup [(false, (.var 8)), (false, (.bin .sub false (.var 9) (.lit (.int 1))))])), (true, (.slc (.var 6) (some (.lit (.int 1))) none))])),
  .ifs (.and [(.cmp .in_ (.lit (.str (PySem.Str.ofString "named"))) (.att (.var 0) 4)), (.cmp .ne (.var 7) (.var 8))]) [.asg (.nm 7) (.lit .non)] [],
  .ifs (.and [(.cmp .eq (.att (.var 0) 2) (.lit (.int 2))), (.cmp .is_ (.var 7) (.lit .non))]) [.ret (.tup [(false, (.tup [(false, (.var 2)), (false, (.var 3)), (false, (.var 4)), (false, (.var 5)), (false, (.var 10)), (false, (.var 8))])), (false, (.lst false []))])] [],
  .asg (.nm 11) (.call 30 true [(.var 0), (.var 3), (.var 8)]),
  .ifs (.cmp .is_ (.var 11) (.lit .non)) [.ret (.tup [(false, (.tup [(false, (.var 2)), (false, (.var 3)), (false, (.var 4)), (false, (.var 5)), (false, (.var 10)), (false, (.lit .non))])), (false, (.lst false []))])] [],
  .asg (.nm 12) (.and [(.cmp .eq (.var 11) (.var 8)), (.or [(.cmp .is_ (.var 7) (.lit .non)), (.cmp .eq (.var 7) (.var 8))])]),
  .ret (.tup [(false, (.tup [(false, (.var 2)), (false, (.call 28 true [(.var 3), (.var 11), (.lit (.str (PySem.Str.ofString "told")))])), (false, (.var 4)), (false, (.var 5)), (false, (.var 10)), (false, (.lit .non))])), (false, (.ite (.var 12) (.lst false []) (.lst false [(false, (.lit (.str (PySem.Str.ofString "own"))))])))])]⟩
def m_cut : MFn := ⟨3, 12, [], [
  .asg (.tup [(.nm 3), (.nm 4), (.nm 5), (.nm 6), (.nm 7), (.nm 8)]) (.var 1),
  .asg (.nm 9) (.call 32 true [(.var 0), (.var 4), (.var 8)]),
  .asg (.nm 10) (.ite (.blt .any false [(.lc false [11] (.cmp .gt (.idx (.idx (.var 4) (.var 11)) (.lit (.int 2))) (.lit (.int 0))) (.nm 11) (.seq (.var 9)) [])]) (.lst false [(false, (.lit (.str (PySem.Str.ofString "lost"))))]) (.lst false [])),
  .for_ (.nm 11) (.seq (.var 9)) [.asg (.nm 4) (.call 28 true [(.var 4), (.var 11), (.lit (.str (PySem.Str.ofString "lost")))])],
  .ret (.tup [(false, (.tup [(false, (.lit (.bl false))), (false, (.var 4)), (false, (.tup [])), (false, (.slc (.var 5) none (some (.var 2)))), (false, (.tup [])), (false, (.ite (.cmp .in_ (.lit (.str (PySem.Str.ofString "fresh"))) (.att (.var 0) 4)) (.lit .non) (.var 8)))])), (false, (.var 10))])]⟩
def m_tidied : MFn := ⟨1, 12, [], [
  .asg (.tup [(.nm 1), (.nm 2), (.nm 3), (.nm 4), (.nm 5), (.nm 6)]) (.var 0),
  .asg (.nm 7) (.call 18 true [(.var 0)]),
  .asg (.nm 8) (.dc false [9, 10] (.var 10) (.var 9) (.tup [(.nm 9), (.nm 10)]) (.enum (.var 7)) []),
  .ret (.tup [(false, (.var 1)), (false, (.blt .tuple false [(.lc false [10] (.idx (.var 2) (.var 10)) (.nm 10) (.seq (.var 7)) [])])), (false, (.blt .tuple false [(.lc false [10] (.idx (.var 8) (.var 10)) (.nm 10) (.seq (.var 3)) [])])), (false, (.blt .tuple false [(.lc false [10] (.idx (.var 8) (.var 10)) (.nm 10) (.seq (.var 4)) [])])), (false, (.blt .tuple false [(.lc false [10, 11] (.tup [(false, (.idx (.var 8) (.var 10))), (false, (.var 11))]) (.tup [(.nm 10), (.nm 11)]) (.seq (.var 5)) [])])), (false, (.ite (.cmp .is_ (.var 6) (.lit .non)) (.lit .non) (.idx (.var 8) (.var 6))))])]⟩
def m_is_ask : MFn := ⟨2, 2, [], [
  .ifs (.or [(.not (.isi (.var 1) [.tuple])), (.cmp .ne (.blt .len false [(.var 1)]) (.lit (.int 4))), (.not (.call 0 true [(.idx (.var 1) (.lit (.int 0))), (.lit (.int 0)), (.bin .sub false (.att (.var 0) 0) (.lit (.int 1)))]))]) [.ret (.lit (.bl false))] [],
  .ret (.and [(.call 1 true [(.idx (.var 1) (.lit (.int 1))), (.con 1)]), (.call 0 true [(.idx (.var 1) (.lit (.int 2))), (.lit (.int 0)), (.con 2)]), (.isi (.idx (.var 1) (.lit (.int 3))) [.bool])])]⟩
def m_are_parts : MFn := ⟨3, 4, [], [
  .asg (.nm 3) (.blt .len false [(.var 1)]),
  .ifs (.or [(.not (.call 14 true [(.idx (.var 2) (.lit (.int 2))), (.var 3)])), (.not (.call 14 true [(.idx (.var 2) (.lit (.int 3))), (.var 3)])), (.not (.call 15 true [(.var 0), (.idx (.var 2) (.lit (.int 4))), (.var 3)]))]) [.ret (.lit (.bl false))] [],
  .ifs (.and [(.cmp .ne (.idx (.var 2) (.lit (.int 4))) (.tup [])), (.cmp .ne (.idx (.var 2) (.lit (.int 2))) (.tup [])), (.cmp .ge (.idx (.idx (.idx (.var 2) (.lit (.int 4))) (.neg (.lit (.int 1)))) (.lit (.int 0))) (.idx (.idx (.var 2) (.lit (.int 2))) (.lit (.int 0))))]) [.ret (.lit (.bl false))] [],
  .ret (.or [(.cmp .is_ (.idx (.var 2) (.lit (.int 5))) (.lit .non)), (.and [(.cmp .eq (.att (.var 0) 2) (.lit (.int 2))), (.call 0 true [(.idx (.var 2) (.lit (.int 5))), (.lit (.int 0)), (.bin .sub false (.var 3) (.lit (.int 1)))])])])]⟩
def m_left_in : MFn := ⟨1, 9, [], [
  .asg (.tup [(.nm 1), (.nm 2), (.nm 3), (.nm 4), (.nm 5), (.nm 6)]) (.var 0),
  .asg (.nm 7) (.lst false [(true, (.call 16 true [(.var 2)])), (true, (.var 3)), (true, (.var 4)), (true, (.lc false [8] (.idx (.var 8) (.lit (.int 0))) (.nm 8) (.seq (.var 5)) []))]),
  .ret (.blt .sset false [(.ite (.cmp .is_ (.var 6) (.lit .non)) (.var 7) (.lst false [(true, (.var 7)), (false, (.var 6))]))])]⟩
def m__law_is_number : MFn := ⟨3, 3, [], [
  .ret (.and [(.isi (.var 0) [.int]), (.not (.isi (.var 0) [.bool])), (.chain .le .le (.var 1) (.var 0) (.var 2))])]⟩
def m__law_is_row : MFn := ⟨2, 3, [], [
  .ifs (.or [(.not (.isi (.var 0) [.tuple])), (.not (.blt .all false [(.lc false [2] (.call 68 true [(.var 2), (.lit (.int 0)), (.bin .sub false (.var 1) (.lit (.int 1)))]) (.nm 2) (.seq (.var 0)) [])]))]) [.ret (.lit (.bl false))] [],
  .ret (.cmp .eq (.blt .list false [(.var 0)]) (.blt .sset false [(.var 0)]))]⟩
def m__law_are_answers : MFn := ⟨3, 5, [], [
  .ifs (.or [(.not (.isi (.var 1) [.tuple])), (.not (.blt .all false [(.lc false [3] (.and [(.isi (.var 3) [.tuple]), (.cmp .eq (.blt .len false [(.var 3)]) (.lit (.int 2)))]) (.nm 3) (.seq (.var 1)) [])]))]) [.ret (.lit (.bl false))] [],
  .ifs (.not (.call 69 true [(.blt .tuple false [(.lc false [3] (.idx (.var 3) (.lit (.int 0))) (.nm 3) (.seq (.var 1)) [])]), (.var 2)])) [.ret (.lit (.bl false))] [],
  .for_ (.tup [(.nm 4), (.nm 3)]) (.enum (.var 1)) [.ifs (.not (.call 68 true [(.idx (.var 3) (.lit (.int 1))), (.ite (.cmp .eq (.var 4) (.lit (.int 0))) (.lit (.int 1)) (.idx (.var 0) (.lit (.int 2)))), (.idx (.var 0) (.lit (.int 2)))])) [.ret (.lit (.bl false))] []],
  .ret (.lit (.bl true))]⟩
def m_is_number : MFn := ⟨3, 3, [], [
  .ret (.and [(.isi (.var 0) [.int]), (.not (.isi (.var 0) [.bool])), (.chain .le .le (.var 1) (.var 0) (.var 2))])]⟩
def m_awaiting : MFn := ⟨3, 4, [], [
  .ifs (.cmp .in_ (.lit (.str (PySem.Str.ofString "named"))) (.att (.var 0) 4)) [.ret (.ite (.cmp .eq (.idx (.idx (.var 1) (.var 2)) (.lit (.int 1))) (.lit (.str (PySem.Str.ofString "open")))) (.var 2) (.lit .non))] [],
  .asg (.nm 3) (.call 16 true [(.var 1)]),
  .ret (.ite (.cmp .ne (.var 3) (.lst false [])) (.idx (.var 3) (.lit (.int 0))) (.lit .non))]⟩
def m_with_word : MFn := ⟨3, 4, [], [
  .asg (.nm 3) (.blt .list true [(.var 0)]),
  .asg (.sub (.var 3) (.var 1)) (.tup [(false, (.idx (.idx (.var 3) (.var 1)) (.lit (.int 0)))), (false, (.var 2)), (true, (.slc (.idx (.var 3) (.var 1)) (some (.lit (.int 2))) none))]),
  .ret (.blt .tuple false [(.var 3)])]⟩
def m_lost_by : MFn := ⟨3, 5, [], [
  .asg (.nm 3) (.call 16 true [(.var 1)]),
  .ifs (.cmp .eq (.att (.var 0) 3) (.lit (.str (PySem.Str.ofString "none")))) [.ret (.var 3)] [],
  .ifs (.cmp .eq (.att (.var 0) 3) (.lit (.str (PySem.Str.ofString "first")))) [.ret (.slc (.var 3) (some (.lit (.int 1))) none)] [],
  .asg (.nm 4) (.ite (.and [(.cmp .isnot (.var 2) (.lit .non)), (.cmp .eq (.att (.var 0) 3) (.lit (.str (PySem.Str.ofString "unread"))))]) (.call 30 true [(.var 0), (.var 1), (.var 2)]) (.lit .non)),
  .ret (.ite (.cmp .is_ (.var 4) (.lit .non)) (.lst false []) (.lst false [(false, (.var 4))]))]⟩
def m_is_word : MFn := ⟨2, 2, [], [
  .ret (.and [(.isi (.var 0) [.str]), (.cmp .in_ (.var 0) (.var 1))])]⟩
def m_is_row : MFn := ⟨2, 4, [], [
  .ifs (.or [(.not (.isi (.var 0) [.tuple])), (.not (.blt .all false [(.lc false [2] (.call 0 true [(.var 2), (.lit (.int 0)), (.bin .sub false (.var 1) (.lit (.int 1)))]) (.nm 2) (.seq (.var 0)) [])]))]) [.ret (.lit (.bl false))] [],
  .ret (.blt .all false [(.lc false [2, 3] (.cmp .lt (.var 2) (.var 3)) (.tup [(.nm 2), (.nm 3)]) (.zip (.var 0) (.slc (.var 0) (some (.lit (.int 1))) none)) [])])]⟩
def m_are_answers : MFn := ⟨3, 6, [], [
  .ifs (.or [(.not (.isi (.var 1) [.tuple])), (.not (.blt .all false [(.lc false [3] (.and [(.isi (.var 3) [.tuple]), (.cmp .eq (.blt .len false [(.var 3)]) (.lit (.int 2)))]) (.nm 3) (.seq (.var 1)) [])]))]) [.ret (.lit (.bl false))] [],
  .ifs (.not (.call 14 true [(.blt .tuple false [(.lc false [3] (.idx (.var 3) (.lit (.int 0))) (.nm 3) (.seq (.var 1)) [])]), (.var 2)])) [.ret (.lit (.bl false))] [],
  .asg (.nm 4) (.lst false [(false, (.lit (.int 1))), (true, (.bin .mul false (.lst false [(false, (.att (.var 0) 2))]) (.blt .len false [(.var 1)])))]),
  .ret (.blt .all false [(.lc false [3, 5] (.call 0 true [(.idx (.var 3) (.lit (.int 1))), (.var 5), (.att (.var 0) 2)]) (.tup [(.nm 3), (.nm 5)]) (.zip (.var 1) (.var 4)) [])])]⟩
def m_are_marks : MFn := ⟨1, 4, [], [
  .ifs (.or [(.not (.isi (.var 0) [.tuple])), (.not (.blt .all false [(.lc false [1] (.call 1 true [(.var 1), (.con 4)]) (.nm 1) (.seq (.var 0)) [])]))]) [.ret (.lit (.bl false))] [],
  .ret (.blt .all false [(.lc false [2, 3] (.cmp .lt (.var 2) (.var 3)) (.tup [(.nm 2), (.nm 3)]) (.zip (.var 0) (.slc (.var 0) (some (.lit (.int 1))) none)) [])])]⟩
def m_Line__init : MFn := ⟨6, 9, [(.str (PySem.Str.ofString "all")), (.tup [])], [
  .asg (.nm 6) (.tup [(false, (.var 1)), (false, (.var 2)), (false, (.var 3))]),
  .for_ (.tup [(.nm 7), (.nm 8)]) (.zip (.con 5) (.var 6)) [.ifs (.not (.call 0 true [(.var 8), (.lit (.int 1)), (.lit (.int 2))])) [.bad] []],
  .ifs (.not (.call 1 true [(.var 4), (.con 3)])) [.bad] [],
  .ifs (.not (.call 2 true [(.var 5)])) [.bad] [],
  .asg (.att (.var 0) 0) (.var 1),
  .asg (.att (.var 0) 1) (.var 2),
  .asg (.att (.var 0) 2) (.var 3),
  .asg (.att (.var 0) 3) (.var 4),
  .asg (.att (.var 0) 4) (.var 5)]⟩
def mNo : MFn := ⟨0, 0, [], [.bad]⟩
def tFns : List MFn := 
  [m_is_number, m_is_word, m_are_marks, m_Line__init, mNo, mNo, mNo, mNo, mNo, mNo, mNo, m_check_line, m_check_asker, m_is_ask, m_is_row, m_are_answers, m_open_asks, m_open_of, m_left_in, m_are_parts, m_is_state_of, m_check_state, m_tidied, m_first_state, m_is_state, m_done_counts, m_is_deed, m_can_do, m_with_word, m_taken_up, m_awaiting, m_read, m_lost_by, m_cut, m_outcome, mNo, mNo, mNo, mNo, mNo, mNo, m_check_deed, m_after, mNo, mNo, mNo, m__law_number, m__law_plain, m__law_line, m__law_world, m__law_first, m__law_open, m__law_deeds, mNo, mNo, mNo, mNo, mNo, mNo, mNo, mNo, mNo, m_law, m__law_right, m__law_is_state, m__law_bent, m__law_is_ask, m__law_are_parts, m__law_is_number, m__law_is_row, m__law_are_answers]
def tFnm : List PySem.Str := ([(PySem.Str.ofString "is_number"), (PySem.Str.ofString "is_word"), (PySem.Str.ofString "are_marks"), PySem.Str.empty, PySem.Str.empty, PySem.Str.empty, PySem.Str.empty, PySem.Str.empty, PySem.Str.empty, PySem.Str.empty, PySem.Str.empty, (PySem.Str.ofString "check_line"), (PySem.Str.ofString "check_asker"), (PySem.Str.ofString "is_ask"), (PySem.Str.ofString "is_row"), (PySem.Str.ofString "are_answers"), (PySem.Str.ofString "open_asks"), (PySem.Str.ofString "open_of"), (PySem.Str.ofString "left_in"), (PySem.Str.ofString "are_parts"), (PySem.Str.ofString "is_state_of"), (PySem.Str.ofString "check_state"), (PySem.Str.ofString "tidied"), (PySem.Str.ofString "first_state"), (PySem.Str.ofString "is_state"), (PySem.Str.ofString "done_counts"), (PySem.Str.ofString "is_deed"), (PySem.Str.ofString "can_do"), (PySem.Str.ofString "with_word"), (PySem.Str.ofString "taken_up")] : List PySem.Str) ++ ([(PySem.Str.ofString "awaiting"), (PySem.Str.ofString "read"), (PySem.Str.ofString "lost_by"), (PySem.Str.ofString "cut"), (PySem.Str.ofString "outcome"), PySem.Str.empty, PySem.Str.empty, PySem.Str.empty, PySem.Str.empty, PySem.Str.empty, PySem.Str.empty, (PySem.Str.ofString "check_deed"), (PySem.Str.ofString "after"), PySem.Str.empty, PySem.Str.empty, PySem.Str.empty, (PySem.Str.ofString "_law_number"), (PySem.Str.ofString "_law_plain"), (PySem.Str.ofString "_law_line"), (PySem.Str.ofString "_law_world"), (PySem.Str.ofString "_law_first"), (PySem.Str.ofString "_law_open"), (PySem.Str.ofString "_law_deeds"), PySem.Str.empty, PySem.Str.empty, PySem.Str.empty, PySem.Str.empty, PySem.Str.empty, PySem.Str.empty, PySem.Str.empty] : List PySem.Str) ++ ([PySem.Str.empty, PySem.Str.empty, (PySem.Str.ofString "law"), (PySem.Str.ofString "_law_right"), (PySem.Str.ofString "_law_is_state"), (PySem.Str.ofString "_law_bent"), (PySem.Str.ofString "_law_is_ask"), (PySem.Str.ofString "_law_are_parts"), (PySem.Str.ofString "_law_is_number"), (PySem.Str.ofString "_law_is_row"), (PySem.Str.ofString "_law_are_answers")] : List PySem.Str)
def tCon : List PV := [(.tup [(.bl true), (.tup []), (.tup []), (.tup []), (.tup []), .non]), (.tup [(.str (PySem.Str.ofString "open")), (.str (PySem.Str.ofString "told")), (.str (PySem.Str.ofString "lost"))]), (.int 2), (.tup [(.str (PySem.Str.ofString "none")), (.str (PySem.Str.ofString "first")), (.str (PySem.Str.ofString "unread")), (.str (PySem.Str.ofString "all"))]), (.tup [(.str (PySem.Str.ofString "barred")), (.str (PySem.Str.ofString "fresh")), (.str (PySem.Str.ofString "kept")), (.str (PySem.Str.ofString "named"))]), (.tup [(.str (PySem.Str.ofString "askers")), (.str (PySem.Str.ofString "ahead")), (.str (PySem.Str.ofString "pieces")), (.str (PySem.Str.ofString "again")), (.str (PySem.Str.ofString "marks"))]), (.tup [(.str (PySem.Str.ofString "do")), (.str (PySem.Str.ofString "late")), (.str (PySem.Str.ofString "piece")), (.str (PySem.Str.ofString "open"))]), (.tup [(.str (PySem.Str.ofString "own")), (.str (PySem.Str.ofString "once")), (.str (PySem.Str.ofString "order")), (.str (PySem.Str.ofString "lost"))])]
def tCnm : List PySem.Str := ([(PySem.Str.ofString "FIRST"), (PySem.Str.ofString "WORDS"), (PySem.Str.ofString "MOST_DONE"), (PySem.Str.ofString "AGAIN"), (PySem.Str.ofString "MARKS"), (PySem.Str.ofString "PARTS"), (PySem.Str.ofString "PLAIN"), (PySem.Str.ofString "WISHES")] : List PySem.Str)
def tKnm : List PySem.Str := [(PySem.Str.ofString "Line")]
def tFld : List PySem.Str := [(PySem.Str.ofString "askers"), (PySem.Str.ofString "ahead"), (PySem.Str.ofString "pieces"), (PySem.Str.ofString "again"), (PySem.Str.ofString "marks")]
def tCls : List MCls := [⟨3, 5, [(0, 2), (1, 1), (2, 4), (3, 0), (4, 3)]⟩]
def tP : MP := ⟨tFns, tCon, tCls⟩
def N_law : List PySem.Str := [(PySem.Str.ofString "_law_script"), (PySem.Str.ofString "_law_sizes"), (PySem.Str.ofString "_law_at")]
def N__law_right : List PySem.Str := [(PySem.Str.ofString "_law_script"), (PySem.Str.ofString "_law_at"), (PySem.Str.ofString "_law_plain_here"), (PySem.Str.ofString "_law_line_here"), (PySem.Str.ofString "_law_state"), (PySem.Str.ofString "_law_turn"), (PySem.Str.ofString "_law_some"), (PySem.Str.ofString "_law_asker"), (PySem.Str.ofString "_law_step"), (PySem.Str.ofString "_law_due"), (PySem.Str.ofString "_law_thing"), (PySem.Str.ofString "_law_ask")]
def N__law_plain : List PySem.Str := [(PySem.Str.ofString "_law_seed"), (PySem.Str.ofString "_law_sizes"), (PySem.Str.ofString "_law_askers"), (PySem.Str.ofString "_law_ahead"), (PySem.Str.ofString "_law_pieces"), (PySem.Str.ofString "_law_word"), (PySem.Str.ofString "_law_marks"), (PySem.Str.ofString "_law_at"), (PySem.Str.ofString "_law_mark")]
def N__law_number : List PySem.Str := [(PySem.Str.ofString "_law_script"), (PySem.Str.ofString "_law_index"), (PySem.Str.ofString "_law_cells"), (PySem.Str.ofString "_law_cell"), (PySem.Str.ofString "_law_low"), (PySem.Str.ofString "_law_high"), (PySem.Str.ofString "_law_total"), (PySem.Str.ofString "_law_blend")]
def N__law_line : List PySem.Str := [(PySem.Str.ofString "_law_plain_here")]
def N__law_first : List PySem.Str := []
def N_first_state : List PySem.Str := [(PySem.Str.ofString "line")]
def N__law_deeds : List PySem.Str := [(PySem.Str.ofString "_law_plain_here"), (PySem.Str.ofString "_law_world_here"), (PySem.Str.ofString "_law_found"), (PySem.Str.ofString "_law_asker"), (PySem.Str.ofString "_law_many"), (PySem.Str.ofString "_law_ask")]
def N__law_world : List PySem.Str := [(PySem.Str.ofString "_law_state"), (PySem.Str.ofString "_law_asks"), (PySem.Str.ofString "_law_at"), (PySem.Str.ofString "_law_ask"), (PySem.Str.ofString "_law_one")]
def N_after : List PySem.Str := [(PySem.Str.ofString "line"), (PySem.Str.ofString "state"), (PySem.Str.ofString "deed")]
def N_is_state : List PySem.Str := [(PySem.Str.ofString "line"), (PySem.Str.ofString "thing")]
def N__law_is_state : List PySem.Str := [(PySem.Str.ofString "_law_plain_here"), (PySem.Str.ofString "_law_thing"), (PySem.Str.ofString "_law_ask"), (PySem.Str.ofString "_law_asker"), (PySem.Str.ofString "_law_some"), (PySem.Str.ofString "_law_one"), (PySem.Str.ofString "_law_at")]
def N_done_counts : List PySem.Str := [(PySem.Str.ofString "line"), (PySem.Str.ofString "state"), (PySem.Str.ofString "asker"), (PySem.Str.ofString "index")]
def N__law_bent : List PySem.Str := [(PySem.Str.ofString "_law_script"), (PySem.Str.ofString "_law_at"), (PySem.Str.ofString "_law_state"), (PySem.Str.ofString "_law_seed"), (PySem.Str.ofString "_law_odd"), (PySem.Str.ofString "_law_thing"), (PySem.Str.ofString "_law_word"), (PySem.Str.ofString "_law_late"), (PySem.Str.ofString "_law_asks"), (PySem.Str.ofString "_law_mark"), (PySem.Str.ofString "_law_spot"), (PySem.Str.ofString "_law_ask")]
def N_check_line : List PySem.Str := [(PySem.Str.ofString "line")]
def N__law_open : List PySem.Str := [(PySem.Str.ofString "_law_world_here"), (PySem.Str.ofString "_law_ask")]
def N_check_deed : List PySem.Str := [(PySem.Str.ofString "line"), (PySem.Str.ofString "state"), (PySem.Str.ofString "deed")]
def N_outcome : List PySem.Str := [(PySem.Str.ofString "line"), (PySem.Str.ofString "state"), (PySem.Str.ofString "deed"), (PySem.Str.ofString "is_open"), (PySem.Str.ofString "asks"), (PySem.Str.ofString "row"), (PySem.Str.ofString "elder"), (PySem.Str.ofString "under"), (PySem.Str.ofString "half"), (PySem.Str.ofString "broken"), (PySem.Str.ofString "late")]
def N_is_state_of : List PySem.Str := [(PySem.Str.ofString "line"), (PySem.Str.ofString "thing"), (PySem.Str.ofString "asks"), (PySem.Str.ofString "ask"), (PySem.Str.ofString "asker")]
def N__law_is_ask : List PySem.Str := [(PySem.Str.ofString "_law_plain_here"), (PySem.Str.ofString "_law_thing")]
def N__law_are_parts : List PySem.Str := [(PySem.Str.ofString "_law_plain_here"), (PySem.Str.ofString "_law_thing"), (PySem.Str.ofString "_law_many"), (PySem.Str.ofString "_law_half"), (PySem.Str.ofString "_law_one")]
def N_check_state : List PySem.Str := [(PySem.Str.ofString "line"), (PySem.Str.ofString "state")]
def N_check_asker : List PySem.Str := [(PySem.Str.ofString "line"), (PySem.Str.ofString "asker")]
def N_open_of : List PySem.Str := [(PySem.Str.ofString "asks"), (PySem.Str.ofString "asker"), (PySem.Str.ofString "index")]
def N_is_deed : List PySem.Str := [(PySem.Str.ofString "line"), (PySem.Str.ofString "thing")]
def N_can_do : List PySem.Str := [(PySem.Str.ofString "line"), (PySem.Str.ofString "state"), (PySem.Str.ofString "deed"), (PySem.Str.ofString "is_open"), (PySem.Str.ofString "asks"), (PySem.Str.ofString "row"), (PySem.Str.ofString "elder"), (PySem.Str.ofString "under"), (PySem.Str.ofString "half")]
def N_taken_up : List PySem.Str := [(PySem.Str.ofString "line"), (PySem.Str.ofString "asks"), (PySem.Str.ofString "index"), (PySem.Str.ofString "asker"), (PySem.Str.ofString "word"), (PySem.Str.ofString "done"), (PySem.Str.ofString "is_passed"), (PySem.Str.ofString "broken"), (PySem.Str.ofString "wish"), (PySem.Str.ofString "is_so"), (PySem.Str.ofString "found"), (PySem.Str.ofString "at"), (PySem.Str.ofString "ask")]
def N_open_asks : List PySem.Str := [(PySem.Str.ofString "asks"), (PySem.Str.ofString "index"), (PySem.Str.ofString "ask")]
def N_read : List PySem.Str := [(PySem.Str.ofString "line"), (PySem.Str.ofString "state"), (PySem.Str.ofString "is_open"), (PySem.Str.ofString "asks"), (PySem.Str.ofString "row"), (PySem.Str.ofString "elder"), (PySem.Str.ofString "under"), (PySem.Str.ofString "half"), (PySem.Str.ofString "index"), (PySem.Str.ofString "many"), (PySem.Str.ofString "late"), (PySem.Str.ofString "to"), (PySem.Str.ofString "is_own")]
def N_cut : List PySem.Str := [(PySem.Str.ofString "line"), (PySem.Str.ofString "state"), (PySem.Str.ofString "many"), (PySem.Str.ofString "is_open"), (PySem.Str.ofString "asks"), (PySem.Str.ofString "row"), (PySem.Str.ofString "elder"), (PySem.Str.ofString "under"), (PySem.Str.ofString "half"), (PySem.Str.ofString "lost"), (PySem.Str.ofString "broken"), (PySem.Str.ofString "index")]
def N_tidied : List PySem.Str := [(PySem.Str.ofString "state"), (PySem.Str.ofString "is_open"), (PySem.Str.ofString "asks"), (PySem.Str.ofString "row"), (PySem.Str.ofString "elder"), (PySem.Str.ofString "under"), (PySem.Str.ofString "half"), (PySem.Str.ofString "left"), (PySem.Str.ofString "spots"), (PySem.Str.ofString "new"), (PySem.Str.ofString "old"), (PySem.Str.ofString "many")]
def N_is_ask : List PySem.Str := [(PySem.Str.ofString "line"), (PySem.Str.ofString "thing")]
def N_are_parts : List PySem.Str := [(PySem.Str.ofString "line"), (PySem.Str.ofString "asks"), (PySem.Str.ofString "thing"), (PySem.Str.ofString "many")]
def N_left_in : List PySem.Str := [(PySem.Str.ofString "state"), (PySem.Str.ofString "is_open"), (PySem.Str.ofString "asks"), (PySem.Str.ofString "row"), (PySem.Str.ofString "elder"), (PySem.Str.ofString "under"), (PySem.Str.ofString "half"), (PySem.Str.ofString "found"), (PySem.Str.ofString "one")]
def N__law_is_number : List PySem.Str := [(PySem.Str.ofString "_law_thing"), (PySem.Str.ofString "_law_low"), (PySem.Str.ofString "_law_high")]
def N__law_is_row : List PySem.Str := [(PySem.Str.ofString "_law_thing"), (PySem.Str.ofString "_law_many"), (PySem.Str.ofString "_law_one")]
def N__law_are_answers : List PySem.Str := [(PySem.Str.ofString "_law_plain_here"), (PySem.Str.ofString "_law_thing"), (PySem.Str.ofString "_law_many"), (PySem.Str.ofString "_law_one"), (PySem.Str.ofString "_law_at")]
def N_is_number : List PySem.Str := [(PySem.Str.ofString "thing"), (PySem.Str.ofString "low"), (PySem.Str.ofString "high")]
def N_awaiting : List PySem.Str := [(PySem.Str.ofString "line"), (PySem.Str.ofString "asks"), (PySem.Str.ofString "last"), (PySem.Str.ofString "rows")]
def N_with_word : List PySem.Str := [(PySem.Str.ofString "asks"), (PySem.Str.ofString "index"), (PySem.Str.ofString "word"), (PySem.Str.ofString "found")]
def N_lost_by : List PySem.Str := [(PySem.Str.ofString "line"), (PySem.Str.ofString "asks"), (PySem.Str.ofString "half"), (PySem.Str.ofString "rows"), (PySem.Str.ofString "to")]
def N_is_word : List PySem.Str := [(PySem.Str.ofString "thing"), (PySem.Str.ofString "words")]
def N_is_row : List PySem.Str := [(PySem.Str.ofString "thing"), (PySem.Str.ofString "many"), (PySem.Str.ofString "one"), (PySem.Str.ofString "other")]
def N_are_answers : List PySem.Str := [(PySem.Str.ofString "line"), (PySem.Str.ofString "thing"), (PySem.Str.ofString "many"), (PySem.Str.ofString "one"), (PySem.Str.ofString "least"), (PySem.Str.ofString "low")]
def N_are_marks : List PySem.Str := [(PySem.Str.ofString "thing"), (PySem.Str.ofString "word"), (PySem.Str.ofString "one"), (PySem.Str.ofString "other")]
def N_Line__init : List PySem.Str := [(PySem.Str.ofString "self"), (PySem.Str.ofString "askers"), (PySem.Str.ofString "ahead"), (PySem.Str.ofString "pieces"), (PySem.Str.ofString "again"), (PySem.Str.ofString "marks"), (PySem.Str.ofString "values"), (PySem.Str.ofString "name"), (PySem.Str.ofString "value")]
def lawIx : Nat := 62
end Mp.K02
end

section
set_option Elab.async false
set_option linter.all false
set_option maxRecDepth 100000
set_option maxHeartbeats 4000000
/-! L02a: the law's own look at states (k02). -/
namespace Mp.K02
open PySem Mp Mp.Pk

structure LwS (P : MP) : Prop where
  f64 : P.fns[64]? = some m__law_is_state
  f66 : P.fns[66]? = some m__law_is_ask
  f67 : P.fns[67]? = some m__law_are_parts
  f68 : P.fns[68]? = some m__law_is_number
  f69 : P.fns[69]? = some m__law_is_row
  f70 : P.fns[70]? = some m__law_are_answers
@[simp] theorem pl0 (L : Ln) (M : MH) : getI (plV L) (.int 0) M = some (.int L.askers) := getI_t0 _ _ _
@[simp] theorem pl1 (L : Ln) (M : MH) : getI (plV L) (.int 1) M = some (.int L.ahead) := getI_t1 _ _ _ _
@[simp] theorem pl2 (L : Ln) (M : MH) : getI (plV L) (.int 2) M = some (.int L.pieces) := getI_t2 _ _ _ _ _
@[simp] theorem pl4 (L : Ln) (M : MH) : getI (plV L) (.int 4) M = some (.tup (marksL L)) := getI_t4 _ _ _ _ _ _ _
theorem sset_tup (ns : List Nat) (M : MH) (h : ns.length < 64) : bltF .sset false [.tup (ns.map natV)] M = .val (.lst ((sortN ns).map natV)) M := by
  rw [← sset_nat ns M h]
  rfl
theorem row_sorted (ns : List Nat) : ns = sortN ns ↔ ns.Pairwise (· < ·) := by
  constructor
  · intro h
    rw [h]
    exact sortN_asc ns
  · intro h
    exact asc_ext h (sortN_asc ns) fun x => mem_sortN.symm
theorem all_nats {xs : List PV} {n : Nat} (h : (xs.all fun x => isNum x 0 ((n : Int) - 1)) = true) : ∃ ns : List Nat, xs = ns.map natV ∧ ∀ i, i ∈ ns → i < n := by
  induction xs with
  | nil => exact ⟨[], rfl, fun _ h => absurd h List.not_mem_nil⟩
  | cons x xs ih =>
    rw [List.all_cons, Bool.and_eq_true] at h
    obtain ⟨i, rfl, hi⟩ := isNum_nat.mp h.1
    obtain ⟨ns, rfl, hs⟩ := ih h.2
    refine ⟨i :: ns, rfl, fun z hz => ?_⟩
    rcases List.mem_cons.mp hz with rfl | hz
    · exact hi
    · exact hs z hz
section
variable {P : MP} (T : LwS P)
include T
theorem LwS.k66 : Cal P 66 2 := cal T.f66 rfl
theorem LwS.k67 : Cal P 67 2 := cal T.f67 rfl
theorem LwS.k68 : Cal P 68 3 := cal T.f68 rfl
theorem LwS.k69 : Cal P 69 2 := cal T.f69 rfl
theorem LwS.k70 : Cal P 70 3 := cal T.f70 rfl
theorem ev_law_number (d : Nat) (v : PV) {k : Nat} (hv : Dat k v) (lo hi : Int) (M : MH) : evC P 30 (d + 1) 68 [v, .int lo, .int hi] M = .val (.bl (isNum v lo hi)) M := by
  rw [evC_succ P 30 d 68 _ M T.f68 rfl]
  cases v with
  | ref n => cases k <;> simp [Dat, okB, view] at hv
  | obj c n => cases k <;> simp [Dat, okB] at hv
  | int i => by_cases h1 : lo ≤ i <;> simp [m__law_is_number, typAny, kindOf, tyIs, cmpOp, h1, qChainK, isNum]
  | _ => rfl
theorem cp_law_number (d : Nat) (v : PV) {k : Nat} (hv : Dat k v) (hk : k ≤ 50) (lo hi : Int) (M : MH) : callP (evC P 30 (d + 1)) 68 [v, .int lo, .int hi] M = .val (.bl (isNum v lo hi)) M :=
  callP_ok (by simp [hv.pure hk]) (ev_law_number T d v hv lo hi []) rfl
theorem ev_law_row (d : Nat) (v : PV) {k : Nat} (hv : Dat k v) (hk : k ≤ 40) (hl : tl v < 64) (many : Nat) (M : MH) : evC P 30 (d + 2) 69 [v, .int many] M = .val (.bl (isRowV v many)) M := by
  rw [evC_succ P 30 (d + 1) 69 _ M T.f69 rfl]
  have t0 := typ_tuple hv P.cls.length M
  cases hT : isTupB v with
  | false =>
    rw [hT] at t0
    have e : isRowV v many = false := by
      cases v <;> first | rfl | cases hT
    rw [e]
    simp [m__law_is_row, t0]
  | true =>
  cases v with
  | tup xs =>
    have hx : xs.length < 64 := hl
    have hs : SrcL M (.sq true (.tup xs)) xs id := src_seq (by rw [List.map_id]; rfl)
    have e0 : ∀ j, lcL (evT0 P (evC P 30 (d + 1)) (j + 5)) (.call 68 true [.var 2, .lit (.int 0), .bin .sub false (.var 1) (.lit (.int 1))]) (.nm 2) [] [some (PV.tup xs), some (PV.int many), none] (srcLen M (.sq true (.tup xs)) + 1) 0 (.sq true (.tup xs)) [] M = .val (xs.map fun x => .bl (isNum x 0 ((many : Int) - 1))) M := by
      intro j
      refine lcL_all hs (by omega) fun x hm => ⟨_, rfl, ?_⟩
      have dx : Dat (k - 1) x := by
        cases k with
        | zero => cases hv
        | succ k => exact hv.mem hm
      simp [stepE_callT, T.k68, cp_law_number T d x dx (by omega) 0 ((many : Int) - 1) M]
    have eb := bAll_map false (fun x => isNum x 0 ((many : Int) - 1)) xs M
    have hn : (xs.map fun x => PV.bl (isNum x 0 ((many : Int) - 1))).length ≤ 1000000 := by rw [List.length_map]; omega
    cases hA : xs.all fun x => isNum x 0 ((many : Int) - 1) with
    | false =>
      rw [hA] at eb
      have e : isRowV (.tup xs) many = false := by
        unfold isRowV
        dsimp only
        rw [hA]
        rfl
      rw [e]
      simp [-List.map_map, m__law_is_row, kindS_tup, wipeR, e0, newL_f hn, eb]
    | true =>
      rw [hA] at eb
      obtain ⟨ns, rfl, hb⟩ := all_nats hA
      have hl2 : ns.length < 64 := by rw [List.length_map] at hx; exact hx
      have es := sset_tup ns M hl2
      have eq := eqV_nats ns (sortN ns) M
      have er : isRowV (.tup (ns.map natV)) many = decide (ns = sortN ns) := by
        rw [Bool.eq_iff_iff, decide_eq_true_eq, row_sorted]
        constructor
        · intro h
          obtain ⟨ns', e, hr⟩ := isRowV_iff.mp h
          have := rowV_inj (a := ns) (b := ns') e
          subst this
          exact hr.1
        · intro h
          exact isRowV_iff.mpr ⟨ns, rfl, h, hb⟩
      rw [er]
      have hn2 : (ns.map natV).length ≤ 1000000 := by rw [List.length_map]; omega
      have s2 : stepE P (evT0 P (evC P 30 (d + 1)) 28) (evC P 30 (d + 1)) (.cmp .eq (.blt .list false [.var 0]) (.blt .sset false [.var 0])) [some (PV.tup (ns.map natV)), some (PV.int many), none] M = .val (.bl (decide (ns = sortN ns))) M := by
        have h1 : (evT0 P (evC P 30 (d + 1)) 28).e (.blt .list false [.var 0]) [some (PV.tup (ns.map natV)), some (PV.int many), none] M = .val (.lst (ns.map natV)) M := by
          simp [-List.map_map, bList_tup, newL_f hn2]
        have h2 : (evT0 P (evC P 30 (d + 1)) 28).e (.blt .sset false [.var 0]) [some (PV.tup (ns.map natV)), some (PV.int many), none] M = .val (.lst ((sortN ns).map natV)) M := by
          simp [-List.map_map, es]
        rw [stepE_cmp, h1, bind_val, h2, bind_val, cmp_eq, eq, optV_some]
      simp [-List.map_map, -stepE_cmp, m__law_is_row, kindS_tup, wipeR, e0, newL_f hn, eb, s2]
  | _ => cases hT
theorem cp_law_row (d : Nat) (v : PV) {k : Nat} (hv : Dat k v) (hk : k ≤ 40) (hl : tl v < 64) (many : Nat) (M : MH) : callP (evC P 30 (d + 2)) 69 [v, .int many] M = .val (.bl (isRowV v many)) M :=
  callP_ok (by simp [hv.pure (show k ≤ 50 by omega)]) (ev_law_row T d v hv hk hl many []) rfl
theorem ev_law_ask (d : Nat) (L : Ln) (v : PV) {k : Nat} (hv : Dat k v) (hk : k ≤ 40) (M : MH) : evC P 30 (d + 2) 66 [plV L, v] M = .val (.bl (isAskV L v)) M := by
  rw [evC_succ P 30 (d + 1) 66 _ M T.f66 rfl]
  have t0 := typ_tuple hv P.cls.length M
  cases hT : isTupB v with
  | false =>
    rw [hT] at t0
    have e : isAskV L v = false := by
      cases v <;> first | rfl | cases hT
    rw [e]
    simp [m__law_is_ask, t0]
  | true =>
  cases v with
  | tup xs =>
    cases k with
    | zero => cases hv
    | succ k =>
    by_cases hl : xs.length = 4
    · match xs, hl with
      | [a, w, n, l], _ =>
        have da : Dat k a := hv.mem (by simp)
        have dw : Dat k w := hv.mem (by simp)
        have dn : Dat k n := hv.mem (by simp)
        have dl : Dat k l := hv.mem (by simp)
        have e0 := cp_law_number T d a da (by omega) 0 (L.askers - 1) M
        have e2 := cp_law_number T d n dn (by omega) 0 2 M
        have tw := typ_str dw P.cls.length M
        have ein : isStrB w = true → inL M w wordsL = some (isWrd w wordsL) := fun hs => by
          cases w with
          | str x =>
            rw [inL_ok (dw.ok M (by omega)) (fun y hy => by
              simp only [wordsL, List.mem_cons, List.not_mem_nil, or_false] at hy
              rcases hy with rfl | rfl | rfl <;> kernel_rfl)]
            rfl
          | _ => cases hs
        have ew : isStrB w = false → isWrd w wordsL = false := fun hs => by
          cases w <;> first | rfl | cases hs
        unfold wordsL at ein
        unfold isAskV
        dsimp only
        cases hA : isNum a 0 (L.askers - 1) with
        | false =>
          rw [hA] at e0
          simp [m__law_is_ask, stepE_callT, T.k68, e0]
        | true =>
        rw [hA] at e0
        cases hS : isStrB w with
        | false =>
          rw [hS] at tw
          rw [ew hS]
          simp [m__law_is_ask, stepE_callT, T.k68, e0, tw]
        | true =>
          rw [hS] at tw
          have ein := ein hS
          change inL M w _ = some (isWrd w wordsL) at ein
          generalize isWrd w wordsL = W at ein ⊢
          generalize isNum n 0 2 = N at e2 ⊢
          simp [m__law_is_ask, stepE_callT, T.k68, e0, e2, tw, ein, typ_bool dl]
          cases W <;> cases N <;> simp
      | [], h => cases h
      | [_], h => cases h
      | [_, _], h => cases h
      | [_, _, _], h => cases h
      | _ :: _ :: _ :: _ :: _ :: _, h => simp at h
    · have hl2 : ¬ ((xs.length : Int) = 4) := by omega
      simp [m__law_is_ask, hl2]
      unfold isAskV
      split
      · rename_i h
        cases h
        exact absurd rfl hl
      · rfl
  | _ => cases hT
theorem cp_law_ask (d : Nat) (L : Ln) (v : PV) {k : Nat} (hv : Dat k v) (hk : k ≤ 40) (M : MH) : callP (evC P 30 (d + 2)) 66 [plV L, v] M = .val (.bl (isAskV L v)) M :=
  callP_ok (by simp [hv.pure (show k ≤ 50 by omega), pl_pure L 47]) (ev_law_ask T d L v hv hk []) rfl
end
end Mp.K02
end

section
set_option Elab.async false
set_option linter.all false
set_option maxRecDepth 100000
set_option maxHeartbeats 4000000
/-! L02b: the law's own look at states (k02), answers and parts. -/
namespace Mp.K02
open PySem Mp Mp.Pk

def ansAt (p : Int) (q : PV × Nat) : Bool := isNum (sndV q.1) (if q.2 = 0 then 1 else p) p
theorem ansAt_all (p : Int) : ∀ (xs : List PV) (k : Nat), ((xs.zipIdx (k + 1)).all (ansAt p)) = ansLow p p xs
  | [], _ => rfl
  | x :: xs, k => by
    rw [List.zipIdx_cons, List.all_cons, ansAt_all p xs (k + 1)]
    show (isNum (sndV x) (if k + 1 = 0 then 1 else p) p && ansLow p p xs) = (isNum (sndV x) p p && ansLow p p xs)
    rw [if_neg (by omega)]
theorem ansAt_low (p : Int) (xs : List PV) : xs.zipIdx.all (ansAt p) = ansLow p 1 xs := by
  cases xs with
  | nil => rfl
  | cons x xs =>
    rw [List.zipIdx_cons, List.all_cons, ansAt_all p xs 0]
    rfl
section
variable {P : MP} (T : LwS P)
include T
theorem ev_law_answers (d : Nat) (L : Ln) (v : PV) {k : Nat} (hv : Dat k v) (hk : k ≤ 40) (hl : tl v < 64) (many : Nat) (M : MH) : evC P 30 (d + 3) 70 [plV L, v, .int many] M = .val (.bl (isAnsV L.pieces v many)) M := by
  rw [evC_succ P 30 (d + 2) 70 _ M T.f70 rfl]
  have t0 := typ_tuple hv P.cls.length M
  cases hT : isTupB v with
  | false =>
    rw [hT] at t0
    have e : isAnsV L.pieces v many = false := by
      cases v <;> first | rfl | cases hT
    rw [e]
    simp [m__law_are_answers, t0]
  | true =>
  cases v with
  | tup xs =>
    cases k with
    | zero => cases hv
    | succ k =>
    have hx : xs.length < 64 := hl
    have hs : SrcL M (.sq true (.tup xs)) xs id := src_seq (by rw [List.map_id]; rfl)
    have e0 : ∀ j, lcL (evT0 P (evC P 30 (d + 2)) (j + 5)) (.and [.isi (.var 3) [.tuple], .cmp .eq (.blt .len false [.var 3]) (.lit (.int 2))]) (.nm 3) [] [some (plV L), some (PV.tup xs), some (PV.int many), none, none] (srcLen M (.sq true (.tup xs)) + 1) 0 (.sq true (.tup xs)) [] M = .val (xs.map fun x => .bl (isPair x)) M := by
      intro j
      refine lcL_all hs (by omega) fun x hm => ⟨_, rfl, ?_⟩
      have dx := hv.mem hm
      cases x with
      | tup ys =>
        simp
        match ys with
        | [] => rfl
        | [_] => rfl
        | [_, _] => rfl
        | a :: b :: c :: r =>
          simp [isPair]
          omega
      | ref n => cases k <;> simp [Dat, okB, view] at dx
      | obj c n => cases k <;> simp [Dat, okB] at dx
      | _ => rfl
    have eb := bAll_map false isPair xs M
    have hn1 : (xs.map fun x => PV.bl (isPair x)).length ≤ 1000000 := by rw [List.length_map]; omega
    cases hA : xs.all isPair with
    | false =>
      rw [hA] at eb
      have e : isAnsV L.pieces (.tup xs) many = false := by
        unfold isAnsV
        dsimp only
        rw [hA]
        rfl
      rw [e]
      simp [-List.map_map, m__law_are_answers, kindS_tup, wipeR, e0, newL_f hn1, eb]
    | true =>
      rw [hA] at eb
      have e1 : ∀ j, lcL (evT0 P (evC P 30 (d + 2)) (j + 5)) (.idx (.var 3) (.lit (.int 0))) (.nm 3) [] [some (plV L), some (PV.tup xs), some (PV.int many), none, none] (srcLen M (.sq true (.tup xs)) + 1) 0 (.sq true (.tup xs)) [] M = .val (xs.map fstV) M := by
        intro j
        refine lcL_all hs (by omega) fun x hm => ⟨_, rfl, ?_⟩
        have q := List.all_eq_true.mp hA x hm
        unfold isPair at q
        split at q
        · rfl
        · cases q
      have hn2 : (xs.map fstV).length ≤ 1000000 := by rw [List.length_map]; omega
      have df : Dat (k + 1) (.tup (xs.map fstV)) := List.all_eq_true.mpr fun x hx => by
        obtain ⟨y, hy, rfl⟩ := List.mem_map.mp hx
        have dy := hv.mem hy
        have q := List.all_eq_true.mp hA y hy
        unfold isPair at q
        split at q
        · rename_i a b
          cases k with
          | zero => cases dy
          | succ k => exact okB_mono _ _ _ (dy.mem (x := a) (by simp))
        · cases q
      have er := cp_law_row T d (.tup (xs.map fstV)) df (by omega) (show (xs.map fstV).length < 64 by rw [List.length_map]; exact hx) many M
      cases hR : isRowV (.tup (xs.map fstV)) many with
      | false =>
        rw [hR] at er
        have e : isAnsV L.pieces (.tup xs) many = false := by
          unfold isAnsV
          dsimp only
          rw [hA, hR]
          rfl
        rw [e]
        simp [-List.map_map, m__law_are_answers, kindS_tup, wipeR, e0, newL_f hn1, eb, e1, newL_f hn2, bTuple_lst false _ M hn2, stepE_callT, T.k69, er]
      | true =>
        rw [hR] at er
        have eA : isAnsV L.pieces (.tup xs) many = xs.zipIdx.all (ansAt L.pieces) := by
          rw [ansAt_low]
          unfold isAnsV
          dsimp only
          rw [hA, hR]
          rfl
        rw [eA]
        have hz : SrcL M (.enum true (.tup xs)) xs.zipIdx (fun q => PV.tup [PV.int q.2, id q.1]) := srcEnum (by rw [List.map_id]; rfl)
        -- one turn
        have turn : ∀ (q : PV × Nat), q ∈ xs.zipIdx → ssL (evT0 P (evC P 30 (d + 2)) 29) [.ifs (.not (.call 68 true [.idx (.var 3) (.lit (.int 1)), .ite (.cmp .eq (.var 4) (.lit (.int 0))) (.lit (.int 1)) (.idx (.var 0) (.lit (.int 2))), .idx (.var 0) (.lit (.int 2))])) [.ret (.lit (.bl false))] []] [some (plV L), some (.tup xs), some (.int many), some q.1, some (.int q.2)] M
            = if ansAt L.pieces q then .nx [some (plV L), some (.tup xs), some (.int many), some q.1, some (.int q.2)] M else .rt (.bl false) M := by
          intro q hq
          have hm : q.1 ∈ xs := List.mem_of_getElem? (zipIdx_mem hq)
          have dq := hv.mem hm
          have z := List.all_eq_true.mp hA q.1 hm
          unfold isPair at z
          split at z
          · rename_i a b ea
            rw [ea] at dq
            cases k with
            | zero => cases dq
            | succ k =>
            have db : Dat k b := dq.mem (by simp)
            have en := fun lo => cp_law_number T (d + 1) b db (by omega) lo L.pieces M
            unfold ansAt
            rw [ea]
            by_cases h0 : q.2 = 0
            · simp [ea, h0, stepE_callT, T.k68, en, sndV]
              cases isNum b 1 L.pieces <;> rfl
            · have h1 : ¬ ((q.2 : Int) = 0) := by omega
              simp [ea, h0, h1, stepE_callT, T.k68, en, sndV]
              cases isNum b L.pieces L.pieces <;> rfl
          · cases z
        have loop : forL (evT0 P (evC P 30 (d + 2)) 29) (.tup [.nm 4, .nm 3]) (ssL (evT0 P (evC P 30 (d + 2)) 29) [.ifs (.not (.call 68 true [.idx (.var 3) (.lit (.int 1)), .ite (.cmp .eq (.var 4) (.lit (.int 0))) (.lit (.int 1)) (.idx (.var 0) (.lit (.int 2))), .idx (.var 0) (.lit (.int 2))])) [.ret (.lit (.bl false))] []]) (srcLen M (.enum true (.tup xs)) + 1) 0 (.enum true (.tup xs)) [some (plV L), some (.tup xs), some (.int many), none, none] M = .rt (.bl false) M ∨
            xs.zipIdx.all (ansAt L.pieces) = true ∧ ∃ ρ, forL (evT0 P (evC P 30 (d + 2)) 29) (.tup [.nm 4, .nm 3]) (ssL (evT0 P (evC P 30 (d + 2)) 29) [.ifs (.not (.call 68 true [.idx (.var 3) (.lit (.int 1)), .ite (.cmp .eq (.var 4) (.lit (.int 0))) (.lit (.int 1)) (.idx (.var 0) (.lit (.int 2))), .idx (.var 0) (.lit (.int 2))])) [.ret (.lit (.bl false))] []]) (srcLen M (.enum true (.tup xs)) + 1) 0 (.enum true (.tup xs)) [some (plV L), some (.tup xs), some (.int many), none, none] M = .nx ρ M := by
          rcases forL_go (s := .enum true (.tup xs)) (inj := fun q : PV × Nat => PV.tup [PV.int q.2, id q.1]) (E := evT0 P (evC P 30 (d + 2)) 29) (t := .tup [.nm 4, .nm 3]) (body := ssL (evT0 P (evC P 30 (d + 2)) 29) [.ifs (.not (.call 68 true [.idx (.var 3) (.lit (.int 1)), .ite (.cmp .eq (.var 4) (.lit (.int 0))) (.lit (.int 1)) (.idx (.var 0) (.lit (.int 2))), .idx (.var 0) (.lit (.int 2))])) [.ret (.lit (.bl false))] []])
            xs.zipIdx (st := fun pre ρ M' => M' = M ∧ pre.all (ansAt L.pieces) = true ∧ ∃ a b, ρ = [some (plV L), some (.tup xs), some (.int many), a, b]) (r' := .rt (.bl false) M)
            (fun pre ρ M' h => by rw [h.1]; exact hz) (fun pre q post ρ M' hL h => by
              obtain ⟨rfl, hp, a, b, rfl⟩ := h
              refine ⟨_, _, rfl, ?_⟩
              have tq := turn q (by rw [hL]; simp)
              cases hq : ansAt L.pieces q with
              | true =>
                rw [hq] at tq
                exact .inl ⟨_, _, .inl tq, rfl, by rw [List.all_append, hp]; simp [hq], _, _, rfl⟩
              | false =>
                rw [hq] at tq
                exact .inr ⟨tq, fun a b => SO.noConfusion, fun a b => SO.noConfusion, fun a b => SO.noConfusion⟩) xs.zipIdx [] (srcLen M (.enum true (.tup xs)) + 1) _ M rfl (by have := hz.2; omega) ⟨rfl, rfl, none, none, rfl⟩ with ⟨ρ, M', h1, h2, h3, _⟩ | h
          · subst h2
            exact .inr ⟨h3, ρ, h1⟩
          · exact .inl h
        have loopF : xs.zipIdx.all (ansAt L.pieces) = true → ∃ ρ, forL (evT0 P (evC P 30 (d + 2)) 29) (.tup [.nm 4, .nm 3]) (ssL (evT0 P (evC P 30 (d + 2)) 29) [.ifs (.not (.call 68 true [.idx (.var 3) (.lit (.int 1)), .ite (.cmp .eq (.var 4) (.lit (.int 0))) (.lit (.int 1)) (.idx (.var 0) (.lit (.int 2))), .idx (.var 0) (.lit (.int 2))])) [.ret (.lit (.bl false))] []]) (srcLen M (.enum true (.tup xs)) + 1) 0 (.enum true (.tup xs)) [some (plV L), some (.tup xs), some (.int many), none, none] M = .nx ρ M := fun hall => by
          obtain ⟨ρ, M', h1, h2, _⟩ := forL_all (s := .enum true (.tup xs)) (inj := fun q : PV × Nat => PV.tup [PV.int q.2, id q.1]) (E := evT0 P (evC P 30 (d + 2)) 29) (t := .tup [.nm 4, .nm 3]) (body := ssL (evT0 P (evC P 30 (d + 2)) 29) [.ifs (.not (.call 68 true [.idx (.var 3) (.lit (.int 1)), .ite (.cmp .eq (.var 4) (.lit (.int 0))) (.lit (.int 1)) (.idx (.var 0) (.lit (.int 2))), .idx (.var 0) (.lit (.int 2))])) [.ret (.lit (.bl false))] []])
            (L := xs.zipIdx) (st := fun pre ρ M' => M' = M ∧ ∃ a b, ρ = [some (plV L), some (.tup xs), some (.int many), a, b]) (ρ := [some (plV L), some (.tup xs), some (.int many), none, none]) (M := M)
            (fun pre ρ M' h => by rw [h.1]; exact hz) (fun pre q post ρ M' hL h => by
              obtain ⟨rfl, a, b, rfl⟩ := h
              refine ⟨_, _, rfl, ?_⟩
              have tq := turn q (by rw [hL]; simp)
              rw [List.all_eq_true.mp hall q (by rw [hL]; simp)] at tq
              exact ⟨_, _, .inl tq, rfl, _, _, rfl⟩) ⟨rfl, none, none, rfl⟩
          subst h2
          exact ⟨ρ, h1⟩
        cases hall : xs.zipIdx.all (ansAt L.pieces) with
        | true =>
          obtain ⟨ρ, h⟩ := loopF hall
          simp [-List.map_map, m__law_are_answers, kindS_tup, wipeR, e0, newL_f hn1, eb, e1, newL_f hn2, bTuple_lst false _ M hn2, stepE_callT, T.k69, er, h]
        | false =>
          rcases loop with h | ⟨h, _⟩
          · simp [-List.map_map, m__law_are_answers, kindS_tup, wipeR, e0, newL_f hn1, eb, e1, newL_f hn2, bTuple_lst false _ M hn2, stepE_callT, T.k69, er, h]
          · rw [hall] at h
            cases h
  | _ => cases hT
theorem cp_law_answers (d : Nat) (L : Ln) (v : PV) {k : Nat} (hv : Dat k v) (hk : k ≤ 40) (hl : tl v < 64) (many : Nat) (M : MH) : callP (evC P 30 (d + 3)) 70 [plV L, v, .int many] M = .val (.bl (isAnsV L.pieces v many)) M :=
  callP_ok (by simp [hv.pure (show k ≤ 50 by omega), pl_pure L 47]) (ev_law_answers T d L v hv hk hl many []) rfl
end
end Mp.K02
end

section
set_option Elab.async false
set_option linter.all false
set_option maxRecDepth 100000
set_option maxHeartbeats 4000000
/-! L02c: the law's own look at states (k02), the parts. -/
namespace Mp.K02
open PySem Mp Mp.Pk

theorem cross_all {n : Nat} {us : List (Nat × Int)} (hr : Row (us.map (·.1)) n) (y : Nat) : (∀ q, q ∈ us → q.1 < y) ↔ ∀ b, us.getLast? = some b → b.1 < y := by
  constructor
  · intro h b hb
    exact h b (List.mem_of_getLast? hb)
  · intro h q hq
    rcases snoc us with rfl | ⟨us0, x, rfl⟩
    · cases hq
    · have hx := h x (by rw [List.getLast?_append]; rfl)
      rcases List.mem_append.mp hq with hq | hq
      · have hp := hr.1
        rw [List.map_append, List.pairwise_append] at hp
        have := hp.2.2 q.1 (List.mem_map.mpr ⟨q, hq, rfl⟩) x.1 (by simp)
        omega
      · have e : q = x := by simpa using hq
        rw [e]
        exact hx
section
variable {P : MP} (T : LwS P)
include T
theorem ev_law_parts (d : Nat) (L : Ln) (hp : 1 ≤ L.pieces) (asks : List Ask) (o r e u h : PV) {k : Nat} (dr : Dat k r) (de : Dat k e) (du : Dat k u) (dh : Dat k h) (hk : k ≤ 40) (zr : tl r < 64) (ze : tl e < 64) (zu : tl u < 64) (M : MH) :
    ∃ b, evC P 30 (d + 4) 67 [plV L, .tup [o, .tup (asks.map askV), r, e, u, h]] M = .val (.bl b) M ∧ (b = true ↔ PartsV L asks.length r e u h) := by
  rw [evC_succ P 30 (d + 3) 67 _ M T.f67 rfl]
  have e1 := cp_law_row T (d + 1) r dr hk zr asks.length M
  have e2 := cp_law_row T (d + 1) e de hk ze asks.length M
  have e3 := cp_law_answers T d L u du hk zu asks.length M
  have elen : bltF .len false [.tup (asks.map askV)] M = .val (.int asks.length) M := by rw [bLen_tup, List.length_map]
  have hd : ∀ ρ', ρ' = [some (plV L), some (.tup [o, .tup (asks.map askV), r, e, u, h]), some (.int asks.length), some h, none] →
      (ssL (evT0 P (evC P 30 (d + 3)) 30) m__law_are_parts.body [some (plV L), some (.tup [o, .tup (asks.map askV), r, e, u, h]), none, none, none] M).fin
        = if isRowV r asks.length && (isRowV e asks.length && isAnsV L.pieces u asks.length) then (ssL (evT0 P (evC P 30 (d + 3)) 30) (m__law_are_parts.body.drop 3) ρ' M).fin else .val (.bl false) M := fun ρ' hρ => by
    subst hρ
    generalize isRowV r asks.length = A at e1 ⊢
    generalize isRowV e asks.length = B at e2 ⊢
    generalize isAnsV L.pieces u asks.length = Cc at e3 ⊢
    generalize PV.int (asks.length : Int) = z at elen e1 e2 e3 ⊢
    cases A <;> cases B <;> cases Cc <;> simp [-bLen_tup, m__law_are_parts, elen, setAll, stepE_callT, T.k69, T.k70, e1, e2, e3]
  have fin0 : evC P 30 (d + 4) 67 [plV L, .tup [o, .tup (asks.map askV), r, e, u, h]] M = (ssL (evT0 P (evC P 30 (d + 3)) 30) m__law_are_parts.body [some (plV L), some (.tup [o, .tup (asks.map askV), r, e, u, h]), none, none, none] M).fin := evC_succ P 30 (d + 3) 67 _ M T.f67 rfl
  change ∃ b, (ssL (evT0 P (evC P 30 (d + 3)) 30) m__law_are_parts.body [some (plV L), some (.tup [o, .tup (asks.map askV), r, e, u, h]), none, none, none] M).fin = .val (.bl b) M ∧ _
  rw [hd _ rfl]
  cases hA : (isRowV r asks.length && (isRowV e asks.length && isAnsV L.pieces u asks.length)) with
  | false =>
    refine ⟨false, rfl, fun z => (by cases z), fun ⟨row, elder, us, half, a1, a2, a3, a4, a5⟩ => ?_⟩
    rw [isRowV_iff.mpr ⟨row, a1, a5.pr⟩, isRowV_iff.mpr ⟨elder, a2, a5.pe⟩, (isAnsV_iff hp).mpr ⟨us, a3, a5.pu⟩] at hA
    cases hA
  | true =>
  rw [Bool.and_eq_true, Bool.and_eq_true] at hA
  obtain ⟨row, rfl, R⟩ := isRowV_iff.mp hA.1
  obtain ⟨elder, rfl, E⟩ := isRowV_iff.mp hA.2.1
  obtain ⟨us, rfl, U⟩ := (isAnsV_iff hp).mp hA.2.2
  rw [if_pos rfl]
  have q1 : eqV M (rowV row) (.tup []) = some row.isEmpty := by
    rw [eqV_nil dr (by omega)]
    cases row <;> rfl
  have eh := cp_law_number T (d + 2) h dh (by omega) 0 ((asks.length : Int) - 1) M
  have hs : SrcL M (.sq true (.tup (us.map ansV))) us ansV := src_tup _ _ _
  have hun : us.length < 64 := by have : (us.map ansV).length < 64 := zu; rw [List.length_map] at this; exact this
  have e5 : ∀ j y row', row = y :: row' → lcL (evT0 P (evC P 30 (d + 3)) (j + 6)) (.cmp .ge (.idx (.var 4) (.lit (.int 0))) (.idx (.idx (.var 1) (.lit (.int 2))) (.lit (.int 0)))) (.nm 4) [] [some (plV L), some (.tup [o, .tup (asks.map askV), rowV row, rowV elder, .tup (us.map ansV), h]), some (.int asks.length), some h, none] (srcLen M (.sq true (.tup (us.map ansV))) + 1) 0 (.sq true (.tup (us.map ansV))) [] M = .val (us.map fun q => .bl (decide (y ≤ q.1))) M := by
    intro j y row' hrow
    subst hrow
    refine lcL_all hs (by omega) fun q hq => ⟨_, rfl, ?_⟩
    have g0 : getI (rowV (y :: row')) (.int 0) M = some (natV y) := getI_t0 _ _ _
    have g1 : getI (ansV q) (.int 0) M = some (natV q.1) := getI_t0 _ _ _
    simp [g0, g1, natV]
  have b0 : m__law_are_parts.body.drop 3 = [.ifs (.and [(.cmp .ne (.idx (.var 1) (.lit (.int 2))) (.tup [])), (.blt .any false [(.lc false [4] (.cmp .ge (.idx (.var 4) (.lit (.int 0))) (.idx (.idx (.var 1) (.lit (.int 2))) (.lit (.int 0)))) (.nm 4) (.seq (.idx (.var 1) (.lit (.int 4)))) [])])]) [.ret (.lit (.bl false))] [],
    .ret (.or [(.cmp .is_ (.var 3) (.lit .non)), (.and [(.cmp .eq (.idx (.var 0) (.lit (.int 2))) (.lit (.int 2))), (.call 68 true [(.var 3), (.lit (.int 0)), (.bin .sub false (.var 2) (.lit (.int 1)))])])])] := rfl
  rw [b0]
  have s2 : stepS (evT0 P (evC P 30 (d + 3)) 29) (.ret (.or [(.cmp .is_ (.var 3) (.lit .non)), (.and [(.cmp .eq (.idx (.var 0) (.lit (.int 2))) (.lit (.int 2))), (.call 68 true [(.var 3), (.lit (.int 0)), (.bin .sub false (.var 2) (.lit (.int 1)))])])])) [some (plV L), some (.tup [o, .tup (asks.map askV), rowV row, rowV elder, .tup (us.map ansV), h]), some (.int asks.length), some h, none] M
      = .rt (.bl (isNon h || (decide (L.pieces = 2) && isNum h 0 ((asks.length : Int) - 1)))) M := by
    simp [stepE_callT, T.k68, eh]
    cases isNon h
    · by_cases hp2 : L.pieces = 2 <;> simp [hp2]
    · rfl
  have halfI : (isNon h || (decide (L.pieces = 2) && isNum h 0 ((asks.length : Int) - 1))) = true ↔ ∃ half, h = halfV half ∧ ∀ i, half = some i → L.pieces = 2 ∧ i < asks.length := by
    rw [Bool.or_eq_true, Bool.and_eq_true, decide_eq_true_eq, isNum_nat]
    constructor
    · rintro (z | ⟨z1, i, rfl, z2⟩)
      · refine ⟨none, ?_, fun i e => by cases e⟩
        cases h <;> first | rfl | cases z
      · exact ⟨some i, rfl, fun j e => by cases e; exact ⟨z1, z2⟩⟩
    · rintro ⟨half, rfl, z⟩
      cases half with
      | none => exact .inl rfl
      | some i => exact .inr ⟨(z i rfl).1, i, rfl, (z i rfl).2⟩
  have ok : CrossN row us → ((isNon h || (decide (L.pieces = 2) && isNum h 0 ((asks.length : Int) - 1))) = true ↔ PartsV L asks.length (rowV row) (rowV elder) (.tup (us.map ansV)) h) := fun cr => by
    rw [halfI]
    constructor
    · rintro ⟨half, e, z⟩
      exact ⟨row, elder, us, half, rfl, rfl, rfl, e, R, E, U, cr, z⟩
    · rintro ⟨row', elder', us', half, a1, a2, a3, a4, a5⟩
      exact ⟨half, a4, a5.ph⟩
  have bad : ¬ CrossN row us → ¬ PartsV L asks.length (rowV row) (rowV elder) (.tup (us.map ansV)) h := fun nc ⟨row', elder', us', half, a1, a2, a3, a4, a5⟩ => by
    have b1 := rowV_inj a1
    have b3 := ansL_inj a3
    subst b1 b3
    exact nc a5.pc
  cases row with
  | nil =>
    refine ⟨_, ?_, ok fun a b e _ => by cases e⟩
    have q1' : eqV M (rowV []) (.tup []) = some true := q1
    have s1 : stepS (evT0 P (evC P 30 (d + 3)) 29) (.ifs (.and [(.cmp .ne (.idx (.var 1) (.lit (.int 2))) (.tup [])), (.blt .any false [(.lc false [4] (.cmp .ge (.idx (.var 4) (.lit (.int 0))) (.idx (.idx (.var 1) (.lit (.int 2))) (.lit (.int 0)))) (.nm 4) (.seq (.idx (.var 1) (.lit (.int 4)))) [])])]) [.ret (.lit (.bl false))] []) [some (plV L), some (.tup [o, .tup (asks.map askV), rowV [], rowV elder, .tup (us.map ansV), h]), some (.int asks.length), some h, none] M = .nx [some (plV L), some (.tup [o, .tup (asks.map askV), rowV [], rowV elder, .tup (us.map ansV), h]), some (.int asks.length), some h, none] M := by
      simp [q1']
    rw [ssL_cons, ev_s, s1, seq_nx, ssL_cons, ev_s, s2, seq_rt, fin_rt]
  | cons y row' =>
    have q1' : eqV M (rowV (y :: row')) (.tup []) = some false := q1
    have eb := bAny_map false (fun q : Nat × Int => decide (y ≤ q.1)) us M
    have hn : (us.map fun q => PV.bl (decide (y ≤ q.1))).length ≤ 1000000 := by rw [List.length_map]; omega
    have e5 := fun j => e5 j y row' rfl
    have s1 : stepS (evT0 P (evC P 30 (d + 3)) 29) (.ifs (.and [(.cmp .ne (.idx (.var 1) (.lit (.int 2))) (.tup [])), (.blt .any false [(.lc false [4] (.cmp .ge (.idx (.var 4) (.lit (.int 0))) (.idx (.idx (.var 1) (.lit (.int 2))) (.lit (.int 0)))) (.nm 4) (.seq (.idx (.var 1) (.lit (.int 4)))) [])])]) [.ret (.lit (.bl false))] []) [some (plV L), some (.tup [o, .tup (asks.map askV), rowV (y :: row'), rowV elder, .tup (us.map ansV), h]), some (.int asks.length), some h, none] M
        = if us.any (fun q => decide (y ≤ q.1)) then .rt (.bl false) M else .nx [some (plV L), some (.tup [o, .tup (asks.map askV), rowV (y :: row'), rowV elder, .tup (us.map ansV), h]), some (.int asks.length), some h, none] M := by
      generalize us.any (fun q => decide (y ≤ q.1)) = A at eb ⊢
      cases A <;> simp [-List.map_map, q1', kindS_tup, wipeR, e5, newL_f hn, eb]
    have hc : us.any (fun q => decide (y ≤ q.1)) = false ↔ CrossN (y :: row') us := by
      have h1 : us.any (fun q => decide (y ≤ q.1)) = false ↔ ∀ q, q ∈ us → q.1 < y := by
        rw [List.any_eq_false]
        constructor
        · intro h q hq
          have := h q hq
          simp at this
          exact this
        · intro h q hq
          have := h q hq
          simp
          omega
      rw [h1, cross_all U.1]
      constructor
      · intro h a b ha hb
        cases ha
        exact h b hb
      · intro h b hb
        exact h y b rfl hb
    cases hA : us.any (fun q => decide (y ≤ q.1)) with
    | false =>
      refine ⟨_, ?_, ok (hc.mp hA)⟩
      rw [hA] at s1
      rw [ssL_cons, ev_s, s1]
      simp only [Bool.false_eq_true, if_false]
      rw [seq_nx, ssL_cons, ev_s, s2, seq_rt, fin_rt]
    | true =>
      refine ⟨false, ?_, fun z => (by cases z), fun z => (bad (fun cr => by rw [hc.mpr cr] at hA; cases hA) z).elim⟩
      rw [hA] at s1
      rw [ssL_cons, ev_s, s1]
      simp only [if_true]
      rw [seq_rt, fin_rt]
theorem cp_law_parts (d : Nat) (L : Ln) (hp : 1 ≤ L.pieces) (asks : List Ask) (o r e u h : PV) {k : Nat} (dO : Dat k o) (dr : Dat k r) (de : Dat k e) (du : Dat k u) (dh : Dat k h) (hk : k ≤ 38) (zr : tl r < 64) (ze : tl e < 64) (zu : tl u < 64) (M : MH) :
    ∃ b, callP (evC P 30 (d + 4)) 67 [plV L, .tup [o, .tup (asks.map askV), r, e, u, h]] M = .val (.bl b) M ∧ (b = true ↔ PartsV L asks.length r e u h) := by
  obtain ⟨b, h1, h2⟩ := ev_law_parts T d L hp asks o r e u h dr de du dh (by omega) zr ze zu []
  have p : ∀ {v : PV}, Dat k v → pureB 49 v = true := fun h => h.pure (by omega)
  exact ⟨b, callP_ok (by simp only [List.all_cons, List.all_nil, pl_pure L 47, pure_tup, asks_pure asks 46, p dO, p dr, p de, p du, p dh, Bool.and_self]) h1 rfl, h2⟩
end
end Mp.K02
end

section
set_option Elab.async false
set_option linter.all false
set_option maxRecDepth 100000
set_option maxHeartbeats 4000000
/-! L02d: the law's own look at states (k02): the whole. -/
namespace Mp.K02
open PySem Mp Mp.Pk

theorem openOf_count (asks : List Ask) (a : Int) : (openOf asks a).length = (asks.filter fun q => decide (q.a = a) && decide (q.w = .op)).length := by
  unfold openOf openI
  rw [List.filter_map, List.length_map, List.filter_filter]
  have e1 : (asks.zipIdx.filter fun q => ((fun i => decide ((aAt asks i).a = a)) ∘ fun x : Ask × Nat => x.2) q && decide (q.1.w = .op)) = asks.zipIdx.filter ((fun q : Ask => decide (q.a = a) && decide (q.w = .op)) ∘ Prod.fst) := by
    refine List.filter_congr fun q hq => ?_
    show (decide ((aAt asks q.2).a = a) && decide (q.1.w = .op)) = (decide (q.1.a = a) && decide (q.1.w = .op))
    rw [aAt_of (zipIdx_mem hq)]
  rw [e1]
  have e2 : (asks.zipIdx.filter ((fun q : Ask => decide (q.a = a) && decide (q.w = .op)) ∘ Prod.fst)).map Prod.fst = asks.filter fun q => decide (q.a = a) && decide (q.w = .op) := by
    rw [← List.filter_map]
    congr 1
    exact List.zipIdx_map_fst 0 asks
  rw [← e2, List.length_map]
theorem left_iff {L : Ln} {o : Bool} {asks : List Ask} {row elder : List Nat} {us : List (Nat × Int)} {half : Option Nat} (N : PartsN L asks.length row elder us half) :
    leftN ⟨o, asks, row, elder, us, half⟩ = List.range asks.length ↔ ∀ i, i < asks.length → (aAt asks i).w = .op ∨ i ∈ row ++ (elder ++ us.map (·.1)) ∨ half = some i := by
  have mem : ∀ i, i ∈ leftN ⟨o, asks, row, elder, us, half⟩ ↔ (i ∈ openI asks ∨ i ∈ row ++ (elder ++ us.map (·.1)) ∨ half = some i) := by
    intro i
    unfold leftN
    rw [mem_sortN]
    cases half with
    | none =>
      show i ∈ foundN _ ↔ _
      unfold foundN
      rw [List.mem_append]
      simp
    | some h =>
      show i ∈ foundN _ ++ [h] ↔ _
      unfold foundN
      rw [List.mem_append, List.mem_append, List.mem_singleton]
      constructor
      · rintro ((h1 | h1) | h1)
        · exact .inl h1
        · exact .inr (.inl h1)
        · exact .inr (.inr (by rw [h1]))
      · rintro (h1 | h1 | h1)
        · exact .inl (.inl h1)
        · exact .inl (.inr h1)
        · exact .inr (Option.some.inj h1).symm
  constructor
  · intro e i hi
    have h1 : i ∈ leftN ⟨o, asks, row, elder, us, half⟩ := by rw [e]; exact List.mem_range.mpr hi
    rcases (mem i).mp h1 with h1 | h1
    · exact .inl (mem_openI.mp h1).2
    · exact .inr h1
  · intro h
    refine asc_ext (by unfold leftN; exact sortN_asc _) List.pairwise_lt_range fun i => ?_
    rw [mem i, List.mem_range]
    constructor
    · rintro (h1 | h1 | h1)
      · exact (mem_openI.mp h1).1
      · rcases List.mem_append.mp h1 with h1 | h1
        · exact N.pr.2 i h1
        · rcases List.mem_append.mp h1 with h1 | h1
          · exact N.pe.2 i h1
          · exact N.pu.1.2 i h1
      · exact (N.ph i h1).2
    · intro hi
      rcases h i hi with h1 | h1
      · exact .inl (mem_openI.mpr ⟨hi, h1⟩)
      · exact .inr h1
theorem bin_add_tup (m : Bool) (xs ys : List PV) (M : MH) (h : xs.length + ys.length ≤ 1000000) : binOp .add m (.tup xs) (.tup ys) M = .val (.tup (xs ++ ys)) M := by
  show (if xs.length + ys.length ≤ 1000000 then Out.val (PV.tup (xs ++ ys)) M else .stuck) = _
  rw [if_pos h]
theorem eq_two (row : List Nat) (us : List (Nat × Int)) (M : MH) : eqV M (.tup [rowV row, .tup (us.map ansV)]) (.tup [.tup [], .tup []]) = some (row.isEmpty && us.isEmpty) := by
  have h1 : okB 40 M (.tup [rowV row, .tup (us.map ansV)]) = true := by
    have a := (row_dat row).ok M (show 2 ≤ 39 by omega)
    have b := (ans_dat us).ok M (show 3 ≤ 39 by omega)
    show (okB 39 M (rowV row) && (okB 39 M (.tup (us.map ansV)) && true)) = true
    rw [a, b]
    rfl
  rw [eqV_ok h1 rfl]
  show some (eqB 39 M (rowV row) (.tup []) && (eqB 39 M (.tup (us.map ansV)) (.tup []) && true)) = _
  have e1 : eqB 39 M (rowV row) (.tup []) = row.isEmpty := by cases row <;> rfl
  have e2 : eqB 39 M (.tup (us.map ansV)) (.tup []) = us.isEmpty := by cases us <;> rfl
  rw [e1, e2, Bool.and_true]
theorem eq_who (q : Ask) (i : Int) (M : MH) : eqV M (.tup [.int q.a, wdV q.w]) (.tup [.int i, .str (PySem.Str.ofString "open")]) = some (decide (q.a = i) && decide (q.w = .op)) := by
  obtain ⟨a, w, n, l⟩ := q
  cases w <;> kernel_rfl
theorem in_some (ns : List Nat) (half : Option Nat) (i : Nat) (M : MH) : inL M (.int i) (ns.map natV ++ [halfV half]) = some (decide (i ∈ ns) || decide (half = some i)) := by
  have h2 : ∀ y, y ∈ ns.map natV ++ [halfV half] → okB 40 M y = true := fun y hy => by
    rcases List.mem_append.mp hy with hy | hy
    · obtain ⟨j, _, rfl⟩ := List.mem_map.mp hy
      rfl
    · have : y = halfV half := by simpa using hy
      subst this
      cases half <;> rfl
  rw [inL_ok rfl h2, List.any_append]
  congr 1
  have e1 : ∀ j : Nat, eqB 40 M (natV j) (.int i) = decide (j = i) := fun j => by
    show decide ((j : Int) = i) = _
    by_cases h : j = i
    · subst h; simp
    · have : ¬ ((j : Int) = i) := by omega
      simp [h, this]
  have e2 : (ns.map natV).any (fun y => eqB 40 M y (.int i)) = decide (i ∈ ns) := by
    rw [List.any_map]
    rw [Bool.eq_iff_iff, decide_eq_true_eq, List.any_eq_true]
    constructor
    · rintro ⟨j, hj, h⟩
      have h' : eqB 40 M (natV j) (.int i) = true := h
      rw [e1, decide_eq_true_eq] at h'
      rw [← h']
      exact hj
    · intro h
      exact ⟨i, h, by show eqB 40 M (natV i) (.int i) = true; rw [e1]; simp⟩
  rw [e2]
  congr 1
  cases half with
  | none => rfl
  | some h =>
    show (eqB 40 M (natV h) (.int i) || false) = _
    rw [e1, Bool.or_false]
    simp
section
variable {P : MP} (T : LwS P)
include T
theorem law_head (d : Nat) (L : Ln) (M : MH) (o : Bool) (as : List PV) (r e u h : PV) {k : Nat} (da : Dat k (.tup as)) (hk : k ≤ 40) (hl : as.length ≤ 1000) (b : Bool)
    (hp : as.all (isAskV L) = true → callP (evC P 30 (d + 4)) 67 [plV L, .tup [.bl o, .tup as, r, e, u, h]] M = .val (.bl b) M) :
    (ssL (evT0 P (evC P 30 (d + 4)) 30) m__law_is_state.body [some (plV L), some (.tup [.bl o, .tup as, r, e, u, h]), none, none, none, none, none] M).fin
      = if as.all (isAskV L) && b then (ssL (evT0 P (evC P 30 (d + 4)) 30) (m__law_is_state.body.drop 3) [some (plV L), some (.tup [.bl o, .tup as, r, e, u, h]), none, none, none, none, none] M).fin else .val (.bl false) M := by
  have ss : SrcL M (.sq true (.tup as)) as id := src_seq (by rw [List.map_id]; rfl)
  have e0 : ∀ j, lcL (evT0 P (evC P 30 (d + 4)) (j + 5)) (.call 66 true [.var 0, .var 2]) (.nm 2) [] [some (plV L), some (.tup [.bl o, .tup as, r, e, u, h]), none, none, none, none, none] (srcLen M (.sq true (.tup as)) + 1) 0 (.sq true (.tup as)) [] M = .val (as.map fun x => .bl (isAskV L x)) M := by
    intro j
    refine lcL_all ss (by omega) fun x hm => ⟨_, rfl, ?_⟩
    have dx : Dat (k - 1) x := by
      cases k with
      | zero => cases da
      | succ k => exact da.mem hm
    simp [stepE_callT, T.k66, cp_law_ask T (d + 2) L x dx (by omega) M]
  have eb := bAll_map false (isAskV L) as M
  have hn1 : (as.map fun x => PV.bl (isAskV L x)).length ≤ 1000000 := by rw [List.length_map]; omega
  have et : typAny P.cls.length M (PV.bl o) [Ty.bool] = some true := rfl
  cases hA : as.all (isAskV L) with
  | false =>
    rw [hA] at eb
    simp [-List.map_map, m__law_is_state, kindS_tup, wipeR, e0, newL_f hn1, eb, et]
  | true =>
    rw [hA] at eb
    have hp := hp hA
    cases b <;> simp [-List.map_map, m__law_is_state, kindS_tup, wipeR, e0, newL_f hn1, eb, et, stepE_callT, T.k67, hp]
/-- behind the parts -/
theorem law_tail (d : Nat) (L : Ln) (hL : L.Ok) (o : Bool) (asks : List Ask) (row elder : List Nat) (us : List (Nat × Int)) (half : Option Nat) (hz : asks.length + (row.length + (elder.length + us.length)) < 62) (M : MH) :
    (ssL (evT0 P (evC P 30 (d + 4)) 30) (m__law_is_state.body.drop 3) [some (plV L), some (stV ⟨o, asks, row, elder, us, half⟩), none, none, none, none, none] M).fin
      = .val (.bl (!(!o && !(row.isEmpty && us.isEmpty)) && (!(!o && (L.fresh && !half.isNone)) && (((List.range L.askers.toNat).all fun i : Nat => decide (((openOf asks i).length : Int) ≤ L.ahead)) &&
          asks.zipIdx.all fun q => decide (q.1.w = .op) || (decide (q.2 ∈ row ++ (elder ++ us.map (·.1))) || decide (half = some q.2)))))) M := by
  have g0 : getI (stV ⟨o, asks, row, elder, us, half⟩) (.int 0) M = some (.bl o) := getI_t0 _ _ _
  have g1 : getI (stV ⟨o, asks, row, elder, us, half⟩) (.int 1) M = some (.tup (asks.map askV)) := getI_t1 _ _ _ _
  have g2 : getI (stV ⟨o, asks, row, elder, us, half⟩) (.int 2) M = some (rowV row) := getI_t2 _ _ _ _ _
  have g3 : getI (stV ⟨o, asks, row, elder, us, half⟩) (.int 3) M = some (rowV elder) := getI_t3 _ _ _ _ _ _
  have g4 : getI (stV ⟨o, asks, row, elder, us, half⟩) (.int 4) M = some (.tup (us.map ansV)) := getI_t4 _ _ _ _ _ _ _
  have g5 : getI (stV ⟨o, asks, row, elder, us, half⟩) (.int 5) M = some (halfV half) := getI_t5 _ _ _ _ _ _ _ _
  generalize stV ⟨o, asks, row, elder, us, half⟩ = sv at g0 g1 g2 g3 g4 g5 ⊢
  have q12 := eq_two row us M
  have nh : isNon (halfV half) = half.isNone := by cases half <;> rfl
  have inf := in_fresh L M
  have ha2 : L.askers.toNat ≤ 2 := by rcases hL.a with h | h <;> omega
  have er : qRngK [.int L.askers] M = .val (.rng 0 L.askers.toNat) M := by
    unfold qRngK
    dsimp only
    rw [if_pos (by rcases hL.a with h | h <;> omega)]
  have b0 : m__law_is_state.body.drop 3 = [.ifs (.and [(.not (.idx (.var 1) (.lit (.int 0)))), (.cmp .ne (.tup [(false, (.idx (.var 1) (.lit (.int 2)))), (false, (.idx (.var 1) (.lit (.int 4))))]) (.tup [(false, (.tup [])), (false, (.tup []))]))]) [.ret (.lit (.bl false))] [],
    .ifs (.and [(.not (.idx (.var 1) (.lit (.int 0)))), (.cmp .in_ (.lit (.str (PySem.Str.ofString "fresh"))) (.idx (.var 0) (.lit (.int 4)))), (.cmp .isnot (.idx (.var 1) (.lit (.int 5))) (.lit .non))]) [.ret (.lit (.bl false))] [],
    .for_ (.nm 3) (.rng1 (.idx (.var 0) (.lit (.int 0)))) [.ifs (.cmp .gt (.blt .len false [(.lc false [2] (.var 2) (.nm 2) (.seq (.idx (.var 1) (.lit (.int 1)))) [(.cmp .eq (.slc (.var 2) none (some (.lit (.int 2)))) (.tup [(false, (.var 3)), (false, (.lit (.str (PySem.Str.ofString "open"))))]))])]) (.idx (.var 0) (.lit (.int 1)))) [.ret (.lit (.bl false))] []],
    .asg (.nm 4) (.bin .add false (.bin .add false (.bin .add false (.idx (.var 1) (.lit (.int 2))) (.idx (.var 1) (.lit (.int 3)))) (.blt .tuple false [(.lc false [5] (.idx (.var 5) (.lit (.int 0))) (.nm 5) (.seq (.idx (.var 1) (.lit (.int 4)))) [])])) (.tup [(false, (.idx (.var 1) (.lit (.int 5))))])),
    .ret (.blt .all false [(.lc false [6, 2] (.or [(.cmp .eq (.idx (.var 2) (.lit (.int 1))) (.lit (.str (PySem.Str.ofString "open")))), (.cmp .in_ (.var 6) (.var 4))]) (.tup [(.nm 6), (.nm 2)]) (.enum (.idx (.var 1) (.lit (.int 1)))) [])])] := rfl
  rw [b0]
  have s3 : stepS (evT0 P (evC P 30 (d + 4)) 29) (.ifs (.and [(.not (.idx (.var 1) (.lit (.int 0)))), (.cmp .ne (.tup [(false, (.idx (.var 1) (.lit (.int 2)))), (false, (.idx (.var 1) (.lit (.int 4))))]) (.tup [(false, (.tup [])), (false, (.tup []))]))]) [.ret (.lit (.bl false))] []) [some (plV L), some sv, none, none, none, none, none] M
      = if !o && !(row.isEmpty && us.isEmpty) then .rt (.bl false) M else .nx [some (plV L), some sv, none, none, none, none, none] M := by
    generalize row.isEmpty = R1 at q12 ⊢
    generalize us.isEmpty = R2 at q12 ⊢
    cases o <;> simp [g0, g2, g4, q12]
  have s4 : stepS (evT0 P (evC P 30 (d + 4)) 29) (.ifs (.and [(.not (.idx (.var 1) (.lit (.int 0)))), (.cmp .in_ (.lit (.str (PySem.Str.ofString "fresh"))) (.idx (.var 0) (.lit (.int 4)))), (.cmp .isnot (.idx (.var 1) (.lit (.int 5))) (.lit .non))]) [.ret (.lit (.bl false))] []) [some (plV L), some sv, none, none, none, none, none] M
      = if !o && (L.fresh && !half.isNone) then .rt (.bl false) M else .nx [some (plV L), some sv, none, none, none, none, none] M := by
    generalize half.isNone = R3 at nh ⊢
    generalize L.fresh = R4 at inf ⊢
    cases o <;> cases R3 <;> cases R4 <;> simp [g0, g5, inf, nh]
  -- one asker
  have hs : SrcL M (.sq true (.tup (asks.map askV))) asks askV := src_tup _ _ _
  have turn : ∀ (i : Nat) (x : Option PV), ssL (evT0 P (evC P 30 (d + 4)) 29) [.ifs (.cmp .gt (.blt .len false [(.lc false [2] (.var 2) (.nm 2) (.seq (.idx (.var 1) (.lit (.int 1)))) [(.cmp .eq (.slc (.var 2) none (some (.lit (.int 2)))) (.tup [(false, (.var 3)), (false, (.lit (.str (PySem.Str.ofString "open"))))]))])]) (.idx (.var 0) (.lit (.int 1)))) [.ret (.lit (.bl false))] []] [some (plV L), some sv, x, some (.int (0 + (i : Nat))), none, none, none] M
      = if decide (((openOf asks i).length : Int) ≤ L.ahead) then .nx [some (plV L), some sv, x, some (.int (0 + (i : Nat))), none, none, none] M else .rt (.bl false) M := by
    intro i x
    have e1 : ∀ j, lcL (evT0 P (evC P 30 (d + 4)) (j + 6)) (.var 2) (.nm 2) [.cmp .eq (.slc (.var 2) none (some (.lit (.int 2)))) (.tup [(false, (.var 3)), (false, (.lit (.str (PySem.Str.ofString "open"))))])] [some (plV L), some sv, none, some (.int (0 + (i : Nat))), none, none, none] (srcLen M (.sq true (.tup (asks.map askV))) + 1) 0 (.sq true (.tup (asks.map askV))) [] M = .val ((asks.filter fun q => decide (q.a = 0 + (i : Int)) && decide (q.w = .op)).map askV) M := by
      intro j
      refine lcL_items hs (by omega) fun q _ => ⟨_, rfl, ?_, fun _ => rfl⟩
      have := eq_who q (0 + (i : Int)) M
      simp only [Int.zero_add] at this
      simp [askV, this]
    have hn : ((asks.filter fun q => decide (q.a = 0 + (i : Int)) && decide (q.w = .op)).map askV).length ≤ 1000000 := by
      rw [List.length_map]
      have := List.length_filter_le (fun q : Ask => decide (q.a = 0 + (i : Int)) && decide (q.w = .op)) asks
      omega
    have hc := openOf_count asks i
    have elen : bltF .len false [.lst ((asks.filter fun q => decide (q.a = 0 + (i : Int)) && decide (q.w = .op)).map askV)] M = .val (.int ((openOf asks i).length : Int)) M := by
      rw [bLen_lst, List.length_map, hc]
      simp
    have s0 : stepS (evT0 P (evC P 30 (d + 4)) 28) (.ifs (.cmp .gt (.blt .len false [(.lc false [2] (.var 2) (.nm 2) (.seq (.idx (.var 1) (.lit (.int 1)))) [(.cmp .eq (.slc (.var 2) none (some (.lit (.int 2)))) (.tup [(false, (.var 3)), (false, (.lit (.str (PySem.Str.ofString "open"))))]))])]) (.idx (.var 0) (.lit (.int 1)))) [.ret (.lit (.bl false))] []) [some (plV L), some sv, x, some (.int (0 + (i : Nat))), none, none, none] M
        = if decide (((openOf asks i).length : Int) ≤ L.ahead) then .nx [some (plV L), some sv, x, some (.int (0 + (i : Nat))), none, none, none] M else .rt (.bl false) M := by
      have ee : (evT0 P (evC P 30 (d + 4)) 27).e (.blt .len false [(.lc false [2] (.var 2) (.nm 2) (.seq (.idx (.var 1) (.lit (.int 1)))) [(.cmp .eq (.slc (.var 2) none (some (.lit (.int 2)))) (.tup [(false, (.var 3)), (false, (.lit (.str (PySem.Str.ofString "open"))))]))])]) [some (plV L), some sv, x, some (.int (0 + (i : Nat))), none, none, none] M = .val (.int ((openOf asks i).length : Int)) M := by
        rw [ev_e, stepE_blt, evArgs_cons, ev_e, stepE_lc, evIt_seq]
        have e9 : (evT0 P (evC P 30 (d + 4)) 25).e (.idx (.var 1) (.lit (.int 1))) [some (plV L), some sv, x, some (.int (0 + (i : Nat))), none, none, none] M = .val (.tup (asks.map askV)) M := by simp [g1]
        rw [e9, bind_val, kindS_tup, qSeqK_some, bind_val]
        have e10 := e1 19
        show ((((lcL (evT0 P (evC P 30 (d + 4)) 25) _ _ _ [some (plV L), some sv, none, some (.int (0 + (i : Nat))), none, none, none] _ 0 _ [] M).bind fun ys M2 => newL false ys M2).bind _).bind _) = _
        rw [e10, bind_val, newL_f hn, bind_val, evArgs_nil, bind_val, bind_val, elen]
      rw [stepS_ifs, evT_eq, ev_e, stepE_cmp, ee, bind_val]
      have e11 : (evT0 P (evC P 30 (d + 4)) 27).e (.idx (.var 0) (.lit (.int 1))) [some (plV L), some sv, x, some (.int (0 + (i : Nat))), none, none, none] M = .val (.int L.ahead) M := by simp
      rw [e11, bind_val, cmp_gt, optV_some, bind_val, truK_bl, outS_val]
      by_cases hle : ((openOf asks i).length : Int) ≤ L.ahead
      · have h2 : ¬ (L.ahead < ((openOf asks i).length : Int)) := by omega
        simp [hle, h2]
      · have h2 : L.ahead < ((openOf asks i).length : Int) := by omega
        simp [hle, h2]
    rw [ssL_cons, ev_s, s0]
    by_cases hle : ((openOf asks i).length : Int) ≤ L.ahead <;> simp [hle]
  -- all askers
  have sr : SrcL M (.rng 0 L.askers.toNat) (List.range L.askers.toNat) (fun i => .int (0 + (i : Nat))) := srcRng 0 _
  generalize hbd : ([.ifs (.cmp .gt (.blt .len false [(.lc false [2] (.var 2) (.nm 2) (.seq (.idx (.var 1) (.lit (.int 1)))) [(.cmp .eq (.slc (.var 2) none (some (.lit (.int 2)))) (.tup [(false, (.var 3)), (false, (.lit (.str (PySem.Str.ofString "open"))))]))])]) (.idx (.var 0) (.lit (.int 1)))) [.ret (.lit (.bl false))] []] : List MS) = bd at turn ⊢
  have s5 : stepS (evT0 P (evC P 30 (d + 4)) 29) (.for_ (.nm 3) (.rng1 (.idx (.var 0) (.lit (.int 0)))) bd) [some (plV L), some sv, none, none, none, none, none] M = forL (evT0 P (evC P 30 (d + 4)) 29) (.nm 3) (ssL (evT0 P (evC P 30 (d + 4)) 29) bd) (srcLen M (.rng 0 L.askers.toNat) + 1) 0 (.rng 0 L.askers.toNat) [some (plV L), some sv, none, none, none, none, none] M := by
    have ei : evIt (evT0 P (evC P 30 (d + 4)) 29) (.rng1 (.idx (.var 0) (.lit (.int 0)))) [some (plV L), some sv, none, none, none, none, none] M = .val (.rng 0 L.askers.toNat) M := by simp [er]
    rw [stepS_for, ei, outS_val]
  have loopT : ((List.range L.askers.toNat).all fun i : Nat => decide (((openOf asks i).length : Int) ≤ L.ahead)) = true → ∃ x3, forL (evT0 P (evC P 30 (d + 4)) 29) (.nm 3) (ssL (evT0 P (evC P 30 (d + 4)) 29) bd) (srcLen M (.rng 0 L.askers.toNat) + 1) 0 (.rng 0 L.askers.toNat) [some (plV L), some sv, none, none, none, none, none] M = .nx [some (plV L), some sv, none, x3, none, none, none] M := fun hall => by
    obtain ⟨ρ, M', h1, h2, x, h3⟩ := forL_all (s := .rng 0 L.askers.toNat) (inj := fun i : Nat => PV.int (0 + (i : Nat))) (E := evT0 P (evC P 30 (d + 4)) 29) (t := .nm 3) (body := ssL (evT0 P (evC P 30 (d + 4)) 29) bd) (L := List.range L.askers.toNat)
      (st := fun pre ρ M' => M' = M ∧ ∃ x, ρ = [some (plV L), some sv, none, x, none, none, none]) (ρ := [some (plV L), some sv, none, none, none, none, none]) (M := M)
      (fun pre ρ M' h => by rw [h.1]; exact sr) (fun pre i post ρ M' hL h => by
        obtain ⟨rfl, x, rfl⟩ := h
        refine ⟨_, _, rfl, ?_⟩
        have tq := turn i none
        rw [List.all_eq_true.mp hall i (by rw [hL]; simp)] at tq
        exact ⟨_, _, .inl tq, rfl, _, rfl⟩) ⟨rfl, none, rfl⟩
    subst h2 h3
    exact ⟨x, h1⟩
  have loopF : ((List.range L.askers.toNat).all fun i : Nat => decide (((openOf asks i).length : Int) ≤ L.ahead)) = false → forL (evT0 P (evC P 30 (d + 4)) 29) (.nm 3) (ssL (evT0 P (evC P 30 (d + 4)) 29) bd) (srcLen M (.rng 0 L.askers.toNat) + 1) 0 (.rng 0 L.askers.toNat) [some (plV L), some sv, none, none, none, none, none] M = .rt (.bl false) M := fun hall => by
    rcases forL_go (s := .rng 0 L.askers.toNat) (inj := fun i : Nat => PV.int (0 + (i : Nat))) (E := evT0 P (evC P 30 (d + 4)) 29) (t := .nm 3) (body := ssL (evT0 P (evC P 30 (d + 4)) 29) bd)
      (List.range L.askers.toNat) (st := fun pre ρ M' => M' = M ∧ (pre.all fun i : Nat => decide (((openOf asks i).length : Int) ≤ L.ahead)) = true ∧ ∃ x, ρ = [some (plV L), some sv, none, x, none, none, none]) (r' := .rt (.bl false) M)
      (fun pre ρ M' h => by rw [h.1]; exact sr) (fun pre i post ρ M' hL h => by
        obtain ⟨rfl, hp, x, rfl⟩ := h
        refine ⟨_, _, rfl, ?_⟩
        have tq := turn i none
        cases hq : decide (((openOf asks i).length : Int) ≤ L.ahead) with
        | true =>
          rw [hq] at tq
          exact .inl ⟨_, _, .inl tq, rfl, by rw [List.all_append, hp]; simpa using hq, _, rfl⟩
        | false =>
          rw [hq] at tq
          exact .inr ⟨tq, fun a b => SO.noConfusion, fun a b => SO.noConfusion, fun a b => SO.noConfusion⟩) (List.range L.askers.toNat) [] (srcLen M (.rng 0 L.askers.toNat) + 1) _ M rfl (by have := sr.2; omega) ⟨rfl, rfl, none, rfl⟩ with ⟨ρ, M', h1, h2, h3, _⟩ | h
    · rw [hall] at h3
      cases h3
    · exact h
  -- the last two statements
  have hsu : SrcL M (.sq true (.tup (us.map ansV))) us ansV := src_tup _ _ _
  have e6 : ∀ j x3, lcL (evT0 P (evC P 30 (d + 4)) (j + 6)) (.idx (.var 5) (.lit (.int 0))) (.nm 5) [] [some (plV L), some sv, none, x3, none, none, none] (srcLen M (.sq true (.tup (us.map ansV))) + 1) 0 (.sq true (.tup (us.map ansV))) [] M = .val ((us.map (·.1)).map natV) M := by
    intro j x3
    rw [lcL_all (g := fun q : Nat × Int => natV q.1) hsu (by omega) fun q hq => ⟨_, rfl, ?_⟩]
    · rw [List.map_map]
      rfl
    · have g1 : getI (ansV q) (.int 0) M = some (natV q.1) := getI_t0 _ _ _
      simp [g1]
  have hn6 : ((us.map (·.1)).map natV).length ≤ 1000000 := by simp; omega
  have ba1 : binOp .add false (rowV row) (rowV elder) M = .val (.tup (row.map natV ++ elder.map natV)) M := bin_add_tup _ _ _ _ (by rw [List.length_map, List.length_map]; omega)
  have ba2 : binOp .add false (.tup (row.map natV ++ elder.map natV)) (.tup ((us.map (·.1)).map natV)) M = .val (.tup ((row.map natV ++ elder.map natV) ++ (us.map (·.1)).map natV)) M := bin_add_tup _ _ _ _ (by simp; omega)
  have ef : (row.map natV ++ elder.map natV) ++ (us.map (·.1)).map natV = (row ++ (elder ++ us.map (·.1))).map natV := by simp
  have ba3 : binOp .add false (.tup ((row ++ (elder ++ us.map (·.1))).map natV)) (.tup [halfV half]) M = .val (.tup ((row ++ (elder ++ us.map (·.1))).map natV ++ [halfV half])) M := bin_add_tup _ _ _ _ (by simp; omega)
  rw [ef] at ba2
  have s6 : ∀ x3, stepS (evT0 P (evC P 30 (d + 4)) 29) (.asg (.nm 4) (.bin .add false (.bin .add false (.bin .add false (.idx (.var 1) (.lit (.int 2))) (.idx (.var 1) (.lit (.int 3)))) (.blt .tuple false [(.lc false [5] (.idx (.var 5) (.lit (.int 0))) (.nm 5) (.seq (.idx (.var 1) (.lit (.int 4)))) [])])) (.tup [(false, (.idx (.var 1) (.lit (.int 5))))]))) [some (plV L), some sv, none, x3, none, none, none] M
      = .nx [some (plV L), some sv, none, x3, some (.tup ((row ++ (elder ++ us.map (·.1))).map natV ++ [halfV half])), none, none] M := by
    intro x3
    simp [-List.map_map, -List.map_append, g2, g3, g4, g5, ba1, kindS_tup, wipeR, e6, newL_f hn6, bTuple_lst false _ M hn6, ba2, ba3]
  have hse : SrcL M (.enum true (.tup (asks.map askV))) asks.zipIdx (fun q => PV.tup [PV.int q.2, askV q.1]) := srcEnum rfl
  generalize hsm : PV.tup ((row ++ (elder ++ us.map (·.1))).map natV ++ [halfV half]) = sm at s6
  have e7 : ∀ j x3, lcL (evT0 P (evC P 30 (d + 4)) (j + 6)) (.or [(.cmp .eq (.idx (.var 2) (.lit (.int 1))) (.lit (.str (PySem.Str.ofString "open")))), (.cmp .in_ (.var 6) (.var 4))]) (.tup [.nm 6, .nm 2]) [] [some (plV L), some sv, none, x3, some sm, none, none] (srcLen M (.enum true (.tup (asks.map askV))) + 1) 0 (.enum true (.tup (asks.map askV))) [] M
      = .val (asks.zipIdx.map fun q => .bl (decide (q.1.w = .op) || (decide (q.2 ∈ row ++ (elder ++ us.map (·.1))) || decide (half = some q.2)))) M := by
    intro j x3
    refine lcL_all hse (by rw [List.length_zipIdx]; omega) fun q hq => ⟨_, rfl, ?_⟩
    have i1 : cmpOp .in_ (.int q.2) sm M = some (decide (q.2 ∈ row ++ (elder ++ us.map (·.1))) || decide (half = some q.2)) := by
      rw [← hsm, cmp_in_tup]
      exact in_some _ _ _ _
    generalize (decide (q.2 ∈ row ++ (elder ++ us.map (·.1))) || decide (half = some q.2)) = Z at i1 ⊢
    have w1 := wd_open q.1.w M
    have e8 : getI (askV q.1) (.int 1) M = some (wdV q.1.w) := getI_t1 _ _ _ _
    generalize decide (q.1.w = .op) = W at w1 ⊢
    simp [e8, w1, i1]
    cases W <;> simp
  have eb7 := bAll_map false (fun q : Ask × Nat => decide (q.1.w = .op) || (decide (q.2 ∈ row ++ (elder ++ us.map (·.1))) || decide (half = some q.2))) asks.zipIdx M
  have hn7 : (asks.zipIdx.map fun q : Ask × Nat => PV.bl (decide (q.1.w = .op) || (decide (q.2 ∈ row ++ (elder ++ us.map (·.1))) || decide (half = some q.2)))).length ≤ 1000000 := by rw [List.length_map, List.length_zipIdx]; omega
  generalize (asks.zipIdx.all fun q : Ask × Nat => decide (q.1.w = .op) || (decide (q.2 ∈ row ++ (elder ++ us.map (·.1))) || decide (half = some q.2))) = Z at eb7 ⊢
  have s7 : ∀ x3, stepS (evT0 P (evC P 30 (d + 4)) 29) (.ret (.blt .all false [(.lc false [6, 2] (.or [(.cmp .eq (.idx (.var 2) (.lit (.int 1))) (.lit (.str (PySem.Str.ofString "open")))), (.cmp .in_ (.var 6) (.var 4))]) (.tup [(.nm 6), (.nm 2)]) (.enum (.idx (.var 1) (.lit (.int 1)))) [])])) [some (plV L), some sv, none, x3, some sm, none, none] M = .rt (.bl Z) M := by
    intro x3
    simp [-List.map_map, g1, wipeR, e7, newL_f hn7, eb7]
  generalize (!o && !(row.isEmpty && us.isEmpty)) = C1 at s3 ⊢
  generalize (!o && (L.fresh && !half.isNone)) = C2 at s4 ⊢
  rw [ssL_cons, ev_s, s3]
  cases C1 with
  | true => simp only [if_true, seq_rt, fin_rt, Bool.not_true, Bool.false_and]
  | false =>
    simp only [Bool.false_eq_true, if_false, seq_nx]
    rw [ssL_cons, ev_s, s4]
    cases C2 with
    | true => simp only [if_true, seq_rt, fin_rt, Bool.not_true, Bool.false_and, Bool.not_false, Bool.true_and]
    | false =>
      simp only [Bool.false_eq_true, if_false, seq_nx]
      rw [ssL_cons, ev_s, s5]
      cases hall : (List.range L.askers.toNat).all fun i : Nat => decide (((openOf asks i).length : Int) ≤ L.ahead) with
      | false =>
        rw [loopF hall, seq_rt, fin_rt]
        rfl
      | true =>
        obtain ⟨x3, hx⟩ := loopT hall
        rw [hx, seq_nx, ssL_cons, ev_s, s6 x3, seq_nx, ssL_cons, ev_s, s7 x3, seq_rt, fin_rt]
        rfl
end
end Mp.K02
end

section
set_option Elab.async false
set_option linter.all false
set_option maxRecDepth 100000
set_option maxHeartbeats 4000000
/-! L02e: the law's own look at states (k02) tells what the package tells. -/
namespace Mp.K02
open PySem Mp Mp.Pk
theorem st_uniq' {o : Bool} {asks : List Ask} {row elder : List Nat} {us : List (Nat × Int)} {half : Option Nat} {s : St} (es : PV.tup [.bl o, .tup (asks.map askV), rowV row, rowV elder, .tup (us.map ansV), halfV half] = stV s) : s = ⟨o, asks, row, elder, us, half⟩ := by
  obtain ⟨s1, s2, s3, s4, s5, s6⟩ := s
  unfold stV at es
  injection es with es
  injection es with e0 es
  injection es with e1 es
  injection es with e2 es
  injection es with e3 es
  injection es with e4 es
  injection es with e5 _
  injection e0 with e0
  injection e1 with e1
  have e1 := asksV_inj e1
  have e2 := rowV_inj e2
  have e3 := rowV_inj e3
  have e4 := ansL_inj e4
  have e5 := halfV_inj e5
  dsimp only at e0 e1 e2 e3 e4 e5
  rw [e0, e1, e2, e3, e4, e5]
section
variable {P : MP} (T : LwS P)
include T
theorem ev_law_state (d : Nat) (L : Ln) (hL : L.Ok) (v : PV) {k : Nat} (hv : Dat k v) (hk : k ≤ 38) (hs : Small v) (M : MH) :
    ∃ b, evC P 30 (d + 5) 64 [plV L, v] M = .val (.bl b) M ∧ (b = true ↔ StOk L v) := by
  have E : ∀ r, (ssL (evT0 P (evC P 30 (d + 4)) 30) m__law_is_state.body [some (plV L), some v, none, none, none, none, none] M).fin = r → evC P 30 (d + 5) 64 [plV L, v] M = r := fun r h => by
    rw [evC_succ P 30 (d + 4) 64 _ M T.f64 rfl]
    exact h
  have no : ¬ StOk L v → (ssL (evT0 P (evC P 30 (d + 4)) 30) m__law_is_state.body [some (plV L), some v, none, none, none, none, none] M).fin = .val (.bl false) M → ∃ b, evC P 30 (d + 5) 64 [plV L, v] M = .val (.bl b) M ∧ (b = true ↔ StOk L v) := fun n e => ⟨false, E _ e, fun z => (by cases z), fun z => (n z).elim⟩
  have hp : 1 ≤ L.pieces := by rcases hL.p with h | h <;> omega
  have t0 := typ_tuple hv P.cls.length M
  cases hT : isTupB v with
  | false =>
    rw [hT] at t0
    refine no ?_ ?_
    · rintro ⟨s, rfl, _⟩
      cases hT
    · simp [m__law_is_state, t0]
  | true =>
    cases v with
    | tup xs =>
      cases k with
      | zero => cases hv
      | succ k =>
      by_cases hl : xs.length = 6
      · match xs, hl with
        | [o, a, r, e, u, h], _ =>
          have dO : Dat k o := hv.mem (by simp)
          have da : Dat k a := hv.mem (by simp)
          have dr : Dat k r := hv.mem (by simp)
          have de : Dat k e := hv.mem (by simp)
          have du : Dat k u := hv.mem (by simp)
          have dh : Dat k h := hv.mem (by simp)
          have z := hs o a r e u h rfl
          have t1 := typ_bool dO P.cls.length M
          cases hO : isBl o with
          | false =>
            rw [hO] at t1
            refine no ?_ ?_
            · rintro ⟨s, es, _⟩
              unfold stV at es
              injection es with es
              injection es with es _
              rw [es] at hO
              cases hO
            · simp [m__law_is_state, t1]
          | true =>
          have t2 := typ_tuple da P.cls.length M
          cases hA : isTupB a with
          | false =>
            rw [hA] at t2
            rw [hO] at t1
            refine no ?_ ?_
            · rintro ⟨s, es, _⟩
              unfold stV at es
              injection es with es
              injection es with _ es
              injection es with es _
              rw [es] at hA
              cases hA
            · simp [m__law_is_state, t1, t2]
          | true =>
          cases o with
          | bl o =>
            cases a with
            | tup as =>
              have has : as.length + (tl r + (tl e + tl u)) < 62 := z
              by_cases hAll : as.all (isAskV L) = true
              · obtain ⟨asks, rfl, hq⟩ := all_asks hAll
                obtain ⟨b1, p1, p2⟩ := cp_law_parts T d L hp asks (.bl o) r e u h dO dr de du dh (by omega) (by omega) (by omega) (by omega) M
                have hd := law_head T d L M o (asks.map askV) r e u h da (by omega) (by rw [List.length_map] at has ⊢; omega) b1 (fun _ => p1)
                rw [hAll, Bool.true_and] at hd
                cases b1 with
                | false =>
                  refine no ?_ (hd.trans rfl)
                  rintro ⟨s, es, g⟩
                  unfold stV at es
                  injection es with es
                  injection es with _ es
                  injection es with e1 es
                  injection es with e2 es
                  injection es with e3 es
                  injection es with e4 es
                  injection es with e5 _
                  injection e1 with e1
                  have e1 := asksV_inj e1
                  subst e1
                  have := p2.mpr ⟨_, _, _, _, e2, e3, e4, e5, g.parts⟩
                  cases this
                | true =>
                  obtain ⟨row, elder, us, half, rfl, rfl, rfl, rfl, N⟩ := p2.mp rfl
                  have hz : asks.length + (row.length + (elder.length + us.length)) < 62 := by
                    have z' : (asks.map askV).length + ((row.map natV).length + ((elder.map natV).length + (us.map ansV).length)) < 62 := z
                    simp only [List.length_map] at z'
                    exact z'
                  have tail := law_tail T d L hL o asks row elder us half hz M
                  refine ⟨_, E _ (hd.trans tail), ?_⟩
                  rw [Bool.and_eq_true, Bool.and_eq_true, Bool.and_eq_true, List.all_eq_true, List.all_eq_true]
                  constructor
                  · rintro ⟨c1, c1', c2, c3⟩
                    refine ⟨⟨o, asks, row, elder, us, half⟩, rfl, hq, N, fun ho => ?_, fun a h => ?_, (left_iff N).mpr fun i hi => ?_⟩
                    · dsimp only at ho ⊢
                      subst ho
                      clear tail hd E no p1 hs hv da du dr de dh hAll
                      cases row <;> cases us <;> cases half <;> cases hf : L.fresh <;> simp_all
                    · have := c2 a (List.mem_range.mpr (by omega))
                      simpa using this
                    · have e0 : asks[i]? = some (aAt asks i) := by
                        unfold aAt
                        rw [List.getD_eq_getElem?_getD, List.getElem?_eq_getElem hi]
                        rfl
                      have := c3 (aAt asks i, i) (List.mem_zipIdx_iff_getElem?.mpr e0)
                      rw [Bool.or_eq_true, Bool.or_eq_true, decide_eq_true_eq, decide_eq_true_eq, decide_eq_true_eq] at this
                      exact this
                  · rintro ⟨s, es, g⟩
                    have := st_uniq' es
                    subst this
                    have c := g.closed
                    dsimp only at c
                    refine ⟨?_, ?_, fun a h => ?_, fun q hq => ?_⟩
                    · clear tail hd E no p1 hs hv da du dr de dh hAll g es
                      cases o <;> cases row <;> cases us <;> cases half <;> cases hf : L.fresh <;> simp_all
                    · clear tail hd E no p1 hs hv da du dr de dh hAll g es
                      cases o <;> cases row <;> cases us <;> cases half <;> cases hf : L.fresh <;> simp_all
                    · have := g.ahead a (by have := List.mem_range.mp h; omega)
                      simpa using this
                    · have e0 := zipIdx_mem hq
                      have := (left_iff N).mp g.left q.2 (List.getElem?_eq_some_iff.mp e0).1
                      rw [aAt_of e0] at this
                      rw [Bool.or_eq_true, Bool.or_eq_true, decide_eq_true_eq, decide_eq_true_eq, decide_eq_true_eq]
                      exact this
              · have hAll' : as.all (isAskV L) = false := by simpa using hAll
                have hd := law_head T d L M o as r e u h da (by omega) (by omega) true (fun h => absurd h hAll)
                rw [hAll'] at hd
                refine no ?_ (hd.trans rfl)
                rintro ⟨s, es, g⟩
                unfold stV at es
                injection es with es
                injection es with _ es
                injection es with es _
                injection es with es
                rw [es] at hAll'
                have : (s.asks.map askV).all (isAskV L) = true := List.all_eq_true.mpr fun x hx => by
                  obtain ⟨q, hq, rfl⟩ := List.mem_map.mp hx
                  exact isAskV_iff.mpr ⟨q, rfl, g.asks q hq⟩
                rw [this] at hAll'
                cases hAll'
            | _ => cases hA
          | _ => cases hO
        | [], h => cases h
        | [_], h => cases h
        | [_, _], h => cases h
        | [_, _, _], h => cases h
        | [_, _, _, _], h => cases h
        | [_, _, _, _, _], h => cases h
        | _ :: _ :: _ :: _ :: _ :: _ :: _ :: _, h => simp at h
      · refine no ?_ ?_
        · rintro ⟨s, es, g⟩
          unfold stV at es
          injection es with es
          rw [es] at hl
          exact hl rfl
        · have hl2 : ¬ ((xs.length : Int) = 6) := by omega
          simp [m__law_is_state, hl2]
    | _ => cases hT
end
end Mp.K02
end

section
set_option Elab.async false
set_option linter.all false
set_option maxRecDepth 100000
set_option maxHeartbeats 4000000
/-! L02f: a bent state (k02). -/
namespace Mp.K02
open PySem Mp Mp.Pk

def bent0 : List PV := [.non, .int 0, .int 1, .bl true, .str (PySem.Str.ofString "0"), .tup [], .tup [.int 0], .tup [.int 1], .tup [.int 0, .int 1], .tup [.int 1, .int 0], .tup [.int 0, .int 0], .tup [.tup [.int 0, .int 1]], .tup [.tup [.int 0, .int 2]], .tup [.tup [.int 1, .int 2]]]
def bentL : List PV := bent0 ++ [.tup [.tup [.int 0, .int 1], .tup [.int 1, .int 1]]]
def stL (s : St) : List PV := [.bl s.o, .tup (s.asks.map askV), rowV s.row, rowV s.elder, .tup (s.under.map ansV), halfV s.half]
theorem bent_mem {x : PV} (h : x ∈ bentL) : Dat 4 x ∧ tl x ≤ 2 := by
  have h1 : bentL.all (fun x => okB 4 [] x && decide (tl x ≤ 2)) = true := by kernel_rfl
  have := List.all_eq_true.mp h1 x h
  rw [Bool.and_eq_true, decide_eq_true_iff] at this
  exact this
theorem tup_dat {k : Nat} {xs : List PV} (h : ∀ x, x ∈ xs → Dat k x) : Dat (k + 1) (.tup xs) := List.all_eq_true.mpr h
theorem stL_dat (s : St) {x : PV} (h : x ∈ stL s) : Dat 4 x := List.all_eq_true.mp (st_dat s) x h
/-- few items in every part -/
structure Few (s : St) : Prop where
  a : s.asks.length ≤ 14
  r : s.row.length ≤ 14
  e : s.elder.length ≤ 14
  u : s.under.length ≤ 14
theorem few_tl {s : St} (F : Few s) : tl (.tup (s.asks.map askV)) ≤ 14 ∧ tl (rowV s.row) ≤ 14 ∧ tl (rowV s.elder) ≤ 14 ∧ tl (.tup (s.under.map ansV)) ≤ 14 := by
  refine ⟨?_, ?_, ?_, ?_⟩
  · show (s.asks.map askV).length ≤ 14; rw [List.length_map]; exact F.a
  · show (s.row.map natV).length ≤ 14; rw [List.length_map]; exact F.r
  · show (s.elder.map natV).length ≤ 14; rw [List.length_map]; exact F.e
  · show (s.under.map ansV).length ≤ 14; rw [List.length_map]; exact F.u
theorem small_set {s : St} (F : Few s) {x : PV} (hx : tl x ≤ 2) (j : Nat) : Small (.tup ((stL s).set j x)) := by
  obtain ⟨h1, h2, h3, h4⟩ := few_tl F
  intro o a r e u h eq
  injection eq with eq
  unfold stL at eq
  match j with
  | 0 => simp only [List.set_cons_zero] at eq; simp only [List.cons.injEq] at eq; obtain ⟨-, rfl, rfl, rfl, rfl, -⟩ := eq; omega
  | 1 => simp only [List.set_cons_succ, List.set_cons_zero] at eq; simp only [List.cons.injEq] at eq; obtain ⟨-, rfl, rfl, rfl, rfl, -⟩ := eq; omega
  | 2 => simp only [List.set_cons_succ, List.set_cons_zero] at eq; simp only [List.cons.injEq] at eq; obtain ⟨-, rfl, rfl, rfl, rfl, -⟩ := eq; omega
  | 3 => simp only [List.set_cons_succ, List.set_cons_zero] at eq; simp only [List.cons.injEq] at eq; obtain ⟨-, rfl, rfl, rfl, rfl, -⟩ := eq; omega
  | 4 => simp only [List.set_cons_succ, List.set_cons_zero] at eq; simp only [List.cons.injEq] at eq; obtain ⟨-, rfl, rfl, rfl, rfl, -⟩ := eq; omega
  | 5 => simp only [List.set_cons_succ, List.set_cons_zero] at eq; simp only [List.cons.injEq] at eq; obtain ⟨-, rfl, rfl, rfl, rfl, -⟩ := eq; omega
  | n + 6 => simp only [List.set_cons_succ, List.set_nil] at eq; simp only [List.cons.injEq] at eq; obtain ⟨-, rfl, rfl, rfl, rfl, -⟩ := eq; omega
/-- a state with other asks -/
def withA (s : St) (as : List PV) : PV := .tup [.bl s.o, .tup as, rowV s.row, rowV s.elder, .tup (s.under.map ansV), halfV s.half]
theorem small_with {s : St} (F : Few s) {as : List PV} (h : as.length ≤ 15) : Small (withA s as) := by
  obtain ⟨h1, h2, h3, h4⟩ := few_tl F
  intro o a r e u h eq
  unfold withA at eq
  injection eq with eq
  simp only [List.cons.injEq] at eq
  obtain ⟨-, rfl, rfl, rfl, rfl, -⟩ := eq
  show as.length + _ < 62
  omega
theorem dat_with (s : St) {as : List PV} (h : ∀ x, x ∈ as → Dat 4 x) : Dat 6 (withA s as) := by
  unfold withA
  refine tup_dat fun x hx => ?_
  have key : ∀ y, y ∈ stL s → Dat 5 y := fun y hy => Dat.le (stL_dat s hy) (by omega)
  simp only [List.mem_cons, List.not_mem_nil, or_false] at hx
  rcases hx with rfl | rfl | rfl | rfl | rfl | rfl
  · exact key _ (by simp [stL])
  · exact tup_dat h
  · exact key _ (by simp [stL])
  · exact key _ (by simp [stL])
  · exact key _ (by simp [stL])
  · exact key _ (by simp [stL])
def bentI : List PV := [.int 0, .int 1, .int 2, .int 3, .bl true, .bl false, .str (PySem.Str.ofString "told"), .str (PySem.Str.ofString "lost"), .non]
def bentWd : List PV := [.str (PySem.Str.ofString "open"), .str (PySem.Str.ofString "told"), .str (PySem.Str.ofString "lost"), .str (PySem.Str.ofString "Open")]
theorem ix_get {xs : List PV} {i n : Int} (h : (xs.length : Int) = n) (hn : 0 < n) (M : MH) : ∃ x, x ∈ xs ∧ getI (.tup xs) (.int (i % n)) M = some x ∧ getI (.lst xs) (.int (i % n)) M = some x := by
  have h1 := Int.emod_nonneg i (b := n) (by omega)
  have h2 := Int.emod_lt_of_pos i hn
  have e : i % n = ((i % n).toNat : Int) := by omega
  have hl : (i % n).toNat < xs.length := by omega
  refine ⟨xs[(i % n).toNat], List.getElem_mem hl, ?_, ?_⟩
  · conv => lhs; rw [e]
    exact getI_tup (List.getElem?_eq_getElem hl)
  · conv => lhs; rw [e]
    exact getI_lst (List.getElem?_eq_getElem hl)
end Mp.K02
end

section
set_option Elab.async false
set_option linter.all false
set_option maxRecDepth 100000
set_option maxHeartbeats 4000000
/-! L02g: _law_bent by the evaluator (k02). -/
namespace Mp.K02
open PySem Mp Mp.Pk

theorem getI_view {M : MH} {n : Nat} {xs : List PV} (h : M[n]? = some (.lst xs)) (j : PV) : getI (.ref n) j M = getI (.lst xs) j M := by
  unfold getI
  rw [view_ref h]
  rfl
theorem len_ref {M : MH} {n : Nat} {xs : List PV} (m : Bool) (h : M[n]? = some (.lst xs)) : bltF .len m [.ref n] M = .val (.int xs.length) M := by
  have e : bltF .len m [.ref n] M = bltF .len m [.lst xs] M := by
    show bLen [.ref n] M = bLen [.lst xs] M
    unfold bLen
    dsimp only
    rw [view_ref h]
    rfl
  rw [e, bLen_lst]
theorem nil_ref {M : MH} {n : Nat} {xs : List PV} (h : M[n]? = some (.lst xs)) (ho : xs.all (okB 39 M) = true) : eqV M (.ref n) (.lst []) = some xs.isEmpty := by
  have h1 : okB 40 M (.ref n) = true := by
    show (match view M (.ref n) with
      | .non | .bl _ | .int _ => true
      | .str a => a.cps.toList.all (fun c => decide (c < 1114112))
      | .tup xs => xs.all (okB 39 M)
      | .lst xs => xs.all (okB 39 M)
      | .scr ns => (ns.map PV.int).all (okB 39 M)
      | _ => false) = true
    rw [view_ref h]
    exact ho
  rw [eqV_ok h1 (show okB 40 M (.lst []) = true from rfl)]
  unfold eqB
  rw [view_ref h]
  cases xs <;> rfl
structure LwB (P : MP) : Prop extends LwS P where
  toD : PlD P
  f65 : P.fns[65]? = some m__law_bent
section
variable {P : MP} (T : LwB P)
include T
theorem LwB.k65 : Cal P 65 3 := cal T.f65 rfl
theorem ev_bent (d : Nat) (ns : List Int) (i : Int) (s : St) (F : Few s) : ∃ v M', evC P 30 (d + 2) 65 [.scr ns, .int i, stV s] [] = .val v M' ∧ Dat 8 v ∧ Small v := by
  rw [evC_succ P 30 (d + 1) 65 _ [] T.f65 rfl]
  have en := cp_number T.toD.toPlA d ns i []
  have nn := numV_nn ns i
  generalize numV ns i = n at en nn
  obtain ⟨j, hj, hj9⟩ : ∃ j : Nat, n % 9 = j ∧ j < 9 := ⟨(n % 9).toNat, by omega, by omega⟩
  have s1 : stepS (evT0 P (evC P 30 (d + 1)) 29) (.asg (.nm 3) (.blt .int false [(.call 46 true [(.var 0), (.var 1)])])) [some (.scr ns), some (.int i), some (stV s), none, none, none, none, none, none, none, none, none] []
    = .nx [some (.scr ns), some (.int i), some (stV s), some (.int n), none, none, none, none, none, none, none, none] [] := by
    simp [stepE_callT, T.toD.k46, en]
  have s2 : stepS (evT0 P (evC P 30 (d + 1)) 29) (.asg (.nm 4) (.lst true [(false, (.lit .non)), (false, (.lit (.int 0))), (false, (.lit (.int 1))), (false, (.lit (.bl true))), (false, (.lit (.str (PySem.Str.ofString "0")))), (false, (.tup [])), (false, (.tup [(false, (.lit (.int 0)))])), (false, (.tup [(false, (.lit (.int 1)))])), (false, (.tup [(false, (.lit (.int 0))), (false, (.lit (.int 1)))])), (false, (.tup [(false, (.lit (.int 1))), (false, (.lit (.int 0)))])), (false, (.tup [(false, (.lit (.int 0))), (false, (.lit (.int 0)))])), (false, (.tup [(false, (.tup [(false, (.lit (.int 0))), (false, (.lit (.int 1)))]))])), (false, (.tup [(false, (.tup [(false, (.lit (.int 0))), (false, (.lit (.int 2)))]))])), (false, (.tup [(false, (.tup [(false, (.lit (.int 1))), (false, (.lit (.int 2)))]))]))])) [some (.scr ns), some (.int i), some (stV s), some (.int n), none, none, none, none, none, none, none, none] []
    = .nx [some (.scr ns), some (.int i), some (stV s), some (.int n), some (.ref 0), none, none, none, none, none, none, none] [.lst bent0] := by
    simp [newL, bent0]
  have s3 : stepS (evT0 P (evC P 30 (d + 1)) 29) (.expr (.bm .append (.var 4) [(.tup [(false, (.tup [(false, (.lit (.int 0))), (false, (.lit (.int 1)))])), (false, (.tup [(false, (.lit (.int 1))), (false, (.lit (.int 1)))]))])])) [some (.scr ns), some (.int i), some (stV s), some (.int n), some (.ref 0), none, none, none, none, none, none, none] [.lst bent0]
    = .nx [some (.scr ns), some (.int i), some (stV s), some (.int n), some (.ref 0), none, none, none, none, none, none, none] [.lst bentL] := by
    have il : isLst (.ref 0) [.lst bent0] = true := rfl
    have ap := fun y => app_ref (M := [.lst bent0]) (n := 0) (xs := bent0) rfl (by decide) y
    simp [il, ap, bentL]
  obtain ⟨x, hx, -, gx⟩ := ix_get (xs := bentL) (i := n / 10) (n := 15) rfl (by decide) [.lst bentL]
  have gx' : getI (.ref 0) (.int (n / 10 % 15)) [.lst bentL] = some x := (getI_view (M := [.lst bentL]) (n := 0) rfl _).trans gx
  have s4 : stepS (evT0 P (evC P 30 (d + 1)) 29) (.par [5, 6, 7] [(.idx (.var 4) (.bin .mod false (.blt .int false [(.bin .fdiv false (.var 3) (.lit (.int 10)))]) (.lit (.int 15)))), (.bin .mod false (.blt .int false [(.var 3)]) (.lit (.int 9))), (.blt .list true [(.var 2)])]) [some (.scr ns), some (.int i), some (stV s), some (.int n), some (.ref 0), none, none, none, none, none, none, none] [.lst bentL]
    = .nx [some (.scr ns), some (.int i), some (stV s), some (.int n), some (.ref 0), some x, some (.int j), some (.ref 1), none, none, none, none] [.lst bentL, .lst (stL s)] := by
    have bl : bltF .list true [stV s] [.lst bentL] = .val (.ref 1) [.lst bentL, .lst (stL s)] := rfl
    simp [setAll, gx', hj, bl]
  have dx := bent_mem hx
  obtain ⟨M2, hM2⟩ : ∃ M2 : MH, M2 = [.lst bentL, .lst (stL s)] := ⟨_, rfl⟩
  have lt6 : stepS (evT0 P (evC P 30 (d + 1)) 29) (.ifs (.cmp .lt (.var 6) (.lit (.int 6))) [.asg (.sub (.var 7) (.var 6)) (.var 5), .ret (.blt .tuple false [(.var 7)])] []) [some (.scr ns), some (.int i), some (stV s), some (.int n), some (.ref 0), some x, some (.int j), some (.ref 1), none, none, none, none] M2
    = if j < 6 then .rt (.tup ((stL s).set j x)) [.lst bentL, .lst ((stL s).set j x)] else .nx [some (.scr ns), some (.int i), some (stV s), some (.int n), some (.ref 0), some x, some (.int j), some (.ref 1), none, none, none, none] M2 := by
    subst hM2
    by_cases h : j < 6
    · have h' : (j : Int) < 6 := by omega
      have sb := subK_lst (M := [.lst bentL, .lst (stL s)]) (n := 1) (i := j) (xs := stL s) rfl h x [some (.scr ns), some (.int i), some (stV s), some (.int n), some (.ref 0), some x, some (.int j), some (.ref 1), none, none, none, none]
      change _ = Out.val _ [.lst bentL, .lst ((stL s).set j x)] at sb
      have bt := bTuple_ref (M := [.lst bentL, .lst ((stL s).set j x)]) (n := 1) (xs := (stL s).set j x) false rfl (by rw [List.length_set]; exact (by decide : (6 : Nat) ≤ 1000000))
      rw [if_pos h]
      simp [h', sb, bt]
    · have h' : ¬ ((j : Int) < 6) := by omega
      rw [if_neg h]
      simp [h']
  obtain ⟨AS, hAS⟩ : ∃ AS, AS = s.asks.map askV := ⟨_, rfl⟩
  have hASl : AS.length ≤ 14 := by rw [hAS, List.length_map]; exact F.a
  have hASd : ∀ y, y ∈ AS → Dat 4 y := fun y hy => by
    rw [hAS] at hy
    obtain ⟨q, _, rfl⟩ := List.mem_map.mp hy
    exact (ask_dat q).le (by omega)
  obtain ⟨ω, hω⟩ : ∃ ω, ω = stV s := ⟨_, rfl⟩
  have g1 : getI ω (.int 1) M2 = some (.tup AS) := by rw [hω, hAS]; exact getI_t1 _ _ _ _
  rw [← hω] at s1 s2 s3 s4 lt6 ⊢
  have s6 : stepS (evT0 P (evC P 30 (d + 1)) 29) (.asg (.nm 8) (.blt .list true [(.idx (.var 2) (.lit (.int 1)))])) [some (.scr ns), some (.int i), some ω, some (.int n), some (.ref 0), some x, some (.int j), some (.ref 1), none, none, none, none] M2
    = .nx [some (.scr ns), some (.int i), some ω, some (.int n), some (.ref 0), some x, some (.int j), some (.ref 1), some (.ref 2), none, none, none] [.lst bentL, .lst (stL s), .lst AS] := by
    have nl := newL_t (xs := AS) (M := M2) (by omega)
    have e2 : M2.length = 2 := by rw [hM2]; rfl
    have e3 : M2 ++ [MO.lst AS] = [.lst bentL, .lst (stL s), .lst AS] := by rw [hM2]; rfl
    rw [e2, e3] at nl
    simp [g1, bList_tup, nl]
  obtain ⟨M3, hM3⟩ : ∃ M3 : MH, M3 = [.lst bentL, .lst (stL s), .lst AS] := ⟨_, rfl⟩
  rw [← hM3] at s6
  have m32 : M3[2]? = some (.lst AS) := by rw [hM3]; rfl
  have s7 : ∃ x9 x10 x11 M4 as', stepS (evT0 P (evC P 30 (d + 1)) 29) (.ifs (.cmp .eq (.var 6) (.lit (.int 6))) [.asg (.nm 9) (.idx (.tup [(false, (.lit (.str (PySem.Str.ofString "open")))), (false, (.lit (.str (PySem.Str.ofString "told")))), (false, (.lit (.str (PySem.Str.ofString "lost")))), (false, (.lit (.str (PySem.Str.ofString "Open"))))]) (.bin .mod false (.blt .int false [(.bin .fdiv false (.var 3) (.lit (.int 600)))]) (.lit (.int 4)))), .expr (.bm .append (.var 8) [(.tup [(false, (.bin .mod false (.blt .int false [(.bin .fdiv false (.var 3) (.lit (.int 200)))]) (.lit (.int 3)))), (false, (.var 9)), (false, (.bin .mod false (.blt .int false [(.bin .fdiv false (.var 3) (.lit (.int 3000)))]) (.lit (.int 4)))), (false, (.cmp .gt (.bin .mod false (.blt .int false [(.bin .fdiv false (.var 3) (.lit (.int 15000)))]) (.lit (.int 2))) (.lit (.int 0))))])])] [.ifs (.cmp .ne (.var 8) (.lst false [])) [.asg (.nm 10) (.bin .mod false (.blt .int false [(.bin .fdiv false (.var 3) (.lit (.int 200)))]) (.blt .len false [(.var 8)])), .asg (.nm 11) (.blt .list true [(.idx (.var 8) (.var 10))]), .asg (.sub (.var 11) (.bin .mod false (.blt .int false [(.bin .fdiv false (.var 3) (.lit (.int 3000)))]) (.lit (.int 4)))) (.idx (.lst false [(false, (.lit (.int 0))), (false, (.lit (.int 1))), (false, (.lit (.int 2))), (false, (.lit (.int 3))), (false, (.lit (.bl true))), (false, (.lit (.bl false))), (false, (.lit (.str (PySem.Str.ofString "told")))), (false, (.lit (.str (PySem.Str.ofString "lost")))), (false, (.lit .non))]) (.bin .mod false (.blt .int false [(.bin .fdiv false (.var 3) (.lit (.int 15000)))]) (.lit (.int 9)))), .asg (.sub (.var 8) (.var 10)) (.blt .tuple false [(.var 11)])] []]) [some (.scr ns), some (.int i), some ω, some (.int n), some (.ref 0), some x, some (.int j), some (.ref 1), some (.ref 2), none, none, none] M3
      = .nx [some (.scr ns), some (.int i), some ω, some (.int n), some (.ref 0), some x, some (.int j), some (.ref 1), some (.ref 2), x9, x10, x11] M4 ∧ M4[1]? = some (.lst (stL s)) ∧ M4[2]? = some (.lst as') ∧ as'.length ≤ 15 ∧ ∀ y, y ∈ as' → Dat 4 y := by
    have e6 := eq_int j 6 M3
    by_cases h6 : j = 6
    · have : ((j : Int) = 6) := by omega
      rw [decide_eq_true this] at e6
      obtain ⟨w, hw, gw, -⟩ := ix_get (xs := bentWd) (i := n / 600) (n := 4) rfl (by decide) M3
      have dw : Dat 3 w := by
        have h1 : bentWd.all (fun x => okB 3 [] x) = true := by kernel_rfl
        exact List.all_eq_true.mp h1 w hw
      unfold bentWd at gw
      have il := isLst_ref m32
      have ap := fun y => app_ref m32 (by omega) y
      refine ⟨some w, none, none, M3.set 2 (.lst (AS ++ [.tup [.int (n / 200 % 3), w, .int (n / 3000 % 4), .bl (decide (0 < n / 15000 % 2))]])), AS ++ [.tup [.int (n / 200 % 3), w, .int (n / 3000 % 4), .bl (decide (0 < n / 15000 % 2))]], ?_, ?_, ?_, ?_, ?_⟩
      · simp [e6, gw, il, ap]
      · rw [hM3]; rfl
      · rw [hM3]; rfl
      · rw [List.length_append]
        show AS.length + 1 ≤ 15
        omega
      · intro y hy
        rcases List.mem_append.mp hy with hy | hy
        · exact hASd y hy
        · rw [List.mem_singleton] at hy
          subst hy
          refine tup_dat fun z hz => ?_
          simp only [List.mem_cons, List.not_mem_nil, or_false] at hz
          rcases hz with rfl | rfl | rfl | rfl
          · rfl
          · exact dw
          · rfl
          · rfl
    · have : ¬ ((j : Int) = 6) := by omega
      rw [decide_eq_false this] at e6
      have e8 := nil_ref m32 (List.all_eq_true.mpr fun y hy => (hASd y hy).ok M3 (by omega))
      cases hE : AS.isEmpty with
      | true =>
        rw [hE] at e8
        refine ⟨none, none, none, M3, AS, ?_, by rw [hM3]; rfl, m32, by omega, hASd⟩
        simp [e6, newL, e8]
      | false =>
        rw [hE] at e8
        have hpos : 0 < AS.length := by
          cases AS with
          | nil => cases hE
          | cons => simp
        have ln := len_ref false m32
        have f0 := bin_mod false (n / 200) AS.length M3 (by omega)
        obtain ⟨k, hk, hk2⟩ : ∃ k : Nat, n / 200 % AS.length = k ∧ k < AS.length := by
          have h1 := Int.emod_nonneg (n / 200) (b := (AS.length : Int)) (by omega)
          have h2 := Int.emod_lt_of_pos (n / 200) (b := (AS.length : Int)) (by omega)
          exact ⟨(n / 200 % AS.length).toNat, by omega, by omega⟩
        rw [hk] at f0
        have hkq : AS[k]? = some AS[k] := List.getElem?_eq_getElem hk2
        obtain ⟨q, hq⟩ : ∃ q, AS[k] = askV q := by
          have : AS[k] ∈ AS := List.getElem_mem hk2
          generalize AS[k] = z at this ⊢
          rw [hAS] at this
          obtain ⟨q, _, e⟩ := List.mem_map.mp this
          exact ⟨q, e.symm⟩
        have gk := getI_ref m32 hkq
        rw [hq] at gk
        obtain ⟨ql, hql⟩ : ∃ ql : List PV, ql = [.int q.a, wdV q.w, .int q.n, .bl q.l] := ⟨_, rfl⟩
        have eq1 : askV q = .tup ql := by rw [hql]; rfl
        have nl := newL_t (xs := ql) (M := M3) (by rw [hql]; show 4 ≤ 1000000; decide)
        have e3 : M3.length = 3 := by rw [hM3]; rfl
        obtain ⟨M4, hM4⟩ : ∃ M4 : MH, M4 = [.lst bentL, .lst (stL s), .lst AS, .lst ql] := ⟨_, rfl⟩
        rw [e3, show M3 ++ [MO.lst ql] = M4 by rw [hM3, hM4]; rfl] at nl
        obtain ⟨p, hp, hp2⟩ : ∃ p : Nat, n / 3000 % 4 = p ∧ p < 4 := ⟨(n / 3000 % 4).toNat, by omega, by omega⟩
        obtain ⟨y, hy, -, gy⟩ := ix_get (xs := bentI) (i := n / 15000) (n := 9) rfl (by decide) M4
        unfold bentI at gy
        have dy : Dat 3 y := by
          have h1 : bentI.all (fun x => okB 3 [] x) = true := by kernel_rfl
          exact List.all_eq_true.mp h1 y hy
        obtain ⟨M5, hM5⟩ : ∃ M5 : MH, M5 = [.lst bentL, .lst (stL s), .lst AS, .lst (ql.set p y)] := ⟨_, rfl⟩
        have sb1 := fun ρ => subK_lst (M := M4) (n := 3) (i := p) (xs := ql) (by rw [hM4]; rfl) (by rw [hql]; exact hp2) y ρ
        rw [show M4.set 3 (.lst (ql.set p y)) = M5 by rw [hM4, hM5]; rfl] at sb1
        have bt := bTuple_ref (M := M5) (n := 3) (xs := ql.set p y) false (by rw [hM5]; rfl) (by rw [List.length_set, hql]; show 4 ≤ 1000000; decide)
        have sb2 := fun ρ => subK_lst (M := M5) (n := 2) (i := k) (xs := AS) (by rw [hM5]; rfl) hk2 (.tup (ql.set p y)) ρ
        refine ⟨none, some (.int k), some (.ref 3), M5.set 2 (.lst (AS.set k (.tup (ql.set p y)))), AS.set k (.tup (ql.set p y)), ?_, by rw [hM5]; rfl, by rw [hM5]; rfl, by rw [List.length_set]; omega, ?_⟩
        · have t0 : evT (evT0 P (evC P 30 (d + 1)) 28) (.cmp .ne (.var 8) (.lst false [])) [some (.scr ns), some (.int i), some ω, some (.int n), some (.ref 0), some x, some (.int j), some (.ref 1), some (.ref 2), none, none, none] M3 = .val true M3 := by
            simp [newL, e8]
          have t1 : stepS (evT0 P (evC P 30 (d + 1)) 27) (.asg (.nm 10) (.bin .mod false (.blt .int false [(.bin .fdiv false (.var 3) (.lit (.int 200)))]) (.blt .len false [(.var 8)]))) [some (.scr ns), some (.int i), some ω, some (.int n), some (.ref 0), some x, some (.int j), some (.ref 1), some (.ref 2), none, none, none] M3
            = .nx [some (.scr ns), some (.int i), some ω, some (.int n), some (.ref 0), some x, some (.int j), some (.ref 1), some (.ref 2), none, some (.int k), none] M3 := by
            simp [ln, f0]
          have t2 : stepS (evT0 P (evC P 30 (d + 1)) 27) (.asg (.nm 11) (.blt .list true [(.idx (.var 8) (.var 10))])) [some (.scr ns), some (.int i), some ω, some (.int n), some (.ref 0), some x, some (.int j), some (.ref 1), some (.ref 2), none, some (.int k), none] M3
            = .nx [some (.scr ns), some (.int i), some ω, some (.int n), some (.ref 0), some x, some (.int j), some (.ref 1), some (.ref 2), none, some (.int k), some (.ref 3)] M4 := by
            simp [gk, eq1, bList_tup, nl]
          have t3 : stepS (evT0 P (evC P 30 (d + 1)) 27) (.asg (.sub (.var 11) (.bin .mod false (.blt .int false [(.bin .fdiv false (.var 3) (.lit (.int 3000)))]) (.lit (.int 4)))) (.idx (.lst false [(false, (.lit (.int 0))), (false, (.lit (.int 1))), (false, (.lit (.int 2))), (false, (.lit (.int 3))), (false, (.lit (.bl true))), (false, (.lit (.bl false))), (false, (.lit (.str (PySem.Str.ofString "told")))), (false, (.lit (.str (PySem.Str.ofString "lost")))), (false, (.lit .non))]) (.bin .mod false (.blt .int false [(.bin .fdiv false (.var 3) (.lit (.int 15000)))]) (.lit (.int 9))))) [some (.scr ns), some (.int i), some ω, some (.int n), some (.ref 0), some x, some (.int j), some (.ref 1), some (.ref 2), none, some (.int k), some (.ref 3)] M4
            = .nx [some (.scr ns), some (.int i), some ω, some (.int n), some (.ref 0), some x, some (.int j), some (.ref 1), some (.ref 2), none, some (.int k), some (.ref 3)] M5 := by
            simp [newL, gy, hp, sb1]
          have t4 : stepS (evT0 P (evC P 30 (d + 1)) 27) (.asg (.sub (.var 8) (.var 10)) (.blt .tuple false [(.var 11)])) [some (.scr ns), some (.int i), some ω, some (.int n), some (.ref 0), some x, some (.int j), some (.ref 1), some (.ref 2), none, some (.int k), some (.ref 3)] M5
            = .nx [some (.scr ns), some (.int i), some ω, some (.int n), some (.ref 0), some x, some (.int j), some (.ref 1), some (.ref 2), none, some (.int k), some (.ref 3)] (M5.set 2 (.lst (AS.set k (.tup (ql.set p y))))) := by
            simp [bt, sb2]
          have t6 : evT (evT0 P (evC P 30 (d + 1)) 29) (.cmp .eq (.var 6) (.lit (.int 6))) [some (.scr ns), some (.int i), some ω, some (.int n), some (.ref 0), some x, some (.int j), some (.ref 1), some (.ref 2), none, none, none] M3 = .val false M3 := by
            simp [e6]
          rw [stepS_ifs, t6, outS_val, if_neg (by decide), ssL_cons, ev_s, stepS_ifs, t0, outS_val, if_pos rfl, ssL_cons, ev_s, t1, seq_nx, ssL_cons, ev_s, t2, seq_nx, ssL_cons, ev_s, t3, seq_nx, ssL_cons, ev_s, t4, seq_nx, ssL_nil, seq_nx, ssL_nil]
        · intro z hz
          rcases List.mem_or_eq_of_mem_set hz with hz | rfl
          · exact hASd z hz
          · refine tup_dat fun u hu => ?_
            rcases List.mem_or_eq_of_mem_set hu with hu | rfl
            · have := ask_dat q
              rw [eq1] at this
              exact (this.mem hu).le (by omega)
            · exact dy
  obtain ⟨x9, x10, x11, M4, as', e7, m41, m42, al, ad⟩ := s7
  have s8 : stepS (evT0 P (evC P 30 (d + 1)) 29) (.ret (.tup [(false, (.idx (.var 7) (.lit (.int 0)))), (false, (.blt .tuple false [(.var 8)])), (false, (.idx (.var 7) (.lit (.int 2)))), (false, (.idx (.var 7) (.lit (.int 3)))), (false, (.idx (.var 7) (.lit (.int 4)))), (false, (.idx (.var 7) (.lit (.int 5))))])) [some (.scr ns), some (.int i), some ω, some (.int n), some (.ref 0), some x, some (.int j), some (.ref 1), some (.ref 2), x9, x10, x11] M4
    = .rt (withA s as') M4 := by
    have q0 : getI (.ref 1) (.int 0) M4 = some (.bl s.o) := getI_ref (i := 0) m41 rfl
    have q2 : getI (.ref 1) (.int 2) M4 = some (rowV s.row) := getI_ref (i := 2) m41 rfl
    have q3 : getI (.ref 1) (.int 3) M4 = some (rowV s.elder) := getI_ref (i := 3) m41 rfl
    have q4 : getI (.ref 1) (.int 4) M4 = some (.tup (s.under.map ansV)) := getI_ref (i := 4) m41 rfl
    have q5 : getI (.ref 1) (.int 5) M4 = some (halfV s.half) := getI_ref (i := 5) m41 rfl
    have bt := bTuple_ref false m42 (by omega)
    simp [q0, q2, q3, q4, q5, bt, withA]
  obtain ⟨tl_, htl⟩ : ∃ r, r = m__law_bent.body.drop 4 := ⟨_, rfl⟩
  have b0 : m__law_bent.body = [
  .asg (.nm 3) (.blt .int false [(.call 46 true [(.var 0), (.var 1)])]),
  .asg (.nm 4) (.lst true [(false, (.lit .non)), (false, (.lit (.int 0))), (false, (.lit (.int 1))), (false, (.lit (.bl true))), (false, (.lit (.str (PySem.Str.ofString "0")))), (false, (.tup [])), (false, (.tup [(false, (.lit (.int 0)))])), (false, (.tup [(false, (.lit (.int 1)))])), (false, (.tup [(false, (.lit (.int 0))), (false, (.lit (.int 1)))])), (false, (.tup [(false, (.lit (.int 1))), (false, (.lit (.int 0)))])), (false, (.tup [(false, (.lit (.int 0))), (false, (.lit (.int 0)))])), (false, (.tup [(false, (.tup [(false, (.lit (.int 0))), (false, (.lit (.int 1)))]))])), (false, (.tup [(false, (.tup [(false, (.lit (.int 0))), (false, (.lit (.int 2)))]))])), (false, (.tup [(false, (.tup [(false, (.lit (.int 1))), (false, (.lit (.int 2)))]))]))]),
  .expr (.bm .append (.var 4) [(.tup [(false, (.tup [(false, (.lit (.int 0))), (false, (.lit (.int 1)))])), (false, (.tup [(false, (.lit (.int 1))), (false, (.lit (.int 1)))]))])]),
  .par [5, 6, 7] [(.idx (.var 4) (.bin .mod false (.blt .int false [(.bin .fdiv false (.var 3) (.lit (.int 10)))]) (.lit (.int 15)))), (.bin .mod false (.blt .int false [(.var 3)]) (.lit (.int 9))), (.blt .list true [(.var 2)])]] ++ tl_ := by rw [htl]; rfl
  rw [← hM2] at s4
  change ∃ v M', (ssL (evT0 P (evC P 30 (d + 1)) 30) m__law_bent.body [some (.scr ns), some (.int i), some ω, none, none, none, none, none, none, none, none, none] []).fin = .val v M' ∧ _
  rw [b0, List.cons_append, List.cons_append, List.cons_append, List.cons_append, List.nil_append, ssL_cons, ev_s, s1, seq_nx, ssL_cons, ev_s, s2, seq_nx, ssL_cons, ev_s, s3, seq_nx, ssL_cons, ev_s, s4, seq_nx, htl]
  by_cases h : j < 6
  · rw [if_pos h] at lt6
    refine ⟨.tup ((stL s).set j x), [.lst bentL, .lst ((stL s).set j x)], ?_, ?_, small_set F dx.2 j⟩
    · show (ssL (evT0 P (evC P 30 (d + 1)) 30) (_ :: _) _ _).fin = _
      rw [ssL_cons, ev_s]
      refine (congrArg (fun o => (SO.seq o _).fin) lt6).trans ?_
      rw [seq_rt, fin_rt]
    · refine tup_dat fun z hz => ?_
      rcases List.mem_or_eq_of_mem_set hz with hz | rfl
      · exact Dat.le (stL_dat s hz) (by omega)
      · exact dx.1.le (by omega)
  · rw [if_neg h] at lt6
    refine ⟨withA s as', M4, ?_, (dat_with s ad).le (by omega), small_with F al⟩
    show (ssL (evT0 P (evC P 30 (d + 1)) 30) (_ :: _ :: _ :: _ :: []) _ _).fin = _
    rw [ssL_cons, ev_s]
    refine (congrArg (fun o => (SO.seq o _).fin) lt6).trans ?_
    rw [seq_nx, ssL_cons, ev_s]
    refine (congrArg (fun o => (SO.seq o _).fin) s6).trans ?_
    rw [seq_nx, ssL_cons, ev_s]
    refine (congrArg (fun o => (SO.seq o _).fin) e7).trans ?_
    rw [seq_nx, ssL_cons, ev_s]
    refine (congrArg (fun o => (SO.seq o _).fin) s8).trans ?_
    rw [seq_rt, fin_rt]
theorem cp_bent (d : Nat) (ns : List Int) (i : Int) (s : St) (F : Few s) (M : MH) : ∃ v, callP (evC P 30 (d + 2)) 65 [.scr ns, .int i, stV s] M = .val v M ∧ Dat 8 v ∧ Small v := by
  obtain ⟨v, M', e, h1, h2⟩ := ev_bent T d ns i s F
  exact ⟨v, callP_ok (by simp only [List.all_cons, List.all_nil, pure_scr, pure_int, st_pure s 45, Bool.and_self]) e (h1.pure (by omega)), h1, h2⟩
end
end Mp.K02
end

section
set_option Elab.async false
set_option linter.all false
set_option maxRecDepth 100000
set_option maxHeartbeats 4000000
/-! L02h: one turn of the law (k02). -/
namespace Mp.K02
open PySem Mp Mp.Pk

theorem src_rng0 (n : Nat) (M : MH) : SrcL M (.rng 0 n) (List.range n) natV := by
  have h := srcRng (M := M) 0 n
  rw [show (fun i : Nat => PV.int (0 + (i : Nat))) = natV from funext fun i => by rw [Int.zero_add]; rfl] at h
  exact h
theorem eq_ints (is : List Int) (M : MH) : eqV M (.lst (is.map .int)) (.lst (is.map .int)) = some true := by
  have ok : okB 40 M (.lst (is.map .int)) = true := List.all_eq_true.mpr fun x hx => by
    obtain ⟨i, _, rfl⟩ := List.mem_map.mp hx
    rfl
  rw [eqV_ok ok ok]
  congr 1
  have key : ∀ is : List Int, eqL (eqB 39 M) (is.map .int) (is.map .int) = true := by
    intro is
    induction is with
    | nil => rfl
    | cons a r ih =>
      show (decide (a = a) && eqL (eqB 39 M) (r.map .int) (r.map .int)) = true
      rw [ih, decide_eq_true rfl]
      rfl
  exact key is
theorem eq_first (M : MH) : eqV M (stV firstS) (stV firstS) = some true := by kernel_rfl
theorem done_list (s : St) (a : Int) : doneV s a = ((s.asks.filter fun q => decide (q.a = a) && decide (q.w = .op)).map fun q => q.n).map .int := by
  unfold doneV openOf openI
  rw [List.filter_map, List.map_map, List.filter_filter]
  have e1 : (s.asks.zipIdx.filter fun q => ((fun i => decide ((aAt s.asks i).a = a)) ∘ fun x : Ask × Nat => x.2) q && decide (q.1.w = .op)) = s.asks.zipIdx.filter ((fun q : Ask => decide (q.a = a) && decide (q.w = .op)) ∘ Prod.fst) := by
    refine List.filter_congr fun q hq => ?_
    show (decide ((aAt s.asks q.2).a = a) && decide (q.1.w = .op)) = (decide (q.1.a = a) && decide (q.1.w = .op))
    rw [aAt_of (zipIdx_mem hq)]
  rw [e1]
  have e2 : (s.asks.zipIdx.filter ((fun q : Ask => decide (q.a = a) && decide (q.w = .op)) ∘ Prod.fst)).map Prod.fst = s.asks.filter fun q => decide (q.a = a) && decide (q.w = .op) := by
    rw [← List.filter_map]
    congr 1
    exact List.zipIdx_map_fst 0 s.asks
  rw [← e2, List.map_map, List.map_map]
  refine List.map_congr_left fun z hz => ?_
  have := aAt_of (zipIdx_mem (List.mem_filter.mp hz).1)
  show PV.int (aAt s.asks z.2).n = PV.int z.1.n
  rw [this]
theorem good_few {L : Ln} {s : St} (g : GoodS L s) (h : s.asks.length ≤ 14) : Few s := by
  obtain ⟨h1, h2, h3⟩ := g.size
  exact ⟨h, by omega, by omega, by omega⟩
theorem few_small {s : St} (F : Few s) : Small (stV s) := by
  have := small_with F (as := s.asks.map askV) (by rw [List.length_map]; have := F.a; omega)
  exact this
structure LwR (P : MP) : Prop extends LwB P where
  f63 : P.fns[63]? = some m__law_right
  f62 : P.fns[62]? = some m_law
section
variable {P : MP} (T : LwR P)
include T
theorem LwR.k63 : Cal P 63 3 := cal T.f63 rfl
theorem LwR.k64 : Cal P 64 2 := cal T.f64 rfl
theorem cp_law_state (d : Nat) (L : Ln) (hL : L.Ok) (v : PV) {k : Nat} (hv : Dat k v) (hk : k ≤ 38) (hs : Small v) (M : MH) :
    ∃ b, callP (evC P 30 (d + 5)) 64 [plV L, v] M = .val (.bl b) M ∧ (b = true ↔ StOk L v) := by
  obtain ⟨b, h1, h2⟩ := ev_law_state T.toLwS d L hL v hv hk hs []
  exact ⟨b, callP_ok (by simp only [List.all_cons, List.all_nil, pl_pure L 47, hv.pure (show k ≤ 50 by omega), Bool.and_self]) h1 rfl, h2⟩
/-- the two looks agree -/
theorem both (d : Nat) (L : Ln) (hL : L.Ok) (v : PV) {k : Nat} (hv : Dat k v) (hk : k ≤ 38) (hs : Small v) (M : MH) :
    ∃ b, callP (evC P 30 (d + 8)) 24 [lnV L, v] M = .val (.bl b) M ∧ callP (evC P 30 (d + 8)) 64 [plV L, v] M = .val (.bl b) M ∧ (b = true ↔ StOk L v) := by
  obtain ⟨b, h1, h2⟩ := cp_is_state T.toD.toS.toPkT (d + 2) L hL v hv hk hs M
  obtain ⟨b', h3, h4⟩ := cp_law_state T (d + 3) L hL v hv hk hs M
  have e : b' = b := by
    cases b <;> cases b' <;> simp_all
  exact ⟨b, h1, by rw [← e]; exact h3, h2⟩
abbrev bd1 : MS := .asg (.nm 6) (.call 52 true [(.var 2), (.call 49 true [(.var 4)])])
abbrev bd2 : MS := .asg (.nm 4) (.call 42 true [(.var 3), (.var 4), (.idx (.var 6) (.bin .mod false (.blt .int false [(.call 46 true [(.var 0), (.bin .add false (.var 1) (.var 5))])]) (.blt .len false [(.var 6)])))])
abbrev bd3 : MS := .ifs (.or [(.not (.call 24 true [(.var 3), (.var 4)])), (.not (.call 64 true [(.var 2), (.var 4)]))]) [.ret (.lit (.bl false))] []
abbrev bd4i : List MS := [.asg (.nm 9) (.lc false [11] (.idx (.var 11) (.lit (.int 2))) (.nm 11) (.seq (.idx (.var 4) (.lit (.int 1)))) [(.cmp .eq (.slc (.var 11) none (some (.lit (.int 2)))) (.tup [(false, (.var 7)), (false, (.lit (.str (PySem.Str.ofString "open"))))]))]), .ifs (.cmp .ne (.call 25 true [(.var 3), (.var 4), (.var 7)]) (.var 9)) [.ret (.lit (.bl false))] []]
abbrev bd4 : MS := .for_ (.nm 7) (.rng1 (.idx (.var 2) (.lit (.int 0)))) bd4i
abbrev bd5i : List MS := [.asg (.nm 10) (.call 65 true [(.var 0), (.bin .add false (.bin .add false (.bin .add false (.var 1) (.lit (.int 50))) (.bin .mul false (.lit (.int 7)) (.var 5))) (.var 8)), (.var 4)]), .ifs (.cmp .ne (.call 24 true [(.var 3), (.var 10)]) (.call 64 true [(.var 2), (.var 10)])) [.ret (.lit (.bl false))] []]
abbrev bd5 : MS := .for_ (.nm 8) (.rng1 (.lit (.int 5))) bd5i
abbrev bdAll : List MS := [bd1, bd2, bd3, bd4, bd5]
/-- what a state of the walk is -/
abbrev rhoR (ns : List Int) (a : Int) (L : Ln) (s : St) (t : Nat) (x6 x7 x8 x9 x10 : Option PV) : Rho := [some (.scr ns), some (.int a), some (plV L), some (lnV L), some (stV s), some (natV t), x6, x7, x8, x9, x10, none]
theorem turn4 (d : Nat) (ns : List Int) (a : Int) (L : Ln) (hL : L.Ok) (s : St) (g : GoodS L s) (hs : s.asks.length ≤ 14) (t : Nat) (x6 x7 x8 x9 x10 : Option PV) (M : MH) :
    ∃ y7 y9, stepS (evT0 P (evC P 30 (d + 8)) 28) bd4 (rhoR ns a L s t x6 x7 x8 x9 x10) M = .nx (rhoR ns a L s t x6 y7 x8 y9 x10) M := by
  have F := good_few g hs
  obtain ⟨σ, hσ⟩ : ∃ σ, σ = stV s := ⟨_, rfl⟩
  have g1 : getI σ (.int 1) M = some (.tup (s.asks.map askV)) := by rw [hσ]; exact getI_t1 _ _ _ _
  obtain ⟨k, hk, hk2⟩ : ∃ k : Nat, L.askers = k ∧ k ≤ 2 := by
    rcases hL.a with h | h
    · exact ⟨1, h, by omega⟩
    · exact ⟨2, h, by omega⟩
  have turn : ∀ (i : Nat), i < k → ∀ x9, ∃ y9, ssL (evT0 P (evC P 30 (d + 8)) 28) bd4i [some (.scr ns), some (.int a), some (plV L), some (lnV L), some σ, some (natV t), x6, some (natV i), x8, x9, x10, none] M = .nx [some (.scr ns), some (.int a), some (plV L), some (lnV L), some σ, some (natV t), x6, some (natV i), x8, y9, x10, none] M := by
    intro i hi x9
    have cd := cp_done_counts T.toD.toS.toPkT (d + 1) L hL s g (few_small F) (i : Int) (by omega) (by omega) M
    have dl := done_list s (i : Int)
    have hfl : (s.asks.filter fun q => decide (q.a = (i : Int)) && decide (q.w = .op)).length ≤ 14 := Nat.le_trans (List.length_filter_le _ _) hs
    have e0 : ∀ j, lcL (evT0 P (evC P 30 (d + 8)) (j + 5)) (.idx (.var 11) (.lit (.int 2))) (.nm 11) [(.cmp .eq (.slc (.var 11) none (some (.lit (.int 2)))) (.tup [(false, (.var 7)), (false, (.lit (.str (PySem.Str.ofString "open"))))]))] [some (.scr ns), some (.int a), some (plV L), some (lnV L), some σ, some (natV t), x6, some (natV i), x8, x9, x10, none] (srcLen M (.sq true (.tup (s.asks.map askV))) + 1) 0 (.sq true (.tup (s.asks.map askV))) [] M = .val ((s.asks.filter fun q => decide (q.a = (i : Int)) && decide (q.w = .op)).map fun q => PV.int q.n) M := by
      intro j
      refine lcL_items (src_tup s.asks askV M) (by omega) fun q hq => ⟨_, rfl, ?_, fun _ => ?_⟩
      · have := eq_who q (i : Int) M
        simp [askV, natV, this]
      · have g2 : getI (askV q) (.int 2) M = some (.int q.n) := getI_t2 _ _ _ _ _
        simp [g2]
    have em : ((s.asks.filter fun q => decide (q.a = (i : Int)) && decide (q.w = .op)).map fun q => PV.int q.n) = doneV s i := by rw [dl, List.map_map]; rfl
    rw [em] at e0
    have dn : (doneV s i).length ≤ 1000000 := by rw [dl, List.length_map, List.length_map]; omega
    have t1 : stepS (evT0 P (evC P 30 (d + 8)) 27) (.asg (.nm 9) (.lc false [11] (.idx (.var 11) (.lit (.int 2))) (.nm 11) (.seq (.idx (.var 4) (.lit (.int 1)))) [(.cmp .eq (.slc (.var 11) none (some (.lit (.int 2)))) (.tup [(false, (.var 7)), (false, (.lit (.str (PySem.Str.ofString "open"))))]))])) [some (.scr ns), some (.int a), some (plV L), some (lnV L), some σ, some (natV t), x6, some (natV i), x8, x9, x10, none] M
      = .nx [some (.scr ns), some (.int a), some (plV L), some (lnV L), some σ, some (natV t), x6, some (natV i), x8, some (.lst (doneV s i)), x10, none] M := by
      simp [-List.map_map, g1, kindS_tup, wipeR, e0, newL_f dn]
    have ed : eqV M (.lst (doneV s i)) (.lst (doneV s i)) = some true := by rw [dl]; exact eq_ints _ M
    rw [← hσ] at cd
    change callP _ 25 [lnV L, σ, natV i] M = _ at cd
    have t2 : stepS (evT0 P (evC P 30 (d + 8)) 27) (.ifs (.cmp .ne (.call 25 true [(.var 3), (.var 4), (.var 7)]) (.var 9)) [.ret (.lit (.bl false))] []) [some (.scr ns), some (.int a), some (plV L), some (lnV L), some σ, some (natV t), x6, some (natV i), x8, some (.lst (doneV s i)), x10, none] M
      = .nx [some (.scr ns), some (.int a), some (plV L), some (lnV L), some σ, some (natV t), x6, some (natV i), x8, some (.lst (doneV s i)), x10, none] M := by
      simp [stepE_callT, T.toD.toS.k25, cd, ed]
    exact ⟨_, by rw [ssL_cons, ev_s, t1, seq_nx, ssL_cons, ev_s, t2, seq_nx, ssL_nil]⟩
  rw [rhoR, ← hσ]
  obtain ⟨ρ, M', h1, h2, x7', x9', h3⟩ := forL_all (s := .rng 0 k) (inj := natV) (E := evT0 P (evC P 30 (d + 8)) 28) (t := .nm 7) (body := ssL (evT0 P (evC P 30 (d + 8)) 28) bd4i) (L := List.range k)
    (st := fun pre ρ M' => M' = M ∧ ∃ x7 x9, ρ = [some (.scr ns), some (.int a), some (plV L), some (lnV L), some σ, some (natV t), x6, x7, x8, x9, x10, none])
    (ρ := [some (.scr ns), some (.int a), some (plV L), some (lnV L), some σ, some (natV t), x6, x7, x8, x9, x10, none]) (M := M)
    (fun pre ρ M' h => src_rng0 k M') (fun pre i post ρ M' hR h => by
      obtain ⟨rfl, x7, x9, rfl⟩ := h
      refine ⟨_, _, rfl, ?_⟩
      have hi : i < k := List.mem_range.mp (by rw [hR]; simp)
      obtain ⟨y9, ht⟩ := turn i hi x9
      exact ⟨_, _, .inl ht, rfl, _, _, rfl⟩) ⟨rfl, _, _, rfl⟩
  subst h2 h3
  refine ⟨x7', x9', ?_⟩
  have e1 : (evT0 P (evC P 30 (d + 8)) 28).e (.idx (.var 2) (.lit (.int 0))) [some (.scr ns), some (.int a), some (plV L), some (lnV L), some σ, some (natV t), x6, x7, x8, x9, x10, none] M' = .val (.int (k : Int)) M' := by
    rw [← hk]
    simp
  have ei : evIt (evT0 P (evC P 30 (d + 8)) 28) (.rng1 (.idx (.var 2) (.lit (.int 0)))) [some (.scr ns), some (.int a), some (plV L), some (lnV L), some σ, some (natV t), x6, x7, x8, x9, x10, none] M' = .val (.rng 0 k) M' := by
    rw [evIt_rng1, evArgs_cons, e1, bind_val, evArgs_nil, bind_val, bind_val, rngK_nat k (by omega)]
  rw [stepS_for, ei, outS_val, h1, hσ]
theorem turn5 (d : Nat) (ns : List Int) (a : Int) (L : Ln) (hL : L.Ok) (s : St) (F : Few s) (t : Nat) (x6 x7 x8 x9 x10 : Option PV) (M : MH) :
    ∃ y8 y10, stepS (evT0 P (evC P 30 (d + 8)) 28) bd5 (rhoR ns a L s t x6 x7 x8 x9 x10) M = .nx (rhoR ns a L s t x6 x7 y8 x9 y10) M := by
  have cb := fun i => cp_bent T.toLwB (d + 6) ns i s F M
  obtain ⟨σ, hσ⟩ : ∃ σ, σ = stV s := ⟨_, rfl⟩
  rw [← hσ] at cb
  have turn : ∀ (i : Nat), ∀ x10, ∃ y10, ssL (evT0 P (evC P 30 (d + 8)) 28) bd5i [some (.scr ns), some (.int a), some (plV L), some (lnV L), some σ, some (natV t), x6, x7, some (natV i), x9, x10, none] M = .nx [some (.scr ns), some (.int a), some (plV L), some (lnV L), some σ, some (natV t), x6, x7, some (natV i), x9, y10, none] M := by
    intro i x10
    obtain ⟨v, ev, hv, hs⟩ := cb (a + 50 + 7 * t + i)
    obtain ⟨b, h1, h2, -⟩ := both T d L hL v hv (by omega) hs M
    have m7 := bin_mul_l false 7 (t : Int) M (by decide)
    have t1 : stepS (evT0 P (evC P 30 (d + 8)) 27) (.asg (.nm 10) (.call 65 true [(.var 0), (.bin .add false (.bin .add false (.bin .add false (.var 1) (.lit (.int 50))) (.bin .mul false (.lit (.int 7)) (.var 5))) (.var 8)), (.var 4)])) [some (.scr ns), some (.int a), some (plV L), some (lnV L), some σ, some (natV t), x6, x7, some (natV i), x9, x10, none] M
      = .nx [some (.scr ns), some (.int a), some (plV L), some (lnV L), some σ, some (natV t), x6, x7, some (natV i), x9, some v, none] M := by
      simp [stepE_callT, T.k65, natV, m7, ev]
    have eb : eqV M (.bl b) (.bl b) = some true := by cases b <;> rfl
    have t2 : stepS (evT0 P (evC P 30 (d + 8)) 27) (.ifs (.cmp .ne (.call 24 true [(.var 3), (.var 10)]) (.call 64 true [(.var 2), (.var 10)])) [.ret (.lit (.bl false))] []) [some (.scr ns), some (.int a), some (plV L), some (lnV L), some σ, some (natV t), x6, x7, some (natV i), x9, some v, none] M
      = .nx [some (.scr ns), some (.int a), some (plV L), some (lnV L), some σ, some (natV t), x6, x7, some (natV i), x9, some v, none] M := by
      simp [stepE_callT, T.toD.toS.k24, T.k64, h1, h2, eb]
    exact ⟨_, by rw [ssL_cons, ev_s, t1, seq_nx, ssL_cons, ev_s, t2, seq_nx, ssL_nil]⟩
  rw [rhoR, ← hσ]
  obtain ⟨ρ, M', h1, h2, x8', x10', h3⟩ := forL_all (s := .rng 0 5) (inj := natV) (E := evT0 P (evC P 30 (d + 8)) 28) (t := .nm 8) (body := ssL (evT0 P (evC P 30 (d + 8)) 28) bd5i) (L := List.range 5)
    (st := fun pre ρ M' => M' = M ∧ ∃ x8 x10, ρ = [some (.scr ns), some (.int a), some (plV L), some (lnV L), some σ, some (natV t), x6, x7, x8, x9, x10, none])
    (ρ := [some (.scr ns), some (.int a), some (plV L), some (lnV L), some σ, some (natV t), x6, x7, x8, x9, x10, none]) (M := M)
    (fun pre ρ M' h => src_rng0 5 M') (fun pre i post ρ M' hR h => by
      obtain ⟨rfl, x8, x10, rfl⟩ := h
      refine ⟨_, _, rfl, ?_⟩
      obtain ⟨y10, ht⟩ := turn i x10
      exact ⟨_, _, .inl ht, rfl, _, _, rfl⟩) ⟨rfl, _, _, rfl⟩
  subst h2 h3
  refine ⟨x8', x10', ?_⟩
  have ei : evIt (evT0 P (evC P 30 (d + 8)) 28) (.rng1 (.lit (.int 5))) [some (.scr ns), some (.int a), some (plV L), some (lnV L), some σ, some (natV t), x6, x7, x8, x9, x10, none] M' = .val (.rng 0 5) M' := by
    rw [evIt_rng1, evArgs_cons, ev_e, stepE_lit, bind_val, evArgs_nil, bind_val, bind_val]
    exact rngK_nat 5 (by decide) M'
  rw [stepS_for, ei, outS_val, h1, hσ]
end
end Mp.K02
end

section
set_option Elab.async false
set_option linter.all false
set_option maxRecDepth 100000
set_option maxHeartbeats 4000000
/-! L02i: the law (k02) holds by the evaluator. -/
namespace Mp.K02
open PySem Mp Mp.Pk

theorem not_ok {L : Ln} {v : PV} (h : ∀ s, v ≠ stV s) : ¬ StOk L v := fun ⟨s, e, _⟩ => h s e
theorem bin_add_t (m : Bool) (xs ys : List PV) (M : MH) (h : xs.length + ys.length ≤ 1000000) : binOp .add m (.tup xs) (.tup ys) M = .val (.tup (xs ++ ys)) M := by
  show (if xs.length + ys.length ≤ 1000000 then Out.val (PV.tup (xs ++ ys)) M else .stuck) = _
  rw [if_pos h]
/-- things that are no states -/
def oddL (s : St) : List PV := [.non, .int 5, .tup [], .tup ((stL s).take 5), .lst (stL s), .str (PySem.Str.ofString "state"), .tup (stL s ++ [.non])]
theorem odd_ok {L : Ln} {s : St} {v : PV} (h : v ∈ oddL s) : Dat 6 v ∧ Small v ∧ ¬ StOk L v := by
  have ds : ∀ y, y ∈ stL s → Dat 5 y := fun y hy => Dat.le (stL_dat s hy) (by omega)
  simp only [oddL, List.mem_cons, List.not_mem_nil, or_false] at h
  rcases h with rfl | rfl | rfl | rfl | rfl | rfl | rfl
  · exact ⟨rfl, fun _ _ _ _ _ _ e => (by cases e), not_ok fun s e => (by cases e)⟩
  · exact ⟨rfl, fun _ _ _ _ _ _ e => (by cases e), not_ok fun s e => (by cases e)⟩
  · exact ⟨rfl, fun _ _ _ _ _ _ e => (by cases e), not_ok fun s e => (by cases e)⟩
  · refine ⟨tup_dat fun y hy => ds y (List.mem_of_mem_take hy), fun _ _ _ _ _ _ e => ?_, not_ok fun s' e => ?_⟩
    · injection e with e
      have := congrArg List.length e
      simp [stL] at this
    · unfold stV at e
      injection e with e
      have := congrArg List.length e
      simp [stL] at this
  · exact ⟨List.all_eq_true.mpr ds, fun _ _ _ _ _ _ e => (by cases e), not_ok fun s e => (by cases e)⟩
  · exact ⟨by show okB 6 [] _ = true; kernel_rfl, fun _ _ _ _ _ _ e => (by cases e), not_ok fun s e => (by cases e)⟩
  · refine ⟨tup_dat fun y hy => ?_, fun _ _ _ _ _ _ e => ?_, not_ok fun s' e => ?_⟩
    · rcases List.mem_append.mp hy with hy | hy
      · exact ds y hy
      · rw [List.mem_singleton] at hy; subst hy; rfl
    · injection e with e
      have := congrArg List.length e
      simp [stL] at this
    · unfold stV at e
      injection e with e
      have := congrArg List.length e
      simp [stL] at this
section
variable {P : MP} (T : LwR P)
include T
theorem turnAll (d : Nat) (ns : List Int) (a : Int) (L : Ln) (hL : L.Ok) (s : St) (g : GoodS L s) (t : Nat) (ht : s.asks.length ≤ t) (ht2 : t < 14) (x6 x7 x8 x9 x10 : Option PV) (M : MH) :
    ∃ s' y6 y7 y8 y9 y10, ssL (evT0 P (evC P 30 (d + 8)) 29) bdAll (rhoR ns a L s t x6 x7 x8 x9 x10) M = .nx (rhoR ns a L s' t y6 y7 y8 y9 y10) M ∧ GoodS L s' ∧ s'.asks.length ≤ t + 1 := by
  have F := good_few g (by omega)
  have cw := cp_world T.toD (d + 7) s (by omega) (by have := F.r; omega) (by have := F.e; omega) (by have := F.u; omega) M
  have cd := cp_deeds T.toD (d + 6) L hL s (by omega) (by have := F.r; omega) (by have := F.e; omega) (by have := F.u; omega) M
  have cn := cp_number T.toD.toPlA (d + 7) ns (a + t) M
  have dne := dList_ne L s
  have dcan := fun x (h : x ∈ dList L s) => dList_can h
  generalize dList L s = l at cd dne dcan
  generalize numV ns (a + t) = n at cn
  have lp : 0 < l.length := by
    cases l with
    | nil => exact absurd rfl dne
    | cons => simp
  obtain ⟨y, hy, -, gy⟩ := ix_get (xs := l.map ddV) (i := n) (n := (l.length : Int)) (by rw [List.length_map]) (by omega) M
  obtain ⟨x, hx, rfl⟩ := List.mem_map.mp hy
  obtain ⟨dx, cx⟩ := dcan x hx
  obtain ⟨Gx, fx, g2, z2⟩ := deed_good hL g dx cx (by omega)
  have ca := cp_after T.toD.toS d L hL s x Gx fx M
  obtain ⟨s', hs'⟩ : ∃ s', s' = tidyN (preN L s x) := ⟨_, rfl⟩
  rw [← hs'] at ca g2 z2
  have F2 := good_few g2 (by omega)
  obtain ⟨b, bs1, bs2, b3⟩ := both T d L hL (stV s') (st_dat s') (by omega) (few_small F2) M
  rw [b3.mpr ⟨s', rfl, g2⟩] at bs1 bs2
  obtain ⟨y7, y9, e4⟩ := turn4 T d ns a L hL s' g2 (by omega) t (some (.lst (l.map ddV))) x7 x8 x9 x10 M
  obtain ⟨y8, y10, e5⟩ := turn5 T d ns a L hL s' F2 t (some (.lst (l.map ddV))) y7 x8 y9 x10 M
  refine ⟨s', some (.lst (l.map ddV)), y7, y8, y9, y10, ?_, g2, by omega⟩
  have e1 : stepS (evT0 P (evC P 30 (d + 8)) 28) bd1 (rhoR ns a L s t x6 x7 x8 x9 x10) M = .nx (rhoR ns a L s t (some (.lst (l.map ddV))) x7 x8 x9 x10) M := by
    simp [-List.map_map, stepE_callT, T.toD.k52, T.toD.k49, cw, cd]
  have bl : bltF .len false [.lst (l.map ddV)] M = .val (.int l.length) M := by rw [bLen_lst, List.length_map]
  have f0 := bin_mod false n l.length M (by omega)
  have e2 : stepS (evT0 P (evC P 30 (d + 8)) 28) bd2 (rhoR ns a L s t (some (.lst (l.map ddV))) x7 x8 x9 x10) M = .nx (rhoR ns a L s' t (some (.lst (l.map ddV))) x7 x8 x9 x10) M := by
    simp [-List.map_map, -bLen_lst, stepE_callT, T.toD.toS.k42, T.toD.k46, natV, cn, bl, f0, gy, ca]
  have e3 : stepS (evT0 P (evC P 30 (d + 8)) 28) bd3 (rhoR ns a L s' t (some (.lst (l.map ddV))) x7 x8 x9 x10) M = .nx (rhoR ns a L s' t (some (.lst (l.map ddV))) x7 x8 x9 x10) M := by
    simp [-List.map_map, stepE_callT, T.toD.toS.k24, T.k64, bs1, bs2]
  rw [ssL_cons, ev_s, e1, seq_nx, ssL_cons, ev_s, e2, seq_nx, ssL_cons, ev_s, e3, seq_nx, ssL_cons, ev_s, e4, seq_nx, ssL_cons, ev_s, e5, seq_nx, ssL_nil]
theorem ev_right (d : Nat) (ns : List Int) (a : Int) (L : Ln) (hL : L.Ok) (M : MH) : evC P 30 (d + 9) 63 [.scr ns, .int a, plV L] M = .val (.bl true) M := by
  rw [evC_succ P 30 (d + 8) 63 _ M T.f63 rfl]
  have cl := cp_line T.toD.toPlC (d + 4) L hL M
  have cf := cp_lfirst T.toD (d + 7) M
  have c1 := cp_first_state T.toD.toS.toPkT (d + 6) L M
  have s1 : stepS (evT0 P (evC P 30 (d + 8)) 29) (.par [3, 4] [(.call 48 true [(.var 2)]), (.call 50 true [])]) [some (.scr ns), some (.int a), some (plV L), none, none, none, none, none, none, none, none, none] M = .nx [some (.scr ns), some (.int a), some (plV L), some (lnV L), some (stV firstS), none, none, none, none, none, none, none] M := by
    simp [setAll, stepE_callT, T.toD.k48, T.toD.k50, cl, cf]
  have s2 : stepS (evT0 P (evC P 30 (d + 8)) 29) (.ifs (.cmp .ne (.call 23 true [(.var 3)]) (.var 4)) [.ret (.lit (.bl false))] []) [some (.scr ns), some (.int a), some (plV L), some (lnV L), some (stV firstS), none, none, none, none, none, none, none] M = .nx [some (.scr ns), some (.int a), some (plV L), some (lnV L), some (stV firstS), none, none, none, none, none, none, none] M := by
    have ef := eq_first M
    generalize stV firstS = fs at c1 ef
    simp [stepE_callT, T.toD.toS.k23, c1, ef]
  obtain ⟨ρ, M', h1, h2, s, g, hz, x5, x6, x7, x8, x9, x10, h3⟩ := forL_all (s := .rng 0 14) (inj := natV) (E := evT0 P (evC P 30 (d + 8)) 29) (t := .nm 5) (body := ssL (evT0 P (evC P 30 (d + 8)) 29) bdAll) (L := List.range 14)
    (st := fun pre ρ M' => M' = M ∧ ∃ s, GoodS L s ∧ s.asks.length ≤ pre.length ∧ ∃ x5 x6 x7 x8 x9 x10, ρ = [some (.scr ns), some (.int a), some (plV L), some (lnV L), some (stV s), x5, x6, x7, x8, x9, x10, none])
    (ρ := [some (.scr ns), some (.int a), some (plV L), some (lnV L), some (stV firstS), none, none, none, none, none, none, none]) (M := M)
    (fun pre ρ M' h => src_rng0 14 M') (fun pre i post ρ M' hR h => by
      obtain ⟨rfl, s, g, hz, x5, x6, x7, x8, x9, x10, rfl⟩ := h
      refine ⟨_, _, rfl, ?_⟩
      have hi : i = pre.length ∧ i < 14 := by
        have h14 : (List.range 14)[pre.length]? = some i := by rw [hR]; simp
        rw [List.getElem?_range] at h14
        · injection h14 with h14
          have : i ∈ List.range 14 := by rw [hR]; simp
          exact ⟨h14.symm, List.mem_range.mp this⟩
        · have : (List.range 14).length = pre.length + (post.length + 1) := by rw [hR]; simp
          rw [List.length_range] at this
          omega
      obtain ⟨s', y6, y7, y8, y9, y10, ht, g', z'⟩ := turnAll T d ns a L hL s g i (by omega) hi.2 x6 x7 x8 x9 x10 M'
      refine ⟨_, _, .inl ht, rfl, s', g', ?_, _, _, _, _, _, _, rfl⟩
      rw [List.length_append, List.length_singleton]
      omega) ⟨rfl, firstS, first_good hL, Nat.zero_le _, _, _, _, _, _, _, rfl⟩
  subst h2 h3
  rw [List.length_range] at hz
  have F := good_few g hz
  have s3 : stepS (evT0 P (evC P 30 (d + 8)) 29) (.for_ (.nm 5) (.rng1 (.lit (.int 14))) bdAll) [some (.scr ns), some (.int a), some (plV L), some (lnV L), some (stV firstS), none, none, none, none, none, none, none] M' = .nx [some (.scr ns), some (.int a), some (plV L), some (lnV L), some (stV s), x5, x6, x7, x8, x9, x10, none] M' := by
    have ei : evIt (evT0 P (evC P 30 (d + 8)) 29) (.rng1 (.lit (.int 14))) [some (.scr ns), some (.int a), some (plV L), some (lnV L), some (stV firstS), none, none, none, none, none, none, none] M' = .val (.rng 0 14) M' := by
      rw [evIt_rng1, evArgs_cons, ev_e, stepE_lit, bind_val, evArgs_nil, bind_val, bind_val]
      exact rngK_nat 14 (by decide) M'
    rw [stepS_for, ei, outS_val, h1]
  clear h1
  have turn : ∀ v, v ∈ oddL s → ssL (evT0 P (evC P 30 (d + 8)) 29) [.ifs (.call 24 true [(.var 3), (.var 10)]) [.ret (.lit (.bl false))] []] [some (.scr ns), some (.int a), some (plV L), some (lnV L), some (stV s), x5, x6, x7, x8, x9, some v, none] M' = .nx [some (.scr ns), some (.int a), some (plV L), some (lnV L), some (stV s), x5, x6, x7, x8, x9, some v, none] M' := by
    intro v hv
    obtain ⟨dv, sv, nv⟩ := odd_ok (L := L) hv
    obtain ⟨b, e1, -, e2⟩ := both T d L hL v dv (by omega) sv M'
    have eb : b = false := by
      cases b with
      | true => exact absurd (e2.mp rfl) nv
      | false => rfl
    rw [eb] at e1
    simp [stepE_callT, T.toD.toS.k24, e1]
  obtain ⟨ρ, M'', h1, h2, x10', h3⟩ := forL_all (s := .sq true (.tup (oddL s))) (inj := id) (E := evT0 P (evC P 30 (d + 8)) 29) (t := .nm 10) (body := ssL (evT0 P (evC P 30 (d + 8)) 29) [.ifs (.call 24 true [(.var 3), (.var 10)]) [.ret (.lit (.bl false))] []]) (L := oddL s)
    (st := fun pre ρ M'' => M'' = M' ∧ ∃ x10, ρ = [some (.scr ns), some (.int a), some (plV L), some (lnV L), some (stV s), x5, x6, x7, x8, x9, x10, none])
    (ρ := [some (.scr ns), some (.int a), some (plV L), some (lnV L), some (stV s), x5, x6, x7, x8, x9, x10, none]) (M := M')
    (fun pre ρ M'' h => src_seq (by simp [readK])) (fun pre v post ρ M'' hR h => by
      obtain ⟨rfl, x10, rfl⟩ := h
      refine ⟨_, _, rfl, ?_⟩
      exact ⟨_, _, .inl (turn v (by rw [hR]; simp)), rfl, _, rfl⟩) ⟨rfl, _, rfl⟩
  subst h2 h3
  have s4 : stepS (evT0 P (evC P 30 (d + 8)) 29) (.for_ (.nm 10) (.seq (.tup [(false, (.lit .non)), (false, (.lit (.int 5))), (false, (.tup [])), (false, (.slc (.var 4) none (some (.lit (.int 5))))), (false, (.blt .list false [(.var 4)])), (false, (.lit (.str (PySem.Str.ofString "state")))), (false, (.bin .add false (.var 4) (.tup [(false, (.lit .non))])))])) [.ifs (.call 24 true [(.var 3), (.var 10)]) [.ret (.lit (.bl false))] []]) [some (.scr ns), some (.int a), some (plV L), some (lnV L), some (stV s), x5, x6, x7, x8, x9, x10, none] M''
      = .nx [some (.scr ns), some (.int a), some (plV L), some (lnV L), some (stV s), x5, x6, x7, x8, x9, x10', none] M'' := by
    have es : stV s = .tup (stL s) := rfl
    have c5 : cutL (stL s) none (some 5) = (stL s).take 5 := cutL_to (stL s) 5
    have nl := newL_f (xs := stL s) (M := M'') (by show 6 ≤ 1000000; decide)
    have ad := bin_add_t false (stL s) [.non] M'' (by show 6 + 1 ≤ 1000000; decide)
    have ei : evIt (evT0 P (evC P 30 (d + 8)) 29) (.seq (.tup [(false, (.lit .non)), (false, (.lit (.int 5))), (false, (.tup [])), (false, (.slc (.var 4) none (some (.lit (.int 5))))), (false, (.blt .list false [(.var 4)])), (false, (.lit (.str (PySem.Str.ofString "state")))), (false, (.bin .add false (.var 4) (.tup [(false, (.lit .non))])))])) [some (.scr ns), some (.int a), some (plV L), some (lnV L), some (stV s), x5, x6, x7, x8, x9, x10, none] M'' = .val (.sq true (.tup (oddL s))) M'' := by
      rw [es]
      generalize hst : stL s = st at c5 nl ad
      simp [kindS_tup, c5, bList_tup, nl, ad, oddL, hst]
    rw [stepS_for, ei, outS_val, h1]
  have b0 : m__law_right.body = [.par [3, 4] [(.call 48 true [(.var 2)]), (.call 50 true [])], .ifs (.cmp .ne (.call 23 true [(.var 3)]) (.var 4)) [.ret (.lit (.bl false))] [], .for_ (.nm 5) (.rng1 (.lit (.int 14))) bdAll, .for_ (.nm 10) (.seq (.tup [(false, (.lit .non)), (false, (.lit (.int 5))), (false, (.tup [])), (false, (.slc (.var 4) none (some (.lit (.int 5))))), (false, (.blt .list false [(.var 4)])), (false, (.lit (.str (PySem.Str.ofString "state")))), (false, (.bin .add false (.var 4) (.tup [(false, (.lit .non))])))])) [.ifs (.call 24 true [(.var 3), (.var 10)]) [.ret (.lit (.bl false))] []], .ret (.lit (.bl true))] := rfl
  change (ssL (evT0 P (evC P 30 (d + 8)) 30) m__law_right.body [some (.scr ns), some (.int a), some (plV L), none, none, none, none, none, none, none, none, none] M'').fin = _
  rw [b0, ssL_cons, ev_s, s1, seq_nx, ssL_cons, ev_s, s2, seq_nx, ssL_cons, ev_s, s3, seq_nx, ssL_cons, ev_s, s4, seq_nx, ssL_cons, ev_s, stepS_ret, ev_e, stepE_lit, outS_val, seq_rt, fin_rt]
theorem cp_right (d : Nat) (ns : List Int) (a : Int) (L : Ln) (hL : L.Ok) (M : MH) : callP (evC P 30 (d + 9)) 63 [.scr ns, .int a, plV L] M = .val (.bl true) M :=
  callP_ok (by simp only [List.all_cons, List.all_nil, pure_scr, pure_int, pl_pure L 47, Bool.and_self]) (ev_right T d ns a L hL []) rfl
def szL : List (Int × Int × Int) := [(1, 1, 1), (1, 2, 1), (2, 1, 1), (2, 2, 1), (1, 2, 2), (2, 2, 2), (2, 1, 2)]
theorem ev_law (d : Nat) (ns : List Int) (M : MH) : evC P 30 (d + 10) 62 [.scr ns] M = .val (.bl true) M := by
  rw [evC_succ P 30 (d + 9) 62 _ M T.f62 rfl]
  have turn : ∀ t : Int, ∀ M, ssL (evT0 P (evC P 30 (d + 9)) 29) [.ifs (.not (.call 63 true [(.var 0), (.bin .add false (.var 2) (.lit (.int 10))), (.call 47 true [(.blt .int false [(.call 46 true [(.var 0), (.var 2)])]), (.var 1)])])) [.ret (.lit (.bl false))] []] [some (.scr ns), some (.lst (szL.map szV)), some (.int t)] M = .nx [some (.scr ns), some (.lst (szL.map szV)), some (.int t)] M := by
    intro t M
    have e1 := cp_number T.toD.toPlA (d + 8) ns t M
    have e2 := cp_plain T.toD.toPlB (d + 8) (numV ns t) szL (by decide) (by decide) M
    have ok : (linN (numV ns t) (pickZ szL (numV ns t))).Ok := pick_ok T.toD.toPlB (by decide) _ _
    have e3 := cp_right T d ns (t + 10) _ ok M
    generalize szL.map szV = sv at e2 ⊢
    simp [stepE_callT, T.k63, T.toD.k47, T.toD.k46, e1, e2, e3]
  obtain ⟨ρ, M', h1, h2, x2, h3⟩ := forL_all (s := .sq true (.tup ([0, 1000, 2000].map PV.int))) (inj := PV.int) (E := evT0 P (evC P 30 (d + 9)) 29) (t := .nm 2) (body := ssL (evT0 P (evC P 30 (d + 9)) 29) [.ifs (.not (.call 63 true [(.var 0), (.bin .add false (.var 2) (.lit (.int 10))), (.call 47 true [(.blt .int false [(.call 46 true [(.var 0), (.var 2)])]), (.var 1)])])) [.ret (.lit (.bl false))] []]) (L := [0, 1000, 2000])
    (st := fun pre ρ M' => M' = M ∧ ∃ x2, ρ = [some (.scr ns), some (.lst (szL.map szV)), x2])
    (ρ := [some (.scr ns), some (.lst (szL.map szV)), none]) (M := M)
    (fun pre ρ M' h => src_tup _ _ M') (fun pre t post ρ M' hR h => by
      obtain ⟨rfl, x2, rfl⟩ := h
      refine ⟨_, _, rfl, ?_⟩
      exact ⟨_, _, .inl (turn t _), rfl, _, rfl⟩) ⟨rfl, _, rfl⟩
  subst h2 h3
  have s1 : stepS (evT0 P (evC P 30 (d + 9)) 29) (.asg (.nm 1) (.lst false [(false, (.tup [(false, (.lit (.int 1))), (false, (.lit (.int 1))), (false, (.lit (.int 1)))])), (false, (.tup [(false, (.lit (.int 1))), (false, (.lit (.int 2))), (false, (.lit (.int 1)))])), (false, (.tup [(false, (.lit (.int 2))), (false, (.lit (.int 1))), (false, (.lit (.int 1)))])), (false, (.tup [(false, (.lit (.int 2))), (false, (.lit (.int 2))), (false, (.lit (.int 1)))])), (false, (.tup [(false, (.lit (.int 1))), (false, (.lit (.int 2))), (false, (.lit (.int 2)))])), (false, (.tup [(false, (.lit (.int 2))), (false, (.lit (.int 2))), (false, (.lit (.int 2)))])), (false, (.tup [(false, (.lit (.int 2))), (false, (.lit (.int 1))), (false, (.lit (.int 2)))]))])) [some (.scr ns), none, none] M' = .nx [some (.scr ns), some (.lst (szL.map szV)), none] M' := by
    simp [newL, szL, szV]
  have s2 : stepS (evT0 P (evC P 30 (d + 9)) 29) (.for_ (.nm 2) (.seq (.tup [(false, (.lit (.int 0))), (false, (.lit (.int 1000))), (false, (.lit (.int 2000)))])) [.ifs (.not (.call 63 true [(.var 0), (.bin .add false (.var 2) (.lit (.int 10))), (.call 47 true [(.blt .int false [(.call 46 true [(.var 0), (.var 2)])]), (.var 1)])])) [.ret (.lit (.bl false))] []]) [some (.scr ns), some (.lst (szL.map szV)), none] M' = .nx [some (.scr ns), some (.lst (szL.map szV)), x2] M' := by
    have ei : ∀ ρ, evIt (evT0 P (evC P 30 (d + 9)) 29) (.seq (.tup [(false, (.lit (.int 0))), (false, (.lit (.int 1000))), (false, (.lit (.int 2000)))])) ρ M' = .val (.sq true (.tup ([0, 1000, 2000].map PV.int))) M' := by
      intro ρ
      simp [kindS_tup]
    rw [stepS_for, ei, outS_val, h1]
  change (ssL (evT0 P (evC P 30 (d + 9)) 30) m_law.body [some (.scr ns), none, none] M').fin = _
  unfold m_law
  rw [ssL_cons, ev_s, s1, seq_nx, ssL_cons, ev_s, s2, seq_nx, ssL_cons, ev_s, stepS_ret, ev_e, stepE_lit, outS_val, seq_rt, fin_rt]
end
end Mp.K02
end

section
set_option Elab.async false
set_option linter.all false
set_option maxRecDepth 1000000
set_option maxHeartbeats 0
/-! Hk02: the head of k02. -/
namespace Mp.K02
open PySem PySem.Spec PyProof.Rows L2 Mp
def tN : Nms := ⟨tP, tFnm, tCnm, tKnm, tFld⟩
abbrev prog : Program := PySem.Challenge.pw_askedahead_k02_whole_states
def top (i : Nat) : Stmt := prog.main.body.getD i (.Pass ⟨0, 0, 0, 0⟩)
def clsBody : Stmt → List Stmt
  | .ClassDef _ _ _ b _ _ _ _ _ _ _ => b
  | _ => []
abbrev s_is_number : Stmt := top 11
abbrev s_is_word : Stmt := top 12
abbrev s_are_marks : Stmt := top 13
abbrev s_check_line : Stmt := top 15
abbrev s_check_asker : Stmt := top 16
abbrev s_is_ask : Stmt := top 21
abbrev s_is_row : Stmt := top 22
abbrev s_are_answers : Stmt := top 23
abbrev s_open_asks : Stmt := top 24
abbrev s_open_of : Stmt := top 25
abbrev s_left_in : Stmt := top 26
abbrev s_are_parts : Stmt := top 27
abbrev s_is_state_of : Stmt := top 28
abbrev s_check_state : Stmt := top 29
abbrev s_tidied : Stmt := top 30
abbrev s_first_state : Stmt := top 31
abbrev s_is_state : Stmt := top 32
abbrev s_done_counts : Stmt := top 33
abbrev s_is_deed : Stmt := top 37
abbrev s_can_do : Stmt := top 38
abbrev s_with_word : Stmt := top 39
abbrev s_taken_up : Stmt := top 40
abbrev s_awaiting : Stmt := top 41
abbrev s_read : Stmt := top 42
abbrev s_lost_by : Stmt := top 43
abbrev s_cut : Stmt := top 44
abbrev s_outcome : Stmt := top 45
abbrev s_check_deed : Stmt := top 46
abbrev s_after : Stmt := top 47
abbrev s__law_number : Stmt := top 49
abbrev s__law_plain : Stmt := top 50
abbrev s__law_line : Stmt := top 51
abbrev s__law_world : Stmt := top 52
abbrev s__law_first : Stmt := top 53
abbrev s__law_open : Stmt := top 54
abbrev s__law_deeds : Stmt := top 55
abbrev s_law : Stmt := top 64
abbrev s__law_right : Stmt := top 63
abbrev s__law_is_state : Stmt := top 61
abbrev s__law_bent : Stmt := top 62
abbrev s__law_is_ask : Stmt := top 58
abbrev s__law_are_parts : Stmt := top 60
abbrev s__law_is_number : Stmt := top 56
abbrev s__law_is_row : Stmt := top 57
abbrev s__law_are_answers : Stmt := top 59
abbrev s_Line__init : Stmt := (clsBody (top 14)).getD 1 (.Pass ⟨0, 0, 0, 0⟩)
def d_is_number : He.DefD := ⟨((PySem.Str.ofString "is_number"), none), (PySem.Str.ofString "is_number"), (PySem.Str.ofString "is_number"), defArgs s_is_number, defBody s_is_number, defScope s_is_number, [], []⟩
def d_is_word : He.DefD := ⟨((PySem.Str.ofString "is_word"), none), (PySem.Str.ofString "is_word"), (PySem.Str.ofString "is_word"), defArgs s_is_word, defBody s_is_word, defScope s_is_word, [], []⟩
def d_are_marks : He.DefD := ⟨((PySem.Str.ofString "are_marks"), none), (PySem.Str.ofString "are_marks"), (PySem.Str.ofString "are_marks"), defArgs s_are_marks, defBody s_are_marks, defScope s_are_marks, [], []⟩
def d_check_line : He.DefD := ⟨((PySem.Str.ofString "check_line"), none), (PySem.Str.ofString "check_line"), (PySem.Str.ofString "check_line"), defArgs s_check_line, defBody s_check_line, defScope s_check_line, [], []⟩
def d_check_asker : He.DefD := ⟨((PySem.Str.ofString "check_asker"), none), (PySem.Str.ofString "check_asker"), (PySem.Str.ofString "check_asker"), defArgs s_check_asker, defBody s_check_asker, defScope s_check_asker, [], []⟩
def d_is_ask : He.DefD := ⟨((PySem.Str.ofString "is_ask"), none), (PySem.Str.ofString "is_ask"), (PySem.Str.ofString "is_ask"), defArgs s_is_ask, defBody s_is_ask, defScope s_is_ask, [], []⟩
def d_is_row : He.DefD := ⟨((PySem.Str.ofString "is_row"), none), (PySem.Str.ofString "is_row"), (PySem.Str.ofString "is_row"), defArgs s_is_row, defBody s_is_row, defScope s_is_row, [], []⟩
def d_are_answers : He.DefD := ⟨((PySem.Str.ofString "are_answers"), none), (PySem.Str.ofString "are_answers"), (PySem.Str.ofString "are_answers"), defArgs s_are_answers, defBody s_are_answers, defScope s_are_answers, [], []⟩
def d_open_asks : He.DefD := ⟨((PySem.Str.ofString "open_asks"), none), (PySem.Str.ofString "open_asks"), (PySem.Str.ofString "open_asks"), defArgs s_open_asks, defBody s_open_asks, defScope s_open_asks, [], []⟩
def d_open_of : He.DefD := ⟨((PySem.Str.ofString "open_of"), none), (PySem.Str.ofString "open_of"), (PySem.Str.ofString "open_of"), defArgs s_open_of, defBody s_open_of, defScope s_open_of, [], []⟩
def d_left_in : He.DefD := ⟨((PySem.Str.ofString "left_in"), none), (PySem.Str.ofString "left_in"), (PySem.Str.ofString "left_in"), defArgs s_left_in, defBody s_left_in, defScope s_left_in, [], []⟩
def d_are_parts : He.DefD := ⟨((PySem.Str.ofString "are_parts"), none), (PySem.Str.ofString "are_parts"), (PySem.Str.ofString "are_parts"), defArgs s_are_parts, defBody s_are_parts, defScope s_are_parts, [], []⟩
def d_is_state_of : He.DefD := ⟨((PySem.Str.ofString "is_state_of"), none), (PySem.Str.ofString "is_state_of"), (PySem.Str.ofString "is_state_of"), defArgs s_is_state_of, defBody s_is_state_of, defScope s_is_state_of, [], []⟩
def d_check_state : He.DefD := ⟨((PySem.Str.ofString "check_state"), none), (PySem.Str.ofString "check_state"), (PySem.Str.ofString "check_state"), defArgs s_check_state, defBody s_check_state, defScope s_check_state, [], []⟩
def d_tidied : He.DefD := ⟨((PySem.Str.ofString "tidied"), none), (PySem.Str.ofString "tidied"), (PySem.Str.ofString "tidied"), defArgs s_tidied, defBody s_tidied, defScope s_tidied, [], []⟩
def d_first_state : He.DefD := ⟨((PySem.Str.ofString "first_state"), none), (PySem.Str.ofString "first_state"), (PySem.Str.ofString "first_state"), defArgs s_first_state, defBody s_first_state, defScope s_first_state, [], []⟩
def d_is_state : He.DefD := ⟨((PySem.Str.ofString "is_state"), none), (PySem.Str.ofString "is_state"), (PySem.Str.ofString "is_state"), defArgs s_is_state, defBody s_is_state, defScope s_is_state, [], []⟩
def d_done_counts : He.DefD := ⟨((PySem.Str.ofString "done_counts"), none), (PySem.Str.ofString "done_counts"), (PySem.Str.ofString "done_counts"), defArgs s_done_counts, defBody s_done_counts, defScope s_done_counts, [], []⟩
def d_is_deed : He.DefD := ⟨((PySem.Str.ofString "is_deed"), none), (PySem.Str.ofString "is_deed"), (PySem.Str.ofString "is_deed"), defArgs s_is_deed, defBody s_is_deed, defScope s_is_deed, [], []⟩
def d_can_do : He.DefD := ⟨((PySem.Str.ofString "can_do"), none), (PySem.Str.ofString "can_do"), (PySem.Str.ofString "can_do"), defArgs s_can_do, defBody s_can_do, defScope s_can_do, [], []⟩
def d_with_word : He.DefD := ⟨((PySem.Str.ofString "with_word"), none), (PySem.Str.ofString "with_word"), (PySem.Str.ofString "with_word"), defArgs s_with_word, defBody s_with_word, defScope s_with_word, [], []⟩
def d_taken_up : He.DefD := ⟨((PySem.Str.ofString "taken_up"), none), (PySem.Str.ofString "taken_up"), (PySem.Str.ofString "taken_up"), defArgs s_taken_up, defBody s_taken_up, defScope s_taken_up, [], []⟩
def d_awaiting : He.DefD := ⟨((PySem.Str.ofString "awaiting"), none), (PySem.Str.ofString "awaiting"), (PySem.Str.ofString "awaiting"), defArgs s_awaiting, defBody s_awaiting, defScope s_awaiting, [], []⟩
def d_read : He.DefD := ⟨((PySem.Str.ofString "read"), none), (PySem.Str.ofString "read"), (PySem.Str.ofString "read"), defArgs s_read, defBody s_read, defScope s_read, [], []⟩
def d_lost_by : He.DefD := ⟨((PySem.Str.ofString "lost_by"), none), (PySem.Str.ofString "lost_by"), (PySem.Str.ofString "lost_by"), defArgs s_lost_by, defBody s_lost_by, defScope s_lost_by, [], []⟩
def d_cut : He.DefD := ⟨((PySem.Str.ofString "cut"), none), (PySem.Str.ofString "cut"), (PySem.Str.ofString "cut"), defArgs s_cut, defBody s_cut, defScope s_cut, [], []⟩
def d_outcome : He.DefD := ⟨((PySem.Str.ofString "outcome"), none), (PySem.Str.ofString "outcome"), (PySem.Str.ofString "outcome"), defArgs s_outcome, defBody s_outcome, defScope s_outcome, [], []⟩
def d_check_deed : He.DefD := ⟨((PySem.Str.ofString "check_deed"), none), (PySem.Str.ofString "check_deed"), (PySem.Str.ofString "check_deed"), defArgs s_check_deed, defBody s_check_deed, defScope s_check_deed, [], []⟩
def d_after : He.DefD := ⟨((PySem.Str.ofString "after"), none), (PySem.Str.ofString "after"), (PySem.Str.ofString "after"), defArgs s_after, defBody s_after, defScope s_after, [], []⟩
def d__law_number : He.DefD := ⟨((PySem.Str.ofString "_law_number"), none), (PySem.Str.ofString "_law_number"), (PySem.Str.ofString "_law_number"), defArgs s__law_number, defBody s__law_number, defScope s__law_number, [], []⟩
def d__law_plain : He.DefD := ⟨((PySem.Str.ofString "_law_plain"), none), (PySem.Str.ofString "_law_plain"), (PySem.Str.ofString "_law_plain"), defArgs s__law_plain, defBody s__law_plain, defScope s__law_plain, [], []⟩
def d__law_line : He.DefD := ⟨((PySem.Str.ofString "_law_line"), none), (PySem.Str.ofString "_law_line"), (PySem.Str.ofString "_law_line"), defArgs s__law_line, defBody s__law_line, defScope s__law_line, [], []⟩
def d__law_world : He.DefD := ⟨((PySem.Str.ofString "_law_world"), none), (PySem.Str.ofString "_law_world"), (PySem.Str.ofString "_law_world"), defArgs s__law_world, defBody s__law_world, defScope s__law_world, [], []⟩
def d__law_first : He.DefD := ⟨((PySem.Str.ofString "_law_first"), none), (PySem.Str.ofString "_law_first"), (PySem.Str.ofString "_law_first"), defArgs s__law_first, defBody s__law_first, defScope s__law_first, [], []⟩
def d__law_open : He.DefD := ⟨((PySem.Str.ofString "_law_open"), none), (PySem.Str.ofString "_law_open"), (PySem.Str.ofString "_law_open"), defArgs s__law_open, defBody s__law_open, defScope s__law_open, [], []⟩
def d__law_deeds : He.DefD := ⟨((PySem.Str.ofString "_law_deeds"), none), (PySem.Str.ofString "_law_deeds"), (PySem.Str.ofString "_law_deeds"), defArgs s__law_deeds, defBody s__law_deeds, defScope s__law_deeds, [], []⟩
def d_law : He.DefD := ⟨((PySem.Str.ofString "law"), none), (PySem.Str.ofString "law"), (PySem.Str.ofString "law"), defArgs s_law, defBody s_law, defScope s_law, [], []⟩
def d__law_right : He.DefD := ⟨((PySem.Str.ofString "_law_right"), none), (PySem.Str.ofString "_law_right"), (PySem.Str.ofString "_law_right"), defArgs s__law_right, defBody s__law_right, defScope s__law_right, [], []⟩
def d__law_is_state : He.DefD := ⟨((PySem.Str.ofString "_law_is_state"), none), (PySem.Str.ofString "_law_is_state"), (PySem.Str.ofString "_law_is_state"), defArgs s__law_is_state, defBody s__law_is_state, defScope s__law_is_state, [], []⟩
def d__law_bent : He.DefD := ⟨((PySem.Str.ofString "_law_bent"), none), (PySem.Str.ofString "_law_bent"), (PySem.Str.ofString "_law_bent"), defArgs s__law_bent, defBody s__law_bent, defScope s__law_bent, [], []⟩
def d__law_is_ask : He.DefD := ⟨((PySem.Str.ofString "_law_is_ask"), none), (PySem.Str.ofString "_law_is_ask"), (PySem.Str.ofString "_law_is_ask"), defArgs s__law_is_ask, defBody s__law_is_ask, defScope s__law_is_ask, [], []⟩
def d__law_are_parts : He.DefD := ⟨((PySem.Str.ofString "_law_are_parts"), none), (PySem.Str.ofString "_law_are_parts"), (PySem.Str.ofString "_law_are_parts"), defArgs s__law_are_parts, defBody s__law_are_parts, defScope s__law_are_parts, [], []⟩
def d__law_is_number : He.DefD := ⟨((PySem.Str.ofString "_law_is_number"), none), (PySem.Str.ofString "_law_is_number"), (PySem.Str.ofString "_law_is_number"), defArgs s__law_is_number, defBody s__law_is_number, defScope s__law_is_number, [], []⟩
def d__law_is_row : He.DefD := ⟨((PySem.Str.ofString "_law_is_row"), none), (PySem.Str.ofString "_law_is_row"), (PySem.Str.ofString "_law_is_row"), defArgs s__law_is_row, defBody s__law_is_row, defScope s__law_is_row, [], []⟩
def d__law_are_answers : He.DefD := ⟨((PySem.Str.ofString "_law_are_answers"), none), (PySem.Str.ofString "_law_are_answers"), (PySem.Str.ofString "_law_are_answers"), defArgs s__law_are_answers, defBody s__law_are_answers, defScope s__law_are_answers, [], []⟩
def d_Line__init : He.DefD := ⟨((PySem.Str.ofString "Line"), some (PySem.Str.ofString "__init__")), (PySem.Str.ofString "__init__"), (PySem.Str.ofString "Line.__init__"), defArgs s_Line__init, defBody s_Line__init, defScope s_Line__init, [.str (PySem.Str.ofString "all"), .adr (He.dflAt ((PySem.Str.ofString "Line"), some (PySem.Str.ofString "__init__")) 1)], []⟩
def fn : List He.DefD := ([d_is_number, d_is_word, d_are_marks, d_check_line, d_check_asker, d_is_ask, d_is_row, d_are_answers, d_open_asks, d_open_of, d_left_in, d_are_parts, d_is_state_of, d_check_state, d_tidied, d_first_state, d_is_state, d_done_counts, d_is_deed, d_can_do, d_with_word, d_taken_up, d_awaiting, d_read, d_lost_by, d_cut, d_outcome, d_check_deed, d_after, d__law_number] : List He.DefD) ++ ([d__law_plain, d__law_line, d__law_world, d__law_first, d__law_open, d__law_deeds, d_law, d__law_right, d__law_is_state, d__law_bent, d__law_is_ask, d__law_are_parts, d__law_is_number, d__law_is_row, d__law_are_answers, d_Line__init] : List He.DefD)
def loose : List PySem.Str := ([(PySem.Str.ofString "AskError"), (PySem.Str.ofString "BadLine"), (PySem.Str.ofString "BadAsker"), (PySem.Str.ofString "BadState"), (PySem.Str.ofString "BadDeed"), (PySem.Str.ofString "NotNow"), (PySem.Str.ofString "AGAIN"), (PySem.Str.ofString "MARKS"), (PySem.Str.ofString "PARTS"), (PySem.Str.ofString "is_number"), (PySem.Str.ofString "is_word"), (PySem.Str.ofString "are_marks"), (PySem.Str.ofString "Line"), (PySem.Str.ofString "check_line"), (PySem.Str.ofString "check_asker"), (PySem.Str.ofString "WORDS"), (PySem.Str.ofString "MOST_DONE"), (PySem.Str.ofString "FIRST"), (PySem.Str.ofString "is_ask"), (PySem.Str.ofString "is_row"), (PySem.Str.ofString "are_answers"), (PySem.Str.ofString "open_asks"), (PySem.Str.ofString "open_of"), (PySem.Str.ofString "left_in"), (PySem.Str.ofString "are_parts"), (PySem.Str.ofString "is_state_of"), (PySem.Str.ofString "check_state"), (PySem.Str.ofString "tidied"), (PySem.Str.ofString "first_state"), (PySem.Str.ofString "is_state")] : List PySem.Str) ++ ([(PySem.Str.ofString "done_counts"), (PySem.Str.ofString "PLAIN"), (PySem.Str.ofString "WISHES"), (PySem.Str.ofString "is_deed"), (PySem.Str.ofString "can_do"), (PySem.Str.ofString "with_word"), (PySem.Str.ofString "taken_up"), (PySem.Str.ofString "awaiting"), (PySem.Str.ofString "read"), (PySem.Str.ofString "lost_by"), (PySem.Str.ofString "cut"), (PySem.Str.ofString "outcome"), (PySem.Str.ofString "check_deed"), (PySem.Str.ofString "after"), (PySem.Str.ofString "_law_number"), (PySem.Str.ofString "_law_plain"), (PySem.Str.ofString "_law_line"), (PySem.Str.ofString "_law_world"), (PySem.Str.ofString "_law_first"), (PySem.Str.ofString "_law_open"), (PySem.Str.ofString "_law_deeds"), (PySem.Str.ofString "_law_is_number"), (PySem.Str.ofString "_law_is_row"), (PySem.Str.ofString "_law_is_ask"), (PySem.Str.ofString "_law_are_answers"), (PySem.Str.ofString "_law_are_parts"), (PySem.Str.ofString "_law_is_state"), (PySem.Str.ofString "_law_bent"), (PySem.Str.ofString "_law_right")] : List PySem.Str)
def fa : List He.Fa := [.glo (PySem.Str.ofString "law")]
abbrev R : PySem.W.OpenRow := PySem.W.OpenLaw.row PySem.Challenge.rw_askedahead_k02_whole_states
def dflL : List ((PySem.Str × Option PySem.Str) × Nat × PV) := [((PySem.Str.ofString "Line", some (PySem.Str.ofString "__init__")), 1, .tup [])]
def exX (K : PySem.W.Frag) : Bool := exB tN K && dflL.all fun p => conRel K 8 p.2.2 (.ref (He.dflAt p.1 p.2.1 K))
abbrev hk : PySem.W.Hook := He.hookX 6 fa fn [] [] exX
def ob (s : PySem.W.SharedT) : He.AlX := He.obsX 6 fa fn [] [] exX (HandSHeadRun.getT s)
theorem ob_eq (s : PySem.W.SharedT) : ob s = hk.obs s.abs := He.obsX_eq (HandSHeadRun.getT_eq s)
theorem head_run (w : World) : HandSHeadRun.RunEq R (PySem.W.view R.prog [64]) hk ob 4000 loose w := by
  intro os
  kernel_rfl
end Mp.K02
end

section
set_option Elab.async false
set_option linter.all false
set_option maxRecDepth 1000000
set_option maxHeartbeats 4000000
/-! Ek02: the end of k02. -/
namespace Mp.K02
open PySem PySem.Spec PyProof.Rows L2 Mp
section
variable {K : PySem.W.Frag}
def t_is_number : DT := ⟨d_is_number, m_is_number, N_is_number, [(PySem.Str.ofString "thing"), (PySem.Str.ofString "low"), (PySem.Str.ofString "high")]⟩
theorem ck_is_number : dtB tN 30 t_is_number = true := by decide +kernel
theorem ok_is_number (c : He.SaysD fa fn K) : ∃ fd ps, DefOk (sdOf tN K) K 30 m_is_number (He.ga K (PySem.Str.ofString "is_number")) fd ps ∧ PySem.W.keepIn K (.ref (He.ga K (PySem.Str.ofString "is_number"))) = true ∧ ∀ m, m ≤ m_is_number.np → m_is_number.np ≤ m + m_is_number.dfl.length → BindAt (sdOf tN K) K fd ps m_is_number m :=
  dt_ok (t := t_is_number) c (List.mem_of_getElem? (i := 0) rfl) ck_is_number rfl rfl fun _ _ _ _ _ _ us hl => match us, hl with | [_, _, _], _ => rfl
def t_is_word : DT := ⟨d_is_word, m_is_word, N_is_word, [(PySem.Str.ofString "thing"), (PySem.Str.ofString "words")]⟩
theorem ck_is_word : dtB tN 30 t_is_word = true := by decide +kernel
theorem ok_is_word (c : He.SaysD fa fn K) : ∃ fd ps, DefOk (sdOf tN K) K 30 m_is_word (He.ga K (PySem.Str.ofString "is_word")) fd ps ∧ PySem.W.keepIn K (.ref (He.ga K (PySem.Str.ofString "is_word"))) = true ∧ ∀ m, m ≤ m_is_word.np → m_is_word.np ≤ m + m_is_word.dfl.length → BindAt (sdOf tN K) K fd ps m_is_word m :=
  dt_ok (t := t_is_word) c (List.mem_of_getElem? (i := 1) rfl) ck_is_word rfl rfl fun _ _ _ _ _ _ us hl => match us, hl with | [_, _], _ => rfl
def t_are_marks : DT := ⟨d_are_marks, m_are_marks, N_are_marks, [(PySem.Str.ofString "thing")]⟩
theorem ck_are_marks : dtB tN 30 t_are_marks = true := by decide +kernel
theorem ok_are_marks (c : He.SaysD fa fn K) : ∃ fd ps, DefOk (sdOf tN K) K 30 m_are_marks (He.ga K (PySem.Str.ofString "are_marks")) fd ps ∧ PySem.W.keepIn K (.ref (He.ga K (PySem.Str.ofString "are_marks"))) = true ∧ ∀ m, m ≤ m_are_marks.np → m_are_marks.np ≤ m + m_are_marks.dfl.length → BindAt (sdOf tN K) K fd ps m_are_marks m :=
  dt_ok (t := t_are_marks) c (List.mem_of_getElem? (i := 2) rfl) ck_are_marks rfl rfl fun _ _ _ _ _ _ us hl => match us, hl with | [_], _ => rfl
def t_check_line : DT := ⟨d_check_line, m_check_line, N_check_line, [(PySem.Str.ofString "line")]⟩
theorem ck_check_line : dtB tN 30 t_check_line = true := by decide +kernel
theorem ok_check_line (c : He.SaysD fa fn K) : ∃ fd ps, DefOk (sdOf tN K) K 30 m_check_line (He.ga K (PySem.Str.ofString "check_line")) fd ps ∧ PySem.W.keepIn K (.ref (He.ga K (PySem.Str.ofString "check_line"))) = true ∧ ∀ m, m ≤ m_check_line.np → m_check_line.np ≤ m + m_check_line.dfl.length → BindAt (sdOf tN K) K fd ps m_check_line m :=
  dt_ok (t := t_check_line) c (List.mem_of_getElem? (i := 3) rfl) ck_check_line rfl rfl fun _ _ _ _ _ _ us hl => match us, hl with | [_], _ => rfl
def t_check_asker : DT := ⟨d_check_asker, m_check_asker, N_check_asker, [(PySem.Str.ofString "line"), (PySem.Str.ofString "asker")]⟩
theorem ck_check_asker : dtB tN 30 t_check_asker = true := by decide +kernel
theorem ok_check_asker (c : He.SaysD fa fn K) : ∃ fd ps, DefOk (sdOf tN K) K 30 m_check_asker (He.ga K (PySem.Str.ofString "check_asker")) fd ps ∧ PySem.W.keepIn K (.ref (He.ga K (PySem.Str.ofString "check_asker"))) = true ∧ ∀ m, m ≤ m_check_asker.np → m_check_asker.np ≤ m + m_check_asker.dfl.length → BindAt (sdOf tN K) K fd ps m_check_asker m :=
  dt_ok (t := t_check_asker) c (List.mem_of_getElem? (i := 4) rfl) ck_check_asker rfl rfl fun _ _ _ _ _ _ us hl => match us, hl with | [_, _], _ => rfl
def t_is_ask : DT := ⟨d_is_ask, m_is_ask, N_is_ask, [(PySem.Str.ofString "line"), (PySem.Str.ofString "thing")]⟩
theorem ck_is_ask : dtB tN 30 t_is_ask = true := by decide +kernel
theorem ok_is_ask (c : He.SaysD fa fn K) : ∃ fd ps, DefOk (sdOf tN K) K 30 m_is_ask (He.ga K (PySem.Str.ofString "is_ask")) fd ps ∧ PySem.W.keepIn K (.ref (He.ga K (PySem.Str.ofString "is_ask"))) = true ∧ ∀ m, m ≤ m_is_ask.np → m_is_ask.np ≤ m + m_is_ask.dfl.length → BindAt (sdOf tN K) K fd ps m_is_ask m :=
  dt_ok (t := t_is_ask) c (List.mem_of_getElem? (i := 5) rfl) ck_is_ask rfl rfl fun _ _ _ _ _ _ us hl => match us, hl with | [_, _], _ => rfl
def t_is_row : DT := ⟨d_is_row, m_is_row, N_is_row, [(PySem.Str.ofString "thing"), (PySem.Str.ofString "many")]⟩
theorem ck_is_row : dtB tN 30 t_is_row = true := by decide +kernel
theorem ok_is_row (c : He.SaysD fa fn K) : ∃ fd ps, DefOk (sdOf tN K) K 30 m_is_row (He.ga K (PySem.Str.ofString "is_row")) fd ps ∧ PySem.W.keepIn K (.ref (He.ga K (PySem.Str.ofString "is_row"))) = true ∧ ∀ m, m ≤ m_is_row.np → m_is_row.np ≤ m + m_is_row.dfl.length → BindAt (sdOf tN K) K fd ps m_is_row m :=
  dt_ok (t := t_is_row) c (List.mem_of_getElem? (i := 6) rfl) ck_is_row rfl rfl fun _ _ _ _ _ _ us hl => match us, hl with | [_, _], _ => rfl
def t_are_answers : DT := ⟨d_are_answers, m_are_answers, N_are_answers, [(PySem.Str.ofString "line"), (PySem.Str.ofString "thing"), (PySem.Str.ofString "many")]⟩
theorem ck_are_answers : dtB tN 30 t_are_answers = true := by decide +kernel
theorem ok_are_answers (c : He.SaysD fa fn K) : ∃ fd ps, DefOk (sdOf tN K) K 30 m_are_answers (He.ga K (PySem.Str.ofString "are_answers")) fd ps ∧ PySem.W.keepIn K (.ref (He.ga K (PySem.Str.ofString "are_answers"))) = true ∧ ∀ m, m ≤ m_are_answers.np → m_are_answers.np ≤ m + m_are_answers.dfl.length → BindAt (sdOf tN K) K fd ps m_are_answers m :=
  dt_ok (t := t_are_answers) c (List.mem_of_getElem? (i := 7) rfl) ck_are_answers rfl rfl fun _ _ _ _ _ _ us hl => match us, hl with | [_, _, _], _ => rfl
def t_open_asks : DT := ⟨d_open_asks, m_open_asks, N_open_asks, [(PySem.Str.ofString "asks")]⟩
theorem ck_open_asks : dtB tN 30 t_open_asks = true := by decide +kernel
theorem ok_open_asks (c : He.SaysD fa fn K) : ∃ fd ps, DefOk (sdOf tN K) K 30 m_open_asks (He.ga K (PySem.Str.ofString "open_asks")) fd ps ∧ PySem.W.keepIn K (.ref (He.ga K (PySem.Str.ofString "open_asks"))) = true ∧ ∀ m, m ≤ m_open_asks.np → m_open_asks.np ≤ m + m_open_asks.dfl.length → BindAt (sdOf tN K) K fd ps m_open_asks m :=
  dt_ok (t := t_open_asks) c (List.mem_of_getElem? (i := 8) rfl) ck_open_asks rfl rfl fun _ _ _ _ _ _ us hl => match us, hl with | [_], _ => rfl
def t_open_of : DT := ⟨d_open_of, m_open_of, N_open_of, [(PySem.Str.ofString "asks"), (PySem.Str.ofString "asker")]⟩
theorem ck_open_of : dtB tN 30 t_open_of = true := by decide +kernel
theorem ok_open_of (c : He.SaysD fa fn K) : ∃ fd ps, DefOk (sdOf tN K) K 30 m_open_of (He.ga K (PySem.Str.ofString "open_of")) fd ps ∧ PySem.W.keepIn K (.ref (He.ga K (PySem.Str.ofString "open_of"))) = true ∧ ∀ m, m ≤ m_open_of.np → m_open_of.np ≤ m + m_open_of.dfl.length → BindAt (sdOf tN K) K fd ps m_open_of m :=
  dt_ok (t := t_open_of) c (List.mem_of_getElem? (i := 9) rfl) ck_open_of rfl rfl fun _ _ _ _ _ _ us hl => match us, hl with | [_, _], _ => rfl
def t_left_in : DT := ⟨d_left_in, m_left_in, N_left_in, [(PySem.Str.ofString "state")]⟩
theorem ck_left_in : dtB tN 30 t_left_in = true := by decide +kernel
theorem ok_left_in (c : He.SaysD fa fn K) : ∃ fd ps, DefOk (sdOf tN K) K 30 m_left_in (He.ga K (PySem.Str.ofString "left_in")) fd ps ∧ PySem.W.keepIn K (.ref (He.ga K (PySem.Str.ofString "left_in"))) = true ∧ ∀ m, m ≤ m_left_in.np → m_left_in.np ≤ m + m_left_in.dfl.length → BindAt (sdOf tN K) K fd ps m_left_in m :=
  dt_ok (t := t_left_in) c (List.mem_of_getElem? (i := 10) rfl) ck_left_in rfl rfl fun _ _ _ _ _ _ us hl => match us, hl with | [_], _ => rfl
def t_are_parts : DT := ⟨d_are_parts, m_are_parts, N_are_parts, [(PySem.Str.ofString "line"), (PySem.Str.ofString "asks"), (PySem.Str.ofString "thing")]⟩
theorem ck_are_parts : dtB tN 30 t_are_parts = true := by decide +kernel
theorem ok_are_parts (c : He.SaysD fa fn K) : ∃ fd ps, DefOk (sdOf tN K) K 30 m_are_parts (He.ga K (PySem.Str.ofString "are_parts")) fd ps ∧ PySem.W.keepIn K (.ref (He.ga K (PySem.Str.ofString "are_parts"))) = true ∧ ∀ m, m ≤ m_are_parts.np → m_are_parts.np ≤ m + m_are_parts.dfl.length → BindAt (sdOf tN K) K fd ps m_are_parts m :=
  dt_ok (t := t_are_parts) c (List.mem_of_getElem? (i := 11) rfl) ck_are_parts rfl rfl fun _ _ _ _ _ _ us hl => match us, hl with | [_, _, _], _ => rfl
def t_is_state_of : DT := ⟨d_is_state_of, m_is_state_of, N_is_state_of, [(PySem.Str.ofString "line"), (PySem.Str.ofString "thing")]⟩
theorem ck_is_state_of : dtB tN 30 t_is_state_of = true := by decide +kernel
theorem ok_is_state_of (c : He.SaysD fa fn K) : ∃ fd ps, DefOk (sdOf tN K) K 30 m_is_state_of (He.ga K (PySem.Str.ofString "is_state_of")) fd ps ∧ PySem.W.keepIn K (.ref (He.ga K (PySem.Str.ofString "is_state_of"))) = true ∧ ∀ m, m ≤ m_is_state_of.np → m_is_state_of.np ≤ m + m_is_state_of.dfl.length → BindAt (sdOf tN K) K fd ps m_is_state_of m :=
  dt_ok (t := t_is_state_of) c (List.mem_of_getElem? (i := 12) rfl) ck_is_state_of rfl rfl fun _ _ _ _ _ _ us hl => match us, hl with | [_, _], _ => rfl
def t_check_state : DT := ⟨d_check_state, m_check_state, N_check_state, [(PySem.Str.ofString "line"), (PySem.Str.ofString "state")]⟩
theorem ck_check_state : dtB tN 30 t_check_state = true := by decide +kernel
theorem ok_check_state (c : He.SaysD fa fn K) : ∃ fd ps, DefOk (sdOf tN K) K 30 m_check_state (He.ga K (PySem.Str.ofString "check_state")) fd ps ∧ PySem.W.keepIn K (.ref (He.ga K (PySem.Str.ofString "check_state"))) = true ∧ ∀ m, m ≤ m_check_state.np → m_check_state.np ≤ m + m_check_state.dfl.length → BindAt (sdOf tN K) K fd ps m_check_state m :=
  dt_ok (t := t_check_state) c (List.mem_of_getElem? (i := 13) rfl) ck_check_state rfl rfl fun _ _ _ _ _ _ us hl => match us, hl with | [_, _], _ => rfl
def t_tidied : DT := ⟨d_tidied, m_tidied, N_tidied, [(PySem.Str.ofString "state")]⟩
theorem ck_tidied : dtB tN 30 t_tidied = true := by decide +kernel
theorem ok_tidied (c : He.SaysD fa fn K) : ∃ fd ps, DefOk (sdOf tN K) K 30 m_tidied (He.ga K (PySem.Str.ofString "tidied")) fd ps ∧ PySem.W.keepIn K (.ref (He.ga K (PySem.Str.ofString "tidied"))) = true ∧ ∀ m, m ≤ m_tidied.np → m_tidied.np ≤ m + m_tidied.dfl.length → BindAt (sdOf tN K) K fd ps m_tidied m :=
  dt_ok (t := t_tidied) c (List.mem_of_getElem? (i := 14) rfl) ck_tidied rfl rfl fun _ _ _ _ _ _ us hl => match us, hl with | [_], _ => rfl
def t_first_state : DT := ⟨d_first_state, m_first_state, N_first_state, [(PySem.Str.ofString "line")]⟩
theorem ck_first_state : dtB tN 30 t_first_state = true := by decide +kernel
theorem ok_first_state (c : He.SaysD fa fn K) : ∃ fd ps, DefOk (sdOf tN K) K 30 m_first_state (He.ga K (PySem.Str.ofString "first_state")) fd ps ∧ PySem.W.keepIn K (.ref (He.ga K (PySem.Str.ofString "first_state"))) = true ∧ ∀ m, m ≤ m_first_state.np → m_first_state.np ≤ m + m_first_state.dfl.length → BindAt (sdOf tN K) K fd ps m_first_state m :=
  dt_ok (t := t_first_state) c (List.mem_of_getElem? (i := 15) rfl) ck_first_state rfl rfl fun _ _ _ _ _ _ us hl => match us, hl with | [_], _ => rfl
def t_is_state : DT := ⟨d_is_state, m_is_state, N_is_state, [(PySem.Str.ofString "line"), (PySem.Str.ofString "thing")]⟩
theorem ck_is_state : dtB tN 30 t_is_state = true := by decide +kernel
theorem ok_is_state (c : He.SaysD fa fn K) : ∃ fd ps, DefOk (sdOf tN K) K 30 m_is_state (He.ga K (PySem.Str.ofString "is_state")) fd ps ∧ PySem.W.keepIn K (.ref (He.ga K (PySem.Str.ofString "is_state"))) = true ∧ ∀ m, m ≤ m_is_state.np → m_is_state.np ≤ m + m_is_state.dfl.length → BindAt (sdOf tN K) K fd ps m_is_state m :=
  dt_ok (t := t_is_state) c (List.mem_of_getElem? (i := 16) rfl) ck_is_state rfl rfl fun _ _ _ _ _ _ us hl => match us, hl with | [_, _], _ => rfl
def t_done_counts : DT := ⟨d_done_counts, m_done_counts, N_done_counts, [(PySem.Str.ofString "line"), (PySem.Str.ofString "state"), (PySem.Str.ofString "asker")]⟩
theorem ck_done_counts : dtB tN 30 t_done_counts = true := by decide +kernel
theorem ok_done_counts (c : He.SaysD fa fn K) : ∃ fd ps, DefOk (sdOf tN K) K 30 m_done_counts (He.ga K (PySem.Str.ofString "done_counts")) fd ps ∧ PySem.W.keepIn K (.ref (He.ga K (PySem.Str.ofString "done_counts"))) = true ∧ ∀ m, m ≤ m_done_counts.np → m_done_counts.np ≤ m + m_done_counts.dfl.length → BindAt (sdOf tN K) K fd ps m_done_counts m :=
  dt_ok (t := t_done_counts) c (List.mem_of_getElem? (i := 17) rfl) ck_done_counts rfl rfl fun _ _ _ _ _ _ us hl => match us, hl with | [_, _, _], _ => rfl
def t_is_deed : DT := ⟨d_is_deed, m_is_deed, N_is_deed, [(PySem.Str.ofString "line"), (PySem.Str.ofString "thing")]⟩
theorem ck_is_deed : dtB tN 30 t_is_deed = true := by decide +kernel
theorem ok_is_deed (c : He.SaysD fa fn K) : ∃ fd ps, DefOk (sdOf tN K) K 30 m_is_deed (He.ga K (PySem.Str.ofString "is_deed")) fd ps ∧ PySem.W.keepIn K (.ref (He.ga K (PySem.Str.ofString "is_deed"))) = true ∧ ∀ m, m ≤ m_is_deed.np → m_is_deed.np ≤ m + m_is_deed.dfl.length → BindAt (sdOf tN K) K fd ps m_is_deed m :=
  dt_ok (t := t_is_deed) c (List.mem_of_getElem? (i := 18) rfl) ck_is_deed rfl rfl fun _ _ _ _ _ _ us hl => match us, hl with | [_, _], _ => rfl
def t_can_do : DT := ⟨d_can_do, m_can_do, N_can_do, [(PySem.Str.ofString "line"), (PySem.Str.ofString "state"), (PySem.Str.ofString "deed")]⟩
theorem ck_can_do : dtB tN 30 t_can_do = true := by decide +kernel
theorem ok_can_do (c : He.SaysD fa fn K) : ∃ fd ps, DefOk (sdOf tN K) K 30 m_can_do (He.ga K (PySem.Str.ofString "can_do")) fd ps ∧ PySem.W.keepIn K (.ref (He.ga K (PySem.Str.ofString "can_do"))) = true ∧ ∀ m, m ≤ m_can_do.np → m_can_do.np ≤ m + m_can_do.dfl.length → BindAt (sdOf tN K) K fd ps m_can_do m :=
  dt_ok (t := t_can_do) c (List.mem_of_getElem? (i := 19) rfl) ck_can_do rfl rfl fun _ _ _ _ _ _ us hl => match us, hl with | [_, _, _], _ => rfl
def t_with_word : DT := ⟨d_with_word, m_with_word, N_with_word, [(PySem.Str.ofString "asks"), (PySem.Str.ofString "index"), (PySem.Str.ofString "word")]⟩
theorem ck_with_word : dtB tN 30 t_with_word = true := by decide +kernel
theorem ok_with_word (c : He.SaysD fa fn K) : ∃ fd ps, DefOk (sdOf tN K) K 30 m_with_word (He.ga K (PySem.Str.ofString "with_word")) fd ps ∧ PySem.W.keepIn K (.ref (He.ga K (PySem.Str.ofString "with_word"))) = true ∧ ∀ m, m ≤ m_with_word.np → m_with_word.np ≤ m + m_with_word.dfl.length → BindAt (sdOf tN K) K fd ps m_with_word m :=
  dt_ok (t := t_with_word) c (List.mem_of_getElem? (i := 20) rfl) ck_with_word rfl rfl fun _ _ _ _ _ _ us hl => match us, hl with | [_, _, _], _ => rfl
def t_taken_up : DT := ⟨d_taken_up, m_taken_up, N_taken_up, [(PySem.Str.ofString "line"), (PySem.Str.ofString "asks"), (PySem.Str.ofString "index")]⟩
theorem ck_taken_up : dtB tN 30 t_taken_up = true := by decide +kernel
theorem ok_taken_up (c : He.SaysD fa fn K) : ∃ fd ps, DefOk (sdOf tN K) K 30 m_taken_up (He.ga K (PySem.Str.ofString "taken_up")) fd ps ∧ PySem.W.keepIn K (.ref (He.ga K (PySem.Str.ofString "taken_up"))) = true ∧ ∀ m, m ≤ m_taken_up.np → m_taken_up.np ≤ m + m_taken_up.dfl.length → BindAt (sdOf tN K) K fd ps m_taken_up m :=
  dt_ok (t := t_taken_up) c (List.mem_of_getElem? (i := 21) rfl) ck_taken_up rfl rfl fun _ _ _ _ _ _ us hl => match us, hl with | [_, _, _], _ => rfl
def t_awaiting : DT := ⟨d_awaiting, m_awaiting, N_awaiting, [(PySem.Str.ofString "line"), (PySem.Str.ofString "asks"), (PySem.Str.ofString "last")]⟩
theorem ck_awaiting : dtB tN 30 t_awaiting = true := by decide +kernel
theorem ok_awaiting (c : He.SaysD fa fn K) : ∃ fd ps, DefOk (sdOf tN K) K 30 m_awaiting (He.ga K (PySem.Str.ofString "awaiting")) fd ps ∧ PySem.W.keepIn K (.ref (He.ga K (PySem.Str.ofString "awaiting"))) = true ∧ ∀ m, m ≤ m_awaiting.np → m_awaiting.np ≤ m + m_awaiting.dfl.length → BindAt (sdOf tN K) K fd ps m_awaiting m :=
  dt_ok (t := t_awaiting) c (List.mem_of_getElem? (i := 22) rfl) ck_awaiting rfl rfl fun _ _ _ _ _ _ us hl => match us, hl with | [_, _, _], _ => rfl
def t_read : DT := ⟨d_read, m_read, N_read, [(PySem.Str.ofString "line"), (PySem.Str.ofString "state")]⟩
theorem ck_read : dtB tN 30 t_read = true := by decide +kernel
theorem ok_read (c : He.SaysD fa fn K) : ∃ fd ps, DefOk (sdOf tN K) K 30 m_read (He.ga K (PySem.Str.ofString "read")) fd ps ∧ PySem.W.keepIn K (.ref (He.ga K (PySem.Str.ofString "read"))) = true ∧ ∀ m, m ≤ m_read.np → m_read.np ≤ m + m_read.dfl.length → BindAt (sdOf tN K) K fd ps m_read m :=
  dt_ok (t := t_read) c (List.mem_of_getElem? (i := 23) rfl) ck_read rfl rfl fun _ _ _ _ _ _ us hl => match us, hl with | [_, _], _ => rfl
def t_lost_by : DT := ⟨d_lost_by, m_lost_by, N_lost_by, [(PySem.Str.ofString "line"), (PySem.Str.ofString "asks"), (PySem.Str.ofString "half")]⟩
theorem ck_lost_by : dtB tN 30 t_lost_by = true := by decide +kernel
theorem ok_lost_by (c : He.SaysD fa fn K) : ∃ fd ps, DefOk (sdOf tN K) K 30 m_lost_by (He.ga K (PySem.Str.ofString "lost_by")) fd ps ∧ PySem.W.keepIn K (.ref (He.ga K (PySem.Str.ofString "lost_by"))) = true ∧ ∀ m, m ≤ m_lost_by.np → m_lost_by.np ≤ m + m_lost_by.dfl.length → BindAt (sdOf tN K) K fd ps m_lost_by m :=
  dt_ok (t := t_lost_by) c (List.mem_of_getElem? (i := 24) rfl) ck_lost_by rfl rfl fun _ _ _ _ _ _ us hl => match us, hl with | [_, _, _], _ => rfl
def t_cut : DT := ⟨d_cut, m_cut, N_cut, [(PySem.Str.ofString "line"), (PySem.Str.ofString "state"), (PySem.Str.ofString "many")]⟩
theorem ck_cut : dtB tN 30 t_cut = true := by decide +kernel
theorem ok_cut (c : He.SaysD fa fn K) : ∃ fd ps, DefOk (sdOf tN K) K 30 m_cut (He.ga K (PySem.Str.ofString "cut")) fd ps ∧ PySem.W.keepIn K (.ref (He.ga K (PySem.Str.ofString "cut"))) = true ∧ ∀ m, m ≤ m_cut.np → m_cut.np ≤ m + m_cut.dfl.length → BindAt (sdOf tN K) K fd ps m_cut m :=
  dt_ok (t := t_cut) c (List.mem_of_getElem? (i := 25) rfl) ck_cut rfl rfl fun _ _ _ _ _ _ us hl => match us, hl with | [_, _, _], _ => rfl
def t_outcome : DT := ⟨d_outcome, m_outcome, N_outcome, [(PySem.Str.ofString "line"), (PySem.Str.ofString "state"), (PySem.Str.ofString "deed")]⟩
theorem ck_outcome : dtB tN 30 t_outcome = true := by decide +kernel
theorem ok_outcome (c : He.SaysD fa fn K) : ∃ fd ps, DefOk (sdOf tN K) K 30 m_outcome (He.ga K (PySem.Str.ofString "outcome")) fd ps ∧ PySem.W.keepIn K (.ref (He.ga K (PySem.Str.ofString "outcome"))) = true ∧ ∀ m, m ≤ m_outcome.np → m_outcome.np ≤ m + m_outcome.dfl.length → BindAt (sdOf tN K) K fd ps m_outcome m :=
  dt_ok (t := t_outcome) c (List.mem_of_getElem? (i := 26) rfl) ck_outcome rfl rfl fun _ _ _ _ _ _ us hl => match us, hl with | [_, _, _], _ => rfl
def t_check_deed : DT := ⟨d_check_deed, m_check_deed, N_check_deed, [(PySem.Str.ofString "line"), (PySem.Str.ofString "state"), (PySem.Str.ofString "deed")]⟩
theorem ck_check_deed : dtB tN 30 t_check_deed = true := by decide +kernel
theorem ok_check_deed (c : He.SaysD fa fn K) : ∃ fd ps, DefOk (sdOf tN K) K 30 m_check_deed (He.ga K (PySem.Str.ofString "check_deed")) fd ps ∧ PySem.W.keepIn K (.ref (He.ga K (PySem.Str.ofString "check_deed"))) = true ∧ ∀ m, m ≤ m_check_deed.np → m_check_deed.np ≤ m + m_check_deed.dfl.length → BindAt (sdOf tN K) K fd ps m_check_deed m :=
  dt_ok (t := t_check_deed) c (List.mem_of_getElem? (i := 27) rfl) ck_check_deed rfl rfl fun _ _ _ _ _ _ us hl => match us, hl with | [_, _, _], _ => rfl
def t_after : DT := ⟨d_after, m_after, N_after, [(PySem.Str.ofString "line"), (PySem.Str.ofString "state"), (PySem.Str.ofString "deed")]⟩
theorem ck_after : dtB tN 30 t_after = true := by decide +kernel
theorem ok_after (c : He.SaysD fa fn K) : ∃ fd ps, DefOk (sdOf tN K) K 30 m_after (He.ga K (PySem.Str.ofString "after")) fd ps ∧ PySem.W.keepIn K (.ref (He.ga K (PySem.Str.ofString "after"))) = true ∧ ∀ m, m ≤ m_after.np → m_after.np ≤ m + m_after.dfl.length → BindAt (sdOf tN K) K fd ps m_after m :=
  dt_ok (t := t_after) c (List.mem_of_getElem? (i := 28) rfl) ck_after rfl rfl fun _ _ _ _ _ _ us hl => match us, hl with | [_, _, _], _ => rfl
def t__law_number : DT := ⟨d__law_number, m__law_number, N__law_number, [(PySem.Str.ofString "_law_script"), (PySem.Str.ofString "_law_index")]⟩
theorem ck__law_number : dtB tN 30 t__law_number = true := by decide +kernel
theorem ok__law_number (c : He.SaysD fa fn K) : ∃ fd ps, DefOk (sdOf tN K) K 30 m__law_number (He.ga K (PySem.Str.ofString "_law_number")) fd ps ∧ PySem.W.keepIn K (.ref (He.ga K (PySem.Str.ofString "_law_number"))) = true ∧ ∀ m, m ≤ m__law_number.np → m__law_number.np ≤ m + m__law_number.dfl.length → BindAt (sdOf tN K) K fd ps m__law_number m :=
  dt_ok (t := t__law_number) c (List.mem_of_getElem? (i := 29) rfl) ck__law_number rfl rfl fun _ _ _ _ _ _ us hl => match us, hl with | [_, _], _ => rfl
def t__law_plain : DT := ⟨d__law_plain, m__law_plain, N__law_plain, [(PySem.Str.ofString "_law_seed"), (PySem.Str.ofString "_law_sizes")]⟩
theorem ck__law_plain : dtB tN 30 t__law_plain = true := by decide +kernel
theorem ok__law_plain (c : He.SaysD fa fn K) : ∃ fd ps, DefOk (sdOf tN K) K 30 m__law_plain (He.ga K (PySem.Str.ofString "_law_plain")) fd ps ∧ PySem.W.keepIn K (.ref (He.ga K (PySem.Str.ofString "_law_plain"))) = true ∧ ∀ m, m ≤ m__law_plain.np → m__law_plain.np ≤ m + m__law_plain.dfl.length → BindAt (sdOf tN K) K fd ps m__law_plain m :=
  dt_ok (t := t__law_plain) c (List.mem_of_getElem? (i := 30) rfl) ck__law_plain rfl rfl fun _ _ _ _ _ _ us hl => match us, hl with | [_, _], _ => rfl
def t__law_line : DT := ⟨d__law_line, m__law_line, N__law_line, [(PySem.Str.ofString "_law_plain_here")]⟩
theorem ck__law_line : dtB tN 30 t__law_line = true := by decide +kernel
theorem ok__law_line (c : He.SaysD fa fn K) : ∃ fd ps, DefOk (sdOf tN K) K 30 m__law_line (He.ga K (PySem.Str.ofString "_law_line")) fd ps ∧ PySem.W.keepIn K (.ref (He.ga K (PySem.Str.ofString "_law_line"))) = true ∧ ∀ m, m ≤ m__law_line.np → m__law_line.np ≤ m + m__law_line.dfl.length → BindAt (sdOf tN K) K fd ps m__law_line m :=
  dt_ok (t := t__law_line) c (List.mem_of_getElem? (i := 31) rfl) ck__law_line rfl rfl fun _ _ _ _ _ _ us hl => match us, hl with | [_], _ => rfl
def t__law_world : DT := ⟨d__law_world, m__law_world, N__law_world, [(PySem.Str.ofString "_law_state")]⟩
theorem ck__law_world : dtB tN 30 t__law_world = true := by decide +kernel
theorem ok__law_world (c : He.SaysD fa fn K) : ∃ fd ps, DefOk (sdOf tN K) K 30 m__law_world (He.ga K (PySem.Str.ofString "_law_world")) fd ps ∧ PySem.W.keepIn K (.ref (He.ga K (PySem.Str.ofString "_law_world"))) = true ∧ ∀ m, m ≤ m__law_world.np → m__law_world.np ≤ m + m__law_world.dfl.length → BindAt (sdOf tN K) K fd ps m__law_world m :=
  dt_ok (t := t__law_world) c (List.mem_of_getElem? (i := 32) rfl) ck__law_world rfl rfl fun _ _ _ _ _ _ us hl => match us, hl with | [_], _ => rfl
def t__law_first : DT := ⟨d__law_first, m__law_first, N__law_first, []⟩
theorem ck__law_first : dtB tN 30 t__law_first = true := by decide +kernel
theorem ok__law_first (c : He.SaysD fa fn K) : ∃ fd ps, DefOk (sdOf tN K) K 30 m__law_first (He.ga K (PySem.Str.ofString "_law_first")) fd ps ∧ PySem.W.keepIn K (.ref (He.ga K (PySem.Str.ofString "_law_first"))) = true ∧ ∀ m, m ≤ m__law_first.np → m__law_first.np ≤ m + m__law_first.dfl.length → BindAt (sdOf tN K) K fd ps m__law_first m :=
  dt_ok (t := t__law_first) c (List.mem_of_getElem? (i := 33) rfl) ck__law_first rfl rfl fun _ _ _ _ _ _ us hl => match us, hl with | [], _ => rfl
def t__law_open : DT := ⟨d__law_open, m__law_open, N__law_open, [(PySem.Str.ofString "_law_world_here")]⟩
theorem ck__law_open : dtB tN 30 t__law_open = true := by decide +kernel
theorem ok__law_open (c : He.SaysD fa fn K) : ∃ fd ps, DefOk (sdOf tN K) K 30 m__law_open (He.ga K (PySem.Str.ofString "_law_open")) fd ps ∧ PySem.W.keepIn K (.ref (He.ga K (PySem.Str.ofString "_law_open"))) = true ∧ ∀ m, m ≤ m__law_open.np → m__law_open.np ≤ m + m__law_open.dfl.length → BindAt (sdOf tN K) K fd ps m__law_open m :=
  dt_ok (t := t__law_open) c (List.mem_of_getElem? (i := 34) rfl) ck__law_open rfl rfl fun _ _ _ _ _ _ us hl => match us, hl with | [_], _ => rfl
def t__law_deeds : DT := ⟨d__law_deeds, m__law_deeds, N__law_deeds, [(PySem.Str.ofString "_law_plain_here"), (PySem.Str.ofString "_law_world_here")]⟩
theorem ck__law_deeds : dtB tN 30 t__law_deeds = true := by decide +kernel
theorem ok__law_deeds (c : He.SaysD fa fn K) : ∃ fd ps, DefOk (sdOf tN K) K 30 m__law_deeds (He.ga K (PySem.Str.ofString "_law_deeds")) fd ps ∧ PySem.W.keepIn K (.ref (He.ga K (PySem.Str.ofString "_law_deeds"))) = true ∧ ∀ m, m ≤ m__law_deeds.np → m__law_deeds.np ≤ m + m__law_deeds.dfl.length → BindAt (sdOf tN K) K fd ps m__law_deeds m :=
  dt_ok (t := t__law_deeds) c (List.mem_of_getElem? (i := 35) rfl) ck__law_deeds rfl rfl fun _ _ _ _ _ _ us hl => match us, hl with | [_, _], _ => rfl
def t_law : DT := ⟨d_law, m_law, N_law, [(PySem.Str.ofString "_law_script")]⟩
theorem ck_law : dtB tN 30 t_law = true := by decide +kernel
theorem ok_law (c : He.SaysD fa fn K) : ∃ fd ps, DefOk (sdOf tN K) K 30 m_law (He.ga K (PySem.Str.ofString "law")) fd ps ∧ PySem.W.keepIn K (.ref (He.ga K (PySem.Str.ofString "law"))) = true ∧ ∀ m, m ≤ m_law.np → m_law.np ≤ m + m_law.dfl.length → BindAt (sdOf tN K) K fd ps m_law m :=
  dt_ok (t := t_law) c (List.mem_of_getElem? (i := 36) rfl) ck_law rfl rfl fun _ _ _ _ _ _ us hl => match us, hl with | [_], _ => rfl
def t__law_right : DT := ⟨d__law_right, m__law_right, N__law_right, [(PySem.Str.ofString "_law_script"), (PySem.Str.ofString "_law_at"), (PySem.Str.ofString "_law_plain_here")]⟩
theorem ck__law_right : dtB tN 30 t__law_right = true := by decide +kernel
theorem ok__law_right (c : He.SaysD fa fn K) : ∃ fd ps, DefOk (sdOf tN K) K 30 m__law_right (He.ga K (PySem.Str.ofString "_law_right")) fd ps ∧ PySem.W.keepIn K (.ref (He.ga K (PySem.Str.ofString "_law_right"))) = true ∧ ∀ m, m ≤ m__law_right.np → m__law_right.np ≤ m + m__law_right.dfl.length → BindAt (sdOf tN K) K fd ps m__law_right m :=
  dt_ok (t := t__law_right) c (List.mem_of_getElem? (i := 37) rfl) ck__law_right rfl rfl fun _ _ _ _ _ _ us hl => match us, hl with | [_, _, _], _ => rfl
def t__law_is_state : DT := ⟨d__law_is_state, m__law_is_state, N__law_is_state, [(PySem.Str.ofString "_law_plain_here"), (PySem.Str.ofString "_law_thing")]⟩
theorem ck__law_is_state : dtB tN 30 t__law_is_state = true := by decide +kernel
theorem ok__law_is_state (c : He.SaysD fa fn K) : ∃ fd ps, DefOk (sdOf tN K) K 30 m__law_is_state (He.ga K (PySem.Str.ofString "_law_is_state")) fd ps ∧ PySem.W.keepIn K (.ref (He.ga K (PySem.Str.ofString "_law_is_state"))) = true ∧ ∀ m, m ≤ m__law_is_state.np → m__law_is_state.np ≤ m + m__law_is_state.dfl.length → BindAt (sdOf tN K) K fd ps m__law_is_state m :=
  dt_ok (t := t__law_is_state) c (List.mem_of_getElem? (i := 38) rfl) ck__law_is_state rfl rfl fun _ _ _ _ _ _ us hl => match us, hl with | [_, _], _ => rfl
def t__law_bent : DT := ⟨d__law_bent, m__law_bent, N__law_bent, [(PySem.Str.ofString "_law_script"), (PySem.Str.ofString "_law_at"), (PySem.Str.ofString "_law_state")]⟩
theorem ck__law_bent : dtB tN 30 t__law_bent = true := by decide +kernel
theorem ok__law_bent (c : He.SaysD fa fn K) : ∃ fd ps, DefOk (sdOf tN K) K 30 m__law_bent (He.ga K (PySem.Str.ofString "_law_bent")) fd ps ∧ PySem.W.keepIn K (.ref (He.ga K (PySem.Str.ofString "_law_bent"))) = true ∧ ∀ m, m ≤ m__law_bent.np → m__law_bent.np ≤ m + m__law_bent.dfl.length → BindAt (sdOf tN K) K fd ps m__law_bent m :=
  dt_ok (t := t__law_bent) c (List.mem_of_getElem? (i := 39) rfl) ck__law_bent rfl rfl fun _ _ _ _ _ _ us hl => match us, hl with | [_, _, _], _ => rfl
def t__law_is_ask : DT := ⟨d__law_is_ask, m__law_is_ask, N__law_is_ask, [(PySem.Str.ofString "_law_plain_here"), (PySem.Str.ofString "_law_thing")]⟩
theorem ck__law_is_ask : dtB tN 30 t__law_is_ask = true := by decide +kernel
theorem ok__law_is_ask (c : He.SaysD fa fn K) : ∃ fd ps, DefOk (sdOf tN K) K 30 m__law_is_ask (He.ga K (PySem.Str.ofString "_law_is_ask")) fd ps ∧ PySem.W.keepIn K (.ref (He.ga K (PySem.Str.ofString "_law_is_ask"))) = true ∧ ∀ m, m ≤ m__law_is_ask.np → m__law_is_ask.np ≤ m + m__law_is_ask.dfl.length → BindAt (sdOf tN K) K fd ps m__law_is_ask m :=
  dt_ok (t := t__law_is_ask) c (List.mem_of_getElem? (i := 40) rfl) ck__law_is_ask rfl rfl fun _ _ _ _ _ _ us hl => match us, hl with | [_, _], _ => rfl
def t__law_are_parts : DT := ⟨d__law_are_parts, m__law_are_parts, N__law_are_parts, [(PySem.Str.ofString "_law_plain_here"), (PySem.Str.ofString "_law_thing")]⟩
theorem ck__law_are_parts : dtB tN 30 t__law_are_parts = true := by decide +kernel
theorem ok__law_are_parts (c : He.SaysD fa fn K) : ∃ fd ps, DefOk (sdOf tN K) K 30 m__law_are_parts (He.ga K (PySem.Str.ofString "_law_are_parts")) fd ps ∧ PySem.W.keepIn K (.ref (He.ga K (PySem.Str.ofString "_law_are_parts"))) = true ∧ ∀ m, m ≤ m__law_are_parts.np → m__law_are_parts.np ≤ m + m__law_are_parts.dfl.length → BindAt (sdOf tN K) K fd ps m__law_are_parts m :=
  dt_ok (t := t__law_are_parts) c (List.mem_of_getElem? (i := 41) rfl) ck__law_are_parts rfl rfl fun _ _ _ _ _ _ us hl => match us, hl with | [_, _], _ => rfl
def t__law_is_number : DT := ⟨d__law_is_number, m__law_is_number, N__law_is_number, [(PySem.Str.ofString "_law_thing"), (PySem.Str.ofString "_law_low"), (PySem.Str.ofString "_law_high")]⟩
theorem ck__law_is_number : dtB tN 30 t__law_is_number = true := by decide +kernel
theorem ok__law_is_number (c : He.SaysD fa fn K) : ∃ fd ps, DefOk (sdOf tN K) K 30 m__law_is_number (He.ga K (PySem.Str.ofString "_law_is_number")) fd ps ∧ PySem.W.keepIn K (.ref (He.ga K (PySem.Str.ofString "_law_is_number"))) = true ∧ ∀ m, m ≤ m__law_is_number.np → m__law_is_number.np ≤ m + m__law_is_number.dfl.length → BindAt (sdOf tN K) K fd ps m__law_is_number m :=
  dt_ok (t := t__law_is_number) c (List.mem_of_getElem? (i := 42) rfl) ck__law_is_number rfl rfl fun _ _ _ _ _ _ us hl => match us, hl with | [_, _, _], _ => rfl
def t__law_is_row : DT := ⟨d__law_is_row, m__law_is_row, N__law_is_row, [(PySem.Str.ofString "_law_thing"), (PySem.Str.ofString "_law_many")]⟩
theorem ck__law_is_row : dtB tN 30 t__law_is_row = true := by decide +kernel
theorem ok__law_is_row (c : He.SaysD fa fn K) : ∃ fd ps, DefOk (sdOf tN K) K 30 m__law_is_row (He.ga K (PySem.Str.ofString "_law_is_row")) fd ps ∧ PySem.W.keepIn K (.ref (He.ga K (PySem.Str.ofString "_law_is_row"))) = true ∧ ∀ m, m ≤ m__law_is_row.np → m__law_is_row.np ≤ m + m__law_is_row.dfl.length → BindAt (sdOf tN K) K fd ps m__law_is_row m :=
  dt_ok (t := t__law_is_row) c (List.mem_of_getElem? (i := 43) rfl) ck__law_is_row rfl rfl fun _ _ _ _ _ _ us hl => match us, hl with | [_, _], _ => rfl
def t__law_are_answers : DT := ⟨d__law_are_answers, m__law_are_answers, N__law_are_answers, [(PySem.Str.ofString "_law_plain_here"), (PySem.Str.ofString "_law_thing"), (PySem.Str.ofString "_law_many")]⟩
theorem ck__law_are_answers : dtB tN 30 t__law_are_answers = true := by decide +kernel
theorem ok__law_are_answers (c : He.SaysD fa fn K) : ∃ fd ps, DefOk (sdOf tN K) K 30 m__law_are_answers (He.ga K (PySem.Str.ofString "_law_are_answers")) fd ps ∧ PySem.W.keepIn K (.ref (He.ga K (PySem.Str.ofString "_law_are_answers"))) = true ∧ ∀ m, m ≤ m__law_are_answers.np → m__law_are_answers.np ≤ m + m__law_are_answers.dfl.length → BindAt (sdOf tN K) K fd ps m__law_are_answers m :=
  dt_ok (t := t__law_are_answers) c (List.mem_of_getElem? (i := 44) rfl) ck__law_are_answers rfl rfl fun _ _ _ _ _ _ us hl => match us, hl with | [_, _, _], _ => rfl
def t_Line__init : DT := ⟨d_Line__init, m_Line__init, N_Line__init, [(PySem.Str.ofString "self"), (PySem.Str.ofString "askers"), (PySem.Str.ofString "ahead"), (PySem.Str.ofString "pieces"), (PySem.Str.ofString "again"), (PySem.Str.ofString "marks")]⟩
theorem ok_Line__init (c : He.SaysD fa fn K) (hx : exX K = true) : ∃ fd ps, DefOk (sdOf tN K) K 30 m_Line__init (He.ma K (He.ga K (PySem.Str.ofString "Line")) "__init__") fd ps ∧ ∀ m, m ≤ m_Line__init.np → m_Line__init.np ≤ m + m_Line__init.dfl.length → BindAt (sdOf tN K) K fd ps m_Line__init m := by
  obtain ⟨fd, F⟩ := c.defs (d := d_Line__init) (List.mem_of_getElem? (i := 45) rfl)
  have e : conRel K 8 (.tup []) (.ref (He.dflAt (PySem.Str.ofString "Line", some (PySem.Str.ofString "__init__")) 1 K)) = true := by
    unfold exX at hx
    rw [Bool.and_eq_true] at hx
    exact List.all_eq_true.mp hx.2 _ (List.mem_of_getElem? (i := 0) rfl)
  refine ⟨fd, t_Line__init.ps, dt_def (t := t_Line__init) F (by decide +kernel), ?_⟩
  refine bindD (dvs := d_Line__init.dvs K) (fun ι B H => .cons (.str _) (.cons ((con_ok 8 _ _ e).2 ι B H) .nil)) (fun j hj => ⟨hj, ?_⟩) (by decide)
  have hj2 : j ≤ 2 := hj
  rcases (by omega : j = 0 ∨ j = 1 ∨ j = 2) with rfl | rfl | rfl
  · exact F.binds1 4 0 (fun z => by cases z) rfl fun _ _ _ _ _ _ _ us its hu hi => match us, hu, its, hi with | [_, _, _, _], _, [_, _], _ => ⟨_, rfl, rfl⟩
  · exact F.binds1 5 1 (fun z => by cases z) rfl fun _ _ _ _ _ _ _ us its hu hi => match us, hu, its, hi with | [_, _, _, _, _], _, [_, _], _ => ⟨_, rfl, rfl⟩
  · exact F.binds1 6 2 (fun z => by cases z) rfl fun _ _ _ _ _ _ _ us its hu hi => match us, hu, its, hi with | [_, _, _, _, _, _], _, [_, _], _ => ⟨_, rfl, rfl⟩
theorem defs_ok (c : He.SaysD fa fn K) (hx : exX K = true) : DefsOk tN K 30 where
  fn := fun f g h hne => match f, h with
    | 0, h => by
      cases h
      exact ok_is_number c
    | 1, h => by
      cases h
      exact ok_is_word c
    | 2, h => by
      cases h
      exact ok_are_marks c
    | 3, _ => absurd (show (tFnm.getD 3 "" : PySem.Str) = "" from rfl) hne
    | 4, _ => absurd (show (tFnm.getD 4 "" : PySem.Str) = "" from rfl) hne
    | 5, _ => absurd (show (tFnm.getD 5 "" : PySem.Str) = "" from rfl) hne
    | 6, _ => absurd (show (tFnm.getD 6 "" : PySem.Str) = "" from rfl) hne
    | 7, _ => absurd (show (tFnm.getD 7 "" : PySem.Str) = "" from rfl) hne
    | 8, _ => absurd (show (tFnm.getD 8 "" : PySem.Str) = "" from rfl) hne
    | 9, _ => absurd (show (tFnm.getD 9 "" : PySem.Str) = "" from rfl) hne
    | 10, _ => absurd (show (tFnm.getD 10 "" : PySem.Str) = "" from rfl) hne
    | 11, h => by
      cases h
      exact ok_check_line c
    | 12, h => by
      cases h
      exact ok_check_asker c
    | 13, h => by
      cases h
      exact ok_is_ask c
    | 14, h => by
      cases h
      exact ok_is_row c
    | 15, h => by
      cases h
      exact ok_are_answers c
    | 16, h => by
      cases h
      exact ok_open_asks c
    | 17, h => by
      cases h
      exact ok_open_of c
    | 18, h => by
      cases h
      exact ok_left_in c
    | 19, h => by
      cases h
      exact ok_are_parts c
    | 20, h => by
      cases h
      exact ok_is_state_of c
    | 21, h => by
      cases h
      exact ok_check_state c
    | 22, h => by
      cases h
      exact ok_tidied c
    | 23, h => by
      cases h
      exact ok_first_state c
    | 24, h => by
      cases h
      exact ok_is_state c
    | 25, h => by
      cases h
      exact ok_done_counts c
    | 26, h => by
      cases h
      exact ok_is_deed c
    | 27, h => by
      cases h
      exact ok_can_do c
    | 28, h => by
      cases h
      exact ok_with_word c
    | 29, h => by
      cases h
      exact ok_taken_up c
    | 30, h => by
      cases h
      exact ok_awaiting c
    | 31, h => by
      cases h
      exact ok_read c
    | 32, h => by
      cases h
      exact ok_lost_by c
    | 33, h => by
      cases h
      exact ok_cut c
    | 34, h => by
      cases h
      exact ok_outcome c
    | 35, _ => absurd (show (tFnm.getD 35 "" : PySem.Str) = "" from rfl) hne
    | 36, _ => absurd (show (tFnm.getD 36 "" : PySem.Str) = "" from rfl) hne
    | 37, _ => absurd (show (tFnm.getD 37 "" : PySem.Str) = "" from rfl) hne
    | 38, _ => absurd (show (tFnm.getD 38 "" : PySem.Str) = "" from rfl) hne
    | 39, _ => absurd (show (tFnm.getD 39 "" : PySem.Str) = "" from rfl) hne
    | 40, _ => absurd (show (tFnm.getD 40 "" : PySem.Str) = "" from rfl) hne
    | 41, h => by
      cases h
      exact ok_check_deed c
    | 42, h => by
      cases h
      exact ok_after c
    | 43, _ => absurd (show (tFnm.getD 43 "" : PySem.Str) = "" from rfl) hne
    | 44, _ => absurd (show (tFnm.getD 44 "" : PySem.Str) = "" from rfl) hne
    | 45, _ => absurd (show (tFnm.getD 45 "" : PySem.Str) = "" from rfl) hne
    | 46, h => by
      cases h
      exact ok__law_number c
    | 47, h => by
      cases h
      exact ok__law_plain c
    | 48, h => by
      cases h
      exact ok__law_line c
    | 49, h => by
      cases h
      exact ok__law_world c
    | 50, h => by
      cases h
      exact ok__law_first c
    | 51, h => by
      cases h
      exact ok__law_open c
    | 52, h => by
      cases h
      exact ok__law_deeds c
    | 53, _ => absurd (show (tFnm.getD 53 "" : PySem.Str) = "" from rfl) hne
    | 54, _ => absurd (show (tFnm.getD 54 "" : PySem.Str) = "" from rfl) hne
    | 55, _ => absurd (show (tFnm.getD 55 "" : PySem.Str) = "" from rfl) hne
    | 56, _ => absurd (show (tFnm.getD 56 "" : PySem.Str) = "" from rfl) hne
    | 57, _ => absurd (show (tFnm.getD 57 "" : PySem.Str) = "" from rfl) hne
    | 58, _ => absurd (show (tFnm.getD 58 "" : PySem.Str) = "" from rfl) hne
    | 59, _ => absurd (show (tFnm.getD 59 "" : PySem.Str) = "" from rfl) hne
    | 60, _ => absurd (show (tFnm.getD 60 "" : PySem.Str) = "" from rfl) hne
    | 61, _ => absurd (show (tFnm.getD 61 "" : PySem.Str) = "" from rfl) hne
    | 62, h => by
      cases h
      exact ok_law c
    | 63, h => by
      cases h
      exact ok__law_right c
    | 64, h => by
      cases h
      exact ok__law_is_state c
    | 65, h => by
      cases h
      exact ok__law_bent c
    | 66, h => by
      cases h
      exact ok__law_is_ask c
    | 67, h => by
      cases h
      exact ok__law_are_parts c
    | 68, h => by
      cases h
      exact ok__law_is_number c
    | 69, h => by
      cases h
      exact ok__law_is_row c
    | 70, h => by
      cases h
      exact ok__law_are_answers c
    | n + 71, h => absurd (show (tFnm.getD (n + 71) "" : PySem.Str) = "" from rfl) hne
  cl := fun f k g hk h hne => match f, hk with
    | 0, hk => by
      cases hk
      cases h
      exact ok_Line__init c hx
    | n + 1, hk => absurd (show (tKnm.getD (n + 1) "" : PySem.Str) = "" from rfl) hne
end
/-- the law's facts -/
theorem facts {P : Program} {w : World} {K : PySem.W.Frag} {h : Heap} {mg : PySem.Str → Option Value} {f : Addr} (hp : ∀ ns : List Int, ns.length ≤ 63 → ∃ M, evC tP 30 21 lawIx [.scr ns] [] = .val (.bl true) M) (X : K.In h) (G : h.Ns mainGlobals mg) (hfa : mg ("law" : PySem.Str) = some (.ref f)) (c : He.SaysX fa fn [] [] exX w h K) :
    ∃ (fd : FuncData) (sp : Sp), (∀ (s : Shared) (u : Value), BindsTo s fd ⟨[u], []⟩ [((PySem.Str.ofString "_law_script"), u)]) ∧
        (∀ (H : Hp) (a : Addr) (ns : List Int), ns.length ≤ 63 → Only H → SqL K H a (ns.map V.int) → sp [.ref a] H (fun v _ => v = .bl true) fun _ _ _ => False) ∧
        ∀ base : Heap, K.In base → base.Ns mainGlobals mg → FnOk P w K mg base (L2.CX P w) 43 f fd [(PySem.Str.ofString "_law_script")] sp := by
  have cd : He.SaysD fa fn K := He.SaysT.d c.t
  have e := hfa.symm.trans (He.glo_ok X G (cd.fact 0 (f := .glo (PySem.Str.ofString "law")) rfl))
  cases e
  have hx : exB tN K = true := by
    have h1 := c.more
    unfold exX at h1
    rw [Bool.and_eq_true] at h1
    exact h1.1
  have L := law_of (mg := mg) (n := 30) X G hx (defs_ok cd c.more)
  obtain ⟨fd, F⟩ := cd.defs (d := d_law) (List.mem_of_getElem? (i := 36) rfl)
  have b := FunD.bindsA (ps := [(PySem.Str.ofString "_law_script")]) F fun _ _ _ _ _ _ us hl => match us, hl with | [_], _ => rfl
  refine ⟨fd, spC (sdOf tN K) K (evC tP 30 21) lawIx, fun s v => b s [v] rfl, fun H a ns hl hO hS => ?_, fun base _ _ => fn_ok L (fns_all L 20) rfl (dt_def (t := t_law) F ck_law)⟩
  obtain ⟨M, e⟩ := hp ns hl
  exact script_sp e hO hS
/-- the law from its plain form -/
theorem holds_of (hp : ∀ ns : List Int, ns.length ≤ 63 → ∃ M, evC tP 30 21 lawIx [.scr ns] [] = .val (.bl true) M) : PySem.Challenge.rw_askedahead_k02_whole_states.Holds := by
  w_on; o_law
  refine HandSHeadRun.head_any (r := PySem.W.OpenLaw.row PySem.Challenge.rw_askedahead_k02_whole_states) (q := PySem.W.view (PySem.W.OpenLaw.row PySem.Challenge.rw_askedahead_k02_whole_states).prog [64]) (H := hk) (ob := ob) (M := 4000) (loose := loose) (d := HandSHeadRun.topDef (PySem.W.OpenLaw.row PySem.Challenge.rw_askedahead_k02_whole_states).prog 64) (kwd := []) ob_eq
    (by kernel_rfl) (fun s => by kernel_rfl) head_run (by kernel_rfl) (by kernel_rfl) (by kernel_rfl) (by rfl) (by first | assumption | decide +kernel) (by decide +kernel) ⟨rfl, rfl, rfl, rfl, rfl, by decide +kernel⟩ ?hw ?hc
  case hw => w_witness2
  case hc =>
    refine walk_ofEw (l := PySem.Challenge.rw_askedahead_k02_whole_states) (n := 63) (k := 43) (x := (PySem.Str.ofString "_law_script")) (CX := fun w => L2.CX PySem.Challenge.rw_askedahead_k02_whole_states.prog w) rfl (by decide) (by kernel_rfl) ⟨rfl, by decide, by decide⟩ ?F (fun _ _ _ _ _ z => no_leave z)
    intro w mg fa h Y G hmg0
    obtain ⟨K, KX, c⟩ := Y
    have hmg : mg ("law" : PySem.Str) = some (.ref fa) := by
      have e : (HandSHeadRun.topDef (PySem.W.OpenLaw.row PySem.Challenge.rw_askedahead_k02_whole_states).prog 64).name = ("law" : PySem.Str) := by kernel_rfl
      rw [← e]
      exact hmg0
    obtain ⟨fd, sp, h1, h2, h3⟩ := facts (P := (PySem.Challenge.rw_askedahead_k02_whole_states).prog) (w := w) hp KX G hmg c
    exact ⟨K, fd, sp, KX, h1, h2, h3⟩
end Mp.K02
end

section
set_option Elab.async false
set_option linter.all false
set_option maxRecDepth 100000
set_option maxHeartbeats 4000000
namespace Mp.K02
open PySem Mp Mp.Pk
theorem tS : PkS tP := by constructor <;> kernel_rfl
theorem tT : PkT tP := by
  constructor
  · exact tS
  all_goals kernel_rfl
theorem tD : PkD tP := by
  constructor
  · exact tT
  all_goals kernel_rfl
theorem tE : PkE tP := by
  constructor
  · exact tD
  all_goals kernel_rfl
theorem tF : PkF tP := by
  constructor
  · exact tE
  all_goals kernel_rfl
theorem tA : PlA tP := by constructor <;> kernel_rfl
theorem tB : PlB tP := by
  constructor
  · exact tA
  all_goals kernel_rfl
theorem tC : PlC tP := by
  constructor
  · exact tB
  · exact tF
  all_goals kernel_rfl
theorem tDD : PlD tP := by
  constructor
  · exact tC
  all_goals kernel_rfl
theorem tLS : LwS tP := by constructor <;> kernel_rfl
theorem tLB : LwB tP := by
  constructor
  · exact tLS
  · exact tDD
  all_goals kernel_rfl
theorem tLR : LwR tP := by
  constructor
  · exact tLB
  all_goals kernel_rfl
theorem k02_holds : PySem.Challenge.rw_askedahead_k02_whole_states.Holds := holds_of fun ns _ => ⟨[], ev_law tLR 11 ns []⟩
end Mp.K02
end
theorem PySem.Challenge.cw_askedahead_k02_whole_states_holds : PySem.Challenge.rw_askedahead_k02_whole_states.Holds := by
  exact Mp.K02.k02_holds

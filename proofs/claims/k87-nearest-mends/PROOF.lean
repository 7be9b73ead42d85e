import PyProof.Rows.All
import Wide.All
import OpenK.AllK
import Wide.FinOn
import PySem.Challenge.RW_farhouse_k87_whole_nearest_mends
import HandS.ForMost
import HandS.ForExc
import HandS.ExcOwn
import HandS.Lambda
import HandS.TupAny
import HandS.TupMul
import HandS.Zip
import HandS.Deep
import HandS.IsInst
import HandS.Walk
import HandS.Conv
import HandS.Style
import HandS.Sort
import KE.GoesEnum
import HandS.SortInts
import HandS.TupLe
import HandS.WordsDict
import HandS.ExcIs
import HandS.SetFor
import HandS.Flow
import HandS.WideBits
import HandS.Ends
import HandS.EndOwn
import HandS.NestedK
import HandS.Words
set_option Elab.async false
set_option linter.all false
set_option maxRecDepth 100000
set_option maxHeartbeats 3900000
/-! PDSem: data by value (D), a store of what may change (Sto), and what each piece of Python does with them, as plain functions. -/
namespace PD
open PySem PySem.Spec PyProof.Rows L2

inductive D where
  | non | bl (b : Bool) | int (i : Int) | str (x : Str)
  | tup (xs : List D) | lst (xs : List D)
  /-- a pair that zip or enumerate made -/
  | tpl (xs : List D)
  /-- a list that is only read: the script, a list of the top -/
  | fz (xs : List D)
  | ref (l : Nat)
  | dk (ks : List Key) (xs : List D)
  | raw (v : V)

/-- what stands in the store -/
inductive MO where
  | lst (xs : List D) | dk (ks : List Key) (xs : List D) | gone

abbrev Sto := List MO
abbrev Ev := List (Option D)

inductive Out (α : Type) where
  | ok (a : α) (st : Sto) | exc (n : Str) (fs : List (Str × D)) (st : Sto) | bad

def Out.bind {α β : Type} (o : Out α) (f : α → Sto → Out β) : Out β := match o with
  | .ok a st => f a st | .exc n fs st => .exc n fs st | .bad => .bad
@[simp] theorem bind_ok {α β : Type} (a : α) (st : Sto) (f : α → Sto → Out β) : (Out.ok a st).bind f = f a st := id rfl
@[simp] theorem bind_bad {α β : Type} (f : α → Sto → Out β) : (Out.bad).bind f = .bad := id rfl
@[simp] theorem bind_exc {α β : Type} (n : Str) (fs : List (Str × D)) (st : Sto) (f : α → Sto → Out β) : (Out.exc n fs st).bind f = .exc n fs st := id rfl

abbrev SE := Ev → Sto → Out D
abbrev ST := Ev → Sto → Out Bool
abbrev SA := Ev → Sto → Out (List D)
/-- what is walked: the items, and the list of the store that is walked (inl) or enumerated (inr), if they may change -/
abbrev Dy := Option (Nat ⊕ Nat)
abbrev SI := Ev → Sto → Out (List D × Dy)
abbrev TgD := D → Ev → Option Ev

inductive Fl where
  | nx (ρ : Ev) | rt (d : D) | bk (ρ : Ev) | ct (ρ : Ev) | ex (n : Str) (fs : List (Str × D)) (ρ : Ev)
abbrev SS := Ev → Sto → Option (Fl × Sto)

/-! ### looking -/
/-- the items of a list or tuple -/
def items (st : Sto) : D → Option (List D)
  | .tup xs => some xs
  | .lst xs => some xs
  | .fz xs => some xs
  | .ref l => match st[l]? with | some (.lst xs) => some xs | _ => none
  | _ => none
/-- a list's items -/
def litems (st : Sto) : D → Option (List D)
  | .lst xs => some xs
  | .ref l => match st[l]? with | some (.lst xs) => some xs | _ => none
  | _ => none
def allSome {α : Type} : List (Option α) → Option (List α)
  | [] => some []
  | some x :: r => (allSome r).map (x :: ·)
  | none :: _ => none
def atomPy : D → Option PyData
  | .non => some .none
  | .bl b => some (.bool b)
  | .int i => some (.int i)
  | .str x => if PyData.canLay0 (.str x) then some (.str x) else none
  | _ => none
/-- a thing as plain data -/
def toPy (st : Sto) : Nat → D → Option PyData
  | 0, d => atomPy d
  | n + 1, d => match d with
    | .tup xs => (allSome (xs.map (toPy st n))).map .tuple
    | .lst xs => (allSome (xs.map (toPy st n))).map .list
    | .ref l => match st[l]? with | some (.lst xs) => (allSome (xs.map (toPy st n))).map .list | _ => none
    | d => atomPy d
def toPys (st : Sto) (n : Nat) (xs : List D) : Option (List PyData) := allSome (xs.map (toPy st n))
/-- one item of a sequence, by an index that may count from the end -/
def ixD (n : Nat) (i : Int) : Option Nat := if 0 ≤ i then (if i < n then some i.toNat else none) else if 0 ≤ i + n then some (i + n).toNat else none

/-- a new list: by value (nobody changes it), or laid into the store (m) -/
def newL (m : Bool) (xs : List D) (st : Sto) : Out D := if m = true then .ok (.ref st.length) (st ++ [.lst xs]) else .ok (.lst xs) st
@[simp] theorem newL_f (xs : List D) (st : Sto) : newL false xs st = .ok (.lst xs) st := id rfl
@[simp] theorem newL_t (xs : List D) (st : Sto) : newL true xs st = .ok (.ref st.length) (st ++ [.lst xs]) := id rfl
/-- no exception comes out of a comprehension -/
def Out.nx {α : Type} : Out α → Out α
  | .exc _ _ _ => .bad
  | o => o
@[simp] theorem nx_ok {α : Type} (a : α) (st : Sto) : (Out.ok a st).nx = .ok a st := id rfl
@[simp] theorem nx_bad {α : Type} : (Out.bad : Out α).nx = .bad := id rfl
@[simp] theorem nx_exc {α : Type} (n : Str) (fs : List (Str × D)) (st : Sto) : (Out.exc n fs st : Out α).nx = .bad := id rfl

/-! ### expressions -/
def sVar (i : Nat) : SE := fun ρ st => match ρ[i]? with | some (some d) => .ok d st | _ => .bad
def sC (d : D) : SE := fun _ st => .ok d st
def s2 (f : D → D → Sto → Out D) (a b : SE) : SE := fun ρ st => (a ρ st).bind fun x st => (b ρ st).bind fun y st => f x y st
def s1 (f : D → Sto → Out D) (a : SE) : SE := fun ρ st => (a ρ st).bind fun x st => f x st
def small (i : Int) : Bool := decide (-(2 ^ 64) < i) && decide (i < 2 ^ 64)
def fAdd (x y : D) (st : Sto) : Out D := match x, y with
  | .int i, .int j => .ok (.int (i + j)) st
  | .str x, .str y => if x.length + y.length ≤ sizeLine then .ok (.str (x ++ y)) st else .bad
  | .tup xs, .tup ys => if xs.length + ys.length ≤ sizeLine then .ok (.tup (xs ++ ys)) st else .bad
  | x, y => match litems st x, litems st y with
    | some xs, some ys => if xs.length + ys.length ≤ sizeLine then .ok (.lst (xs ++ ys)) st else .bad
    | _, _ => .bad
def fSub (x y : D) (st : Sto) : Out D := match x, y with
  | .int i, .int j => .ok (.int (i - j)) st
  | _, _ => .bad
def fMul (x y : D) (st : Sto) : Out D := match x, y with
  | .int i, .int j => if small i || small j then .ok (.int (i * j)) st else .bad
  | _, _ => .bad
def fDiv (x y : D) (st : Sto) : Out D := match x, y with
  | .int i, .int j => if 0 < j ∧ j < 1073741824 then .ok (.int (i / j)) st else .bad
  | _, _ => .bad
def fMod (x y : D) (st : Sto) : Out D := match x, y with
  | .int i, .int j => if 0 < j then .ok (.int (i % j)) st else .bad
  | _, _ => .bad
def fPow (x y : D) (st : Sto) : Out D := match x, y with
  | .int i, .int j => if 0 ≤ j ∧ j ≤ 1000000 ∧ i.natAbs ≤ 1000000 then .ok (.int (i ^ j.toNat)) st else .bad
  | _, _ => .bad
def fNeg (x : D) (st : Sto) : Out D := match x with
  | .int i => .ok (.int (-i)) st
  | _ => .bad
/-- [..] * n, the list new -/
def repL (xs : List D) (k : Nat) : List D := (List.replicate k xs).flatten
def fRep (m : Bool) (x y : D) (st : Sto) : Out D := match litems st x, y with
  | some xs, .int k => if -1000000 ≤ k ∧ k ≤ 1000000 ∧ xs.length * k.toNat ≤ sizeLine then newL m (repL xs k.toNat) st else .bad
  | _, _ => .bad
def fCmp (p : Int → Int → Bool) (x y : D) (st : Sto) : Out D := match x, y with
  | .int i, .int j => .ok (.bl (p i j)) st
  | _, _ => .bad
def fLt := fCmp fun i j => decide (i < j)
def fLe := fCmp fun i j => decide (i ≤ j)
def fGt := fCmp fun i j => decide (j < i)
def fGe := fCmp fun i j => decide (j ≤ i)
def fEq (x y : D) (st : Sto) : Out D := match toPy st 60 x, toPy st 60 y with
  | some p, some q => .ok (.bl (PyData.eqv p q)) st
  | _, _ => .bad
def fNe (x y : D) (st : Sto) : Out D := match toPy st 60 x, toPy st 60 y with
  | some p, some q => .ok (.bl (!PyData.eqv p q)) st
  | _, _ => .bad
def isNonD : D → Bool
  | .non => true
  | _ => false
def rawD : D → Bool
  | .raw _ => true
  | _ => false
def fIsN (x : D) (st : Sto) : Out D := if rawD x then .bad else .ok (.bl (isNonD x)) st
def fNotN (x : D) (st : Sto) : Out D := if rawD x then .bad else .ok (.bl (!isNonD x)) st
def fIsB (b : Bool) (x : D) (st : Sto) : Out D := match x with
  | .bl c => .ok (.bl (decide (c = b))) st
  | _ => .bad
def flatD : D → Bool
  | .non => true | .bl _ => true | .int _ => true | .str _ => true
  | _ => false
def inPy (p : PyData) (ps : List PyData) : Bool := ps.any fun z => PyData.eqv z p
/-- x in ys (flat things in a list or tuple; data in a list) -/
def fIn0 (x y : D) (st : Sto) : Out Bool := match toPy st 60 x with
  | some p => (match y with
    | .tup ys => if flatD x && ys.all flatD then (match toPys st 59 ys with | some ps => .ok (inPy p ps) st | none => .bad) else .bad
    | y => match litems st y with
      | some ys => (match toPys st 59 ys with | some ps => .ok (inPy p ps) st | none => .bad)
      | none => .bad)
  | none => .bad
def fIn (x y : D) (st : Sto) : Out D := (fIn0 x y st).bind fun b st => .ok (.bl b) st
def fNotIn (x y : D) (st : Sto) : Out D := (fIn0 x y st).bind fun b st => .ok (.bl (!b)) st
/-- a value's truth -/
def truD (st : Sto) : D → Option Bool
  | .non => some false
  | .bl b => some b
  | .int i => some (i != 0)
  | .tup xs => some (!xs.isEmpty)
  | .lst xs => some (!xs.isEmpty)
  | .ref l => match st[l]? with | some (.lst xs) => some (!xs.isEmpty) | _ => none
  | _ => none
/-! tests -/
def tTru (e : SE) : ST := fun ρ st => (e ρ st).bind fun d st => match truD st d with | some b => .ok b st | none => .bad
/-- a comparison as a test -/
def tBl (e : SE) : ST := fun ρ st => (e ρ st).bind fun d st => match d with | .bl b => .ok b st | _ => .bad
def tAndD (a b : ST) : ST := fun ρ st => (a ρ st).bind fun c st => if c = true then b ρ st else .ok false st
def tOrD (a b : ST) : ST := fun ρ st => (a ρ st).bind fun c st => if c = true then .ok true st else b ρ st
def tNotD (a : ST) : ST := fun ρ st => (a ρ st).bind fun c st => .ok (!c) st
/-! .. as values -/
def sAnd (a b : SE) : SE := fun ρ st => (a ρ st).bind fun x st => match x with
  | .bl c => if c = true then b ρ st else .ok (.bl false) st
  | _ => .bad
def sOr (a b : SE) : SE := fun ρ st => (a ρ st).bind fun x st => match x with
  | .bl c => if c = true then .ok (.bl true) st else b ρ st
  | _ => .bad
def sNot (a : ST) : SE := fun ρ st => (a ρ st).bind fun c st => .ok (.bl (!c)) st
def sIf (t : ST) (a b : SE) : SE := fun ρ st => (t ρ st).bind fun c st => if c = true then a ρ st else b ρ st
/-- a op b op' c, of comparisons -/
def sChain (f g : D → D → Sto → Out D) (a b c : SE) : SE := fun ρ st => (a ρ st).bind fun x st => (b ρ st).bind fun y st => (f x y st).bind fun z st => match z with
  | .bl k => if k = true then (c ρ st).bind fun w st => g y w st else .ok (.bl false) st
  | _ => .bad
/-! arguments, displays -/
def aNil : SA := fun _ st => .ok [] st
def aCons (e : SE) (r : SA) : SA := fun ρ st => (e ρ st).bind fun x st => (r ρ st).bind fun xs st => .ok (x :: xs) st
def sTup (a : SA) : SE := fun ρ st => (a ρ st).bind fun xs st => if xs.length ≤ sizeLine then .ok (.tup xs) st else .bad
def sLst (m : Bool) (a : SA) : SE := fun ρ st => (a ρ st).bind fun xs st => if xs.length ≤ sizeLine then newL m xs st else .bad
def sDict0 : SE := fun _ st => .ok (.dk [] []) st
/-! calls -/
def sCall (n : Nat) (F : List D → Sto → Out D) (a : SA) : SE := fun ρ st => (a ρ st).bind fun xs st => if xs.length = n then F xs st else .bad
def sB (F : List D → Sto → Out D) (a : SA) : SE := fun ρ st => (a ρ st).bind fun xs st => F xs st
def bLen (xs : List D) (st : Sto) : Out D := match xs with
  | [x] => (match items st x with | some ys => .ok (.int ys.length) st | none => .bad)
  | _ => .bad
def bAbs (xs : List D) (st : Sto) : Out D := match xs with
  | [.int i] => .ok (.int (if i < 0 then -i else i)) st
  | _ => .bad
def bMin2 (xs : List D) (st : Sto) : Out D := match xs with
  | [.int i, .int j] => .ok (.int (if j < i then j else i)) st
  | _ => .bad
def bMax2 (xs : List D) (st : Sto) : Out D := match xs with
  | [.int i, .int j] => .ok (.int (if j > i then j else i)) st
  | _ => .bad
def bInt (xs : List D) (st : Sto) : Out D := match xs with
  | [.int i] => .ok (.int i) st
  | [.bl k] => .ok (.int (if k then 1 else 0)) st
  | _ => .bad
def bTuple (xs : List D) (st : Sto) : Out D := match xs with
  | [x] => (match items st x with | some ys => .ok (.tup ys) st | none => .bad)
  | _ => .bad
def bList (m : Bool) (xs : List D) (st : Sto) : Out D := match xs with
  | [x] => (match items st x with | some ys => newL m ys st | none => .bad)
  | _ => .bad
def allBl : List D → Option (List Bool)
  | [] => some []
  | .bl b :: r => (allBl r).map (b :: ·)
  | _ => none
def allInt : List D → Option (List Int)
  | [] => some []
  | .int b :: r => (allInt r).map (b :: ·)
  | _ => none
def bAll (xs : List D) (st : Sto) : Out D := match xs with
  | [x] => (match (litems st x).bind allBl with | some bs => .ok (.bl (bs.all id)) st | none => .bad)
  | _ => .bad
def bAny (xs : List D) (st : Sto) : Out D := match xs with
  | [x] => (match (litems st x).bind allBl with | some bs => .ok (.bl (bs.any id)) st | none => .bad)
  | _ => .bad
def bSum (xs : List D) (st : Sto) : Out D := match xs with
  | [x] => (match (litems st x).bind allInt with | some bs => .ok (.int bs.sum) st | none => .bad)
  | _ => .bad
/-- list(range(..)) -/
def rangeL (lo : Int) (n : Nat) : List D := (List.range n).map fun (i : Nat) => D.int (lo + (i : Int))
/-- list(range(..)) -/
def sListR1 (m : Bool) (a : SE) : SE := fun ρ st => (a ρ st).bind fun x st => match x with
  | .int j => if 0 ≤ j ∧ j ≤ sizeLine then newL m (rangeL 0 j.toNat) st else .bad
  | _ => .bad
/-! dicts by value -/
def keyD : D → Option Key
  | .int i => some (.inl i)
  | .str x => some (.inr x)
  | _ => none
def putD (kvs : List (Key × D)) (k : Key) (d : D) : List (Key × D) := if (kvs.any fun kv => decide (kv.1 = k)) = true then kvs.map (fun kv => if kv.1 = k then (kv.1, d) else kv) else kvs ++ [(k, d)]
def pairK : D → Option (Key × D)
  | .tup [k, v] => (keyD k).map fun k => (k, v)
  | _ => none
def mkD (ps : List (Key × D)) : D := .dk (ps.map (·.1)) (ps.map (·.2))
/-- dict([(k, v), ..]) -/
def bDict (xs : List D) (st : Sto) : Out D := match xs with
  | [x] => (match (litems st x).bind fun ys => allSome (ys.map pairK) with
    | some ps => .ok (mkD (ps.foldl (fun acc p => putD acc p.1 p.2) [])) st
    | none => .bad)
  | _ => .bad
def bLenD (xs : List D) (st : Sto) : Out D := match xs with
  | [.dk ks _] => .ok (.int ks.length) st
  | _ => .bad
def fIsN2 (d n : D) (st : Sto) : Out D := match n with | .non => fIsN d st | _ => .bad
def fNotN2 (d n : D) (st : Sto) : Out D := match n with | .non => fNotN d st | _ => .bad
def fIsBl (x y : D) (st : Sto) : Out D := match x, y with
  | .bl a, .bl b => .ok (.bl (decide (a = b))) st
  | _, _ => .bad
def fNotBl (x y : D) (st : Sto) : Out D := match x, y with
  | .bl a, .bl b => .ok (.bl (!decide (a = b))) st
  | _, _ => .bad
/-! isinstance -/
inductive TyN where | int | bool | tuple | list | str | dict
def isTy : TyN → D → Option Bool
  | _, .raw _ => none
  | _, .fz _ => none
  | _, .tpl _ => none
  | .int, .int _ => some true
  | .int, .bl _ => some true
  | .bool, .bl _ => some true
  | .tuple, .tup _ => some true
  | .list, .lst _ => some true
  | .str, .str _ => some true
  | .dict, .dk _ _ => some true
  | _, .ref _ => none
  | _, _ => some false
def sIsI (t : TyN) (e : SE) : SE := fun ρ st => (e ρ st).bind fun d st => match isTy t d with | some b => .ok (.bl b) st | none => .bad
/-! subscripts -/
def fIx (x y : D) (st : Sto) : Out D := match items st x, y with
  | some xs, .int i => (match ixD xs.length i with | some j => (match xs[j]? with | some d => .ok d st | none => .bad) | none => .bad)
  | _, _ => .bad
def oInt (e : SE) : Ev → Sto → Out (Option Int) := fun ρ st => (e ρ st).bind fun d st => match d with | .int i => .ok (some i) st | _ => .bad
def oNone : Ev → Sto → Out (Option Int) := fun _ st => .ok none st
def cutD (xs : List D) (lo hi : Option Int) : List D := (xs.drop (HT.sIx xs.length 0 lo)).take (HT.sIx xs.length xs.length hi - HT.sIx xs.length 0 lo)
def sSlice (m : Bool) (e : SE) (lo hi : Ev → Sto → Out (Option Int)) : SE := fun ρ st => (e ρ st).bind fun x st => (lo ρ st).bind fun i st => (hi ρ st).bind fun j st => match x with
  | .tup xs => .ok (.tup (cutD xs i j)) st
  | .fz xs => newL m (cutD xs i j) st
  | x => match litems st x with | some xs => newL m (cutD xs i j) st | none => .bad

/-- not a, a value: a a bool -/
def sNotV (a : SE) : SE := fun ρ st => (a ρ st).bind fun d st => match d with | .bl c => .ok (.bl (!c)) st | _ => .bad
/-- a list's method of one argument: the receiver is a list of the store -/
def sM (f : D → D → Sto → Out D) (o e : SE) : SE := fun ρ st => (o ρ st).bind fun x st => match litems st x with
  | some _ => (e ρ st).bind fun y st => f x y st
  | none => .bad
/-! ### what is walked -/
def dynOf : D → Dy
  | .ref l => some (.inl l)
  | _ => none
/-- a list or a tuple -/
def iSeq (e : SE) : SI := fun ρ st => (e ρ st).bind fun x st => match items st x with | some xs => .ok (xs, dynOf x) st | none => .bad
def iRange1 (a : SA) : SI := fun ρ st => (a ρ st).bind fun xs st => match xs with
  | [.int j] => if -1000000 ≤ j ∧ j ≤ 1000000 then .ok (rangeL 0 j.toNat, none) st else .bad
  | _ => .bad
def iRange2 (a : SA) : SI := fun ρ st => (a ρ st).bind fun xs st => match xs with
  | [.int i, .int j] => if -1000000 ≤ i ∧ i ≤ 1000000 ∧ -1000000 ≤ j ∧ j ≤ 1000000 then .ok (rangeL i (j - i).toNat, none) st else .bad
  | _ => .bad
def zipD : List D → List D → List D
  | x :: xs, y :: ys => .tpl [x, y] :: zipD xs ys
  | _, _ => []
def isTupD : D → Bool
  | .tup _ => true
  | _ => false
def isLstD : D → Bool
  | .lst _ => true
  | _ => false
/-- zip of two tuples, or of two lists that stay -/
def iZip (a : SA) : SI := fun ρ st => (a ρ st).bind fun xs st => match xs with
  | [.tup xs, .tup ys] => .ok (zipD xs ys, none) st
  | [.lst xs, .lst ys] => .ok (zipD xs ys, none) st
  | _ => .bad
def enumFromD : Nat → List D → List D
  | _, [] => []
  | n, x :: xs => .tpl [.int n, x] :: enumFromD (n + 1) xs
/-- enumerate of a tuple, or of a list that stays -/
def iEnum (a : SA) : SI := fun ρ st => (a ρ st).bind fun xs st => match xs with
  | [.tup xs] => .ok (enumFromD 0 xs, none) st
  | [.lst xs] => .ok (enumFromD 0 xs, none) st
  | [.ref l] => (match st[l]? with | some (.lst xs) => .ok (enumFromD 0 xs, some (.inr l)) st | _ => .bad)
  | _ => .bad
def fetch (dy : Dy) (i : Nat) (d : D) (st : Sto) : Option D := match dy with
  | none => some d
  | some (.inl l) => match st[l]? with | some (.lst xs) => xs[i]? | _ => none
  | some (.inr l) => match st[l]? with | some (.lst xs) => (xs[i]?).map fun x => .tpl [.int i, x] | _ => none
def finOk (dy : Dy) (n : Nat) (st : Sto) : Bool := match dy with
  | none => true
  | some (.inl l) => match st[l]? with | some (.lst xs) => xs.length == n | _ => false
  | some (.inr l) => match st[l]? with | some (.lst xs) => xs.length == n | _ => false
/-! targets -/
def gN (i : Nat) : TgD := fun d ρ => some (ρ.set i (some d))
def gT2 (a b : TgD) : TgD := fun d ρ => match d with
  | .tup [x, y] => (a x ρ).bind fun ρ => b y ρ
  | .tpl [x, y] => (a x ρ).bind fun ρ => b y ρ
  | _ => none
def gT3 (a b c : TgD) : TgD := fun d ρ => match d with
  | .tup [x, y, z] => (a x ρ).bind fun ρ => (b y ρ).bind fun ρ => c z ρ
  | _ => none
def wipeD (ρ : Ev) : List Nat → Ev
  | [] => ρ
  | v :: vs => (wipeD ρ vs).set v none
/-! comprehensions -/
def tYesD : ST := fun _ st => .ok true st
def loopLC (dy : Dy) (n : Nat) (g : TgD) (t : ST) (e : SE) (ρ0 : Ev) : Nat → List D → Sto → Out (List D)
  | _, [], st => if finOk dy n st then .ok [] st else .bad
  | i, d :: ds, st => match fetch dy i d st with
    | none => .bad
    | some d => match g d ρ0 with
      | none => .bad
      | some ρ1 => (t ρ1 st).nx.bind fun c st => if c = true then (e ρ1 st).nx.bind fun y st => (loopLC dy n g t e ρ0 (i + 1) ds st).bind fun ys st => .ok (y :: ys) st
        else loopLC dy n g t e ρ0 (i + 1) ds st
def sLC (m : Bool) (it : SI) (g : TgD) (t : ST) (e : SE) (vs : List Nat) : SE := fun ρ st => (it ρ st).bind fun p st =>
  if p.1.length ≤ sizeLine then (loopLC p.2 p.1.length g t e (wipeD ρ vs) 0 p.1 st).bind fun ys st => newL m ys st else .bad

/-! ### statements -/
def Out.st {α : Type} (o : Out α) (ρ : Ev) (k : α → Sto → Option (Fl × Sto)) : Option (Fl × Sto) := match o with
  | .ok a st => k a st
  | .exc n fs st => some (.ex n fs ρ, st)
  | .bad => none
@[simp] theorem st_ok {α : Type} (a : α) (st : Sto) (ρ : Ev) (k : α → Sto → Option (Fl × Sto)) : (Out.ok a st).st ρ k = k a st := id rfl
@[simp] theorem st_bad {α : Type} (ρ : Ev) (k : α → Sto → Option (Fl × Sto)) : (Out.bad).st ρ k = none := id rfl
@[simp] theorem st_exc {α : Type} (n : Str) (fs : List (Str × D)) (st : Sto) (ρ : Ev) (k : α → Sto → Option (Fl × Sto)) : (Out.exc n fs st).st ρ k = some (.ex n fs ρ, st) := id rfl
def qNext : SS := fun ρ st => some (.nx ρ, st)
def qSeq (a b : SS) : SS := fun ρ st => match a ρ st with
  | some (.nx ρ', st') => b ρ' st'
  | r => r
def qSet (i : Nat) (e : SE) : SS := fun ρ st => (e ρ st).st ρ fun d st => some (.nx (ρ.set i (some d)), st)
/-- a, b = x, y -/
def qPar (i j : Nat) (a : SA) : SS := fun ρ st => (a ρ st).st ρ fun ds st => match ds with
  | [x, y] => some (.nx ((ρ.set i (some x)).set j (some y)), st)
  | _ => none
/-- target = e -/
def qAsg (g : TgD) (e : SE) : SS := fun ρ st => (e ρ st).st ρ fun d st => match g d ρ with
  | some ρ' => some (.nx ρ', st)
  | none => none
def qExpr (e : SE) : SS := fun ρ st => (e ρ st).st ρ fun _ st => some (.nx ρ, st)
def qRet (e : SE) : SS := fun ρ st => (e ρ st).st ρ fun d st => some (.rt d, st)
def qRetN : SS := fun _ st => some (.rt .non, st)
def qBrk : SS := fun ρ st => some (.bk ρ, st)
def qCnt : SS := fun ρ st => some (.ct ρ, st)
def qIf (t : ST) (a b : SS) : SS := fun ρ st => (t ρ st).st ρ fun c st => if c = true then a ρ st else b ρ st
def qNever : SS := fun _ _ => none
def qRaise (n : Str) : SS := fun ρ st => some (.ex n [] ρ, st)
/-- xs[i] = v of a list in the store -/
def fSetIx (o i v : D) (st : Sto) : Option Sto := match o, i with
  | .ref l, .int i => (match st[l]? with
    | some (.lst xs) => (match ixD xs.length i with | some j => some (st.set l (.lst (xs.set j v))) | none => none)
    | _ => none)
  | _, _ => none
/-- o[i] = e: first e, then o, then i -/
def qSetIx (o i e : SE) : SS := fun ρ st => (e ρ st).st ρ fun v st => (o ρ st).st ρ fun x st => (i ρ st).st ρ fun y st => match fSetIx x y v st with
  | some st => some (.nx ρ, st)
  | none => none
/-- xs.append(e) -/
def fAppend (x y : D) (st : Sto) : Out D := match x with
  | .ref l => (match st[l]? with
    | some (.lst xs) => if xs.length < sizeLine then .ok .non (st.set l (.lst (xs ++ [y]))) else .bad
    | _ => .bad)
  | _ => .bad
def fExtend (x y : D) (st : Sto) : Out D := match x with
  | .ref l => (match st[l]?, litems st y with
    | some (.lst xs), some ys => if xs.length + ys.length ≤ sizeLine then .ok .non (st.set l (.lst (xs ++ ys))) else .bad
    | _, _ => .bad)
  | _ => .bad
def loopFor (dy : Dy) (n : Nat) (g : TgD) (b : SS) : Nat → List D → Ev → Sto → Option (Fl × Sto)
  | _, [], ρ, st => if finOk dy n st then some (.nx ρ, st) else none
  | i, d :: ds, ρ, st => match fetch dy i d st with
    | none => none
    | some d => match g d ρ with
      | none => none
      | some ρ1 => match b ρ1 st with
        | some (.nx ρ2, st2) => loopFor dy n g b (i + 1) ds ρ2 st2
        | some (.ct ρ2, st2) => loopFor dy n g b (i + 1) ds ρ2 st2
        | some (.bk ρ2, st2) => some (.nx ρ2, st2)
        | r => r
def qFor (it : SI) (g : TgD) (b : SS) : SS := fun ρ st => (it ρ st).st ρ fun p st => loopFor p.2 p.1.length g b 0 p.1 ρ st
def loopWhile (t : ST) (b : SS) : Nat → SS
  | 0, _, _ => none
  | f + 1, ρ, st => (t ρ st).st ρ fun c st => if c = true then (match b ρ st with
      | some (.nx ρ2, st2) => loopWhile t b f ρ2 st2
      | some (.ct ρ2, st2) => loopWhile t b f ρ2 st2
      | some (.bk ρ2, st2) => some (.nx ρ2, st2)
      | r => r) else some (.nx ρ, st)
def qWhile (fuel : Ev → Sto → Nat) (t : ST) (b : SS) : SS := fun ρ st => loopWhile t b (fuel ρ st) ρ st

/-! ### a def -/
def startD (n : Nat) (ds : List D) : Ev := ds.map some ++ List.replicate (n - ds.length) none
/-- a def's end: what it handed back, as it is -/
def endRaw (r : Option (Fl × Sto)) : Out D := match r with
  | some (.rt d, st) => .ok d st
  | some (.nx _, st) => .ok .non st
  | some (.ex n fs _, st) => .exc n fs st
  | _ => .bad
def defRaw (n : Nat) (b : SS) (ds : List D) (st : Sto) : Out D := endRaw (b (startD n ds) st)
/-! lists of the store, from place n on, by value -/
def frzD (st : Sto) (n : Nat) : Nat → D → Option D
  | 0, d => match d with
    | .non => some .non
    | .bl b => some (.bl b)
    | .int i => some (.int i)
    | .str x => some (.str x)
    | _ => none
  | f + 1, d => match d with
    | .tup xs => (allSome (xs.map (frzD st n f))).map .tup
    | .lst xs => (allSome (xs.map (frzD st n f))).map .lst
    | .dk ks xs => (allSome (xs.map (frzD st n f))).map (.dk ks)
    | .ref l => if l < n then some (.ref l) else match st[l]? with | some (.lst xs) => (allSome (xs.map (frzD st n f))).map .lst | _ => none
    | .non => some .non
    | .bl b => some (.bl b)
    | .int i => some (.int i)
    | .str x => some (.str x)
    | _ => none
mutual
/-- no place from n on is named -/
def noRef (n : Nat) : D → Bool
  | .ref l => decide (l < n)
  | .tup xs => noRefs n xs
  | .lst xs => noRefs n xs
  | .tpl xs => noRefs n xs
  | .fz xs => noRefs n xs
  | .dk _ xs => noRefs n xs
  | _ => true
def noRefs (n : Nat) : List D → Bool
  | [] => true
  | x :: xs => noRef n x && noRefs n xs
end
def noRefO (n : Nat) : MO → Bool
  | .lst xs => noRefs n xs
  | .dk _ xs => noRefs n xs
  | .gone => true
/-- .. the lists that it made by value, its own part of the store forgotten -/
def fin (n : Nat) (o : Out D) : Out D := match o with
  | .ok d st => (match frzD st n 60 d with
    | some d' => if (st.take n).all (noRefO n) then .ok d' (st.take n) else .bad
    | none => .bad)
  | .exc k fs st => if fs.isEmpty && (st.take n).all (noRefO n) then .exc k fs (st.take n) else .bad
  | .bad => .bad
def defFin (n : Nat) (b : SS) (ds : List D) (st : Sto) : Out D := fin st.length (defRaw n b ds st)
end PD
/-! PDTup: new tuples, known to have no dict. -/
namespace PD
open PySem PySem.Spec PyProof.Rows L2
/-- a tuple that has no dict -/
def SqN (K : PySem.W.Frag) (H : Hp) (a : Addr) (xs : List V) : Prop :=
  (∃ o : Obj, o.dict = none ∧ H a = some (.frz o (.tup xs))) ∨
    ∃ (o : Obj) (its : Array Value) (n : Nat), K.lookup a = some o ∧ o.cls = .type "tuple" ∧ o.dict = none ∧ o.data = .seq its n ∧ its.size ≤ sizeLine ∧ Vals xs its.toList
theorem SqN.t {K : PySem.W.Frag} {H : Hp} {a : Addr} {xs : List V} : SqN K H a xs → SqT K H a xs
  | .inl ⟨o, _, e⟩ => .inl (.inr ⟨o, e⟩)
  | .inr ⟨o, its, n, h1, h2, _, h4, h5, h6⟩ => .inr ⟨o, its, n, h1, h2, h4, h5, h6⟩
theorem SqN.of {K : PySem.W.Frag} {H : Hp} {a : Addr} {o : Obj} {xs : List V} (hd : o.dict = none) : SqN K (upd H a (.frz o (.tup xs))) a xs := .inl ⟨o, hd, upd_same⟩
theorem sqN_mono {K : PySem.W.Frag} {B B' : Hp} {a : Addr} {vs : List V} (h : ∀ a o, B a = some o → B' a = some o) : SqN K B a vs → SqN K B' a vs
  | .inl ⟨o, d, e⟩ => .inl ⟨o, d, h _ _ e⟩
  | .inr x => .inr x
/-- what is wanted of a new tuple -/
def NewT (Q : VK) (H : Hp) (xs : List V) : Prop := ∀ p o, H p = none → o.dict = none → Q (.ref p) (upd H p (.frz o (.tup xs)))
section
variable {X : Cx} {pins : List (Addr × Obj)} {σ : L2.St} {H : Hp} {s : Shared} {Q : VK} {e : Expr} {es : List Expr} {pos : Pos} {t : TA}
/-- .. laid -/
theorem newT_ep {xs : List V} {its : List Value} (I : Inv X pins σ H s) (r : Vals xs its) (z : xs.length ≤ sizeLine) (q : NewT Q H xs) :
    EP X pins σ Q (.ref s.heap.objs.size) { s with heap := s.heap.push { cls := .type "tuple", data := .seq its.toArray } } :=
  ⟨.ref s.heap.objs.size, _, I.laid (t' := s.toks) (o := .frz { cls := .type "tuple", data := .seq its.toArray } (.tup xs)) (fun b u e => Heap.get?_push_of_some _ e) (Nat.le_refl _)
    (show _ ∧ _ from ⟨Heap.get?_push_size _ rfl, z, its, r, IsTup.new _ _⟩), rfl, q _ _ (I.hok.fresh (Nat.le_refl _)) rfl⟩
def tTupN (t : TA) : TE := fun σ H Q => t σ H fun xs H1 => xs.length ≤ sizeLine ∧ NewT Q H1 xs
theorem pe_tupN {x1 : Nat} (h : PA X es t) : PE X (.Tuple es x1 pos) (tTupN t) := by
  refine ⟨fun pins s σ H Q I hq => ?_⟩
  refine wpAny_Tuple_spliced (thn (h.run pos pins s σ H _ I hq) fun us s1 ⟨xs, H1, I1, r, z, q⟩ => ⟨by rw [← r.length]; exact z, ?_⟩)
  exact newT_ep I1 r z q
/-- t + u -/
def rCatN (K : PySem.W.Frag) : R2 := fun x y H Q => ∃ a b xs ys, x = .ref a ∧ y = .ref b ∧ SqT K H a xs ∧ SqT K H b ys ∧ xs.length + ys.length ≤ sizeLine ∧
  (xs = [] → Q (.ref b) H) ∧ (xs ≠ [] → ys = [] → Q (.ref a) H) ∧ (xs ≠ [] → ys ≠ [] → NewT Q H (xs ++ ys))
theorem op_catN : OpR X (binaryOp .Add) (rCatN X.K) := by
  intro pins s σ H x y v u Q I rx ry h
  obtain ⟨a, b, xs, ys, rfl, rfl, ha, hb, hz, q0, q1, q2⟩ := h
  cases rx
  cases ry
  obtain ⟨its, r1, p1, _⟩ := I.tuple ha
  obtain ⟨its2, r2, p2, _⟩ := I.tuple hb
  by_cases hx : xs = []
  · subst hx
    cases r1
    exact cat_tup0 p1 p2 ⟨.ref b, H, I, rfl, q0 rfl⟩
  · refine HT.cat_tup p1 p2 (fun z => hx (r1.nil_iff.mp z)) (fun z => ⟨.ref a, H, I, rfl, q1 hx (r2.nil_iff.mp z)⟩) (fun z => ?_) (by rw [← r1.length, ← r2.length]; exact hz)
    exact newT_ep I (r1.append r2) (by rw [List.length_append]; exact hz) (q2 hx (fun w => z (r2.nil_iff.mpr w)))
/-- tuple(x) -/
theorem call_tuple_ofN : CallR X (.type "tuple") (fun xs H Q => ∃ p ys, xs = [.ref p] ∧ ((SqL X.K H p ys ∧ NewT Q H ys) ∨ (SqT X.K H p ys ∧ Q (.ref p) H))) := by
  intro pins s σ H xs us Q I r h
  obtain ⟨p, ys, rfl, h⟩ := h
  obtain ⟨u, rfl, rx⟩ := vals1 r
  cases rx
  rcases h with ⟨hq, q⟩ | ⟨hq, q⟩
  · obtain ⟨its, r', pl, hz⟩ := I.list hq
    have hlen := r'.length
    refine call_tuple_list pl.isList (fun h' kp => ?_) (by simp only [List.size_toArray] <;> omega)
    have I1 : Inv X pins σ H { s with heap := h' } := I.kept (t' := s.toks) kp
    exact newT_ep I1 r' hz q
  · obtain ⟨its, r', pl, hz⟩ := I.tuple hq
    exact call_tuple_same pl ⟨.ref p, H, I, rfl, q⟩
/-- t[lo:hi] -/
def rSlN (K : PySem.W.Frag) : V → Option Int → Option Int → Hp → VK → Prop := fun x lo hi H Q => ∃ a xs, x = .ref a ∧ SqT K H a xs ∧
  (HT.sIx xs.length 0 lo = 0 ∧ HT.sIx xs.length xs.length hi = xs.length → Q (.ref a) H) ∧ (¬ (HT.sIx xs.length 0 lo = 0 ∧ HT.sIx xs.length xs.length hi = xs.length) → NewT Q H (cutV xs lo hi))
theorem sl_tupN : SlR X (rSlN X.K) := by
  intro pins s σ H x v vl vu lo hi sl Q I rx hs pl pu h
  obtain ⟨a, xs, rfl, hx, q1, q2⟩ := h
  cases rx
  obtain ⟨its, r, ht, hz⟩ := I.tuple hx
  have hlen : its.toArray.size = xs.length := by rw [List.size_toArray]; exact r.length.symm
  refine ⟨"tuple", _, PyProof.Rows.slot_tuple_getitem.lookup, ht.typeIs, ?_⟩
  by_cases hw : HT.sIx xs.length 0 lo = 0 ∧ HT.sIx xs.length xs.length hi = xs.length
  · exact getItem_tuple_whole ht hs pl pu (by rw [hlen]; exact hw) ⟨.ref a, H, I, rfl, q1 hw⟩
  · refine HT.getItem_tuple_cut ht hs pl pu (by rw [hlen]; exact hw) ?_ (by rw [hlen]; exact hz)
    rw [hlen]
    exact newT_ep I ((r.drop (HT.sIx xs.length 0 lo)).take (HT.sIx xs.length xs.length hi - HT.sIx xs.length 0 lo)) (Nat.le_trans (cutV_length xs lo hi) hz) (q2 hw)
/-- t * k, k at least 2 -/
def rRepN (K : PySem.W.Frag) : R2 := fun x y H Q => ∃ l k xs, x = .ref l ∧ y = .int k ∧ SqT K H l xs ∧ xs ≠ [] ∧ 2 ≤ k ∧ k ≤ 1000 ∧ xs.length ≤ 1000 ∧ NewT Q H (List.replicate k.toNat xs).flatten
theorem op_repN : OpR X (binaryOp .Mult) (rRepN X.K) := by
  intro pins s σ H x y v u Q I rx ry h
  obtain ⟨l, k, xs, rfl, rfl, hT, hne, h1, h2, hz, q⟩ := h
  cases rx
  obtain ⟨t, rfl⟩ := ry
  obtain ⟨its, r, ⟨⟨cls, dd, data, sl⟩, ho, hc, n, hd⟩, hs⟩ := I.tuple hT
  simp only at hc hd
  subst hc hd
  have hle : its.length = xs.length := r.length.symm
  have h0 : 0 < xs.length := List.length_pos_iff.mpr hne
  have hi : its.toArray.isEmpty = false := by
    cases its with
    | nil => simp at hle; omega
    | cons a b => rfl
  have a1 : k.toNat * xs.length ≤ 1000 * 1000 := Nat.mul_le_mul (by omega) hz
  have a2 : ((its.toArray.size : Nat) : Int) * k ≤ 1000000 := by
    have : ((its.toArray.size : Nat) : Int) * k ≤ 1000 * k := Int.mul_le_mul_of_nonneg_right (by rw [List.size_toArray]; omega) (by omega)
    omega
  have fl : (List.replicate k.toNat xs).flatten.length ≤ sizeLine := by
    rw [PyProof.Rows.lm_len_rep_flat, sizeLine_eq]; omega
  have fl2 : (List.replicate k.toNat its).flatten.length ≤ sizeLine := by
    rw [PyProof.Rows.lm_len_rep_flat, hle, sizeLine_eq]; omega
  refine wpAny_binaryOp_repeat_ref (T := "tuple") (U := "int") (by decide) ⟨_, ho, rfl⟩ (fun s' => typeIs_int s' k t) L2.noFill_tuple_mul PySem.F.fills_int_mul PySem.F.slot_int_rmul L2.repeat_tuple PySem.F.slot_int_index.lookup
    (call_meets PySem.F.slot_int_rmul (typeIs_int s k t) PySem.F.entry_int_rmul (PySem.F.args_int_rmul_2 _ _) (L2.int_rmul_tuple k t l its.toArray n dd sl)
      ⟨ho, rfl, ⟨_, ho, rfl⟩, call_meets PySem.F.slot_tuple_mul ⟨_, ho, rfl⟩ PySem.F.entry_tuple_mul (PySem.F.args_tuple_mul_2 _ _) (L2.tuple_mulW l its.toArray n dd sl k t
        (by rw [decide_eq_false (by omega), decide_eq_false (by omega)] <;> rfl) (by rw [hi, Bool.false_or]; exact beq_eq_false_iff_ne.mpr (by omega)) (by rw [hi, Bool.or_false]; exact decide_eq_false (by omega)) (by omega)
        (by unfold Builtin.Tuple.tupleTooMany; rw [sizeLine_eq]; exact decide_eq_false (by omega)) (by rw [size_rep, List.size_toArray]; exact fl2)) ⟨ho, ?_⟩⟩)
  rw [size_rep]
  exact newT_ep I (r.rep k.toNat) fl q
end
end PD
/-! PDSim: the data stand in the machine's heap so. -/
namespace PD
open PySem PySem.Spec PyProof.Rows L2

/-- B: what never changes; ι: where the store's things stand -/
structure G where
  B : Hp
  ι : List Addr

mutual
inductive Rep (K : PySem.W.Frag) (g : G) : D → V → Prop
  | non : Rep K g .non .non
  | bl (b : Bool) : Rep K g (.bl b) (.bl b)
  | int (i : Int) : Rep K g (.int i) (.int i)
  | str (x : Str) : Rep K g (.str x) (.str x)
  | tup {ds : List D} {a : Addr} {vs : List V} : SqN K g.B a vs → vs.length ≤ sizeLine → Reps K g ds vs → Rep K g (.tup ds) (.ref a)
  | tpl {ds : List D} {a : Addr} {vs : List V} : SqT K g.B a vs → vs.length ≤ sizeLine → Reps K g ds vs → Rep K g (.tpl ds) (.ref a)
  | lst {ds : List D} {a : Addr} {vs : List V} : g.B a = some (.lst vs) → vs.length ≤ sizeLine → Reps K g ds vs → Rep K g (.lst ds) (.ref a)
  | fz {ds : List D} {a : Addr} {vs : List V} : SqL K g.B a vs → vs.length ≤ sizeLine → Reps K g ds vs → Rep K g (.fz ds) (.ref a)
  | ref {l : Nat} {a : Addr} : g.ι[l]? = some a → Rep K g (.ref l) (.ref a)
  | dk {ks : List Key} {ds : List D} {a : Addr} {vs : List V} : g.B a = some (.dK (ks.zip vs)) → ks.length = vs.length → Reps K g ds vs → Rep K g (.dk ks ds) (.ref a)
  | raw (v : V) : Rep K g (.raw v) v
inductive Reps (K : PySem.W.Frag) (g : G) : List D → List V → Prop
  | nil : Reps K g [] []
  | cons {d : D} {v : V} {ds : List D} {vs : List V} : Rep K g d v → Reps K g ds vs → Reps K g (d :: ds) (v :: vs)
end
theorem sqT_mono {K : PySem.W.Frag} {B B' : Hp} {a : Addr} {vs : List V} (h : ∀ a o, B a = some o → B' a = some o) : SqT K B a vs → SqT K B' a vs
  | .inl (.inl e) => .inl (.inl (h _ _ e))
  | .inl (.inr ⟨o, e⟩) => .inl (.inr ⟨o, h _ _ e⟩)
  | .inr x => .inr x
theorem sqL_mono {K : PySem.W.Frag} {B B' : Hp} {a : Addr} {vs : List V} (h : ∀ a o, B a = some o → B' a = some o) : SqL K B a vs → SqL K B' a vs
  | .inl (.inl e) => .inl (.inl (h _ _ e))
  | .inl (.inr ⟨o, e⟩) => .inl (.inr ⟨o, h _ _ e⟩)
  | .inr x => .inr x
theorem rd_mono {B B' : Hp} {a : Addr} {u : HO} (h : ∀ a o, B a = some o → B' a = some o) : Rd B a u → Rd B' a u
  | .inl e => .inl (h _ _ e)
  | .inr ⟨o, e⟩ => .inr ⟨o, h _ _ e⟩
/-- g' holds what g holds -/
structure Ge (g g' : G) : Prop where
  b : ∀ a o, g.B a = some o → g'.B a = some o
  i : ∀ (l : Nat) (a : Addr), g.ι[l]? = some a → g'.ι[l]? = some a
theorem Ge.refl (g : G) : Ge g g := ⟨fun _ _ h => h, fun _ _ h => h⟩
theorem Ge.trans {a b c : G} (h : Ge a b) (k : Ge b c) : Ge a c := ⟨fun x o e => k.b x o (h.b x o e), fun l x e => k.i l x (h.i l x e)⟩
mutual
theorem Rep.mono {K : PySem.W.Frag} {g g' : G} (h : Ge g g') : ∀ {d : D} {v : V}, Rep K g d v → Rep K g' d v
  | _, _, .non => .non
  | _, _, .bl b => .bl b
  | _, _, .int b => .int b
  | _, _, .str b => .str b
  | _, _, .tup q l r => .tup (sqN_mono h.b q) l (Reps.mono h r)
  | _, _, .tpl q l r => .tpl (sqT_mono h.b q) l (Reps.mono h r)
  | _, _, .lst q l r => .lst (h.b _ _ q) l (Reps.mono h r)
  | _, _, .fz q l r => .fz (sqL_mono h.b q) l (Reps.mono h r)
  | _, _, .ref e => .ref (h.i _ _ e)
  | _, _, .dk e l r => .dk (h.b _ _ e) l (Reps.mono h r)
  | _, _, .raw v => .raw v
theorem Reps.mono {K : PySem.W.Frag} {g g' : G} (h : Ge g g') : ∀ {ds : List D} {vs : List V}, Reps K g ds vs → Reps K g' ds vs
  | _, _, .nil => .nil
  | _, _, .cons a t => .cons (Rep.mono h a) (Reps.mono h t)
end
theorem Reps.length {K : PySem.W.Frag} {g : G} : ∀ {ds : List D} {vs : List V}, Reps K g ds vs → ds.length = vs.length
  | _, _, .nil => rfl
  | _, _, .cons _ t => by rw [List.length_cons, List.length_cons, Reps.length t]
theorem Reps.get {K : PySem.W.Frag} {g : G} : ∀ {ds : List D} {vs : List V} {i : Nat} {d : D}, Reps K g ds vs → ds[i]? = some d → ∃ v, vs[i]? = some v ∧ Rep K g d v
  | _, _, _, _, .nil, e => by simp at e
  | _, _, 0, _, .cons a _, e => by simp at e; subst e; exact ⟨_, rfl, a⟩
  | _, _, i + 1, _, .cons _ t, e => by
    obtain ⟨v, h1, h2⟩ := Reps.get (i := i) t (by simpa using e)
    exact ⟨v, by simpa using h1, h2⟩
theorem Reps.getV {K : PySem.W.Frag} {g : G} {ds : List D} {vs : List V} {i : Nat} {v : V} (r : Reps K g ds vs) (e : vs[i]? = some v) : ∃ d, ds[i]? = some d ∧ Rep K g d v := by
  have hl := r.length
  have hi : i < vs.length := (List.getElem?_eq_some_iff.mp e).1
  have e2 : ds[i]? = some ds[i] := List.getElem?_eq_getElem (by omega)
  obtain ⟨v', h1, h2⟩ := r.get e2
  rw [e] at h1; cases h1
  exact ⟨_, e2, h2⟩
theorem Reps.append {K : PySem.W.Frag} {g : G} : ∀ {ds es : List D} {vs ws : List V}, Reps K g ds vs → Reps K g es ws → Reps K g (ds ++ es) (vs ++ ws)
  | _, _, _, _, .nil, s => s
  | _, _, _, _, .cons a t, s => .cons a (Reps.append t s)
theorem Reps.set {K : PySem.W.Frag} {g : G} {d : D} {v : V} (h : Rep K g d v) : ∀ {ds : List D} {vs : List V} (i : Nat), Reps K g ds vs → Reps K g (ds.set i d) (vs.set i v)
  | _, _, _, .nil => .nil
  | _, _, 0, .cons _ t => .cons h t
  | _, _, i + 1, .cons a t => .cons a (Reps.set h i t)
theorem Reps.drop {K : PySem.W.Frag} {g : G} : ∀ {ds : List D} {vs : List V} (n : Nat), Reps K g ds vs → Reps K g (ds.drop n) (vs.drop n)
  | _, _, 0, h => h
  | _, _, _ + 1, .nil => .nil
  | _, _, n + 1, .cons _ t => Reps.drop n t
theorem Reps.take {K : PySem.W.Frag} {g : G} : ∀ {ds : List D} {vs : List V} (n : Nat), Reps K g ds vs → Reps K g (ds.take n) (vs.take n)
  | _, _, 0, _ => .nil
  | _, _, _ + 1, .nil => .nil
  | _, _, n + 1, .cons a t => .cons a (Reps.take n t)
theorem Reps.one {K : PySem.W.Frag} {g : G} {d : D} {v : V} (h : Rep K g d v) : Reps K g [d] [v] := .cons h .nil
theorem Reps.replicate {K : PySem.W.Frag} {g : G} {ds : List D} {vs : List V} (h : Reps K g ds vs) : ∀ n : Nat, Reps K g (List.replicate n ds).flatten (List.replicate n vs).flatten
  | 0 => .nil
  | n + 1 => by
    rw [List.replicate_succ, List.replicate_succ, List.flatten_cons, List.flatten_cons]
    exact h.append (Reps.replicate h n)

/-- a thing of the store stands at a -/
def ObjR (K : PySem.W.Frag) (g : G) (H : Hp) (a : Addr) : MO → Prop
  | .lst xs => ∃ vs, g.B a = none ∧ H a = some (.lst vs) ∧ vs.length ≤ sizeLine ∧ Reps K g xs vs
  | .dk ks xs => ∃ vs, g.B a = none ∧ H a = some (.dK (ks.zip vs)) ∧ ks.length = vs.length ∧ Reps K g xs vs
  | .gone => True
/-- the heap holds the data -/
structure Sim (K : PySem.W.Frag) (T : List (Addr × Str)) (g : G) (st : Sto) (H : Hp) : Prop where
  sub : ∀ a o, g.B a = some o → H a = some o
  len : g.ι.length = st.length
  nd : g.ι.Nodup
  there : ∀ a, a ∈ g.ι → ∃ o, H a = some o ∧ ∀ ps, o ≠ .tbl ps
  obj : ∀ (l : Nat) (a : Addr) (mo : MO), g.ι[l]? = some a → st[l]? = some mo → ObjR K g H a mo
  tabs : LamX.Tabs T H
  tb : ∀ a o, g.B a = some o → ∀ ps, o ≠ .tbl ps
/-- from g, H on to g', H' -/
structure Le (g g' : G) (H H' : Hp) : Prop where
  ge : Ge g g'
  fr : ∀ a o, H a = some o → g.B a = none → a ∉ g.ι → (∀ ps, o ≠ .tbl ps) → H' a = some o ∧ g'.B a = none ∧ a ∉ g'.ι
theorem Le.refl (g : G) (H : Hp) : Le g g H H := ⟨Ge.refl g, fun _ _ h1 h2 h3 _ => ⟨h1, h2, h3⟩⟩
theorem Le.trans {a b c : G} {H H1 H2 : Hp} (h : Le a b H H1) (k : Le b c H1 H2) : Le a c H H2 :=
  ⟨h.ge.trans k.ge, fun x o e1 e2 e3 e4 => let ⟨f1, f2, f3⟩ := h.fr x o e1 e2 e3 e4; k.fr x o f1 f2 f3 e4⟩

section
variable {K : PySem.W.Frag} {T : List (Addr × Str)} {g g' : G} {st : Sto} {H : Hp} {p a : Addr} {o : HO} {ds xs : List D} {vs : List V}
theorem Sim.freshB (S : Sim K T g st H) (h : H p = none) : g.B p = none := by
  cases e : g.B p with
  | none => rfl
  | some o => rw [S.sub p o e] at h; cases h
theorem Sim.freshI (S : Sim K T g st H) (h : H p = none) : p ∉ g.ι := fun hp => by
  obtain ⟨o, e, _⟩ := S.there p hp
  rw [h] at e; cases e
theorem ObjR.mono {mo : MO} {H' : Hp} (h : ObjR K g H a mo) (q : Ge g g') (hb : g.B a = none → g'.B a = none) (hh : ∀ o, H a = some o → H' a = some o) : ObjR K g' H' a mo := by
  cases mo with
  | lst xs => obtain ⟨vs, h1, h2, h3, h4⟩ := h; exact ⟨vs, hb h1, hh _ h2, h3, h4.mono q⟩
  | dk ks xs => obtain ⟨vs, h1, h2, h3, h4⟩ := h; exact ⟨vs, hb h1, hh _ h2, h3, h4.mono q⟩
  | gone => trivial
/-- a new thing that never changes -/
theorem Sim.allocB (S : Sim K T g st H) (h : H p = none) (ho : ∀ ps, o ≠ .tbl ps) : Sim K T ⟨upd g.B p o, g.ι⟩ st (upd H p o) ∧ Le g ⟨upd g.B p o, g.ι⟩ H (upd H p o) := by
  have hB := S.freshB h
  have hI := S.freshI h
  have ge : Ge g ⟨upd g.B p o, g.ι⟩ := ⟨fun a u e => by show upd g.B p o a = some u; rw [upd_ne (ne_of_none e hB)]; exact e, fun _ _ e => e⟩
  have nι : ∀ {l : Nat} {b : Addr}, g.ι[l]? = some b → b ≠ p := fun e z => hI (z ▸ List.mem_of_getElem? e)
  refine ⟨⟨fun a u e => ?_, S.len, S.nd, fun b hb => ?_, fun l b mo e1 e2 => ?_, S.tabs.ext fun b u e => by rw [upd_ne (ne_of_none e h)]; exact e, fun a u e ps => ?_⟩, ge, fun b u e1 e2 e3 e4 => ?_⟩
  · have e : upd g.B p o a = some u := e
    by_cases ha : a = p
    · subst ha; rw [upd_same] at e ⊢; exact e
    · rw [upd_ne ha] at e ⊢; exact S.sub a u e
  · obtain ⟨u, e, q⟩ := S.there b hb
    exact ⟨u, by rw [upd_ne (ne_of_none e h)]; exact e, q⟩
  · exact (S.obj l b mo e1 e2).mono ge (fun z => by show upd g.B p o b = none; rw [upd_ne (nι e1)]; exact z) fun u z => by rw [upd_ne (nι e1)]; exact z
  · by_cases ha : a = p
    · subst ha
      have e' : some o = some u := by rw [← e]; exact upd_same.symm
      cases e'; exact ho ps
    · have e' : g.B a = some u := by rw [← e]; exact (upd_ne ha).symm
      exact S.tb a u e' ps
  · have hb : b ≠ p := ne_of_none e1 h
    exact ⟨by rw [upd_ne hb]; exact e1, by show upd g.B p o b = none; rw [upd_ne hb]; exact e2, e3⟩
/-- a new list that may be changed -/
theorem Sim.allocM (S : Sim K T g st H) (h : H p = none) (hz : vs.length ≤ sizeLine) (r : Reps K g xs vs) :
    Sim K T ⟨g.B, g.ι ++ [p]⟩ (st ++ [.lst xs]) (upd H p (.lst vs)) ∧ Le g ⟨g.B, g.ι ++ [p]⟩ H (upd H p (.lst vs)) ∧ Rep K ⟨g.B, g.ι ++ [p]⟩ (.ref st.length) (.ref p) := by
  have hB := S.freshB h
  have hI := S.freshI h
  have ge : Ge g ⟨g.B, g.ι ++ [p]⟩ := ⟨fun a u e => e, fun l a e => by
    show (g.ι ++ [p])[l]? = some a
    rw [List.getElem?_append_left (List.getElem?_eq_some_iff.mp e).1]; exact e⟩
  refine ⟨⟨fun a u e => ?_, by simp [S.len], ?_, fun b hb => ?_, fun l b mo e1 e2 => ?_, S.tabs.ext fun b u e => by rw [upd_ne (ne_of_none e h)]; exact e, S.tb⟩, ⟨ge, fun b u e1 e2 e3 e4 => ?_⟩, .ref ?_⟩
  · rw [upd_ne (ne_of_none e hB)]; exact S.sub a u e
  · exact List.nodup_append.mpr ⟨S.nd, by simp, fun a ha b hb => by
      have : b = p := by simpa using hb
      subst this
      exact fun z => hI (z ▸ ha)⟩
  · rcases List.mem_append.mp hb with hb | hb
    · obtain ⟨u, e, q⟩ := S.there b hb
      exact ⟨u, by rw [upd_ne (ne_of_none e h)]; exact e, q⟩
    · have : b = p := by simpa using hb
      subst this
      exact ⟨_, upd_same, fun ps z => by cases z⟩
  · have e1' : (g.ι ++ [p])[l]? = some b := e1
    by_cases hl : l < g.ι.length
    · rw [List.getElem?_append_left hl] at e1'
      rw [List.getElem?_append_left (by rw [← S.len]; exact hl)] at e2
      have nb : b ≠ p := fun z => hI (z ▸ List.mem_of_getElem? e1')
      exact (S.obj l b mo e1' e2).mono ge (fun z => z) fun u z => by rw [upd_ne nb]; exact z
    · rw [List.getElem?_append_right (by omega)] at e1'
      rw [List.getElem?_append_right (by rw [← S.len]; omega)] at e2
      have hl0 : l - g.ι.length = 0 := by
        have := (List.getElem?_eq_some_iff.mp e1').1
        simp at this; exact this
      rw [hl0] at e1'
      rw [← S.len, hl0] at e2
      simp at e1' e2
      subst e1' e2
      exact ⟨vs, hB, upd_same, hz, r.mono ge⟩
  · have hb : b ≠ p := ne_of_none e1 h
    exact ⟨by rw [upd_ne hb]; exact e1, e2, fun z => (List.mem_append.mp z).elim e3 fun q => hb (by simpa using q)⟩
  · show (g.ι ++ [p])[st.length]? = some p
    rw [← S.len, List.getElem?_append_right (Nat.le_refl _)]; simp
/-- a list of the store is written -/
theorem Sim.write {l : Nat} {xs' : List D} {vs' : List V} (S : Sim K T g st H) (hl : g.ι[l]? = some a) (hs : st[l]? = some (.lst xs)) (hz : vs'.length ≤ sizeLine) (r : Reps K g xs' vs') :
    Sim K T g (st.set l (.lst xs')) (upd H a (.lst vs')) ∧ Le g g H (upd H a (.lst vs')) := by
  obtain ⟨vs, hB, hH, _, _⟩ := S.obj l a _ hl hs
  have ha : a ∈ g.ι := List.mem_of_getElem? hl
  have hls : l < st.length := (List.getElem?_eq_some_iff.mp hs).1
  refine ⟨⟨fun b u e => ?_, by rw [List.length_set]; exact S.len, S.nd, fun b hb => ?_, fun k b mo e1 e2 => ?_, fun q hq => ?_, S.tb⟩, Ge.refl g, fun b u e1 e2 e3 e4 => ⟨?_, e2, e3⟩⟩
  · rw [upd_ne (ne_of_none e hB)]; exact S.sub b u e
  · by_cases hb' : b = a
    · subst hb'; exact ⟨_, upd_same, fun ps z => by cases z⟩
    · obtain ⟨u, e, q⟩ := S.there b hb
      exact ⟨u, by rw [upd_ne hb']; exact e, q⟩
  · by_cases hk : k = l
    · subst hk
      rw [hl] at e1; cases e1
      rw [List.getElem?_set_self hls] at e2; cases e2
      exact ⟨vs', hB, upd_same, hz, r⟩
    · rw [List.getElem?_set_ne (Ne.symm hk)] at e2
      have nb : b ≠ a := fun z => hk (by
        subst z
        obtain ⟨h1, q1⟩ := List.getElem?_eq_some_iff.mp e1
        obtain ⟨h2, q2⟩ := List.getElem?_eq_some_iff.mp hl
        exact (List.getElem_inj S.nd).mp (q1.trans q2.symm))
      exact (S.obj k b mo e1 e2).mono (Ge.refl g) (fun z => z) fun u z => by rw [upd_ne nb]; exact z
  · obtain ⟨ps, h1, h2, h3⟩ := S.tabs q hq
    have n1 : q.1 ≠ a := fun z => by rw [z, hH] at h1; cases h1
    refine ⟨ps, by rw [upd_ne n1]; exact h1, h2, fun pos cv hc => ?_⟩
    obtain ⟨c, e1, e2⟩ := h3 pos cv hc
    have n2 : c ≠ a := fun z => by rw [z, hH] at e2; cases e2
    exact ⟨c, e1, by rw [upd_ne n2]; exact e2⟩
  · rw [upd_ne (fun z => e3 (by rw [z]; exact ha))]; exact e1
/-- reading -/
theorem Sim.tup (S : Sim K T g st H) {v : V} (r : Rep K g (.tup ds) v) : ∃ a vs, v = .ref a ∧ SqT K H a vs ∧ vs.length ≤ sizeLine ∧ Reps K g ds vs := by
  cases r with
  | tup q l r => exact ⟨_, _, rfl, sqT_mono S.sub q.t, l, r⟩
theorem Sim.tupN (S : Sim K T g st H) {v : V} (r : Rep K g (.tup ds) v) : ∃ a vs, v = .ref a ∧ SqN K H a vs ∧ vs.length ≤ sizeLine ∧ Reps K g ds vs := by
  cases r with
  | tup q l r => exact ⟨_, _, rfl, sqN_mono S.sub q, l, r⟩
theorem Sim.tpl (S : Sim K T g st H) {v : V} (r : Rep K g (.tpl ds) v) : ∃ a vs, v = .ref a ∧ SqT K H a vs ∧ vs.length ≤ sizeLine ∧ Reps K g ds vs := by
  cases r with
  | tpl q l r => exact ⟨_, _, rfl, sqT_mono S.sub q, l, r⟩
theorem Sim.litems (S : Sim K T g st H) {d : D} {v : V} (r : Rep K g d v) (e : litems st d = some xs) : ∃ a vs, v = .ref a ∧ H a = some (.lst vs) ∧ vs.length ≤ sizeLine ∧ Reps K g xs vs := by
  cases r with
  | lst q l r =>
    simp only [PD.litems, Option.some.injEq] at e
    subst e
    exact ⟨_, _, rfl, S.sub _ _ q, l, r⟩
  | ref hl =>
    rename_i l a
    simp only [PD.litems] at e
    cases q : st[l]? with
    | none => rw [q] at e; cases e
    | some mo =>
      rw [q] at e
      cases mo with
      | lst ys =>
        simp only [Option.some.injEq] at e
        subst e
        obtain ⟨vs, _, h2, h3, h4⟩ := S.obj l a _ hl q
        exact ⟨_, vs, rfl, h2, h3, h4⟩
      | _ => cases e
  | _ => cases e
theorem Sim.items (S : Sim K T g st H) {d : D} {v : V} (r : Rep K g d v) (e : items st d = some xs) : ∃ a vs, v = .ref a ∧ (SqL K H a vs ∨ SqT K H a vs) ∧ vs.length ≤ sizeLine ∧ Reps K g xs vs := by
  cases d with
  | tup ys =>
    simp only [PD.items, Option.some.injEq] at e
    subst e
    obtain ⟨a, vs, h1, h2, h3, h4⟩ := S.tup r
    exact ⟨a, vs, h1, .inr h2, h3, h4⟩
  | lst ys =>
    obtain ⟨a, vs, h1, h2, h3, h4⟩ := S.litems (xs := xs) r e
    exact ⟨a, vs, h1, .inl (SqL.of h2), h3, h4⟩
  | fz ys =>
    simp only [PD.items, Option.some.injEq] at e
    subst e
    cases r with
    | fz q l r => exact ⟨_, _, rfl, .inl (sqL_mono S.sub q), l, r⟩
  | ref l =>
    obtain ⟨a, vs, h1, h2, h3, h4⟩ := S.litems (xs := xs) r e
    exact ⟨a, vs, h1, .inl (SqL.of h2), h3, h4⟩
  | _ => cases e
end

/-! ### slots -/
structure EnvR (K : PySem.W.Frag) (g : G) (σ : L2.St) (ρ : Ev) : Prop where
  len : σ.length = ρ.length
  at_ : ∀ (i : Nat) (d : D), ρ[i]? = some (some d) → ∃ v, σ[i]? = some (some v) ∧ Rep K g d v
theorem EnvR.mono {K : PySem.W.Frag} {g g' : G} {σ : L2.St} {ρ : Ev} (h : EnvR K g σ ρ) (q : Ge g g') : EnvR K g' σ ρ :=
  ⟨h.len, fun i d e => let ⟨v, a, b⟩ := h.at_ i d e; ⟨v, a, b.mono q⟩⟩
theorem EnvR.set {K : PySem.W.Frag} {g : G} {σ : L2.St} {ρ : Ev} {d : D} {v : V} (h : EnvR K g σ ρ) (i : Nat) (r : Rep K g d v) : EnvR K g (σ.set i (some v)) (ρ.set i (some d)) := by
  refine ⟨by rw [List.length_set, List.length_set, h.len], fun j e hj => ?_⟩
  by_cases hij : i = j
  · subst hij
    have hi : i < ρ.length := by
      have := (List.getElem?_eq_some_iff.mp hj).1
      rwa [List.length_set] at this
    rw [List.getElem?_set_self hi] at hj
    cases hj
    exact ⟨v, List.getElem?_set_self (by rw [h.len]; exact hi), r⟩
  · rw [List.getElem?_set_ne hij] at hj
    rw [List.getElem?_set_ne hij]
    exact h.at_ j e hj
theorem EnvR.gone {K : PySem.W.Frag} {g : G} {σ : L2.St} {ρ : Ev} (h : EnvR K g σ ρ) (i : Nat) : EnvR K g (σ.set i none) (ρ.set i none) := by
  refine ⟨by rw [List.length_set, List.length_set, h.len], fun j e hj => ?_⟩
  by_cases hij : i = j
  · subst hij
    have hi : i < ρ.length := by
      have := (List.getElem?_eq_some_iff.mp hj).1
      rwa [List.length_set] at this
    rw [List.getElem?_set_self hi] at hj
    cases hj
  · rw [List.getElem?_set_ne hij] at hj
    rw [List.getElem?_set_ne hij]
    exact h.at_ j e hj
theorem EnvR.wipe {K : PySem.W.Frag} {g : G} {σ : L2.St} {ρ : Ev} (h : EnvR K g σ ρ) : ∀ vs : List Nat, EnvR K g (L2.wipe σ vs) (wipeD ρ vs)
  | [] => h
  | v :: vs => (EnvR.wipe h vs).gone v

/-! ### what is wanted -/
/-- the layer's constants: the written part, the tables, the module's names -/
structure Z where
  K : PySem.W.Frag
  T : List (Addr × Str)
  mg : Str → Option Value
def clsV (z : Z) (n : Str) : Value := (z.mg n).getD .none
/-- an exception's own dict -/
def XRep (z : Z) (g : G) (H : Hp) (fs : List (Str × D)) (dx : Option Addr) : Prop :=
  (fs = [] ∧ dx = none) ∨ ∃ a vs, dx = some a ∧ fs ≠ [] ∧ H a = some (.xd ((fs.map (·.1)).zip vs)) ∧ Reps z.K g (fs.map (·.2)) vs
def Sat {α : Type} (o : Out α) (P : α → Sto → Prop) (X : Str → List (Str × D) → Sto → Prop) : Prop := match o with
  | .ok a st => P a st
  | .exc n fs st => X n fs st
  | .bad => False
theorem sat_bind {α β : Type} {o : Out α} {f : α → Sto → Out β} {P : β → Sto → Prop} {X : Str → List (Str × D) → Sto → Prop} (h : Sat (o.bind f) P X) : Sat o (fun a st => Sat (f a st) P X) X := by
  cases o <;> exact h
theorem sat_bind' {α β : Type} {o : Out α} {f : α → Sto → Out β} {P : β → Sto → Prop} {X : Str → List (Str × D) → Sto → Prop} (h : Sat o (fun a st => Sat (f a st) P X) X) : Sat (o.bind f) P X := by
  cases o <;> exact h
theorem Sat.mono {α : Type} {o : Out α} {P P' : α → Sto → Prop} {X X' : Str → List (Str × D) → Sto → Prop} (h : Sat o P X) (hp : ∀ a st, P a st → P' a st) (hx : ∀ n fs st, X n fs st → X' n fs st) : Sat o P' X' := by
  cases o with
  | ok a st => exact hp _ _ h
  | exc n fs st => exact hx _ _ _ h
  | bad => exact h
/-- what is wanted of an exception, from g, H on -/
def XPost (z : Z) (W : WX) (σ : L2.St) (g : G) (H : Hp) : Str → List (Str × D) → Sto → Prop := fun n fs st => ∀ g' H' dx, Le g g' H H' → Sim z.K z.T g' st H' → XRep z g' H' fs dx → W (clsV z n) dx σ H'
theorem XPost.mono {z : Z} {W : WX} {σ : L2.St} {g g1 : G} {H H1 : Hp} (l : Le g g1 H H1) {n : Str} {fs : List (Str × D)} {st : Sto} (h : XPost z W σ g H n fs st) : XPost z W σ g1 H1 n fs st :=
  fun g' H' dx l' => h g' H' dx (l.trans l')
def VPost (z : Z) (Q : VK) (g : G) (H : Hp) : D → Sto → Prop := fun d st => ∀ g' H' v, Le g g' H H' → Sim z.K z.T g' st H' → Rep z.K g' d v → Q v H'
theorem VPost.mono {z : Z} {Q : VK} {g g1 : G} {H H1 : Hp} (l : Le g g1 H H1) {d : D} {st : Sto} (h : VPost z Q g H d st) : VPost z Q g1 H1 d st :=
  fun g' H' v l' => h g' H' v (l.trans l')
/-- an expression's value -/
abbrev EPost (z : Z) (W : WX) (σ : L2.St) (Q : VK) (g : G) (H : Hp) (o : Out D) : Prop := Sat o (VPost z Q g H) (XPost z W σ g H)
theorem EPost.mono {z : Z} {W : WX} {σ : L2.St} {Q : VK} {g g1 : G} {H H1 : Hp} {o : Out D} (l : Le g g1 H H1) (h : EPost z W σ Q g H o) : EPost z W σ Q g1 H1 o :=
  Sat.mono h (fun _ _ q => q.mono l) fun _ _ _ q => q.mono l
def BPost (z : Z) (Q : Bool → Hp → Prop) (g : G) (H : Hp) : Bool → Sto → Prop := fun b st => ∀ g' H', Le g g' H H' → Sim z.K z.T g' st H' → Q b H'
abbrev TPost (z : Z) (W : WX) (σ : L2.St) (Q : Bool → Hp → Prop) (g : G) (H : Hp) (o : Out Bool) : Prop := Sat o (BPost z Q g H) (XPost z W σ g H)
theorem TPost.mono {z : Z} {W : WX} {σ : L2.St} {Q : Bool → Hp → Prop} {g g1 : G} {H H1 : Hp} {o : Out Bool} (l : Le g g1 H H1) (h : TPost z W σ Q g H o) : TPost z W σ Q g1 H1 o :=
  Sat.mono h (fun _ _ q g' H' l' => q g' H' (l.trans l')) fun _ _ _ q => q.mono l
def LPost (z : Z) (Q : List V → Hp → Prop) (g : G) (H : Hp) : List D → Sto → Prop := fun ds st => ∀ g' H' vs, Le g g' H H' → Sim z.K z.T g' st H' → Reps z.K g' ds vs → Q vs H'
abbrev APost (z : Z) (W : WX) (σ : L2.St) (Q : List V → Hp → Prop) (g : G) (H : Hp) (o : Out (List D)) : Prop := Sat o (LPost z Q g H) (XPost z W σ g H)
theorem APost.mono {z : Z} {W : WX} {σ : L2.St} {Q : List V → Hp → Prop} {g g1 : G} {H H1 : Hp} {o : Out (List D)} (l : Le g g1 H H1) (h : APost z W σ Q g H o) : APost z W σ Q g1 H1 o :=
  Sat.mono h (fun _ _ q g' H' vs l' => q g' H' vs (l.trans l')) fun _ _ _ q => q.mono l
/-- behind a statement -/
def SPost (z : Z) (W : WX) (D : Ends) (g : G) (H : Hp) (r : Option (Fl × Sto)) : Prop := match r with
  | none => False
  | some (fl, st) => ∀ g' H', Le g g' H H' → Sim z.K z.T g' st H' → match fl with
    | .nx ρ => ∀ σ, EnvR z.K g' σ ρ → D.nx σ H'
    | .rt d => ∀ v, Rep z.K g' d v → D.rt v H'
    | .bk ρ => ∀ σ, EnvR z.K g' σ ρ → D.bk σ H'
    | .ct ρ => ∀ σ, EnvR z.K g' σ ρ → D.ct σ H'
    | .ex n fs ρ => ∀ σ dx, EnvR z.K g' σ ρ → XRep z g' H' fs dx → W (clsV z n) dx σ H'
theorem SPost.mono {z : Z} {W : WX} {D : Ends} {g g1 : G} {H H1 : Hp} {r : Option (Fl × Sto)} (l : Le g g1 H H1) (h : SPost z W D g H r) : SPost z W D g1 H1 r := by
  cases r with
  | none => exact h
  | some p => obtain ⟨fl, st⟩ := p; exact fun g' H' l' => h g' H' (l.trans l')
/-- from what is wanted of a statement made of an Out -/
theorem st_sat {α : Type} {z : Z} {W : WX} {D : Ends} {g : G} {H : Hp} {o : Out α} {ρ : Ev} {σ : L2.St} {k : α → Sto → Option (Fl × Sto)} (E : EnvR z.K g σ ρ) (h : SPost z W D g H (o.st ρ k)) : Sat o (fun a st => SPost z W D g H (k a st)) (XPost z W σ g H) := by
  cases o with
  | ok a st => exact h
  | exc n fs st => exact fun g' H' dx l S x => h g' H' l S σ dx (E.mono l.ge) x
  | bad => exact h

/-! ### readings -/
def tD (z : Z) (W : WX) (f : SE) : TE := fun σ H Q => ∃ g ρ st, Sim z.K z.T g st H ∧ EnvR z.K g σ ρ ∧ EPost z W σ Q g H (f ρ st)
def tDT (z : Z) (W : WX) (f : ST) : TT := fun σ H Q => ∃ g ρ st, Sim z.K z.T g st H ∧ EnvR z.K g σ ρ ∧ TPost z W σ Q g H (f ρ st)
def tDA (z : Z) (W : WX) (f : SA) : TA := fun σ H Q => ∃ g ρ st, Sim z.K z.T g st H ∧ EnvR z.K g σ ρ ∧ APost z W σ Q g H (f ρ st)
def tDS (z : Z) (W : WX) (f : SS) : TS := fun D σ H => ∃ g ρ st, Sim z.K z.T g st H ∧ EnvR z.K g σ ρ ∧ SPost z W D g H (f ρ st)
/-- an iterator J gives the items ds -/
structure WalkD (z : Z) (g : G) (J : It) (ds : List D) (dy : Dy) : Prop where
  go : ∀ g2 H2 st2 (i : Nat) (d0 d : D), Ge g g2 → Sim z.K z.T g2 st2 H2 → ds[i]? = some d0 → fetch dy i d0 st2 = some d →
    J.go i H2 ∧ ∀ x H3, J.yld i H2 x H3 → ∃ g3, Le g2 g3 H2 H3 ∧ Sim z.K z.T g3 st2 H3 ∧ Rep z.K g3 d x
  stop : ∀ g2 H2 st2, Ge g g2 → Sim z.K z.T g2 st2 H2 → finOk dy ds.length st2 = true → J.stop ds.length H2
def IPost (z : Z) (R : It → Hp → Prop) (g : G) (H : Hp) : List D × Dy → Sto → Prop := fun p st => ∀ g' H' J, Le g g' H H' → Sim z.K z.T g' st H' → WalkD z g' J p.1 p.2 → R J H'
def tDI (z : Z) (W : WX) (f : SI) : TI := fun σ H R => ∃ g ρ st, Sim z.K z.T g st H ∧ EnvR z.K g σ ρ ∧ Sat (f ρ st) (IPost z R g H) (XPost z W σ g H)

theorem PE.wk {X : Cx} {e : Expr} {t t' : TE} (h : PE X e t) (k : ∀ σ H Q, t' σ H Q → t σ H Q) : PE X e t' := ⟨fun pins s σ H Q I q => h.run pins s σ H Q I (k σ H Q q)⟩
theorem PT.wk {X : Cx} {e : Expr} {t t' : TT} (h : PT X e t) (k : ∀ σ H Q, t' σ H Q → t σ H Q) : PT X e t' := ⟨fun pins s σ H Q I q => h.run pins s σ H Q I (k σ H Q q)⟩
theorem PW.wk {X : Cx} {e : Expr} {t t' : TT} (h : PW X e t) (k : ∀ σ H Q, t' σ H Q → t σ H Q) : PW X e t' := ⟨fun wh pins s σ H Q I q => h.run wh pins s σ H Q I (k σ H Q q)⟩
theorem PA.wk {X : Cx} {es : List Expr} {t t' : TA} (h : PA X es t) (k : ∀ σ H Q, t' σ H Q → t σ H Q) : PA X es t' := ⟨fun pos pins s σ H Q I q => h.run pos pins s σ H Q I (k σ H Q q)⟩
theorem PS.wk {X : Cx} {e : Stmt} {t t' : TS} (h : PS X e t) (k : ∀ D σ H, t' D σ H → t D σ H) : PS X e t' := ⟨fun pins s σ H D I q => h.run pins s σ H D I (k D σ H q)⟩
theorem PSs.wk {X : Cx} {e : List Stmt} {t t' : TS} (h : PSs X e t) (k : ∀ D σ H, t' D σ H → t D σ H) : PSs X e t' := ⟨fun pins s σ H D I q => h.run pins s σ H D I (k D σ H q)⟩
theorem PI.wk {X : Cx} {tg e : Expr} {t t' : TI} (h : PI X tg e t) (k : ∀ σ H R, t' σ H R → t σ H R) : PI X tg e t' := ⟨fun pins s σ H R I q => h.run pins s σ H R I (k σ H R q)⟩
end PD
/-! PDRules: for each piece of Python its rule over the data. -/
namespace PD
open PySem PySem.Spec PyProof.Rows L2

abbrev zX (X : Cx) (T : List (Addr × Str)) : Z := ⟨X.K, T, X.mg⟩

section
variable {X : Cx} {T : List (Addr × Str)} {W : WX} {a b c e : Expr} {es : List Expr} {fa fb fc fe : SE} {fs : SA} {ft fu : ST} {pos p : Pos} {x : Str}

/-! ### names, constants -/
theorem pd_var {i : Nat} (hN : X.N[i]? = some x) (hv : Vis X.env.scope x) (hd : (x == ("__debug__" : Str)) = false := by decide) (hcd : (x == ("__classdict__" : Str)) = false := by decide) : PE X (.Name x pos) (tD (zX X T) W (sVar i)) :=
  PE.wk (pe_var hN hv hd hcd) fun σ H Q ⟨g, ρ, st, S, E, h⟩ => by
    unfold sVar at h
    split at h
    · rename_i d hd
      obtain ⟨v, e1, r⟩ := E.at_ _ _ hd
      exact ⟨v, e1, h g H v (Le.refl g H) S r⟩
    · exact h.elim
theorem EPost.val {z : Z} {W : WX} {σ : L2.St} {Q : VK} {g : G} {H : Hp} {d : D} {st : Sto} {v : V} (S : Sim z.K z.T g st H) (r : ∀ g, Rep z.K g d v) (h : EPost z W σ Q g H (.ok d st)) : Q v H := h g H v (Le.refl g H) S (r g)
theorem pd_int {i : Int} {j : Nat} : PE X (.Constant (.int i) j pos) (tD (zX X T) W (sC (.int i))) := PE.wk pe_int fun σ H Q ⟨g, ρ, st, S, E, h⟩ => EPost.val S (fun _ => .int i) h
theorem pd_bl {i : Bool} {j : Nat} : PE X (.Constant (.bool i) j pos) (tD (zX X T) W (sC (.bl i))) := PE.wk pe_bl fun σ H Q ⟨g, ρ, st, S, E, h⟩ => EPost.val S (fun _ => .bl i) h
theorem pd_non {j : Nat} : PE X (.Constant .none j pos) (tD (zX X T) W (sC .non)) := PE.wk pe_non fun σ H Q ⟨g, ρ, st, S, E, h⟩ => EPost.val S (fun _ => .non) h
theorem pd_str {i : Str} {j : Nat} : PE X (.Constant (.str i) j pos) (tD (zX X T) W (sC (.str i))) := PE.wk pe_str fun σ H Q ⟨g, ρ, st, S, E, h⟩ => EPost.val S (fun _ => .str i) h
/-- a number, a text of the top -/
theorem pd_gint {i : Int} (hg : Gl X x) (hm : ∃ t, X.mg x = some (.int i t)) (hd : (x == ("__debug__" : Str)) = false := by decide) : PE X (.Name x pos) (tD (zX X T) W (sC (.int i))) := by
  obtain ⟨t, hm⟩ := hm
  exact PE.wk (pe_glob (v := .int i) hg hm ⟨t, rfl⟩ hd) fun σ H Q ⟨g, ρ, st, S, E, h⟩ => EPost.val S (fun _ => .int i) h
theorem pd_gstr {i : Str} (hg : Gl X x) (hm : ∃ t, X.mg x = some (.str i t)) (hd : (x == ("__debug__" : Str)) = false := by decide) : PE X (.Name x pos) (tD (zX X T) W (sC (.str i))) := by
  obtain ⟨t, hm⟩ := hm
  exact PE.wk (pe_glob (v := .str i) hg hm ⟨t, rfl⟩ hd) fun σ H Q ⟨g, ρ, st, S, E, h⟩ => EPost.val S (fun _ => .str i) h

/-! ### two-place operations -/
/-- f is what r does -/
def Does2 (X : Cx) (T : List (Addr × Str)) (r : R2) (f : D → D → Sto → Out D) : Prop :=
  ∀ (W : WX) (σ : L2.St) (g : G) (st : Sto) (H : Hp) (dx dy : D) (x y : V) (Q : VK), Sim X.K T g st H → Rep X.K g dx x → Rep X.K g dy y → EPost (zX X T) W σ Q g H (f dx dy st) → r x y H Q
theorem wk2 {r : R2} {f : D → D → Sto → Out D} (h : Does2 X T r f) : ∀ σ H Q, tD (zX X T) W (s2 f fa fb) σ H Q → tOp r (tD (zX X T) W fa) (tD (zX X T) W fb) σ H Q := by
  rintro σ H Q ⟨g, ρ, st, S, E, q⟩
  refine ⟨g, ρ, st, S, E, Sat.mono (sat_bind q) (fun d st1 q1 g1 H1 v L1 S1 r1 => ?_) fun _ _ _ q => q⟩
  refine ⟨g1, ρ, st1, S1, E.mono L1.ge, Sat.mono (sat_bind q1) (fun d2 st2 q2 g2 H2 v2 L2 S2 r2 => ?_) fun _ _ _ q => q.mono L1⟩
  exact h W σ g2 st2 H2 d d2 v v2 Q S2 (r1.mono L2.ge) r2 (EPost.mono (L1.trans L2) q2)
theorem pd_op {op : Operator} {r : R2} {f : D → D → Sto → Out D} (ho : OpR X (binaryOp op) r) (h : Does2 X T r f) (ha : PE X a (tD (zX X T) W fa)) (hb : PE X b (tD (zX X T) W fb)) : PE X (.BinOp a op b pos) (tD (zX X T) W (s2 f fa fb)) := PE.wk (pe_op ho ha hb) (wk2 h)
theorem pd_cmp {op : CmpOp} {r : R2} {f : D → D → Sto → Out D} (ho : OpR X (compareOp op) r) (h : Does2 X T r f) (ha : PE X a (tD (zX X T) W fa)) (hb : PE X b (tD (zX X T) W fb)) (hm : behindInMarks op b = false) : PE X (.Compare a [op] [b] pos) (tD (zX X T) W (s2 f fa fb)) := PE.wk (pe_cmpR ho ha hb hm) (wk2 h)
/-- a reading whose value is a bool, as a test -/
theorem wkB {t : TE} {f : SE} (h : ∀ σ H Q, tD (zX X T) W f σ H Q → t σ H Q) : ∀ σ H Q, tDT (zX X T) W (tBl f) σ H Q → tTest t σ H Q := by
  rintro σ H Q ⟨g, ρ, st, S, E, q⟩
  refine h σ H _ ⟨g, ρ, st, S, E, Sat.mono (sat_bind q) (fun d st1 q1 g1 H1 v L1 S1 r1 => ?_) fun _ _ _ q => q⟩
  cases d with
  | bl k => cases r1; exact ⟨k, rfl, q1 g1 H1 L1 S1⟩
  | _ => exact q1.elim
theorem pt_cmpD {op : CmpOp} {r : R2} {f : D → D → Sto → Out D} (ho : OpR X (compareOp op) r) (h : Does2 X T r f) (ha : PE X a (tD (zX X T) W fa)) (hb : PE X b (tD (zX X T) W fb)) (hm : behindInMarks op b = false) : PT X (.Compare a [op] [b] pos) (tDT (zX X T) W (tBl (s2 f fa fb))) := PT.wk (pt_cmpR ho ha hb hm) (wkB (wk2 h))

theorem does_add : Does2 X T (fun x y H Q => (rI0 fun i j => V.int (i + j)) x y H Q ∨ (∃ i j, x = .str i ∧ y = .str j ∧ i.length + j.length ≤ sizeLine ∧ Q (.str (i ++ j)) H) ∨ rCatN X.K x y H Q ∨ rCat x y H Q) fAdd := by
  intro W σ g st H dx dy x y Q S rx ry h
  unfold fAdd at h
  split at h
  · cases rx; cases ry; exact .inl ⟨_, _, rfl, rfl, EPost.val S (fun _ => .int _) h⟩
  · cases rx; cases ry
    split at h
    · rename_i hz
      exact .inr (.inl ⟨_, _, rfl, rfl, hz, EPost.val S (fun _ => .str _) h⟩)
    · exact h.elim
  · rename_i xs ys
    split at h
    · rename_i hz
      obtain ⟨a, vs, rfl, h1, h2, h3⟩ := S.tup rx
      obtain ⟨b, ws, rfl, k1, k2, k3⟩ := S.tup ry
      have e1 := h3.length
      have e2 := k3.length
      have rall := h3.append k3
      refine .inr (.inr (.inl ⟨a, b, vs, ws, rfl, rfl, h1, k1, by omega, fun z => ?_, fun z z2 => ?_, fun z z2 p o hp ho => ?_⟩))
      · subst z
        have : xs = [] := by cases h3; rfl
        subst this
        exact h g H _ (Le.refl g H) S ry
      · subst z2
        have : ys = [] := by cases k3; rfl
        subst this
        rw [List.append_nil] at h
        exact h g H _ (Le.refl g H) S rx
      · obtain ⟨S', L'⟩ := S.allocB (o := .frz o (.tup (vs ++ ws))) hp (fun _ => by simp)
        exact h _ _ _ L' S' (.tup (SqN.of ho) (by rw [List.length_append]; omega) (rall.mono L'.ge))
    · exact h.elim
  · split at h
    · rename_i xs ys q1 q2
      split at h
      · rename_i hz
        obtain ⟨a, vs, rfl, h1, h2, h3⟩ := S.litems rx q1
        obtain ⟨b, ws, rfl, k1, k2, k3⟩ := S.litems ry q2
        have e1 := h3.length
        have e2 := k3.length
        refine .inr (.inr (.inr ⟨a, b, vs, ws, rfl, rfl, h1, k1, by omega, fun p hp => ?_⟩))
        obtain ⟨S', L'⟩ := S.allocB (o := .lst (vs ++ ws)) hp (fun _ => by simp)
        exact h _ _ _ L' S' (.lst upd_same (by rw [List.length_append]; omega) ((h3.append k3).mono L'.ge))
      · exact h.elim
    · exact h.elim
theorem or_add : OpR X (binaryOp .Add) (fun x y H Q => (rI0 fun i j => V.int (i + j)) x y H Q ∨ (∃ i j, x = .str i ∧ y = .str j ∧ i.length + j.length ≤ sizeLine ∧ Q (.str (i ++ j)) H) ∨ rCatN X.K x y H Q ∨ rCat x y H Q) :=
  op_add.or (op_add_str.or (op_catN.or op_cat))
theorem pd_add (ha : PE X a (tD (zX X T) W fa)) (hb : PE X b (tD (zX X T) W fb)) : PE X (.BinOp a .Add b pos) (tD (zX X T) W (s2 fAdd fa fb)) := pd_op or_add does_add ha hb
theorem pd_sub (ha : PE X a (tD (zX X T) W fa)) (hb : PE X b (tD (zX X T) W fb)) : PE X (.BinOp a .Sub b pos) (tD (zX X T) W (s2 fSub fa fb)) := pd_op op_sub (by
  intro W σ g st H dx dy x y Q S rx ry h
  unfold fSub at h
  split at h
  · cases rx; cases ry; exact ⟨_, _, rfl, rfl, EPost.val S (fun _ => .int _) h⟩
  · exact h.elim) ha hb
theorem small_ok {i : Int} (h : small i = true) : -(2 ^ 64) < i ∧ i < 2 ^ 64 := by
  unfold small at h
  simpa [Bool.and_eq_true] using h
theorem pd_mul (ha : PE X a (tD (zX X T) W fa)) (hb : PE X b (tD (zX X T) W fb)) : PE X (.BinOp a .Mult b pos) (tD (zX X T) W (s2 fMul fa fb)) := pd_op op_mul (by
  intro W σ g st H dx dy x y Q S rx ry h
  unfold fMul at h
  split at h
  · split at h
    · rename_i hz
      cases rx; cases ry
      refine ⟨_, _, rfl, rfl, ?_, EPost.val S (fun _ => .int _) h⟩
      rcases Bool.or_eq_true_iff.mp hz with z | z
      · exact .inl (small_ok z)
      · exact .inr (small_ok z)
    · exact h.elim
  · exact h.elim) ha hb
theorem pd_div (ha : PE X a (tD (zX X T) W fa)) (hb : PE X b (tD (zX X T) W fb)) : PE X (.BinOp a .FloorDiv b pos) (tD (zX X T) W (s2 fDiv fa fb)) := pd_op op_fdiv (by
  intro W σ g st H dx dy x y Q S rx ry h
  unfold fDiv at h
  split at h
  · split at h
    · rename_i hz
      cases rx; cases ry
      exact ⟨_, _, rfl, rfl, hz, EPost.val S (fun _ => .int _) h⟩
    · exact h.elim
  · exact h.elim) ha hb
theorem pd_mod (ha : PE X a (tD (zX X T) W fa)) (hb : PE X b (tD (zX X T) W fb)) : PE X (.BinOp a .Mod b pos) (tD (zX X T) W (s2 fMod fa fb)) := pd_op op_mod (by
  intro W σ g st H dx dy x y Q S rx ry h
  unfold fMod at h
  split at h
  · split at h
    · rename_i hz
      cases rx; cases ry
      exact ⟨_, _, rfl, rfl, hz, EPost.val S (fun _ => .int _) h⟩
    · exact h.elim
  · exact h.elim) ha hb
theorem pd_pow (ha : PE X a (tD (zX X T) W fa)) (hb : PE X b (tD (zX X T) W fb)) : PE X (.BinOp a .Pow b pos) (tD (zX X T) W (s2 fPow fa fb)) := pd_op op_pow (by
  intro W σ g st H dx dy x y Q S rx ry h
  unfold fPow at h
  split at h
  · split at h
    · rename_i hz
      cases rx; cases ry
      exact ⟨_, _, rfl, rfl, ⟨hz.1, hz.2.1, Nat.lt_of_le_of_lt hz.2.2 (by decide +kernel)⟩, EPost.val S (fun _ => .int _) h⟩
    · exact h.elim
  · exact h.elim) ha hb
/-- a new list lies at p -/
theorem newL_ok {m : Bool} {σ : L2.St} {Q : VK} {g : G} {H : Hp} {st : Sto} {xs : List D} {vs : List V} (S : Sim X.K T g st H) (hz : vs.length ≤ sizeLine) (r : Reps X.K g xs vs) (h : EPost (zX X T) W σ Q g H (newL m xs st)) :
    ∀ p, H p = none → Q (.ref p) (upd H p (.lst vs)) := fun p hp => by
  cases m with
  | true =>
    obtain ⟨S', L', r'⟩ := S.allocM hp hz r
    exact h _ _ _ L' S' r'
  | false =>
    obtain ⟨S', L'⟩ := S.allocB (o := .lst vs) hp (fun _ => by simp)
    exact h _ _ _ L' S' (.lst upd_same hz (r.mono L'.ge))
/-- xs * n -/
theorem pd_rep (m : Bool) (ha : PE X a (tD (zX X T) W fa)) (hb : PE X b (tD (zX X T) W fb)) : PE X (.BinOp a .Mult b pos) (tD (zX X T) W (s2 (fRep m) fa fb)) := pd_op op_rep (by
  intro W σ g st H dx dy x y Q S rx ry h
  unfold fRep at h
  split at h
  · rename_i xs k q
    split at h
    · rename_i hz
      obtain ⟨a, vs, rfl, h1, h2, h3⟩ := S.litems rx q
      cases ry
      have e1 := h3.length
      refine ⟨a, k, vs, rfl, rfl, h1, Int.le_trans (by decide +kernel) hz.1, Int.lt_of_le_of_lt hz.2.1 (by decide +kernel), by rw [← e1]; exact hz.2.2, newL_ok S ?_ (h3.replicate _) h⟩
      have : ((List.replicate k.toNat vs).flatten).length = k.toNat * vs.length := by simp [List.length_flatten]
      rw [this, Nat.mul_comm, ← e1]; exact hz.2.2
    · exact h.elim
  · exact h.elim) ha hb

/-! ### comparisons -/
theorem does_cmp {q : Int → Int → Bool} : Does2 X T (rI0 fun i j => .bl (q i j)) (fCmp q) := by
  intro W σ g st H dx dy x y Q S rx ry h
  unfold fCmp at h
  split at h
  · cases rx; cases ry; exact ⟨_, _, rfl, rfl, EPost.val S (fun _ => .bl _) h⟩
  · exact h.elim
theorem atomPy_dp {g : G} {K : PySem.W.Frag} {H : Hp} {d : D} {v : V} {p : PyData} (r : Rep K g d v) (e : atomPy d = some p) : Dp K H v p ∧ p.canLay0 = true ∧ p.depth = 0 := by
  cases d with
  | non => cases r; cases e; exact ⟨.non, rfl, rfl⟩
  | bl b => cases r; cases e; exact ⟨.bl b, rfl, rfl⟩
  | int b => cases r; cases e; exact ⟨.int b, rfl, rfl⟩
  | str b =>
    cases r
    unfold atomPy at e
    dsimp only at e
    split at e
    · rename_i hc
      cases e; exact ⟨.str b, hc, rfl⟩
    · cases e
  | _ => cases e
theorem allSome_cons {α : Type} {x : Option α} {r : List (Option α)} {ys : List α} (h : allSome (x :: r) = some ys) : ∃ y ys', x = some y ∧ allSome r = some ys' ∧ ys = y :: ys' := by
  cases x with
  | none => cases h
  | some y =>
    unfold allSome at h
    cases q : allSome r with
    | none => rw [q] at h; cases h
    | some ys' => rw [q] at h; cases h; exact ⟨y, ys', rfl, rfl, rfl⟩
theorem depthAll_cons {x : PyData} {xs : List PyData} : PyData.depthAll (x :: xs) = max x.depth (PyData.depthAll xs) := rfl
/-- what the data are as plain data -/
theorem toPy_dp {g : G} {K : PySem.W.Frag} {st : Sto} {H : Hp} (S : Sim K T g st H) : ∀ (n : Nat) {d : D} {v : V} {p : PyData}, Rep K g d v → toPy st n d = some p → Dp K H v p ∧ p.canLay0 = true ∧ p.depth ≤ n
  | 0, d, v, p, r, e => by
    obtain ⟨h1, h2, h3⟩ := atomPy_dp (H := H) r e
    exact ⟨h1, h2, by omega⟩
  | n + 1, d, v, p, r, e => by
    have all : ∀ (xs : List D) {vs : List V} {ps : List PyData}, Reps K g xs vs → allSome (xs.map (toPy st n)) = some ps → DpAll K H vs ps ∧ PyData.canLayAll0 ps = true ∧ PyData.depthAll ps ≤ n := by
      intro xs
      induction xs with
      | nil => intro vs ps r e; cases r; cases e; exact ⟨.nil, rfl, Nat.zero_le _⟩
      | cons x xs ih =>
        intro vs ps r e
        rw [List.map_cons] at e
        obtain ⟨y, ys, e1, e2, rfl⟩ := allSome_cons e
        cases r with
        | cons r1 r2 =>
          obtain ⟨h1, h2, h3⟩ := toPy_dp S n r1 e1
          obtain ⟨k1, k2, k3⟩ := ih r2 e2
          refine ⟨.cons h1 k1, ?_, ?_⟩
          · show (PyData.canLay0 y && PyData.canLayAll0 ys) = true
            rw [h2, k2]; rfl
          · rw [depthAll_cons]; omega
    cases d with
    | tup xs =>
      obtain ⟨a, vs, rfl, h1, h2, h3⟩ := S.tup r
      unfold toPy at e
      dsimp only at e
      cases q : allSome (xs.map (toPy st n)) with
      | none => rw [q] at e; cases e
      | some ps =>
        rw [q] at e; cases e
        obtain ⟨k1, k2, k3⟩ := all xs h3 q
        exact ⟨.tup h1 k1, k2, Nat.succ_le_succ k3⟩
    | tpl xs => cases e
    | lst xs =>
      obtain ⟨a, vs, rfl, h1, h2, h3⟩ := S.litems (xs := xs) r rfl
      unfold toPy at e
      dsimp only at e
      cases q : allSome (xs.map (toPy st n)) with
      | none => rw [q] at e; cases e
      | some ps =>
        rw [q] at e; cases e
        obtain ⟨k1, k2, k3⟩ := all xs h3 q
        exact ⟨.lst (SqL.of h1) k1, k2, Nat.succ_le_succ k3⟩
    | ref l =>
      unfold toPy at e
      dsimp only at e
      cases hs : st[l]? with
      | none => rw [hs] at e; cases e
      | some mo =>
        rw [hs] at e
        cases mo with
        | lst xs =>
          dsimp only at e
          obtain ⟨a, vs, rfl, h1, h2, h3⟩ := S.litems (xs := xs) r (by unfold litems; dsimp only; rw [hs])
          cases q : allSome (xs.map (toPy st n)) with
          | none => rw [q] at e; cases e
          | some ps =>
            rw [q] at e; cases e
            obtain ⟨k1, k2, k3⟩ := all xs h3 q
            exact ⟨.lst (SqL.of h1) k1, k2, Nat.succ_le_succ k3⟩
        | _ => cases e
    | non => obtain ⟨h1, h2, h3⟩ := atomPy_dp (H := H) r (show atomPy .non = some p from e); exact ⟨h1, h2, by omega⟩
    | bl b => obtain ⟨h1, h2, h3⟩ := atomPy_dp (H := H) r (show atomPy (.bl b) = some p from e); exact ⟨h1, h2, by omega⟩
    | int b => obtain ⟨h1, h2, h3⟩ := atomPy_dp (H := H) r (show atomPy (.int b) = some p from e); exact ⟨h1, h2, by omega⟩
    | str b => obtain ⟨h1, h2, h3⟩ := atomPy_dp (H := H) r (show atomPy (.str b) = some p from e); exact ⟨h1, h2, by omega⟩
    | fz xs => cases (show (none : Option PyData) = some p from e)
    | dk ks xs => cases (show (none : Option PyData) = some p from e)
    | raw v => cases (show (none : Option PyData) = some p from e)
theorem shaped_of {p : PyData} (h : p.canLay0 = true) (h2 : p.depth ≤ 64) : SeqAt.shaped p = true := by
  unfold SeqAt.shaped
  rw [h, decide_eq_true h2]; rfl
theorem toPys_dp {g : G} {K : PySem.W.Frag} {st : Sto} {H : Hp} (S : Sim K T g st H) (n : Nat) {xs : List D} {vs : List V} {ps : List PyData} (r : Reps K g xs vs) (e : toPys st n xs = some ps) : DpAll K H vs ps ∧ PyData.canLayAll0 ps = true ∧ PyData.depthAll ps ≤ n := by
  unfold toPys at e
  induction xs generalizing vs ps with
  | nil => cases r; cases e; exact ⟨.nil, rfl, Nat.zero_le _⟩
  | cons x xs ih =>
    rw [List.map_cons] at e
    obtain ⟨y, ys, e1, e2, rfl⟩ := allSome_cons e
    cases r with
    | cons r1 r2 =>
      obtain ⟨h1, h2, h3⟩ := toPy_dp S n r1 e1
      obtain ⟨k1, k2, k3⟩ := ih r2 e2
      refine ⟨.cons h1 k1, ?_, ?_⟩
      · show (PyData.canLay0 y && PyData.canLayAll0 ys) = true
        rw [h2, k2]; rfl
      · rw [depthAll_cons]; omega
theorem does_eq : Does2 X T (rEqD X.K) fEq := by
  intro W σ g st H dx dy x y Q S rx ry h
  unfold fEq at h
  split at h
  · rename_i p q e1 e2
    obtain ⟨h1, h2, h3⟩ := toPy_dp S 60 rx e1
    obtain ⟨k1, k2, k3⟩ := toPy_dp S 60 ry e2
    exact ⟨p, q, h1, k1, shaped_of h2 (by omega), shaped_of k2 (by omega), EPost.val S (fun _ => .bl _) h⟩
  · exact h.elim
theorem does_ne : Does2 X T (rNeD X.K) fNe := by
  intro W σ g st H dx dy x y Q S rx ry h
  unfold fNe at h
  split at h
  · rename_i p q e1 e2
    obtain ⟨h1, h2, h3⟩ := toPy_dp S 60 rx e1
    obtain ⟨k1, k2, k3⟩ := toPy_dp S 60 ry e2
    exact ⟨p, q, h1, k1, shaped_of h2 (by omega), shaped_of k2 (by omega), EPost.val S (fun _ => .bl _) h⟩
  · exact h.elim
theorem isNon_rep {K : PySem.W.Frag} {g : G} {d : D} {v : V} (r : Rep K g d v) (h : rawD d = false) : decide (v = .non) = isNonD d := by
  cases r <;> first | rfl | exact absurd (show true = false from h) (by decide)
theorem does_isN : Does2 X T (fun x y H Q => y = .non ∧ Q (.bl (decide (x = .non))) H) fIsN2 := by
  intro W σ g st H dx dy x y Q S rx ry h
  cases dy with
  | non =>
    have h : EPost (zX X T) W σ Q g H (fIsN dx st) := h
    unfold fIsN at h
    cases ry
    split at h
    · exact h.elim
    · rename_i hr
      refine ⟨rfl, ?_⟩
      rw [isNon_rep rx (by simpa using hr)]
      exact EPost.val S (fun _ => .bl _) h
  | _ => exact h.elim
theorem does_notN : Does2 X T (fun x y H Q => y = .non ∧ Q (.bl (!decide (x = .non))) H) fNotN2 := by
  intro W σ g st H dx dy x y Q S rx ry h
  cases dy with
  | non =>
    have h : EPost (zX X T) W σ Q g H (fNotN dx st) := h
    unfold fNotN at h
    cases ry
    split at h
    · exact h.elim
    · rename_i hr
      refine ⟨rfl, ?_⟩
      rw [isNon_rep rx (by simpa using hr)]
      exact EPost.val S (fun _ => .bl _) h
  | _ => exact h.elim
theorem flat_eq {K : PySem.W.Frag} {g : G} {st : Sto} {n : Nat} {d e : D} {v w : V} {p q : PyData} (rd : Rep K g d v) (re : Rep K g e w) (hd : flatD d = true) (he : flatD e = true) (h1 : toPy st n d = some p) (h2 : toPy st n e = some q) : flatV v = true ∧ PyData.eqv p q = eqV v w := by
  have a1 : atomPy d = some p := by cases d <;> first | (cases n <;> exact h1) | exact absurd (show false = true from hd) Bool.false_ne_true
  have a2 : atomPy e = some q := by cases e <;> first | (cases n <;> exact h2) | exact absurd (show false = true from he) Bool.false_ne_true
  have s1 : ∀ {s : Str} {p : PyData}, atomPy (.str s) = some p → p = .str s := fun {s p} h => by
    unfold atomPy at h
    dsimp only at h
    split at h
    · cases h; rfl
    · cases h
  cases rd <;> first
    | exact absurd (show false = true from hd) Bool.false_ne_true
    | (cases re <;> first
        | exact absurd (show false = true from he) Bool.false_ne_true
        | (refine ⟨rfl, ?_⟩
           first
             | (have b1 := s1 a1; have b2 := s1 a2; subst b1; subst b2; done)
             | (have b1 := s1 a1; have b2 := s1 a2; subst b1; subst b2; rfl)
             | (have b1 := s1 a1; subst b1; cases a2; rfl)
             | (have b2 := s1 a2; subst b2; cases a1; rfl)
             | (cases a1; cases a2; rfl)))
end
end PD
/-! PDRules2: membership, truth, arguments, displays, calls, subscripts. -/
namespace PD
open PySem PySem.Spec PyProof.Rows L2
section
variable {X : Cx} {T : List (Addr × Str)} {W : WX} {a b c e : Expr} {es : List Expr} {fa fb fc fe : SE} {fs : SA} {ft fu : ST} {pos p : Pos} {x : Str}

/-! ### in, not in -/
def rInA (K : PySem.W.Frag) : R2 := fun x y H Q => rIn K false x y H Q ∨ rInD K x y H Q
def rNotInA (K : PySem.W.Frag) : R2 := fun x y H Q => rIn K true x y H Q ∨ rNotInD K x y H Q
theorem flats {K : PySem.W.Frag} {g : G} {st : Sto} {n : Nat} {d : D} {v : V} {p : PyData} (rd : Rep K g d v) (hd : flatD d = true) (h1 : toPy st (n + 1) d = some p) :
    ∀ {ys : List D} {vs : List V} {ps : List PyData}, Reps K g ys vs → ys.all flatD = true → toPys st n ys = some ps → vs.all flatV = true ∧ inPy p ps = inV v vs := by
  have h1' : toPy st n d = some p := by
    cases d <;> first | (cases n <;> exact h1) | exact absurd (show false = true from hd) Bool.false_ne_true
  intro ys
  induction ys with
  | nil => intro vs ps r _ e; cases r; cases e; exact ⟨rfl, rfl⟩
  | cons y ys ih =>
    intro vs ps r ha e
    unfold toPys at e
    rw [List.map_cons] at e
    obtain ⟨q, qs, e1, e2, rfl⟩ := allSome_cons e
    cases r with
    | cons r1 r2 =>
      rw [List.all_cons, Bool.and_eq_true_iff] at ha
      obtain ⟨k1, k2⟩ := ih r2 ha.2 e2
      obtain ⟨f1, f2⟩ := flat_eq r1 rd ha.1 hd e1 h1'
      refine ⟨by rw [List.all_cons, f1, k1]; rfl, ?_⟩
      unfold inPy inV at k2 ⊢
      rw [List.any_cons, List.any_cons, f2, k2]
theorem flatV_of {K : PySem.W.Frag} {g : G} {d : D} {v : V} (rd : Rep K g d v) (hd : flatD d = true) : flatV v = true := by
  cases rd <;> first | rfl | exact absurd (show false = true from hd) Bool.false_ne_true
theorem in_core {g : G} {st : Sto} {H : Hp} {dx dy : D} {x y : V} {P : Bool → Prop} (S : Sim X.K T g st H) (rx : Rep X.K g dx x) (ry : Rep X.K g dy y)
    (h : Sat (fIn0 dx dy st) (fun b st' => st' = st → P b) (fun _ _ _ => False)) :
    (∃ p xs, y = .ref p ∧ (SqL X.K H p xs ∨ SqT X.K H p xs) ∧ flatV x = true ∧ xs.all flatV = true ∧ P (inV x xs)) ∨
      (∃ d ds, Dp X.K H x d ∧ Dp X.K H y (.list ds) ∧ SeqAt.shaped d = true ∧ SeqAt.shaped (.list ds) = true ∧ P (ds.any fun z => PyData.eqv z d)) := by
  unfold fIn0 at h
  split at h
  · rename_i p e1
    split at h
    · rename_i ys
      split at h
      · rename_i hf
        rw [Bool.and_eq_true_iff] at hf
        split at h
        · rename_i ps e2
          obtain ⟨a, vs, rfl, h1, h2, h3⟩ := S.tup ry
          obtain ⟨k1, k2⟩ := flats rx hf.1 e1 h3 hf.2 e2
          refine .inl ⟨a, vs, rfl, .inr h1, flatV_of rx hf.1, k1, ?_⟩
          rw [← k2]; exact h rfl
        · exact h.elim
      · exact h.elim
    · split at h
      · rename_i ys e3
        split at h
        · rename_i ps e2
          obtain ⟨a, vs, rfl, h1, h2, h3⟩ := S.litems ry e3
          obtain ⟨q1, q2, q3⟩ := toPy_dp S 60 rx e1
          obtain ⟨k1, k2, k3⟩ := toPys_dp S 59 h3 e2
          exact .inr ⟨p, ps, q1, .lst (SqL.of h1) k1, shaped_of q2 (by omega), shaped_of (p := .list ps) k2 (by show PyData.depthAll ps + 1 ≤ 64; omega), h rfl⟩
        · exact h.elim
      · exact h.elim
  · exact h.elim
theorem fIn0_st {x y : D} {st : Sto} {P : Bool → Sto → Prop} {E : Str → List (Str × D) → Sto → Prop} (h : Sat (fIn0 x y st) P E) : Sat (fIn0 x y st) (fun b _ => P b st) (fun _ _ _ => False) := by
  have key : fIn0 x y st = .bad ∨ ∃ b, fIn0 x y st = .ok b st := by
    unfold fIn0
    repeat' (first | exact .inl rfl | exact .inr ⟨_, rfl⟩ | split)
  rcases key with k | ⟨b, k⟩
  · rw [k] at h; exact h.elim
  · rw [k] at h ⊢; exact h
theorem does_in : Does2 X T (rInA X.K) fIn := by
  intro W σ g st H dx dy x y Q S rx ry h
  refine in_core (P := fun b => Q (.bl b) H) S rx ry (Sat.mono (fIn0_st (sat_bind h)) (fun b st' q _ => ?_) fun _ _ _ q => q)
  exact EPost.val (W := W) (σ := σ) S (fun _ => .bl b) q
theorem does_notIn : Does2 X T (rNotInA X.K) fNotIn := by
  intro W σ g st H dx dy x y Q S rx ry h
  refine in_core (P := fun b => Q (.bl (!b)) H) S rx ry (Sat.mono (fIn0_st (sat_bind h)) (fun b st' q _ => ?_) fun _ _ _ q => q)
  exact EPost.val (W := W) (σ := σ) S (fun _ => .bl (!b)) q
theorem or_in (hu : X.A.units + 65 < cLine) : OpR X (compareOp .In) (rInA X.K) := op_in_seq.or (op_inD hu)
theorem or_notIn (hu : X.A.units + 65 < cLine) : OpR X (compareOp .NotIn) (rNotInA X.K) := op_notIn_seq.or (op_notInD hu)

/-! ### truth -/
theorem tru_of {g : G} {st : Sto} {H : Hp} {d : D} {v : V} {k : Bool} (S : Sim X.K T g st H) (r : Rep X.K g d v) (h : truD st d = some k) : TruV X.K v H k := by
  cases d with
  | non => cases r; cases h; exact rfl
  | bl b => cases r; cases h; exact rfl
  | int i => cases r; cases h; exact rfl
  | tup xs =>
    obtain ⟨a, vs, rfl, h1, h2, h3⟩ := S.tup r
    cases h
    exact .inr (.inl ⟨vs, h1, by cases h3 <;> rfl⟩)
  | lst xs =>
    obtain ⟨a, vs, rfl, h1, h2, h3⟩ := S.litems (xs := xs) r rfl
    cases h
    exact .inl ⟨vs, SqL.of h1, by cases h3 <;> rfl⟩
  | ref l =>
    unfold truD at h
    dsimp only at h
    split at h
    · rename_i xs hs
      obtain ⟨a, vs, rfl, h1, h2, h3⟩ := S.litems (xs := xs) r (by unfold litems; dsimp only; rw [hs])
      cases h
      exact .inl ⟨vs, SqL.of h1, by cases h3 <;> rfl⟩
    · cases h
  | _ => cases h
theorem pt_tru (ha : PE X a (tD (zX X T) W fa)) (he : ∀ whole, isTrue a X.env whole = (do let v ← whole; standAt a.pos; holding [v] (truthy v)) := by intro _; rfl) : PT X a (tDT (zX X T) W (tTru fa)) :=
  PT.wk (pt_truth ha he) fun σ H Q ⟨g, ρ, st, S, E, q⟩ => by
    refine ⟨g, ρ, st, S, E, Sat.mono (sat_bind q) (fun d st1 q1 g1 H1 v L1 S1 r1 => ?_) fun _ _ _ q => q⟩
    split at q1
    · rename_i k hk
      exact ⟨k, tru_of S1 r1 hk, q1 g1 H1 L1 S1⟩
    · exact q1.elim

/-! ### and, or, not -/
theorem pw_andD1 (h : PT X a (tDT (zX X T) W ft)) : PW X (.BoolOp .And [a] pos) (tDT (zX X T) W ft) := pw_and1 h
theorem pw_orD1 (h : PT X a (tDT (zX X T) W ft)) : PW X (.BoolOp .Or [a] pos) (tDT (zX X T) W ft) := pw_or1 h
theorem pw_andD (h1 : PT X a (tDT (zX X T) W ft)) (h2 : PW X (.BoolOp .And (b :: es) pos) (tDT (zX X T) W fu)) : PW X (.BoolOp .And (a :: b :: es) pos) (tDT (zX X T) W (tAndD ft fu)) :=
  PW.wk (pw_and h1 h2) fun σ H Q ⟨g, ρ, st, S, E, q⟩ => ⟨g, ρ, st, S, E, Sat.mono (sat_bind q) (fun k st1 q1 g1 H1 L1 S1 => by
    cases k with
    | true => exact ⟨g1, ρ, st1, S1, E.mono L1.ge, TPost.mono L1 q1⟩
    | false => exact q1 g1 H1 L1 S1) fun _ _ _ q => q⟩
theorem pw_orD (h1 : PT X a (tDT (zX X T) W ft)) (h2 : PW X (.BoolOp .Or (b :: es) pos) (tDT (zX X T) W fu)) : PW X (.BoolOp .Or (a :: b :: es) pos) (tDT (zX X T) W (tOrD ft fu)) :=
  PW.wk (pw_or h1 h2) fun σ H Q ⟨g, ρ, st, S, E, q⟩ => ⟨g, ρ, st, S, E, Sat.mono (sat_bind q) (fun k st1 q1 g1 H1 L1 S1 => by
    cases k with
    | false => exact ⟨g1, ρ, st1, S1, E.mono L1.ge, TPost.mono L1 q1⟩
    | true => exact q1 g1 H1 L1 S1) fun _ _ _ q => q⟩
theorem pt_notD (h : PT X a (tDT (zX X T) W ft)) : PT X (.UnaryOp .Not a pos) (tDT (zX X T) W (tNotD ft)) :=
  PT.wk (pt_not h) fun σ H Q ⟨g, ρ, st, S, E, q⟩ => ⟨g, ρ, st, S, E, Sat.mono (sat_bind q) (fun k st1 q1 g1 H1 L1 S1 => q1 g1 H1 L1 S1) fun _ _ _ q => q⟩
theorem pe_andD (h1 : PE X a (tD (zX X T) W fa)) (h2 : PE X (.BoolOp .And (b :: es) pos) (tD (zX X T) W fb)) : PE X (.BoolOp .And (a :: b :: es) pos) (tD (zX X T) W (sAnd fa fb)) :=
  PE.wk (pe_and h1 h2) fun σ H Q ⟨g, ρ, st, S, E, q⟩ => ⟨g, ρ, st, S, E, Sat.mono (sat_bind q) (fun d st1 q1 g1 H1 v L1 S1 r1 => by
    cases d with
    | bl k =>
      cases r1
      refine ⟨k, rfl, ?_⟩
      cases k with
      | true => exact ⟨g1, ρ, st1, S1, E.mono L1.ge, EPost.mono L1 q1⟩
      | false => exact q1 g1 H1 _ L1 S1 (.bl _)
    | _ => exact q1.elim) fun _ _ _ q => q⟩
theorem pe_orD (h1 : PE X a (tD (zX X T) W fa)) (h2 : PE X (.BoolOp .Or (b :: es) pos) (tD (zX X T) W fb)) : PE X (.BoolOp .Or (a :: b :: es) pos) (tD (zX X T) W (sOr fa fb)) :=
  PE.wk (pe_or h1 h2) fun σ H Q ⟨g, ρ, st, S, E, q⟩ => ⟨g, ρ, st, S, E, Sat.mono (sat_bind q) (fun d st1 q1 g1 H1 v L1 S1 r1 => by
    cases d with
    | bl k =>
      cases r1
      refine ⟨k, rfl, ?_⟩
      cases k with
      | false => exact ⟨g1, ρ, st1, S1, E.mono L1.ge, EPost.mono L1 q1⟩
      | true => exact q1 g1 H1 _ L1 S1 (.bl _)
    | _ => exact q1.elim) fun _ _ _ q => q⟩
theorem pe_oneD {op : BoolOp} (h : PE X a (tD (zX X T) W fa)) : PE X (.BoolOp op [a] pos) (tD (zX X T) W fa) := pe_one h
theorem pe_notD (h : PE X a (tD (zX X T) W fa)) : PE X (.UnaryOp .Not a pos) (tD (zX X T) W (sNotV fa)) :=
  PE.wk (pe_not h) fun σ H Q ⟨g, ρ, st, S, E, q⟩ => ⟨g, ρ, st, S, E, Sat.mono (sat_bind q) (fun d st1 q1 g1 H1 v L1 S1 r1 => by
    cases d with
    | bl k => cases r1; exact ⟨k, rfl, q1 g1 H1 _ L1 S1 (.bl _)⟩
    | _ => exact q1.elim) fun _ _ _ q => q⟩
theorem pe_ifD (hc : PT X c (tDT (zX X T) W ft)) (ha : PE X a (tD (zX X T) W fa)) (hb : PE X b (tD (zX X T) W fb)) : PE X (.IfExp c a b pos) (tD (zX X T) W (sIf ft fa fb)) :=
  PE.wk (pe_ifExp hc ha hb) fun σ H Q ⟨g, ρ, st, S, E, q⟩ => ⟨g, ρ, st, S, E, Sat.mono (sat_bind q) (fun k st1 q1 g1 H1 L1 S1 => by
    cases k with
    | true => exact ⟨g1, ρ, st1, S1, E.mono L1.ge, EPost.mono L1 q1⟩
    | false => exact ⟨g1, ρ, st1, S1, E.mono L1.ge, EPost.mono L1 q1⟩) fun _ _ _ q => q⟩
/-- a op b op' c -/
theorem wk_chain {r r' : R2} {f f' : D → D → Sto → Out D} (h : Does2 X T r f) (h' : Does2 X T r' f') : ∀ σ H Q, tD (zX X T) W (sChain f f' fa fb fc) σ H Q → tChain r r' (tD (zX X T) W fa) (tD (zX X T) W fb) (tD (zX X T) W fc) σ H Q := by
  rintro σ H Q ⟨g, ρ, st, S, E, q⟩
  refine ⟨g, ρ, st, S, E, Sat.mono (sat_bind q) (fun d st1 q1 g1 H1 v L1 S1 r1 => ?_) fun _ _ _ q => q⟩
  refine ⟨g1, ρ, st1, S1, E.mono L1.ge, Sat.mono (sat_bind q1) (fun d2 st2 q2 g2 H2 v2 L2 S2 r2 => ?_) fun _ _ _ q => q.mono L1⟩
  refine h W σ g2 st2 H2 d d2 v v2 _ S2 (r1.mono L2.ge) r2 (Sat.mono (sat_bind q2) (fun d3 st3 q3 g3 H3 v3 L3 S3 r3 => ?_) fun _ _ _ q => q.mono (L1.trans L2))
  cases d3 with
  | bl k =>
    cases r3
    refine ⟨k, rfl, ?_⟩
    cases k with
    | false => exact q3 g3 H3 _ ((L1.trans L2).trans L3) S3 (.bl _)
    | true =>
      refine ⟨g3, ρ, st3, S3, E.mono ((L1.trans L2).trans L3).ge, Sat.mono (sat_bind q3) (fun d4 st4 q4 g4 H4 v4 L4 S4 r4 => ?_) fun _ _ _ q => q.mono ((L1.trans L2).trans L3)⟩
      exact h' W σ g4 st4 H4 d2 d4 v2 v4 Q S4 (r2.mono (L3.trans L4).ge) r4 (EPost.mono (((L1.trans L2).trans L3).trans L4) q4)
  | _ => exact q3.elim
theorem pe_chainD {op op' : CmpOp} {r r' : R2} {f f' : D → D → Sto → Out D} (ho : OpR X (compareOp op) r) (ho' : OpR X (compareOp op') r') (h : Does2 X T r f) (h' : Does2 X T r' f') (ha : PE X a (tD (zX X T) W fa)) (hb : PE X b (tD (zX X T) W fb)) (hc : PE X c (tD (zX X T) W fc))
    (hm : lastMarks [op, op'] [b, c] = false := by with_unfolding_all rfl) : PE X (.Compare a [op, op'] [b, c] pos) (tD (zX X T) W (sChain f f' fa fb fc)) := PE.wk (pe_chain ho ho' ha hb hc hm) (wk_chain h h')
theorem pt_chainD {op op' : CmpOp} {r r' : R2} {f f' : D → D → Sto → Out D} (ho : OpR X (compareOp op) r) (ho' : OpR X (compareOp op') r') (h : Does2 X T r f) (h' : Does2 X T r' f') (ha : PE X a (tD (zX X T) W fa)) (hb : PE X b (tD (zX X T) W fb)) (hc : PE X c (tD (zX X T) W fc))
    (hm : lastMarks [op, op'] [b, c] = false := by with_unfolding_all rfl) : PT X (.Compare a [op, op'] [b, c] pos) (tDT (zX X T) W (tBl (sChain f f' fa fb fc))) := PT.wk (pt_chain ho ho' ha hb hc hm) (wkB (wk_chain h h'))

/-! ### arguments, displays -/
theorem pa_nilD : PA X [] (tDA (zX X T) W aNil) := PA.wk pa_nil fun σ H Q ⟨g, ρ, st, S, E, q⟩ => q g H [] (Le.refl g H) S .nil
theorem pa_consD (ha : PE X e (tD (zX X T) W fe)) (hr : PA X es (tDA (zX X T) W fs)) (hs : starEach (e :: es) X.env = (false, eval e X.env) :: starEach es X.env := by rfl) : PA X (e :: es) (tDA (zX X T) W (aCons fe fs)) :=
  PA.wk (pa_cons ha hr hs) fun σ H Q ⟨g, ρ, st, S, E, q⟩ => by
    refine ⟨g, ρ, st, S, E, Sat.mono (sat_bind q) (fun d st1 q1 g1 H1 v L1 S1 r1 => ?_) fun _ _ _ q => q⟩
    refine ⟨g1, ρ, st1, S1, E.mono L1.ge, Sat.mono (sat_bind q1) (fun ds st2 q2 g2 H2 vs L2 S2 r2 => ?_) fun _ _ _ q => q.mono L1⟩
    exact q2 g2 H2 (v :: vs) (L1.trans L2) S2 (.cons (r1.mono L2.ge) r2)
theorem pd_tup {x1 : Nat} (h : PA X es (tDA (zX X T) W fs)) : PE X (.Tuple es x1 pos) (tD (zX X T) W (sTup fs)) :=
  PE.wk (pe_tupN h) fun σ H Q ⟨g, ρ, st, S, E, q⟩ => by
    refine ⟨g, ρ, st, S, E, Sat.mono (sat_bind q) (fun ds st1 q1 g1 H1 vs L1 S1 r1 => ?_) fun _ _ _ q => q⟩
    split at q1
    · rename_i hz
      have hz' : vs.length ≤ sizeLine := by rw [← r1.length]; exact hz
      refine ⟨hz', fun p o hp ho => ?_⟩
      obtain ⟨S', L'⟩ := S1.allocB (o := .frz o (.tup vs)) hp (fun _ => by simp)
      exact q1 _ _ _ (L1.trans L') S' (.tup (SqN.of ho) hz' (r1.mono L'.ge))
    · exact q1.elim
theorem pd_lst (m : Bool) (h : PA X es (tDA (zX X T) W fs)) : PE X (.List es pos) (tD (zX X T) W (sLst m fs)) :=
  PE.wk (pe_lst h) fun σ H Q ⟨g, ρ, st, S, E, q⟩ => by
    refine ⟨g, ρ, st, S, E, Sat.mono (sat_bind q) (fun ds st1 q1 g1 H1 vs L1 S1 r1 => ?_) fun _ _ _ q => q⟩
    split at q1
    · rename_i hz
      have hz' : vs.length ≤ sizeLine := by rw [← r1.length]; exact hz
      exact ⟨hz', newL_ok (W := W) (σ := σ) S1 hz' r1 (EPost.mono L1 q1)⟩
    · exact q1.elim
theorem pd_dict0 : PE X (.Dict [] [] pos) (tD (zX X T) W sDict0) :=
  PE.wk pe_dnewK fun σ H Q ⟨g, ρ, st, S, E, q⟩ p hp => by
    obtain ⟨S', L'⟩ := S.allocB (o := .dK []) hp (fun _ => by simp)
    exact q _ _ _ L' S' (.dk (ks := []) (vs := []) upd_same rfl .nil)

/-! ### calls -/
/-- a built-in function of the arguments, by value -/
def DoesB (X : Cx) (T : List (Addr × Str)) (r : List V → Hp → VK → Prop) (f : List D → Sto → Out D) : Prop :=
  ∀ (W : WX) (σ : L2.St) (g : G) (st : Sto) (H : Hp) (ds : List D) (vs : List V) (Q : VK), Sim X.K T g st H → Reps X.K g ds vs → EPost (zX X T) W σ Q g H (f ds st) → r vs H Q
theorem wkCB {r : List V → Hp → VK → Prop} {f : List D → Sto → Out D} (h : DoesB X T r f) : ∀ σ H Q, tD (zX X T) W (sB f fs) σ H Q → tCB r (tDA (zX X T) W fs) σ H Q := by
  rintro σ H Q ⟨g, ρ, st, S, E, q⟩
  refine ⟨g, ρ, st, S, E, Sat.mono (sat_bind q) (fun ds st1 q1 g1 H1 vs L1 S1 r1 => ?_) fun _ _ _ q => q⟩
  exact h W σ g1 st1 H1 ds vs Q S1 r1 (EPost.mono L1 q1)
theorem pd_callB {id : String} {r : List V → Hp → VK → Prop} {f : List D → Sto → Out D} (hc : CallR X (.builtin id) r) (h : DoesB X T r f) (hg : Gl X x) (hm : X.mg x = none) (hv : bootBuiltins x = some (.builtin id)) (ha : PA X (e :: es) (tDA (zX X T) W fs)) (hn : x ≠ "__name__" := by decide) (hdb : (x == ("__debug__" : Str)) = false := by decide)
    (he : starEach (e :: es) X.env = (false, eval e X.env) :: starEach es X.env := by rfl) (hpl : (backTo pos (starEach es X.env)).any (·.1) = false := by rfl) : PE X (.Call (.Name x p) (e :: es) [] pos) (tD (zX X T) W (sB f fs)) :=
  PE.wk (pe_callB hc hg hm hv ha hn hdb he hpl) (wkCB h)
theorem pd_callT {id : String} {r : List V → Hp → VK → Prop} {f : List D → Sto → Out D} (hc : CallR X (.type id) r) (h : DoesB X T r f) (hg : Gl X x) (hm : X.mg x = none) (hv : bootBuiltins x = some (.type id)) (ha : PA X (e :: es) (tDA (zX X T) W fs)) (hn : x ≠ "__name__" := by decide) (hdb : (x == ("__debug__" : Str)) = false := by decide)
    (he : starEach (e :: es) X.env = (false, eval e X.env) :: starEach es X.env := by rfl) (hpl : (backTo pos (starEach es X.env)).any (·.1) = false := by rfl) : PE X (.Call (.Name x p) (e :: es) [] pos) (tD (zX X T) W (sB f fs)) :=
  PE.wk (pe_callTy hc hg hm hv ha hn hdb he hpl) (wkCB h)
theorem does_len : DoesB X T (fun xs H Q => ∃ p ys, xs = [.ref p] ∧ (SqL X.K H p ys ∨ SqT X.K H p ys) ∧ Q (.int ys.length) H) bLen := by
  intro W σ g st H ds vs Q S r h
  unfold bLen at h
  split at h
  · split at h
    · rename_i ys e
      cases r with
      | cons r1 r2 =>
        cases r2
        obtain ⟨a, ws, rfl, h1, h2, h3⟩ := S.items r1 e
        refine ⟨a, ws, rfl, h1, ?_⟩
        rw [← h3.length]
        exact EPost.val S (fun _ => .int _) h
    · exact h.elim
  · exact h.elim
theorem does_abs : DoesB X T (fun xs H Q => ∃ i, xs = [.int i] ∧ Q (.int (if i < 0 then -i else i)) H) bAbs := by
  intro W σ g st H ds vs Q S r h
  unfold bAbs at h
  split at h
  · cases r with
    | cons r1 r2 => cases r2; cases r1; exact ⟨_, rfl, EPost.val S (fun _ => .int _) h⟩
  · exact h.elim
theorem does_min2 : DoesB X T (fun xs H Q => ∃ i j, xs = [.int i, .int j] ∧ Q (.int (if j < i then j else i)) H) bMin2 := by
  intro W σ g st H ds vs Q S r h
  unfold bMin2 at h
  split at h
  · cases r with
    | cons r1 r2 => cases r2 with | cons r3 r4 => cases r4; cases r1; cases r3; exact ⟨_, _, rfl, EPost.val S (fun _ => .int _) h⟩
  · exact h.elim
theorem does_max2 : DoesB X T (fun xs H Q => ∃ i j, xs = [.int i, .int j] ∧ Q (.int (if j > i then j else i)) H) bMax2 := by
  intro W σ g st H ds vs Q S r h
  unfold bMax2 at h
  split at h
  · cases r with
    | cons r1 r2 => cases r2 with | cons r3 r4 => cases r4; cases r1; cases r3; exact ⟨_, _, rfl, EPost.val S (fun _ => .int _) h⟩
  · exact h.elim
theorem does_int : DoesB X T (fun xs H Q => (∃ i, xs = [.int i] ∧ Q (.int i) H) ∨ ∃ k, xs = [.bl k] ∧ Q (.int (if k then 1 else 0)) H) bInt := by
  intro W σ g st H ds vs Q S r h
  unfold bInt at h
  split at h
  · cases r with
    | cons r1 r2 => cases r2; cases r1; exact .inl ⟨_, rfl, EPost.val S (fun _ => .int _) h⟩
  · cases r with
    | cons r1 r2 => cases r2; cases r1; exact .inr ⟨_, rfl, EPost.val S (fun _ => .int _) h⟩
  · exact h.elim
theorem Sim.itemsL {K : PySem.W.Frag} {g : G} {st : Sto} {H : Hp} {d : D} {v : V} {xs : List D} (S : Sim K T g st H) (r : Rep K g d v) (e : PD.items st d = some xs) :
    d = .tup xs ∨ ∃ a vs, v = .ref a ∧ SqL K H a vs ∧ vs.length ≤ sizeLine ∧ Reps K g xs vs := by
  cases d with
  | tup ys => cases e; exact .inl rfl
  | lst ys =>
    obtain ⟨a, vs, h1, h2, h3, h4⟩ := S.litems (xs := xs) r e
    exact .inr ⟨a, vs, h1, SqL.of h2, h3, h4⟩
  | fz ys =>
    cases e
    cases r with
    | fz q l r => exact .inr ⟨_, _, rfl, sqL_mono S.sub q, l, r⟩
  | ref l =>
    obtain ⟨a, vs, h1, h2, h3, h4⟩ := S.litems (xs := xs) r e
    exact .inr ⟨a, vs, h1, SqL.of h2, h3, h4⟩
  | _ => cases e
theorem does_tuple : DoesB X T (fun xs H Q => ∃ p ys, xs = [.ref p] ∧ ((SqL X.K H p ys ∧ NewT Q H ys) ∨ (SqT X.K H p ys ∧ Q (.ref p) H))) bTuple := by
  intro W σ g st H ds vs Q S r h
  unfold bTuple at h
  split at h
  · rename_i d
    split at h
    · rename_i ys e
      cases r with
      | cons r1 r2 =>
        cases r2
        rcases S.itemsL r1 e with z | ⟨a, ws, rfl, h1, h2, h3⟩
        · subst z
          obtain ⟨a, ws, rfl, h1, h2, h3⟩ := S.tup r1
          exact ⟨a, ws, rfl, .inr ⟨h1, h g H _ (Le.refl g H) S r1⟩⟩
        · refine ⟨a, ws, rfl, .inl ⟨h1, fun l o hl ho => ?_⟩⟩
          obtain ⟨S', L'⟩ := S.allocB (o := .frz o (.tup ws)) hl (fun _ => by simp)
          exact h _ _ _ L' S' (.tup (SqN.of ho) h2 (h3.mono L'.ge))
    · exact h.elim
  · exact h.elim
theorem does_list (m : Bool) : DoesB X T (fun xs H Q => ∃ p ys, xs = [.ref p] ∧ (SqL X.K H p ys ∨ SqT X.K H p ys) ∧ ∀ l, H l = none → Q (.ref l) (upd H l (.lst ys))) (bList m) := by
  intro W σ g st H ds vs Q S r h
  unfold bList at h
  split at h
  · split at h
    · rename_i ys e
      cases r with
      | cons r1 r2 =>
        cases r2
        obtain ⟨a, ws, rfl, h1, h2, h3⟩ := S.items r1 e
        exact ⟨a, ws, rfl, h1, newL_ok S h2 h3 h⟩
    · exact h.elim
  · exact h.elim
theorem allBl_of {K : PySem.W.Frag} {g : G} : ∀ {ds : List D} {vs : List V} {bs : List Bool}, Reps K g ds vs → allBl ds = some bs → vs = bs.map V.bl
  | [], _, _, r, e => by cases r; cases e; rfl
  | d :: ds, _, bs, r, e => by
    cases r with
    | cons r1 r2 =>
      cases d with
      | bl b =>
        unfold allBl at e
        cases q : allBl ds with
        | none => rw [q] at e; cases e
        | some cs =>
          rw [q] at e; cases e
          cases r1
          rw [allBl_of r2 q]; rfl
      | _ => cases e
theorem allInt_of {K : PySem.W.Frag} {g : G} : ∀ {ds : List D} {vs : List V} {bs : List Int}, Reps K g ds vs → allInt ds = some bs → vs = bs.map V.int
  | [], _, _, r, e => by cases r; cases e; rfl
  | d :: ds, _, bs, r, e => by
    cases r with
    | cons r1 r2 =>
      cases d with
      | int b =>
        unfold allInt at e
        cases q : allInt ds with
        | none => rw [q] at e; cases e
        | some cs =>
          rw [q] at e; cases e
          cases r1
          rw [allInt_of r2 q]; rfl
      | _ => cases e
theorem does_all : DoesB X T (rAll X.K) bAll := by
  intro W σ g st H ds vs Q S r h
  unfold bAll at h
  split at h
  · split at h
    · rename_i bs e
      obtain ⟨ys, e1, e2⟩ := Option.bind_eq_some_iff.mp e
      cases r with
      | cons r1 r2 =>
        cases r2
        obtain ⟨a, ws, rfl, h1, h2, h3⟩ := S.litems r1 e1
        have ew := allBl_of h3 e2
        subst ew
        exact ⟨a, bs, rfl, SqL.of h1, EPost.val S (fun _ => .bl _) h⟩
    · exact h.elim
  · exact h.elim
theorem does_any : DoesB X T (rAny X.K) bAny := by
  intro W σ g st H ds vs Q S r h
  unfold bAny at h
  split at h
  · split at h
    · rename_i bs e
      obtain ⟨ys, e1, e2⟩ := Option.bind_eq_some_iff.mp e
      cases r with
      | cons r1 r2 =>
        cases r2
        obtain ⟨a, ws, rfl, h1, h2, h3⟩ := S.litems r1 e1
        have ew := allBl_of h3 e2
        subst ew
        exact ⟨a, bs, rfl, SqL.of h1, EPost.val S (fun _ => .bl _) h⟩
    · exact h.elim
  · exact h.elim
theorem does_sum : DoesB X T (rSum X.K) bSum := by
  intro W σ g st H ds vs Q S r h
  unfold bSum at h
  split at h
  · split at h
    · rename_i bs e
      obtain ⟨ys, e1, e2⟩ := Option.bind_eq_some_iff.mp e
      cases r with
      | cons r1 r2 =>
        cases r2
        obtain ⟨a, ws, rfl, h1, h2, h3⟩ := S.litems r1 e1
        have ew := allInt_of h3 e2
        subst ew
        exact ⟨a, bs, rfl, SqL.of h1, EPost.val S (fun _ => .int _) h⟩
    · exact h.elim
  · exact h.elim
/-! isinstance with a built-in class -/
def tyNm : TyN → String
  | .int => "int" | .bool => "bool" | .tuple => "tuple" | .list => "list" | .str => "str" | .dict => "dict"
theorem kt {K : PySem.W.Frag} {s t : String} {b : Bool} (h : kitB s t = some b) : PySem.W.kitOne K (.type s) (.type t) = some b := kit_ty h
theorem isTy_ok {K : PySem.W.Frag} {g : G} {st : Sto} {H : Hp} {d : D} {v : V} {t : TyN} {b : Bool} (S : Sim K T g st H) (r : Rep K g d v) (h : isTy t d = some b) : ∃ u, TyX K H v u ∧ PySem.W.kitOne K u (.type (tyNm t)) = some b := by
  have fin : ∀ {s : String}, TyX K H v (.type s) → kitB s (tyNm t) = some b → ∃ u, TyX K H v u ∧ PySem.W.kitOne K u (.type (tyNm t)) = some b := fun ty k => ⟨_, ty, kt k⟩
  cases d with
  | non => cases r; refine fin (.base .non) ?_; cases t <;> cases h <;> decide +kernel
  | bl k => cases r; refine fin (.base (.bl k)) ?_; cases t <;> cases h <;> decide +kernel
  | int k => cases r; refine fin (.base (.int k)) ?_; cases t <;> cases h <;> decide +kernel
  | str k => cases r; refine fin (.base (.str k)) ?_; cases t <;> cases h <;> decide +kernel
  | tup xs =>
    obtain ⟨a, vs, rfl, h1, h2, h3⟩ := S.tup r
    have ty : TyX K H (.ref a) (.type "tuple") := by
      rcases h1 with (h1 | ⟨o, h1⟩) | ⟨o, its, n, h1, h2, _⟩
      · exact .base (.tup h1)
      · exact .fTuple h1
      · exact .kTuple h1 h2
    refine fin ty ?_; cases t <;> cases h <;> decide +kernel
  | lst xs =>
    obtain ⟨a, vs, rfl, h1, h2, h3⟩ := S.litems (xs := xs) r rfl
    refine fin (.base (.lst h1)) ?_; cases t <;> cases h <;> decide +kernel
  | dk ks xs =>
    cases r with
    | dk e _ _ => refine fin (.base (.dK (S.sub _ _ e))) ?_; cases t <;> cases h <;> decide +kernel
  | _ => cases t <;> cases h
theorem pd_isI {t : TyN} {nm : Str} {p1 p2 : Pos} (hg : Gl X "isinstance") (hm : X.mg "isinstance" = none) (hg2 : Gl X nm) (hm2 : X.mg nm = none) (hv : bootBuiltins nm = some (.type (tyNm t))) (ha : PE X a (tD (zX X T) W fa)) (hn : nm ≠ "__name__" := by decide) (hd : (nm == ("__debug__" : Str)) = false := by decide)
    (he : starEach [a, .Name nm p1] X.env = (false, eval a X.env) :: starEach [.Name nm p1] X.env := by rfl) (hpl : (backTo pos (starEach [.Name nm p1] X.env)).any (·.1) = false := by rfl) (hs : starEach [.Name nm p1] X.env = (false, eval (.Name nm p1) X.env) :: starEach [] X.env := by rfl) :
    PE X (.Call (.Name "isinstance" p2) [a, .Name nm p1] [] pos) (tD (zX X T) W (sIsI t fa)) := by
  have hb : PE X (.Name nm p1) (tC (.ty (tyNm t))) := pe_bltn hg2 hm2 hv rfl hn hd
  refine PE.wk (pe_callB call_isi hg hm (by decide +kernel) (pa_cons ha (pa_cons hb pa_nil hs) he) (he := he) (hpl := hpl)) fun σ H Q ⟨g, ρ, st, S, E, q⟩ => ?_
  refine ⟨g, ρ, st, S, E, Sat.mono (sat_bind q) (fun d st1 q1 g1 H1 v L1 S1 r1 => ?_) fun _ _ _ q => q⟩
  split at q1
  · rename_i k hk
    obtain ⟨u, ty, kk⟩ := isTy_ok S1 r1 hk
    exact ⟨v, .ty (tyNm t), u, .type (tyNm t), k, rfl, .ty _, ty, kk, q1 g1 H1 _ L1 S1 (.bl k)⟩
  · exact q1.elim

/-! ### subscripts -/
theorem ix_eq (n : Nat) (i : Int) : L2.ixN n i = ixD n i := by
  unfold L2.ixN ixD
  by_cases h : 0 ≤ i
  · rw [if_pos h, if_pos h]
  · rw [if_neg h, if_neg h]
    by_cases h2 : 0 ≤ i + n
    · rw [if_pos h2, if_pos (by omega)]
    · rw [if_neg h2, if_neg (by omega)]
def rIxA (K : PySem.W.Frag) : R2 := fun x y H Q => rIxL K x y H Q ∨ rIxT K x y H Q
theorem ir_ix : IxR X (rIxA X.K) := ix_list.or ix_tup
theorem does_ix : Does2 X T (rIxA X.K) fIx := by
  intro W σ g st H dx dy x y Q S rx ry h
  unfold fIx at h
  split at h
  · rename_i xs i e
    split at h
    · rename_i j ej
      split at h
      · rename_i d ed
        obtain ⟨a, vs, rfl, h1, h2, h3⟩ := S.items rx e
        cases ry
        obtain ⟨v, ev, rv⟩ := h3.get ed
        have ha : atI vs i = some v := by
          unfold atI
          rw [← h3.length, ix_eq, ej]
          exact ev
        have hq : Q v H := h g H v (Le.refl g H) S rv
        rcases h1 with h1 | h1
        · exact .inl ⟨a, vs, i, v, rfl, rfl, h1, ha, hq⟩
        · exact .inr ⟨a, vs, i, v, rfl, rfl, h1, ha, hq⟩
      · exact h.elim
    · exact h.elim
  · exact h.elim
theorem pd_ix (ha : PE X a (tD (zX X T) W fa)) (hb : PE X b (tD (zX X T) W fb)) (hs : PlainIx b := by exact fun _ _ => rfl) : PE X (.Subscript a b pos) (tD (zX X T) W (s2 fIx fa fb)) :=
  PE.wk (pe_ix ir_ix ha hb hs) (wk2 does_ix)
/-! slices -/
abbrev SO := Ev → Sto → Out (Option Int)
def OPost (z : Z) (Q : Option Int → Hp → Prop) (g : G) (H : Hp) : Option Int → Sto → Prop := fun o st => ∀ g' H', Le g g' H H' → Sim z.K z.T g' st H' → Q o H'
def tDO (z : Z) (W : WX) (f : SO) : TO := fun σ H Q => ∃ g ρ st, Sim z.K z.T g st H ∧ EnvR z.K g σ ρ ∧ Sat (f ρ st) (OPost z Q g H) (XPost z W σ g H)
theorem PO.wk {o : Option Expr} {t t' : TO} (h : PO X o t) (k : ∀ σ H Q, t' σ H Q → t σ H Q) : PO X o t' := ⟨fun pins s σ H Q I q => h.run pins s σ H Q I (k σ H Q q)⟩
theorem po_noneD : PO X none (tDO (zX X T) W oNone) := PO.wk po_none fun σ H Q ⟨g, ρ, st, S, E, q⟩ => q g H (Le.refl g H) S
theorem po_someD (h : PE X e (tD (zX X T) W fe)) : PO X (some e) (tDO (zX X T) W (oInt fe)) := PO.wk (po_some h) fun σ H Q ⟨g, ρ, st, S, E, q⟩ => by
  refine ⟨g, ρ, st, S, E, Sat.mono (sat_bind q) (fun d st1 q1 g1 H1 v L1 S1 r1 => ?_) fun _ _ _ q => q⟩
  cases d with
  | int i => cases r1; exact ⟨i, rfl, q1 g1 H1 L1 S1⟩
  | _ => exact q1.elim
def rSlAny (K : PySem.W.Frag) : V → Option Int → Option Int → Hp → VK → Prop := fun x lo hi H Q => rSlL K x lo hi H Q ∨ rSlN K x lo hi H Q
theorem sr_any : SlR X (rSlAny X.K) := sl_list.or sl_tupN
theorem reps_cut {K : PySem.W.Frag} {g : G} {xs : List D} {vs : List V} (r : Reps K g xs vs) (lo hi : Option Int) : Reps K g (cutD xs lo hi) (cutV vs lo hi) := by
  unfold cutD cutV
  rw [r.length]
  exact (r.drop _).take _
theorem cut_len (vs : List V) (lo hi : Option Int) : (cutV vs lo hi).length ≤ vs.length := by
  unfold cutV
  rw [List.length_take, List.length_drop]; omega
theorem cut_all {xs : List D} {lo hi : Option Int} (h1 : HT.sIx xs.length 0 lo = 0) (h2 : HT.sIx xs.length xs.length hi = xs.length) : cutD xs lo hi = xs := by
  unfold cutD
  rw [h1, h2]; simp
theorem pd_slice {lo hi : Option Expr} {fl fh : SO} {p2 : Pos} (m : Bool) (he : PE X e (tD (zX X T) W fe)) (hl : PO X lo (tDO (zX X T) W fl)) (hh : PO X hi (tDO (zX X T) W fh)) : PE X (.Subscript e (.Slice lo hi none p2) pos) (tD (zX X T) W (sSlice m fe fl fh)) :=
  PE.wk (pe_slice sr_any he hl hh) fun σ H Q ⟨g, ρ, st, S, E, q⟩ => by
    refine ⟨g, ρ, st, S, E, Sat.mono (sat_bind q) (fun d st1 q1 g1 H1 v L1 S1 r1 => ?_) fun _ _ _ q => q⟩
    refine ⟨g1, ρ, st1, S1, E.mono L1.ge, Sat.mono (sat_bind q1) (fun i st2 q2 g2 H2 L2 S2 => ?_) fun _ _ _ q => q.mono L1⟩
    refine ⟨g2, ρ, st2, S2, E.mono (L1.trans L2).ge, Sat.mono (sat_bind q2) (fun j st3 q3 g3 H3 L3 S3 => ?_) fun _ _ _ q => q.mono (L1.trans L2)⟩
    have L := (L1.trans L2).trans L3
    have r3 := r1.mono (L2.trans L3).ge
    have q3' := EPost.mono L q3
    split at q3'
    · rename_i xs
      obtain ⟨a, vs, rfl, h1, h2, h3⟩ := S3.tup r3
      refine .inr ⟨a, vs, rfl, h1, fun ⟨z1, z2⟩ => ?_, fun z p o hp ho => ?_⟩
      · have e1 : cutD xs i j = xs := cut_all (by rw [h3.length]; exact z1) (by rw [h3.length]; exact z2)
        rw [e1] at q3'
        exact q3' g3 H3 _ (Le.refl _ _) S3 r3
      · obtain ⟨S', L'⟩ := S3.allocB (o := .frz o (.tup (cutV vs i j))) hp (fun _ => by simp)
        exact q3' _ _ _ L' S' (.tup (SqN.of ho) (Nat.le_trans (cut_len _ _ _) h2) ((reps_cut h3 i j).mono L'.ge))
    · rename_i xs
      cases r3 with
      | fz k1 k2 k3 => exact .inl ⟨_, _, rfl, sqL_mono S3.sub k1, newL_ok (W := W) (σ := σ) S3 (Nat.le_trans (cut_len _ _ _) k2) (reps_cut k3 i j) q3'⟩
    · split at q3'
      · rename_i xs e
        obtain ⟨a, vs, rfl, h1, h2, h3⟩ := S3.litems r3 e
        exact .inl ⟨a, vs, rfl, SqL.of h1, newL_ok (W := W) (σ := σ) S3 (Nat.le_trans (cut_len _ _ _) h2) (reps_cut h3 i j) q3'⟩
      · exact q3'.elim
end
end PD
/-! PDRules3: what is walked, comprehensions, statements, defs. -/
namespace PySem
open Sem (wp)
/-! enumerate(v), v told by how its iterator begins (one argument) -/
set_option maxHeartbeats 1000000 in
theorem pd_meets_enum {v : Value} {o : Obj} {H : Heap → Prop} (B : Begins v o H) :
    Meets (Builtin.«enumerate.__new__» ⟨[.type "enumerate", v], []⟩) (fun _ R s => H s.heap ∧ R (.ok (.ret (.ref (s.heap.push o).objs.size)))
        { s with heap := (s.heap.push o).push { cls := .type "enumerate", data := .fields #[.none, .bool false, .ref s.heap.objs.size, rawInt 0, .none, .none] } }) := by
  refine .of_wp fun prog w A R s h => ?_
  obtain ⟨hp, g, d, tk, os⟩ := s
  obtain ⟨h1, h⟩ := h
  have hsub := sub_enumerate
  have q1 : ∀ {A' : Around} {E : Value → Shared → Prop} {Q : Value → Shared → Prop}, Q (.ref hp.objs.size) ⟨hp.push o, g, d, tk, os⟩ → wpAny (model prog w) A' (pyIter v) Q E ⟨hp, g, d, tk, os⟩ := fun q => B.iter prog w _ _ ⟨hp, g, d, tk, os⟩ _ h1 q
  wp_walk using q1
  refine wpAny_stack_any fun st => wpAny_pure ?_
  split
  · rename_i c _ _ _ _ _
    cases (c == Value.type "enumerate") <;> (wp_walk using q1; exact ⟨_, rfl, h⟩)
  · wp_walk using q1
    exact ⟨_, rfl, h⟩
theorem pd_call_enum {prog : Program} {w : World} {A : Around} {E : Value → Shared → Prop} {s : Shared} {v : Value} {o : Obj} {H : Heap → Prop} {Q : Value → Shared → Prop} (B : Begins v o H) (h1 : H s.heap)
    (h : ∀ h', IsEnum h' (s.heap.objs.size + 1) s.heap.objs.size 0 .none → h'.get? s.heap.objs.size = some o → (∀ b ob, s.heap.get? b = some ob → h'.get? b = some ob) → Q (.ref (s.heap.objs.size + 1)) { s with heap := h' }) :
    wpAny (model prog w) A (call (.type "enumerate") [v]) Q E s := by
  refine callType_new F.called_enumerate (by decide) (F.typeCall_enumerate_1 _) (F.newCall_enumerate_1 _) (fun obj => F.args_object_init_2 obj _) F.entry_enumerate_new (pd_meets_enum B) ⟨h1, ?_⟩
  have hz : (s.heap.push o).objs.size = s.heap.objs.size + 1 := Heap.size_push ..
  show _ ∧ _
  rw [hz]
  have he := Heap.get?_push_size (s.heap.push o) (o := { cls := .type "enumerate", data := .fields #[.none, .bool false, .ref s.heap.objs.size, rawInt 0, .none, .none] }) rfl
  rw [hz] at he
  exact ⟨⟨_, he, rfl⟩, h _ he (Heap.get?_push_of_some _ (Heap.get?_push_size _ B.free)) fun b ob x => Heap.get?_push_of_some _ (Heap.get?_push_of_some _ x)⟩
end PySem
namespace PD
open PySem PySem.Spec PyProof.Rows L2
/-- enumerate of a tuple: new pairs -/
def IteT (K : PySem.W.Frag) (a : Addr) : It :=
  ⟨fun i H => ∃ (xs : List V) (x : V), SqT K H a xs ∧ xs[i]? = some x, fun i H v H' => ∃ Tp x, v = .ref Tp ∧ H Tp = none ∧ H' = upd H Tp (.tup [.int (i : Nat), x]) ∧ ∀ xs, SqT K H a xs → xs[i]? = some x, fun i H => ∃ xs : List V, SqT K H a xs ∧ xs.length = i⟩
theorem turn_enumT {P : Program} {w : World} {K : PySem.W.Frag} {elts : List Expr} {kk : Nat} {tpos : Pos} (a e it : Addr) :
    Turn P w K (.Tuple elts kk tpos) (IteT K a) [e, it] e (fun i h => (∃ old, IsEnum h e it ((i : Nat) : Int) old) ∧ h.IsTupleIter it a i ∧ e ≠ it ∧ a ≠ it) where
  mem := by simp
  obj := fun i h st b hb => by
    obtain ⟨⟨old, he⟩, ⟨o, ho, hc, hd⟩, _⟩ := st
    rcases List.mem_cons.mp hb with z | hb
    · rw [z]; exact ⟨_, he, fun v q => nomatch q⟩
    · rw [List.mem_singleton.mp hb]; exact ⟨o, ho, fun v q => by rw [hd] at q; cases q⟩
  keep := fun i h h' st k => by
    obtain ⟨⟨old, he⟩, hi, hne⟩ := st
    exact ⟨⟨old, k e (by simp) _ he⟩, hi.at fun o q => k it (by simp) o q, hne⟩
  item := by
    intro X hP hw hK hc i pins s σ H E I hf st hg
    subst hP hw hK
    obtain ⟨⟨old, he⟩, hit, hne, hna⟩ := st
    obtain ⟨xs, x, hq, hx⟩ := hg
    obtain ⟨its, rv, p, hz⟩ := I.tuple hq
    obtain ⟨u, hu, ru⟩ := rv.get hx
    have hel : e < s.heap.objs.size := Heap.lt_size he
    have hil : it < s.heap.objs.size := by
      obtain ⟨_, q, _⟩ := hit
      exact Heap.lt_size q
    have hlt : i < its.toArray.size := by
      have := (List.getElem?_eq_some_iff.mp hu).1
      simpa using this
    have hea : e ≠ a := fun z => by
      obtain ⟨o, ho, hcl, _⟩ := p
      rw [← z, he] at ho
      cases ho
      have q : Value.type "enumerate" = Value.type "tuple" := hcl
      injection q with q
      exact absurd q (by decide)
    refine wpAny_pyNext_enum_itemD (D := Draws.tuple (A := X.A.in1) (I.ok.hd hc) it a hna its.toArray) he ⟨hit, p⟩ hlt hne (by simp [hne, hea]) fun v h' tk hP' ho hst' hT hsz hk => ?_
    have ev : v = u := by
      have h2 : its.toArray[i]? = some u := by simpa using hu
      exact Option.some.inj (hP'.symm.trans h2)
    subst ev
    refine ⟨_, rfl, wpAny_letOwnedTupleGo_enum (s := { s with heap := h', toks := tk + 1 }) ho fun h'' he' sb => ?_⟩
    have hT2 : h''.get? s.heap.objs.size = some { cls := .type "tuple", data := .seq #[.int i tk, v] } := (sb.2 _ (Nat.ne_of_gt hel)).trans hT
    have nw : ObjOk X.prog X.w (upd H s.heap.objs.size (.tup [.int (i : Nat), x])) h'' s.heap.objs.size (.tup [.int (i : Nat), x]) := by
      refine ⟨by show 2 ≤ sizeLine; decide, [.int i tk, v], .cons ⟨_, rfl⟩ (.cons ru .nil), ⟨_, hT2, rfl, _, rfl⟩⟩
    have kp : ∀ b ob, b ∉ [e, it] → s.heap.get? b = some ob → h''.get? b = some ob := fun b ob hb q =>
      (sb.2 b fun z => hb (by simp [z])).trans (hk b ob (fun z => hb (by simp [z])) (fun z => hb (by simp [z])) q)
    have I1 := I.turnedNew (t' := tk + 1) (ch := [e, it]) kp hf (Nat.le_refl _) nw
    refine ⟨.ref s.heap.objs.size, _, I1, rfl, ⟨_, x, rfl, I.hok.fresh (Nat.le_refl _), rfl, fun ys hy => by rw [I.tuple_inj hy hq]; exact hx⟩, ⟨⟨v, ?_⟩, hst'.1.at fun o q => (sb.2 it (Ne.symm hne)).trans q, hne, hna⟩, fun b hb => ?_⟩
    · rw [show ((i + 1 : Nat) : Int) = (i : Int) + 1 by omega]
      exact he'
    · have hb' : b < s.heap.objs.size := by
        rcases List.mem_cons.mp hb with z | hb
        · rw [z]; exact hel
        · rw [List.mem_singleton.mp hb]; exact hil
      rw [upd_ne (Nat.ne_of_lt hb')]
      exact (hf b hb).1
  done := by
    intro X hP hw hK hc i pins s σ H E I hf st hg
    subst hP hw hK
    obtain ⟨⟨old, he⟩, hit, hne, hna⟩ := st
    obtain ⟨xs, hq, hx⟩ := hg
    obtain ⟨its, rv, p, hz⟩ := I.tuple hq
    obtain ⟨f0, f1, f2, f3, f4, f5⟩ := hf it (by simp)
    have hl := rv.length
    have e1 : i = its.toArray.size := by
      rw [List.size_toArray, ← hl]; exact hx.symm
    subst e1
    exact wpAny_pyNext_enum_endD (D := Draws.tuple (A := X.A.in1) (I.ok.hd hc) it a hna its.toArray) he ⟨hit, p⟩ fun h' eb => ⟨rfl, I.turned (t' := s.toks) (fun b o hb q => eb b o hb q) f0 f1 f3 f4 f5⟩
  self := fun A i s Q E st h => by
    obtain ⟨⟨_, he⟩, _⟩ := st
    exact wpAny_pyIter_enum he h

section
variable {X : Cx} {T : List (Addr × Str)} {W : WX} {a b c e e2 : Expr} {es : List Expr} {fa fb fc fe : SE} {fs : SA} {ft fu : ST} {pos p tpos : Pos} {x : Str} {tg : Expr} {elts : List Expr} {kk : Nat}
def iEnumA (K : PySem.W.Frag) (ta : TA) : TI := fun σ H R => ta σ H fun vs H1 => ∃ a xs, vs = [.ref a] ∧ ((SqL K H1 a xs ∧ R (Ite K a) H1) ∨ (SqT K H1 a xs ∧ R (IteT K a) H1))
theorem pi_enumA {ta : TA} (hg : Gl X "enumerate") (hm : X.mg "enumerate" = none) (ha : PA X [e] ta) (hs : starEach [e] X.env = [(false, eval e X.env)] := by rfl) : PI X (.Tuple elts kk tpos) (.Call (.Name "enumerate" p) [e] [] pos) (iEnumA X.K ta) := by
  refine ⟨fun pins s σ H R I h => ?_⟩
  refine Call_ (ld_blt I hg hm boot_enumerate (PyProof.Rows.callWith_type1 (thn (ha.run pos pins s σ H _ I h) fun us s1 ⟨vs, H1, I1, r1, q1⟩ => ?_) hs rfl))
  obtain ⟨a, xs, ex, q⟩ := q1
  subst ex
  cases r1 with
  | cons r rr =>
    cases rr
    cases r
    have fp : ∀ b ∈ [s1.heap.objs.size + 1, s1.heap.objs.size], FpOk X pins H1 b := fun b hb => by
      have hle : s1.heap.objs.size ≤ b := by
        rcases List.mem_cons.mp hb with z | hb
        · rw [z]; exact Nat.le_add_right _ _
        · rw [List.mem_singleton.mp hb]; exact Nat.le_refl _
      exact I1.fpOk hle (I1.hok.fresh hle)
    rcases q with ⟨hq, q⟩ | ⟨hq, q⟩
    · obtain ⟨its, rv, p', hz⟩ := I1.list hq
      refine pd_call_enum (begins_list a its.toArray) p'.isList fun h' he hit hk => wpAny_pyIter_enum he ?_
      exact ⟨s1.heap.objs.size + 1, _, _, _, H1, rfl, I1.kept (t' := s1.toks) hk, turn_enum a (s1.heap.objs.size + 1) s1.heap.objs.size, ⟨⟨.none, he⟩, ⟨_, hit, rfl, rfl⟩, Nat.succ_ne_self _⟩, fp, q⟩
    · obtain ⟨its, rv, p', hz⟩ := I1.tuple hq
      refine pd_call_enum (begins_tuple a its.toArray) p' fun h' he hit hk => wpAny_pyIter_enum he ?_
      have hal : a < s1.heap.objs.size := by
        obtain ⟨o, ho, _⟩ := p'
        exact Heap.lt_size ho
      exact ⟨s1.heap.objs.size + 1, _, _, _, H1, rfl, I1.kept (t' := s1.toks) hk, turn_enumT a (s1.heap.objs.size + 1) s1.heap.objs.size, ⟨⟨.none, he⟩, ⟨_, hit, rfl, rfl⟩, Nat.succ_ne_self _, Nat.ne_of_lt hal⟩, fp, q⟩

/-! ### what is walked -/
theorem walkD_of {z : Z} {g : G} {J : It} {ds : List D} {vs : List V} (r : Reps z.K g ds vs)
    (go : ∀ g2 H2 st2 i v, Ge g g2 → Sim z.K z.T g2 st2 H2 → vs[i]? = some v → J.go i H2 ∧ ∀ x H3, J.yld i H2 x H3 → H3 = H2 ∧ x = v)
    (stop : ∀ g2 H2 st2, Ge g g2 → Sim z.K z.T g2 st2 H2 → J.stop vs.length H2) : WalkD z g J ds none where
  go := fun g2 H2 st2 i d0 d q S e1 e2 => by
    cases e2
    obtain ⟨v, ev, rv⟩ := r.get e1
    obtain ⟨h1, h2⟩ := go g2 H2 st2 i v q S ev
    refine ⟨h1, fun x H3 y => ?_⟩
    obtain ⟨rfl, rfl⟩ := h2 x H3 y
    exact ⟨g2, Le.refl _ _, S, rv.mono q⟩
  stop := fun g2 H2 st2 q S _ => by rw [r.length]; exact stop g2 H2 st2 q S
def iSeqA (K : PySem.W.Frag) (tl : TE) : TI := fun σ H R => tl σ H fun x H1 => ∃ a, x = .ref a ∧ (((∃ xs, SqL K H1 a xs) ∧ R (Itl K a) H1) ∨ ((∃ xs, SqT K H1 a xs) ∧ R (Itt K a) H1))
theorem pi_seqA {te : TE} (h : PE X e te) : PI X tg e (iSeqA X.K te) := by
  refine ⟨fun pins s σ H R I q => ?_⟩
  refine thn (h.run pins s σ H _ I q) fun v s1 ⟨x, H1, I1, r1, q1⟩ => ?_
  obtain ⟨a, ex, q1⟩ := q1
  subst ex
  cases r1
  have fp : ∀ b ∈ [s1.heap.objs.size], FpOk X pins H1 b := fun b hb => by
    rw [List.mem_singleton.mp hb]; exact I1.fpOk (Nat.le_refl _) (I1.hok.fresh (Nat.le_refl _))
  rcases q1 with ⟨⟨xs, hq⟩, q1⟩ | ⟨⟨xs, hq⟩, q1⟩
  · obtain ⟨its, rv, p, hz⟩ := I1.list hq
    refine wpAny_pyIter_list p.isList ?_
    exact ⟨_, _, _, _, H1, rfl, I1.kept (t' := s1.toks) fun b o e => Heap.get?_push_of_some _ e, turn_list a _, ⟨_, Heap.get?_push_size _ rfl, rfl, rfl⟩, fp, q1⟩
  · obtain ⟨its, rv, p, hz⟩ := I1.tuple hq
    refine wpAny_pyIter_tuple (show s1.heap.IsTuple a its.toArray from p) ?_
    exact ⟨_, _, _, _, H1, rfl, I1.kept (t' := s1.toks) fun b o e => Heap.get?_push_of_some _ e, turn_tuple a _, ⟨_, Heap.get?_push_size _ rfl, rfl, rfl⟩, fp, q1⟩
theorem sqL_inj {K : PySem.W.Frag} {H : Hp} {a : Addr} {xs ys : List V} (h : H a = some (.lst xs)) (h' : SqL K H a ys) (hk : K.lookup a = none) : xs = ys := by
  rcases h' with (h' | ⟨o, h'⟩) | ⟨o, its, n, h', _⟩
  · rw [h] at h'; cases h'; rfl
  · rw [h] at h'; cases h'
  · rw [hk] at h'; cases h'
end
end PD
/-! PDRules4: what is walked over the data; comprehensions; loops. -/
namespace PD
open PySem PySem.Spec PyProof.Rows L2
section
variable {X : Cx} {T : List (Addr × Str)} {W : WX} {a b c e e2 elt iter : Expr} {es ifs : List Expr} {fa fb fc fe : SE} {fs : SA} {ft fu : ST} {fi : SI} {pos p tpos : Pos} {x : Str} {tg : Expr} {elts : List Expr} {kk : Nat}

theorem walkD_ref {z : Z} {g : G} {l : Nat} {a : Addr} {xs : List D} (hl : g.ι[l]? = some a) : WalkD z g (Itl z.K a) xs (some (.inl l)) where
  go := fun g2 H2 st2 i d0 d q S e1 e2 => by
    unfold fetch at e2
    dsimp only at e2
    split at e2
    · rename_i ys hs
      obtain ⟨vs, h1, h2, h3, h4⟩ := S.obj l a _ (q.i _ _ hl) hs
      obtain ⟨v, ev, rv⟩ := h4.get e2
      refine ⟨⟨vs, v, SqL.of h2, ev⟩, fun x H3 y => ?_⟩
      obtain ⟨rfl, hy⟩ := y
      have : x = v := Option.some.inj ((hy vs (SqL.of h2)).symm.trans ev)
      subst this
      exact ⟨g2, Le.refl _ _, S, rv⟩
    · cases e2
  stop := fun g2 H2 st2 q S hf => by
    unfold finOk at hf
    dsimp only at hf
    split at hf
    · rename_i ys hs
      obtain ⟨vs, h1, h2, h3, h4⟩ := S.obj l a _ (q.i _ _ hl) hs
      refine ⟨vs, SqL.of h2, ?_⟩
      rw [← h4.length, beq_iff_eq.mp hf]; exact Nat.le_refl _
    · cases hf
theorem walkD_list {z : Z} {g : G} {a : Addr} {xs : List D} {vs : List V} (h : SqL z.K g.B a vs) (r : Reps z.K g xs vs) : WalkD z g (Itl z.K a) xs none :=
  walkD_of r (fun g2 H2 st2 i v q S ev => by
    have h2 : SqL z.K H2 a vs := sqL_mono S.sub (sqL_mono q.b h)
    exact ⟨⟨vs, v, h2, ev⟩, fun x H3 y => ⟨y.1, Option.some.inj ((y.2 vs h2).symm.trans ev)⟩⟩)
    fun g2 H2 st2 q S => ⟨vs, sqL_mono S.sub (sqL_mono q.b h), Nat.le_refl _⟩
theorem walkD_tup {z : Z} {g : G} {a : Addr} {xs : List D} {vs : List V} (h : SqT z.K g.B a vs) (r : Reps z.K g xs vs) : WalkD z g (Itt z.K a) xs none :=
  walkD_of r (fun g2 H2 st2 i v q S ev => by
    have h2 : SqT z.K H2 a vs := sqT_mono S.sub (sqT_mono q.b h)
    exact ⟨⟨vs, v, h2, ev⟩, fun x H3 y => ⟨y.1, Option.some.inj ((y.2 vs h2).symm.trans ev)⟩⟩)
    fun g2 H2 st2 q S => ⟨vs, sqT_mono S.sub (sqT_mono q.b h), Nat.le_refl _⟩
theorem pi_seqD (h : PE X e (tD (zX X T) W fe)) : PI X tg e (tDI (zX X T) W (iSeq fe)) :=
  PI.wk (pi_seqA h) fun σ H R ⟨g, ρ, st, S, E, q⟩ => by
    refine ⟨g, ρ, st, S, E, Sat.mono (sat_bind q) (fun d st1 q1 g1 H1 v L1 S1 r1 => ?_) fun _ _ _ q => q⟩
    split at q1
    · rename_i xs e1
      cases d with
      | tup ys =>
        cases e1
        cases r1 with
        | tup k1 k2 k3 => exact ⟨_, rfl, .inr ⟨⟨_, sqT_mono S1.sub k1.t⟩, q1 g1 H1 _ L1 S1 (walkD_tup k1.t k3)⟩⟩
      | lst ys =>
        cases e1
        cases r1 with
        | lst k1 k2 k3 => exact ⟨_, rfl, .inl ⟨⟨_, SqL.of (S1.sub _ _ k1)⟩, q1 g1 H1 _ L1 S1 (walkD_list (SqL.of k1) k3)⟩⟩
      | fz ys =>
        cases e1
        cases r1 with
        | fz k1 k2 k3 => exact ⟨_, rfl, .inl ⟨⟨_, sqL_mono S1.sub k1⟩, q1 g1 H1 _ L1 S1 (walkD_list k1 k3)⟩⟩
      | ref l =>
        obtain ⟨a, vs, ea, h2, _, _⟩ := S1.litems (xs := xs) r1 e1
        cases r1 with
        | ref hl => exact ⟨_, rfl, .inl ⟨⟨_, SqL.of (by cases ea; exact h2)⟩, q1 g1 H1 _ L1 S1 (walkD_ref hl)⟩⟩
      | _ => cases e1
    · exact q1.elim
theorem reps_range (K : PySem.W.Frag) (g : G) (lo : Int) : ∀ (n k : Nat), Reps K g ((List.range' k n).map fun (i : Nat) => D.int (lo + (i : Int))) ((List.range' k n).map fun (i : Nat) => V.int (lo + (i : Int)))
  | 0, k => .nil
  | n + 1, k => by
    rw [List.range'_succ]
    exact .cons (.int _) (reps_range K g lo n (k + 1))
theorem walkD_range {z : Z} {g : G} (lo : Int) (n : Nat) : WalkD z g (Itr lo n) (rangeL lo n) none where
  go := fun g2 H2 st2 i d0 d q S e1 e2 => by
    cases e2
    unfold rangeL at e1
    rw [List.getElem?_map] at e1
    have hi : i < n := by
      cases q : (List.range n)[i]? with
      | none => rw [q] at e1; cases e1
      | some j => have := (List.getElem?_eq_some_iff.mp q).1; simpa using this
    have ed : d0 = .int (lo + i) := by
      rw [List.getElem?_range hi] at e1
      exact (Option.some.inj e1).symm
    subst ed
    refine ⟨hi, fun x H3 y => ?_⟩
    obtain ⟨rfl, rfl⟩ := y
    exact ⟨g2, Le.refl _ _, S, .int _⟩
  stop := fun g2 H2 st2 q S _ => by show n ≤ (rangeL lo n).length; unfold rangeL; simp
theorem bd62a {j : Int} (h : -1000000 ≤ j) : -(2 ^ 62) ≤ j := Int.le_trans (by decide +kernel) h
theorem bd62b {j : Int} (h : j ≤ 1000000) : j < 2 ^ 62 := Int.lt_of_le_of_lt h (by decide +kernel)
theorem pi_rangeD1 (hg : Gl X "range") (hm : X.mg "range" = none) (ha : PA X [a] (tDA (zX X T) W fs)) (hs : starEach [a] X.env = [(false, eval a X.env)] := by rfl) : PI X tg (.Call (.Name "range" p) [a] [] pos) (tDI (zX X T) W (iRange1 fs)) :=
  PI.wk (pi_range1 hg hm ha hs) fun σ H R ⟨g, ρ, st, S, E, q⟩ => by
    refine ⟨g, ρ, st, S, E, Sat.mono (sat_bind q) (fun ds st1 q1 g1 H1 vs L1 S1 r1 => ?_) fun _ _ _ q => q⟩
    split at q1
    · split at q1
      · rename_i hj
        cases r1 with
        | cons r1 r2 => cases r2; cases r1; exact ⟨_, rfl, bd62a hj.1, bd62b hj.2, q1 g1 H1 _ L1 S1 (walkD_range 0 _)⟩
      · exact q1.elim
    · exact q1.elim
theorem pi_rangeD2 (hg : Gl X "range") (hm : X.mg "range" = none) (ha : PA X [a, b] (tDA (zX X T) W fs)) (hs : starEach [a, b] X.env = [(false, eval a X.env), (false, eval b X.env)] := by rfl) (hs2 : starEach [b] X.env = [(false, eval b X.env)] := by rfl) : PI X tg (.Call (.Name "range" p) [a, b] [] pos) (tDI (zX X T) W (iRange2 fs)) :=
  PI.wk (pi_range2 hg hm ha hs hs2) fun σ H R ⟨g, ρ, st, S, E, q⟩ => by
    refine ⟨g, ρ, st, S, E, Sat.mono (sat_bind q) (fun ds st1 q1 g1 H1 vs L1 S1 r1 => ?_) fun _ _ _ q => q⟩
    split at q1
    · split at q1
      · rename_i hj
        cases r1 with
        | cons r1 r2 => cases r2 with | cons r2 r3 => cases r3; cases r1; cases r2; exact ⟨_, _, rfl, ⟨bd62a hj.1, bd62b hj.2.1, bd62a hj.2.2.1, bd62b hj.2.2.2⟩, q1 g1 H1 _ L1 S1 (walkD_range _ _)⟩
      · exact q1.elim
    · exact q1.elim
/-- new pairs -/
theorem walkD_pair {z : Z} {g : G} {J : It} {ds xs ys : List D} {vs ws : List V} (rx : Reps z.K g xs vs) (ry : Reps z.K g ys ws) (hd : ∀ (i : Nat) d, ds[i]? = some d → ∃ dx dy, xs[i]? = some dx ∧ ys[i]? = some dy ∧ d = .tpl [dx, dy])
    (go : ∀ g2 H2 st2 (i : Nat) v w, Ge g g2 → Sim z.K z.T g2 st2 H2 → vs[i]? = some v → ws[i]? = some w → J.go i H2 ∧ ∀ x H3, J.yld i H2 x H3 → ∃ Tp, x = .ref Tp ∧ H2 Tp = none ∧ H3 = upd H2 Tp (.tup [v, w]))
    (stop : ∀ g2 H2 st2, Ge g g2 → Sim z.K z.T g2 st2 H2 → J.stop ds.length H2) : WalkD z g J ds none where
  go := fun g2 H2 st2 i d0 d q S e1 e2 => by
    cases e2
    obtain ⟨dx, dy, ex, ey, rfl⟩ := hd i d0 e1
    obtain ⟨v, ev, rv⟩ := rx.get ex
    obtain ⟨w, ew, rw'⟩ := ry.get ey
    obtain ⟨h1, h2⟩ := go g2 H2 st2 i v w q S ev ew
    refine ⟨h1, fun x H3 y => ?_⟩
    obtain ⟨Tp, rfl, hT, rfl⟩ := h2 x H3 y
    obtain ⟨S', L'⟩ := S.allocB (o := .tup [v, w]) hT (fun _ => by simp)
    exact ⟨_, L', S', .tpl (SqT.of upd_same) (by show 2 ≤ sizeLine; decide) (.cons ((rv.mono q).mono L'.ge) (.cons ((rw'.mono q).mono L'.ge) .nil))⟩
  stop := fun g2 H2 st2 q S _ => stop g2 H2 st2 q S
theorem zipD_get : ∀ {xs ys : List D} {i : Nat} {d : D}, (zipD xs ys)[i]? = some d → ∃ dx dy, xs[i]? = some dx ∧ ys[i]? = some dy ∧ d = .tpl [dx, dy]
  | x :: xs, y :: ys, 0, d, h => by cases h; exact ⟨x, y, rfl, rfl, rfl⟩
  | x :: xs, y :: ys, i + 1, d, h => by
    obtain ⟨dx, dy, h1, h2, h3⟩ := zipD_get (xs := xs) (ys := ys) (i := i) (by simpa [zipD] using h)
    exact ⟨dx, dy, by simpa using h1, by simpa using h2, h3⟩
  | [], _, _, _, h => by simp [zipD] at h
  | _ :: _, [], _, _, h => by simp [zipD] at h
theorem zipD_len : ∀ (xs ys : List D), (zipD xs ys).length = min xs.length ys.length
  | x :: xs, y :: ys => by
    show (zipD xs ys).length + 1 = _
    rw [zipD_len xs ys, List.length_cons, List.length_cons]; omega
  | [], ys => by cases ys <;> simp [zipD]
  | _ :: _, [] => by simp [zipD]
theorem pi_zipD (hg : Gl X "zip") (hm : X.mg "zip" = none) (ha : PA X [e, e2] (tDA (zX X T) W fs)) (hs : starEach [e, e2] X.env = (false, eval e X.env) :: starEach [e2] X.env := by rfl) (hpl : (backTo pos (starEach [e2] X.env)).any (·.1) = false := by rfl) :
    PI X (.Tuple elts kk tpos) (.Call (.Name "zip" p) [e, e2] [] pos) (tDI (zX X T) W (iZip fs)) :=
  PI.wk (RZ.pi_zipA hg hm ha hs hpl) fun σ H R ⟨g, ρ, st, S, E, q⟩ => by
    refine ⟨g, ρ, st, S, E, Sat.mono (sat_bind q) (fun ds st1 q1 g1 H1 vs L1 S1 r1 => ?_) fun _ _ _ q => q⟩
    split at q1
    · rename_i xs ys
      cases r1 with
      | cons r1 r2 => cases r2 with
        | cons r2 r3 =>
          cases r3
          cases r1 with
          | tup a1 a2 a3 => cases r2 with
            | tup b1 b2 b3 =>
              refine ⟨_, _, _, _, rfl, .inr ⟨sqT_mono S1.sub a1.t, sqT_mono S1.sub b1.t, q1 g1 H1 _ L1 S1 ?_⟩⟩
              refine walkD_pair a3 b3 (fun i d h => zipD_get h) (fun g2 H2 st2 i v w q S ev ew => ?_) fun g2 H2 st2 q S => ?_
              · have h1 := sqT_mono S.sub (sqT_mono q.b a1.t)
                have h2 := sqT_mono S.sub (sqT_mono q.b b1.t)
                refine ⟨⟨_, _, v, w, h1, h2, ev, ew⟩, fun x H3 y => ?_⟩
                obtain ⟨Tp, x1, x2, rfl, hT, rfl, y1, y2⟩ := y
                have e1 := Option.some.inj ((y1 _ h1).symm.trans ev)
                have e2 := Option.some.inj ((y2 _ h2).symm.trans ew)
                subst e1 e2
                exact ⟨Tp, rfl, hT, rfl⟩
              · refine ⟨_, _, sqT_mono S.sub (sqT_mono q.b a1.t), sqT_mono S.sub (sqT_mono q.b b1.t), ?_⟩
                show _ ≤ (zipD xs ys).length ∨ _ ≤ (zipD xs ys).length
                rw [zipD_len, a3.length, b3.length]; omega
    · rename_i xs ys
      cases r1 with
      | cons r1 r2 => cases r2 with
        | cons r2 r3 =>
          cases r3
          cases r1 with
          | lst a1 a2 a3 => cases r2 with
            | lst b1 b2 b3 =>
              refine ⟨_, _, _, _, rfl, .inl ⟨SqL.of (S1.sub _ _ a1), SqL.of (S1.sub _ _ b1), q1 g1 H1 _ L1 S1 ?_⟩⟩
              refine walkD_pair a3 b3 (fun i d h => zipD_get h) (fun g2 H2 st2 i v w q S ev ew => ?_) fun g2 H2 st2 q S => ?_
              · have h1 : SqL X.K H2 _ _ := SqL.of (S.sub _ _ (q.b _ _ a1))
                have h2 : SqL X.K H2 _ _ := SqL.of (S.sub _ _ (q.b _ _ b1))
                refine ⟨⟨_, _, v, w, h1, h2, ev, ew⟩, fun x H3 y => ?_⟩
                obtain ⟨Tp, x1, x2, rfl, hT, rfl, y1, y2⟩ := y
                have e1 := Option.some.inj ((y1 _ h1).symm.trans ev)
                have e2 := Option.some.inj ((y2 _ h2).symm.trans ew)
                subst e1 e2
                exact ⟨Tp, rfl, hT, rfl⟩
              · refine ⟨_, _, SqL.of (S.sub _ _ (q.b _ _ a1)), SqL.of (S.sub _ _ (q.b _ _ b1)), ?_⟩
                show _ ≤ (zipD xs ys).length ∨ _ ≤ (zipD xs ys).length
                rw [zipD_len, a3.length, b3.length]; omega
    · exact q1.elim
def numsD (n k : Nat) : List D := (List.range' k n).map fun i => D.int (i : Nat)
def numsV (n k : Nat) : List V := (List.range' k n).map fun i => V.int (i : Nat)
theorem reps_nums (K : PySem.W.Frag) (g : G) : ∀ (n k : Nat), Reps K g (numsD n k) (numsV n k)
  | 0, k => .nil
  | n + 1, k => by
    unfold numsD numsV
    rw [List.range'_succ]
    exact .cons (.int _) (reps_nums K g n (k + 1))
theorem enum_zip : ∀ (xs : List D) (k : Nat), enumFromD k xs = zipD (numsD xs.length k) xs
  | [], k => rfl
  | x :: xs, k => by
    show D.tpl [.int k, x] :: enumFromD (k + 1) xs = zipD (numsD (xs.length + 1) k) (x :: xs)
    unfold numsD
    rw [List.range'_succ, List.map_cons]
    show _ = D.tpl [.int k, x] :: zipD (numsD xs.length (k + 1)) xs
    rw [enum_zip xs (k + 1)]
theorem nums_get {n k i : Nat} {v : V} (h : (numsV n k)[i]? = some v) : v = .int ((k + i : Nat) : Int) := by
  unfold numsV at h
  rw [List.getElem?_map] at h
  cases q : (List.range' k n)[i]? with
  | none => rw [q] at h; cases h
  | some j =>
    rw [q] at h
    have := (List.getElem?_eq_some_iff.mp q).2
    rw [List.getElem_range'] at this
    cases h
    subst this
    simp
theorem pi_enumD (hg : Gl X "enumerate") (hm : X.mg "enumerate" = none) (ha : PA X [e] (tDA (zX X T) W fs)) (hs : starEach [e] X.env = [(false, eval e X.env)] := by rfl) : PI X (.Tuple elts kk tpos) (.Call (.Name "enumerate" p) [e] [] pos) (tDI (zX X T) W (iEnum fs)) :=
  PI.wk (pi_enumA hg hm ha hs) fun σ H R ⟨g, ρ, st, S, E, q⟩ => by
    refine ⟨g, ρ, st, S, E, Sat.mono (sat_bind q) (fun ds st1 q1 g1 H1 vs L1 S1 r1 => ?_) fun _ _ _ q => q⟩
    split at q1
    · rename_i xs
      cases r1 with
      | cons r1 r2 =>
        cases r2
        cases r1 with
        | tup a1 a2 a3 =>
          refine ⟨_, _, rfl, .inr ⟨sqT_mono S1.sub a1.t, q1 g1 H1 _ L1 S1 ?_⟩⟩
          rw [enum_zip]
          refine walkD_pair (reps_nums _ _ xs.length 0) a3 (fun i d h => zipD_get h) (fun g2 H2 st2 i v w q S ev ew => ?_) fun g2 H2 st2 q S => ?_
          · have h1 := sqT_mono S.sub (sqT_mono q.b a1.t)
            refine ⟨⟨_, w, h1, ew⟩, fun x H3 y => ?_⟩
            obtain ⟨Tp, x1, rfl, hT, rfl, y1⟩ := y
            have e1 := Option.some.inj ((y1 _ h1).symm.trans ew)
            have e2 := nums_get ev
            rw [Nat.zero_add] at e2
            subst e1 e2
            exact ⟨Tp, rfl, hT, rfl⟩
          · refine ⟨_, sqT_mono S.sub (sqT_mono q.b a1.t), ?_⟩
            rw [zipD_len]
            unfold numsD
            rw [List.length_map, List.length_range', ← a3.length]; omega
    · rename_i xs
      cases r1 with
      | cons r1 r2 =>
        cases r2
        cases r1 with
        | lst a1 a2 a3 =>
          refine ⟨_, _, rfl, .inl ⟨SqL.of (S1.sub _ _ a1), q1 g1 H1 _ L1 S1 ?_⟩⟩
          rw [enum_zip]
          refine walkD_pair (reps_nums _ _ xs.length 0) a3 (fun i d h => zipD_get h) (fun g2 H2 st2 i v w q S ev ew => ?_) fun g2 H2 st2 q S => ?_
          · have h1 : SqL X.K H2 _ _ := SqL.of (S.sub _ _ (q.b _ _ a1))
            refine ⟨⟨_, w, h1, ew⟩, fun x H3 y => ?_⟩
            obtain ⟨Tp, x1, rfl, hT, rfl, y1⟩ := y
            have e1 := Option.some.inj ((y1 _ h1).symm.trans ew)
            have e2 := nums_get ev
            rw [Nat.zero_add] at e2
            subst e1 e2
            exact ⟨Tp, rfl, hT, rfl⟩
          · refine ⟨_, SqL.of (S.sub _ _ (q.b _ _ a1)), ?_⟩
            rw [zipD_len]
            unfold numsD
            rw [List.length_map, List.length_range', ← a3.length]; omega
    · rename_i l
      split at q1
      · rename_i xs hs
        cases r1 with
        | cons r1 r2 =>
          cases r2
          cases r1 with
          | ref hl =>
            obtain ⟨vs, b1, b2, b3, b4⟩ := S1.obj l _ _ hl hs
            refine ⟨_, _, rfl, .inl ⟨SqL.of b2, q1 g1 H1 _ L1 S1 ?_⟩⟩
            refine ⟨fun g2 H2 st2 i d0 d q S e1 e2 => ?_, fun g2 H2 st2 q S hf => ?_⟩
            · unfold fetch at e2
              dsimp only at e2
              split at e2
              · rename_i ys hs2
                obtain ⟨ws, c1, c2, c3, c4⟩ := S.obj l _ _ (q.i _ _ hl) hs2
                cases ey : ys[i]? with
                | none => rw [ey] at e2; cases e2
                | some dx =>
                  rw [ey] at e2
                  cases e2
                  obtain ⟨w, ew, rw'⟩ := c4.get ey
                  refine ⟨⟨ws, w, SqL.of c2, ew⟩, fun x H3 y => ?_⟩
                  obtain ⟨Tp, x1, rfl, hT, rfl, y1⟩ := y
                  have e3 := Option.some.inj ((y1 _ (SqL.of c2)).symm.trans ew)
                  subst e3
                  obtain ⟨S', L'⟩ := S.allocB (o := .tup [.int (i : Int), x1]) hT (fun _ => by simp)
                  exact ⟨_, L', S', .tpl (SqT.of upd_same) (by show 2 ≤ sizeLine; decide) (.cons (.int _) (.cons (rw'.mono L'.ge) .nil))⟩
              · cases e2
            · unfold finOk at hf
              dsimp only at hf
              split at hf
              · rename_i ys hs2
                obtain ⟨ws, c1, c2, c3, c4⟩ := S.obj l _ _ (q.i _ _ hl) hs2
                refine ⟨ws, SqL.of c2, ?_⟩
                rw [← c4.length, beq_iff_eq.mp hf]; exact Nat.le_refl _
              · cases hf
      · exact q1.elim
    · exact q1.elim

/-! ### targets -/
/-- a target stores what g says, in the slots sl alone -/
def TgOk (z : Z) (t : TG) (gd : TgD) (sl : List Nat) : Prop :=
  ∀ (g : G) (st : Sto) (σ : L2.St) (ρ ρ' : Ev) (H : Hp) (d : D) (v : V) (Q : L2.St → Hp → Prop), Sim z.K z.T g st H → Rep z.K g d v → EnvR z.K g σ ρ → gd d ρ = some ρ' →
    (∀ σ', EnvR z.K g σ' ρ' → (∀ vs, (∀ i ∈ sl, i ∈ vs) → wipe σ' vs = wipe σ vs) → Q σ' H) → t v σ H Q
theorem wipe_get {σ : L2.St} : ∀ {vs : List Nat} {j : Nat}, (wipe σ vs)[j]? = if j ∈ vs then (if j < σ.length then some none else none) else σ[j]?
  | [], j => by simp [wipe]
  | v :: vs, j => by
    unfold wipe
    by_cases hj : v = j
    · subst hj
      by_cases hl : v < σ.length
      · rw [List.getElem?_set_self (by rw [wipe_length]; exact hl)]
        simp [hl]
      · rw [List.getElem?_eq_none (by rw [List.length_set, wipe_length]; omega)]
        simp [hl]
    · rw [List.getElem?_set_ne hj, wipe_get]
      have : (j ∈ v :: vs) = (j ∈ vs) := by simp [Ne.symm hj]
      simp only [this]
theorem wipe_set {σ : L2.St} {i : Nat} {o : Option V} {vs : List Nat} (h : i ∈ vs) : wipe (σ.set i o) vs = wipe σ vs := by
  apply List.ext_getElem?
  intro j
  rw [wipe_get, wipe_get, List.length_set]
  by_cases hj : j ∈ vs
  · simp [hj]
  · have : i ≠ j := fun z => hj (z ▸ h)
    rw [if_neg hj, if_neg hj, List.getElem?_set_ne this]
theorem tg_name (z : Z) (i : Nat) : TgOk z (gName i) (gN i) [i] := fun g st σ ρ ρ' H d v Q S r E e k => by
  cases e
  exact k _ (E.set i r) fun vs hv => wipe_set (hv i (by simp))
theorem tg_two {z : Z} {t1 t2 : TG} {g1 g2 : TgD} {s1 s2 : List Nat} (h1 : TgOk z t1 g1 s1) (h2 : TgOk z t2 g2 s2) : TgOk z (gTup z.K 2 (gCons t1 (gCons t2 gNil))) (gT2 g1 g2) (s1 ++ s2) := fun g st σ ρ ρ' H d v Q S r E e k => by
  unfold gT2 at e
  split at e
  · rename_i x y
    obtain ⟨ρ1, e1, e2⟩ := Option.bind_eq_some_iff.mp e
    obtain ⟨a, vs, rfl, q1, q2, q3⟩ := S.tup r
    cases q3 with
    | cons r1 q3 => cases q3 with
      | cons r2 q3 =>
        cases q3
        refine ⟨a, [_, _], rfl, q1, rfl, _, [_], rfl, ?_⟩
        refine h1 g st σ ρ ρ1 H x _ _ S r1 E e1 fun σ1 E1 w1 => ?_
        refine ⟨_, [], rfl, ?_⟩
        refine h2 g st σ1 ρ1 ρ' H y _ _ S r2 E1 e2 fun σ2 E2 w2 => ⟨rfl, k σ2 E2 fun vs hv => ?_⟩
        rw [w2 vs fun i hi => hv i (by simp [hi]), w1 vs fun i hi => hv i (by simp [hi])]
  · rename_i x y
    obtain ⟨ρ1, e1, e2⟩ := Option.bind_eq_some_iff.mp e
    obtain ⟨a, vs, rfl, q1, q2, q3⟩ := S.tpl r
    cases q3 with
    | cons r1 q3 => cases q3 with
      | cons r2 q3 =>
        cases q3
        refine ⟨a, [_, _], rfl, q1, rfl, _, [_], rfl, ?_⟩
        refine h1 g st σ ρ ρ1 H x _ _ S r1 E e1 fun σ1 E1 w1 => ?_
        refine ⟨_, [], rfl, ?_⟩
        refine h2 g st σ1 ρ1 ρ' H y _ _ S r2 E1 e2 fun σ2 E2 w2 => ⟨rfl, k σ2 E2 fun vs hv => ?_⟩
        rw [w2 vs fun i hi => hv i (by simp [hi]), w1 vs fun i hi => hv i (by simp [hi])]
  · cases e
theorem tg_three {z : Z} {t1 t2 t3 : TG} {g1 g2 g3 : TgD} {s1 s2 s3 : List Nat} (h1 : TgOk z t1 g1 s1) (h2 : TgOk z t2 g2 s2) (h3 : TgOk z t3 g3 s3) : TgOk z (gTup z.K 3 (gCons t1 (gCons t2 (gCons t3 gNil)))) (gT3 g1 g2 g3) (s1 ++ (s2 ++ s3)) := fun g st σ ρ ρ' H d v Q S r E e k => by
  unfold gT3 at e
  split at e
  · rename_i x y w
    obtain ⟨ρ1, e1, e⟩ := Option.bind_eq_some_iff.mp e
    obtain ⟨ρ2, e2, e3⟩ := Option.bind_eq_some_iff.mp e
    obtain ⟨a, vs, rfl, q1, q2, q3⟩ := S.tup r
    cases q3 with
    | cons r1 q3 => cases q3 with
      | cons r2 q3 => cases q3 with
        | cons r3 q3 =>
          cases q3
          refine ⟨a, [_, _, _], rfl, q1, rfl, _, [_, _], rfl, ?_⟩
          refine h1 g st σ ρ ρ1 H x _ _ S r1 E e1 fun σ1 E1 w1 => ?_
          refine ⟨_, [_], rfl, ?_⟩
          refine h2 g st σ1 ρ1 ρ2 H y _ _ S r2 E1 e2 fun σ2 E2 w2 => ?_
          refine ⟨_, [], rfl, ?_⟩
          refine h3 g st σ2 ρ2 ρ' H w _ _ S r3 E2 e3 fun σ3 E3 w3 => ⟨rfl, k σ3 E3 fun vs hv => ?_⟩
          rw [w3 vs fun i hi => hv i (by simp [hi]), w2 vs fun i hi => hv i (by simp [hi]), w1 vs fun i hi => hv i (by simp [hi])]
  · cases e

/-! ### comprehensions -/
abbrev W0 : WX := fun _ _ _ _ => False
theorem nx_sat {α : Type} {o : Out α} {P : α → Sto → Prop} {E : Str → List (Str × D) → Sto → Prop} (h : Sat o.nx P E) : Sat o P (fun _ _ _ => False) := by
  cases o <;> exact h
theorem xpost0 {z : Z} {σ : L2.St} {g : G} {H : Hp} {n : Str} {fs : List (Str × D)} {st : Sto} (h : False) : XPost z W0 σ g H n fs st := h.elim
theorem drop_cons {α : Type} {xs : List α} {i : Nat} {x : α} {r : List α} (h : xs.drop i = x :: r) : xs[i]? = some x ∧ xs.drop (i + 1) = r := by
  have h1 : xs[i]? = (xs.drop i)[0]? := by simp
  refine ⟨by rw [h1, h]; rfl, ?_⟩
  rw [← List.drop_drop, h]; rfl
theorem wipe_wipe {σ : L2.St} {vs : List Nat} : wipe (wipe σ vs) vs = wipe σ vs := by
  apply List.ext_getElem?
  intro j
  rw [wipe_get, wipe_get, wipe_length]
  by_cases hj : j ∈ vs
  · simp [hj]
  · simp [hj]
/-- a thing apart is written -/
theorem Sim.side {K : PySem.W.Frag} {g : G} {st : Sto} {H : Hp} {p : Addr} {o : HO} (S : Sim K T g st H) (hB : g.B p = none) (hI : p ∉ g.ι) (hp : ∀ o', H p = some o' → (∃ xs, o' = .lst xs)) : Sim K T g st (upd H p o) := by
  refine ⟨fun b u e => ?_, S.len, S.nd, fun b hb => ?_, fun k b mo e1 e2 => ?_, fun q hq => ?_, S.tb⟩
  · rw [upd_ne (ne_of_none e hB)]; exact S.sub b u e
  · obtain ⟨u, e, q⟩ := S.there b hb
    exact ⟨u, by rw [upd_ne (fun z : b = p => hI (by rw [← z]; exact hb))]; exact e, q⟩
  · have nb : b ≠ p := fun z => hI (z ▸ List.mem_of_getElem? e1)
    exact (S.obj k b mo e1 e2).mono (Ge.refl g) (fun z => z) fun u z => by rw [upd_ne nb]; exact z
  · obtain ⟨ps, h1, h2, h3⟩ := S.tabs q hq
    have n1 : q.1 ≠ p := fun z => by
      obtain ⟨xs, e⟩ := hp _ (z ▸ h1)
      cases e
    refine ⟨ps, by rw [upd_ne n1]; exact h1, h2, fun pos cv hc => ?_⟩
    obtain ⟨c, e1, e2⟩ := h3 pos cv hc
    have n2 : c ≠ p := fun z => by
      obtain ⟨xs, e⟩ := hp _ (z ▸ e2)
      cases e
    exact ⟨c, e1, by rw [upd_ne n2]; exact e2⟩
theorem Le.side {g g' : G} {H H' : Hp} {p : Addr} {o : HO} (h : Le g g' H H') (hp : H p = none) : Le g g' H (upd H' p o) :=
  ⟨h.ge, fun a u e1 e2 e3 e4 => by
    obtain ⟨f1, f2, f3⟩ := h.fr a u e1 e2 e3 e4
    exact ⟨by rw [upd_ne (ne_of_none e1 hp)]; exact f1, f2, f3⟩⟩
/-- a thing apart is taken up: a list that never changes, or one of the store -/
theorem Sim.adopt {z : Z} {W : WX} {σ : L2.St} {Q : VK} {m : Bool} {g g0 : G} {st : Sto} {H H0 : Hp} {p : Addr} {xs : List D} {vs : List V} (S : Sim z.K z.T g st H) (L : Le g0 g H0 H) (h0 : H0 p = none) (hB : g.B p = none) (hI : p ∉ g.ι) (hp : H p = some (.lst vs)) (hz : vs.length ≤ sizeLine) (r : Reps z.K g xs vs)
    (h : EPost z W σ Q g0 H0 (newL m xs st)) : Q (.ref p) H := by
  cases m with
  | false =>
    have ge : Ge g ⟨upd g.B p (.lst vs), g.ι⟩ := ⟨fun a u e => by show upd g.B p (.lst vs) a = some u; rw [upd_ne (ne_of_none e hB)]; exact e, fun _ _ e => e⟩
    have nι : ∀ {l : Nat} {b : Addr}, g.ι[l]? = some b → b ≠ p := fun e z => hI (z ▸ List.mem_of_getElem? e)
    refine h ⟨upd g.B p (.lst vs), g.ι⟩ H _ ⟨L.ge.trans ge, fun a u e1 e2 e3 e4 => ?_⟩ ⟨fun a u e => ?_, S.len, S.nd, S.there, fun l b mo e1 e2 => ?_, S.tabs, fun a u e ps => ?_⟩ (.lst upd_same hz (r.mono ge))
    · obtain ⟨f1, f2, f3⟩ := L.fr a u e1 e2 e3 e4
      exact ⟨f1, by show upd g.B p (.lst vs) a = none; rw [upd_ne (ne_of_none e1 h0)]; exact f2, f3⟩
    · have e : upd g.B p (.lst vs) a = some u := e
      by_cases ha : a = p
      · subst ha; rw [upd_same] at e; cases e; exact hp
      · rw [upd_ne ha] at e; exact S.sub a u e
    · exact (S.obj l b mo e1 e2).mono ge (fun z => by show upd g.B p (.lst vs) b = none; rw [upd_ne (nι e1)]; exact z) fun u z => z
    · have e : upd g.B p (.lst vs) a = some u := e
      by_cases ha : a = p
      · subst ha; rw [upd_same] at e; cases e; intro q; cases q
      · rw [upd_ne ha] at e; exact S.tb a u e ps
  | true =>
    have ge : Ge g ⟨g.B, g.ι ++ [p]⟩ := ⟨fun a u e => e, fun l a e => by
      show (g.ι ++ [p])[l]? = some a
      rw [List.getElem?_append_left (List.getElem?_eq_some_iff.mp e).1]; exact e⟩
    refine h ⟨g.B, g.ι ++ [p]⟩ H (.ref p) ⟨L.ge.trans ge, fun a u e1 e2 e3 e4 => ?_⟩ ⟨S.sub, by simp [S.len], ?_, fun b hb => ?_, fun l b mo e1 e2 => ?_, S.tabs, S.tb⟩ (.ref ?_)
    · obtain ⟨f1, f2, f3⟩ := L.fr a u e1 e2 e3 e4
      refine ⟨f1, f2, fun z => (List.mem_append.mp z).elim f3 fun q => ?_⟩
      exact ne_of_none e1 h0 (by simpa using q)
    · refine List.nodup_append.mpr ⟨S.nd, by simp, fun a ha b hb => ?_⟩
      have : b = p := by simpa using hb
      subst this
      exact fun z => hI (z ▸ ha)
    · rcases List.mem_append.mp hb with hb | hb
      · exact S.there b hb
      · have : b = p := by simpa using hb
        subst this
        exact ⟨_, hp, fun ps q => by cases q⟩
    · have e1' : (g.ι ++ [p])[l]? = some b := e1
      by_cases hl : l < g.ι.length
      · rw [List.getElem?_append_left hl] at e1'
        rw [List.getElem?_append_left (by rw [← S.len]; exact hl)] at e2
        exact (S.obj l b mo e1' e2).mono ge (fun z => z) fun u z => z
      · rw [List.getElem?_append_right (by omega)] at e1'
        rw [List.getElem?_append_right (by rw [← S.len]; omega)] at e2
        have hl0 : l - g.ι.length = 0 := by
          have := (List.getElem?_eq_some_iff.mp e1').1
          simp at this; exact this
        rw [hl0] at e1'
        rw [← S.len, hl0] at e2
        simp at e1' e2
        subst e1' e2
        exact ⟨vs, hB, hp, hz, r.mono ge⟩
    · show (g.ι ++ [p])[st.length]? = some p
      rw [← S.len, List.getElem?_append_right (Nat.le_refl _)]; simp
/-- the turns of a comprehension -/
theorem lc_turns {z : Z} {W : WX} {σ0 σ : L2.St} {Q : VK} {m : Bool} {J : It} {t : TG} {gd : TgD} {sl vs : List Nat} {ft : ST} {fe : SE} {ρ : Ev} {dy : Dy} {ds : List D} {g1 : G} {H1 : Hp} {st1 : Sto} {Dd : Addr}
    (ht : TgOk z t gd sl) (hsl : ∀ i ∈ sl, i ∈ vs) (hz : ds.length ≤ sizeLine) (E : EnvR z.K g1 σ ρ) (S1 : Sim z.K z.T g1 st1 H1) (wk : WalkD z g1 J ds dy) (hD : H1 Dd = none)
    (h : EPost z W σ0 Q g1 H1 ((loopLC dy ds.length gd ft fe (wipeD ρ vs) 0 ds st1).bind fun ys st => newL m ys st)) :
    ∃ W' : Nat → Nat → Hp → Prop, (∃ k, W' 0 k (upd H1 Dd (.lst []))) ∧ ∀ i k H, W' i k H →
      (J.stop i H ∧ Q (.ref Dd) H) ∨ (J.go i H ∧ ∃ Nx : Hp → Prop, (∀ H', Nx H' → ∃ k', k' < k ∧ W' (i + 1) k' H') ∧ ∀ x H', J.yld i H x H' → t x (wipe σ vs) H' fun σ2 H2 => wipe σ2 vs = wipe σ vs ∧ tDT z W0 ft σ2 H2 fun b H3 =>
        if b = true then tD z W0 fe σ2 H3 fun y H4 => ∃ acc, H4 Dd = some (.lst acc) ∧ acc.length < sizeLine ∧ Nx (upd H4 Dd (.lst (acc ++ [y]))) else Nx H3) := by
  have hB1 := S1.freshB hD
  have hI1 := S1.freshI hD
  have S1' : Sim z.K z.T g1 st1 (upd H1 Dd (.lst [])) := S1.side hB1 hI1 fun o' e => by rw [hD] at e; cases e
  refine ⟨fun i k H => k = ds.length - i ∧ i ≤ ds.length ∧ ∃ g2 st2 as acc, Le g1 g2 H1 H ∧ Sim z.K z.T g2 st2 H ∧ H Dd = some (.lst acc) ∧ g2.B Dd = none ∧ Dd ∉ g2.ι ∧ Reps z.K g2 as acc ∧ acc.length ≤ i ∧
    EPost z W σ0 Q g1 H1 ((loopLC dy ds.length gd ft fe (wipeD ρ vs) i (ds.drop i) st2).bind fun ys st => newL m (as ++ ys) st),
    ⟨ds.length, by omega, by omega, g1, st1, [], [], (Le.refl _ _).side hD, S1', upd_same, hB1, hI1, .nil, by simp, by simpa using h⟩, ?_⟩
  rintro i k H ⟨rfl, hi, g2, st2, as, acc, L2', S2, hDa, hB, hI, ra, hl, h2⟩
  cases hd : ds.drop i with
  | nil =>
    have hin : i = ds.length := by
      have := congrArg List.length hd
      rw [List.length_drop, List.length_nil] at this; omega
    subst hin
    rw [hd] at h2
    unfold loopLC at h2
    split at h2
    · rename_i hf
      refine .inl ⟨wk.stop g2 H st2 L2'.ge S2 hf, ?_⟩
      have h3 : EPost z W σ0 Q g1 H1 (newL m (as ++ []) st2) := h2
      rw [List.append_nil] at h3
      exact S2.adopt L2' hD hB hI hDa (Nat.le_trans hl hz) ra h3
    · exact h2.elim
  | cons d0 r =>
    obtain ⟨e1, e2⟩ := drop_cons hd
    have hilt : i < ds.length := (List.getElem?_eq_some_iff.mp e1).1
    rw [hd] at h2
    unfold loopLC at h2
    split at h2
    · exact h2.elim
    · rename_i d hfe
      split at h2
      · exact h2.elim
      · rename_i ρ1 hg
        obtain ⟨go, yl⟩ := wk.go g2 H st2 i d0 d L2'.ge S2 e1 hfe
        refine .inr ⟨go, fun H' => ∃ g5 st5 as' acc', Le g1 g5 H1 H' ∧ Sim z.K z.T g5 st5 H' ∧ H' Dd = some (.lst acc') ∧ g5.B Dd = none ∧ Dd ∉ g5.ι ∧ Reps z.K g5 as' acc' ∧ acc'.length ≤ i + 1 ∧
          EPost z W σ0 Q g1 H1 ((loopLC dy ds.length gd ft fe (wipeD ρ vs) (i + 1) (ds.drop (i + 1)) st5).bind fun ys st => newL m (as' ++ ys) st),
          fun H' hN => ⟨ds.length - (i + 1), by omega, rfl, by omega, hN⟩, fun x H3 y => ?_⟩
        obtain ⟨g3, L3, S3, r3⟩ := yl x H3 y
        obtain ⟨f1, f2, f3⟩ := L3.fr Dd _ hDa hB hI (fun ps q => by cases q)
        have E3 : EnvR z.K g3 (wipe σ vs) (wipeD ρ vs) := (E.mono (L2'.trans L3).ge).wipe vs
        refine ht g3 st2 (wipe σ vs) (wipeD ρ vs) ρ1 H3 d x _ S3 r3 E3 hg fun σ2 E2 hw => ?_
        refine ⟨by rw [hw vs hsl]; exact wipe_wipe, ?_⟩
        refine ⟨g3, ρ1, st2, S3, E2, Sat.mono (nx_sat (sat_bind (sat_bind h2))) (fun b st4 q4 g4 H4 L4 S4 => ?_) fun _ _ _ q => q.elim⟩
        obtain ⟨k1, k2, k3⟩ := L4.fr Dd _ f1 f2 f3 (fun ps q => by cases q)
        have ra4 := ra.mono (L3.trans L4).ge
        have L14 := (L2'.trans L3).trans L4
        cases b with
        | true =>
          rw [if_pos rfl] at q4
          refine ⟨g4, ρ1, st4, S4, E2.mono L4.ge, Sat.mono (nx_sat (sat_bind q4)) (fun dy' st5 q5 g5 H5 v L5 S5 r5 => ?_) fun _ _ _ q => q.elim⟩
          obtain ⟨j1, j2, j3⟩ := L5.fr Dd _ k1 k2 k3 (fun ps q => by cases q)
          refine ⟨acc, j1, by omega, g5, st5, as ++ [dy'], acc ++ [v], (L14.trans L5).side hD, S5.side j2 j3 (fun o' e => by rw [j1] at e; cases e; exact ⟨_, rfl⟩), upd_same, j2, j3, (ra4.mono L5.ge).append (.one r5), by simp; omega, ?_⟩
          rw [e2]
          refine sat_bind' (Sat.mono (sat_bind q5) (fun ys st q => ?_) fun _ _ _ q => q)
          have q' : Sat (newL m (as ++ (dy' :: ys)) st) (VPost z Q g1 H1) (XPost z W σ0 g1 H1) := q
          rw [List.append_assoc]
          exact q'
        | false =>
          refine ⟨g4, st4, as, acc, L14, S4, k1, k2, k3, ra4, by omega, ?_⟩
          rw [if_neg Bool.false_ne_true] at q4
          rw [e2]
          exact sat_bind' q4
/-- [elt for tg in iter if ..] -/
theorem wk_lc {z : Z} {m : Bool} {t : TG} {gd : TgD} {sl vs : List Nat} (ht : TgOk z t gd sl) (hsl : ∀ i ∈ sl, i ∈ vs) : ∀ σ H Q, tD z W (sLC m fi gd ft fe vs) σ H Q → tLc (tDI z W fi) t (tDT z W0 ft) (tD z W0 fe) vs σ H Q := by
  rintro σ H Q ⟨g, ρ, st, S, E, q⟩
  refine ⟨g, ρ, st, S, E, Sat.mono (sat_bind q) (fun p st1 q1 g1 H1 J L1 S1 wk Dd hD => ?_) fun _ _ _ q => q⟩
  split at q1
  · rename_i hz
    exact lc_turns ht hsl hz (E.mono L1.ge) S1 wk hD (EPost.mono (W := W) (σ := σ) L1 q1)
  · exact q1.elim
end
end PD
/-! PDRules5: statements, defs and their calls. -/
namespace PD
open PySem PySem.Spec PyProof.Rows L2
section
variable {X : Cx} {T : List (Addr × Str)} {W : WX} {a b c e e2 elt iter : Expr} {es ifs : List Expr} {fa fb fc fe : SE} {fs : SA} {ft fu : ST} {fi : SI} {pos p tpos : Pos} {x : Str} {tg : Expr} {elts : List Expr} {kk : Nat} {qa qb : SS} {sa : Stmt} {ss : List Stmt}

theorem pts_nilD : PTs X [] (tDT (zX X T) W0 tYesD) := ⟨fun pins s σ H Q I ⟨g, ρ, st, S, E, q⟩ => pts_nil.run pins s σ H Q I (q g H (Le.refl g H) S)⟩
theorem pts_oneD (h : PT X c (tDT (zX X T) W0 ft)) : PTs X [c] (tDT (zX X T) W0 ft) := pts_one h
theorem pd_lc {scope : Scope} {own : List (Str × Nat)} {t : TG} {gd : TgD} {sl : List Nat} (m : Bool) (hc : X.calm = true) (hN : X.N.Nodup) (hi : PI X tg iter (tDI (zX X T) W fi)) (ok : BlkOk X.N X.env.scope scope own) (ht : TgOk (zX X T) t gd sl) (hsl : ∀ i ∈ sl, i ∈ own.map (·.2))
    (hg : ∀ (s : Shared) (H : Hp) (C : Addr) (cl : List (Str × Addr)) (fp : List Addr), PG (X.blk s H scope (compEnvC scope cl C X.env) fp) tg t)
    (hif : ∀ (s : Shared) (H : Hp) (C : Addr) (cl : List (Str × Addr)) (fp : List Addr), PTs (X.blk s H scope (compEnvC scope cl C X.env) fp) ifs (tDT (zX X T) W0 ft))
    (he : ∀ (s : Shared) (H : Hp) (C : Addr) (cl : List (Str × Addr)) (fp : List Addr), PE (X.blk s H scope (compEnvC scope cl C X.env) fp) elt (tD (zX X T) W0 fe)) (hs : ∀ x, foldedSetIterable iter X.env x = pure x := by intro _; rfl) :
    PE X (.ListComp elt [⟨tg, iter, ifs, 0⟩] scope pos) (tD (zX X T) W (sLC m fi gd ft fe (own.map (·.2)))) := PE.wk (pe_lc hc hN hi ok hg hif he hs) (wk_lc ht hsl)

/-! ### small statements -/
theorem qs_nil : PSs X [] (tDS (zX X T) W qNext) := PSs.wk pss_nil fun D σ H ⟨g, ρ, st, S, E, q⟩ => q g H (Le.refl g H) S σ E
theorem qs_cons (h1 : PS X sa (tDS (zX X T) W qa)) (h2 : PSs X ss (tDS (zX X T) W qb)) : PSs X (sa :: ss) (tDS (zX X T) W (qSeq qa qb)) :=
  PSs.wk (pss_cons h1 h2) fun D σ H ⟨g, ρ, st, S, E, q⟩ => by
    refine ⟨g, ρ, st, S, E, ?_⟩
    have q' : SPost (zX X T) W D g H (match qa ρ st with | some (.nx ρ', st') => qb ρ' st' | r => r) := q
    cases hq : qa ρ st with
    | none => rw [hq] at q'; exact q'
    | some r =>
      obtain ⟨fl, st'⟩ := r
      rw [hq] at q'
      cases fl with
      | nx ρ' => exact fun g' H' L S' σ' E' => ⟨g', ρ', st', S', E', SPost.mono L q'⟩
      | _ => exact q'
theorem qs_one (h1 : PS X sa (tDS (zX X T) W qa)) : PSs X [sa] (tDS (zX X T) W qa) := pss_one h1
theorem ps_passD : PS X (.Pass pos) (tDS (zX X T) W qNext) := PS.wk ps_pass fun D σ H ⟨g, ρ, st, S, E, q⟩ => q g H (Le.refl g H) S σ E
theorem ps_breakD : PS X (.Break pos) (tDS (zX X T) W qBrk) := PS.wk ps_break fun D σ H ⟨g, ρ, st, S, E, q⟩ => q g H (Le.refl g H) S σ E
theorem ps_contD : PS X (.Continue pos) (tDS (zX X T) W qCnt) := PS.wk ps_continue fun D σ H ⟨g, ρ, st, S, E, q⟩ => q g H (Le.refl g H) S σ E
theorem ps_neverD : PS X sa (tDS (zX X T) W qNever) := PS.wk ps_never fun D σ H ⟨g, ρ, st, S, E, q⟩ => q.elim
theorem qs_never : PSs X ss (tDS (zX X T) W qNever) := PSs.wk pss_never fun D σ H ⟨g, ρ, st, S, E, q⟩ => q.elim
theorem ps_exprD (he : PE X e (tD (zX X T) W fe)) (hs : swapsWith e none pos.line X.env = pure false := by rfl) : PS X (.Expr e pos) (tDS (zX X T) W (qExpr fe)) :=
  PS.wk (ps_expr he hs) fun D σ H ⟨g, ρ, st, S, E, q⟩ => ⟨g, ρ, st, S, E, Sat.mono (st_sat E q) (fun d st1 q1 g1 H1 v L1 S1 r1 => q1 g1 H1 L1 S1 σ (E.mono L1.ge)) fun _ _ _ q => q⟩
theorem ps_retD (he : PE X e (tD (zX X T) W fe)) : PS X (.Return (some e) pos) (tDS (zX X T) W (qRet fe)) :=
  PS.wk (ps_ret he) fun D σ H ⟨g, ρ, st, S, E, q⟩ => ⟨g, ρ, st, S, E, Sat.mono (st_sat E q) (fun d st1 q1 g1 H1 v L1 S1 r1 => q1 g1 H1 L1 S1 v r1) fun _ _ _ q => q⟩
theorem ps_retND : PS X (.Return none pos) (tDS (zX X T) W qRetN) := PS.wk ps_retN fun D σ H ⟨g, ρ, st, S, E, q⟩ => q g H (Le.refl g H) S .non .non
theorem wk_set {i : Nat} {t : TE} {f : SE} (h : ∀ σ H Q, tD (zX X T) W f σ H Q → t σ H Q) : ∀ D σ H, tDS (zX X T) W (qSet i f) D σ H → tAsg t (gName i) D σ H := fun D σ H ⟨g, ρ, st, S, E, q⟩ =>
  h σ H _ ⟨g, ρ, st, S, E, Sat.mono (st_sat E q) (fun d st1 q1 g1 H1 v L1 S1 r1 => q1 g1 H1 L1 S1 _ ((E.mono L1.ge).set i r1)) fun _ _ _ q => q⟩
theorem ps_setD {i : Nat} {pos' : Pos} (hN : X.N.Nodup) (hi : X.N[i]? = some x) (hx : Loc X.env.scope x) (he : PE X e (tD (zX X T) W fe)) (hs : swapsWith e (some (.Name x pos')) pos.line X.env = pure false := by rfl) (hf : X.fn x = true ∨ X.env.scope.names.lookup x = some .local := by first | exact .inl rfl | exact .inr rfl | assumption) :
    PS X (.Assign [.Name x pos'] e pos) (tDS (zX X T) W (qSet i fe)) := PS.wk (ps_set hN hi hx he hs hf) (wk_set fun _ _ _ h => h)
theorem ps_setLcD {i : Nat} {y : Str} {py spos : Pos} {scope : Scope} {own : List (Str × Nat)} {t : TG} {gd : TgD} {sl : List Nat} (m : Bool) (hc : X.calm = true) (hN : X.N.Nodup) (hy : X.N[i]? = some y) (hyl : X.env.scope.names.lookup y = some .local)
    (hsw : swapsWith (.ListComp elt [⟨tg, iter, ifs, 0⟩] scope pos) (some (.Name y py)) spos.line X.env = pure true) (hi : PI X tg iter (tDI (zX X T) W fi)) (ok : BlkOk X.N X.env.scope scope own) (ht : TgOk (zX X T) t gd sl) (hsl : ∀ i ∈ sl, i ∈ own.map (·.2))
    (hg : ∀ (s : Shared) (H : Hp) (C : Addr) (cl : List (Str × Addr)) (fp : List Addr), PG (X.blk s H scope (compEnvC scope cl C X.env) fp) tg t)
    (hif : ∀ (s : Shared) (H : Hp) (C : Addr) (cl : List (Str × Addr)) (fp : List Addr), PTs (X.blk s H scope (compEnvC scope cl C X.env) fp) ifs (tDT (zX X T) W0 ft))
    (he : ∀ (s : Shared) (H : Hp) (C : Addr) (cl : List (Str × Addr)) (fp : List Addr), PE (X.blk s H scope (compEnvC scope cl C X.env) fp) elt (tD (zX X T) W0 fe)) (hs : ∀ x, foldedSetIterable iter X.env x = pure x := by intro _; rfl) :
    PS X (.Assign [.Name y py] (.ListComp elt [⟨tg, iter, ifs, 0⟩] scope pos) spos) (tDS (zX X T) W (qSet i (sLC m fi gd ft fe (own.map (·.2))))) :=
  PS.wk (ps_setLc hc hN hy hyl hsw hi ok hg hif he hs) (wk_set (wk_lc ht hsl))
theorem ps_asgD {t : TG} {gd : TgD} {sl : List Nat} (ht : TgOk (zX X T) t gd sl) (he : PE X e (tD (zX X T) W fe)) (hg : PG X tg t) (hs : swapsWithSole [tg] e pos.line X.env = pure false := by rfl) (hw : swappedStores [tg] e X.env = pure none := by rfl)
    (h1 : (assignEach [tg] X.env).map (·.2) = [assign tg X.env] := by rfl) : PS X (.Assign [tg] e pos) (tDS (zX X T) W (qAsg gd fe)) :=
  PS.wk (ps_asg he hg hs hw h1) fun D σ H ⟨g, ρ, st, S, E, q⟩ => ⟨g, ρ, st, S, E, Sat.mono (st_sat E q) (fun d st1 q1 g1 H1 v L1 S1 r1 => by
    split at q1
    · rename_i ρ' e
      exact ht g1 st1 σ ρ ρ' H1 d v _ S1 r1 (E.mono L1.ge) e fun σ' E' _ => q1 g1 H1 L1 S1 σ' E'
    · exact q1.elim) fun _ _ _ q => q⟩
theorem ps_parD {i j : Nat} {x y : Str} {px py pt : Pos} {kt k2 : Nat} {pt2 : Pos} (hc : X.calm = true) (hN : X.N.Nodup) (hi : X.N[i]? = some x) (hj : X.N[j]? = some y) (hij : i ≠ j)
    (hx : X.env.scope.names.lookup x = some .local) (hy : X.env.scope.names.lookup y = some .local) (ha : PA X [a, b] (tDA (zX X T) W fs))
    (hw : swappedStores [.Tuple [.Name x px, .Name y py] kt pt] (.Tuple [a, b] k2 pt2) X.env = pure (some [x, y]))
    (hs : swapsWithSole [.Tuple [.Name x px, .Name y py] kt pt] (.Tuple [a, b] k2 pt2) pos.line X.env = pure false := by rfl) :
    PS X (.Assign [.Tuple [.Name x px, .Name y py] kt pt] (.Tuple [a, b] k2 pt2) pos) (tDS (zX X T) W (qPar i j fs)) :=
  PS.wk (ps_par hc hN hi hj hij hx hy ha hw hs) fun D σ H ⟨g, ρ, st, S, E, q⟩ => ⟨g, ρ, st, S, E, Sat.mono (st_sat E q) (fun ds st1 q1 g1 H1 vs L1 S1 r1 => by
    split at q1
    · cases r1 with
      | cons r1 r2 => cases r2 with
        | cons r2 r3 => cases r3; exact ⟨_, _, rfl, q1 g1 H1 L1 S1 _ (((E.mono L1.ge).set i r1).set j r2)⟩
    · exact q1.elim) fun _ _ _ q => q⟩
theorem ps_ifD {sb sc : List Stmt} (hc : PT X c (tDT (zX X T) W ft)) (ha : PSs X sb (tDS (zX X T) W qa)) (hb : PSs X sc (tDS (zX X T) W qb)) : PS X (.If c sb sc pos) (tDS (zX X T) W (qIf ft qa qb)) :=
  PS.wk (ps_if hc ha hb) fun D σ H ⟨g, ρ, st, S, E, q⟩ => ⟨g, ρ, st, S, E, Sat.mono (st_sat E q) (fun k st1 q1 g1 H1 L1 S1 => by
    cases k with
    | true => exact ⟨g1, ρ, st1, S1, E.mono L1.ge, SPost.mono L1 q1⟩
    | false => exact ⟨g1, ρ, st1, S1, E.mono L1.ge, SPost.mono L1 q1⟩) fun _ _ _ q => q⟩
/-- o[i] = e -/
theorem ps_setIxD {o i : Expr} {fo fx : SE} {pos' : Pos} (ho : PE X o (tD (zX X T) W fo)) (hi : PE X i (tD (zX X T) W fx)) (he : PE X e (tD (zX X T) W fe))
    (ha : ∀ v, assign (.Subscript o i pos') X.env v = (do
      let ov ← holding [v] (eval o X.env)
      let iv ← holding [v, ov] (eval i X.env)
      standAt pos'
      holding [v, ov, iv] (setItem ov iv v)
      release [v, ov, iv] []) := by intro _; rfl)
    (hs : swapsWithSole [.Subscript o i pos'] e pos.line X.env = pure false := by rfl) (hw : swappedStores [.Subscript o i pos'] e X.env = pure none := by rfl)
    (h1 : (assignEach [.Subscript o i pos'] X.env).map (·.2) = [assign (.Subscript o i pos') X.env] := by rfl) :
    PS X (.Assign [.Subscript o i pos'] e pos) (tDS (zX X T) W (qSetIx fo fx fe)) :=
  PS.wk (ps_asg he (pg_sub ho hi set_list ha) hs hw h1) fun D σ H ⟨g, ρ, st, S, E, q⟩ => ⟨g, ρ, st, S, E, Sat.mono (st_sat E q) (fun d st1 q1 g1 H1 v L1 S1 r1 => by
    refine ⟨g1, ρ, st1, S1, E.mono L1.ge, Sat.mono (st_sat E q1) (fun d2 st2 q2 g2 H2 v2 L2 S2 r2 => ?_) fun _ _ _ q => q.mono L1⟩
    refine ⟨g2, ρ, st2, S2, E.mono (L1.trans L2).ge, Sat.mono (st_sat E q2) (fun d3 st3 q3 g3 H3 v3 L3 S3 r3 => ?_) fun _ _ _ q => q.mono (L1.trans L2)⟩
    have L := (L1.trans L2).trans L3
    cases hf : fSetIx d2 d3 d st3 with
    | none => rw [hf] at q3; exact q3.elim
    | some st4 =>
      rw [hf] at q3
      unfold fSetIx at hf
      split at hf
      · rename_i l k
        split at hf
        · rename_i xs hs3
          split at hf
          · rename_i j hj
            cases hf
            cases r2 with
            | ref hl =>
              rename_i a
              cases r3
              have hl3 := L3.ge.i _ _ hl
              obtain ⟨ws, h1, h2, h3, h4⟩ := S3.obj _ a _ hl3 hs3
              refine ⟨a, ws, k, j, rfl, rfl, h2, by rw [← h4.length, ix_eq]; exact hj, ?_⟩
              obtain ⟨S4, L4⟩ := S3.write (vs' := ws.set j v) hl3 hs3 (by rw [List.length_set]; exact h3) (Reps.set (r1.mono (L2.trans L3).ge) j h4)
              exact q3 g3 _ (L.trans L4) S4 σ (E.mono (L.trans L4).ge)
          · cases hf
        · cases hf
      · cases hf) fun _ _ _ q => q⟩
/-! xs.append(e), xs.extend(e) -/
theorem ref_of {g : G} {st : Sto} {H : Hp} {l : Nat} {v : V} {xs : List D} (S : Sim X.K T g st H) (r : Rep X.K g (.ref l) v) (hs : st[l]? = some (.lst xs)) : ∃ a ws, v = .ref a ∧ g.ι[l]? = some a ∧ H a = some (.lst ws) ∧ ws.length ≤ sizeLine ∧ Reps X.K g xs ws := by
  cases r with
  | ref hl =>
    obtain ⟨ws, h1, h2, h3, h4⟩ := S.obj _ _ _ hl hs
    exact ⟨_, ws, rfl, hl, h2, h3, h4⟩
def DoesM (X : Cx) (T : List (Addr × Str)) (r : V → List V → Hp → VK → Prop) (f : D → D → Sto → Out D) : Prop :=
  ∀ (W : WX) (σ : L2.St) (g : G) (st : Sto) (H : Hp) (dx dy : D) (x y : V) (Q : VK), Sim X.K T g st H → Rep X.K g dx x → Rep X.K g dy y → EPost (zX X T) W σ Q g H (f dx dy st) → r x [y] H Q
theorem wkM {r : V → List V → Hp → VK → Prop} {f : D → D → Sto → Out D} (h : DoesM X T r f) : ∀ σ H Q, tD (zX X T) W (sM f fa fe) σ H Q → tBM X.K "list" r (tD (zX X T) W fa) (tDA (zX X T) W (aCons fe aNil)) σ H Q := by
  rintro σ H Q ⟨g, ρ, st, S, E, q⟩
  refine ⟨g, ρ, st, S, E, Sat.mono (sat_bind q) (fun d st1 q1 g1 H1 v L1 S1 r1 => ?_) fun _ _ _ q => q⟩
  split at q1
  · rename_i xs e1
    obtain ⟨a, ws, rfl, h2, h3, h4⟩ := S1.litems r1 e1
    refine ⟨.inl ⟨rfl, ws, SqL.of h2⟩, g1, ρ, st1, S1, E.mono L1.ge, ?_⟩
    refine sat_bind' (Sat.mono (sat_bind q1) (fun d2 st2 q2 => ?_) fun _ _ _ q => q.mono L1)
    refine fun g2 H2 vs L2 S2 r2 => ?_
    cases r2 with
    | cons r2 r3 =>
      cases r3
      exact h W σ g2 st2 H2 d d2 _ _ Q S2 (r1.mono L2.ge) r2 (EPost.mono (L1.trans L2) q2)
  · exact q1.elim
theorem does_append : DoesM X T rAppend fAppend := by
  intro W σ g st H dx dy x y Q S rx ry h
  unfold fAppend at h
  split at h
  · split at h
    · rename_i l xs hs
      split at h
      · rename_i hz
        obtain ⟨a, ws, rfl, hl, h2, h3, h4⟩ := ref_of S rx hs
        have e1 := h4.length
        refine ⟨a, ws, y, rfl, rfl, h2, by omega, ?_⟩
        obtain ⟨S4, L4⟩ := S.write (vs' := ws ++ [y]) hl hs (by rw [List.length_append, List.length_singleton]; omega) (h4.append (.one ry))
        exact h g _ .non L4 S4 .non
      · exact h.elim
    · exact h.elim
  · exact h.elim
theorem does_extend : DoesM X T rExtend fExtend := by
  intro W σ g st H dx dy x y Q S rx ry h
  unfold fExtend at h
  split at h
  · split at h
    · rename_i l xs ys hs hy
      split at h
      · rename_i hz
        obtain ⟨a, ws, rfl, hl, h2, h3, h4⟩ := ref_of S rx hs
        obtain ⟨b, zs, rfl, k2, k3, k4⟩ := S.litems ry hy
        have e1 := h4.length
        have e2 := k4.length
        refine ⟨a, b, ws, zs, rfl, rfl, h2, k2, by omega, ?_⟩
        obtain ⟨S4, L4⟩ := S.write (vs' := ws ++ zs) hl hs (by rw [List.length_append]; omega) (h4.append k4)
        exact h g _ .non L4 S4 .non
      · exact h.elim
    · exact h.elim
  · exact h.elim
theorem pd_append {o : Expr} {fo : SE} {apos cpos : Pos} (ho : PE X o (tD (zX X T) W fo)) (he : PE X e (tD (zX X T) W fe)) (hst : starEach [e] X.env = (false, eval e X.env) :: starEach [] X.env := by rfl)
    (hbase : attributeBase o "append" X.env (eval o X.env) = eval o X.env := by rfl)
    (hfew : ((backTo cpos (starEach [e] X.env)).all (fun x => !x.1) && (backToKw cpos (keywordEach [] X.env)).all (fun x => x.1.isSome)
      && decide ([e].length + ([] : List Keyword).length + (if ([] : List Keyword).isEmpty then 0 else 1) < 30)) = true := by rfl)
    (hline : (apos.endLine == cpos.line) = true := by rfl) (hplain : (backTo cpos (starEach [] X.env)).any (·.1) = false := by rfl) :
    PE X (.Call (.Attribute o "append" apos) [e] [] cpos) (tD (zX X T) W (sM fAppend fo fe)) :=
  PE.wk (pe_bm PySem.F.plainAttrs_list PySem.F.slot_list_append PySem.F.type_list_append mt_append ho (pa_consD he pa_nilD hst) hbase hfew hline hst hplain) (wkM does_append)
theorem pd_extend {o : Expr} {fo : SE} {apos cpos : Pos} (ho : PE X o (tD (zX X T) W fo)) (he : PE X e (tD (zX X T) W fe)) (hst : starEach [e] X.env = (false, eval e X.env) :: starEach [] X.env := by rfl)
    (hbase : attributeBase o "extend" X.env (eval o X.env) = eval o X.env := by rfl)
    (hfew : ((backTo cpos (starEach [e] X.env)).all (fun x => !x.1) && (backToKw cpos (keywordEach [] X.env)).all (fun x => x.1.isSome)
      && decide ([e].length + ([] : List Keyword).length + (if ([] : List Keyword).isEmpty then 0 else 1) < 30)) = true := by rfl)
    (hline : (apos.endLine == cpos.line) = true := by rfl) (hplain : (backTo cpos (starEach [] X.env)).any (·.1) = false := by rfl) :
    PE X (.Call (.Attribute o "extend" apos) [e] [] cpos) (tD (zX X T) W (sM fExtend fo fe)) :=
  PE.wk (pe_bm PySem.F.plainAttrs_list PySem.F.slot_list_extend PySem.F.type_list_extend mt_extend ho (pa_consD he pa_nilD hst) hbase hfew hline hst hplain) (wkM does_extend)

/-! ### loops -/
theorem wk_for {t : TG} {gd : TgD} {sl : List Nat} (ht : TgOk (zX X T) t gd sl) : ∀ D σ H, tDS (zX X T) W (qFor fi gd qb) D σ H → tFor (tDI (zX X T) W fi) t (tDS (zX X T) W qb) D σ H := by
  rintro D σ H ⟨g, ρ, st, S, E, q⟩
  refine ⟨g, ρ, st, S, E, Sat.mono (st_sat E q) (fun p st1 q1 g1 H1 J L1 S1 wk => ?_) fun _ _ _ q => q⟩
  obtain ⟨ds, dy⟩ := p
  have q2 : SPost (zX X T) W D g1 H1 (loopFor dy ds.length gd qb 0 ds ρ st1) := SPost.mono L1 q1
  refine ⟨fun i k σ H => k = ds.length - i ∧ i ≤ ds.length ∧ ∃ g2 ρ2 st2, Le g1 g2 H1 H ∧ Sim X.K T g2 st2 H ∧ EnvR X.K g2 σ ρ2 ∧ SPost (zX X T) W D g1 H1 (loopFor dy ds.length gd qb i (ds.drop i) ρ2 st2),
    ⟨ds.length, by omega, by omega, g1, ρ, st1, Le.refl _ _, S1, E.mono L1.ge, by simpa using q2⟩, ?_⟩
  rintro i k σ2 H2 ⟨rfl, hi, g2, ρ2, st2, L2, S2, E2, h2⟩
  cases hd : ds.drop i with
  | nil =>
    have hin : i = ds.length := by
      have := congrArg List.length hd
      rw [List.length_drop, List.length_nil] at this; omega
    subst hin
    rw [hd] at h2
    unfold loopFor at h2
    split at h2
    · rename_i hf
      exact .inl ⟨wk.stop g2 H2 st2 L2.ge S2 hf, h2 g2 H2 L2 S2 σ2 E2⟩
    · exact h2.elim
  | cons d0 r =>
    obtain ⟨e1, e2⟩ := drop_cons hd
    have hilt : i < ds.length := (List.getElem?_eq_some_iff.mp e1).1
    rw [hd] at h2
    unfold loopFor at h2
    split at h2
    · exact h2.elim
    · rename_i d hfe
      split at h2
      · exact h2.elim
      · rename_i ρ1 hg
        obtain ⟨go, yl⟩ := wk.go g2 H2 st2 i d0 d L2.ge S2 e1 hfe
        refine .inr ⟨go, fun σ H' => ∃ g5 ρ5 st5, Le g1 g5 H1 H' ∧ Sim X.K T g5 st5 H' ∧ EnvR X.K g5 σ ρ5 ∧ SPost (zX X T) W D g1 H1 (loopFor dy ds.length gd qb (i + 1) (ds.drop (i + 1)) ρ5 st5),
          fun σ' H' hN => ⟨ds.length - (i + 1), by omega, rfl, by omega, hN⟩, fun x H3 y => ?_⟩
        obtain ⟨g3, L3, S3, r3⟩ := yl x H3 y
        refine ht g3 st2 σ2 ρ2 ρ1 H3 d x _ S3 r3 (E2.mono L3.ge) hg fun σ3 E3 _ => ⟨g3, ρ1, st2, S3, E3, ?_⟩
        rw [e2]
        cases hb : qb ρ1 st2 with
        | none => rw [hb] at h2; exact h2.elim
        | some fr =>
          obtain ⟨fl, st4⟩ := fr
          rw [hb] at h2
          intro g4 H4 L4 S4
          have L14 := (L2.trans L3).trans L4
          cases fl with
          | nx ρ4 => exact fun σ4 E4 => ⟨g4, ρ4, st4, L14, S4, E4, h2⟩
          | ct ρ4 => exact fun σ4 E4 => ⟨g4, ρ4, st4, L14, S4, E4, h2⟩
          | bk ρ4 => exact fun σ4 E4 => h2 g4 H4 L14 S4 σ4 E4
          | rt d4 => exact fun v r => h2 g4 H4 L14 S4 v r
          | ex n fs ρ4 => exact fun σ4 dx E4 xr => h2 g4 H4 L14 S4 σ4 dx E4 xr
theorem ps_forD {t : TG} {gd : TgD} {sl : List Nat} (hp : PassesOwn (model X.prog X.w) X.A X.env X.xe) (hc : X.calm = true) (ht : TgOk (zX X T) t gd sl) (hi : PI X tg iter (tDI (zX X T) W fi)) (hg : PG X tg t) (hb : PSs X ss (tDS (zX X T) W qb))
    (hs : ∀ x, foldedSetIterable iter X.env x = pure x := by intro _; rfl) : PS X (.For tg iter ss [] pos) (tDS (zX X T) W (qFor fi gd qb)) := PS.wk (ps_for hp hc hi hg hb hs) (wk_for ht)
theorem ps_whileD {fuel : Ev → Sto → Nat} (hp : PassesOwn (model X.prog X.w) X.A X.env X.xe) (hc : PT X c (tDT (zX X T) W ft)) (hb : PSs X ss (tDS (zX X T) W qb)) : PS X (.While c ss [] pos) (tDS (zX X T) W (qWhile fuel ft qb)) :=
  PS.wk (ps_while hp hc hb) fun D σ H ⟨g, ρ, st, S, E, q⟩ => by
    refine ⟨fun k σ H' => ∃ g2 ρ2 st2, Le g g2 H H' ∧ Sim X.K T g2 st2 H' ∧ EnvR X.K g2 σ ρ2 ∧ SPost (zX X T) W D g H (loopWhile ft qb k ρ2 st2), ⟨_, g, ρ, st, Le.refl _ _, S, E, q⟩, ?_⟩
    rintro k σ2 H2 ⟨g2, ρ2, st2, L2, S2, E2, h2⟩
    cases k with
    | zero => exact h2.elim
    | succ k =>
      unfold loopWhile at h2
      refine ⟨g2, ρ2, st2, S2, E2, ?_⟩
      cases ho : ft ρ2 st2 with
      | bad => rw [ho] at h2; exact h2.elim
      | exc n fs st3 => rw [ho] at h2; exact fun g3 H3 dx L3 S3 xr => h2 g3 H3 (L2.trans L3) S3 σ2 dx (E2.mono L3.ge) xr
      | ok b st3 =>
        rw [ho] at h2
        have h3 : SPost (zX X T) W D g H (if b = true then (match qb ρ2 st3 with
          | some (.nx ρ2, st2) => loopWhile ft qb k ρ2 st2
          | some (.ct ρ2, st2) => loopWhile ft qb k ρ2 st2
          | some (.bk ρ2, st2) => some (.nx ρ2, st2)
          | r => r) else some (.nx ρ2, st3)) := h2
        intro g3 H3 L3 S3
        have L13 := L2.trans L3
        cases b with
        | false =>
          rw [if_neg Bool.false_ne_true] at h3 ⊢
          exact h3 g3 H3 L13 S3 σ2 (E2.mono L3.ge)
        | true =>
          rw [if_pos rfl] at h3 ⊢
          refine ⟨fun σ H' => ∃ g5 ρ5 st5, Le g g5 H H' ∧ Sim X.K T g5 st5 H' ∧ EnvR X.K g5 σ ρ5 ∧ SPost (zX X T) W D g H (loopWhile ft qb k ρ5 st5), fun σ' H' hN => ⟨k, by omega, hN⟩, g3, ρ2, st3, S3, E2.mono L3.ge, ?_⟩
          cases hb : qb ρ2 st3 with
          | none => rw [hb] at h3; exact h3.elim
          | some fr =>
            obtain ⟨fl, st4⟩ := fr
            rw [hb] at h3
            intro g4 H4 L4 S4
            have L14 := L13.trans L4
            cases fl with
            | nx ρ4 => exact fun σ4 E4 => ⟨g4, ρ4, st4, L14, S4, E4, h3⟩
            | ct ρ4 => exact fun σ4 E4 => ⟨g4, ρ4, st4, L14, S4, E4, h3⟩
            | bk ρ4 => exact fun σ4 E4 => h3 g4 H4 L14 S4 σ4 E4
            | rt d4 => exact fun v r => h3 g4 H4 L14 S4 v r
            | ex n fs ρ4 => exact fun σ4 dx E4 xr => h3 g4 H4 L14 S4 σ4 dx E4 xr

/-! ### defs -/
/-- the arguments' list is n long; F tells what comes of them -/
def spD (z : Z) (n : Nat) (F : List D → Sto → Out D) : Sp := fun vs H Q E => vs.length = n ∧ ∃ g ds st, Sim z.K z.T g st H ∧ Reps z.K g ds vs ∧ Sat (F ds st) (VPost z Q g H) (fun k fs st' => ∀ g' H' dx, Le g g' H H' → Sim z.K z.T g' st' H' → XRep z g' H' fs dx → E (clsV z k) dx H')
theorem pd_call {F : List D → Sto → Out D} {k n : Nat} {f : Addr} {fd : FuncData} {ps : List Str} (G0 : FnOk X.prog X.w X.K X.mg X.base (L2.CX X.prog X.w) k f fd ps (spD (zX X T) n F)) (tk : Takes X W) (hr : Room k X.A) (hg : Gl X x) (hm : X.mg x = some (.ref f)) (hk : PySem.W.keepIn X.K (.ref f) = true) (hb : Binds X.K fd ps [])
    (ha : PA X (e :: es) (tDA (zX X T) W fs)) (hdb : (x == ("__debug__" : Str)) = false := by decide) (he : starEach (e :: es) X.env = (false, eval e X.env) :: starEach es X.env := by rfl) (hpl : (backTo pos (starEach es X.env)).any (·.1) = false := by rfl) :
    PE X (.Call (.Name x p) (e :: es) [] pos) (tD (zX X T) W (sCall n F fs)) :=
  PE.wk (pe_callS G0 hr hg hm hk hb (fun σ => passAt tk σ) ha hdb he hpl) fun σ H Q ⟨g, ρ, st, S, E, q⟩ => by
    refine ⟨g, ρ, st, S, E, Sat.mono (sat_bind q) (fun ds st1 q1 g1 H1 vs L1 S1 r1 => ?_) fun _ _ _ q => q⟩
    split at q1
    · rename_i hl
      exact ⟨by rw [← r1.length]; exact hl, g1, ds, st1, S1, r1, EPost.mono L1 q1⟩
    · exact q1.elim

variable {P : Program} {w : World} {K : PySem.W.Frag} {mg : Str → Option Value} {base : Heap}
theorem start_env {g : G} {N : List Str} {ds : List D} {vs : List V} (r : Reps K g ds vs) : EnvR K g (L2.start N vs) (startD N.length ds) := by
  have hl := r.length
  refine ⟨by unfold L2.start startD; simp [hl], fun i d h => ?_⟩
  unfold startD at h
  by_cases hi : i < ds.length
  · rw [List.getElem?_append_left (by simpa using hi), List.getElem?_map] at h
    cases e : ds[i]? with
    | none => rw [e] at h; cases h
    | some d' =>
      rw [e] at h; cases h
      obtain ⟨v, ev, rv⟩ := r.get e
      refine ⟨v, ?_, rv⟩
      unfold L2.start
      rw [List.getElem?_append_left (by rw [List.length_map, ← hl]; exact hi), List.getElem?_map, ev]; rfl
  · rw [List.getElem?_append_right (by simpa using hi), List.getElem?_replicate] at h
    split at h <;> cases h
/-- a def's body, told as qb; what it hands back as it is -/
theorem def_raw {qual : Str} {st : Stmt} {f : Addr} {fd : FuncData} {N ps : List Str} {k : Nat} (F : Fun K x qual st f fd) (S : FnScope N ps (defScope st))
    (hb : ∀ (cdv : Value) (A : Around) (outer : List Env) (s : Shared) (H : Hp) (E : XK), Room k (A.deeper (envOfC qual (defScope st) s.heap.objs.size f cdv)) →
      PSs (cxOf (L2.CX P w) P w K mg base N qual (defScope st) f cdv A outer s H E) (defBody st) (tDS ⟨K, T, mg⟩ (fun cls d _ H => E cls d H) qb)) :
    FnOk P w K mg base (L2.CX P w) (k + 1) f fd ps (spD ⟨K, T, mg⟩ ps.length (defRaw N.length qb)) := by
  refine F.okX S (fun vs H Q E h => h.1) fun cdv A outer s H vs Q E hr h => ⟨_, hb cdv A outer s H E hr, ?_⟩
  obtain ⟨hl, g, ds, st0, S0, R, q⟩ := h
  refine ⟨g, startD N.length ds, st0, S0, start_env R, ?_⟩
  unfold defRaw at q
  cases hr2 : qb (startD N.length ds) st0 with
  | none => rw [hr2] at q; exact q.elim
  | some r =>
    obtain ⟨fl, st'⟩ := r
    rw [hr2] at q
    cases fl with
    | rt d => exact fun g' H' L S' v r => q g' H' v L S' r
    | nx ρ => exact fun g' H' L S' σ E => q g' H' .non L S' .non
    | ex n fs ρ => exact fun g' H' L S' σ dx E x => q g' H' dx L S' x
    | _ => exact q.elim

/-! freezing -/
mutual
theorem Rep.cut {g g2 : G} {n : Nat} (hB : ∀ a o, g.B a = some o → g2.B a = some o) (hι : ∀ (l : Nat) (a : Addr), l < n → g.ι[l]? = some a → g2.ι[l]? = some a) : ∀ {d : D} {v : V}, noRef n d = true → Rep K g d v → Rep K g2 d v
  | _, _, _, .non => .non
  | _, _, _, .bl b => .bl b
  | _, _, _, .int b => .int b
  | _, _, _, .str b => .str b
  | _, _, h, .tup q l r => .tup (sqN_mono hB q) l (Reps.cut hB hι (by unfold noRef at h; exact h) r)
  | _, _, h, .tpl q l r => .tpl (sqT_mono hB q) l (Reps.cut hB hι (by unfold noRef at h; exact h) r)
  | _, _, h, .lst q l r => .lst (hB _ _ q) l (Reps.cut hB hι (by unfold noRef at h; exact h) r)
  | _, _, h, .fz q l r => .fz (sqL_mono hB q) l (Reps.cut hB hι (by unfold noRef at h; exact h) r)
  | _, _, h, .ref e => .ref (hι _ _ (by unfold noRef at h; exact of_decide_eq_true h) e)
  | _, _, h, .dk e l r => .dk (hB _ _ e) l (Reps.cut hB hι (by unfold noRef at h; exact h) r)
  | _, _, _, .raw v => .raw v
theorem Reps.cut {g g2 : G} {n : Nat} (hB : ∀ a o, g.B a = some o → g2.B a = some o) (hι : ∀ (l : Nat) (a : Addr), l < n → g.ι[l]? = some a → g2.ι[l]? = some a) : ∀ {ds : List D} {vs : List V}, noRefs n ds = true → Reps K g ds vs → Reps K g2 ds vs
  | _, _, _, .nil => .nil
  | _, _, h, .cons a t => by
    unfold noRefs at h
    rw [Bool.and_eq_true_iff] at h
    exact .cons (Rep.cut hB hι h.1 a) (Reps.cut hB hι h.2 t)
end
theorem frz_atom {g g2 : G} {st : Sto} {n : Nat} {d d' : D} {v : V} (r : Rep K g d v) (h : frzD st n 0 d = some d') : Rep K g2 d' v := by
  cases r <;> first
    | (cases h; constructor)
    | (exact absurd (show none = some d' from h) (by simp))
theorem frz_rep {g g2 : G} {st : Sto} {H : Hp} {n : Nat} (S : Sim K T g st H) (hB : ∀ a o, g.B a = some o → g2.B a = some o) (hι : ∀ (l : Nat) (a : Addr), l < n → g.ι[l]? = some a → g2.ι[l]? = some a)
    (hF : ∀ (l : Nat) (a : Addr) (vs : List V), n ≤ l → g.ι[l]? = some a → H a = some (.lst vs) → g2.B a = some (.lst vs)) : ∀ (f : Nat) {d d' : D} {v : V}, Rep K g d v → frzD st n f d = some d' → Rep K g2 d' v
  | 0, d, d', v, r, h => frz_atom r h
  | f + 1, d, d', v, r, h => by
    have all : ∀ (xs : List D) {ys : List D} {vs : List V}, Reps K g xs vs → allSome (xs.map (frzD st n f)) = some ys → Reps K g2 ys vs := by
      intro xs
      induction xs with
      | nil => intro ys vs r e; cases r; cases e; exact .nil
      | cons x xs ih =>
        intro ys vs r e
        rw [List.map_cons] at e
        obtain ⟨y, ys', e1, e2, rfl⟩ := allSome_cons e
        cases r with
        | cons r1 r2 => exact .cons (frz_rep S hB hι hF f r1 e1) (ih r2 e2)
    unfold frzD at h
    split at h
    · rename_i xs
      cases q : allSome (xs.map (frzD st n f)) with
      | none => rw [q] at h; cases h
      | some ys =>
        rw [q] at h; cases h
        cases r with
        | tup k l r => exact .tup (sqN_mono hB k) l (all xs r q)
    · rename_i xs
      cases q : allSome (xs.map (frzD st n f)) with
      | none => rw [q] at h; cases h
      | some ys =>
        rw [q] at h; cases h
        cases r with
        | lst k l r => exact .lst (hB _ _ k) l (all xs r q)
    · rename_i ks xs
      cases q : allSome (xs.map (frzD st n f)) with
      | none => rw [q] at h; cases h
      | some ys =>
        rw [q] at h; cases h
        cases r with
        | dk k l r => exact .dk (hB _ _ k) l (all xs r q)
    · rename_i l
      split at h
      · rename_i hl
        cases h
        cases r with
        | ref e => exact .ref (hι _ _ hl e)
      · rename_i hl
        split at h
        · rename_i xs hs
          cases q : allSome (xs.map (frzD st n f)) with
          | none => rw [q] at h; cases h
          | some ys =>
            rw [q] at h; cases h
            cases r with
            | ref e =>
              obtain ⟨ws, h1, h2, h3, h4⟩ := S.obj _ _ _ e hs
              exact .lst (hF l _ ws (by omega) e h2) h3 (all xs h4 q)
        · cases h
    · cases h; cases r; exact .non
    · cases h; cases r; exact .bl _
    · cases h; cases r; exact .int _
    · cases h; cases r; exact .str _
    · cases h
/-- the store's own part is forgotten -/
theorem fin_sim {g0 g : G} {st0 st : Sto} {H0 H : Hp} (S0 : Sim K T g0 st0 H0) (L : Le g0 g H0 H) (S : Sim K T g st H) (hc : (st.take st0.length).all (noRefO st0.length) = true) :
    ∃ g2, Le g0 g2 H0 H ∧ Sim K T g2 (st.take st0.length) H ∧ (∀ a o, g.B a = some o → g2.B a = some o) ∧ (∀ (l : Nat) (a : Addr), l < st0.length → g.ι[l]? = some a → g2.ι[l]? = some a) ∧
      ∀ (l : Nat) (a : Addr) (vs : List V), st0.length ≤ l → g.ι[l]? = some a → H a = some (.lst vs) → g2.B a = some (.lst vs) := by
  have hn0 := S0.len
  have hnl : st0.length ≤ g.ι.length := by
    rcases Nat.lt_or_ge g.ι.length st0.length with h | h
    · have h1 : g.ι.length < g0.ι.length := by omega
      have := L.ge.i g.ι.length _ (List.getElem?_eq_getElem h1)
      have := (List.getElem?_eq_some_iff.mp this).1
      omega
    · exact h
  let B2 : Hp := fun a => if a ∈ g.ι.drop st0.length then (match H a with | some (.lst vs) => some (.lst vs) | _ => g.B a) else g.B a
  have b1 : ∀ a, a ∉ g.ι.drop st0.length → B2 a = g.B a := fun a h => if_neg h
  have b2 : ∀ a o, g.B a = some o → B2 a = some o := fun a o e => by
    by_cases h : a ∈ g.ι.drop st0.length
    · show (if a ∈ g.ι.drop st0.length then _ else _) = _
      rw [if_pos h, S.sub a o e]
      cases o <;> first | rfl | exact e
    · rw [b1 a h]; exact e
  have b3 : ∀ a o, B2 a = some o → H a = some o ∧ ((∃ vs, o = .lst vs) ∨ g.B a = some o) := fun a o e => by
    by_cases h : a ∈ g.ι.drop st0.length
    · have e' : (match H a with | some (.lst vs) => some (HO.lst vs) | _ => g.B a) = some o := by
        have : B2 a = _ := if_pos h
        rw [← this]; exact e
      split at e'
      · rename_i vs hv
        cases e'
        exact ⟨hv, .inl ⟨vs, rfl⟩⟩
      · exact ⟨S.sub a o e', .inr e'⟩
    · rw [b1 a h] at e; exact ⟨S.sub a o e, .inr e⟩
  have i1 : ∀ (l : Nat) (a : Addr), l < st0.length → g.ι[l]? = some a → (g.ι.take st0.length)[l]? = some a := fun l a h e => by rw [List.getElem?_take_of_lt h]; exact e
  have i2 : ∀ (l : Nat) (a : Addr), (g.ι.take st0.length)[l]? = some a → l < st0.length ∧ g.ι[l]? = some a ∧ a ∉ g.ι.drop st0.length := fun l a e => by
    have hl : l < st0.length := by
      have := (List.getElem?_eq_some_iff.mp e).1
      rw [List.length_take] at this; omega
    rw [List.getElem?_take_of_lt hl] at e
    refine ⟨hl, e, fun hd => ?_⟩
    obtain ⟨j, hj⟩ := List.getElem?_of_mem hd
    rw [List.getElem?_drop] at hj
    obtain ⟨h1, q1⟩ := List.getElem?_eq_some_iff.mp e
    obtain ⟨h2, q2⟩ := List.getElem?_eq_some_iff.mp hj
    have := (List.getElem_inj S.nd).mp (q1.trans q2.symm)
    omega
  have f3 : ∀ (l : Nat) (a : Addr) (vs : List V), st0.length ≤ l → g.ι[l]? = some a → H a = some (.lst vs) → B2 a = some (.lst vs) := fun l a vs h e hv => by
    have hm : a ∈ g.ι.drop st0.length := by
      refine List.mem_of_getElem? (i := l - st0.length) ?_
      rw [List.getElem?_drop, show st0.length + (l - st0.length) = l by omega]; exact e
    show (if a ∈ g.ι.drop st0.length then _ else _) = _
    rw [if_pos hm, hv]
  refine ⟨⟨B2, g.ι.take st0.length⟩, ⟨⟨fun a o e => b2 a o (L.ge.b a o e), fun l a e => ?_⟩, fun a o e1 e2 e3 e4 => ?_⟩, ⟨fun a o e => (b3 a o e).1, ?_, S.nd.sublist (List.take_sublist _ _), fun a ha => S.there a (List.mem_of_mem_take ha), fun l a mo e1 e2 => ?_, S.tabs, fun a o e ps => ?_⟩, b2, i1, f3⟩
  · have hl : l < st0.length := by
      have := (List.getElem?_eq_some_iff.mp e).1
      omega
    exact i1 l a hl (L.ge.i l a e)
  · obtain ⟨f1, f2, f3⟩ := L.fr a o e1 e2 e3 e4
    exact ⟨f1, by show B2 a = none; rw [b1 a fun h => f3 (List.mem_of_mem_drop h)]; exact f2, fun h => f3 (List.mem_of_mem_take h)⟩
  · show (g.ι.take st0.length).length = _
    rw [List.length_take, List.length_take, S.len]
  · obtain ⟨hl, e, hd⟩ := i2 l a e1
    have e2' : st[l]? = some mo := by
      rw [List.getElem?_take_of_lt hl] at e2; exact e2
    have hno : noRefO st0.length mo = true := List.all_eq_true.mp hc mo (List.mem_of_getElem? e2)
    have o1 := S.obj l a mo e e2'
    cases mo with
    | lst xs =>
      obtain ⟨vs, h1, h2, h3, h4⟩ := o1
      exact ⟨vs, by show B2 a = none; rw [b1 a hd]; exact h1, h2, h3, Reps.cut (n := st0.length) b2 i1 (by unfold noRefO at hno; exact hno) h4⟩
    | dk ks xs =>
      obtain ⟨vs, h1, h2, h3, h4⟩ := o1
      exact ⟨vs, by show B2 a = none; rw [b1 a hd]; exact h1, h2, h3, Reps.cut (n := st0.length) b2 i1 (by unfold noRefO at hno; exact hno) h4⟩
    | gone => trivial
  · rcases (b3 a o e).2 with ⟨vs, rfl⟩ | q
    · intro z; cases z
    · exact S.tb a o q ps
/-- a def's body, told as qb; the lists that it hands back by value, the others forgotten -/
theorem fin_of_raw {f : Addr} {fd : FuncData} {ps : List Str} {k m n : Nat} (F0 : FnOk P w K mg base (L2.CX P w) k f fd ps (spD ⟨K, T, mg⟩ m (defRaw n qb))) : FnOk P w K mg base (L2.CX P w) k f fd ps (spD ⟨K, T, mg⟩ m (defFin n qb)) := by
  refine F0.imp fun vs H Q E ⟨hl, g, ds, st0, S0, R, q⟩ => ⟨hl, g, ds, st0, S0, R, ?_⟩
  unfold defFin at q
  cases hr : defRaw n qb ds st0 with
  | bad => rw [hr] at q; exact q.elim
  | ok d st1 =>
    rw [hr] at q
    unfold fin at q
    dsimp only at q
    intro g1 H1 v L1 S1 r1
    split at q
    · rename_i d' hd
      split at q
      · rename_i hc
        obtain ⟨g2, L2', S2, b2, i1, f3⟩ := fin_sim S0 L1 S1 hc
        exact q g2 H1 v L2' S2 (frz_rep S1 b2 i1 f3 60 r1 hd)
      · exact q.elim
    · exact q.elim
  | exc n fs st1 =>
    rw [hr] at q
    unfold fin at q
    dsimp only at q
    intro g1 H1 dx L1 S1 x1
    split at q
    · rename_i hc
      rw [Bool.and_eq_true_iff] at hc
      obtain ⟨g2, L2', S2, _⟩ := fin_sim S0 L1 S1 hc.2
      have hfs : fs = [] := List.isEmpty_iff.mp hc.1
      subst hfs
      rcases x1 with x1 | ⟨a, vs, _, x1, _⟩
      · exact q g2 H1 dx L2' S2 (.inl x1)
      · exact absurd rfl x1
    · exact q.elim
theorem def_fin {qual : Str} {st : Stmt} {f : Addr} {fd : FuncData} {N ps : List Str} {k : Nat} (F : Fun K x qual st f fd) (S : FnScope N ps (defScope st))
    (hb : ∀ (cdv : Value) (A : Around) (outer : List Env) (s : Shared) (H : Hp) (E : XK), Room k (A.deeper (envOfC qual (defScope st) s.heap.objs.size f cdv)) →
      PSs (cxOf (L2.CX P w) P w K mg base N qual (defScope st) f cdv A outer s H E) (defBody st) (tDS ⟨K, T, mg⟩ (fun cls d _ H => E cls d H) qb)) :
    FnOk P w K mg base (L2.CX P w) (k + 1) f fd ps (spD ⟨K, T, mg⟩ ps.length (defFin N.length qb)) :=
  fin_of_raw (def_raw F S hb)
end
end PD
/-! PDSort: sorted of ints, of tuples of ints and tuples of ints. -/
namespace PD
open PySem PySem.Spec PyProof.Rows L2 SrtO

/-! ### strict total orders -/
structure Sto2 {α : Type} (lt : α → α → Bool) : Prop where
  irr : ∀ x, lt x x = false
  tr : ∀ x y z, lt x y = true → lt y z = true → lt x z = true
  tot : ∀ x y, lt x y = false → lt y x = false → x = y
def lexG {α : Type} [DecidableEq α] (lt : α → α → Bool) : List α → List α → Bool
  | [], [] => false
  | [], _ :: _ => true
  | _ :: _, [] => false
  | x :: xs, y :: ys => if x = y then lexG lt xs ys else lt x y
theorem Sto2.asym {α : Type} {lt : α → α → Bool} (O : Sto2 lt) {x y : α} (h : lt x y = true) : lt y x = false := by
  cases q : lt y x
  · rfl
  · have := O.tr x y x h q
    rw [O.irr] at this
    cases this
theorem Sto2.swo {α : Type} {lt : α → α → Bool} (O : Sto2 lt) : Swo lt := by
  refine ⟨fun x y h => O.asym h, fun x y z h1 h2 => ?_⟩
  cases q : lt z x
  · rfl
  · exfalso
    cases p : lt x y
    · have := O.tot x y p h1
      subst this
      rw [q] at h2
      cases h2
    · have := O.tr z x y q p
      rw [this] at h2
      cases h2
theorem sto2_lex {α : Type} [DecidableEq α] {lt : α → α → Bool} (O : Sto2 lt) : Sto2 (lexG lt) := by
  refine ⟨fun x => ?_, fun x => ?_, fun x => ?_⟩
  · induction x with
    | nil => rfl
    | cons a x ih => unfold lexG; rw [if_pos rfl]; exact ih
  · induction x with
    | nil =>
      intro y z h1 h2
      cases y with
      | nil => cases h1
      | cons b y =>
        cases z with
        | nil => cases h2
        | cons c z => rfl
    | cons a x ih =>
      intro y z h1 h2
      cases y with
      | nil => cases h1
      | cons b y =>
        cases z with
        | nil => cases h2
        | cons c z =>
          unfold lexG at h1 h2 ⊢
          split at h1
          · rename_i e
            subst e
            split at h2
            · rename_i e2
              subst e2
              rw [if_pos rfl]
              exact ih _ _ h1 h2
            · rename_i e2
              rw [if_neg e2]
              exact h2
          · rename_i e
            split at h2
            · rename_i e2
              subst e2
              rw [if_neg e]
              exact h1
            · have h3 := O.tr _ _ _ h1 h2
              split
              · rename_i e3
                subst e3
                rw [O.irr] at h3
                cases h3
              · exact h3
  · induction x with
    | nil =>
      intro y h1 h2
      cases y with
      | nil => rfl
      | cons b y => cases h1
    | cons a x ih =>
      intro y h1 h2
      cases y with
      | nil => cases h2
      | cons b y =>
        unfold lexG at h1 h2
        by_cases e : a = b
        · subst e
          rw [if_pos rfl] at h1 h2
          rw [ih _ h1 h2]
        · rw [if_neg e] at h1
          rw [if_neg (Ne.symm e)] at h2
          exact absurd (O.tot _ _ h1 h2) e
theorem sto2_int : Sto2 fun a b : Int => decide (a < b) := by
  refine ⟨fun x => by simp, fun x y z h1 h2 => ?_, fun x y h1 h2 => ?_⟩
  · have a := of_decide_eq_true h1
    have b := of_decide_eq_true h2
    exact decide_eq_true (by omega)
  · have a := of_decide_eq_false h1
    have b := of_decide_eq_false h2
    omega
/-- the order of lists of ints -/
abbrev ltI : List Int → List Int → Bool := lexG fun a b => decide (a < b)
theorem ltI_lexLt : ∀ xs ys : List Int, HT.lexLt xs ys = ltI xs ys
  | [], [] => rfl
  | [], _ :: _ => rfl
  | _ :: _, [] => rfl
  | x :: xs, y :: ys => by
    rw [HT.lexLt_cons]
    show _ = lexG _ _ _
    unfold lexG
    rw [ltI_lexLt xs ys]
/-- the order of items -/
abbrev ltK : List (List Int) → List (List Int) → Bool := lexG ltI
theorem sto2_ltI : Sto2 ltI := sto2_lex sto2_int
theorem sto2_ltK : Sto2 ltK := sto2_lex sto2_ltI

/-! ### sorting in plain Lean -/
def insB {α : Type} (lt : α → α → Bool) (x : α) : List α → List α
  | [] => [x]
  | y :: l => if lt y x = true then y :: insB lt x l else x :: y :: l
def sortB {α : Type} (lt : α → α → Bool) : List α → List α
  | [] => []
  | x :: l => insB lt x (sortB lt l)
theorem insB_perm {α : Type} (lt : α → α → Bool) (x : α) : ∀ l : List α, (insB lt x l).Perm (x :: l)
  | [] => List.Perm.refl _
  | y :: l => by
    unfold insB
    split
    · exact ((insB_perm lt x l).cons y).trans (List.Perm.swap x y l)
    · exact List.Perm.refl _
theorem sortB_perm {α : Type} (lt : α → α → Bool) : ∀ l : List α, (sortB lt l).Perm l
  | [] => List.Perm.refl _
  | x :: l => (insB_perm lt x _).trans ((sortB_perm lt l).cons x)
theorem sortB_length {α : Type} (lt : α → α → Bool) (l : List α) : (sortB lt l).length = l.length := (sortB_perm lt l).length_eq
theorem insB_srtd {α : Type} {lt : α → α → Bool} (O : Swo lt) (x : α) : ∀ {l : List α}, Srtd lt l → Srtd lt (insB lt x l)
  | [], _ => List.pairwise_singleton _ _
  | y :: l, h => by
    unfold insB
    split
    · rename_i q
      refine List.pairwise_cons.mpr ⟨fun z hz => ?_, insB_srtd O x (List.pairwise_cons.mp h).2⟩
      rcases List.mem_cons.mp ((insB_perm lt x l).mem_iff.mp hz) with e | hz
      · rw [e]; exact O.asym _ _ q
      · exact srtd_head h z hz
    · rename_i q
      refine List.pairwise_cons.mpr ⟨fun z hz => ?_, h⟩
      exact O.le_all h (by cases e : lt y x <;> simp_all) z hz
theorem sortB_srtd {α : Type} {lt : α → α → Bool} (O : Swo lt) : ∀ l : List α, Srtd lt (sortB lt l)
  | [] => List.Pairwise.nil
  | x :: l => insB_srtd O x (sortB_srtd O l)
theorem insB_cls {α : Type} {lt : α → α → Bool} (O : Swo lt) (x z : α) : ∀ l : List α, (insB lt x l).filter (SrtO.eqv lt z) = (x :: l).filter (SrtO.eqv lt z)
  | [] => rfl
  | y :: l => by
    unfold insB
    split
    · rename_i q
      have ih := insB_cls O x z l
      by_cases hy : SrtO.eqv lt z y = true
      · have hx : ¬ SrtO.eqv lt z x = true := fun hx => by
          obtain ⟨a1, a2⟩ := eqv_iff.mp hy
          obtain ⟨b1, b2⟩ := eqv_iff.mp hx
          have := O.ltle q b1
          rw [this] at a2
          cases a2
        rw [List.filter_cons_of_pos hy, ih, List.filter_cons_of_neg hx, List.filter_cons_of_neg hx, List.filter_cons_of_pos hy]
      · rw [List.filter_cons_of_neg hy, ih]
        by_cases hx : SrtO.eqv lt z x = true
        · rw [List.filter_cons_of_pos hx, List.filter_cons_of_pos hx, List.filter_cons_of_neg hy]
        · rw [List.filter_cons_of_neg hx, List.filter_cons_of_neg hx, List.filter_cons_of_neg hy]
    · rfl
theorem sortB_stb {α : Type} {lt : α → α → Bool} (O : Swo lt) : ∀ l : List α, Stb lt (sortB lt l) l
  | [] => Stb.refl _
  | x :: l => by
    have ih := sortB_stb O l
    refine ⟨sortB_perm lt _, fun z => ?_⟩
    show (insB lt x (sortB lt l)).filter _ = _
    rw [insB_cls O]
    by_cases hx : SrtO.eqv lt z x = true
    · rw [List.filter_cons_of_pos hx, List.filter_cons_of_pos hx, ih.cls]
    · rw [List.filter_cons_of_neg hx, List.filter_cons_of_neg hx, ih.cls]
theorem sortB_uniq {α : Type} {lt : α → α → Bool} (O : Swo lt) {l m : List α} (h1 : Srtd lt m) (h2 : Stb lt m l) : m = sortB lt l :=
  stb_uniq O h1 (sortB_srtd O l) (h2.trans ⟨(sortB_stb O l).perm.symm, fun x => ((sortB_stb O l).cls x).symm⟩)
theorem insB_map {α β : Type} {la : α → α → Bool} {lb : β → β → Bool} (f : α → β) (x : α) : ∀ (l : List α), (∀ y ∈ l, lb (f y) (f x) = la y x) → insB lb (f x) (l.map f) = (insB la x l).map f
  | [], _ => rfl
  | y :: l, h => by
    rw [List.map_cons]
    unfold insB
    rw [h y List.mem_cons_self]
    split
    · rw [List.map_cons, insB_map f x l fun z hz => h z (List.mem_cons_of_mem _ hz)]
    · rfl
theorem sortB_map {α β : Type} {la : α → α → Bool} {lb : β → β → Bool} (f : α → β) : ∀ (l : List α), (∀ x ∈ l, ∀ y ∈ l, lb (f x) (f y) = la x y) → sortB lb (l.map f) = (sortB la l).map f
  | [], _ => rfl
  | x :: l, h => by
    show insB lb (f x) (sortB lb (l.map f)) = (insB la x (sortB la l)).map f
    rw [sortB_map f l fun a ha b hb => h a (List.mem_cons_of_mem _ ha) b (List.mem_cons_of_mem _ hb)]
    refine insB_map f x _ fun y hy => h y (List.mem_cons_of_mem _ ((sortB_perm la l).mem_iff.mp hy)) x List.mem_cons_self
/-- sorted by keys -/
def sortZ {α : Type} (ks : List (List (List Int))) (xs : List α) : List α := (sortB (fun p q => ltK p.1 q.1) (ks.zip xs)).map (·.2)
theorem sortZ_eq {α : Type} {lt : α → α → Bool} {ks : List (List (List Int))} {xs : List α} (hl : ks.length = xs.length) (h : ∀ p ∈ ks.zip xs, ∀ q ∈ ks.zip xs, lt p.2 q.2 = ltK p.1 q.1) : sortB lt xs = sortZ ks xs := by
  have e := sortB_map (la := fun (p : List (List Int) × α) q => ltK p.1 q.1) (lb := lt) (fun p => p.2) (ks.zip xs) h
  rw [List.map_snd_zip (by omega)] at e
  exact e
theorem sortZ_map {α β : Type} (f : α → β) (ks : List (List (List Int))) (xs : List α) : sortZ ks (xs.map f) = (sortZ ks xs).map f := by
  unfold sortZ
  have e : ks.zip (xs.map f) = (ks.zip xs).map fun p => (p.1, f p.2) := by rw [List.zip_map_right]; rfl
  rw [e, sortB_map (la := fun p q => ltK p.1 q.1) _ _ fun _ _ _ _ => rfl, List.map_map, List.map_map]
  rfl
theorem sortZ_length {α : Type} {ks : List (List (List Int))} {xs : List α} (hl : ks.length = xs.length) : (sortZ ks xs).length = xs.length := by
  unfold sortZ
  rw [List.length_map, sortB_length, List.length_zip]
  omega
theorem sortZ_perm {α : Type} {ks : List (List (List Int))} {xs : List α} (hl : ks.length = xs.length) : (sortZ ks xs).Perm xs := by
  have h := (sortB_perm (fun p q => ltK p.1 q.1) (ks.zip xs)).map (·.2)
  rw [List.map_snd_zip (by omega)] at h
  exact h

/-! ### the machine's items -/
section
variable {prog : Program} {w : World} {A : Around} {E : Value → Shared → Prop} {s : Shared}
/-- one part of an item -/
def KC (h : Heap) (v : Value) (c : List Int) : Prop :=
  (∃ i t, v = .int i t ∧ c = [1, i]) ∨ ∃ a its ns, v = .ref a ∧ IsTup h a its ∧ IntsAre its.toList ns ∧ c = 0 :: ns
inductive KCs (h : Heap) : List Value → List (List Int) → Prop
  | nil : KCs h [] []
  | cons {v vs c cs} : KC h v c → KCs h vs cs → KCs h (v :: vs) (c :: cs)
/-- an item -/
def KI (h : Heap) (v : Value) (k : List (List Int)) : Prop := ∃ a its, v = .ref a ∧ IsTup h a its ∧ KCs h its.toList k
def compat : List (List Int) → List (List Int) → Bool
  | a :: as, b :: bs => a.head? == b.head? && compat as bs
  | _, _ => true
theorem intsAre_inj : ∀ {vs : List Value} {ns ms : List Int}, IntsAre vs ns → IntsAre vs ms → ns = ms
  | _, _, _, .nil, .nil => rfl
  | _, _, _, .cons _ _ r, .cons _ _ q => by rw [intsAre_inj r q]
theorem isTup_inj {h : Heap} {a : Addr} {i j : Array Value} (x : IsTup h a i) (y : IsTup h a j) : i = j := by
  obtain ⟨o, ho, _, n, d⟩ := x
  obtain ⟨o', ho', _, n', d'⟩ := y
  rw [ho] at ho'; cases ho'
  rw [d] at d'; cases d'
  rfl
theorem KC.inj {h : Heap} {v : Value} {c d : List Int} (x : KC h v c) (y : KC h v d) : c = d := by
  rcases x with ⟨i, t, rfl, rfl⟩ | ⟨a, its, ns, rfl, h1, h2, rfl⟩
  · rcases y with ⟨j, u, e, rfl⟩ | ⟨a, its, ns, e, _⟩
    · cases e; rfl
    · cases e
  · rcases y with ⟨j, u, e, rfl⟩ | ⟨a', its', ns', e, h1', h2', rfl⟩
    · cases e
    · cases e
      have := isTup_inj h1 h1'
      subst this
      rw [intsAre_inj h2 h2']
theorem KCs.inj {h : Heap} : ∀ {vs : List Value} {c d : List (List Int)}, KCs h vs c → KCs h vs d → c = d
  | _, _, _, .nil, .nil => rfl
  | _, _, _, .cons a r, .cons b q => by rw [a.inj b, KCs.inj r q]
theorem KI.inj {h : Heap} {v : Value} {c d : List (List Int)} (x : KI h v c) (y : KI h v d) : c = d := by
  obtain ⟨a, its, rfl, h1, h2⟩ := x
  obtain ⟨a', its', e, h1', h2'⟩ := y
  cases e
  have := isTup_inj h1 h1'
  subst this
  exact h2.inj h2'
abbrev KeepTup (h h' : Heap) : Prop := ∀ b its, IsTup h b its → IsTup h' b its
theorem KC.keeps {h h' : Heap} (kp : KeepTup h h') {v : Value} {c : List Int} (x : KC h v c) : KC h' v c := by
  rcases x with ⟨i, t, rfl, rfl⟩ | ⟨a, its, ns, rfl, h1, h2, rfl⟩
  · exact .inl ⟨_, _, rfl, rfl⟩
  · exact .inr ⟨_, _, _, rfl, kp _ _ h1, h2, rfl⟩
theorem KCs.keeps {h h' : Heap} (kp : KeepTup h h') : ∀ {vs : List Value} {c : List (List Int)}, KCs h vs c → KCs h' vs c
  | _, _, .nil => .nil
  | _, _, .cons a r => .cons (a.keeps kp) (KCs.keeps kp r)
theorem KI.keeps {h h' : Heap} (kp : KeepTup h h') {v : Value} {c : List (List Int)} (x : KI h v c) : KI h' v c := by
  obtain ⟨a, its, rfl, h1, h2⟩ := x
  exact ⟨_, _, rfl, kp _ _ h1, h2.keeps kp⟩
theorem KCs.length {h : Heap} : ∀ {vs : List Value} {c : List (List Int)}, KCs h vs c → vs.length = c.length
  | _, _, .nil => rfl
  | _, _, .cons _ r => by simp [KCs.length r]

theorem intsAre_get : ∀ {vs : List Value} {ns : List Int}, IntsAre vs ns → ∀ (j : Nat) (h : j < vs.length), ∃ i t, vs[j] = Value.int i t ∧ ns[j]? = some i
  | _, _, .nil, j, h => absurd h (by simp)
  | _, _, .cons n t r, 0, _ => ⟨n, t, rfl, rfl⟩
  | _, _, .cons n t r, j + 1, h => by
    obtain ⟨i, u, e, q⟩ := intsAre_get r j (by simpa using h)
    exact ⟨i, u, by simpa using e, by simpa using q⟩
theorem eq_all {ns ms : List Int} : ((List.range (min ns.length ms.length)).all (fun j => ns[j]? == ms[j]?) && ns.length == ms.length) = decide (ns = ms) := by
  apply Bool.eq_iff_iff.mpr
  rw [Bool.and_eq_true, List.all_eq_true, decide_eq_true_eq]
  constructor
  · rintro ⟨h, hl⟩
    have hl := eq_of_beq hl
    refine List.ext_getElem? fun j => ?_
    by_cases hj : j < ns.length
    · exact eq_of_beq (h j (List.mem_range.mpr (by omega)))
    · rw [List.getElem?_eq_none (by omega), List.getElem?_eq_none (by omega)]
  · rintro rfl
    exact ⟨fun j _ => by simp, by simp⟩
theorem kc_eq {v u : Value} {c d : List Int} (hu : A.units + 4 < cLine) (x : KC s.heap v c) (y : KC s.heap u d) (hk : c.head? = d.head?) : SeqAt.EqAt A s v u (decide (c = d)) := by
  rcases x with ⟨i, t, rfl, rfl⟩ | ⟨a, its, ns, rfl, h1, h2, rfl⟩
  · rcases y with ⟨j, t', rfl, rfl⟩ | ⟨_, _, _, _, _, _, rfl⟩
    · have e : decide (([1, i] : List Int) = [1, j]) = (i == j) := by
        by_cases q : i = j
        · subst q; simp
        · simp [q]
      rw [e]
      exact SeqAt.EqAt.int_int _ _ _ _
    · cases hk
  · rcases y with ⟨j, t', rfl, rfl⟩ | ⟨a', its', ms, rfl, g1, g2, rfl⟩
    · cases hk
    · by_cases e : a = a'
      · subst e
        have := isTup_inj h1 g1
        subst this
        rw [intsAre_inj h2 g2, decide_eq_true rfl]
        exact SeqAt.EqAt.same _
      · refine SeqAt.EqAt.of_refs e ?_
        have hl1 : its.size = ns.length := by rw [← h2.length]; simp
        have hl2 : its'.size = ms.length := by rw [← g2.length]; simp
        have r := SeqAt.RcAt.tuples (A := A) (s := s) (e := fun j => ns[j]? == ms[j]?) (l := a) (b := a') (items := its) (items2 := its') h1 g1 (by omega) fun j j1 j2 => by
          obtain ⟨i, t, e1, q1⟩ := intsAre_get h2 j (by simpa using j1)
          obtain ⟨i', t', e2, q2⟩ := intsAre_get g2 j (by simpa using j2)
          have e1' : its[j] = Value.int i t := by simpa using e1
          have e2' : its'[j] = Value.int i' t' := by simpa using e2
          rw [e1', e2', q1, q2]
          have : ((some i == some i') : Bool) = (i == i') := by simp
          rw [this]
          exact SeqAt.EqAt.int_int _ _ _ _
        rw [hl1, hl2, eq_all] at r
        have e2 : decide ((0 : Int) :: ns = 0 :: ms) = decide (ns = ms) := by simp
        rw [e2]
        exact r
theorem ltI_cons (x : Int) (xs ys : List Int) : ltI (x :: xs) (x :: ys) = ltI xs ys := by
  show lexG _ _ _ = _
  rw [lexG, if_pos rfl]
theorem oneLt_intsX (c : Bool) {p q : Int} {t u : Tok} {Q : Bool → Shared → Prop} (h : Q (decide (p < q)) s) : wpAny (model prog w) A (oneLt' c (.int p t) (.int q u)) Q E s := by
  cases c
  · exact PySem.W.kat_one _ _ (PyProof.Rows.lt_int (Q := PySem.W.BoolBack Q) h)
  · exact oneLt_int h
theorem kc_lt {f : Bool} {v u : Value} {c d : List Int} {Q : Bool → Shared → Prop} (hu : A.units + 4 < cLine) (x : KC s.heap v c) (y : KC s.heap u d) (hk : c.head? = d.head?) (hf : f = true → c.head? = some 1) (h : Q (ltI c d) s) :
    wpAny (model prog w) A (oneLt' f v u) Q E s := by
  rcases x with ⟨i, t, rfl, rfl⟩ | ⟨a, its, ns, rfl, h1, h2, rfl⟩
  · rcases y with ⟨j, t', rfl, rfl⟩ | ⟨_, _, _, _, _, _, rfl⟩
    · refine oneLt_intsX f ?_
      have e : ltI [1, i] [1, j] = decide (i < j) := by
        rw [ltI_cons]
        show lexG _ _ _ = _
        rw [lexG]
        split
        · rename_i e; subst e; simp [lexG]
        · rfl
      rw [e] at h
      exact h
    · cases hk
  · rcases y with ⟨j, t', rfl, rfl⟩ | ⟨a', its', ms, rfl, g1, g2, rfl⟩
    · cases hk
    · have ef : f = false := by
        cases f
        · rfl
        · exact absurd (hf rfl) (by simp)
      subst ef
      refine PySem.W.kat_one _ _ (HT.lt_tupInts h1 g1 h2 g2 (by omega) (Q := PySem.W.BoolBack Q) ?_)
      rw [ltI_lexLt, ← ltI_cons 0]
      exact h
theorem kcs_lex {f : Bool} : ∀ {xs ys : List Value} {cs ds : List (List Int)} (i : Nat), A.units + 4 < cLine → KCs s.heap xs cs → KCs s.heap ys ds → compat cs ds = true → (f = true → i = 0 → ∀ c, cs.head? = some c → c.head? = some 1) →
    PySem.W.KatLex prog w A f (decide (xs.length < ys.length)) (fun r s' => s' = s ∧ r = ltK cs ds) (xs.zip ys) i s
  | _, _, _, _, i, hu, .nil, .nil, _, _ => PySem.W.kat_nil ⟨rfl, rfl⟩
  | _, _, _, _, i, hu, .nil, .cons a r, _, _ => by
    refine PySem.W.kat_nil ⟨rfl, ?_⟩
    simp [ltK, lexG]
  | _, _, _, _, i, hu, .cons a r, .nil, _, _ => by
    refine PySem.W.kat_nil ⟨rfl, ?_⟩
    simp [ltK, lexG]
  | _, _, _, _, i, hu, .cons (c := c) (cs := cs) a r, .cons (c := d) (cs := ds) b q, hc, hf => by
    unfold compat at hc
    obtain ⟨h1, h2⟩ := Bool.and_eq_true_iff.mp hc
    have h1 := eq_of_beq h1
    refine PySem.W.kat_cons (kc_eq hu a b h1 prog w _ _ ?_)
    refine PySem.W.kat_go (fun e => ?_) (fun e => ?_)
    · have e : c = d := of_decide_eq_true e
      subst e
      refine PySem.W.kat_yes ?_
      have ih := kcs_lex (f := f) (i + 1) hu r q h2 fun _ h => by omega
      have e2 : ltK (c :: cs) (c :: ds) = ltK cs ds := by
        show lexG _ _ _ = _
        rw [lexG, if_pos rfl]
      rw [e2]
      simp only [List.length_cons, Nat.add_lt_add_iff_right]
      exact ih
    · have e : c ≠ d := of_decide_eq_false e
      refine PySem.W.kat_no (kc_lt hu a b h1 (fun h => ?_) ⟨rfl, ?_⟩)
      · obtain ⟨f1, i0⟩ := Bool.and_eq_true_iff.mp h
        exact hf f1 (eq_of_beq i0) c rfl
      · show _ = lexG _ _ _
        rw [lexG, if_neg e]
end

section
variable {prog : Program} {w : World} {A : Around} {E : Value → Shared → Prop} {s : Shared}
open Classical in
noncomputable def keyAt (h : Heap) (v : Value) : List (List Int) := if q : ∃ k, KI h v k then choose q else []
theorem keyAt_eq {h : Heap} {v : Value} {k : List (List Int)} (x : KI h v k) : keyAt h v = k := by
  unfold keyAt
  rw [dif_pos ⟨k, x⟩]
  exact (Classical.choose_spec (⟨k, x⟩ : ∃ k, KI h v k)).inj x
inductive KIs (h : Heap) : List Value → List (List (List Int)) → Prop
  | nil : KIs h [] []
  | cons {v vs k ks} : KI h v k → KIs h vs ks → KIs h (v :: vs) (k :: ks)
theorem KIs.mem {h : Heap} : ∀ {vs : List Value} {ks : List (List (List Int))}, KIs h vs ks → ∀ v ∈ vs, ∃ k ∈ ks, KI h v k
  | _, _, .nil, v, hv => absurd hv (by simp)
  | _, _, .cons a r, v, hv => by
    rcases List.mem_cons.mp hv with rfl | hv
    · exact ⟨_, List.mem_cons_self, a⟩
    · obtain ⟨k, h1, h2⟩ := KIs.mem r v hv
      exact ⟨k, List.mem_cons_of_mem _ h1, h2⟩
theorem KIs.length {h : Heap} : ∀ {vs : List Value} {ks : List (List (List Int))}, KIs h vs ks → vs.length = ks.length
  | _, _, .nil => rfl
  | _, _, .cons _ r => by simp [KIs.length r]
theorem KIs.zip {h : Heap} : ∀ {vs : List Value} {ks : List (List (List Int))}, KIs h vs ks → ∀ p ∈ ks.zip vs, KI h p.2 p.1
  | _, _, .nil, p, hp => absurd hp (by simp)
  | _, _, .cons a r, p, hp => by
    rw [List.zip_cons_cons] at hp
    rcases List.mem_cons.mp hp with rfl | hp
    · exact a
    · exact KIs.zip r p hp
/-- any two keys compare -/
def compats (ks : List (List (List Int))) : Bool := ks.all fun a => !a.isEmpty && ks.all fun b => compat a b
theorem compats_spec {ks : List (List (List Int))} (h : compats ks = true) {a b : List (List Int)} (ha : a ∈ ks) (hb : b ∈ ks) : a ≠ [] ∧ compat a b = true := by
  unfold compats at h
  have h := List.all_eq_true.mp h a ha
  obtain ⟨h1, h2⟩ := Bool.and_eq_true_iff.mp h
  refine ⟨fun e => ?_, List.all_eq_true.mp h2 b hb⟩
  subst e
  cases h1
theorem kc_firsts {h : Heap} : ∀ {vs : List Value} {ks : List (List (List Int))}, KIs h vs ks → (∀ k ∈ ks, k ≠ []) →
    ∃ fs, PySem.W.KatTups h vs fs ∧ fs.length = vs.length ∧ ∀ f ∈ fs, ∃ k ∈ ks, ∃ c, k.head? = some c ∧ KC h f c
  | _, _, .nil, _ => ⟨[], PySem.W.KatTups.nil, rfl, fun f hf => absurd hf (by simp)⟩
  | _, _, .cons (v := v) (k := k) a r, hne => by
    obtain ⟨fs, h1, h2, h3⟩ := kc_firsts r fun k hk => hne k (List.mem_cons_of_mem _ hk)
    obtain ⟨b, its, rfl, ⟨o, ho, hc, n, hd⟩, hk⟩ := a
    obtain ⟨f, rest, c, cs, e1, e2, hh⟩ : ∃ f rest c cs, its.toList = f :: rest ∧ k = c :: cs ∧ KC h f c := by
      generalize its.toList = l at hk
      cases hk with
      | nil => exact absurd rfl (hne _ List.mem_cons_self)
      | cons x y => exact ⟨_, _, _, _, rfl, rfl, x⟩
    refine ⟨f :: fs, PySem.W.KatTups.cons ho hc hd ?_ h1, by simp [h2], fun g hg => ?_⟩
    · have : its.toList[0]? = some f := by rw [e1]; rfl
      simpa using this
    · rcases List.mem_cons.mp hg with rfl | hg
      · exact ⟨k, List.mem_cons_self, c, by rw [e2]; rfl, hh⟩
      · obtain ⟨k', a1, c', a2, a3⟩ := h3 g hg
        exact ⟨k', List.mem_cons_of_mem _ a1, c', a2, a3⟩
theorem compat_head {a b : List (List Int)} {c d : List Int} (h : compat a b = true) (ha : a.head? = some c) (hb : b.head? = some d) : c.head? = d.head? := by
  cases a with
  | nil => cases ha
  | cons x a =>
    cases b with
    | nil => cases hb
    | cons y b =>
      cases ha; cases hb
      unfold compat at h
      exact eq_of_beq (Bool.and_eq_true_iff.mp h).1
theorem items_sortable {a : Addr} {vs : List Value} {ks : List (List (List Int))} (hu : A.units + 4 < cLine) (h0 : 0 < vs.length) (hk : KIs s.heap vs ks) (hc : compats ks = true) (ha : ∀ o, s.heap.get? a = some o → o.cls ≠ .type "tuple") :
    SortableO prog w A s a vs fun v u => ltK (keyAt s.heap v) (keyAt s.heap u) := by
  intro h' keep
  have kt : KeepTup s.heap h' := fun b its hb => by
    obtain ⟨o, ho, hcl, n, hd⟩ := hb
    exact ⟨o, keep b o (fun z => by subst z; exact ha o ho hcl) ho, hcl, n, hd⟩
  have hk' : KIs h' vs ks := by
    clear h0 hc
    induction hk with
    | nil => exact .nil
    | cons x _ ih => exact .cons (x.keeps kt) ih
  obtain ⟨fs, f1, f2, f3⟩ := kc_firsts hk' fun k m => (compats_spec hc m m).1
  obtain ⟨f0, fr, ef⟩ : ∃ f0 fr, fs = f0 :: fr := by
    cases fs with
    | nil => rw [List.length_nil] at f2; omega
    | cons x y => exact ⟨x, y, rfl⟩
  obtain ⟨k0, m0, c0, e0, q0⟩ := f3 f0 (by rw [ef]; exact List.mem_cons_self)
  have cmp : ∀ f : Bool, (f = true → c0.head? = some 1) → Cmp prog w A { s with heap := h' } (tuples' f) (fun p => p.1 ∈ vs) (lt2 fun v u => ltK (keyAt s.heap v) (keyAt s.heap u)) := by
    intro f hf p q hp hq
    show wpAny (model prog w) A (keyLt' (tuples' f) p.1 q.1) (fun r s' => s' = { s with heap := h' } ∧ r = ltK (keyAt s.heap p.1) (keyAt s.heap q.1)) (fun _ _ => False) { s with heap := h' }
    obtain ⟨k1, m1, x1⟩ := hk.mem _ hp
    obtain ⟨k2, m2, x2⟩ := hk.mem _ hq
    rw [keyAt_eq x1, keyAt_eq x2]
    obtain ⟨b1, i1, e1, ⟨o1, ho1, _, n1, hd1⟩, y1⟩ := x1.keeps kt
    obtain ⟨b2, i2, e2, ⟨o2, ho2, _, n2, hd2⟩, y2⟩ := x2.keeps kt
    rw [e1, e2]
    refine PySem.W.kat_lt (s := { s with heap := h' }) ho1 hd1 ho2 hd2 ?_
    have r := kcs_lex (prog := prog) (w := w) (A := A) (s := { s with heap := h' }) (f := f) 0 hu y1 y2 (compats_spec hc m1 m2).2 fun hf' _ c hcc => by
      rw [compat_head (compats_spec hc m1 m0).2 hcc e0]
      exact hf hf'
    simp only [Array.length_toList] at r
    exact r
  rcases q0 with ⟨i, t, ei, ec⟩ | ⟨b, its, ns, ei, ht, hi, ec⟩
  · refine ⟨tuples' true, fun Q E hq => ?_, cmp true fun _ => by rw [ec]; rfl⟩
    refine PySem.W.kat_kind (T := .type "int") f1 (by omega) (fun f hm => ?_) (by rfl) ?_
    · obtain ⟨k1, m1, c1, e1, q1⟩ := f3 f hm
      have hh := compat_head (compats_spec hc m1 m0).2 e1 e0
      rcases q1 with ⟨j, u, rfl, _⟩ | ⟨_, _, _, _, _, _, rfl⟩
      · exact PySem.W.Looks.now
      · rw [ec] at hh; cases hh
    · have e : (Value.type "int" != Value.type "tuple") = true := by first | decide +kernel | rfl | decide
      rw [e]
      exact hq
  · refine ⟨tuples' false, fun Q E hq => ?_, cmp false fun h => by cases h⟩
    refine PySem.W.kat_kind (T := .type "tuple") f1 (by omega) (fun f hm => ?_) (by rfl) ?_
    · obtain ⟨k1, m1, c1, e1, q1⟩ := f3 f hm
      have hh := compat_head (compats_spec hc m1 m0).2 e1 e0
      rcases q1 with ⟨j, u, rfl, rfl⟩ | ⟨b', its', ns', rfl, ⟨o, ho, hcl, _⟩, _, _⟩
      · rw [ec] at hh; cases hh
      · have := (show PySem.W.Looks (model prog w) h' (typeOf (.ref b')) o.cls from (PySem.W.Looks.ld ho).andThen .now)
        rw [hcl] at this
        exact this
    · have e : (Value.type "tuple" != Value.type "tuple") = false := by first | decide +kernel | rfl | decide
      rw [e]
      exact hq
/-- sorted(l) of items -/
theorem sorted_items {l : Addr} {vs : List Value} {ks : List (List (List Int))} {Q : Value → Shared → Prop} (hu : A.units + 64 < cLine) (hl : s.heap.IsList l vs.toArray) (hz : vs.length ≤ sizeLine) (hk : KIs s.heap vs ks) (hc : vs.length < 2 ∨ compats ks = true)
    (h : ∀ (h' : Heap) (d : Addr), (∀ b o, s.heap.get? b = some o → h'.get? b = some o) → s.heap.objs.size ≤ d → (∃ n, h'.get? d = some (seqObj "list" (sortZ ks vs).toArray n)) → Q (.ref d) { s with heap := h' }) :
    wpAny (model prog w) A (call (.builtin "sorted") [.ref l]) Q E s := by
  have O : Swo fun v u : Value => ltK (keyAt s.heap v) (keyAt s.heap u) :=
    ⟨fun x y => sto2_ltK.swo.asym _ _, fun x y z => sto2_ltK.swo.tr _ _ _⟩
  refine sorted_ord O hl hz (fun h2 h₁ a ha kk => ?_) fun out hs hb => ?_
  · have kt : KeepTup s.heap h₁ := fun b its hb => by
      obtain ⟨o, ho, hcl, n, hd⟩ := hb
      exact ⟨o, (kk b o ho).2, hcl, n, hd⟩
    have hk' : KIs h₁ vs ks := by
      clear h2 hl hz hc h ha
      induction hk with
      | nil => exact .nil
      | cons x _ ih => exact .cons (x.keeps kt) ih
    have hc : compats ks = true := by
      rcases hc with hc | hc
      · omega
      · exact hc
    have r := items_sortable (prog := prog) (w := w) (A := A.in1.in1) (s := { s with heap := h₁ }) (a := a) (by simp only [PySem.Around.in1_units]; omega) (by omega) hk' hc fun o e => by
      have e' : some o = some (seqObj "list" vs.toArray 0) := e.symm.trans ha
      cases e'
      intro c
      exact absurd (Value.type.inj c) (by decide)
    intro h' keep
    obtain ⟨κ, r1, r2⟩ := r h' keep
    refine ⟨κ, r1, fun p q hp hq => ?_⟩
    obtain ⟨k1, _, x1⟩ := hk.mem _ hp
    obtain ⟨k2, _, x2⟩ := hk.mem _ hq
    have := r2 p q hp hq
    show wpAny _ _ _ (fun r s' => _ ∧ r = ltK (keyAt s.heap p.1) (keyAt s.heap q.1)) _ _
    rw [keyAt_eq x1, keyAt_eq x2]
    have e1 := keyAt_eq (x1.keeps kt)
    have e2 := keyAt_eq (x2.keeps kt)
    rw [show lt2 (fun v u => ltK (keyAt h₁ v) (keyAt h₁ u)) p q = ltK (keyAt h₁ p.1) (keyAt h₁ q.1) from rfl, e1, e2] at this
    exact this
  · have e : out = sortZ ks vs := (sortB_uniq O hs hb).trans (sortZ_eq hk.length.symm fun p hp q hq => by rw [keyAt_eq (hk.zip p hp), keyAt_eq (hk.zip q hq)])
    rw [← e] at h
    exact h _ _ (fun b o e => sortedAll_old e) (Nat.le_succ _) (sortedAll_at s.heap vs out.toArray)
end

/-! ### by the machine's rules -/
def CV (K : PySem.W.Frag) (H : Hp) (x : V) (c : List Int) : Prop := (∃ i, x = .int i ∧ c = [1, i]) ∨ ∃ q ns, x = .ref q ∧ SqT K H q (ns.map V.int) ∧ c = 0 :: ns
inductive CVs (K : PySem.W.Frag) (H : Hp) : List V → List (List Int) → Prop
  | nil : CVs K H [] []
  | cons {x xs c cs} : CV K H x c → CVs K H xs cs → CVs K H (x :: xs) (c :: cs)
def KV (K : PySem.W.Frag) (H : Hp) (x : V) (k : List (List Int)) : Prop := ∃ t ws, x = .ref t ∧ SqT K H t ws ∧ CVs K H ws k
inductive KVs (K : PySem.W.Frag) (H : Hp) : List V → List (List (List Int)) → Prop
  | nil : KVs K H [] []
  | cons {x xs k ks} : KV K H x k → KVs K H xs ks → KVs K H (x :: xs) (k :: ks)
def rSortedK (K : PySem.W.Frag) : List V → Hp → VK → Prop := fun vs H Q => ∃ a xs ks, vs = [.ref a] ∧ SqL K H a xs ∧ KVs K H xs ks ∧ (xs.length < 2 ∨ compats ks = true) ∧ ∀ p, H p = none → Q (.ref p) (upd H p (.lst (sortZ ks xs)))
theorem KVs.refs {K : PySem.W.Frag} {H : Hp} : ∀ {xs : List V} {ks : List (List (List Int))}, KVs K H xs ks → ∀ x ∈ xs, ∃ a, x = V.ref a
  | _, _, .nil, x, hx => absurd hx (by simp)
  | _, _, .cons ⟨t, _, e, _⟩ r, x, hx => by
    rcases List.mem_cons.mp hx with rfl | hx
    · exact ⟨t, e⟩
    · exact KVs.refs r x hx
section
variable {X : Cx}
theorem cv_kc {pins : List (Addr × Obj)} {σ : L2.St} {H : Hp} {s : Shared} (I : Inv X pins σ H s) : ∀ {xs : List V} {us : List Value} {cs : List (List Int)}, CVs X.K H xs cs → Vals xs us → KCs s.heap us cs
  | _, _, _, .nil, .nil => .nil
  | _, _, _, .cons a r, .cons b q => by
    refine .cons ?_ (cv_kc I r q)
    rcases a with ⟨i, rfl, rfl⟩ | ⟨t, ns, rfl, h, rfl⟩
    · obtain ⟨u, rfl⟩ := b
      exact .inl ⟨_, _, rfl, rfl⟩
    · cases b
      obtain ⟨its, rv, ht, _⟩ := I.tuple h
      exact .inr ⟨_, _, _, rfl, ht, intsAre_of rv, rfl⟩
theorem kv_ki {pins : List (Addr × Obj)} {σ : L2.St} {H : Hp} {s : Shared} (I : Inv X pins σ H s) : ∀ {xs : List V} {us : List Value} {ks : List (List (List Int))}, KVs X.K H xs ks → Vals xs us → KIs s.heap us ks
  | _, _, _, .nil, .nil => .nil
  | _, _, _, .cons a r, .cons b q => by
    refine .cons ?_ (kv_ki I r q)
    obtain ⟨t, ws, rfl, h, c⟩ := a
    cases b
    obtain ⟨its, rv, ht, _⟩ := I.tuple h
    exact ⟨_, _, rfl, ht, cv_kc I c rv⟩
theorem cr_sortedK (hu : X.A.units + 64 < cLine) : CallR X (.builtin "sorted") (rSortedK X.K) := by
  intro pins s σ H vs us Q I r h
  obtain ⟨a, xs, ks, rfl, hs, hx, hc, q⟩ := h
  obtain ⟨its, rv, hl, hz⟩ := I.list hs
  rw [Vals.ref1 r]
  obtain ⟨e1, e2⟩ := refs_back rv hx.refs
  have hk := kv_ki I hx rv
  have el : ks.length = its.length := hk.length.symm
  refine sorted_items hu hl.isList (by rw [← rv.length]; exact hz) hk (by rw [← rv.length]; exact hc) fun h' d kp hd hn => ?_
  have h3 : ∀ u ∈ sortZ ks its, ∃ a, u = Value.ref a := fun u hu => e2 u ((sortZ_perm el).mem_iff.mp hu)
  obtain ⟨n, hn⟩ := hn
  have eo : sortZ ks xs = (sortZ ks its).map backV := by rw [e1, sortZ_map]
  refine ⟨.ref d, upd H d (.lst (sortZ ks xs)), I.laid (t' := s.toks) kp hd ⟨?_, sortZ ks its, n, by rw [eo]; exact vals_back h3, hn⟩, rfl, q d (I.hok.fresh hd)⟩
  rw [sortZ_length (by rw [el, rv.length])]
  exact hz
def rSD (K : PySem.W.Frag) : List V → Hp → VK → Prop := fun vs H Q => rSortedI K vs H Q ∨ rSortedK K vs H Q
theorem cr_sortedD (hu : X.A.units + 65 < cLine) : CallR X (.builtin "sorted") (rSD X.K) := by
  intro pins s σ H vs us Q I r h
  rcases h with h | h
  · exact cr_sortedI _ _ _ _ _ _ _ I r h
  · exact cr_sortedK (by omega) _ _ _ _ _ _ _ I r h
end

/-! ### of data -/
def cKey : D → Option (List Int)
  | .int i => some [1, i]
  | .tup ds => (allInt ds).map (0 :: ·)
  | _ => none
def iKey : D → Option (List (List Int))
  | .tup ds => allSome (ds.map cKey)
  | _ => none
def iiKey : D → Option (List (List Int))
  | .int i => some [[1, i]]
  | _ => none
def bSorted (m : Bool) (xs : List D) (st : Sto) : Out D := match xs with
  | [x] => (match litems st x with
    | some ys => (match allSome (ys.map iiKey) with
      | some ks => newL m (sortZ ks ys) st
      | none => match allSome (ys.map iKey) with
        | some ks => if ys.length < 2 ∨ compats ks = true then newL m (sortZ ks ys) st else .bad
        | none => .bad)
    | none => .bad)
  | _ => .bad
theorem allSome_len {α : Type} : ∀ {l : List (Option α)} {r : List α}, allSome l = some r → l.length = r.length
  | [], r, h => by cases h; rfl
  | none :: l, r, h => by cases h
  | some a :: l, r, h => by
    unfold allSome at h
    cases q : allSome l with
    | none => rw [q] at h; cases h
    | some b => rw [q] at h; cases h; simp [allSome_len q]
theorem allSome_consK {α : Type} {o : Option α} {l : List (Option α)} {r : List α} (h : allSome (o :: l) = some r) : ∃ a b, o = some a ∧ allSome l = some b ∧ r = a :: b := by
  cases o with
  | none => cases h
  | some a =>
    unfold allSome at h
    cases q : allSome l with
    | none => rw [q] at h; cases h
    | some b => rw [q] at h; cases h; exact ⟨a, b, rfl, rfl, rfl⟩
theorem Reps.zip {K : PySem.W.Frag} {g : G} {κ : Type} : ∀ {ks : List κ} {ds : List D} {vs : List V}, Reps K g ds vs → ks.length = ds.length → ∃ z : List (κ × D × V), ks.zip ds = z.map (fun p => (p.1, p.2.1)) ∧ ks.zip vs = z.map (fun p => (p.1, p.2.2)) ∧ ∀ p ∈ z, Rep K g p.2.1 p.2.2
  | [], _, _, .nil, _ => ⟨[], rfl, rfl, fun p hp => absurd hp (by simp)⟩
  | k :: ks, _, _, .cons (d := d) (v := v) a t, h => by
    obtain ⟨z, h1, h2, h3⟩ := Reps.zip (ks := ks) t (by simpa using h)
    refine ⟨(k, d, v) :: z, by simp [h1], by simp [h2], fun p hp => ?_⟩
    rcases List.mem_cons.mp hp with rfl | hp
    · exact a
    · exact h3 p hp
  | [], _, _, .cons _ _, h => by simp at h
  | _ :: _, _, _, .nil, h => by simp at h
theorem reps_of {K : PySem.W.Frag} {g : G} {κ : Type} : ∀ (z : List (κ × D × V)), (∀ p ∈ z, Rep K g p.2.1 p.2.2) → Reps K g (z.map fun p => p.2.1) (z.map fun p => p.2.2)
  | [], _ => .nil
  | p :: z, h => .cons (h p List.mem_cons_self) (reps_of z fun q hq => h q (List.mem_cons_of_mem _ hq))
theorem Reps.sortZ {K : PySem.W.Frag} {g : G} {ks : List (List (List Int))} {ds : List D} {vs : List V} (r : Reps K g ds vs) (hl : ks.length = ds.length) : Reps K g (sortZ ks ds) (sortZ ks vs) := by
  obtain ⟨z, h1, h2, h3⟩ := r.zip hl
  unfold PD.sortZ
  rw [h1, h2, sortB_map (la := fun (p : List (List Int) × D × V) q => ltK p.1 q.1) (fun p : List (List Int) × D × V => (p.1, p.2.1)) _ fun _ _ _ _ => rfl, sortB_map (la := fun (p : List (List Int) × D × V) q => ltK p.1 q.1) (fun p : List (List Int) × D × V => (p.1, p.2.2)) _ fun _ _ _ _ => rfl, List.map_map, List.map_map]
  exact reps_of _ fun p hp => h3 p ((sortB_perm _ z).mem_iff.mp hp)
theorem iiKey_all : ∀ {ds : List D} {ks : List (List (List Int))}, allSome (ds.map iiKey) = some ks → ∃ ns : List Int, ds = ns.map D.int ∧ ks = ns.map fun i => [[1, i]]
  | [], ks, h => by cases h; exact ⟨[], rfl, rfl⟩
  | d :: ds, ks, h => by
    obtain ⟨a, b, h1, h2, rfl⟩ := allSome_consK h
    obtain ⟨ns, rfl, rfl⟩ := iiKey_all h2
    cases d <;> cases h1
    exact ⟨_ :: ns, rfl, rfl⟩
theorem reps_ints {K : PySem.W.Frag} {g : G} : ∀ {ns : List Int} {vs : List V}, Reps K g (ns.map D.int) vs → vs = ns.map V.int
  | [], _, .nil => rfl
  | n :: ns, _, .cons a t => by cases a; rw [reps_ints t]; rfl
theorem reps_ofInts {K : PySem.W.Frag} {g : G} : ∀ (ns : List Int), Reps K g (ns.map D.int) (ns.map V.int)
  | [] => .nil
  | n :: ns => .cons (.int n) (reps_ofInts ns)
theorem allInt_ofK : ∀ {ds : List D} {ns : List Int}, allInt ds = some ns → ds = ns.map D.int
  | [], ns, h => by cases h; rfl
  | d :: ds, ns, h => by
    cases d <;> first | cases h | skip
    unfold allInt at h
    cases q : allInt ds with
    | none => rw [q] at h; cases h
    | some ms => rw [q] at h; cases h; rw [allInt_ofK q]; rfl
theorem cvs_of {K : PySem.W.Frag} {g : G} : ∀ {ds : List D} {vs : List V} {cs : List (List Int)}, Reps K g ds vs → allSome (ds.map cKey) = some cs → CVs K g.B vs cs
  | [], _, _, .nil, h => by cases h; exact .nil
  | d :: ds, _, cs, .cons a t, h => by
    obtain ⟨c, b, h1, h2, rfl⟩ := allSome_consK h
    refine .cons ?_ (cvs_of t h2)
    cases a <;> first | cases h1 | skip
    · exact .inl ⟨_, rfl, rfl⟩
    · rename_i xs q ws hq hl hr
      replace h1 : (allInt xs).map (0 :: ·) = some c := h1
      cases e : allInt xs with
      | none => rw [e] at h1; cases h1
      | some ns =>
        rw [e] at h1; cases h1
        have := allInt_ofK e
        subst this
        have := reps_ints hr
        subst this
        exact .inr ⟨_, _, rfl, hq.t, rfl⟩
theorem kvs_of {K : PySem.W.Frag} {g : G} : ∀ {ds : List D} {vs : List V} {ks : List (List (List Int))}, Reps K g ds vs → allSome (ds.map iKey) = some ks → KVs K g.B vs ks
  | [], _, _, .nil, h => by cases h; exact .nil
  | d :: ds, _, cs, .cons a t, h => by
    obtain ⟨c, b, h1, h2, rfl⟩ := allSome_consK h
    refine .cons ?_ (kvs_of t h2)
    cases a <;> first | cases h1 | skip
    rename_i xs q ws hq hl hr
    exact ⟨_, _, rfl, hq.t, cvs_of hr h1⟩
theorem CVs.mono {K : PySem.W.Frag} {B H : Hp} (hs : ∀ a o, B a = some o → H a = some o) : ∀ {vs : List V} {cs : List (List Int)}, CVs K B vs cs → CVs K H vs cs
  | _, _, .nil => .nil
  | _, _, .cons a r => by
    refine .cons ?_ (CVs.mono hs r)
    rcases a with h | ⟨q, ns, h1, h2, h3⟩
    · exact .inl h
    · exact .inr ⟨q, ns, h1, sqT_mono hs h2, h3⟩
theorem KVs.mono {K : PySem.W.Frag} {B H : Hp} (hs : ∀ a o, B a = some o → H a = some o) : ∀ {vs : List V} {cs : List (List (List Int))}, KVs K B vs cs → KVs K H vs cs
  | _, _, .nil => .nil
  | _, _, .cons ⟨t, ws, h1, h2, h3⟩ r => .cons ⟨t, ws, h1, sqT_mono hs h2, h3.mono hs⟩ (KVs.mono hs r)
theorem ltK_int (i j : Int) : ltK [[1, i]] [[1, j]] = decide (i < j) := by
  by_cases e : i = j
  · subst e; simp [ltK, ltI, lexG]
  · simp [ltK, ltI, lexG, e]
theorem sortZ_ints (ns ns' : List Int) (hp : ns'.Perm ns) (hs : ns'.Pairwise (· ≤ ·)) : ns' = sortZ (ns.map fun i => [[1, i]]) ns := by
  have O := sto2_int.swo
  have st : Stb (fun a b : Int => decide (a < b)) ns' ns := by
    refine ⟨hp, fun x => ?_⟩
    have e : SrtO.eqv (fun a b : Int => decide (a < b)) x = fun y => decide (x = y) := funext fun y => by
      unfold SrtO.eqv
      by_cases h : x = y
      · subst h; simp
      · simp only [h, decide_false]
        rcases Int.lt_or_gt_of_ne h with q | q
        · simp [q]
        · simp [q]
    rw [e]
    have h1 := fun l : List Int => List.filter_eq (l := l) x
    have e3 : ∀ l : List Int, l.filter (fun y => decide (x = y)) = List.replicate (l.count x) x := fun l => by
      rw [← List.filter_beq]
      congr 1
      funext y
      by_cases h : x = y
      · subst h; simp
      · simp [h, Ne.symm h]
    rw [e3, e3, hp.count_eq]
  have sr : Srtd (fun a b : Int => decide (a < b)) ns' := hs.imp fun h => by simp; omega
  refine (sortB_uniq O sr st).trans (sortZ_eq (by simp) fun p hp q hq => ?_)
  have key : ∀ (l : List Int) (p : List (List Int) × Int), p ∈ (l.map fun i => [[(1:Int), i]]).zip l → p.1 = [[1, p.2]] := by
    intro l
    induction l with
    | nil => intro p hp; simp at hp
    | cons a l ih =>
      intro p hp
      rw [List.map_cons, List.zip_cons_cons] at hp
      rcases List.mem_cons.mp hp with rfl | hp
      · rfl
      · exact ih p hp
  rw [key ns p hp, key ns q hq, ltK_int]
section
variable {X : Cx} {T : List (Addr × Str)}
theorem does_sorted (m : Bool) : DoesB X T (rSD X.K) (bSorted m) := by
  intro W σ g st H ds vs Q S r h
  unfold bSorted at h
  split at h
  · split at h
    · rename_i ys e
      cases r with
      | cons r1 r2 =>
        cases r2
        obtain ⟨a, ws, rfl, h1, h2, h3⟩ := S.litems r1 e
        split at h
        · rename_i ks ek
          obtain ⟨ns, rfl, rfl⟩ := iiKey_all ek
          have := reps_ints h3
          subst this
          refine .inl ⟨a, ns, rfl, SqL.of h1, fun ns' p hp hs hf => ?_⟩
          have e := sortZ_ints ns ns' hp hs
          have e1 : sortZ (ns.map fun i => [[(1:Int), i]]) (ns.map D.int) = ns'.map D.int := by rw [sortZ_map, ← e]
          rw [e1] at h
          exact newL_ok S (by rw [List.length_map, hp.length_eq]; simpa using h2) (reps_ofInts ns') h p hf
        · split at h
          · rename_i ks ek
            split at h
            · rename_i hc
              have hl : ks.length = ys.length := by rw [← allSome_len ek, List.length_map]
              refine .inr ⟨a, ws, ks, rfl, SqL.of h1, (kvs_of h3 ek).mono S.sub, by rw [← h3.length]; exact hc, newL_ok S ?_ (h3.sortZ hl) h⟩
              rw [sortZ_length (by rw [hl, h3.length])]
              exact h2
            · exact h.elim
          · exact h.elim
    · exact h.elim
  · exact h.elim
end
end PD
/-! PDRules6: odds and ends. -/
namespace PD
open PySem PySem.Spec PyProof.Rows L2
section
variable {X : Cx} {T : List (Addr × Str)} {W : WX} {a b c e e2 elt iter : Expr} {es ifs : List Expr} {fa fb fc fe : SE} {fs : SA} {ft fu : ST} {fi : SI} {pos p tpos : Pos} {x : Str}
theorem pt_pw {tt : TT} (h : PW X e tt) : PT X e tt := h.pt
theorem lookup_relab {env : Env} {x : Str} : ∀ {names : List (Str × NameKind)}, (names.lookup x = some .cell ∨ names.lookup x = some .free) →
    (names.map fun (n, k) => if (k == NameKind.free && env.scope.kind == .function && env.kindOf n == some .cell) then (n, NameKind.cell) else (n, k)).lookup x = some .cell ∨ (names.map fun (n, k) => if (k == NameKind.free && env.scope.kind == .function && env.kindOf n == some .cell) then (n, NameKind.cell) else (n, k)).lookup x = some .free
  | [], h => by simp at h
  | (n, k) :: r, h => by
    rw [List.map_cons]
    by_cases e : x = n
    · subst e
      simp only [List.lookup_cons, beq_self_eq_true] at h
      dsimp only
      split
      · left; simp [List.lookup_cons]
      · rcases h with h | h
        · left; cases h; simp [List.lookup_cons]
        · right; cases h; simp [List.lookup_cons]
    · have en : (x == n) = false := by simpa using e
      simp only [List.lookup_cons, en] at h
      have ih := lookup_relab (env := env) h
      have e2 : ((if (k == NameKind.free && env.scope.kind == .function && env.kindOf n == some .cell) = true then (n, NameKind.cell) else (n, k)) : Str × NameKind).1 = n := by split <;> rfl
      generalize hz : (if (k == NameKind.free && env.scope.kind == .function && env.kindOf n == some .cell) = true then (n, NameKind.cell) else (n, k) : Str × NameKind) = z at e2
      dsimp only
      rw [hz]
      obtain ⟨z1, z2⟩ := z
      simp only at e2
      subst e2
      simp only [List.lookup_cons, en]
      exact ih
theorem blk_relabel {N : List Str} {sc scope : Scope} {own : List (Str × Nat)} {env : Env} (h : BlkOk N sc scope own) : BlkOk N (relabel sc env) scope own :=
  ⟨h.kind, h.uniq, h.ix, fun y hy e => lookup_relab (h.free y hy e), h.own⟩
theorem pd_lcN {tg : Expr} {X0 : Cx} {s0 : Shared} {H0 : Hp} {sc0 : Scope} {cl0 : List (Str × Addr)} {C0 : Addr} {fp0 : List Addr} {scope : Scope} {own : List (Str × Nat)} {t : TG} {gd : TgD} {sl : List Nat} (m : Bool) (hc : X0.calm = true) (hN : X0.N.Nodup) (hi : PI (X0.blk s0 H0 sc0 (compEnvC sc0 cl0 C0 X0.env) fp0) tg iter (tDI (zX X0 T) W fi)) (ok : BlkOk X0.N sc0 scope own) (ht : TgOk (zX X0 T) t gd sl) (hsl : ∀ i ∈ sl, i ∈ own.map (·.2))
    (hg : ∀ (s : Shared) (H : Hp) (C : Addr) (cl : List (Str × Addr)) (fp : List Addr), PG ((X0.blk s0 H0 sc0 (compEnvC sc0 cl0 C0 X0.env) fp0).blk s H scope (compEnvC scope cl C (X0.blk s0 H0 sc0 (compEnvC sc0 cl0 C0 X0.env) fp0).env) fp) tg t)
    (hif : ∀ (s : Shared) (H : Hp) (C : Addr) (cl : List (Str × Addr)) (fp : List Addr), PTs ((X0.blk s0 H0 sc0 (compEnvC sc0 cl0 C0 X0.env) fp0).blk s H scope (compEnvC scope cl C (X0.blk s0 H0 sc0 (compEnvC sc0 cl0 C0 X0.env) fp0).env) fp) ifs (tDT (zX X0 T) W0 ft))
    (he : ∀ (s : Shared) (H : Hp) (C : Addr) (cl : List (Str × Addr)) (fp : List Addr), PE ((X0.blk s0 H0 sc0 (compEnvC sc0 cl0 C0 X0.env) fp0).blk s H scope (compEnvC scope cl C (X0.blk s0 H0 sc0 (compEnvC sc0 cl0 C0 X0.env) fp0).env) fp) elt (tD (zX X0 T) W0 fe)) (hs : ∀ x, foldedSetIterable iter (X0.blk s0 H0 sc0 (compEnvC sc0 cl0 C0 X0.env) fp0).env x = pure x := by intro _; rfl) :
    PE (X0.blk s0 H0 sc0 (compEnvC sc0 cl0 C0 X0.env) fp0) (.ListComp elt [⟨tg, iter, ifs, 0⟩] scope pos) (tD (zX X0 T) W (sLC m fi gd ft fe (own.map (·.2)))) :=
  pd_lc (X := X0.blk s0 H0 sc0 (compEnvC sc0 cl0 C0 X0.env) fp0) m hc hN hi (blk_relabel ok) ht hsl hg hif he hs
theorem pvD (i : Nat) (hN : X.N[i]? = some x := by rfl) (hv : Vis X.env.scope x := by first | exact Or.inl rfl | exact Or.inr (Or.inl rfl) | exact Or.inr (Or.inr rfl)) (hd : (x == ("__debug__" : Str)) = false := by decide)
    (hcd : (x == ("__classdict__" : Str)) = false := by decide) : PE X (.Name x pos) (tD (zX X T) W (sVar i)) := pd_var hN hv hd hcd
theorem pd_neg (ha : PE X a (tD (zX X T) W fa)) : PE X (.UnaryOp .USub a pos) (tD (zX X T) W (s1 fNeg fa)) :=
  PE.wk (pe_un un_neg ha) fun σ H Q ⟨g, ρ, st, S, E, q⟩ => by
    refine ⟨g, ρ, st, S, E, Sat.mono (sat_bind q) (fun d st1 q1 g1 H1 v L1 S1 r1 => ?_) fun _ _ _ q => q⟩
    unfold fNeg at q1
    split at q1
    · cases r1; exact ⟨_, rfl, q1 g1 H1 _ L1 S1 (.int _)⟩
    · exact q1.elim
theorem does_isBl : Does2 X T (fun x y H Q => ∃ a b, x = .bl a ∧ y = .bl b ∧ Q (.bl (decide (a = b))) H) fIsBl := by
  intro W σ g st H dx dy x y Q S rx ry h
  unfold fIsBl at h
  split at h
  · cases rx; cases ry; exact ⟨_, _, rfl, rfl, EPost.val S (fun _ => .bl _) h⟩
  · exact h.elim
theorem does_notBl : Does2 X T (fun x y H Q => ∃ a b, x = .bl a ∧ y = .bl b ∧ Q (.bl (!decide (a = b))) H) fNotBl := by
  intro W σ g st H dx dy x y Q S rx ry h
  unfold fNotBl at h
  split at h
  · cases rx; cases ry; exact ⟨_, _, rfl, rfl, EPost.val S (fun _ => .bl _) h⟩
  · exact h.elim
theorem rgV_reps (K : PySem.W.Frag) (g : G) (n : Nat) : Reps K g (rangeL 0 n) ((List.range n).map fun (i : Nat) => V.int (0 + (i : Int))) := by
  unfold rangeL
  rw [List.range_eq_range']
  exact reps_range K g 0 n 0
theorem pd_listR1 {p1 p2 : Pos} (m : Bool) (hc : X.calm = true) (hg : Gl X "list") (hm : X.mg "list" = none) (hg2 : Gl X "range") (hm2 : X.mg "range" = none) (ha : PE X a (tD (zX X T) W fa)) (na : starEach [a] X.env = (false, eval a X.env) :: starEach [] X.env := by rfl)
    (nb : starEach [.Call (.Name "range" p2) [a] [] p1] X.env = (false, eval (.Call (.Name "range" p2) [a] [] p1) X.env) :: starEach [] X.env := by rfl) :
    PE X (.Call (.Name "list" p) [.Call (.Name "range" p2) [a] [] p1] [] pos) (tD (zX X T) W (sListR1 m fa)) :=
  PE.wk (pe_listRg hc hg hm (prg_1 hg2 hm2 ha na) nb) fun σ H Q ⟨g, ρ, st, S, E, q⟩ => by
    refine ⟨g, ρ, st, S, E, Sat.mono (sat_bind q) (fun d st1 q1 g1 H1 v L1 S1 r1 => ?_) fun _ _ _ q => q⟩
    split at q1
    · rename_i j
      split at q1
      · rename_i hj
        cases r1
        refine ⟨j, rfl, ?_, ?_⟩
        · have := sizeLine_eq
          exact RgOk.of_le (by omega) (by omega) (by omega) (by omega)
        · have e : rgV 0 j = (List.range j.toNat).map fun (i : Nat) => V.int (0 + (i : Int)) := by
            unfold rgV
            rw [Int.sub_zero]
          refine newL_ok (W := W) (σ := σ) S1 (vs := rgV 0 j) ?_ ?_ (EPost.mono L1 q1)
          · rw [rgV_length]; omega
          · rw [e]; exact rgV_reps _ _ _
      · exact q1.elim
    · exact q1.elim

/-! ### dicts made of pairs -/
inductive KR (K : PySem.W.Frag) (g : G) : List (Key × D) → List (Key × V) → Prop
  | nil : KR K g [] []
  | cons {k d v ps qs} : Rep K g d v → KR K g ps qs → KR K g ((k, d) :: ps) ((k, v) :: qs)
theorem KR.reps {K : PySem.W.Frag} {g : G} : ∀ {ps qs}, KR K g ps qs → ps.map (·.1) = qs.map (·.1) ∧ Reps K g (ps.map (·.2)) (qs.map (·.2))
  | _, _, .nil => ⟨rfl, .nil⟩
  | _, _, .cons a r => ⟨by simp [(KR.reps r).1], .cons a (KR.reps r).2⟩
theorem KR.any {K : PySem.W.Frag} {g : G} (k : Key) : ∀ {ps qs}, KR K g ps qs → (ps.any fun kv => decide (kv.1 = k)) = qs.any fun kv => decide (kv.1 = k)
  | _, _, .nil => rfl
  | _, _, .cons a r => by rw [List.any_cons, List.any_cons, KR.any k r]
theorem KR.upd {K : PySem.W.Frag} {g : G} {d : D} {v : V} (h : Rep K g d v) (k : Key) : ∀ {ps qs}, KR K g ps qs → KR K g (ps.map fun kv => if kv.1 = k then (kv.1, d) else kv) (qs.map fun kv => if kv.1 = k then (kv.1, v) else kv)
  | _, _, .nil => .nil
  | _, _, .cons (k := k') a r => by
    rw [List.map_cons, List.map_cons]
    by_cases e : k' = k
    · simp only [e, if_pos]; exact .cons h (KR.upd h k r)
    · simp only [e, if_neg, not_false_eq_true]; exact .cons a (KR.upd h k r)
theorem KR.snoc {K : PySem.W.Frag} {g : G} {d : D} {v : V} (h : Rep K g d v) (k : Key) : ∀ {ps qs}, KR K g ps qs → KR K g (ps ++ [(k, d)]) (qs ++ [(k, v)])
  | _, _, .nil => .cons h .nil
  | _, _, .cons a r => .cons a (KR.snoc h k r)
theorem KR.put {K : PySem.W.Frag} {g : G} {d : D} {v : V} (h : Rep K g d v) (k : Key) {ps qs} (r : KR K g ps qs) : KR K g (putD ps k d) (putK qs k v) := by
  unfold putD putK
  rw [r.any k]
  split
  · exact r.upd h k
  · exact r.snoc h k
theorem KR.merge {K : PySem.W.Frag} {g : G} {more mores} (r : KR K g more mores) : ∀ {acc accs}, KR K g acc accs → KR K g (more.foldl (fun acc p => putD acc p.1 p.2) acc) (mergeK accs mores) := by
  induction r with
  | nil => intro _ _ q; exact q
  | cons a r ih => intro _ _ q; exact ih (q.put a _)
theorem pairs_reps {K : PySem.W.Frag} {g : G} : ∀ {ds : List D} {vs : List V} {ps : List (Key × D)}, Reps K g ds vs → allSome (ds.map pairK) = some ps →
    ∃ (as : List Addr) (kvs : List (Key × V)), vs = as.map V.ref ∧ Paired (fun p (kv : Key × V) => SqT K g.B p [kV kv.1, kv.2]) as kvs ∧ KR K g ps kvs
  | [], _, _, .nil, h => by cases h; exact ⟨[], [], rfl, .nil, .nil⟩
  | d :: ds, _, _, .cons a t, h => by
    obtain ⟨p, ps, h1, h2, rfl⟩ := allSome_consK h
    obtain ⟨as, kvs, rfl, e2, e3⟩ := pairs_reps t h2
    unfold pairK at h1
    split at h1
    · rename_i k v
      cases a with
      | tup q l r =>
        cases r with
        | cons r1 r2 =>
          cases r2 with
          | cons r3 r4 =>
            cases r4
            cases k <;> first | cases h1 | skip
            · cases r1
              exact ⟨_ :: as, (.inl _, _) :: kvs, rfl, .cons q.t e2, .cons r3 e3⟩
            · cases r1
              exact ⟨_ :: as, (.inr _, _) :: kvs, rfl, .cons q.t e2, .cons r3 e3⟩
    · cases h1
theorem paired_mono {K : PySem.W.Frag} {B H : Hp} (hs : ∀ a o, B a = some o → H a = some o) : ∀ {as : List Addr} {kvs : List (Key × V)}, Paired (fun p (kv : Key × V) => SqT K B p [kV kv.1, kv.2]) as kvs → Paired (fun p (kv : Key × V) => SqT K H p [kV kv.1, kv.2]) as kvs
  | _, _, .nil => .nil
  | _, _, .cons a r => .cons (sqT_mono hs a) (paired_mono hs r)
theorem does_dict : DoesB X T (fun xs H Q => ∃ (a : Addr) (ps : List Addr) (kvs : List (Key × V)), xs = [.ref a] ∧ SqL X.K H a (ps.map V.ref) ∧ Paired (fun p kv => SqT X.K H p [kV kv.1, kv.2]) ps kvs ∧
    ∀ p, H p = none → Q (.ref p) (upd H p (.dK (mergeK [] kvs)))) bDict := by
  intro W σ g st H ds vs Q S r h
  unfold bDict at h
  split at h
  · rename_i x
    split at h
    · rename_i ps e
      cases r with
      | cons r1 r2 =>
        cases r2
        cases e1 : litems st x with
        | none => rw [e1] at e; cases e
        | some ys =>
          rw [e1] at e
          obtain ⟨a, ws, rfl, h1, h2, h3⟩ := S.litems r1 e1
          obtain ⟨as, kvs, rfl, e2, e3⟩ := pairs_reps h3 e
          refine ⟨a, as, kvs, rfl, SqL.of h1, paired_mono S.sub e2, fun p hp => ?_⟩
          obtain ⟨S', L'⟩ := S.allocB (o := .dK (mergeK [] kvs)) hp (fun _ => by simp)
          obtain ⟨m1, m2⟩ := (KR.merge e3 .nil).reps
          have ez : mergeK [] kvs = ((mergeK [] kvs).map (·.1)).zip ((mergeK [] kvs).map (·.2)) := by
            generalize mergeK [] kvs = l
            induction l with
            | nil => rfl
            | cons x l ih => simp [← ih]
          refine h _ _ _ L' S' ?_
          refine .dk (vs := (mergeK [] kvs).map (·.2)) ?_ ?_ ?_
          · rw [m1, ← ez]; exact upd_same
          · rw [m1, List.length_map, List.length_map]
          · exact m2.mono L'.ge
    · exact h.elim
  · exact h.elim
theorem does_lenD : DoesB X T (fun xs H Q => ∃ a kvs, xs = [V.ref a] ∧ H a = some (.dK kvs) ∧ Q (.int kvs.length) H) bLenD := by
  intro W σ g st H ds vs Q S r h
  unfold bLenD at h
  split at h
  · cases r with
    | cons r1 r2 =>
      cases r2
      cases r1 with
      | dk e l r =>
        refine ⟨_, _, rfl, S.sub _ _ e, ?_⟩
        rw [List.length_zip, ← l, Nat.min_self]
        exact EPost.val S (fun _ => .int _) h
  · exact h.elim
end
end PD
/-! PDRules7: min, max of a list of ints. -/
namespace PD
open PySem PySem.Spec PyProof.Rows L2
def minL : List Int → Int
  | [] => 0
  | [a] => a
  | a :: b :: l => if minL (b :: l) < a then minL (b :: l) else a
def maxL : List Int → Int
  | [] => 0
  | [a] => a
  | a :: b :: l => if a < maxL (b :: l) then maxL (b :: l) else a
theorem minL_spec : ∀ {l : List Int}, l ≠ [] → minL l ∈ l ∧ ∀ y ∈ l, minL l ≤ y
  | [], h => absurd rfl h
  | [a], _ => ⟨List.mem_singleton.mpr rfl, fun y hy => by rw [List.mem_singleton.mp hy]; exact Int.le_refl _⟩
  | a :: b :: l, _ => by
    obtain ⟨h1, h2⟩ := minL_spec (l := b :: l) (by simp)
    unfold minL
    split
    · exact ⟨List.mem_cons_of_mem _ h1, fun y hy => by
        rcases List.mem_cons.mp hy with rfl | hy
        · omega
        · exact h2 y hy⟩
    · exact ⟨List.mem_cons_self, fun y hy => by
        rcases List.mem_cons.mp hy with rfl | hy
        · exact Int.le_refl _
        · have := h2 y hy; omega⟩
theorem maxL_spec : ∀ {l : List Int}, l ≠ [] → maxL l ∈ l ∧ ∀ y ∈ l, y ≤ maxL l
  | [], h => absurd rfl h
  | [a], _ => ⟨List.mem_singleton.mpr rfl, fun y hy => by rw [List.mem_singleton.mp hy]; exact Int.le_refl _⟩
  | a :: b :: l, _ => by
    obtain ⟨h1, h2⟩ := maxL_spec (l := b :: l) (by simp)
    unfold maxL
    split
    · exact ⟨List.mem_cons_of_mem _ h1, fun y hy => by
        rcases List.mem_cons.mp hy with rfl | hy
        · omega
        · exact h2 y hy⟩
    · exact ⟨List.mem_cons_self, fun y hy => by
        rcases List.mem_cons.mp hy with rfl | hy
        · exact Int.le_refl _
        · have := h2 y hy; omega⟩
def bMin1 (xs : List D) (st : Sto) : Out D := match xs with
  | [x] => (match (litems st x).bind allInt with | some ns => if ns.isEmpty then .bad else .ok (.int (minL ns)) st | none => .bad)
  | _ => .bad
def bMax1 (xs : List D) (st : Sto) : Out D := match xs with
  | [x] => (match (litems st x).bind allInt with | some ns => if ns.isEmpty then .bad else .ok (.int (maxL ns)) st | none => .bad)
  | _ => .bad
section
variable {X : Cx} {T : List (Addr × Str)}
theorem does_min1 : DoesB X T (rMin X.K) bMin1 := by
  intro W σ g st H ds vs Q S r h
  unfold bMin1 at h
  split at h
  · rename_i x
    split at h
    · rename_i ns e
      split at h
      · exact h.elim
      · rename_i hne
        cases r with
        | cons r1 r2 =>
          cases r2
          cases e1 : litems st x with
          | none => rw [e1] at e; cases e
          | some ys =>
            rw [e1] at e
            obtain ⟨a, ws, rfl, h1, h2, h3⟩ := S.litems r1 e1
            have := allInt_of h3 e
            subst this
            have nn : ns ≠ [] := fun q => by subst q; exact hne rfl
            refine ⟨a, ns, rfl, SqL.of h1, List.length_pos_iff.mpr nn, fun m hm hl => ?_⟩
            obtain ⟨k1, k2⟩ := minL_spec nn
            have : m = minL ns := Int.le_antisymm (hl _ k1) (k2 _ hm)
            rw [this]
            exact EPost.val S (fun _ => .int _) h
    · exact h.elim
  · exact h.elim
theorem does_max1 : DoesB X T (rMax X.K) bMax1 := by
  intro W σ g st H ds vs Q S r h
  unfold bMax1 at h
  split at h
  · rename_i x
    split at h
    · rename_i ns e
      split at h
      · exact h.elim
      · rename_i hne
        cases r with
        | cons r1 r2 =>
          cases r2
          cases e1 : litems st x with
          | none => rw [e1] at e; cases e
          | some ys =>
            rw [e1] at e
            obtain ⟨a, ws, rfl, h1, h2, h3⟩ := S.litems r1 e1
            have := allInt_of h3 e
            subst this
            have nn : ns ≠ [] := fun q => by subst q; exact hne rfl
            refine ⟨a, ns, rfl, SqL.of h1, List.length_pos_iff.mpr nn, fun m hm hl => ?_⟩
            obtain ⟨k1, k2⟩ := maxL_spec nn
            have : m = maxL ns := Int.le_antisymm (k2 _ hm) (hl _ k1)
            rw [this]
            exact EPost.val S (fun _ => .int _) h
    · exact h.elim
  · exact h.elim
end
end PD
/-! PDExc: raising, catching. -/
namespace PD
open PySem PySem.Spec PyProof.Rows L2
/-- an own exception class without an __init__ -/
structure OwnE (K : PySem.W.Frag) (mg : Str → Option Value) (n : Str) (C : Addr) : Prop where
  g : mg n = some (.ref C)
  k : PySem.W.keepIn K (.ref C) = true
  x : PySem.W.excIn K C [.type "ValueError", .type "Exception", .type "BaseException", .type "object"] "ValueError.__new__" = true
  b : PySem.W.subIn K (.ref C) (.type "BaseException") = some true
  t : PySem.W.typeIn K (.ref C) = some (.type "type")
section
variable {X : Cx} {T : List (Addr × Str)} {W : WX} {n : Str} {C : Addr} {p pos pos' : Pos}
/-- C() -/
theorem pmk_own0 (o : OwnE X.K X.mg n C) (hg : Gl X n) (hdb : (n == ("__debug__" : Str)) = false := by decide) : PMk X (.Call (.Name n p) [] [] pos) (fun _ H Q => Q (.ref C) none H) := by
  intro pins s σ H Q I h
  refine wpAny_Call_Name_kw (ld_glob I hg o.g ?_ hdb)
  refine PySem.W.callWith_K0 I.kIn o.k ?_
  obtain ⟨bm, N, nm, qn, bs, hdct, sn, sub, ab, col, dd, k0, k1, k2, k3, k5, mN, hC, hN, hni, T⟩ := exc_obj I.kIn o.x
  exact wpAny_call_exc_subT PySem.F.excBase_ValueError T hC hN hni (fun h' e hm => mk_of I hm (raises_own o.b o.t) h (I.hok.gone hm.new)) (Nat.zero_le _)
theorem clsV_own {z : Z} (h : z.mg n = some (.ref C)) : clsV z n = .ref C := by unfold clsV; rw [h]; rfl
/-- raise C() -/
theorem ps_raiseD (o : OwnE X.K X.mg n C) (hc : X.calm = true) (tk : Takes X W) (hg : Gl X n) (hdb : (n == ("__debug__" : Str)) = false := by decide) : PS X (.Raise (some (.Call (.Name n p) [] [] pos)) none pos') (tDS (zX X T) W (qRaise n)) :=
  PS.wk (ps_raise hc tk (pmk_own0 o hg hdb)) fun D σ H ⟨g, ρ, st, S, E, q⟩ => by
    have := q g H (Le.refl g H) S σ none E (.inl ⟨rfl, rfl⟩)
    rw [clsV_own (z := zX X T) o.g] at this
    exact this
end

/-! ### xs.count(b), xs.index(x) -/
def eqb (k : Bool) : Value → Bool
  | .bool b => b == k
  | _ => false
theorem bools_of {bs : List Bool} {us : List Value} (r : Vals (bs.map V.bl) us) : us = bs.map Value.bool := by
  induction bs generalizing us with
  | nil => cases r; rfl
  | cons b bs ih =>
    rw [List.map_cons] at r
    cases r with
    | cons h t => rw [ih t]; cases h; rfl
theorem eqb_count (k : Bool) (bs : List Bool) : (bs.map Value.bool).countP (eqb k) = bs.count k := by
  induction bs with
  | nil => rfl
  | cons b bs ih =>
    rw [List.map_cons, List.countP_cons, List.count_cons, ih]
    rfl
def rCntB (K : PySem.W.Frag) : V → List V → Hp → VK → Prop := fun x xs H Q => ∃ (p : Addr) (bs : List Bool) (k : Bool), x = .ref p ∧ xs = [.bl k] ∧ SqL K H p (bs.map V.bl) ∧ Q (.int (bs.count k : Nat)) H
theorem mt_lcountB {X : Cx} : MtR X "list.count" (rCntB X.K) := by
  intro pins s σ H x xs v us Q I rx rxs h
  obtain ⟨p, bs, k, rfl, rfl, hs, q⟩ := h
  cases rx
  obtain ⟨u, rfl, ru⟩ := rxs.one
  cases ru
  obtain ⟨its, rv, ⟨⟨cls, dd, data, sl⟩, n, ho, hc, hdn, hd⟩, hlen⟩ := I.list hs
  simp only at hc hd
  subst hc hd
  have hi := bools_of rv
  subst hi
  refine call_meets PySem.F.slot_list_count ⟨_, ho, rfl⟩ PySem.F.entry_list_count (PySem.F.args_list_count_2 _ _)
    (SeqAt.list_countAt p (bs.map Value.bool).toArray n dd sl (.bool k) (eqb k)) ⟨ho, fun y hy => ?_, ?_⟩
  · obtain ⟨b, _, rfl⟩ := List.mem_map.mp (show y ∈ bs.map Value.bool by simpa using hy)
    exact SeqAt.EqAt.bool_bool b k
  · have ec : ((bs.map Value.bool).toArray.toList.countP (eqb k)) = bs.count k := eqb_count k bs
    refine ⟨.int (bs.count k : Nat), H, I.tok _, ⟨s.toks, ?_⟩, q⟩
    show Value.int ((((bs.map Value.bool).toArray.toList.countP (eqb k)) : Nat) : Int) s.toks = Value.int ((bs.count k : Nat) : Int) s.toks
    rw [ec]
def fCountB (x y : D) (st : Sto) : Out D := match (litems st x).bind allBl, y with
  | some bs, .bl k => .ok (.int (bs.count k : Nat)) st
  | _, _ => .bad
def firstIx (p : PyData) : Nat → List PyData → Option Nat
  | _, [] => none
  | i, z :: zs => if PyData.eqv z p = true then some i else firstIx p (i + 1) zs
theorem firstIx_spec {p : PyData} : ∀ {ps : List PyData} {i j : Nat}, firstIx p i ps = some j → ∃ k z, j = i + k ∧ ps[k]? = some z ∧ PyData.eqv z p = true ∧ ∀ (m : Nat) (z' : PyData), m < k → ps[m]? = some z' → PyData.eqv z' p = false
  | [], i, j, h => by cases h
  | z :: zs, i, j, h => by
    unfold firstIx at h
    split at h
    · rename_i e
      cases h
      exact ⟨0, z, rfl, rfl, e, fun m z' hm => absurd hm (by omega)⟩
    · rename_i e
      obtain ⟨k, w, e1, e2, e3, e4⟩ := firstIx_spec h
      refine ⟨k + 1, w, by omega, by simpa using e2, e3, fun m z' hm hz => ?_⟩
      cases m with
      | zero =>
        have : z = z' := by simpa using hz
        subst this
        simpa using e
      | succ m => exact e4 m z' (by omega) (by simpa using hz)
def fIndexD (x y : D) (st : Sto) : Out D := match litems st x, toPy st 60 y with
  | some ys, some p => (match toPys st 59 ys with
    | some ps => (match firstIx p 0 ps with | some j => .ok (.int (j : Nat)) st | none => .bad)
    | none => .bad)
  | _, _ => .bad
section
variable {X : Cx} {T : List (Addr × Str)} {W : WX} {e : Expr} {fe : SE}
theorem does_countB : DoesM X T (rCntB X.K) fCountB := by
  intro W σ g st H dx dy x y Q S rx ry h
  unfold fCountB at h
  split at h
  · rename_i bs k q
    cases e1 : litems st dx with
    | none => rw [e1] at q; cases q
    | some ys =>
      rw [e1] at q
      obtain ⟨a, ws, rfl, h1, h2, h3⟩ := S.litems rx e1
      cases ry
      have := allBl_of h3 q
      subst this
      exact ⟨a, bs, k, rfl, rfl, SqL.of h1, EPost.val S (fun _ => .int _) h⟩
  · exact h.elim
theorem does_index : DoesM X T (rIndexD X.K) fIndexD := by
  intro W σ g st H dx dy x y Q S rx ry h
  unfold fIndexD at h
  split at h
  · rename_i ys p e1 e2
    split at h
    · rename_i ps e3
      split at h
      · rename_i j e4
        obtain ⟨a, ws, rfl, h1, h2, h3⟩ := S.litems rx e1
        obtain ⟨q1, q2, q3⟩ := toPy_dp S 60 ry e2
        obtain ⟨k1, k2, k3⟩ := toPys_dp S 59 h3 e3
        obtain ⟨k, z, rfl, f1, f2, f3⟩ := firstIx_spec e4
        exact ⟨a, y, p, ps, k, z, rfl, rfl, .lst (SqL.of h1) k1, q1, shaped_of (p := .list ps) k2 (by show PyData.depthAll ps + 1 ≤ 64; omega), shaped_of q2 (by omega), f1, f2, f3, by
          rw [Nat.zero_add] at h
          exact EPost.val S (fun _ => .int _) h⟩
      · exact h.elim
    · exact h.elim
  · exact h.elim
variable {fo : SE} {o : Expr} {apos cpos : Pos}
theorem pd_countB (ho : PE X o (tD (zX X T) W fo)) (he : PE X e (tD (zX X T) W fe)) (hst : starEach [e] X.env = (false, eval e X.env) :: starEach [] X.env := by rfl)
    (hbase : attributeBase o "count" X.env (eval o X.env) = eval o X.env := by rfl)
    (hfew : ((backTo cpos (starEach [e] X.env)).all (fun x => !x.1) && (backToKw cpos (keywordEach [] X.env)).all (fun x => x.1.isSome)
      && decide ([e].length + ([] : List Keyword).length + (if ([] : List Keyword).isEmpty then 0 else 1) < 30)) = true := by rfl)
    (hline : (apos.endLine == cpos.line) = true := by rfl) (hplain : (backTo cpos (starEach [] X.env)).any (·.1) = false := by rfl) :
    PE X (.Call (.Attribute o "count" apos) [e] [] cpos) (tD (zX X T) W (sM fCountB fo fe)) :=
  PE.wk (pe_bm PySem.F.plainAttrs_list PySem.F.slot_list_count PySem.F.type_list_count mt_lcountB ho (pa_consD he pa_nilD hst) hbase hfew hline hst hplain) (wkM does_countB)
theorem pd_index (hu : X.A.units + 65 < cLine) (ho : PE X o (tD (zX X T) W fo)) (he : PE X e (tD (zX X T) W fe)) (hst : starEach [e] X.env = (false, eval e X.env) :: starEach [] X.env := by rfl)
    (hbase : attributeBase o "index" X.env (eval o X.env) = eval o X.env := by rfl)
    (hfew : ((backTo cpos (starEach [e] X.env)).all (fun x => !x.1) && (backToKw cpos (keywordEach [] X.env)).all (fun x => x.1.isSome)
      && decide ([e].length + ([] : List Keyword).length + (if ([] : List Keyword).isEmpty then 0 else 1) < 30)) = true := by rfl)
    (hline : (apos.endLine == cpos.line) = true := by rfl) (hplain : (backTo cpos (starEach [] X.env)).any (·.1) = false := by rfl) :
    PE X (.Call (.Attribute o "index" apos) [e] [] cpos) (tD (zX X T) W (sM fIndexD fo fe)) :=
  PE.wk (pe_bm PySem.F.plainAttrs_list PySem.F.slot_list_index PySem.F.type_list_index (mt_indexD hu) ho (pa_consD he pa_nilD hst) hbase hfew hline hst hplain) (wkM does_index)
/-! ### isinstance of what was caught -/
/-- isinstance(e, C): slot i holds the exception, at a -/
def sIsE (i : Nat) (a : Addr) (b : Bool) : SE := fun ρ st => match ρ[i]? with
  | some (some (.raw (.ref a'))) => if a' = a then .ok (.bl b) st else .bad
  | _ => .bad
/-- what is known of a class whose instances are caught -/
theorem pd_isE {Y : Cx} {a C D : Addr} {oe : Obj} {pn : List (Addr × Obj)} {i : Nat} {n x : Str} {b : Bool} {p p1 p2 pos : Pos} (ec : ExcC Y.K D) (hz : Zc (.ref D) none oe) (hf : ∃ vs, oe.data = .fields vs) (hb : PySem.W.kitOne Y.K (.ref D) (.ref C) = some b)
    (hN : Y.N[i]? = some x) (hv : Vis Y.env.scope x) (hg : Gl Y "isinstance") (hm : Y.mg "isinstance" = none) (hgC : Gl Y n) (hmC : Y.mg n = some (.ref C))
    (hd : (x == ("__debug__" : Str)) = false := by decide) (hcd : (x == ("__classdict__" : Str)) = false := by decide) (hnd : (n == ("__debug__" : Str)) = false := by decide)
    (he : starEach [.Name x p1, .Name n p2] (Y.suite a ((a, oe) :: pn)).env = (false, eval (.Name x p1) (Y.suite a ((a, oe) :: pn)).env) :: starEach [.Name n p2] (Y.suite a ((a, oe) :: pn)).env := by rfl) (he2 : starEach [.Name n p2] (Y.suite a ((a, oe) :: pn)).env = (false, eval (.Name n p2) (Y.suite a ((a, oe) :: pn)).env) :: starEach [] (Y.suite a ((a, oe) :: pn)).env := by rfl)
    (hpl : (backTo pos (starEach [.Name n p2] (Y.suite a ((a, oe) :: pn)).env)).any (·.1) = false := by rfl) :
    PE (Y.suite a ((a, oe) :: pn)) (.Call (.Name "isinstance" p) [.Name x p1, .Name n p2] [] pos) (tD (zX (Y.suite a ((a, oe) :: pn)) T) W (sIsE i a b)) := by
  have h1 : PE (Y.suite a ((a, oe) :: pn)) (.Name n p2) (tC (V.ref C)) := pe_glob hgC hmC rfl hnd
  have h0 : PE (Y.suite a ((a, oe) :: pn)) (.Name x p1) _ := pe_var (i := i) hN hv hd hcd
  refine PE.wk (pe_callB (call_isE ec hz hf) hg hm (by rfl) (pa_cons h0 (pa_cons h1 pa_nil he2) he) (by decide) (by decide) he hpl) fun σ H Q ⟨g, ρ, st, S, E, q⟩ => ?_
  unfold sIsE at q
  split at q
  · rename_i a' e
    split at q
    · rename_i ea
      subst ea
      obtain ⟨v, hv, rv⟩ := E.2 i _ e
      cases rv
      exact ⟨_, hv, .ref C, .ref C, b, rfl, fun u hu => hu, hb, EPost.val S (fun _ => .bl b) q⟩
    · exact q.elim
  · exact q.elim
end
/-! ### try: .. except x as n: .. -/
def cleanS (i : Nat) : Option (Fl × Sto) → Option (Fl × Sto)
  | some (.nx ρ, st) => some (.nx (ρ.set i none), st)
  | some (.bk ρ, st) => some (.bk (ρ.set i none), st)
  | some (.ct ρ, st) => some (.ct (ρ.set i none), st)
  | some (.rt d, st) => some (.rt d, st)
  | _ => none
/-- caught n: does the clause take an exception of the class n; res n: what its suite does, slot i empty before and behind -/
def qTryAs (i m : Nat) (caught : Str → Option Bool) (qb : SS) (res : Str → SS) : SS := fun ρ st => match qb ρ st with
  | some (.ex n fs ρ', st') => (match caught n with
    | some true => if fs.isEmpty && decide (ρ'.length = m) then res n ρ' st' else none
    | some false => some (.ex n fs ρ', st')
    | none => none)
  | r => r
theorem EnvR.unset {K : PySem.W.Frag} {g : G} {σ : L2.St} {ρ : Ev} (E : EnvR K g σ ρ) (i : Nat) : EnvR K g (σ.set i none) (ρ.set i none) := by
  refine ⟨by rw [List.length_set, List.length_set]; exact E.1, fun j d h => ?_⟩
  by_cases e : i = j
  · subst e
    rw [List.getElem?_set] at h
    split at h
    · split at h <;> cases h
    · exact absurd rfl (by assumption)
  · rw [List.getElem?_set_ne e] at h ⊢
    exact E.2 j d h
theorem spost_clean {z : Z} {W : WX} {D : Ends} {g : G} {H : Hp} {i : Nat} {r : Option (Fl × Sto)} (h : SPost z W D g H (cleanS i r)) :
    SPost z W { nx := fun σ' H' => D.nx (σ'.set i none) H', rt := D.rt, bk := fun σ' H' => D.bk (σ'.set i none) H', ct := fun σ' H' => D.ct (σ'.set i none) H' } g H r := by
  cases r with
  | none => exact h
  | some p =>
    obtain ⟨fl, st⟩ := p
    cases fl with
    | nx ρ => exact fun g' H' l S σ E => h g' H' l S _ (E.unset i)
    | bk ρ => exact fun g' H' l S σ E => h g' H' l S _ (E.unset i)
    | ct ρ => exact fun g' H' l S σ E => h g' H' l S _ (E.unset i)
    | rt d => exact h
    | ex n fs ρ => exact False.elim h
/-- a reading that knows R of where it begins -/
def tDSR (z : Z) (W : WX) (R : G → L2.St → Hp → Prop) (f : SS) : TS := fun D σ H => ∃ g ρ st, R g σ H ∧ Sim z.K z.T g st H ∧ EnvR z.K g σ ρ ∧ SPost z W D g H (f ρ st)
section
variable {X : Cx} {T : List (Addr × Str)} {W : WX} {x nm : Str} {CF : Addr} {i : Nat} {body suite : List Stmt} {b₀ : Stmt} {np pos pos' : Pos} {qb : SS} {caught : Str → Option Bool} {res : Str → SS} {R : G → L2.St → Hp → Prop} {m : Nat}
theorem ps_tryAsR (hs : X.stack = X.env :: X.outer) (hf : X.env.frame = some X.env.locals) (hN : X.N.Nodup) (hi : X.N[i]? = some nm) (hln : X.env.kindOf nm = some .local) (hc : Names X x (.ref CF)) (tk : Takes X W)
    (hct : ∀ n b, caught n = some b → PySem.W.exmOne X.K (clsV (zX X T) n) (.ref CF) = some b)
    (hb : ∀ (W' : WX) (pn : List (Addr × Obj)) (xe : Value → Shared → Prop), Takes (X.tr pn xe) W' → PassesOwn (model X.prog X.w) X.A X.env xe → PSs (X.tr pn xe) body (tDSR (zX X T) W' R qb))
    (h : Str → Addr → SS)
    (hsu : ∀ (n : Str) (a : Addr) (oe : Obj) (pn : List (Addr × Obj)), caught n = some true → Zc (clsV (zX X T) n) none oe → (∃ vs, oe.data = .fields vs) → PSs (X.suite a ((a, oe) :: pn)) (b₀ :: suite) (tDS (zX X T) W (h n a)))
    (hres : ∀ (n : Str) (a : Addr) (ρ : Ev) (st : Sto), caught n = some true → ρ.length = m → cleanS i (h n a (ρ.set i (some (.raw (.ref a)))) st) = res n ρ st) :
    PS X (.Try body [.ExceptHandler (some (.Name x np)) (some nm) (b₀ :: suite) pos'] [] [] pos) (tDSR (zX X T) W R (qTryAs i m caught qb res)) :=
  PS.wk (ps_try_as hs hf hN hi hln hc tk hb (ts := fun a cls d D σ H => ∃ n, caught n = some true ∧ cls = clsV (zX X T) n ∧ d = none ∧ tDS (zX X T) W (h n a) D σ H) fun a oe cls d pn hz hd =>
      ⟨fun pins s σ H D I ⟨n, hn, e1, e2, q⟩ => (hsu n a oe pn hn (by rw [← e1, ← e2]; exact hz) hd).run pins s σ H D I q⟩) fun D σ H ⟨g, ρ, st, hR, S, E, q⟩ => by
    refine ⟨g, ρ, st, hR, S, E, ?_⟩
    unfold qTryAs at q
    cases e : qb ρ st with
    | none => rw [e] at q; exact q.elim
    | some p =>
      obtain ⟨fl, st'⟩ := p
      rw [e] at q
      cases fl with
      | nx ρ' => exact q
      | rt d => exact q
      | bk ρ' => exact q
      | ct ρ' => exact q
      | ex n fs ρ' =>
        dsimp only at q
        intro g' H' l S' σ' dx E' xr
        cases ec : caught n with
        | none => rw [ec] at q; exact q.elim
        | some b =>
          rw [ec] at q
          refine ⟨b, hct n b ec, fun hb2 a na => ?_, fun hb2 => ?_⟩
          · subst hb2
            dsimp only at q
            split at q
            · rename_i hh
              obtain ⟨h1, h2⟩ := Bool.and_eq_true_iff.mp hh
              have hdx : dx = none := by
                rcases xr with ⟨_, e⟩ | ⟨_, _, _, hne, _⟩
                · exact e
                · cases fs with
                  | nil => exact absurd rfl hne
                  | cons _ _ => cases h1
              refine ⟨n, ec, rfl, hdx, g', ρ'.set i (some (.raw (.ref a))), st', S', E'.set i (.raw _), spost_clean ?_⟩
              rw [hres n a ρ' st' ec (of_decide_eq_true h2)]
              exact q.mono l
            · exact q.elim
          · subst hb2
            exact q g' H' l S' σ' dx E' xr
end
end PD
/-! PDLam: a lambda handed to a def that calls it under try. -/
namespace PD
open PySem PySem.Spec PyProof.Rows L2
/-- what a lambda's reading computes, from g0, H0 on -/
def Acts (z : Z) (g0 : G) (O : Sto → Out D) (tl : XK → Hp → VK → Prop) : Prop :=
  ∀ (E : XK) (g' : G) (H' : Hp) (st' : Sto) (Q' : VK), Ge g0 g' → Sim z.K z.T g' st' H' → Sat (O st') (VPost z Q' g' H') (fun n fs st'' => ∀ g'' H'' dx, Le g' g'' H' H'' → Sim z.K z.T g'' st'' H'' → XRep z g'' H'' fs dx → E (clsV z n) dx H'') → tl E H' Q'
/-- the def makes Fw of what the lambda computes -/
def TTw (z : Z) (Fw : (Sto → Out D) → Sto → Out D) : (XK → Hp → VK → Prop) → Hp → VK → Prop := fun tl H Q =>
  ∃ g st O, Sim z.K z.T g st H ∧ Acts z g O tl ∧ Sat (Fw O st) (VPost z Q g H) (fun _ _ _ => False)
/-- x(lambda: body) -/
def sLam (Fw : (Sto → Out D) → Sto → Out D) (fb : SE) : SE := fun ρ st => match Fw (fun st => fb ρ st) st with
  | .ok d st => .ok d st
  | _ => .bad
theorem simN {z : Z} {g : G} {st : Sto} {H H1 : Hp} (S : Sim z.K z.T g st H) (e : LamX.ExtN H H1) (t : LamX.Tabs z.T H1) : Sim z.K z.T g st H1 ∧ Le g g H H1 := by
  refine ⟨⟨fun a o h => e a o (S.sub a o h) (S.tb a o h), S.len, S.nd, fun a ha => ?_, fun l a mo h1 h2 => ?_, t, S.tb⟩, Ge.refl g, fun a o h1 h2 h3 h4 => ⟨e a o h1 h4, h2, h3⟩⟩
  · obtain ⟨o, h1, h2⟩ := S.there a ha
    exact ⟨o, e a o h1 h2, h2⟩
  · have q := S.obj l a mo h1 h2
    cases mo with
    | lst xs => obtain ⟨vs, k1, k2, k3, k4⟩ := q; exact ⟨vs, k1, e _ _ k2 (fun _ => by simp), k3, k4⟩
    | dk ks xs => obtain ⟨vs, k1, k2, k3, k4⟩ := q; exact ⟨vs, k1, e _ _ k2 (fun _ => by simp), k3, k4⟩
    | gone => trivial
theorem wk_lam {X : Cx} {T : List (Addr × Str)} {W : WX} {Fw : (Sto → Out D) → Sto → Out D} {fb : SE} {σ : L2.St} {H : Hp} {Q : VK} (h : tD (zX X T) W (sLam Fw fb) σ H Q) : LamX.tLam T (TTw (zX X T) Fw) (fun E => tD (zX X T) (fun cls d _ H => E cls d H) fb) σ H Q := by
  obtain ⟨g, ρ, st, S, E, q⟩ := h
  refine ⟨S.tabs, fun H1 eN T1 => ?_⟩
  obtain ⟨S1, L1⟩ := simN S eN T1
  refine ⟨g, st, fun st => fb ρ st, S1, fun E' g' H' st' Q' ge S' sat => ⟨g', ρ, st', S', E.mono ge, Sat.mono sat (fun _ _ q => q) fun n fs st'' q => fun g'' H'' dx l S'' x => q g'' H'' dx l S'' x⟩, ?_⟩
  unfold sLam at q
  cases e : Fw (fun st => fb ρ st) st with
  | ok d st2 =>
    rw [e] at q
    exact fun g' H' v l S' r => q g' H' v (L1.trans l) S' r
  | exc _ _ _ => rw [e] at q; exact q.elim
  | bad => rw [e] at q; exact q.elim

/-! ### the def that calls it -/
def noneEv (n : Nat) : Ev := List.replicate n none
/-- call(): its exception leaves nothing known of the names -/
def qExprW (O : Sto → Out D) : SS := fun ρ st => match O st with
  | .ok _ st' => some (.nx ρ, st')
  | .exc n fs st' => some (.ex n fs (noneEv ρ.length), st')
  | .bad => none
structure RW (g0 : G) (f c' : Addr) (q : Str) (n : Nat) (g : G) (σ : L2.St) (H : Hp) : Prop where
  ge : Ge g0 g
  at0 : σ[0]? = some (some (.ref f))
  co : H c' = some (LamX.CodeO c' q)
  len : σ.length = n
theorem takes_len {X : Cx} {W : WX} (t : Takes X W) : Takes X (fun c d σ H => σ.length = X.N.length → W c d σ H) := fun u s' ⟨a, B, sI, pins, σ, H, cls, d, e, I, nb, up, sky, na, os, ag, w⟩ =>
  t u s' ⟨a, B, sI, pins, σ, H, cls, d, e, I, nb, up, sky, na, os, ag, w I.len⟩
section
variable {Y : Cx} {T : List (Addr × Str)} {g0 : G} {f c' : Addr} {q a : Str} {O : Sto → Out D} {tl : XK → Hp → VK → Prop}
theorem ps_actR {W' : WX} {p1 p2 p3 : Pos} (acts : Acts (zX Y T) g0 O tl) (tk : Takes Y W')
    (hact : ∀ (W : WX) (E : XK), Takes Y W → (∀ cls d σ' H', E cls d H' → W cls d σ' H') → PE Y (.Call (.Name a p1) [] [] p2) (fun σZ HZ Q => σZ[0]? = some (some (.ref f)) ∧ HZ c' = some (LamX.CodeO c' q) ∧ tl E HZ Q))
    (hs : swapsWith (.Call (.Name a p1) [] [] p2) none p3.line Y.env = pure false := by rfl) :
    PS Y (.Expr (.Call (.Name a p1) [] [] p2) p3) (tDSR (zX Y T) W' (RW g0 f c' q Y.N.length) (qExprW O)) := by
  have hp := hact (fun c d σ H => σ.length = Y.N.length → W' c d σ H) (fun cls d H' => ∀ σ', σ'.length = Y.N.length → W' cls d σ' H') (takes_len tk) (fun cls d σ' H' h hl => h σ' hl)
  refine PS.wk (ps_expr hp hs) fun D σ H ⟨g, ρ, st, r, S, E, qq⟩ => ?_
  refine ⟨r.at0, r.co, acts _ g H st _ r.ge S ?_⟩
  unfold qExprW at qq
  cases e : O st with
  | ok d st' =>
    rw [e] at qq
    exact fun g' H' v l S' rv => qq g' H' l S' σ (E.mono l.ge)
  | exc n fs st' =>
    rw [e] at qq
    refine fun g'' H'' dx l S'' xr σ' hl => qq g'' H'' l S'' σ' dx ⟨?_, fun i d h => ?_⟩ xr
    · rw [hl, ← r.len, E.len]
      simp [noneEv]
    · unfold noneEv at h
      rw [List.getElem?_replicate] at h
      split at h <;> cases h
  | bad => rw [e] at qq; exact qq.elim
theorem qsR_cons {W : WX} {R : G → L2.St → Hp → Prop} {sa : Stmt} {ss : List Stmt} {qa qb : SS} (h1 : PS Y sa (tDSR (zX Y T) W R qa)) (h2 : PSs Y ss (tDS (zX Y T) W qb)) : PSs Y (sa :: ss) (tDSR (zX Y T) W R (qSeq qa qb)) :=
  PSs.wk (pss_cons h1 h2) fun D σ H ⟨g, ρ, st, r, S, E, q⟩ => by
    refine ⟨g, ρ, st, r, S, E, ?_⟩
    unfold qSeq at q
    cases e : qa ρ st with
    | none => rw [e] at q; exact q.elim
    | some p =>
      obtain ⟨fl, st'⟩ := p
      rw [e] at q
      cases fl with
      | nx ρ' => exact fun g' H' l S' σ' E' => ⟨g', ρ', st', S', E', q.mono l⟩
      | rt d => exact q
      | bk ρ' => exact q
      | ct ρ' => exact q
      | ex n fs ρ' => exact q
theorem psR_set {W : WX} {n i : Nat} {x m : Str} {j : Nat} {pos pos' pe : Pos} {ss : List Stmt} {qb : SS} (hN : Y.N.Nodup) (hi : Y.N[i]? = some x) (hx : Loc Y.env.scope x) (h0 : i ≠ 0) (h2 : PSs Y ss (tDSR (zX Y T) W (RW g0 f c' q n) qb)) (hs : swapsWith (.Constant (.str m) j pe) (some (.Name x pos')) pos.line Y.env = pure false := by rfl) (hf : Y.fn x = true ∨ Y.env.scope.names.lookup x = some .local := by first | exact .inl rfl | exact .inr rfl | assumption) :
    PSs Y (.Assign [.Name x pos'] (.Constant (.str m) j pe) pos :: ss) (tDSR (zX Y T) W (RW g0 f c' q n) (qSeq (qSet i (sC (.str m))) qb)) :=
  PSs.wk (pss_cons (ps_set hN hi hx pe_str hs hf) h2) fun D σ H ⟨g, ρ, st, r, S, E, q⟩ =>
    ⟨g, ρ.set i (some (.str m)), st, ⟨r.ge, by rw [List.getElem?_set_ne h0]; exact r.at0, r.co, by rw [List.length_set]; exact r.len⟩, S, E.set i (.str m), q⟩
end

theorem none_env {K : PySem.W.Frag} {g : G} {σ : L2.St} {n : Nat} (h : σ.length = n) : EnvR K g σ (noneEv n) := ⟨by rw [h]; simp [noneEv], fun i d e => by
  unfold noneEv at e
  rw [List.getElem?_replicate] at e
  split at e <;> cases e⟩
theorem gives_of {X : Cx} {T : List (Addr × Str)} {Ng : List Str} {x a q : Str} {sg : Scope} {g : Addr} {cdg : Value} {bg : List Stmt} {bW : (Sto → Out D) → SS} (hN : 0 < Ng.length)
    (hw : ∀ (f c' : Addr) (s : Shared) (H : Hp) (g0 : G) (O : Sto → Out D) (tl : XK → Hp → VK → Prop), Acts (zX X T) g0 O tl →
      (∀ (W : WX) (pn : List (Addr × Obj)) (xe : Value → Shared → Prop) (E : XK) (p1 p2 : Pos), Takes ((cxOf C8.CX0 X.prog X.w X.K X.mg X.base Ng x sg g cdg X.A X.stack s H C8.E0).tr pn xe) W → (∀ cls d σ' H', E cls d H' → W cls d σ' H') →
        PE ((cxOf C8.CX0 X.prog X.w X.K X.mg X.base Ng x sg g cdg X.A X.stack s H C8.E0).tr pn xe) (.Call (.Name a p1) [] [] p2) (fun σZ HZ Q => σZ[0]? = some (some (.ref f)) ∧ HZ c' = some (LamX.CodeO c' q) ∧ tl E HZ Q)) →
      PSs (cxOf C8.CX0 X.prog X.w X.K X.mg X.base Ng x sg g cdg X.A X.stack s H C8.E0).nox bg (tDSR (zX X T) W0 (RW g0 f c' q Ng.length) (bW O))) :
    LamX.GivesTo X Ng x sg g cdg bg a q (TTw (zX X T) fun O st => endRaw (bW O (noneEv Ng.length) st)) := by
  intro f c' s H Q tl act hc h
  obtain ⟨g0, st, O, S, acts, sat⟩ := h
  have hs : (L2.start Ng [V.ref f]).length = Ng.length := by
    unfold L2.start
    simp
    omega
  refine ⟨_, hw f c' s H g0 O tl acts act, g0, noneEv Ng.length, st, ⟨Ge.refl g0, by unfold L2.start; simp, hc, hs⟩, S, none_env hs, ?_⟩
  dsimp only at sat
  cases e : bW O (noneEv Ng.length) st with
  | none => rw [e] at sat; exact sat.elim
  | some p =>
    obtain ⟨fl, st'⟩ := p
    rw [e] at sat
    cases fl with
    | nx ρ => exact fun g' H' l S' σ E => sat g' H' .non l S' .non
    | rt d => exact fun g' H' l S' v r => sat g' H' v l S' r
    | bk ρ => exact sat.elim
    | ct ρ => exact sat.elim
    | ex n fs ρ => exact sat.elim
section
variable {X : Cx}
/-- x(lambda: body) -/
theorem pd_lam {T : List (Addr × Str)} {W : WX} {Fw : (Sto → Out D) → Sto → Out D} {fb : SE} {x a : Str} {g c P : Addr} {k : Nat} {pg : Arguments} {bg : List Stmt} {sg : Scope} {dV kV doc pm cdv ct oc : Value} {an od : Option Addr} {osl : Array (Option Value)} {Ng : List Str}
    {params : Arguments} {body : Expr} {scope : Scope} {p lpos pos : Pos} (hg : Gl X x) (hm : X.mg x = some (.ref g)) (hk : PySem.W.keepIn X.K (.ref g) = true)
    (lk : X.K.lookup g = some ⟨oc, od, .func (PySem.W.fnOf x x pg bg sg dV kV doc pm an cdv ct), osl⟩) (hcg : PySem.W.codeIn X.K cdv x = true) (hb : L2.Binds X.K (PySem.W.fnOf x x pg bg sg dV kV doc pm an cdv ct) [a] []) (Sg : FnScope Ng [a] sg) (hNg : Ng[0]? = some a) (hva : Vis sg a)
    (hG : LamX.GivesTo X Ng x sg g cdv bg a (X.env.qual ++ "<lambda>") (TTw (zX X T) Fw))
    (TB : LamX.TabB X.base X.mg c P) (hcode : X.env.code = .ref c) (hmT : (P, X.env.qual ++ "<lambda>") ∈ T) (hu : ∀ p ∈ T, p.1 = P → p.2 = X.env.qual ++ "<lambda>") (hr : Room (k + 2) X.A) (L : LamX.LamS X.env.scope scope) (hdef : defaultsOf params X.env = ([], []))
    (hbind : ∀ (q : Str) (cl : List (Str × Addr)) (pm cv ctv : Value), bindArgs (PySem.W.kla_fn "<lambda>" q params body scope cl pm cv ctv) ⟨[], []⟩ = pure [])
    (hbody : ∀ (A : Around) (outer : List Env) (s : Shared) (H : Hp) (E : XK) (f c' : Addr), Room k (A.deeper (LamX.lamEnv X scope s.heap.objs.size f c')) → PE (LamX.lamCx X A outer s H E scope f c') body (tD (zX X T) (fun cls d _ H => E cls d H) fb))
    (hdb : (x == ("__debug__" : Str)) = false := by decide) (hd : (a == ("__debug__" : Str)) = false := by decide) (hcd : (a == ("__classdict__" : Str)) = false := by decide) :
    PE X (.Call (.Name x p) [.Lambda params body scope lpos] [] pos) (tD (zX X T) W (sLam Fw fb)) :=
  PE.wk (LamX.pe_lamcall (t := fun E => tD (zX X T) (fun cls d _ H => E cls d H) fb) hg hm hk lk hcg hb Sg hNg hva hG TB hcode hmT hu hr L hdef hbind hbody hdb hd hcd) fun σ H Q h => wk_lam h
/-- the same, of a def at the top -/
theorem pd_lamF {T : List (Addr × Str)} {W : WX} {Fw : (Sto → Out D) → Sto → Out D} {fb : SE} {x a : Str} {g c P : Addr} {fd : FuncData} {k : Nat} {st : Stmt} {Ng : List Str} {params : Arguments} {body : Expr} {scope : Scope} {p lpos pos : Pos}
    (F : Fun X.K x x st g fd) (hb : L2.Binds X.K fd [a] []) (Sg : FnScope Ng [a] (defScope st)) (hm : X.mg x = some (.ref g))
    (hG : ∀ cdv, LamX.GivesTo X Ng x (defScope st) g cdv (defBody st) a (X.env.qual ++ "<lambda>") (TTw (zX X T) Fw)) (hg : Gl X x) (hNg : Ng[0]? = some a) (hva : Vis (defScope st) a)
    (TB : LamX.TabB X.base X.mg c P) (hcode : X.env.code = .ref c) (hmT : (P, X.env.qual ++ "<lambda>") ∈ T) (hu : ∀ p ∈ T, p.1 = P → p.2 = X.env.qual ++ "<lambda>") (hr : Room (k + 2) X.A) (L : LamX.LamS X.env.scope scope)
    (hbody : ∀ (A : Around) (outer : List Env) (s : Shared) (H : Hp) (E : XK) (f c' : Addr), Room k (A.deeper (LamX.lamEnv X scope s.heap.objs.size f c')) → PE (LamX.lamCx X A outer s H E scope f c') body (tD (zX X T) (fun cls d _ H => E cls d H) fb))
    (hdef : defaultsOf params X.env = ([], []) := by rfl) (hbind : ∀ (q : Str) (cl : List (Str × Addr)) (pm cv ctv : Value), bindArgs (PySem.W.kla_fn "<lambda>" q params body scope cl pm cv ctv) ⟨[], []⟩ = pure [] := by intros; rfl)
    (hdb : (x == ("__debug__" : Str)) = false := by decide) (hd : (a == ("__debug__" : Str)) = false := by decide) (hcd : (a == ("__classdict__" : Str)) = false := by decide) :
    PE X (.Call (.Name x p) [.Lambda params body scope lpos] [] pos) (tD (zX X T) W (sLam Fw fb)) := by
  obtain ⟨oc, od, kV, doc, pm, an, cdv, ct, osl, rfl, lk, hcg⟩ := F.ex
  exact pd_lam hg hm F.kp lk hcg hb Sg hNg hva (hG cdv) TB hcode hmT hu hr L hdef hbind hbody hdb hd hcd
end

/-! ### defs, their code object told -/
section
variable {P : Program} {w : World} {K : PySem.W.Frag} {mg : Str → Option Value} {base : Heap} {T : List (Addr × Str)} {qb : SS} {x : Str}
theorem def_rawC {qual : Str} {st : Stmt} {f : Addr} {fd : FuncData} {N ps : List Str} {k : Nat} (F : Fun K x qual st f fd) (S : FnScope N ps (defScope st))
    (hb : ∀ (cdv : Value), fd.code = cdv → ∀ (A : Around) (outer : List Env) (s : Shared) (H : Hp) (E : XK), Room k (A.deeper (envOfC qual (defScope st) s.heap.objs.size f cdv)) →
      PSs (cxOf (L2.CX P w) P w K mg base N qual (defScope st) f cdv A outer s H E) (defBody st) (tDS ⟨K, T, mg⟩ (fun cls d _ H => E cls d H) qb)) :
    FnOk P w K mg base (L2.CX P w) (k + 1) f fd ps (spD ⟨K, T, mg⟩ ps.length (defRaw N.length qb)) := by
  obtain ⟨oc, od, kV, doc, pm, an, cdv, ct, osl, rfl, lk, hcd⟩ := F.ex
  refine fn_of lk hcd S (fun vs H Q E h => h.1) fun A outer s H vs Q E hr h => ⟨_, hb cdv rfl A outer s H E hr, ?_⟩
  obtain ⟨hl, g, ds, st0, S0, R, q⟩ := h
  refine ⟨g, startD N.length ds, st0, S0, start_env R, ?_⟩
  unfold defRaw at q
  cases hr2 : qb (startD N.length ds) st0 with
  | none => rw [hr2] at q; exact q.elim
  | some r =>
    obtain ⟨fl, st'⟩ := r
    rw [hr2] at q
    cases fl with
    | rt d => exact fun g' H' L S' v r => q g' H' v L S' r
    | nx ρ => exact fun g' H' L S' σ E => q g' H' .non L S' .non
    | ex n fs ρ => exact fun g' H' L S' σ dx E x => q g' H' dx L S' x
    | _ => exact q.elim
theorem def_finC {qual : Str} {st : Stmt} {f : Addr} {fd : FuncData} {N ps : List Str} {k : Nat} (F : Fun K x qual st f fd) (S : FnScope N ps (defScope st))
    (hb : ∀ (cdv : Value), fd.code = cdv → ∀ (A : Around) (outer : List Env) (s : Shared) (H : Hp) (E : XK), Room k (A.deeper (envOfC qual (defScope st) s.heap.objs.size f cdv)) →
      PSs (cxOf (L2.CX P w) P w K mg base N qual (defScope st) f cdv A outer s H E) (defBody st) (tDS ⟨K, T, mg⟩ (fun cls d _ H => E cls d H) qb)) :
    FnOk P w K mg base (L2.CX P w) (k + 1) f fd ps (spD ⟨K, T, mg⟩ ps.length (defFin N.length qb)) := fin_of_raw (def_rawC F S hb)
end
theorem hu_suite {X : Cx} {N : List Str} {x : Str} {sc : Scope} {g : Addr} {cdg : Value} {s : Shared} {H : Hp} {a : Addr} {pn : List (Addr × Obj)} (hu : X.A.units + 100 < cLine) : ((cxOf C8.CX0 X.prog X.w X.K X.mg X.base N x sc g cdg X.A X.stack s H C8.E0).nox.suite a pn).A.units + 65 < cLine := by
  show X.A.units + 3 + 65 < cLine
  omega
end PD
/-! PDRep: a tuple times a number. -/
namespace PD
open PySem PySem.Spec PyProof.Rows L2
open PySem.AutoSeq1 (wpAny_loadPart')
open PySem.MeetsSeq PySem.MeetsSeq2 PySem.MeetsSeq3
theorem tuple_mul1 (l : Addr) (items : Array Value) (n : Nat) (dd : Option Addr) (sl : Array (Option Value)) (u : Tok) :
    Meets (Builtin.«tuple.__mul__» ⟨[.ref l, .int 1 u], []⟩) (fun _ R s => s.heap.get? l = some { cls := .type "tuple", dict := dd, data := .seq items n, slots := sl } ∧ R (.ok (.ret (Value.ref l))) s) :=
  .of_wp fun prog w A R s h => by
    obtain ⟨hp, g, d, tk, os⟩ := s
    obtain ⟨hl, h⟩ := h
    have f1 := AutoSeq1.idx_int
    wp_walk using wpAny_loadPart' hl
    exact ⟨_, rfl, h⟩
def rRepT1 (K : PySem.W.Frag) : R2 := fun x y H Q => ∃ l xs, x = .ref l ∧ y = .int 1 ∧ SqT K H l xs ∧ Q (.ref l) H
theorem op_repT1 {X : Cx} : OpR X (binaryOp .Mult) (rRepT1 X.K) := by
  intro pins s σ H x y v u Q I rx ry h
  obtain ⟨l, xs, rfl, rfl, hT, q⟩ := h
  cases rx
  obtain ⟨t, rfl⟩ := ry
  obtain ⟨its, r, ⟨⟨cls, dd, data, sl⟩, ho, hc, n, hd⟩, hs⟩ := I.tuple hT
  simp only at hc hd
  subst hc hd
  refine wpAny_binaryOp_repeat_ref (T := "tuple") (U := "int") (by decide) ⟨_, ho, rfl⟩ (fun s' => typeIs_int s' 1 t) L2.noFill_tuple_mul PySem.F.fills_int_mul PySem.F.slot_int_rmul L2.repeat_tuple PySem.F.slot_int_index.lookup
    (call_meets PySem.F.slot_int_rmul (typeIs_int s 1 t) PySem.F.entry_int_rmul (PySem.F.args_int_rmul_2 _ _) (L2.int_rmul_tuple 1 t l its.toArray n dd sl)
      ⟨ho, rfl, ⟨_, ho, rfl⟩, call_meets PySem.F.slot_tuple_mul ⟨_, ho, rfl⟩ PySem.F.entry_tuple_mul (PySem.F.args_tuple_mul_2 _ _) (tuple_mul1 l its.toArray n dd sl t) ⟨ho, ?_⟩⟩)
  exact ⟨.ref l, H, I, rfl, q⟩
def fRepT (x y : D) (st : Sto) : Out D := match x, y with
  | .tup xs, .int k => if 1 ≤ k ∧ k ≤ 1000 ∧ 0 < xs.length ∧ xs.length ≤ 1000 then .ok (.tup (repL xs k.toNat)) st else .bad
  | _, _ => .bad
theorem pd_repT {X : Cx} {T : List (Addr × Str)} {W : WX} {a b : Expr} {fa fb : SE} {pos : Pos} (ha : PE X a (tD (zX X T) W fa)) (hb : PE X b (tD (zX X T) W fb)) : PE X (.BinOp a .Mult b pos) (tD (zX X T) W (s2 fRepT fa fb)) := pd_op (op_repT1.or op_repN) (by
  intro W σ g st H dx dy x y Q S rx ry h
  unfold fRepT at h
  split at h
  · rename_i xs k
    split at h
    · rename_i hz
      obtain ⟨h1, h2, h3, h4⟩ := hz
      cases ry
      obtain ⟨a, vs, rfl, k1, k2, k3⟩ := S.tup rx
      have e1 := k3.length
      by_cases e : k = 1
      · subst e
        refine .inl ⟨a, vs, rfl, rfl, k1, ?_⟩
        have er : repL xs (1 : Int).toNat = xs := by simp [repL]
        rw [er] at h
        exact h g H _ (Le.refl g H) S rx
      · refine .inr ⟨a, k, vs, rfl, rfl, k1, fun q => by rw [q] at e1; rw [List.length_nil] at e1; omega, by omega, h2, by omega, fun p o hp ho => ?_⟩
        obtain ⟨S', L'⟩ := S.allocB (o := .frz o (.tup (List.replicate k.toNat vs).flatten)) hp (fun _ => by simp)
        refine h _ _ _ L' S' (.tup (SqN.of ho) ?_ ((k3.replicate _).mono L'.ge))
        have : ((List.replicate k.toNat vs).flatten).length = k.toNat * vs.length := by simp [List.length_flatten]
        rw [this, sizeLine_eq]
        have a1 : k.toNat * vs.length ≤ 1000 * 1000 := Nat.mul_le_mul (by omega) (by omega)
        omega
    · exact h.elim
  · exact h.elim) ha hb
end PD
/-! PDSub: targets that are items: (o[i], p[j]) = .. -/
namespace PD
open PySem PySem.Spec PyProof.Rows L2
abbrev TgS := D → SS
def uN (i : Nat) : TgS := fun d ρ st => some (.nx (ρ.set i (some d)), st)
def uIx (o i : SE) : TgS := fun v ρ st => (o ρ st).st ρ fun x st => (i ρ st).st ρ fun y st => match fSetIx x y v st with
  | some st => some (.nx ρ, st)
  | none => none
/-- one target after another -/
def uSeq (a : Option (Fl × Sto)) (b : SS) : Option (Fl × Sto) := match a with
  | some (.nx ρ, st) => b ρ st
  | some (.ex n fs ρ, st) => some (.ex n fs ρ, st)
  | _ => none
def uT2 (a b : TgS) : TgS := fun d ρ st => match d with
  | .tup [x, y] => uSeq (a x ρ st) (b y)
  | _ => none
def qAsgS (u : TgS) (e : SE) : SS := fun ρ st => (e ρ st).st ρ fun d st => u d ρ st
@[simp] theorem uN_e (i : Nat) (d : D) (ρ : Ev) (st : Sto) : uN i d ρ st = some (.nx (ρ.set i (some d)), st) := id rfl
@[simp] theorem uIx_e (o i : SE) (v : D) (ρ : Ev) (st : Sto) : uIx o i v ρ st = (o ρ st).st ρ fun x st => (i ρ st).st ρ fun y st => match fSetIx x y v st with
  | some st => some (.nx ρ, st)
  | none => none := id rfl
@[simp] theorem uT2_e (a b : TgS) (x y : D) (ρ : Ev) (st : Sto) : uT2 a b (.tup [x, y]) ρ st = uSeq (a x ρ st) (b y) := id rfl
@[simp] theorem uSeq_nx (b : SS) (ρ : Ev) (st : Sto) : uSeq (some (.nx ρ, st)) b = b ρ st := id rfl
@[simp] theorem qAsgS_e (u : TgS) (e : SE) (ρ : Ev) (st : Sto) : qAsgS u e ρ st = (e ρ st).st ρ fun d st => u d ρ st := id rfl
section
variable {X : Cx} {T : List (Addr × Str)} {W : WX}
/-- a target does what u says -/
def UOk (X : Cx) (T : List (Addr × Str)) (W : WX) (t : TG) (u : TgS) : Prop := ∀ (Dd : Ends) (g : G) (st : Sto) (σ : L2.St) (ρ : Ev) (H : Hp) (d : D) (v : V), Sim X.K T g st H → Rep X.K g d v → EnvR X.K g σ ρ → SPost (zX X T) W Dd g H (u d ρ st) → t v σ H Dd.nx
theorem u_name (i : Nat) : UOk X T W (gName i) (uN i) := fun Dd g st σ ρ H d v S r E q => q g H (Le.refl g H) S _ (E.set i r)
theorem u_sub {fo fx : SE} : UOk X T W (gSub (tD (zX X T) W fo) (tD (zX X T) W fx) rSetL) (uIx fo fx) := fun Dd g st σ ρ H d v S r E q => by
  refine ⟨g, ρ, st, S, E, Sat.mono (st_sat E q) (fun d2 st2 q2 g2 H2 v2 L2 S2 r2 => ?_) fun _ _ _ q => q⟩
  refine ⟨g2, ρ, st2, S2, E.mono L2.ge, Sat.mono (st_sat E q2) (fun d3 st3 q3 g3 H3 v3 L3 S3 r3 => ?_) fun _ _ _ q => q.mono L2⟩
  have L := L2.trans L3
  cases hf : fSetIx d2 d3 d st3 with
  | none => rw [hf] at q3; exact q3.elim
  | some st4 =>
    rw [hf] at q3
    unfold fSetIx at hf
    split at hf
    · rename_i l k
      split at hf
      · rename_i xs hs3
        split at hf
        · rename_i j hj
          cases hf
          cases r2 with
          | ref hl =>
            rename_i a
            cases r3
            have hl3 := L3.ge.i _ _ hl
            obtain ⟨ws, h1, h2, h3, h4⟩ := S3.obj _ a _ hl3 hs3
            refine ⟨a, ws, k, j, rfl, rfl, h2, by rw [← h4.length, ix_eq]; exact hj, ?_⟩
            obtain ⟨S4, L4⟩ := S3.write (vs' := ws.set j v) hl3 hs3 (by rw [List.length_set]; exact h3) (Reps.set (r.mono L.ge) j h4)
            exact q3 g3 _ (L.trans L4) S4 σ (E.mono (L.trans L4).ge)
        · cases hf
      · cases hf
    · cases hf
theorem u_two {t1 t2 : TG} {u1 u2 : TgS} (h1 : UOk X T W t1 u1) (h2 : UOk X T W t2 u2) : UOk X T W (gTup X.K 2 (gCons t1 (gCons t2 gNil))) (uT2 u1 u2) := fun Dd g st σ ρ H d v S r E q => by
  unfold uT2 at q
  split at q
  · rename_i x y
    obtain ⟨a, vs, rfl, q1, q2, q3⟩ := S.tup r
    cases q3 with
    | cons r1 q3 => cases q3 with
      | cons r2 q3 =>
        cases q3
        rename_i v1 v2
        refine ⟨a, [_, _], rfl, q1, rfl, _, [_], rfl, ?_⟩
        refine h1 { Dd with nx := fun σ' H' => gCons t2 gNil [v2] σ' H' Dd.nx } g st σ ρ H x v1 S r1 E ?_
        cases e : u1 x ρ st with
        | none => rw [e] at q; exact q
        | some p =>
          obtain ⟨fl, st1⟩ := p
          rw [e] at q
          cases fl with
          | nx ρ1 =>
            refine fun g' H' L S' σ' E' => ⟨v2, [], rfl, ?_⟩
            refine h2 { Dd with nx := fun σ' H' => gNil [] σ' H' Dd.nx } g' st1 σ' ρ1 H' y v2 S' (r2.mono L.ge) E' ?_
            have q' : SPost (zX X T) W Dd g' H' (u2 y ρ1 st1) := SPost.mono L q
            cases e2 : u2 y ρ1 st1 with
            | none => rw [e2] at q'; exact q'
            | some p =>
              obtain ⟨fl, st2⟩ := p
              rw [e2] at q'
              cases fl with
              | nx ρ2 => exact fun g2 H2 L2 S2 σ2 E2 => ⟨rfl, q' g2 H2 L2 S2 σ2 E2⟩
              | rt d => exact q'
              | bk ρ2 => exact q'
              | ct ρ2 => exact q'
              | ex n fs ρ2 => exact q'
          | ex n fs ρ1 => exact q
          | rt d => exact q.elim
          | bk ρ1 => exact q.elim
          | ct ρ1 => exact q.elim
  · exact q.elim
variable {tg e : Expr} {fe : SE} {pos : Pos}
theorem ps_asgS {t : TG} {u : TgS} (ht : UOk X T W t u) (he : PE X e (tD (zX X T) W fe)) (hg : PG X tg t) (hs : swapsWithSole [tg] e pos.line X.env = pure false := by rfl) (hw : swappedStores [tg] e X.env = pure none := by rfl)
    (h1 : (assignEach [tg] X.env).map (·.2) = [assign tg X.env] := by rfl) : PS X (.Assign [tg] e pos) (tDS (zX X T) W (qAsgS u fe)) :=
  PS.wk (ps_asg he hg hs hw h1) fun D σ H ⟨g, ρ, st, S, E, q⟩ => ⟨g, ρ, st, S, E, Sat.mono (st_sat E q) (fun d st1 q1 g1 H1 v L1 S1 r1 =>
    ht D g1 st1 σ ρ H1 d v S1 r1 (E.mono L1.ge) (SPost.mono L1 q1)) fun _ _ _ q => q⟩
theorem pg_subD {o i : Expr} {fo fx : SE} {pos' : Pos} (ho : PE X o (tD (zX X T) W fo)) (hi : PE X i (tD (zX X T) W fx))
    (ha : ∀ v, assign (.Subscript o i pos') X.env v = (do
      let ov ← holding [v] (eval o X.env)
      let iv ← holding [v, ov] (eval i X.env)
      standAt pos'
      holding [v, ov, iv] (setItem ov iv v)
      release [v, ov, iv] []) := by intro _; rfl) : PG X (.Subscript o i pos') (gSub (tD (zX X T) W fo) (tD (zX X T) W fx) rSetL) := pg_sub ho hi set_list ha
end
end PD
/-! PDEval: how the plain semantics computes. -/
namespace PD
open PySem PySem.Spec PyProof.Rows L2

/-! ### unfolding -/
@[simp] theorem sVar_e (i : Nat) (ρ : Ev) (st : Sto) : sVar i ρ st = match ρ[i]? with | some (some d) => .ok d st | _ => .bad := id rfl
@[simp] theorem sC_e (d : D) (ρ : Ev) (st : Sto) : sC d ρ st = .ok d st := id rfl
@[simp] theorem s2_e (f : D → D → Sto → Out D) (a b : SE) (ρ : Ev) (st : Sto) : s2 f a b ρ st = (a ρ st).bind fun x st => (b ρ st).bind fun y st => f x y st := id rfl
@[simp] theorem s1_e (f : D → Sto → Out D) (a : SE) (ρ : Ev) (st : Sto) : s1 f a ρ st = (a ρ st).bind fun x st => f x st := id rfl
@[simp] theorem tTru_e (e : SE) (ρ : Ev) (st : Sto) : tTru e ρ st = (e ρ st).bind fun d st => match truD st d with | some b => .ok b st | none => .bad := id rfl
@[simp] theorem tBl_e (e : SE) (ρ : Ev) (st : Sto) : tBl e ρ st = (e ρ st).bind fun d st => match d with | .bl b => .ok b st | _ => .bad := id rfl
@[simp] theorem tAndD_e (a b : ST) (ρ : Ev) (st : Sto) : tAndD a b ρ st = (a ρ st).bind fun c st => if c = true then b ρ st else .ok false st := id rfl
@[simp] theorem tOrD_e (a b : ST) (ρ : Ev) (st : Sto) : tOrD a b ρ st = (a ρ st).bind fun c st => if c = true then .ok true st else b ρ st := id rfl
@[simp] theorem tNotD_e (a : ST) (ρ : Ev) (st : Sto) : tNotD a ρ st = (a ρ st).bind fun c st => .ok (!c) st := id rfl
@[simp] theorem tYesD_e (ρ : Ev) (st : Sto) : tYesD ρ st = .ok true st := id rfl
@[simp] theorem sAnd_e (a b : SE) (ρ : Ev) (st : Sto) : sAnd a b ρ st = (a ρ st).bind fun x st => match x with | .bl c => if c = true then b ρ st else .ok (.bl false) st | _ => .bad := id rfl
@[simp] theorem sOr_e (a b : SE) (ρ : Ev) (st : Sto) : sOr a b ρ st = (a ρ st).bind fun x st => match x with | .bl c => if c = true then .ok (.bl true) st else b ρ st | _ => .bad := id rfl
@[simp] theorem sNotV_e (a : SE) (ρ : Ev) (st : Sto) : sNotV a ρ st = (a ρ st).bind fun d st => match d with | .bl c => .ok (.bl (!c)) st | _ => .bad := id rfl
@[simp] theorem sIf_e (t : ST) (a b : SE) (ρ : Ev) (st : Sto) : sIf t a b ρ st = (t ρ st).bind fun c st => if c = true then a ρ st else b ρ st := id rfl
@[simp] theorem sChain_e (f g : D → D → Sto → Out D) (a b c : SE) (ρ : Ev) (st : Sto) : sChain f g a b c ρ st = (a ρ st).bind fun x st => (b ρ st).bind fun y st => (f x y st).bind fun z st => match z with
  | .bl k => if k = true then (c ρ st).bind fun w st => g y w st else .ok (.bl false) st
  | _ => .bad := id rfl
@[simp] theorem aNil_e (ρ : Ev) (st : Sto) : aNil ρ st = .ok [] st := id rfl
@[simp] theorem aCons_e (e : SE) (r : SA) (ρ : Ev) (st : Sto) : aCons e r ρ st = (e ρ st).bind fun x st => (r ρ st).bind fun xs st => .ok (x :: xs) st := id rfl
@[simp] theorem sTup_e (a : SA) (ρ : Ev) (st : Sto) : sTup a ρ st = (a ρ st).bind fun xs st => if xs.length ≤ sizeLine then .ok (.tup xs) st else .bad := id rfl
@[simp] theorem sLst_e (m : Bool) (a : SA) (ρ : Ev) (st : Sto) : sLst m a ρ st = (a ρ st).bind fun xs st => if xs.length ≤ sizeLine then newL m xs st else .bad := id rfl
@[simp] theorem sCall_e (n : Nat) (F : List D → Sto → Out D) (a : SA) (ρ : Ev) (st : Sto) : sCall n F a ρ st = (a ρ st).bind fun xs st => if xs.length = n then F xs st else .bad := id rfl
@[simp] theorem sB_e (F : List D → Sto → Out D) (a : SA) (ρ : Ev) (st : Sto) : sB F a ρ st = (a ρ st).bind fun xs st => F xs st := id rfl
@[simp] theorem sIsI_e (t : TyN) (e : SE) (ρ : Ev) (st : Sto) : sIsI t e ρ st = (e ρ st).bind fun d st => match isTy t d with | some b => .ok (.bl b) st | none => .bad := id rfl
@[simp] theorem oInt_e (e : SE) (ρ : Ev) (st : Sto) : oInt e ρ st = (e ρ st).bind fun d st => match d with | .int i => .ok (some i) st | _ => .bad := id rfl
@[simp] theorem oNone_e (ρ : Ev) (st : Sto) : oNone ρ st = .ok none st := id rfl
@[simp] theorem sM_e (f : D → D → Sto → Out D) (o e : SE) (ρ : Ev) (st : Sto) : sM f o e ρ st = (o ρ st).bind fun x st => match litems st x with | some _ => (e ρ st).bind fun y st => f x y st | none => .bad := id rfl
@[simp] theorem iSeq_e (e : SE) (ρ : Ev) (st : Sto) : iSeq e ρ st = (e ρ st).bind fun x st => match items st x with | some xs => .ok (xs, dynOf x) st | none => .bad := id rfl
@[simp] theorem iRange1_e (a : SA) (ρ : Ev) (st : Sto) : iRange1 a ρ st = (a ρ st).bind fun xs st => match xs with
  | [.int j] => if -1000000 ≤ j ∧ j ≤ 1000000 then .ok (rangeL 0 j.toNat, none) st else .bad
  | _ => .bad := id rfl
@[simp] theorem iRange2_e (a : SA) (ρ : Ev) (st : Sto) : iRange2 a ρ st = (a ρ st).bind fun xs st => match xs with
  | [.int i, .int j] => if -1000000 ≤ i ∧ i ≤ 1000000 ∧ -1000000 ≤ j ∧ j ≤ 1000000 then .ok (rangeL i (j - i).toNat, none) st else .bad
  | _ => .bad := id rfl
@[simp] theorem iZip_e (a : SA) (ρ : Ev) (st : Sto) : iZip a ρ st = (a ρ st).bind fun xs st => match xs with
  | [.tup xs, .tup ys] => .ok (zipD xs ys, none) st
  | [.lst xs, .lst ys] => .ok (zipD xs ys, none) st
  | _ => .bad := id rfl
@[simp] theorem iEnum_e (a : SA) (ρ : Ev) (st : Sto) : iEnum a ρ st = (a ρ st).bind fun xs st => match xs with
  | [.tup xs] => .ok (enumFromD 0 xs, none) st
  | [.lst xs] => .ok (enumFromD 0 xs, none) st
  | [.ref l] => (match st[l]? with | some (.lst xs) => .ok (enumFromD 0 xs, some (.inr l)) st | _ => .bad)
  | _ => .bad := id rfl
@[simp] theorem gN_e (i : Nat) (d : D) (ρ : Ev) : gN i d ρ = some (ρ.set i (some d)) := id rfl
@[simp] theorem gT2_e (a b : TgD) (x y : D) (ρ : Ev) : gT2 a b (.tup [x, y]) ρ = (a x ρ).bind fun ρ => b y ρ := id rfl
@[simp] theorem gT2_p (a b : TgD) (x y : D) (ρ : Ev) : gT2 a b (.tpl [x, y]) ρ = (a x ρ).bind fun ρ => b y ρ := id rfl
@[simp] theorem gT3_e (a b c : TgD) (x y z : D) (ρ : Ev) : gT3 a b c (.tup [x, y, z]) ρ = (a x ρ).bind fun ρ => (b y ρ).bind fun ρ => c z ρ := id rfl
@[simp] theorem wipe_nil (ρ : Ev) : wipeD ρ [] = ρ := id rfl
@[simp] theorem wipe_cons (ρ : Ev) (v : Nat) (vs : List Nat) : wipeD ρ (v :: vs) = (wipeD ρ vs).set v none := id rfl
@[simp] theorem qNext_e (ρ : Ev) (st : Sto) : qNext ρ st = some (.nx ρ, st) := id rfl
@[simp] theorem qSet_e (i : Nat) (e : SE) (ρ : Ev) (st : Sto) : qSet i e ρ st = (e ρ st).st ρ fun d st => some (.nx (ρ.set i (some d)), st) := id rfl
@[simp] theorem qPar_e (i j : Nat) (a : SA) (ρ : Ev) (st : Sto) : qPar i j a ρ st = (a ρ st).st ρ fun ds st => match ds with
  | [x, y] => some (.nx ((ρ.set i (some x)).set j (some y)), st)
  | _ => none := id rfl
@[simp] theorem qAsg_e (g : TgD) (e : SE) (ρ : Ev) (st : Sto) : qAsg g e ρ st = (e ρ st).st ρ fun d st => match g d ρ with
  | some ρ' => some (.nx ρ', st)
  | none => none := id rfl
@[simp] theorem qExpr_e (e : SE) (ρ : Ev) (st : Sto) : qExpr e ρ st = (e ρ st).st ρ fun _ st => some (.nx ρ, st) := id rfl
@[simp] theorem qRet_e (e : SE) (ρ : Ev) (st : Sto) : qRet e ρ st = (e ρ st).st ρ fun d st => some (.rt d, st) := id rfl
@[simp] theorem qRetN_e (ρ : Ev) (st : Sto) : qRetN ρ st = some (.rt .non, st) := id rfl
@[simp] theorem qBrk_e (ρ : Ev) (st : Sto) : qBrk ρ st = some (.bk ρ, st) := id rfl
@[simp] theorem qCnt_e (ρ : Ev) (st : Sto) : qCnt ρ st = some (.ct ρ, st) := id rfl
@[simp] theorem qIf_e (t : ST) (a b : SS) (ρ : Ev) (st : Sto) : qIf t a b ρ st = (t ρ st).st ρ fun c st => if c = true then a ρ st else b ρ st := id rfl
@[simp] theorem qSetIx_e (o i e : SE) (ρ : Ev) (st : Sto) : qSetIx o i e ρ st = (e ρ st).st ρ fun v st => (o ρ st).st ρ fun x st => (i ρ st).st ρ fun y st => match fSetIx x y v st with
  | some st => some (.nx ρ, st)
  | none => none := id rfl
/-- one statement after another -/
def thenS (r : Option (Fl × Sto)) (b : SS) : Option (Fl × Sto) := match r with
  | some (.nx ρ', st') => b ρ' st'
  | r => r
@[simp] theorem qSeq_e (a b : SS) (ρ : Ev) (st : Sto) : qSeq a b ρ st = thenS (a ρ st) b := id rfl
@[simp] theorem then_nx (ρ : Ev) (st : Sto) (b : SS) : thenS (some (.nx ρ, st)) b = b ρ st := id rfl
@[simp] theorem then_rt (d : D) (st : Sto) (b : SS) : thenS (some (.rt d, st)) b = some (.rt d, st) := id rfl
@[simp] theorem then_ct (ρ : Ev) (st : Sto) (b : SS) : thenS (some (.ct ρ, st)) b = some (.ct ρ, st) := id rfl
@[simp] theorem then_bk (ρ : Ev) (st : Sto) (b : SS) : thenS (some (.bk ρ, st)) b = some (.bk ρ, st) := id rfl
@[simp] theorem qFor_e (it : SI) (g : TgD) (b : SS) (ρ : Ev) (st : Sto) : qFor it g b ρ st = (it ρ st).st ρ fun p st => loopFor p.2 p.1.length g b 0 p.1 ρ st := id rfl
@[simp] theorem sListR1_e (m : Bool) (a : SE) (ρ : Ev) (st : Sto) : sListR1 m a ρ st = (a ρ st).bind fun x st => match x with
  | .int j => if 0 ≤ j ∧ j ≤ sizeLine then newL m (rangeL 0 j.toNat) st else .bad
  | _ => .bad := id rfl
@[simp] theorem sSlice_e (m : Bool) (e : SE) (lo hi : Ev → Sto → Out (Option Int)) (ρ : Ev) (st : Sto) : sSlice m e lo hi ρ st = (e ρ st).bind fun x st => (lo ρ st).bind fun i st => (hi ρ st).bind fun j st => match x with
  | .tup xs => .ok (.tup (cutD xs i j)) st
  | .fz xs => newL m (cutD xs i j) st
  | x => match litems st x with | some xs => newL m (cutD xs i j) st | none => .bad := id rfl
/-! operators on ints -/
@[simp] theorem fAdd_i (i j : Int) (st : Sto) : fAdd (.int i) (.int j) st = .ok (.int (i + j)) st := id rfl
@[simp] theorem fSub_i (i j : Int) (st : Sto) : fSub (.int i) (.int j) st = .ok (.int (i - j)) st := id rfl
@[simp] theorem fNeg_i (i : Int) (st : Sto) : fNeg (.int i) st = .ok (.int (-i)) st := id rfl
@[simp] theorem fLt_i (i j : Int) (st : Sto) : fLt (.int i) (.int j) st = .ok (.bl (decide (i < j))) st := id rfl
@[simp] theorem fLe_i (i j : Int) (st : Sto) : fLe (.int i) (.int j) st = .ok (.bl (decide (i ≤ j))) st := id rfl
@[simp] theorem fGt_i (i j : Int) (st : Sto) : fGt (.int i) (.int j) st = .ok (.bl (decide (j < i))) st := id rfl
@[simp] theorem fGe_i (i j : Int) (st : Sto) : fGe (.int i) (.int j) st = .ok (.bl (decide (j ≤ i))) st := id rfl
theorem fMul_i {i j : Int} {st : Sto} (h : small i = true ∨ small j = true) : fMul (.int i) (.int j) st = .ok (.int (i * j)) st := by
  unfold fMul
  dsimp only
  rcases h with h | h <;> simp [h]
theorem fDiv_i {i j : Int} {st : Sto} (h : 0 < j ∧ j < 1073741824) : fDiv (.int i) (.int j) st = .ok (.int (i / j)) st := by
  unfold fDiv; dsimp only; rw [if_pos h]
theorem fMod_i {i j : Int} {st : Sto} (h : 0 < j) : fMod (.int i) (.int j) st = .ok (.int (i % j)) st := by
  unfold fMod; dsimp only; rw [if_pos h]
@[simp] theorem toPy_int (st : Sto) (n : Nat) (i : Int) : toPy st n (.int i) = some (.int i) := by cases n <;> rfl
@[simp] theorem toPy_bl (st : Sto) (n : Nat) (i : Bool) : toPy st n (.bl i) = some (.bool i) := by cases n <;> rfl
@[simp] theorem toPy_non (st : Sto) (n : Nat) : toPy st n .non = some .none := by cases n <;> rfl
theorem eqv_int (i j : Int) : PyData.eqv (.int i) (.int j) = decide (i = j) := by
  by_cases h : i = j
  · subst h; simp [PyData.eqv]
  · simp [PyData.eqv, h]
theorem eqv_bl (i j : Bool) : PyData.eqv (.bool i) (.bool j) = decide (i = j) := by
  cases i <;> cases j <;> simp [PyData.eqv]
@[simp] theorem fEq_i (i j : Int) (st : Sto) : fEq (.int i) (.int j) st = .ok (.bl (decide (i = j))) st := by
  unfold fEq; simp [eqv_int]
@[simp] theorem fNe_i (i j : Int) (st : Sto) : fNe (.int i) (.int j) st = .ok (.bl (!decide (i = j))) st := by
  unfold fNe; simp [eqv_int]
@[simp] theorem fEq_b (i j : Bool) (st : Sto) : fEq (.bl i) (.bl j) st = .ok (.bl (decide (i = j))) st := by
  unfold fEq; simp [eqv_bl]
@[simp] theorem fNe_b (i j : Bool) (st : Sto) : fNe (.bl i) (.bl j) st = .ok (.bl (!decide (i = j))) st := by
  unfold fNe; simp [eqv_bl]
@[simp] theorem truD_bl (st : Sto) (b : Bool) : truD st (.bl b) = some b := id rfl
@[simp] theorem isTy_int (i : Int) : isTy .int (.int i) = some true := id rfl
@[simp] theorem isTy_bool (i : Int) : isTy .bool (.int i) = some false := id rfl
@[simp] theorem isTy_tuple (xs : List D) : isTy .tuple (.tup xs) = some true := id rfl
@[simp] theorem items_tup (st : Sto) (xs : List D) : items st (.tup xs) = some xs := id rfl
@[simp] theorem items_lst (st : Sto) (xs : List D) : items st (.lst xs) = some xs := id rfl
@[simp] theorem items_fz (st : Sto) (xs : List D) : items st (.fz xs) = some xs := id rfl
@[simp] theorem litems_lst (st : Sto) (xs : List D) : litems st (.lst xs) = some xs := id rfl
@[simp] theorem dyn_tup (xs : List D) : dynOf (.tup xs) = none := id rfl
@[simp] theorem dyn_lst (xs : List D) : dynOf (.lst xs) = none := id rfl
@[simp] theorem dyn_fz (xs : List D) : dynOf (.fz xs) = none := id rfl
@[simp] theorem dyn_ref (l : Nat) : dynOf (.ref l) = some (.inl l) := id rfl
theorem items_ref {st : Sto} {l : Nat} {xs : List D} (h : st[l]? = some (.lst xs)) : items st (.ref l) = some xs := by simp only [items, h]
theorem litems_ref {st : Sto} {l : Nat} {xs : List D} (h : st[l]? = some (.lst xs)) : litems st (.ref l) = some xs := by simp only [litems, h]
@[simp] theorem bLen_tup (st : Sto) (xs : List D) : bLen [.tup xs] st = .ok (.int xs.length) st := id rfl
@[simp] theorem bLen_lst (st : Sto) (xs : List D) : bLen [.lst xs] st = .ok (.int xs.length) st := id rfl
theorem bLen_ref {st : Sto} {l : Nat} {xs : List D} (h : st[l]? = some (.lst xs)) : bLen [.ref l] st = .ok (.int xs.length) st := by unfold bLen; simp only [items_ref h]
@[simp] theorem bTuple_lst (st : Sto) (xs : List D) : bTuple [.lst xs] st = .ok (.tup xs) st := id rfl
@[simp] theorem bTuple_tup (st : Sto) (xs : List D) : bTuple [.tup xs] st = .ok (.tup xs) st := id rfl
theorem bTuple_ref {st : Sto} {l : Nat} {xs : List D} (h : st[l]? = some (.lst xs)) : bTuple [.ref l] st = .ok (.tup xs) st := by unfold bTuple; simp only [items_ref h]
@[simp] theorem bInt_i (st : Sto) (i : Int) : bInt [.int i] st = .ok (.int i) st := id rfl
@[simp] theorem bAbs_i (st : Sto) (i : Int) : bAbs [.int i] st = .ok (.int (if i < 0 then -i else i)) st := id rfl
@[simp] theorem bMin2_i (st : Sto) (i j : Int) : bMin2 [.int i, .int j] st = .ok (.int (if j < i then j else i)) st := id rfl
@[simp] theorem bMax2_i (st : Sto) (i j : Int) : bMax2 [.int i, .int j] st = .ok (.int (if j > i then j else i)) st := id rfl
@[simp] theorem fIsN2_n (st : Sto) : fIsN2 .non .non st = .ok (.bl true) st := id rfl
@[simp] theorem fIsN2_t (st : Sto) (xs : List D) : fIsN2 (.tup xs) .non st = .ok (.bl false) st := id rfl
@[simp] theorem fNotN2_n (st : Sto) : fNotN2 .non .non st = .ok (.bl false) st := id rfl
@[simp] theorem fNotN2_t (st : Sto) (xs : List D) : fNotN2 (.tup xs) .non st = .ok (.bl true) st := id rfl
theorem allBl_map {α : Type} (f : α → Bool) (l : List α) : allBl (l.map fun a => D.bl (f a)) = some (l.map f) := by
  induction l with
  | nil => rfl
  | cons a l ih => rw [List.map_cons, List.map_cons, allBl, ih] <;> rfl
@[simp] theorem bAll_map {α : Type} (f : α → Bool) (l : List α) (st : Sto) : bAll [.lst (l.map fun a => D.bl (f a))] st = .ok (.bl (l.all f)) st := by
  unfold bAll
  simp only [litems_lst, Option.bind_some, allBl_map, List.all_map]
  rfl
@[simp] theorem bAny_map {α : Type} (f : α → Bool) (l : List α) (st : Sto) : bAny [.lst (l.map fun a => D.bl (f a))] st = .ok (.bl (l.any f)) st := by
  unfold bAny
  simp only [litems_lst, Option.bind_some, allBl_map, List.any_map]
  rfl
/-! subscripts -/
theorem ix_nat {n i : Nat} (h : i < n) : ixD n (i : Int) = some i := by
  unfold ixD
  rw [if_pos (by omega), if_pos (by omega)]
  simp
theorem fIx_at {st : Sto} {x d : D} {xs : List D} {i : Nat} (hx : items st x = some xs) (h : xs[i]? = some d) : fIx x (.int (i : Int)) st = .ok d st := by
  have hl : i < xs.length := (List.getElem?_eq_some_iff.mp h).1
  unfold fIx
  simp only [hx, ix_nat hl, h]
theorem fIx_tup {st : Sto} {d : D} {xs : List D} {i : Nat} (h : xs[i]? = some d) : fIx (.tup xs) (.int (i : Int)) st = .ok d st := fIx_at rfl h
theorem fIx_last {st : Sto} {x : D} {xs : List D} {d : D} (hx : items st x = some (xs ++ [d])) : fIx x (.int (-1)) st = .ok d st := by
  unfold fIx
  simp only [hx]
  have e : ixD (xs ++ [d]).length (-1) = some xs.length := by
    unfold ixD
    rw [if_neg (by omega), List.length_append, if_pos (by simp <;> omega)]
    simp
    omega
  rw [e]
  simp
theorem fExtend_ref {st : Sto} {l : Nat} {xs ys : List D} {y : D} (h : st[l]? = some (.lst xs)) (hy : litems st y = some ys) (hz : xs.length + ys.length ≤ sizeLine) : fExtend (.ref l) y st = .ok .non (st.set l (.lst (xs ++ ys))) := by
  simp only [fExtend, h, hy, if_pos hz]
theorem fAppend_ref {st : Sto} {l : Nat} {xs : List D} {y : D} (h : st[l]? = some (.lst xs)) (hz : xs.length < sizeLine) : fAppend (.ref l) y st = .ok .non (st.set l (.lst (xs ++ [y]))) := by
  simp only [fAppend, h, if_pos hz]
theorem sto_get (st ex : Sto) (o : MO) : (st ++ (ex ++ [o]))[st.length + ex.length]? = some o := by
  rw [← List.append_assoc, List.getElem?_append_right (by simp)]
  simp
theorem sto_set (st ex : Sto) (o o' : MO) : (st ++ (ex ++ [o])).set (st.length + ex.length) o' = st ++ (ex ++ [o']) := by
  rw [← List.append_assoc, List.set_append_right (h := by simp)]
  simp
theorem sto_get1 (st : Sto) (o : MO) : (st ++ [o])[st.length]? = some o := by simp
theorem sto_set1 (st : Sto) (o o' : MO) : (st ++ [o]).set st.length o' = st ++ [o'] := by simp
theorem fSetIx_ref {st : Sto} {l i : Nat} {xs : List D} {v : D} (h : st[l]? = some (.lst xs)) (hi : i < xs.length) : fSetIx (.ref l) (.int (i : Int)) v st = some (st.set l (.lst (xs.set i v))) := by
  have e : ixD xs.length (i : Int) = some i := by
    unfold ixD
    rw [if_pos (by omega), if_pos (by omega)]
    simp
  simp only [fSetIx, h, e]
/-! what stands by value -/
abbrev row (r : List Int) : D := .tup (r.map D.int)
abbrev tbl (t : List (List Int)) : D := .tup (t.map row)
def Fz (f : Nat) (d : D) : Prop := ∀ st n, frzD st n f d = some d
theorem fz_int (f : Nat) (i : Int) : Fz f (.int i) := fun st n => by cases f <;> rfl
theorem fz_bl (f : Nat) (i : Bool) : Fz f (.bl i) := fun st n => by cases f <;> rfl
theorem fz_non (f : Nat) : Fz f .non := fun st n => by cases f <;> rfl
theorem fz_str (f : Nat) (x : Str) : Fz f (.str x) := fun st n => by cases f <;> rfl
theorem allSome_map {α β : Type} {f : α → Option β} {g : α → β} : ∀ {l : List α}, (∀ a ∈ l, f a = some (g a)) → allSome (l.map f) = some (l.map g)
  | [], _ => rfl
  | a :: l, h => by
    rw [List.map_cons, h a List.mem_cons_self, allSome, allSome_map fun b hb => h b (List.mem_cons_of_mem _ hb)]
    rfl
theorem allSome_id {f : D → Option D} {l : List D} (h : ∀ d ∈ l, f d = some d) : allSome (l.map f) = some l := by
  rw [allSome_map (g := id) h, List.map_id]
theorem fz_tup {f : Nat} {ds : List D} (h : ∀ d ∈ ds, Fz f d) : Fz (f + 1) (.tup ds) := fun st n => by
  rw [frzD]
  simp only [allSome_id fun d hd => h d hd st n, Option.map_some]
theorem fz_lst {f : Nat} {ds : List D} (h : ∀ d ∈ ds, Fz f d) : Fz (f + 1) (.lst ds) := fun st n => by
  rw [frzD]
  simp only [allSome_id fun d hd => h d hd st n, Option.map_some]
theorem fz_row (f : Nat) (r : List Int) : Fz (f + 1) (row r) := fz_tup fun d hd => by
  obtain ⟨i, _, rfl⟩ := List.mem_map.mp hd
  exact fz_int f i
theorem fz_rows (f : Nat) (t : List (List Int)) : Fz (f + 2) (.tup (t.map row)) := fz_tup fun d hd => by
  obtain ⟨i, _, rfl⟩ := List.mem_map.mp hd
  exact fz_row f i
theorem fz_lrows (f : Nat) (t : List (List Int)) : Fz (f + 2) (.lst (t.map row)) := fz_lst fun d hd => by
  obtain ⟨i, _, rfl⟩ := List.mem_map.mp hd
  exact fz_row f i
/-! stores -/
def WF (st : Sto) : Prop := st.all (noRefO st.length) = true
mutual
theorem noRef_mono {n m : Nat} (h : n ≤ m) : ∀ d : D, noRef n d = true → noRef m d = true
  | .non, _ => rfl
  | .bl _, _ => rfl
  | .int _, _ => rfl
  | .str _, _ => rfl
  | .raw _, _ => rfl
  | .ref l, q => by
    unfold noRef at q ⊢
    have := of_decide_eq_true q
    exact decide_eq_true (by omega)
  | .tup xs, q => by
    unfold noRef at q ⊢
    exact noRefs_mono h xs q
  | .lst xs, q => by
    unfold noRef at q ⊢
    exact noRefs_mono h xs q
  | .fz xs, q => by
    unfold noRef at q ⊢
    exact noRefs_mono h xs q
  | .tpl xs, q => by
    unfold noRef at q ⊢
    exact noRefs_mono h xs q
  | .dk _ xs, q => by
    unfold noRef at q ⊢
    exact noRefs_mono h xs q
theorem noRefs_mono {n m : Nat} (h : n ≤ m) : ∀ ds : List D, noRefs n ds = true → noRefs m ds = true
  | [], _ => rfl
  | d :: ds, q => by
    unfold noRefs at q ⊢
    obtain ⟨q1, q2⟩ := Bool.and_eq_true_iff.mp q
    exact Bool.and_eq_true_iff.mpr ⟨noRef_mono h d q1, noRefs_mono h ds q2⟩
end
theorem noRefO_mono {n m : Nat} (h : n ≤ m) : ∀ o : MO, noRefO n o = true → noRefO m o = true
  | .lst xs, q => noRefs_mono h xs q
  | .dk _ xs, q => noRefs_mono h xs q
  | .gone, _ => rfl
theorem noRefs_all {n : Nat} : ∀ {ds : List D}, (∀ d ∈ ds, noRef n d = true) → noRefs n ds = true
  | [], _ => rfl
  | d :: ds, h => by
    unfold noRefs
    exact Bool.and_eq_true_iff.mpr ⟨h d List.mem_cons_self, noRefs_all fun e he => h e (List.mem_cons_of_mem _ he)⟩
theorem noRefs_mem {n : Nat} : ∀ {ds : List D}, noRefs n ds = true → ∀ d ∈ ds, noRef n d = true
  | d :: ds, h, e, he => by
    unfold noRefs at h
    obtain ⟨q1, q2⟩ := Bool.and_eq_true_iff.mp h
    rcases List.mem_cons.mp he with rfl | he
    · exact q1
    · exact noRefs_mem q2 e he
theorem WF.nil : WF [] := rfl
theorem WF.app {st : Sto} (h : WF st) {o : MO} (ho : noRefO (st.length + 1) o = true) : WF (st ++ [o]) := by
  unfold WF at h ⊢
  rw [List.all_append, List.length_append]
  refine Bool.and_eq_true_iff.mpr ⟨List.all_eq_true.mpr fun x hx => noRefO_mono (by omega) x (List.all_eq_true.mp h x hx), ?_⟩
  simpa using ho
theorem WF.set {st : Sto} (h : WF st) (l : Nat) {o : MO} (ho : noRefO st.length o = true) : WF (st.set l o) := by
  unfold WF at h ⊢
  rw [List.length_set]
  refine List.all_eq_true.mpr fun x hx => ?_
  rcases List.mem_or_eq_of_mem_set hx with hx | rfl
  · exact List.all_eq_true.mp h x hx
  · exact ho
theorem noRef_row (n : Nat) (r : List Int) : noRef n (row r) = true := by
  unfold noRef
  exact noRefs_all fun d hd => by
    obtain ⟨i, _, rfl⟩ := List.mem_map.mp hd
    rfl
theorem defFin_rt {n : Nat} {b : SS} {ds : List D} {st st' ex : Sto} {d d' : D} (h : b (startD n ds) st = some (.rt d, st' ++ ex)) (hl : st'.length = st.length) (hw : WF st') (hf : frzD (st' ++ ex) st.length 60 d = some d') : defFin n b ds st = .ok d' st' := by
  unfold defFin defRaw
  rw [h]
  show fin st.length (.ok d (st' ++ ex)) = _
  unfold fin
  dsimp only
  rw [hf]
  have e : (st' ++ ex).take st.length = st' := by rw [← hl, List.take_left]
  rw [e]
  dsimp only
  rw [if_pos (by rw [← hl]; exact hw)]
theorem defFin_nx {n : Nat} {b : SS} {ds : List D} {st st' ex : Sto} {ρ : Ev} (h : b (startD n ds) st = some (.nx ρ, st' ++ ex)) (hl : st'.length = st.length) (hw : WF st') : defFin n b ds st = .ok .non st' := by
  unfold defFin defRaw
  rw [h]
  show fin st.length (.ok .non (st' ++ ex)) = _
  unfold fin
  dsimp only
  rw [show frzD (st' ++ ex) st.length 60 .non = some .non from rfl]
  have e : (st' ++ ex).take st.length = st' := by rw [← hl, List.take_left]
  rw [e]
  dsimp only
  rw [if_pos (by rw [← hl]; exact hw)]
/-- a def that leaves the store -/
theorem defFin_v {n : Nat} {b : SS} {ds : List D} {st : Sto} {d : D} (hw : WF st) (hf : Fz 60 d) (h : b (startD n ds) st = some (.rt d, st)) : defFin n b ds st = .ok d st :=
  defFin_rt (ex := []) (by rw [List.append_nil]; exact h) rfl hw (by rw [List.append_nil]; exact hf _ _)
theorem defFin_n {n : Nat} {b : SS} {ds : List D} {st : Sto} {ρ : Ev} (hw : WF st) (h : b (startD n ds) st = some (.nx ρ, st)) : defFin n b ds st = .ok .non st :=
  defFin_nx (ex := []) (by rw [List.append_nil]; exact h) rfl hw

/-! ### comprehensions -/
def Still (dy : Dy) (ds : List D) (st : Sto) : Prop := match dy with
  | none => True
  | some (.inl l) => st[l]? = some (.lst ds)
  | some (.inr l) => ∃ xs, st[l]? = some (.lst xs) ∧ ds = enumFromD 0 xs
theorem still_none (ds : List D) (st : Sto) : Still none ds st := True.intro
theorem still_some {l : Nat} {ds : List D} {st : Sto} (h : st[l]? = some (.lst ds)) : Still (some (.inl l)) ds st := h
theorem enumFromD_get : ∀ (xs : List D) (k i : Nat), (enumFromD k xs)[i]? = (xs[i]?).map fun x => .tpl [.int ((k + i : Nat) : Int), x]
  | [], _, _ => rfl
  | x :: xs, k, 0 => rfl
  | x :: xs, k, i + 1 => by
    rw [enumFromD, List.getElem?_cons_succ, List.getElem?_cons_succ, enumFromD_get xs (k + 1) i, show k + 1 + i = k + (i + 1) by omega]
theorem enumFromD_len : ∀ (xs : List D) (k : Nat), (enumFromD k xs).length = xs.length
  | [], _ => rfl
  | x :: xs, k => by rw [enumFromD, List.length_cons, List.length_cons, enumFromD_len xs (k + 1)]
theorem still_enum {l : Nat} {xs : List D} {st : Sto} (h : st[l]? = some (.lst xs)) : Still (some (.inr l)) (enumFromD 0 xs) st := ⟨xs, h, rfl⟩
theorem Still.fetch {dy : Dy} {ds : List D} {st : Sto} (h : Still dy ds st) {i : Nat} {d : D} (e : ds[i]? = some d) : fetch dy i d st = some d := by
  match dy, h with
  | none, _ => rfl
  | some (.inl l), h =>
    have h : st[l]? = some (.lst ds) := h
    unfold PD.fetch; simp only [h, e]
  | some (.inr l), h =>
    obtain ⟨xs, hx, rfl⟩ := h
    rw [enumFromD_get, Nat.zero_add] at e
    unfold PD.fetch; simp only [hx, e]
theorem Still.fin {dy : Dy} {ds : List D} {st : Sto} (h : Still dy ds st) : finOk dy ds.length st = true := by
  match dy, h with
  | none, _ => rfl
  | some (.inl l), h =>
    have h : st[l]? = some (.lst ds) := h
    unfold finOk; simp only [h, beq_self_eq_true]
  | some (.inr l), h =>
    obtain ⟨xs, hx, rfl⟩ := h
    unfold finOk; simp only [hx, enumFromD_len, beq_self_eq_true]
theorem lc_loop {α : Type} {dy : Dy} {g : TgD} {t : ST} {e : SE} {ρ0 : Ev} {st : Sto} {all : List D} {φ : α → D} {c : α → Bool} {f : α → D} (hs : Still dy all st) :
    ∀ (xs : List α) (i : Nat), all.drop i = xs.map φ → (∀ a ∈ xs, ∃ ρ1, g (φ a) ρ0 = some ρ1 ∧ t ρ1 st = .ok (c a) st ∧ (c a = true → e ρ1 st = .ok (f a) st)) →
      loopLC dy all.length g t e ρ0 i (xs.map φ) st = .ok ((xs.filter c).map f) st
  | [], i, hd, h => by
    simp only [List.map_nil, List.filter_nil, loopLC, hs.fin, if_true]
  | a :: xs, i, hd, h => by
    obtain ⟨ρ1, h1, h2, h3⟩ := h a List.mem_cons_self
    have hi : all[i]? = some (φ a) := by
      have := congrArg (fun l : List D => l[0]?) hd
      simpa using this
    have hd2 : all.drop (i + 1) = xs.map φ := by
      have := congrArg (fun l : List D => l.drop 1) hd
      simpa [List.drop_drop] using this
    have ih := lc_loop hs xs (i + 1) hd2 fun b hb => h b (List.mem_cons_of_mem _ hb)
    rw [List.map_cons, loopLC, hs.fetch hi]
    simp only [h1, h2, nx_ok, bind_ok]
    cases hc : c a with
    | true => simp only [h3 hc, if_true, nx_ok, bind_ok, ih, List.filter_cons_of_pos hc, List.map_cons]
    | false => simp only [Bool.false_eq_true, if_false, ih, List.filter_cons_of_neg (show ¬ c a = true by rw [hc]; decide)]
theorem sLC_if {α : Type} {m : Bool} {it : SI} {dy : Dy} {g : TgD} {t : ST} {e : SE} {vs : List Nat} {ρ : Ev} {st : Sto} (xs : List α) (φ : α → D) (c : α → Bool) (f : α → D) (hit : it ρ st = .ok (xs.map φ, dy) st) (hs : Still dy (xs.map φ) st) (hz : xs.length ≤ sizeLine)
    (h : ∀ a ∈ xs, ∃ ρ1, g (φ a) (wipeD ρ vs) = some ρ1 ∧ t ρ1 st = .ok (c a) st ∧ (c a = true → e ρ1 st = .ok (f a) st)) : sLC m it g t e vs ρ st = newL m ((xs.filter c).map f) st := by
  unfold sLC
  rw [hit]
  simp only [bind_ok, List.length_map]
  rw [if_pos hz]
  have := lc_loop hs xs 0 rfl h
  rw [List.length_map] at this
  rw [this]
  rfl
theorem sLC_map {α : Type} {m : Bool} {it : SI} {dy : Dy} {g : TgD} {e : SE} {vs : List Nat} {ρ : Ev} {st : Sto} (xs : List α) (φ : α → D) (f : α → D) (hit : it ρ st = .ok (xs.map φ, dy) st) (hs : Still dy (xs.map φ) st) (hz : xs.length ≤ sizeLine)
    (h : ∀ a ∈ xs, ∃ ρ1, g (φ a) (wipeD ρ vs) = some ρ1 ∧ e ρ1 st = .ok (f a) st) : sLC m it g tYesD e vs ρ st = newL m (xs.map f) st := by
  have := sLC_if (m := m) (t := tYesD) (vs := vs) xs φ (fun _ => true) f hit hs hz fun a ha => by
    obtain ⟨ρ1, h1, h2⟩ := h a ha
    exact ⟨ρ1, h1, rfl, fun _ => h2⟩
  rw [this, List.filter_eq_self.mpr fun _ _ => rfl]

/-! ### for -/
theorem drop_head {α β : Type} {l : List α} {φ : β → α} {b : β} {r : List β} {i : Nat} (h : l.drop i = (b :: r).map φ) : l[i]? = some (φ b) ∧ l.drop (i + 1) = r.map φ := by
  constructor
  · have := congrArg (fun l : List α => l[0]?) h
    simpa using this
  · have := congrArg (fun l : List α => l.drop 1) h
    simpa [List.drop_drop] using this
theorem for_loopS {α : Type} {g : TgD} {b : SS} {dy : Dy} {all : List D} {φ : α → D} (I : List α → Ev → Sto → Prop) (R : D → Sto → Prop) (hS : ∀ r ρ st, I r ρ st → Still dy all st)
    (step : ∀ a r ρ st, I (a :: r) ρ st → ∃ ρ1, g (φ a) ρ = some ρ1 ∧ ((∃ ρ2 st2, (b ρ1 st = some (.nx ρ2, st2) ∨ b ρ1 st = some (.ct ρ2, st2)) ∧ I r ρ2 st2) ∨ ∃ d st2, b ρ1 st = some (.rt d, st2) ∧ R d st2)) :
    ∀ (xs : List α) (i : Nat) (ρ : Ev) (st : Sto), all.drop i = xs.map φ → I xs ρ st → (∃ ρ' st', loopFor dy all.length g b i (xs.map φ) ρ st = some (.nx ρ', st') ∧ I [] ρ' st') ∨ ∃ d st', loopFor dy all.length g b i (xs.map φ) ρ st = some (.rt d, st') ∧ R d st'
  | [], i, ρ, st, _, h => .inl ⟨ρ, st, by simp [loopFor, (hS _ _ _ h).fin], h⟩
  | a :: xs, i, ρ, st, hd, h => by
    obtain ⟨ρ1, h1, h2⟩ := step a xs ρ st h
    obtain ⟨hi, hd2⟩ := drop_head hd
    rw [List.map_cons, loopFor, (hS _ _ _ h).fetch hi]
    simp only [h1]
    rcases h2 with ⟨ρ2, st2, h3 | h3, h4⟩ | ⟨d, st2, h3, h4⟩
    · rw [h3]; exact for_loopS I R hS step xs (i + 1) ρ2 st2 hd2 h4
    · rw [h3]; exact for_loopS I R hS step xs (i + 1) ρ2 st2 hd2 h4
    · rw [h3]; exact .inr ⟨d, st2, rfl, h4⟩
/-- a walk over a list of the store that nothing leaves early -/
theorem for_allS {α : Type} {g : TgD} {b : SS} {dy : Dy} {φ : α → D} (I : List α → Ev → Sto → Prop) (xs : List α) (hS : ∀ r ρ st, I r ρ st → Still dy (xs.map φ) st)
    (step : ∀ a r ρ st, I (a :: r) ρ st → ∃ ρ1, g (φ a) ρ = some ρ1 ∧ ∃ ρ2 st2, (b ρ1 st = some (.nx ρ2, st2) ∨ b ρ1 st = some (.ct ρ2, st2)) ∧ I r ρ2 st2)
    (ρ : Ev) (st : Sto) (h : I xs ρ st) : ∃ ρ' st', loopFor dy xs.length g b 0 (xs.map φ) ρ st = some (.nx ρ', st') ∧ I [] ρ' st' := by
  have q := for_loopS (all := xs.map φ) I (fun _ _ => False) hS (fun a r ρ st h => by
    obtain ⟨ρ1, h1, h2⟩ := step a r ρ st h
    exact ⟨ρ1, h1, .inl h2⟩) xs 0 ρ st rfl h
  rw [List.length_map] at q
  rcases q with q | ⟨_, _, _, q⟩
  · exact q
  · exact q.elim
theorem for_loop {α : Type} {g : TgD} {b : SS} {φ : α → D} (I : List α → Ev → Sto → Prop) (R : D → Sto → Prop) (xs : List α)
    (step : ∀ a r ρ st, I (a :: r) ρ st → ∃ ρ1, g (φ a) ρ = some ρ1 ∧ ((∃ ρ2 st2, (b ρ1 st = some (.nx ρ2, st2) ∨ b ρ1 st = some (.ct ρ2, st2)) ∧ I r ρ2 st2) ∨ ∃ d st2, b ρ1 st = some (.rt d, st2) ∧ R d st2))
    (ρ : Ev) (st : Sto) (h : I xs ρ st) : (∃ ρ' st', loopFor none xs.length g b 0 (xs.map φ) ρ st = some (.nx ρ', st') ∧ I [] ρ' st') ∨ ∃ d st', loopFor none xs.length g b 0 (xs.map φ) ρ st = some (.rt d, st') ∧ R d st' := by
  have q := for_loopS (dy := none) (all := xs.map φ) I R (fun _ _ _ _ => still_none _ _) step xs 0 ρ st rfl h
  rw [List.length_map] at q
  exact q
/-- a loop that nothing leaves early -/
theorem for_all {α : Type} {g : TgD} {b : SS} {φ : α → D} (I : List α → Ev → Sto → Prop) (xs : List α)
    (step : ∀ a r ρ st, I (a :: r) ρ st → ∃ ρ1, g (φ a) ρ = some ρ1 ∧ ∃ ρ2 st2, (b ρ1 st = some (.nx ρ2, st2) ∨ b ρ1 st = some (.ct ρ2, st2)) ∧ I r ρ2 st2)
    (ρ : Ev) (st : Sto) (h : I xs ρ st) : ∃ ρ' st', loopFor none xs.length g b 0 (xs.map φ) ρ st = some (.nx ρ', st') ∧ I [] ρ' st' :=
  for_allS (dy := none) I xs (fun _ _ _ _ => still_none _ _) step ρ st h
/-- a loop that looks for the first; the store stays -/
theorem for_some0 {α : Type} {g : TgD} {b : SS} {φ : α → D} {st : Sto} {dy : Dy} {all : List D} (hs : Still dy all st) (J : Ev → Prop) (c : α → Option D) : ∀ (xs : List α) (i : Nat) (ρ : Ev), all.drop i = xs.map φ → J ρ →
    (∀ a ∈ xs, ∀ ρ, J ρ → ∃ ρ1, g (φ a) ρ = some ρ1 ∧ ((∃ d, c a = some d ∧ b ρ1 st = some (.rt d, st)) ∨ (c a = none ∧ ∃ ρ2, (b ρ1 st = some (.nx ρ2, st) ∨ b ρ1 st = some (.ct ρ2, st)) ∧ J ρ2))) →
    (∃ d, xs.findSome? c = some d ∧ loopFor dy all.length g b i (xs.map φ) ρ st = some (.rt d, st)) ∨ (xs.findSome? c = none ∧ ∃ ρ', loopFor dy all.length g b i (xs.map φ) ρ st = some (.nx ρ', st) ∧ J ρ')
  | [], i, ρ, hd, h, _ => .inr ⟨rfl, ρ, by simp [loopFor, hs.fin], h⟩
  | a :: xs, i, ρ, hd, h, step => by
    obtain ⟨ρ1, h1, h2⟩ := step a List.mem_cons_self ρ h
    obtain ⟨hi, hd2⟩ := drop_head hd
    rw [List.map_cons, loopFor, hs.fetch hi, List.findSome?_cons]
    simp only [h1]
    rcases h2 with ⟨d, hc, hb⟩ | ⟨hc, ρ2, hb, hj⟩
    · rw [hc, hb]; exact .inl ⟨d, rfl, rfl⟩
    · rw [hc]
      have ih := for_some0 hs J c xs (i + 1) ρ2 hd2 hj fun a ha => step a (List.mem_cons_of_mem _ ha)
      rcases hb with hb | hb
      · rw [hb]; exact ih
      · rw [hb]; exact ih
theorem for_some {α : Type} {g : TgD} {b : SS} {φ : α → D} {st : Sto} {dy : Dy} (xs : List α) (hs : Still dy (xs.map φ) st) (J : Ev → Prop) (c : α → Option D) (ρ : Ev) (h : J ρ)
    (step : ∀ a ∈ xs, ∀ ρ, J ρ → ∃ ρ1, g (φ a) ρ = some ρ1 ∧ ((∃ d, c a = some d ∧ b ρ1 st = some (.rt d, st)) ∨ (c a = none ∧ ∃ ρ2, (b ρ1 st = some (.nx ρ2, st) ∨ b ρ1 st = some (.ct ρ2, st)) ∧ J ρ2))) :
    (∃ d, xs.findSome? c = some d ∧ loopFor dy xs.length g b 0 (xs.map φ) ρ st = some (.rt d, st)) ∨ (xs.findSome? c = none ∧ ∃ ρ', loopFor dy xs.length g b 0 (xs.map φ) ρ st = some (.nx ρ', st) ∧ J ρ') := by
  have q := for_some0 hs J c xs 0 ρ rfl h step
  rw [List.length_map] at q
  exact q
/-! the same, of a loop in a goal (generalize it, then ask) -/
section
variable {α : Type} {g : TgD} {b : SS} {st : Sto} {dy : Dy} {L : Nat} {ds : List D} {ρ : Ev} {r : Option (Fl × Sto)}
theorem for_some_e (hL : loopFor dy L g b 0 ds ρ st = r) (xs : List α) (φ : α → D) (ed : ds = xs.map φ) (eL : L = xs.length) (hs : Still dy (xs.map φ) st) (J : Ev → Prop) (c : α → Option D) (h : J ρ)
    (step : ∀ a ∈ xs, ∀ ρ, J ρ → ∃ ρ1, g (φ a) ρ = some ρ1 ∧ ((∃ d, c a = some d ∧ b ρ1 st = some (.rt d, st)) ∨ (c a = none ∧ ∃ ρ2, (b ρ1 st = some (.nx ρ2, st) ∨ b ρ1 st = some (.ct ρ2, st)) ∧ J ρ2))) :
    (∃ d, xs.findSome? c = some d ∧ r = some (.rt d, st)) ∨ (xs.findSome? c = none ∧ ∃ ρ', r = some (.nx ρ', st) ∧ J ρ') := by
  subst hL ed eL
  exact for_some xs hs J c ρ h step
/-- nothing is found -/
theorem for_none_e (hL : loopFor dy L g b 0 ds ρ st = r) (xs : List α) (φ : α → D) (ed : ds = xs.map φ) (eL : L = xs.length) (hs : Still dy (xs.map φ) st) (J : Ev → Prop) (h : J ρ)
    (step : ∀ a ∈ xs, ∀ ρ, J ρ → ∃ ρ1, g (φ a) ρ = some ρ1 ∧ ∃ ρ2, (b ρ1 st = some (.nx ρ2, st) ∨ b ρ1 st = some (.ct ρ2, st)) ∧ J ρ2) :
    ∃ ρ', r = some (.nx ρ', st) ∧ J ρ' := by
  rcases for_some_e hL xs φ ed eL hs J (fun _ => none) h fun a ha ρ hj => by
    obtain ⟨ρ1, h1, h2⟩ := step a ha ρ hj
    exact ⟨ρ1, h1, .inr ⟨rfl, h2⟩⟩ with ⟨d, e, _⟩ | ⟨_, q⟩
  · rw [List.findSome?_eq_none_iff.mpr fun _ _ => rfl] at e
    cases e
  · exact q
theorem for_all_e (hL : loopFor dy L g b 0 ds ρ st = r) (xs : List α) (φ : α → D) (ed : ds = xs.map φ) (eL : L = xs.length) (I : List α → Ev → Sto → Prop) (hS : ∀ r ρ st, I r ρ st → Still dy (xs.map φ) st) (h : I xs ρ st)
    (step : ∀ a r ρ st, I (a :: r) ρ st → ∃ ρ1, g (φ a) ρ = some ρ1 ∧ ∃ ρ2 st2, (b ρ1 st = some (.nx ρ2, st2) ∨ b ρ1 st = some (.ct ρ2, st2)) ∧ I r ρ2 st2) :
    ∃ ρ' st', r = some (.nx ρ', st') ∧ I [] ρ' st' := by
  subst hL ed eL
  exact for_allS I xs hS step ρ st h
end
/-! ranges -/
theorem rangeL_n (j : Nat) : rangeL 0 j = (List.range j).map fun i : Nat => D.int i := by
  unfold rangeL
  exact List.map_congr_left fun i _ => by rw [Int.zero_add]
theorem rangeL_0 (j : Nat) : rangeL 0 ((j : Int).toNat) = (List.range j).map fun i : Nat => D.int i := by
  unfold rangeL
  rw [Int.toNat_natCast]
  exact List.map_congr_left fun i _ => by rw [Int.zero_add]
theorem rangeL_2 (i j : Nat) : rangeL (i : Int) (((j : Int) - (i : Int)).toNat) = (List.range' i (j - i)).map fun k : Nat => D.int k := by
  unfold rangeL
  have e : ((j : Int) - (i : Int)).toNat = j - i := by omega
  rw [e, List.range'_eq_map_range, List.map_map]
  exact List.map_congr_left fun k _ => by
    show D.int _ = D.int _
    congr 1
theorem iRange1_nat {a : SA} {ρ : Ev} {st : Sto} {j : Nat} (h : a ρ st = .ok [.int (j : Int)] st) (hj : j ≤ 1000000) : iRange1 a ρ st = .ok ((List.range j).map fun i : Nat => D.int (i : Int), none) st := by
  simp only [iRange1_e, h, bind_ok, rangeL_0]
  rw [if_pos ⟨by omega, by omega⟩]
theorem iRange2_nat {a : SA} {ρ : Ev} {st : Sto} {i j : Nat} (h : a ρ st = .ok [.int (i : Int), .int (j : Int)] st) (hi : i ≤ 1000000) (hj : j ≤ 1000000) : iRange2 a ρ st = .ok ((List.range' i (j - i)).map fun i : Nat => D.int (i : Int), none) st := by
  simp only [iRange2_e, h, bind_ok, rangeL_2]
  rw [if_pos ⟨by omega, by omega, by omega, by omega⟩]
/-! enumerate, zip, slices -/
theorem enum_map {α : Type} (φ : α → D) : ∀ (k : Nat) (xs : List α), enumFromD k (xs.map φ) = (xs.zipIdx k).map fun p => D.tpl [.int (p.2 : Int), φ p.1]
  | _, [] => rfl
  | k, a :: xs => by
    rw [List.map_cons, enumFromD, enum_map φ (k + 1) xs, List.zipIdx_cons, List.map_cons]
theorem zip_map {α β : Type} (φ : α → D) (ψ : β → D) : ∀ (xs : List α) (ys : List β), zipD (xs.map φ) (ys.map ψ) = (xs.zip ys).map fun p => D.tpl [φ p.1, ψ p.2]
  | [], _ => rfl
  | _ :: _, [] => rfl
  | a :: xs, b :: ys => by
    rw [List.map_cons, List.map_cons, zipD, zip_map φ ψ xs ys, List.zip_cons_cons, List.map_cons]
theorem cut_1 (xs : List D) : cutD xs (some 1) none = xs.drop 1 := by
  unfold cutD HT.sIx
  simp
  cases xs with
  | nil => simp
  | cons a xs => simp
end PD
/-! PDX: words for going through the plain semantics. -/
namespace PD
open PySem PySem.Spec PyProof.Rows L2
theorem set_ne_e {ρ : Ev} {i j : Nat} {v : Option D} (h : i ≠ j) : (ρ.set i v)[j]? = ρ[j]? := List.getElem?_set_ne h
theorem set_eq_e {ρ : Ev} {i : Nat} {v : Option D} (h : i < ρ.length) : (ρ.set i v)[i]? = some v := by
  rw [List.getElem?_set_self h]
@[simp] theorem sDict0_e (ρ : Ev) (st : Sto) : sDict0 ρ st = .ok (.dk [] []) st := id rfl
end PD
local macro_rules
  | `(tactic| simp_arith! [$ls,*] $[$loc]?) => `(tactic| simp only [PD.sVar_e, PD.sC_e, PD.s2_e, PD.s1_e, PD.tTru_e, PD.tBl_e, PD.tAndD_e, PD.tOrD_e, PD.tNotD_e, PD.tYesD_e, PD.sAnd_e, PD.sOr_e, PD.sNotV_e, PD.sIf_e, PD.sChain_e, PD.aNil_e, PD.aCons_e, PD.sTup_e, PD.sLst_e, PD.sCall_e, PD.sB_e, PD.sIsI_e, PD.oInt_e, PD.oNone_e, PD.sM_e, PD.sDict0_e, PD.gN_e, PD.gT2_e, PD.gT2_p, PD.gT3_e, PD.wipe_nil, PD.wipe_cons, PD.qNext_e, PD.qSet_e, PD.qPar_e, PD.qAsg_e, PD.qExpr_e, PD.qRet_e, PD.qRetN_e, PD.qBrk_e, PD.qCnt_e, PD.qIf_e, PD.qSetIx_e, PD.qAsgS_e, PD.uN_e, PD.uIx_e, PD.uT2_e, PD.uSeq_nx, PD.qSeq_e, PD.qFor_e, PD.sListR1_e, PD.sSlice_e, PD.then_nx, PD.then_rt, PD.then_ct, PD.then_bk, PD.bind_ok, PD.bind_exc, PD.bind_bad, PD.st_ok, PD.st_exc, PD.st_bad, PD.nx_ok, PD.newL_f, PD.newL_t, PD.fAdd_i, PD.fSub_i, PD.fNeg_i, PD.fLt_i, PD.fLe_i, PD.fGt_i, PD.fGe_i, PD.fEq_i, PD.fNe_i, PD.fEq_b, PD.fNe_b, PD.truD_bl, PD.items_tup, PD.items_lst, PD.items_fz, PD.litems_lst, PD.dyn_tup, PD.dyn_lst, PD.dyn_fz, PD.dyn_ref, PD.bLen_tup, PD.bLen_lst, PD.bTuple_lst, PD.bTuple_tup, PD.bInt_i, PD.bAbs_i, PD.bMin2_i, PD.bMax2_i, PD.fIsN2_n, PD.fIsN2_t, PD.fNotN2_n, PD.fNotN2_t, PD.isTy_int, PD.isTy_bool, PD.isTy_tuple, List.getElem?_cons_succ, List.getElem?_cons_zero, List.set_cons_succ, List.set_cons_zero, List.getElem?_set, List.length_set, List.length_cons, List.length_nil, List.length_map, Nat.reduceEqDiff, Nat.reduceLT, Nat.reduceAdd, Nat.reduceLeDiff, Option.bind_some, if_true, if_false, ite_true, ite_false, Bool.not_true, Bool.not_false, Bool.false_eq_true, reduceIte, decide_true, decide_false, PySem.sizeLine_eq, eq_self, Nat.succ_ne_zero, Nat.zero_ne_one, Nat.one_ne_zero, ne_eq, not_true, not_false_iff, and_self, and_true, true_and, $ls,*] $[$loc]?)
namespace PD
open PySem PySem.Spec PyProof.Rows L2
/-! a refusal: a def that raises -/
theorem defFin_ex {n : Nat} {b : SS} {ds : List D} {st : Sto} {ρ : Ev} {k : Str} (hw : WF st) (h : b (startD n ds) st = some (.ex k [] ρ, st)) : defFin n b ds st = .exc k [] st := by
  unfold defFin defRaw
  rw [h]
  show fin st.length (.exc k [] st) = _
  unfold fin
  have e : st.take st.length = st := by simp
  simp only [e, List.isEmpty_nil, Bool.true_and]
  exact if_pos hw
/-! comprehensions that change the store -/
theorem lc_inv {α β : Type} {g : TgD} {e : SE} {ρ0 : Ev} {φ : α → D} {n : Nat} (ψ : β → D) (I : Sto → Prop) (P : α → β → Prop) : ∀ (xs : List α) (i : Nat) (st : Sto), I st →
    (∀ a ∈ xs, ∀ st, I st → ∃ ρ1, g (φ a) ρ0 = some ρ1 ∧ ∃ y st', e ρ1 st = .ok (ψ y) st' ∧ I st' ∧ P a y) →
    ∃ ys st', loopLC none n g tYesD e ρ0 i (xs.map φ) st = .ok (ys.map ψ) st' ∧ I st' ∧ ys.length = xs.length ∧ ∀ p ∈ xs.zip ys, P p.1 p.2
  | [], i, st, hi, h => ⟨[], st, rfl, hi, rfl, fun p hp => by simp at hp⟩
  | a :: xs, i, st, hi, h => by
    obtain ⟨ρ1, h1, y, st1, h2, hi1, hp⟩ := h a List.mem_cons_self st hi
    obtain ⟨ys, st2, h3, hi2, hl, hq⟩ := lc_inv (n := n) ψ I P xs (i + 1) st1 hi1 fun b hb => h b (List.mem_cons_of_mem _ hb)
    refine ⟨y :: ys, st2, ?_, hi2, by simp [hl], ?_⟩
    · rw [List.map_cons, loopLC]
      simp only [fetch, h1, tYesD_e, nx_ok, bind_ok, if_true, h2, h3, List.map_cons]
    · intro p hp'
      rw [List.zip_cons_cons] at hp'
      rcases List.mem_cons.mp hp' with rfl | hp'
      · exact hp
      · exact hq p hp'
theorem sLC_inv {α β : Type} {it : SI} {g : TgD} {e : SE} {vs : List Nat} {ρ : Ev} {st st0 : Sto} (xs : List α) (φ : α → D) (ψ : β → D) (I : Sto → Prop) (P : α → β → Prop) (hit : it ρ st0 = .ok (xs.map φ, none) st) (hz : xs.length ≤ sizeLine) (hi : I st)
    (h : ∀ a ∈ xs, ∀ st, I st → ∃ ρ1, g (φ a) (wipeD ρ vs) = some ρ1 ∧ ∃ y st', e ρ1 st = .ok (ψ y) st' ∧ I st' ∧ P a y) :
    ∃ ys st', sLC false it g tYesD e vs ρ st0 = .ok (.lst (ys.map ψ)) st' ∧ I st' ∧ ys.length = xs.length ∧ ∀ p ∈ xs.zip ys, P p.1 p.2 := by
  obtain ⟨ys, st', h1, h2, h3, h4⟩ := lc_inv (n := xs.length) ψ I P xs 0 st hi h
  refine ⟨ys, st', ?_, h2, h3, h4⟩
  unfold sLC
  rw [hit]
  simp only [bind_ok, List.length_map]
  rw [if_pos hz, h1]
  rfl
theorem for_loop_e {α : Type} {g : TgD} {b : SS} {st : Sto} {dy : Dy} {L : Nat} {ds : List D} {ρ : Ev} {r : Option (Fl × Sto)} (hL : loopFor dy L g b 0 ds ρ st = r) (xs : List α) (φ : α → D) (ed : ds = xs.map φ) (eL : L = xs.length) (I : List α → Ev → Sto → Prop) (R : D → Sto → Prop) (hS : ∀ r ρ st, I r ρ st → Still dy (xs.map φ) st) (h : I xs ρ st)
    (step : ∀ a r ρ st, I (a :: r) ρ st → ∃ ρ1, g (φ a) ρ = some ρ1 ∧ ((∃ ρ2 st2, (b ρ1 st = some (.nx ρ2, st2) ∨ b ρ1 st = some (.ct ρ2, st2)) ∧ I r ρ2 st2) ∨ ∃ d st2, b ρ1 st = some (.rt d, st2) ∧ R d st2)) :
    (∃ ρ' st', r = some (.nx ρ', st') ∧ I [] ρ' st') ∨ ∃ d st', r = some (.rt d, st') ∧ R d st' := by
  subst hL ed eL
  have q := for_loopS (all := xs.map φ) I R hS step xs 0 ρ st rfl h
  rw [List.length_map] at q
  exact q
/-! a list of words at the store's end -/
theorem litems_last (S : Sto) (ws : List D) : litems (S ++ [.lst ws]) (.ref S.length) = some ws := litems_ref (sto_get1 _ _)
theorem fAppend_last {S : Sto} {ws : List D} {w : D} (h : ws.length < sizeLine) : fAppend (.ref S.length) w (S ++ [.lst ws]) = .ok .non (S ++ [.lst (ws ++ [w])]) := by
  rw [fAppend_ref (sto_get1 _ _) h, sto_set1]
theorem toPys_words (st : Sto) (n : Nat) : ∀ (ws : List Str), ws.all (fun w => PyData.canLay0 (.str w)) = true → allSome ((ws.map D.str).map (toPy st n)) = some (ws.map PyData.str)
  | [], _ => rfl
  | w :: ws, h => by
    rw [List.all_cons, Bool.and_eq_true] at h
    have e : toPy st n (.str w) = some (.str w) := by
      cases n <;> simp [toPy, atomPy, h.1]
    rw [List.map_cons, List.map_cons, e, allSome, toPys_words st n ws h.2]
    rfl
theorem eqvAll_words : ∀ (ws vs : List Str), PyData.eqvAll (ws.map PyData.str) (vs.map PyData.str) = decide (ws = vs)
  | [], [] => rfl
  | [], _ :: _ => rfl
  | _ :: _, [] => rfl
  | w :: ws, v :: vs => by
    rw [List.map_cons, List.map_cons, PyData.eqvAll, eqvAll_words ws vs]
    by_cases h : w = v <;> simp [PyData.eqv, h]
theorem fNe_words (S : Sto) (ws : List Str) (h : ws.all (fun w => PyData.canLay0 (.str w)) = true) : fNe (.ref S.length) (.lst (ws.map D.str)) (S ++ [.lst (ws.map D.str)]) = .ok (.bl false) (S ++ [.lst (ws.map D.str)]) := by
  have a : toPy (S ++ [.lst (ws.map D.str)]) 60 (.ref S.length) = some (.list (ws.map .str)) := by
    rw [toPy]
    simp only [sto_get1, toPys_words _ _ ws h, Option.map_some]
  have b : toPy (S ++ [.lst (ws.map D.str)]) 60 (.lst (ws.map D.str)) = some (.list (ws.map .str)) := by
    rw [toPy]
    simp only [toPys_words _ _ ws h, Option.map_some]
  unfold fNe
  rw [a, b]
  simp [PyData.eqv, eqvAll_words]
theorem noRefs_words (n : Nat) (ws : List Str) : noRefs n (ws.map D.str) = true := noRefs_all fun d hd => by
  obtain ⟨w, _, rfl⟩ := List.mem_map.mp hd
  rfl
theorem wf_words {S : Sto} (hw : WF S) (ws : List Str) : WF (S ++ [.lst (ws.map D.str)]) := hw.app (noRefs_words _ ws)
end PD
/-! PDMisc: constants that are tuples, isinstance of two classes, {k: v}, a def that calls itself, shifts, tuple.count. -/
namespace PD
open PySem PySem.Spec PyProof.Rows L2
section
variable {X : Cx} {T : List (Addr × Str)} {W : WX} {a b e : Expr} {fa fb fe : SE} {pos p : Pos} {x : Str}
/-! ### a constant of the module that is a tuple of ints -/
def TupK (K : PySem.W.Frag) (q : Addr) (ns : List Int) : Prop := ∃ (o : Obj) (its : Array Value) (n : Nat), K.lookup q = some o ∧ o.cls = .type "tuple" ∧ o.dict = none ∧ o.data = .seq its n ∧ its.size ≤ sizeLine ∧ Vals (ns.map V.int) its.toList
theorem pd_gtup {ns : List Int} (hg : Gl X x) (hm : ∃ q, X.mg x = some (.ref q) ∧ TupK X.K q ns) (hd : (x == ("__debug__" : Str)) = false := by decide) : PE X (.Name x pos) (tD (zX X T) W (sC (.tup (ns.map D.int)))) := by
  obtain ⟨q, hm, hk⟩ := hm
  refine PE.wk (pe_glob (v := .ref q) hg hm rfl hd) fun σ H Q ⟨g, ρ, st, S, E, h⟩ => EPost.val S (fun g' => ?_) h
  obtain ⟨o, its, n, h1, h2, hd', h3, h4, h5⟩ := hk
  refine .tup (vs := ns.map V.int) (.inr ⟨o, its, n, h1, h2, hd', h3, h4, h5⟩) ?_ (reps_ofInts ns)
  have := h5.length
  rw [this, Array.length_toList]
  exact h4
/-! ### isinstance(x, (t, u)) -/
def sIsT (t u : TyN) (e : SE) : SE := fun ρ st => (e ρ st).bind fun d st => match isTy t d, isTy u d with | some b, some c => .ok (.bl (b || c)) st | _, _ => .bad
@[simp] theorem sIsT_e (t u : TyN) (e : SE) (ρ : Ev) (st : Sto) : sIsT t u e ρ st = (e ρ st).bind fun d st => match isTy t d, isTy u d with | some b, some c => .ok (.bl (b || c)) st | _, _ => .bad := id rfl
theorem ty_of {K : PySem.W.Frag} {g : G} {st : Sto} {H : Hp} {d : D} {v : V} {t0 : TyN} {b0 : Bool} (S : Sim K T g st H) (r : Rep K g d v) (h0 : isTy t0 d = some b0) : ∃ s : String, TyX K H v (.type s) ∧ ∀ (t : TyN) (b : Bool), isTy t d = some b → kitB s (tyNm t) = some b := by
  cases d with
  | non => cases r; refine ⟨_, .base .non, fun t b h => ?_⟩; cases t <;> cases h <;> decide +kernel
  | bl k => cases r; refine ⟨_, .base (.bl k), fun t b h => ?_⟩; cases t <;> cases h <;> decide +kernel
  | int k => cases r; refine ⟨_, .base (.int k), fun t b h => ?_⟩; cases t <;> cases h <;> decide +kernel
  | str k => cases r; refine ⟨_, .base (.str k), fun t b h => ?_⟩; cases t <;> cases h <;> decide +kernel
  | tup xs =>
    obtain ⟨a, vs, rfl, h1, h2, h3⟩ := S.tup r
    have ty : TyX K H (.ref a) (.type "tuple") := by
      rcases h1 with (h1 | ⟨o, h1⟩) | ⟨o, its, n, h1, h2, _⟩
      · exact .base (.tup h1)
      · exact .fTuple h1
      · exact .kTuple h1 h2
    refine ⟨_, ty, fun t b h => ?_⟩; cases t <;> cases h <;> decide +kernel
  | lst xs =>
    obtain ⟨a, vs, rfl, h1, h2, h3⟩ := S.litems (xs := xs) r rfl
    refine ⟨_, .base (.lst h1), fun t b h => ?_⟩; cases t <;> cases h <;> decide +kernel
  | dk ks xs =>
    cases r with
    | dk e _ _ => refine ⟨_, .base (.dK (S.sub _ _ e)), fun t b h => ?_⟩; cases t <;> cases h <;> decide +kernel
  | _ => cases t0 <;> cases h0
theorem kitAny_two {K : PySem.W.Frag} {w c1 c2 : Value} {b c : Bool} (h1 : PySem.W.kitOne K w c1 = some b) (h2 : PySem.W.kitOne K w c2 = some c) : PySem.W.kitAny K w [c1, c2] = some (b || c) := by
  unfold PySem.W.kitAny
  rw [h1]
  cases b with
  | true => rfl
  | false =>
    unfold PySem.W.kitAny
    rw [h2]
    cases c <;> rfl
theorem pd_isT {t u : TyN} {n1 n2 : Str} {p0 p1 p2 p3 : Pos} {k : Nat} (hg : Gl X "isinstance") (hm : X.mg "isinstance" = none) (hg1 : Gl X n1) (hm1 : X.mg n1 = none) (hv1 : bootBuiltins n1 = some (.type (tyNm t))) (hg2 : Gl X n2) (hm2 : X.mg n2 = none) (hv2 : bootBuiltins n2 = some (.type (tyNm u))) (ha : PE X a (tD (zX X T) W fa))
    (hn1 : n1 ≠ "__name__" := by decide) (hd1 : (n1 == ("__debug__" : Str)) = false := by decide) (hn2 : n2 ≠ "__name__" := by decide) (hd2 : (n2 == ("__debug__" : Str)) = false := by decide)
    (hs1 : starEach [.Name n1 p1, .Name n2 p2] X.env = (false, eval (.Name n1 p1) X.env) :: starEach [.Name n2 p2] X.env := by rfl) (hs2 : starEach [.Name n2 p2] X.env = (false, eval (.Name n2 p2) X.env) :: starEach [] X.env := by rfl)
    (he : starEach [a, .Tuple [.Name n1 p1, .Name n2 p2] k p3] X.env = (false, eval a X.env) :: starEach [.Tuple [.Name n1 p1, .Name n2 p2] k p3] X.env := by rfl) (hpl : (backTo pos (starEach [.Tuple [.Name n1 p1, .Name n2 p2] k p3] X.env)).any (·.1) = false := by rfl) (hs : starEach [.Tuple [.Name n1 p1, .Name n2 p2] k p3] X.env = (false, eval (.Tuple [.Name n1 p1, .Name n2 p2] k p3) X.env) :: starEach [] X.env := by rfl) :
    PE X (.Call (.Name "isinstance" p0) [a, .Tuple [.Name n1 p1, .Name n2 p2] k p3] [] pos) (tD (zX X T) W (sIsT t u fa)) := by
  have b1 : PE X (.Name n1 p1) (tC (.ty (tyNm t))) := pe_bltn hg1 hm1 hv1 rfl hn1 hd1
  have b2 : PE X (.Name n2 p2) (tC (.ty (tyNm u))) := pe_bltn hg2 hm2 hv2 rfl hn2 hd2
  have bt := pe_tup (pos := p3) (x1 := k) (pa_cons b1 (pa_cons b2 pa_nil hs2) hs1)
  refine PE.wk (pe_callB call_isiT hg hm (by decide +kernel) (pa_cons ha (pa_cons bt pa_nil hs) he) (he := he) (hpl := hpl)) fun σ H Q ⟨g, ρ, st, S, E, q⟩ => ?_
  refine ⟨g, ρ, st, S, E, Sat.mono (sat_bind q) (fun d st1 q1 g1 H1 v L1 S1 r1 => ?_) fun _ _ _ q => q⟩
  split at q1
  · rename_i b c hb hc
    obtain ⟨s, ty, kk⟩ := ty_of S1 r1 hb
    refine ⟨by show 2 ≤ sizeLine; decide, fun tp hp => ?_⟩
    obtain ⟨S', L'⟩ := S1.allocB (o := .tup [.ty (tyNm t), .ty (tyNm u)]) hp (fun _ => by simp)
    obtain ⟨s2, ty2, kk2⟩ := ty_of S' (r1.mono L'.ge) hb
    exact ⟨v, tp, _, _, [.type (tyNm t), .type (tyNm u)], (b || c), rfl, upd_same, .cons (.ty _) (.cons (.ty _) .nil), ty2, kitAny_two (kt (kk2 t b hb)) (kt (kk2 u c hc)), q1 _ _ _ (L1.trans L') S' (.bl _)⟩
  · exact q1.elim
/-! ### 1 << k -/
def fShl (x y : D) (st : Sto) : Out D := match x, y with
  | .int i, .int j => if i = 1 ∧ 0 ≤ j ∧ j ≤ 1000 then .ok (.int (2 ^ j.toNat)) st else .bad
  | _, _ => .bad
theorem pd_shl (ha : PE X a (tD (zX X T) W fa)) (hb : PE X b (tD (zX X T) W fb)) : PE X (.BinOp a .LShift b pos) (tD (zX X T) W (s2 fShl fa fb)) := pd_op op_oneShl (by
  intro W σ g st H dx dy x y Q S rx ry h
  unfold fShl at h
  split at h
  · rename_i i j
    split at h
    · rename_i hz
      obtain ⟨rfl, h1, h2⟩ := hz
      cases rx; cases ry
      exact ⟨j.toNat, rfl, by rw [Int.toNat_of_nonneg h1], by omega, EPost.val S (fun _ => .int _) h⟩
    · exact h.elim
  · exact h.elim) ha hb
/-! ### t.count(i) -/
def fCountT (x y : D) (st : Sto) : Out D := match x, y with
  | .tup xs, .int k => (match allInt xs with | some is => .ok (.int (is.count k : Nat)) st | none => .bad)
  | _, _ => .bad
/-- a tuple's method of one argument -/
def sMT (f : D → D → Sto → Out D) (o e : SE) : SE := fun ρ st => (o ρ st).bind fun x st => match x with
  | .tup _ => (e ρ st).bind fun y st => f x y st
  | _ => .bad
@[simp] theorem sMT_e (f : D → D → Sto → Out D) (o e : SE) (ρ : Ev) (st : Sto) : sMT f o e ρ st = (o ρ st).bind fun x st => match x with
  | .tup _ => (e ρ st).bind fun y st => f x y st
  | _ => .bad := id rfl
theorem fCountT_i {xs : List Int} {k : Int} (st : Sto) : fCountT (.tup (xs.map D.int)) (.int k) st = .ok (.int (xs.count k : Nat)) st := by
  have e : allInt (xs.map D.int) = some xs := by
    induction xs with
    | nil => rfl
    | cons x xs ih => rw [List.map_cons, allInt, ih]; rfl
  unfold fCountT
  dsimp only
  rw [e]
def eqi (k : Int) : Value → Bool
  | .int i _ => decide (i = k)
  | _ => false
theorem eqi_count (k : Int) : ∀ {ns : List Int} {us : List Value}, Vals (ns.map V.int) us → us.countP (eqi k) = ns.count k ∧ ∀ y ∈ us, ∃ i t, y = .int i t
  | [], _, r => by cases r; exact ⟨rfl, fun y hy => by cases hy⟩
  | n :: ns, _, r => by
    rw [List.map_cons] at r
    cases r with
    | cons r1 r2 =>
      obtain ⟨t, rfl⟩ := r1
      obtain ⟨h1, h2⟩ := eqi_count k r2
      refine ⟨?_, fun y hy => ?_⟩
      · rw [List.countP_cons, List.count_cons, h1]
        simp [eqi]
      · rcases List.mem_cons.mp hy with rfl | hy
        · exact ⟨_, _, rfl⟩
        · exact h2 y hy
theorem sqN_ty {pins : List (Addr × Obj)} {σ : L2.St} {H : Hp} {s : Shared} {p : Addr} {ws : List V} (I : Inv X pins σ H s) (h : SqN X.K H p ws) : s.TypeIs (.ref p) "tuple" ∧ ∀ b, Value.ref p = .ref b → ∃ ob, s.heap.get? b = some ob ∧ ob.dict = none := by
  rcases h with ⟨o, hd, e⟩ | ⟨o, its, n, h1, h2, hd, _⟩
  · obtain ⟨e1, _, _, _, o2, e2, c, _⟩ := (show ObjOk X.prog X.w H s.heap p (.frz o (.tup ws)) from I.hok p _ e)
    rw [e1] at e2
    cases e2
    exact ⟨⟨o, e1, c⟩, fun b z => by cases z; exact ⟨o, e1, hd⟩⟩
  · exact ⟨⟨o, I.kIn p o h1, h2⟩, fun b z => by cases z; exact ⟨o, I.kIn _ o h1, hd⟩⟩
theorem pd_countT {o : Expr} {fo : SE} {apos cpos : Pos} (ho : PE X o (tD (zX X T) W fo)) (he : PE X e (tD (zX X T) W fe)) (hst : starEach [e] X.env = (false, eval e X.env) :: starEach [] X.env := by rfl)
    (hbase : attributeBase o "count" X.env (eval o X.env) = eval o X.env := by rfl)
    (hfew : ((backTo cpos (starEach [e] X.env)).all (fun x => !x.1) && (backToKw cpos (keywordEach [] X.env)).all (fun x => x.1.isSome)
      && decide ([e].length + ([] : List Keyword).length + (if ([] : List Keyword).isEmpty then 0 else 1) < 30)) = true := by rfl)
    (hline : (apos.endLine == cpos.line) = true := by rfl) (hplain : (backTo cpos (starEach [] X.env)).any (·.1) = false := by rfl) :
    PE X (.Call (.Attribute o "count" apos) [e] [] cpos) (tD (zX X T) W (sMT fCountT fo fe)) := by
  refine ⟨fun pins s σ H Q I ⟨g, ρ, st, S, E, q⟩ => ?_⟩
  refine wpAny_Call_method_late hbase hfew hline rfl (thn (ho.run pins s σ H (fun x H1 => ∃ g1 st1 d, Le g g1 H H1 ∧ Sim X.K T g1 st1 H1 ∧ Rep X.K g1 d x ∧ EPost (zX X T) W σ Q g1 H1 (match d with | .tup _ => (fe ρ st1).bind fun y st => fCountT d y st | _ => .bad)) I
    ⟨g, ρ, st, S, E, Sat.mono (sat_bind q) (fun d st1 q1 g1 H1 v L1 S1 r1 => ⟨g1, st1, d, L1, S1, r1, EPost.mono L1 q1⟩) fun _ _ _ q => q⟩) fun v s1 ⟨x, H1, I1, r1, g1, st1, d, L1, S1, rd, q1⟩ => ?_)
  split at q1
  · rename_i xs
    obtain ⟨a, vs, rfl, h1, h2, h3⟩ := S1.tupN rd
    cases r1
    obtain ⟨t1, t2⟩ := sqN_ty I1 h1
    refine ⟨"tuple", "tuple.count", PySem.F.plainAttrs_tuple, PySem.F.slot_tuple_count, PySem.F.type_tuple_count, t1, t2, ?_⟩
    have hA := (pa_consD (W := W) (T := T) he pa_nilD hst).run cpos pins s1 σ H1 (fun vs H2 => ∃ g2 st2 k y, vs = [y] ∧ Le g1 g2 H1 H2 ∧ Sim X.K T g2 st2 H2 ∧ Rep X.K g2 k y ∧ EPost (zX X T) W σ Q g2 H2 (fCountT (.tup xs) k st2)) I1
      ⟨g1, ρ, st1, S1, E.mono L1.ge, ?_⟩
    · rw [hst] at hA ⊢
      refine Calls.callWith_builtin (by show (false || (backTo cpos (starEach [] X.env)).any (·.1)) = false; rw [hplain] <;> rfl) (Calls.evalArgs_plain ?_)
      refine thn hA fun us s2 ⟨ys, H2, I2, r2, g2, st2, k, y, e2, L2, S2, rk, q2⟩ => ?_
      subst e2
      obtain ⟨u, rfl, ru⟩ := r2.one
      unfold fCountT at q2
      split at q2
      · rename_i zs kk hz1
        cases hz1
        split at q2
        · rename_i is hi
          cases rk
          obtain ⟨tk, rfl⟩ := ru
          obtain ⟨a2, vs2, ea, k1, k2, k3⟩ := S2.tupN (rd.mono L2.ge)
          cases ea
          have hv := allInt_of k3 hi
          subst hv
          obtain ⟨its, rv, ⟨⟨cls, dd, data, sl⟩, ho2, hc, n, hd⟩, hlen⟩ := I2.tuple k1.t
          simp only at hc hd
          subst hc hd
          obtain ⟨c1, c2⟩ := eqi_count kk rv
          refine call_meets PySem.F.slot_tuple_count ⟨_, ho2, rfl⟩ PySem.F.entry_tuple_count (PySem.F.args_tuple_count_2 _ _)
            (SeqAt.tuple_countAt a its.toArray n dd sl (.int kk tk) (eqi kk)) ⟨ho2, fun y hy => ?_, ?_⟩
          · obtain ⟨i, t, rfl⟩ := c2 y (by simpa using hy)
            exact SeqAt.EqAt.int_int i t kk tk
          · refine ⟨.int (is.count kk : Nat), H2, I2.tok _, ⟨s2.toks, ?_⟩, EPost.val S2 (fun _ => .int _) q2⟩
            show Value.int ((its.countP (eqi kk) : Nat) : Int) s2.toks = Value.int ((is.count kk : Nat) : Int) s2.toks
            rw [c1]
        · exact q2.elim
      · exact q2.elim
    · refine sat_bind' (Sat.mono (sat_bind q1) (fun d2 st2 q2 => ?_) fun _ _ _ q => q)
      intro g2 H2 v2 L2 S2 r2
      cases r2 with
      | cons r2 r3 =>
        cases r3
        exact ⟨g2, st2, d2, _, rfl, L2, S2, r2, EPost.mono L2 q2⟩
  · exact q1.elim
/-! ### {k: e}, k written -/
theorem Sim.grow {K : PySem.W.Frag} {g : G} {st : Sto} {H : Hp} {p : Addr} {o : HO} (S : Sim K T g st H) (h : H p = none) : Sim K T g st (upd H p o) :=
  have k : ∀ a u, H a = some u → upd H p o a = some u := fun a u e => by rw [upd_ne (ne_of_none e h)]; exact e
  ⟨fun a u e => k _ _ (S.sub a u e), S.len, S.nd, fun a ha => let ⟨u, e, q⟩ := S.there a ha; ⟨u, k _ _ e, q⟩, fun l a mo e1 e2 => (S.obj l a mo e1 e2).mono (Ge.refl g) (fun z => z) (k a), S.tabs.ext k, S.tb⟩
theorem Sim.poke {K : PySem.W.Frag} {g : G} {st : Sto} {H : Hp} {p : Addr} {kvs kvs' : List (Key × V)} (S : Sim K T g st H) (hu : H p = some (.dK kvs)) (hb : g.B p = none) (hi : p ∉ g.ι) : Sim K T g st (upd H p (.dK kvs')) := by
  have nι : ∀ {l : Nat} {b : Addr}, g.ι[l]? = some b → b ≠ p := fun e z => hi (z ▸ List.mem_of_getElem? e)
  refine ⟨fun a u e => ?_, S.len, S.nd, fun a ha => ?_, fun l a mo e1 e2 => (S.obj l a mo e1 e2).mono (Ge.refl g) (fun z => z) fun u z => by rw [upd_ne (nι e1)]; exact z, fun q hq => ?_, S.tb⟩
  · rw [upd_ne (ne_of_none e hb)]; exact S.sub a u e
  · obtain ⟨u, e, q⟩ := S.there a ha
    have na : a ≠ p := fun z => by subst z; exact hi ha
    exact ⟨u, by rw [upd_ne na]; exact e, q⟩
  · obtain ⟨ps, h1, h2, h3⟩ := S.tabs q hq
    have n1 : q.1 ≠ p := fun z => by rw [z, hu] at h1; cases h1
    refine ⟨ps, by rw [upd_ne n1]; exact h1, h2, fun pos cv hc => ?_⟩
    obtain ⟨c, e1, e2⟩ := h3 pos cv hc
    have n2 : c ≠ p := fun z => by rw [z, hu] at e2; cases e2
    exact ⟨c, e1, by rw [upd_ne n2]; exact e2⟩
theorem Sim.adoptB {K : PySem.W.Frag} {g : G} {st : Sto} {H : Hp} {p : Addr} {o : HO} (S : Sim K T g st H) (hu : H p = some o) (hb : g.B p = none) (hi : p ∉ g.ι) (ho : ∀ ps, o ≠ .tbl ps) : Sim K T ⟨upd g.B p o, g.ι⟩ st H ∧ Ge g ⟨upd g.B p o, g.ι⟩ := by
  have ge : Ge g ⟨upd g.B p o, g.ι⟩ := ⟨fun a u e => by show upd g.B p o a = some u; rw [upd_ne (ne_of_none e hb)]; exact e, fun _ _ e => e⟩
  have nι : ∀ {l : Nat} {b : Addr}, g.ι[l]? = some b → b ≠ p := fun e z => hi (z ▸ List.mem_of_getElem? e)
  refine ⟨⟨fun a u e => ?_, S.len, S.nd, S.there, fun l b mo e1 e2 => (S.obj l b mo e1 e2).mono ge (fun z => by show upd g.B p o b = none; rw [upd_ne (nι e1)]; exact z) fun u z => z, S.tabs, fun a u e ps => ?_⟩, ge⟩
  · have e : upd g.B p o a = some u := e
    by_cases ha : a = p
    · subst ha; rw [upd_same] at e; cases e; exact hu
    · rw [upd_ne ha] at e; exact S.sub a u e
  · have e : upd g.B p o a = some u := e
    by_cases ha : a = p
    · subst ha; rw [upd_same] at e; cases e; exact ho ps
    · rw [upd_ne ha] at e; exact S.tb a u e ps
def sDict1 (k : Int) (e : SE) : SE := fun ρ st => (e ρ st).bind fun d st => .ok (.dk [.inl k] [d]) st
@[simp] theorem sDict1_e (k : Int) (e : SE) (ρ : Ev) (st : Sto) : sDict1 k e ρ st = (e ρ st).bind fun d st => .ok (.dk [.inl k] [d]) st := id rfl
theorem pd_dict1 {k : Int} {j : Nat} {p1 : Pos} (he : PE X e (tD (zX X T) W fe)) : PE X (.Dict [some (.Constant (.int k) j p1)] [e] pos) (tD (zX X T) W (sDict1 k fe)) :=
  PE.wk (pe_disp (pps_cons pe_int he pps_nil) rfl rfl (by simp) (Nat.le_of_ble_eq_true rfl)) fun σ H Q ⟨g, ρ, st, S, E, q⟩ p hp => by
    refine ⟨g, ρ, st, S.grow hp, E, Sat.mono (sat_bind q) (fun d st1 q1 g1 H1 v L1 S1 r1 => ?_) fun n fs st1 q1 => ?_⟩
    · obtain ⟨f1, f2, f3⟩ := L1.fr p _ upd_same (S.freshB hp) (S.freshI hp) (fun ps => by simp)
      refine ⟨f1, [(.inl k, v)], rfl, Nat.le_of_ble_eq_true rfl, ?_⟩
      obtain ⟨S3, ge⟩ := (S1.poke (kvs' := mergeK [] [(.inl k, v)]) f1 f2 f3).adoptB upd_same f2 f3 (fun ps => by simp)
      refine q1 _ _ _ ⟨L1.ge.trans ge, fun a u e1 e2 e3 e4 => ?_⟩ S3 (.dk (ks := [.inl k]) (vs := [v]) upd_same rfl (.one (r1.mono ge)))
      have na : a ≠ p := ne_of_none e1 hp
      obtain ⟨h1, h2, h3⟩ := L1.fr a u (by rw [upd_ne na]; exact e1) e2 e3 e4
      exact ⟨by rw [upd_ne na]; exact h1, by show upd g1.B p _ a = none; rw [upd_ne na]; exact h2, h3⟩
    · exact fun g' H' dx L' S' X' => q1 g' H' dx ⟨L'.ge, fun a u e1 e2 e3 e4 => L'.fr a u (by rw [upd_ne (ne_of_none e1 hp)]; exact e1) e2 e3 e4⟩ S' X'
/-! ### a def that calls itself: at depth 0 nothing is promised -/
def fNone : List D → Sto → Out D := fun _ _ => .bad
theorem fn_none {P : Program} {w : World} {K : PySem.W.Frag} {mg : Str → Option Value} {base : Heap} {k n : Nat} {f : Addr} {fd : FuncData} {ps : List Str} : FnOk P w K mg base (L2.CX P w) k f fd ps (spD ⟨K, T, mg⟩ n fNone) :=
  ⟨fun vs H Q E ⟨_, g, ds, st, _, _, q⟩ => q.elim, fun A outer s H args us vs Q E hr he hb hv ⟨_, g, ds, st, _, _, q⟩ => q.elim⟩
/-- a while loop's turns, by a number that grows less -/
def fuelI (i : Nat) : Ev → Sto → Nat := fun ρ _ => match ρ[i]? with | some (some (.int k)) => k.natAbs + 1 | _ => 0
/-! ### simp -/
theorem isTy_two (t u : TyN) (e : SE) (ρ : Ev) (st : Sto) {d : D} {b c : Bool} {st' : Sto} (h : e ρ st = .ok d st') (h1 : isTy t d = some b) (h2 : isTy u d = some c) : sIsT t u e ρ st = .ok (.bl (b || c)) st' := by
  unfold sIsT
  rw [h, bind_ok]
  simp only [h1, h2]
theorem fShl_63 (st : Sto) : fShl (.int 1) (.int 63) st = .ok (.int 9223372036854775808) st := rfl
end
end PD
/-! PDEnd: the law's promise, from what its def computes. -/
namespace PD
open PySem PySem.Spec PyProof.Rows L2
/-- the law: of a script of up to 63 ints, True -/
def spLaw (K : PySem.W.Frag) : Sp := fun vs H Q _ => ∃ (a : Addr) (ns : List Int), vs = [.ref a] ∧ ns.length ≤ 63 ∧ Only H ∧ SqL K H a (ns.map V.int) ∧ ∀ H', Q (.bl true) H'
theorem law_spD {K : PySem.W.Frag} {mg : Str → Option Value} {F : List D → Sto → Out D} (hF : ∀ ns : List Int, ns.length ≤ 63 → ∃ st', F [.fz (ns.map D.int)] [] = .ok (.bl true) st') {vs : List V} {H : Hp} {Q : VK} {E : XK} (h : spLaw K vs H Q E) : spD ⟨K, [], mg⟩ 1 F vs H Q E := by
  obtain ⟨a, ns, rfl, hl, hO, hS, q⟩ := h
  obtain ⟨st', e⟩ := hF ns hl
  have tb : ∀ a o, H a = some o → ∀ ps, o ≠ .tbl ps := fun b o e ps => by
    rcases hO b with h | ⟨o', xs, h⟩
    · rw [h] at e; cases e
    · rw [h] at e; cases e; simp
  refine ⟨rfl, ⟨H, []⟩, [.fz (ns.map D.int)], [], ⟨fun _ _ h => h, rfl, List.nodup_nil, fun b hb => absurd hb (by simp), fun l b mo h => by simp at h, ?_, tb⟩, .cons (.fz hS ?_ (reps_ofInts ns)) .nil, ?_⟩
  · first | exact fun p hp => absurd hp (by simp) | trivial
  · rw [List.length_map]
    have := sizeLine_eq
    omega
  · rw [e]
    intro g' H' v _ _ r
    cases r
    exact q H'
theorem spLaw_of {K : PySem.W.Frag} {H : Hp} {a : Addr} {ns : List Int} (hl : ns.length ≤ 63) (hO : Only H) (hS : SqL K H a (ns.map V.int)) : spLaw K [.ref a] H (fun v _ => v = .bl true) fun _ _ _ => False :=
  ⟨a, ns, rfl, hl, hO, hS, fun _ => rfl⟩
theorem noCX {P : Program} {w : World} {outer : List Env} {H : Hp} {s : Shared} {e : Value} {s' : Shared} (h : L2.CX P w outer H s (fun _ _ _ => False) e s') : False := by
  obtain ⟨_, _, _, _, _, _, _, _, _, _, _, _, h⟩ := h
  exact h
/-- the goal that k_head leaves, from the defs' promises -/
theorem walk_ofD {l : PySem.W.OpenLaw} {k : Nat} {q : Program} {loose : List Str} {XP : (Str → Option Value) → Heap → Prop} {YP : World → Heap → Prop} {d : DefRec} {K : Params → PySem.W.Frag} {x : Str}
    (hn : l.most = some 63) (hdf : d.params.defaults = []) (hr : Room k callerA)
    (hY : ∀ (w : World) (h : Heap), YP w h → (K w.params).In h)
    (F : ∀ (w : World) (mg : Str → Option Value) (fa : Addr) (h : Heap), (K w.params).In h → h.Ns mainGlobals mg → mg d.name = some (.ref fa) →
      ∃ fd : FuncData, (∀ (s : Shared) (u : Value), BindsTo s fd ⟨[u], []⟩ [(x, u)]) ∧
        ∀ base : Heap, (K w.params).In base → base.Ns mainGlobals mg → FnOk l.prog w (K w.params) mg base (L2.CX l.prog w) k fa fd [x] (spLaw (K w.params))) :
    PySem.W.WalkO q loose XP YP l.row.toRowW d [] (fun f vs => PySem.call f vs) :=
  walk_of (CX := fun w => L2.CX l.prog w) (sp := fun w => spLaw (K w.params)) hn (by decide) hdf hr hY F (fun _ _ _ _ hl hO hS => spLaw_of hl hO hS) fun _ _ _ _ _ h => noCX h
end PD
/-! PDEndL: the promise of a law that holds lambdas. -/
namespace PD
open PySem PySem.Spec PyProof.Rows L2
def notTbl (H : Hp) : Hp := fun b => match H b with | some (.tbl _) => none | o => o
theorem notTbl_sub {H : Hp} {b : Addr} {o : HO} (h : notTbl H b = some o) : H b = some o ∧ ∀ ps, o ≠ .tbl ps := by
  unfold notTbl at h
  split at h
  · cases h
  · rename_i o' hn
    exact ⟨h, fun ps e => hn ps (by rw [h, e])⟩
theorem notTbl_of {H : Hp} {b : Addr} {o : HO} (h : H b = some o) (n : ∀ ps, o ≠ .tbl ps) : notTbl H b = some o := by
  unfold notTbl
  split
  · rename_i ps e
    rw [h] at e
    cases e
    exact (n ps rfl).elim
  · exact h
theorem sqL_notTbl {K : PySem.W.Frag} {H : Hp} {a : Addr} {vs : List V} : SqL K H a vs → SqL K (notTbl H) a vs
  | .inl (.inl e) => .inl (.inl (notTbl_of e (by simp)))
  | .inl (.inr ⟨o, e⟩) => .inl (.inr ⟨o, notTbl_of e (by simp)⟩)
  | .inr x => .inr x
theorem law_spT {K : PySem.W.Frag} {mg : Str → Option Value} {F : List D → Sto → Out D} {Pt : Addr} {q : Str} (hF : ∀ ns : List Int, ns.length ≤ 63 → ∃ st', F [.fz (ns.map D.int)] [] = .ok (.bl true) st') {H : Hp} {a : Addr} {ns : List Int} (hl : ns.length ≤ 63) (hP : H Pt = some (.tbl #[])) (hS : SqL K H a (ns.map V.int)) :
    spD ⟨K, [(Pt, q)], mg⟩ 1 F [.ref a] H (fun v _ => v = .bl true) fun _ _ _ => False := by
  obtain ⟨st', e⟩ := hF ns hl
  refine ⟨rfl, ⟨notTbl H, []⟩, [.fz (ns.map D.int)], [], ⟨fun _ _ h => (notTbl_sub h).1, rfl, List.nodup_nil, fun b hb => absurd hb (by simp), fun l b mo h => by simp at h, ?_, fun _ _ h => (notTbl_sub h).2⟩, .cons (.fz (sqL_notTbl hS) ?_ (reps_ofInts ns)) .nil, ?_⟩
  · intro p hp
    rw [List.mem_singleton.mp hp]
    exact LamX.TabS.nil hP
  · rw [List.length_map]
    have := sizeLine_eq
    omega
  · rw [e]
    intro g' H' v _ _ r
    cases r
    rfl
end PD
namespace Lw87
open PySem PD
def b_is_integer : SS := (qRet (sAnd (sIsI .int (sVar 0)) (sNotV (sIsI .bool (sVar 0)))))
def F_is_integer : List D → Sto → Out D := defFin 1 b_is_integer
def b_is_within : SS := (qRet (sAnd (sCall 1 F_is_integer (aCons (sVar 0) aNil)) (sChain fLe fLe (sVar 1) (sVar 0) (sVar 2))))
def F_is_within : List D → Sto → Out D := defFin 3 b_is_within
def b_is_sized : SS := (qRet (sAnd (sIsI .tuple (sVar 0)) (sChain fLe fLe (sVar 1) (sB bLen (aCons (sVar 0) aNil)) (sVar 2))))
def F_is_sized : List D → Sto → Out D := defFin 3 b_is_sized
def b_is_table : SS := (qSeq (qIf (tOrD (tNotD (tTru (sCall 3 F_is_sized (aCons (sVar 0) (aCons (sC (.int 1)) (aCons (sC (.int 7)) aNil)))))) (tNotD (tTru (sB bAll (aCons (sLC false (iSeq (sVar 0)) (gN 2) tYesD (sCall 3 F_is_sized (aCons (sVar 2) (aCons (sB bLen (aCons (sVar 0) aNil)) (aCons (sB bLen (aCons (sVar 0) aNil)) aNil)))) [2]) aNil))))) (qRet (sC (.bl false))) qNext)
    (qSeq (qFor (iEnum (aCons (sVar 0) aNil)) (gT2 (gN 1) (gN 2))
    (qSeq (qIf (tNotD (tTru (sB bAll (aCons (sLC false (iSeq (sVar 2)) (gN 3) tYesD (sCall 3 F_is_within (aCons (sVar 3) (aCons (sC (.int 0)) (aCons (sC (.int 1000)) aNil)))) [3]) aNil)))) (qRet (sC (.bl false))) qNext)
    (qIf (tTru (sB bAny (aCons (sLC false (iEnum (aCons (sVar 2) aNil)) (gT2 (gN 4) (gN 3)) tYesD (s2 fNe (s2 fEq (sVar 3) (sC (.int 0))) (s2 fEq (sVar 1) (sVar 4))) [4, 3]) aNil))) (qRet (sC (.bl false))) qNext)))
    (qRet (sB bAll (aCons (sLC false (iEnum (aCons (sVar 0) aNil)) (gT2 (gN 1) (gN 2)) tYesD (sB bAll (aCons (sLC false (iRange1 (aCons (sVar 1) aNil)) (gN 4) tYesD (s2 fEq (s2 fIx (sVar 2) (sVar 4)) (s2 fIx (s2 fIx (sVar 0) (sVar 4)) (sVar 1))) [4]) aNil)) [1, 2]) aNil)))))
def F_is_table : List D → Sto → Out D := defFin 5 b_is_table
def b_check_table : SS := (qIf (tNotD (tTru (sCall 1 F_is_table (aCons (sVar 0) aNil)))) qNever qNext)
def F_check_table : List D → Sto → Out D := defFin 1 b_check_table
def b_common : SS := (qSeq (qWhile (fuelI 1) (tBl (s2 fNe (sVar 1) (sC (.int 0))))
    (qPar 0 1 (aCons (sVar 1) (aCons (s2 fMod (sVar 0) (sVar 1)) aNil))))
    (qRet (sB bAbs (aCons (sVar 0) aNil))))
def F_common : List D → Sto → Out D := defFin 2 b_common
def b_is_share : SS := (qSeq (qIf (tOrD (tNotD (tTru (sCall 3 F_is_sized (aCons (sVar 0) (aCons (sC (.int 2)) (aCons (sC (.int 2)) aNil)))))) (tNotD (tTru (sB bAll (aCons (sLC false (iSeq (sVar 0)) (gN 1) tYesD (sCall 1 F_is_integer (aCons (sVar 1) aNil)) [1]) aNil))))) (qRet (sC (.bl false))) qNext)
    (qRet (sAnd (s2 fGt (s2 fIx (sVar 0) (sC (.int 1))) (sC (.int 0))) (s2 fEq (sCall 2 F_common (aCons (s2 fIx (sVar 0) (sC (.int 0))) (aCons (s2 fIx (sVar 0) (sC (.int 1))) aNil))) (sC (.int 1))))))
def F_is_share : List D → Sto → Out D := defFin 2 b_is_share
def b_share : SS := (qSeq (qSet 2 (sCall 2 F_common (aCons (sVar 0) (aCons (sVar 1) aNil))))
    (qSeq (qSet 2 (sIf (tBl (s2 fGt (sVar 1) (sC (.int 0)))) (sVar 2) (s2 fSub (sC (.int 0)) (sVar 2))))
    (qRet (sTup (aCons (s2 fDiv (sVar 0) (sVar 2)) (aCons (s2 fDiv (sVar 1) (sVar 2)) aNil))))))
def F_share : List D → Sto → Out D := defFin 3 b_share
def b_plus : SS := (qRet (sCall 2 F_share (aCons (s2 fAdd (s2 fMul (s2 fIx (sVar 0) (sC (.int 0))) (s2 fIx (sVar 1) (sC (.int 1)))) (s2 fMul (s2 fIx (sVar 1) (sC (.int 0))) (s2 fIx (sVar 0) (sC (.int 1))))) (aCons (s2 fMul (s2 fIx (sVar 0) (sC (.int 1))) (s2 fIx (sVar 1) (sC (.int 1)))) aNil))))
def F_plus : List D → Sto → Out D := defFin 2 b_plus
def b_is_less : SS := (qRet (s2 fLt (s2 fMul (s2 fIx (sVar 0) (sC (.int 0))) (s2 fIx (sVar 1) (sC (.int 1)))) (s2 fMul (s2 fIx (sVar 1) (sC (.int 0))) (s2 fIx (sVar 0) (sC (.int 1))))))
def F_is_less : List D → Sto → Out D := defFin 2 b_is_less
def b_is_mend_of : SS := (qSeq (qIf (tOrD (tNotD (tTru (sCall 3 F_is_sized (aCons (sVar 1) (aCons (sVar 0) (aCons (sVar 0) aNil)))))) (tNotD (tTru (sB bAll (aCons (sLC false (iSeq (sVar 1)) (gN 3) tYesD (sCall 3 F_is_sized (aCons (sVar 3) (aCons (sVar 0) (aCons (sVar 0) aNil)))) [3]) aNil))))) (qRet (sC (.bl false))) qNext)
    (qSeq (qFor (iEnum (aCons (sVar 1) aNil)) (gT2 (gN 2) (gN 3))
    (qFor (iEnum (aCons (sVar 3) aNil)) (gT2 (gN 4) (gN 5))
    (qIf (tOrD (tNotD (tTru (sCall 1 F_is_share (aCons (sVar 5) aNil)))) (tOrD (tBl (s2 fNe (sVar 5) (s2 fIx (s2 fIx (sVar 1) (sVar 4)) (sVar 2)))) (tOrD (tBl (s2 fLt (s2 fIx (sVar 5) (sC (.int 0))) (sC (.int 0)))) (tAndD (tBl (s2 fEq (sVar 2) (sVar 4))) (tBl (s2 fNe (sVar 5) (sC (.tup ([0, 1].map D.int))))))))) (qRet (sC (.bl false))) qNext)))
    (qSeq (qFor (iRange1 (aCons (sVar 0) aNil)) (gN 2)
    (qFor (iRange2 (aCons (s2 fAdd (sVar 2) (sC (.int 1))) (aCons (sVar 0) aNil))) (gN 6)
    (qIf (tTru (sB bAny (aCons (sLC false (iRange1 (aCons (sVar 0) aNil)) (gN 4) tYesD (sCall 2 F_is_less (aCons (sCall 2 F_plus (aCons (s2 fIx (s2 fIx (sVar 1) (sVar 2)) (sVar 4)) (aCons (s2 fIx (s2 fIx (sVar 1) (sVar 4)) (sVar 6)) aNil))) (aCons (s2 fIx (s2 fIx (sVar 1) (sVar 2)) (sVar 6)) aNil))) [4]) aNil))) (qRet (sC (.bl false))) qNext)))
    (qRet (sC (.bl true))))))
def F_is_mend_of : List D → Sto → Out D := defFin 7 b_is_mend_of
def b_is_mend : SS := (qSeq (qExpr (sCall 1 F_check_table (aCons (sVar 0) aNil)))
    (qRet (sCall 2 F_is_mend_of (aCons (sB bLen (aCons (sVar 0) aNil)) (aCons (sVar 1) aNil)))))
def F_is_mend : List D → Sto → Out D := defFin 2 b_is_mend
def b_minus : SS := (qRet (sCall 2 F_share (aCons (s2 fSub (s2 fMul (s2 fIx (sVar 0) (sC (.int 0))) (s2 fIx (sVar 1) (sC (.int 1)))) (s2 fMul (s2 fIx (sVar 1) (sC (.int 0))) (s2 fIx (sVar 0) (sC (.int 1))))) (aCons (s2 fMul (s2 fIx (sVar 0) (sC (.int 1))) (s2 fIx (sVar 1) (sC (.int 1)))) aNil))))
def F_minus : List D → Sto → Out D := defFin 2 b_minus
def b_pairs_of : SS := (qSeq (qSet 1 (sLst true aNil))
    (qSeq (qFor (iRange1 (aCons (sVar 0) aNil)) (gN 2)
    (qExpr (sM fExtend (sVar 1) (sLC false (iRange2 (aCons (s2 fAdd (sVar 2) (sC (.int 1))) (aCons (sVar 0) aNil))) (gN 3) tYesD (sTup (aCons (sVar 2) (aCons (sVar 3) aNil))) [3]))))
    (qRet (sVar 1))))
def F_pairs_of : List D → Sto → Out D := defFin 4 b_pairs_of
def b_gaps_of : SS := (qSeq (qSet 2 (sLst true aNil))
    (qSeq (qFor (iSeq (sCall 1 F_pairs_of (aCons (sB bLen (aCons (sVar 0) aNil)) aNil))) (gT2 (gN 3) (gN 4))
    (qSeq (qPar 5 6 (aCons (sTup (aCons (s2 fIx (s2 fIx (sVar 0) (sVar 3)) (sVar 4)) (aCons (sC (.int 1)) aNil))) (aCons (s2 fIx (s2 fIx (sVar 1) (sVar 3)) (sVar 4)) aNil)))
    (qExpr (sM fAppend (sVar 2) (sIf (tTru (sCall 2 F_is_less (aCons (sVar 6) (aCons (sVar 5) aNil)))) (sCall 2 F_minus (aCons (sVar 5) (aCons (sVar 6) aNil))) (sCall 2 F_minus (aCons (sVar 6) (aCons (sVar 5) aNil))))))))
    (qRet (sVar 2))))
def F_gaps_of : List D → Sto → Out D := defFin 7 b_gaps_of
def b_check_mend : SS := (qSeq (qExpr (sCall 1 F_check_table (aCons (sVar 0) aNil)))
    (qIf (tNotD (tTru (sCall 2 F_is_mend_of (aCons (sB bLen (aCons (sVar 0) aNil)) (aCons (sVar 1) aNil))))) qNever qNext))
def F_check_mend : List D → Sto → Out D := defFin 2 b_check_mend
def b_most_of : SS := (qSeq (qSet 1 (sC (.tup ([0, 1].map D.int))))
    (qSeq (qFor (iSeq (sVar 0)) (gN 2)
    (qSet 1 (sIf (tTru (sCall 2 F_is_less (aCons (sVar 1) (aCons (sVar 2) aNil)))) (sVar 2) (sVar 1))))
    (qRet (sVar 1))))
def F_most_of : List D → Sto → Out D := defFin 3 b_most_of
def b_off_most : SS := (qSeq (qExpr (sCall 2 F_check_mend (aCons (sVar 0) (aCons (sVar 1) aNil))))
    (qRet (sCall 1 F_most_of (aCons (sCall 2 F_gaps_of (aCons (sVar 0) (aCons (sVar 1) aNil))) aNil))))
def F_off_most : List D → Sto → Out D := defFin 2 b_off_most
def b_sum_of : SS := (qSeq (qSet 1 (sC (.tup ([0, 1].map D.int))))
    (qSeq (qFor (iSeq (sVar 0)) (gN 2)
    (qSet 1 (sCall 2 F_plus (aCons (sVar 1) (aCons (sVar 2) aNil)))))
    (qRet (sVar 1))))
def F_sum_of : List D → Sto → Out D := defFin 3 b_sum_of
def b_off_sum : SS := (qSeq (qExpr (sCall 2 F_check_mend (aCons (sVar 0) (aCons (sVar 1) aNil))))
    (qRet (sCall 1 F_sum_of (aCons (sCall 2 F_gaps_of (aCons (sVar 0) (aCons (sVar 1) aNil))) aNil))))
def F_off_sum : List D → Sto → Out D := defFin 2 b_off_sum
def b_off_pairs : SS := (qSeq (qExpr (sCall 2 F_check_mend (aCons (sVar 0) (aCons (sVar 1) aNil))))
    (qRet (sB bLen (aCons (sLC false (iSeq (sCall 2 F_gaps_of (aCons (sVar 0) (aCons (sVar 1) aNil)))) (gN 2) (tBl (s2 fNe (sVar 2) (sC (.tup ([0, 1].map D.int))))) (sVar 2) [2]) aNil))))
def F_off_pairs : List D → Sto → Out D := defFin 3 b_off_pairs
def b_lack_of : SS := (qSeq (qSet 2 (sLC false (iZip (aCons (sVar 1) (aCons (sSlice false (sVar 1) (oInt (sC (.int 1))) oNone) aNil))) (gT2 (gN 3) (gN 4)) tYesD (s2 fIx (s2 fIx (sVar 0) (sVar 3)) (sVar 4)) [3, 4]))
    (qRet (sCall 2 F_share (aCons (s2 fSub (s2 fIx (s2 fIx (sVar 0) (s2 fIx (sVar 1) (sC (.int 0)))) (s2 fIx (sVar 1) (s1 fNeg (sC (.int 1))))) (sB bSum (aCons (sVar 2) aNil))) (aCons (s2 fAdd (sB bLen (aCons (sVar 2) aNil)) (sC (.int 1))) aNil)))))
def F_lack_of : List D → Sto → Out D := defFin 5 b_lack_of
def b_worst_way : SS := (qSeq (qPar 1 2 (aCons (sTup (aCons (sC (.tup ([0, 1].map D.int))) (aCons (sC .non) aNil))) (aCons (sLC false (iRange1 (aCons (sB bLen (aCons (sVar 0) aNil)) aNil)) (gN 6) tYesD (sTup (aCons (sVar 6) aNil)) [6]) aNil)))
    (qSeq (qWhile (fun _ _ => 1000) (tTru (sVar 2))
    (qSeq (qSet 3 (sLst true aNil))
    (qSeq (qFor (iSeq (sVar 2)) (gN 4)
    (qExpr (sM fExtend (sVar 3) (sLC false (iRange1 (aCons (sB bLen (aCons (sVar 0) aNil)) aNil)) (gN 6) (tBl (s2 fNotIn (sVar 6) (sVar 4))) (s2 fAdd (sVar 4) (sTup (aCons (sVar 6) aNil))) [6]))))
    (qSeq (qSet 2 (sVar 3))
    (qFor (iSeq (sVar 2)) (gN 4)
    (qSeq (qSet 5 (sCall 2 F_lack_of (aCons (sVar 0) (aCons (sVar 4) aNil))))
    (qSet 1 (sIf (tTru (sCall 2 F_is_less (aCons (s2 fIx (sVar 1) (sC (.int 0))) (aCons (sVar 5) aNil)))) (sTup (aCons (sVar 5) (aCons (sVar 4) aNil))) (sVar 1)))))))))
    (qRet (sVar 1))))
def F_worst_way : List D → Sto → Out D := defFin 7 b_worst_way
def b_shortest_shares : SS := (qSeq (qSet 0 (sLC false (iSeq (sVar 0)) (gN 2) tYesD (sB (bList true) (aCons (sVar 2) aNil)) [2]))
    (qSeq (qFor (iRange1 (aCons (sB bLen (aCons (sVar 0) aNil)) aNil)) (gN 1)
    (qFor (iSeq (sVar 0)) (gN 2)
    (qFor (iEnum (aCons (s2 fIx (sVar 0) (sVar 1)) aNil)) (gT2 (gN 3) (gN 4))
    (qSeq (qSet 5 (sCall 2 F_plus (aCons (s2 fIx (sVar 2) (sVar 1)) (aCons (sVar 4) aNil))))
    (qSetIx (sVar 2) (sVar 3) (sIf (tTru (sCall 2 F_is_less (aCons (sVar 5) (aCons (s2 fIx (sVar 2) (sVar 3)) aNil)))) (sVar 5) (s2 fIx (sVar 2) (sVar 3))))))))
    (qRet (sB bTuple (aCons (sLC false (iSeq (sVar 0)) (gN 2) tYesD (sB bTuple (aCons (sVar 2) aNil)) [2]) aNil)))))
def F_shortest_shares : List D → Sto → Out D := defFin 6 b_shortest_shares
def b_raised_by : SS := (qSeq (qSet 2 (sLst true aNil))
    (qSeq (qFor (iEnum (aCons (sVar 0) aNil)) (gT2 (gN 3) (gN 4))
    (qExpr (sM fAppend (sVar 2) (sLC false (iEnum (aCons (sVar 4) aNil)) (gT2 (gN 5) (gN 6)) tYesD (sIf (tBl (s2 fEq (sVar 3) (sVar 5))) (sC (.tup ([0, 1].map D.int))) (sCall 2 F_plus (aCons (sTup (aCons (sVar 6) (aCons (sC (.int 1)) aNil))) (aCons (sVar 1) aNil)))) [5, 6]))))
    (qRet (sCall 1 F_shortest_shares (aCons (sVar 2) aNil)))))
def F_raised_by : List D → Sto → Out D := defFin 7 b_raised_by
def b_nearest_mend : SS := (qSeq (qExpr (sCall 1 F_check_table (aCons (sVar 0) aNil)))
    (qSeq (qAsg (gT2 (gN 1) (gN 2)) (sCall 1 F_worst_way (aCons (sVar 0) aNil)))
    (qRet (sTup (aCons (sVar 1) (aCons (sCall 2 F_raised_by (aCons (sVar 0) (aCons (sVar 1) aNil))) (aCons (sVar 2) aNil)))))))
def F_nearest_mend : List D → Sto → Out D := defFin 3 b_nearest_mend
def b_is_nearest_mend : SS := (qSeq (qExpr (sCall 1 F_check_table (aCons (sVar 0) aNil)))
    (qSeq (qSet 2 (sB bLen (aCons (sVar 0) aNil)))
    (qSeq (qIf (tOrD (tNotD (tTru (sCall 3 F_is_sized (aCons (sVar 1) (aCons (sC (.int 3)) (aCons (sC (.int 3)) aNil)))))) (tOrD (tNotD (tTru (sCall 1 F_is_share (aCons (s2 fIx (sVar 1) (sC (.int 0))) aNil)))) (tNotD (tTru (sCall 2 F_is_mend_of (aCons (sVar 2) (aCons (s2 fIx (sVar 1) (sC (.int 1))) aNil))))))) (qRet (sC (.bl false))) qNext)
    (qSeq (qIf (tTru (sCall 2 F_is_less (aCons (s2 fIx (sVar 1) (sC (.int 0))) (aCons (sCall 1 F_most_of (aCons (sCall 2 F_gaps_of (aCons (sVar 0) (aCons (s2 fIx (sVar 1) (sC (.int 1))) aNil))) aNil)) aNil)))) (qRet (sC (.bl false))) qNext)
    (qSeq (qIf (tBl (s2 fIsN2 (s2 fIx (sVar 1) (sC (.int 2))) (sC .non))) (qRet (s2 fEq (s2 fIx (sVar 1) (sC (.int 0))) (sC (.tup ([0, 1].map D.int))))) qNext)
    (qSeq (qIf (tOrD (tNotD (tTru (sCall 3 F_is_sized (aCons (s2 fIx (sVar 1) (sC (.int 2))) (aCons (sC (.int 2)) (aCons (sVar 2) aNil)))))) (tNotD (tTru (sB bAll (aCons (sLC false (iSeq (s2 fIx (sVar 1) (sC (.int 2)))) (gN 3) tYesD (sCall 3 F_is_within (aCons (sVar 3) (aCons (sC (.int 0)) (aCons (s2 fSub (sVar 2) (sC (.int 1))) aNil)))) [3]) aNil))))) (qRet (sC (.bl false))) qNext)
    (qSeq (qIf (tNotD (tTru (sB bAll (aCons (sLC false (iSeq (s2 fIx (sVar 1) (sC (.int 2)))) (gN 3) tYesD (s2 fEq (sMT fCountT (s2 fIx (sVar 1) (sC (.int 2))) (sVar 3)) (sC (.int 1))) [3]) aNil)))) (qRet (sC (.bl false))) qNext)
    (qRet (sAnd (s2 fGt (s2 fIx (s2 fIx (sVar 1) (sC (.int 0))) (sC (.int 0))) (sC (.int 0))) (s2 fEq (sCall 2 F_lack_of (aCons (sVar 0) (aCons (s2 fIx (sVar 1) (sC (.int 2))) aNil))) (s2 fIx (sVar 1) (sC (.int 0)))))))))))))
def F_is_nearest_mend : List D → Sto → Out D := defFin 4 b_is_nearest_mend
def b_law_hand : SS := (qSeq (qSet 1 (sLC false (iSeq (sSlice false (sVar 0) oNone (oInt (sC (.int 63))))) (gN 2) tYesD (sB bAbs (aCons (sB bInt (aCons (sVar 2) aNil)) aNil)) [2]))
    (qRet (sLst true (aCons (sVar 1) (aCons (sC (.int 0)) (aCons (sC (.int 0)) (aCons (s2 fAdd (sC (.int 97)) (s2 fMul (sC (.int 5)) (sB bLen (aCons (sVar 1) aNil)))) (aCons (sC (.int 0)) aNil))))))))
def F_law_hand : List D → Sto → Out D := defRaw 3 b_law_hand
def b_law_draw : SS := (qSeq (qIf (tAndD (tBl (s2 fEq (s2 fIx (sVar 0) (sC (.int 2))) (sC (.int 0)))) (tBl (s2 fLt (s2 fIx (sVar 0) (sC (.int 1))) (sB bLen (aCons (s2 fIx (sVar 0) (sC (.int 0))) aNil))))) (qSeq (qSet 2 (s2 fIx (s2 fIx (sVar 0) (sC (.int 0))) (s2 fIx (sVar 0) (sC (.int 1)))))
    (qSeq (qSetIx (sVar 0) (sC (.int 1)) (s2 fAdd (s2 fIx (sVar 0) (sC (.int 1))) (sC (.int 1))))
    (qSeq (qSetIx (sVar 0) (sC (.int 3)) (s2 fMod (sB bInt (aCons (s2 fAdd (s2 fAdd (s2 fMul (s2 fIx (sVar 0) (sC (.int 3))) (sC (.int 48271))) (sVar 2)) (sC (.int 31))) aNil)) (sC (.int 2147483647))))
    (qIf (tBl (s2 fGe (sVar 2) (s2 fPow (sC (.int 10)) (sC (.int 18))))) (qSetIx (sVar 0) (sC (.int 2)) (sVar 2)) qNext)))) qNext)
    (qSeq (qIf (tBl (s2 fGt (s2 fIx (sVar 0) (sC (.int 2))) (sC (.int 0)))) (qSeq (qSet 3 (s2 fMod (sB bInt (aCons (s2 fIx (sVar 0) (sC (.int 2))) aNil)) (sVar 1)))
    (qSeq (qSetIx (sVar 0) (sC (.int 2)) (s2 fDiv (s2 fIx (sVar 0) (sC (.int 2))) (sVar 1)))
    (qRet (sVar 3)))) qNext)
    (qSeq (qSetIx (sVar 0) (sC (.int 4)) (s2 fAdd (s2 fIx (sVar 0) (sC (.int 4))) (sC (.int 1))))
    (qSeq (qSet 4 (s2 fMod (sB bInt (aCons (s2 fMul (sB bInt (aCons (s2 fAdd (s2 fIx (sVar 0) (sC (.int 3))) (s2 fMul (sC (.int 6151)) (s2 fIx (sVar 0) (sC (.int 4))))) aNil)) (sC (.int 40692))) aNil)) (sC (.int 2147483399))))
    (qSeq (qSet 4 (s2 fMod (sB bInt (aCons (s2 fMul (sVar 4) (s2 fAdd (s2 fDiv (sVar 4) (sC (.int 1223))) (sC (.int 52027)))) aNil)) (sC (.int 2147483629))))
    (qSeq (qSet 4 (s2 fMod (sB bInt (aCons (s2 fMul (sVar 4) (s2 fAdd (s2 fDiv (sVar 4) (sC (.int 2671))) (sC (.int 69621)))) aNil)) (sC (.int 2147483647))))
    (qRet (s2 fMod (sB bInt (aCons (s2 fDiv (sVar 4) (sC (.int 32))) aNil)) (sVar 1)))))))))
def F_law_draw : List D → Sto → Out D := defFin 5 b_law_draw
def b_law_some : SS := (qRet (s2 fIx (sVar 1) (sCall 2 F_law_draw (aCons (sVar 0) (aCons (sB bLen (aCons (sVar 1) aNil)) aNil)))))
def F_law_some : List D → Sto → Out D := defFin 2 b_law_some
def b_law_table : SS := (qSeq (qSet 3 (sLC false (iRange1 (aCons (sVar 1) aNil)) (gN 7) tYesD (s2 (fRep true) (sLst false (aCons (sC (.int 0)) aNil)) (sVar 1)) [7]))
    (qSeq (qFor (iRange1 (aCons (sVar 1) aNil)) (gN 4)
    (qFor (iRange2 (aCons (s2 fAdd (sVar 4) (sC (.int 1))) (aCons (sVar 1) aNil))) (gN 5)
    (qSeq (qSet 6 (s2 fAdd (sC (.int 1)) (sCall 2 F_law_draw (aCons (sVar 0) (aCons (sVar 2) aNil)))))
    (qAsgS (uT2 (uIx (s2 fIx (sVar 3) (sVar 4)) (sVar 5)) (uIx (s2 fIx (sVar 3) (sVar 5)) (sVar 4))) (sTup (aCons (sVar 6) (aCons (sVar 6) aNil)))))))
    (qRet (sB bTuple (aCons (sLC false (iSeq (sVar 3)) (gN 8) tYesD (sB bTuple (aCons (sVar 8) aNil)) [8]) aNil)))))
def F_law_table : List D → Sto → Out D := defFin 9 b_law_table
def b_law_closing : SS := (qSeq (qSet 1 (sLC false (iSeq (sVar 0)) (gN 6) tYesD (sB (bList true) (aCons (sVar 6) aNil)) [6]))
    (qSeq (qSet 2 (sB bLen (aCons (sVar 1) aNil)))
    (qSeq (qFor (iRange1 (aCons (sVar 2) aNil)) (gN 3)
    (qFor (iRange1 (aCons (sVar 2) aNil)) (gN 4)
    (qFor (iRange1 (aCons (sVar 2) aNil)) (gN 5)
    (qSetIx (s2 fIx (sVar 1) (sVar 4)) (sVar 5) (sB bMin2 (aCons (s2 fIx (s2 fIx (sVar 1) (sVar 4)) (sVar 5)) (aCons (s2 fAdd (s2 fIx (s2 fIx (sVar 1) (sVar 4)) (sVar 3)) (s2 fIx (s2 fIx (sVar 1) (sVar 3)) (sVar 5))) aNil)))))))
    (qRet (sB bTuple (aCons (sLC false (iSeq (sVar 1)) (gN 6) tYesD (sB bTuple (aCons (sVar 6) aNil)) [6]) aNil))))))
def F_law_closing : List D → Sto → Out D := defFin 7 b_law_closing
def b_law_low : SS := (qSeq (qPar 2 3 (aCons (sB bAbs (aCons (sVar 0) aNil)) (aCons (sB bAbs (aCons (sVar 1) aNil)) aNil)))
    (qSeq (qWhile (fuelI 2) (tBl (s2 fGt (sVar 2) (sC (.int 0))))
    (qPar 2 3 (aCons (s2 fMod (sB bInt (aCons (sVar 3) aNil)) (sVar 2)) (aCons (sVar 2) aNil))))
    (qSeq (qSet 3 (sIf (tBl (s2 fGt (sVar 1) (sC (.int 0)))) (sVar 3) (s2 fSub (sC (.int 0)) (sVar 3))))
    (qRet (sTup (aCons (s2 fDiv (sVar 0) (sVar 3)) (aCons (s2 fDiv (sVar 1) (sVar 3)) aNil)))))))
def F_law_low : List D → Sto → Out D := defFin 4 b_law_low
def b_law_plus : SS := (qRet (sCall 2 F_law_low (aCons (s2 fAdd (s2 fMul (s2 fIx (sVar 0) (sC (.int 0))) (s2 fIx (sVar 1) (sC (.int 1)))) (s2 fMul (s2 fIx (sVar 1) (sC (.int 0))) (s2 fIx (sVar 0) (sC (.int 1))))) (aCons (s2 fMul (s2 fIx (sVar 0) (sC (.int 1))) (s2 fIx (sVar 1) (sC (.int 1)))) aNil))))
def F_law_plus : List D → Sto → Out D := defFin 2 b_law_plus
def b_law_sum : SS := (qSeq (qSet 1 (sTup (aCons (sC (.int 0)) (aCons (sC (.int 1)) aNil))))
    (qSeq (qFor (iSeq (sVar 0)) (gN 2)
    (qSet 1 (sCall 2 F_law_plus (aCons (sVar 1) (aCons (sVar 2) aNil)))))
    (qRet (sVar 1))))
def F_law_sum : List D → Sto → Out D := defFin 3 b_law_sum
def b_law_deep : SS := (qSeq (qSet 1 (s2 fIx (sLst false (aCons (sC .non) (aCons (sC (.int 5)) (aCons (s1 fNeg (sC (.int 1))) (aCons sDict0 (aCons (sC (.bl true)) aNil)))))) (sCall 2 F_law_draw (aCons (sVar 0) (aCons (sC (.int 5)) aNil)))))
    (qSeq (qFor (iRange1 (aCons (s2 fAdd (sC (.int 1)) (sCall 2 F_law_draw (aCons (sVar 0) (aCons (sC (.int 28)) aNil)))) aNil)) (gN 2)
    (qSet 1 (s2 fIx (sLst false (aCons (sTup (aCons (sVar 1) aNil)) (aCons (sLst false (aCons (sVar 1) aNil)) (aCons (sDict1 0 (sVar 1)) aNil)))) (sCall 2 F_law_draw (aCons (sVar 0) (aCons (sC (.int 3)) aNil))))))
    (qRet (sVar 1))))
def F_law_deep : List D → Sto → Out D := defFin 3 b_law_deep
def b_law_odd : SS := (qRet (sCall 2 F_law_some (aCons (sVar 0) (aCons (sLst false (aCons (sC .non) (aCons (sC (.bl true)) (aCons (sC (.bl false)) (aCons (sC (.int 0)) (aCons (s1 fNeg (sC (.int 1))) (aCons (sC (.int 999)) (aCons (s2 fShl (sC (.int 1)) (sC (.int 63))) (aCons (sC (.str "p")) (aCons (sC (.str "")) (aCons (sTup aNil) (aCons (sLst false aNil) (aCons sDict0 (aCons (sTup (aCons (sC (.int 1)) aNil)) (aCons (sTup (aCons (sC (.str "a")) aNil)) (aCons (sCall 1 F_law_deep (aCons (sVar 0) aNil)) aNil)))))))))))))))) aNil))))
def F_law_odd : List D → Sto → Out D := defFin 1 b_law_odd
def F_law_is_0 : List D → Sto → Out D := fNone
def b_law_is_1 : SS := (qSeq (qIf (tTru (sIsT .tuple .list (sVar 1))) (qSeq (qIf (tOrD (tBl (s2 fNe (sIsI .tuple (sVar 0)) (sIsI .tuple (sVar 1)))) (tNotD (tTru (sIsT .tuple .list (sVar 0))))) (qRet (sC (.bl false))) qNext)
    (qRet (sAnd (s2 fEq (sB bLen (aCons (sVar 0) aNil)) (sB bLen (aCons (sVar 1) aNil))) (sB bAll (aCons (sLC false (iZip (aCons (sVar 0) (aCons (sVar 1) aNil))) (gT2 (gN 2) (gN 3)) tYesD (sCall 2 F_law_is_0 (aCons (sVar 2) (aCons (sVar 3) aNil))) [2, 3]) aNil))))) qNext)
    (qSeq (qIf (tTru (sIsI .dict (sVar 1))) (qSeq qNever qNever) qNext)
    (qSeq (qIf (tOrD (tTru (sIsI .str (sVar 1))) (tBl (s2 fIsN2 (sVar 1) (sC .non)))) qNever qNext)
    (qRet (sAnd (sIsI .int (sVar 0)) (sAnd (s2 fEq (sIsI .bool (sVar 0)) (sIsI .bool (sVar 1))) (s2 fEq (sVar 0) (sVar 1))))))))
def F_law_is_1 : List D → Sto → Out D := defFin 5 b_law_is_1
def b_law_is_2 : SS := (qSeq (qIf (tTru (sIsT .tuple .list (sVar 1))) (qSeq (qIf (tOrD (tBl (s2 fNe (sIsI .tuple (sVar 0)) (sIsI .tuple (sVar 1)))) (tNotD (tTru (sIsT .tuple .list (sVar 0))))) (qRet (sC (.bl false))) qNext)
    (qRet (sAnd (s2 fEq (sB bLen (aCons (sVar 0) aNil)) (sB bLen (aCons (sVar 1) aNil))) (sB bAll (aCons (sLC false (iZip (aCons (sVar 0) (aCons (sVar 1) aNil))) (gT2 (gN 2) (gN 3)) tYesD (sCall 2 F_law_is_1 (aCons (sVar 2) (aCons (sVar 3) aNil))) [2, 3]) aNil))))) qNext)
    (qSeq (qIf (tTru (sIsI .dict (sVar 1))) (qSeq qNever qNever) qNext)
    (qSeq (qIf (tOrD (tTru (sIsI .str (sVar 1))) (tBl (s2 fIsN2 (sVar 1) (sC .non)))) qNever qNext)
    (qRet (sAnd (sIsI .int (sVar 0)) (sAnd (s2 fEq (sIsI .bool (sVar 0)) (sIsI .bool (sVar 1))) (s2 fEq (sVar 0) (sVar 1))))))))
def F_law_is_2 : List D → Sto → Out D := defFin 5 b_law_is_2
abbrev F_law_is : List D → Sto → Out D := F_law_is_2
def b_law_less : SS := (qRet (s2 fLt (s2 fMul (s2 fIx (sVar 0) (sC (.int 0))) (s2 fIx (sVar 1) (sC (.int 1)))) (s2 fMul (s2 fIx (sVar 1) (sC (.int 0))) (s2 fIx (sVar 0) (sC (.int 1))))))
def F_law_less : List D → Sto → Out D := defFin 2 b_law_less
def b_law_is_number : SS := (qRet (sAnd (sIsI .int (sVar 0)) (sNotV (sIsI .bool (sVar 0)))))
def F_law_is_number : List D → Sto → Out D := defFin 1 b_law_is_number
def b_law_is_part : SS := (qSeq (qIf (tOrD (tNotD (tTru (sIsI .tuple (sVar 0)))) (tOrD (tBl (s2 fNe (sB bLen (aCons (sVar 0) aNil)) (sC (.int 2)))) (tNotD (tTru (sB bAll (aCons (sLC false (iSeq (sVar 0)) (gN 1) tYesD (sCall 1 F_law_is_number (aCons (sVar 1) aNil)) [1]) aNil)))))) (qRet (sC (.bl false))) qNext)
    (qRet (sAnd (s2 fGt (s2 fIx (sVar 0) (sC (.int 1))) (sC (.int 0))) (s2 fEq (sCall 2 F_law_low (aCons (s2 fIx (sVar 0) (sC (.int 0))) (aCons (s2 fIx (sVar 0) (sC (.int 1))) aNil))) (sVar 0)))))
def F_law_is_part : List D → Sto → Out D := defFin 2 b_law_is_part
def b_law_is_mend : SS := (qSeq (qIf (tOrD (tNotD (tTru (sIsI .tuple (sVar 1)))) (tBl (s2 fNe (sB bLen (aCons (sVar 1) aNil)) (sVar 0)))) (qRet (sC (.bl false))) qNext)
    (qSeq (qFor (iSeq (sVar 1)) (gN 2)
    (qIf (tOrD (tNotD (tTru (sIsI .tuple (sVar 2)))) (tOrD (tBl (s2 fNe (sB bLen (aCons (sVar 2) aNil)) (sVar 0))) (tNotD (tTru (sB bAll (aCons (sLC false (iSeq (sVar 2)) (gN 6) tYesD (sCall 1 F_law_is_part (aCons (sVar 6) aNil)) [6]) aNil)))))) (qRet (sC (.bl false))) qNext))
    (qSeq (qFor (iRange1 (aCons (sVar 0) aNil)) (gN 3)
    (qFor (iRange1 (aCons (sVar 0) aNil)) (gN 4)
    (qSeq (qIf (tOrD (tBl (s2 fNe (s2 fIx (s2 fIx (sVar 1) (sVar 3)) (sVar 4)) (s2 fIx (s2 fIx (sVar 1) (sVar 4)) (sVar 3)))) (tOrD (tBl (s2 fLt (s2 fIx (s2 fIx (s2 fIx (sVar 1) (sVar 3)) (sVar 4)) (sC (.int 0))) (sC (.int 0)))) (tAndD (tBl (s2 fEq (sVar 3) (sVar 4))) (tBl (s2 fNe (s2 fIx (s2 fIx (sVar 1) (sVar 3)) (sVar 4)) (sTup (aCons (sC (.int 0)) (aCons (sC (.int 1)) aNil)))))))) (qRet (sC (.bl false))) qNext)
    (qFor (iRange1 (aCons (sVar 0) aNil)) (gN 5)
    (qIf (tTru (sCall 2 F_law_less (aCons (sCall 2 F_law_plus (aCons (s2 fIx (s2 fIx (sVar 1) (sVar 3)) (sVar 4)) (aCons (s2 fIx (s2 fIx (sVar 1) (sVar 4)) (sVar 5)) aNil))) (aCons (s2 fIx (s2 fIx (sVar 1) (sVar 3)) (sVar 5)) aNil)))) (qRet (sC (.bl false))) qNext)))))
    (qRet (sC (.bl true))))))
def F_law_is_mend : List D → Sto → Out D := defFin 7 b_law_is_mend
def b_law_minus : SS := (qRet (sCall 2 F_law_plus (aCons (sVar 0) (aCons (sTup (aCons (s2 fSub (sC (.int 0)) (s2 fIx (sVar 1) (sC (.int 0)))) (aCons (s2 fIx (sVar 1) (sC (.int 1))) aNil))) aNil))))
def F_law_minus : List D → Sto → Out D := defFin 2 b_law_minus
def b_law_offs : SS := (qSeq (qSet 2 (sLst true aNil))
    (qSeq (qFor (iEnum (aCons (sVar 0) aNil)) (gT2 (gN 3) (gN 4))
    (qFor (iRange2 (aCons (s2 fAdd (sVar 3) (sC (.int 1))) (aCons (sB bLen (aCons (sVar 0) aNil)) aNil))) (gN 5)
    (qSeq (qSet 6 (sCall 2 F_law_minus (aCons (s2 fIx (s2 fIx (sVar 1) (sVar 3)) (sVar 5)) (aCons (sTup (aCons (s2 fIx (sVar 4) (sVar 5)) (aCons (sC (.int 1)) aNil))) aNil))))
    (qExpr (sM fAppend (sVar 2) (sTup (aCons (sB bAbs (aCons (s2 fIx (sVar 6) (sC (.int 0))) aNil)) (aCons (s2 fIx (sVar 6) (sC (.int 1))) aNil))))))))
    (qRet (sVar 2))))
def F_law_offs : List D → Sto → Out D := defFin 7 b_law_offs
def b_law_most : SS := (qSeq (qSet 1 (sTup (aCons (sC (.int 0)) (aCons (sC (.int 1)) aNil))))
    (qSeq (qFor (iSeq (sVar 0)) (gN 2)
    (qSet 1 (sIf (tTru (sCall 2 F_law_less (aCons (sVar 1) (aCons (sVar 2) aNil)))) (sVar 2) (sVar 1))))
    (qRet (sVar 1))))
def F_law_most : List D → Sto → Out D := defFin 3 b_law_most
def b_law_ask : SS := (qSeq (qSet 2 (sB bSum (aCons (sLC false (iZip (aCons (sVar 1) (aCons (sSlice false (sVar 1) (oInt (sC (.int 1))) oNone) aNil))) (gT2 (gN 3) (gN 4)) tYesD (s2 fIx (s2 fIx (sVar 0) (sVar 3)) (sVar 4)) [3, 4]) aNil)))
    (qRet (sCall 2 F_law_low (aCons (s2 fSub (s2 fIx (s2 fIx (sVar 0) (s2 fIx (sVar 1) (sC (.int 0)))) (s2 fIx (sVar 1) (s1 fNeg (sC (.int 1))))) (sVar 2)) (aCons (sB bLen (aCons (sVar 1) aNil)) aNil)))))
def F_law_ask : List D → Sto → Out D := defFin 5 b_law_ask
def b_law_ways : SS := (qSeq (qPar 1 2 (aCons (sLst false aNil) (aCons (sLC false (iRange1 (aCons (sVar 0) aNil)) (gN 6) tYesD (sTup (aCons (sVar 6) aNil)) [6]) aNil)))
    (qSeq (qFor (iRange1 (aCons (s2 fSub (sVar 0) (sC (.int 1))) aNil)) (gN 3)
    (qSeq (qSet 4 (sLst false aNil))
    (qSeq (qFor (iSeq (sVar 2)) (gN 5)
    (qSet 4 (s2 fAdd (sVar 4) (sLC false (iRange1 (aCons (sVar 0) aNil)) (gN 6) (tBl (s2 fNotIn (sVar 6) (sVar 5))) (s2 fAdd (sVar 5) (sTup (aCons (sVar 6) aNil))) [6]))))
    (qSeq (qSet 2 (sVar 4))
    (qSet 1 (s2 fAdd (sVar 1) (sVar 4)))))))
    (qRet (sVar 1))))
def F_law_ways : List D → Sto → Out D := defFin 7 b_law_ways
def b_law_is_right : SS := (qSeq (qIf (tOrD (tNotD (tTru (sIsI .tuple (sVar 2)))) (tOrD (tBl (s2 fNe (sB bLen (aCons (sVar 2) aNil)) (sC (.int 3)))) (tNotD (tTru (sCall 2 F_law_is (aCons (s2 fIx (sVar 2) (sC (.int 0))) (aCons (sVar 1) aNil))))))) (qRet (sC (.bl false))) qNext)
    (qSeq (qIf (tOrD (tNotD (tTru (sCall 2 F_law_is_mend (aCons (sB bLen (aCons (sVar 0) aNil)) (aCons (s2 fIx (sVar 2) (sC (.int 1))) aNil))))) (tTru (sCall 2 F_law_less (aCons (sVar 1) (aCons (sCall 1 F_law_most (aCons (sCall 2 F_law_offs (aCons (sVar 0) (aCons (s2 fIx (sVar 2) (sC (.int 1))) aNil))) aNil)) aNil))))) (qRet (sC (.bl false))) qNext)
    (qSeq (qIf (tBl (s2 fEq (sVar 1) (sTup (aCons (sC (.int 0)) (aCons (sC (.int 1)) aNil))))) (qRet (s2 fIsN2 (s2 fIx (sVar 2) (sC (.int 2))) (sC .non))) qNext)
    (qSeq (qSet 3 (s2 fIx (sVar 2) (sC (.int 2))))
    (qSeq (qIf (tOrD (tNotD (tTru (sIsI .tuple (sVar 3)))) (tOrD (tBl (s2 fLt (sB bLen (aCons (sVar 3) aNil)) (sC (.int 2)))) (tNotD (tTru (sB bAll (aCons (sLC false (iSeq (sVar 3)) (gN 4) tYesD (sCall 1 F_law_is_number (aCons (sVar 4) aNil)) [4]) aNil)))))) (qRet (sC (.bl false))) qNext)
    (qSeq (qIf (tNotD (tTru (sB bAll (aCons (sLC false (iSeq (sVar 3)) (gN 4) tYesD (sAnd (sChain fLe fLt (sC (.int 0)) (sVar 4) (sB bLen (aCons (sVar 0) aNil))) (s2 fEq (sMT fCountT (sVar 3) (sVar 4)) (sC (.int 1)))) [4]) aNil)))) (qRet (sC (.bl false))) qNext)
    (qRet (s2 fEq (sCall 2 F_law_ask (aCons (sVar 0) (aCons (sVar 3) aNil))) (sVar 1)))))))))
def F_law_is_right : List D → Sto → Out D := defFin 5 b_law_is_right
def b_law : SS := (qSeq (qSet 1 (sCall 1 F_law_hand (aCons (sVar 0) aNil)))
    (qSeq (qFor (iRange1 (aCons (sC (.int 4)) aNil)) (gN 2)
    (qSeq (qSet 3 (sCall 3 F_law_table (aCons (sVar 1) (aCons (s2 fAdd (sC (.int 1)) (sCall 2 F_law_draw (aCons (sVar 1) (aCons (sC (.int 5)) aNil)))) (aCons (sCall 2 F_law_some (aCons (sVar 1) (aCons (sLst false (aCons (sC (.int 3)) (aCons (sC (.int 9)) (aCons (sC (.int 40)) aNil)))) aNil))) aNil)))))
    (qSeq (qSet 4 (sB bLen (aCons (sVar 3) aNil)))
    (qSeq (qSet 5 (sCall 1 F_law_most (aCons (sLC false (iSeq (sCall 1 F_law_ways (aCons (sVar 4) aNil))) (gN 12) tYesD (sCall 2 F_law_ask (aCons (sVar 3) (aCons (sVar 12) aNil))) [12]) aNil)))
    (qSeq (qSet 6 (sCall 1 F_nearest_mend (aCons (sVar 3) aNil)))
    (qSeq (qIf (tOrD (tNotD (tTru (sCall 3 F_law_is_right (aCons (sVar 3) (aCons (sVar 5) (aCons (sVar 6) aNil)))))) (tBl (s2 fNotBl (sCall 2 F_is_nearest_mend (aCons (sVar 3) (aCons (sVar 6) aNil))) (sC (.bl true))))) (qRet (sC (.bl false))) qNext)
    (qSeq (qSet 7 (s2 fIx (sVar 6) (sC (.int 1))))
    (qSeq (qSet 8 (sCall 2 F_law_offs (aCons (sVar 3) (aCons (sVar 7) aNil))))
    (qSeq (qIf (tOrD (tNotD (tTru (sCall 2 F_law_is (aCons (sCall 2 F_off_most (aCons (sVar 3) (aCons (sVar 7) aNil))) (aCons (sCall 1 F_law_most (aCons (sVar 8) aNil)) aNil))))) (tNotD (tTru (sCall 2 F_law_is (aCons (sCall 2 F_off_sum (aCons (sVar 3) (aCons (sVar 7) aNil))) (aCons (sCall 1 F_law_sum (aCons (sVar 8) aNil)) aNil)))))) (qRet (sC (.bl false))) qNext)
    (qSeq (qIf (tNotD (tTru (sCall 2 F_law_is (aCons (sCall 2 F_off_pairs (aCons (sVar 3) (aCons (sVar 7) aNil))) (aCons (sB bLen (aCons (sLC false (iSeq (sVar 8)) (gN 14) (tBl (s2 fGt (s2 fIx (sVar 14) (sC (.int 0))) (sC (.int 0)))) (sVar 14) [14]) aNil)) aNil))))) (qRet (sC (.bl false))) qNext)
    (qSeq (qSet 9 (sB bTuple (aCons (sLC false (iSeq (sVar 3)) (gN 15) tYesD (sB bTuple (aCons (sLC false (iSeq (sVar 15)) (gN 16) tYesD (sTup (aCons (sVar 16) (aCons (sC (.int 1)) aNil))) [16]) aNil)) [15]) aNil)))
    (qSeq (qSet 10 (sB bTuple (aCons (sLC false (iSeq (sCall 1 F_law_closing (aCons (sVar 3) aNil))) (gN 15) tYesD (sB bTuple (aCons (sLC false (iSeq (sVar 15)) (gN 16) tYesD (sTup (aCons (sVar 16) (aCons (sC (.int 1)) aNil))) [16]) aNil)) [15]) aNil)))
    (qSeq (qFor (iSeq (sTup (aCons (sVar 7) (aCons (sVar 9) (aCons (sVar 10) (aCons (sSlice false (sVar 7) (oInt (sC (.int 1))) oNone) (aCons (sB (bList false) (aCons (sVar 7) aNil)) (aCons (sVar 3) (aCons (sC .non) (aCons (sCall 1 F_law_odd (aCons (sVar 1) aNil)) aNil)))))))))) (gN 11)
    (qIf (tNotD (tTru (sCall 2 F_law_is (aCons (sCall 2 F_is_mend (aCons (sVar 3) (aCons (sVar 11) aNil))) (aCons (sCall 2 F_law_is_mend (aCons (sVar 4) (aCons (sVar 11) aNil))) aNil))))) (qRet (sC (.bl false))) qNext))
    (qSeq (qSet 12 (sIf (tBl (s2 fGt (sVar 4) (sC (.int 1)))) (sCall 2 F_law_some (aCons (sVar 1) (aCons (sCall 1 F_law_ways (aCons (sVar 4) aNil)) aNil))) (sC .non)))
    (qSeq (qSet 13 (sLst false (aCons (sTup (aCons (sVar 5) (aCons (sVar 10) (aCons (s2 fIx (sVar 6) (sC (.int 2))) aNil)))) (aCons (sTup (aCons (sVar 5) (aCons (sVar 7) (aCons (sVar 12) aNil)))) (aCons (sTup (aCons (sVar 5) (aCons (sVar 7) (aCons (sC .non) aNil)))) (aCons (sTup (aCons (sVar 5) (aCons (sVar 9) (aCons (s2 fIx (sVar 6) (sC (.int 2))) aNil)))) (aCons (sB (bList false) (aCons (sVar 6) aNil)) aNil)))))))
    (qFor (iSeq (s2 fAdd (sVar 13) (sLst false (aCons (sSlice false (sVar 6) oNone (oInt (sC (.int 2)))) (aCons (s2 fAdd (sTup (aCons (sCall 2 F_law_plus (aCons (sVar 5) (aCons (sTup (aCons (sC (.int 1)) (aCons (sC (.int 1)) aNil))) aNil))) aNil)) (sSlice false (sVar 6) (oInt (sC (.int 1))) oNone)) (aCons (sC .non) (aCons (sCall 1 F_law_odd (aCons (sVar 1) aNil)) aNil))))))) (gN 11)
    (qIf (tNotD (tTru (sCall 2 F_law_is (aCons (sCall 2 F_is_nearest_mend (aCons (sVar 3) (aCons (sVar 11) aNil))) (aCons (sCall 3 F_law_is_right (aCons (sVar 3) (aCons (sVar 5) (aCons (sVar 11) aNil)))) aNil))))) (qRet (sC (.bl false))) qNext)))))))))))))))))
    (qRet (sC (.bl true)))))
def F_law : List D → Sto → Out D := defFin 17 b_law
end Lw87
namespace Lw87
open PySem PD
variable {st : Sto}
/-! ### tables by their numbers -/
abbrev rowT (n : Nat) (f : Nat → Nat → Int) (i : Nat) : D := .tup ((List.range n).map fun j : Nat => D.int (f i j))
abbrev tabT (n : Nat) (f : Nat → Nat → Int) : D := .tup ((List.range n).map fun i : Nat => rowT n f i)
abbrev nats (ms : List Nat) : D := .tup (ms.map fun m : Nat => D.int (m : Int))
theorem fIx_range {st : Sto} {n i : Nat} {φ : Nat → D} (h : i < n) : fIx (.tup ((List.range n).map φ)) (.int (i : Int)) st = .ok (φ i) st := fIx_tup (by rw [List.getElem?_map, List.getElem?_range h]; rfl)
theorem fIx_rangeL {st : Sto} {n i : Nat} {φ : Nat → D} (h : i < n) : fIx (.lst ((List.range n).map φ)) (.int (i : Int)) st = .ok (φ i) st := fIx_at (x := .lst ((List.range n).map φ)) rfl (by rw [List.getElem?_map, List.getElem?_range h]; rfl)
theorem zipIdx_range (n : Nat) : (List.range n).zipIdx = (List.range n).map fun i => (i, i) := by
  apply List.ext_getElem <;> simp
theorem enum_range (n : Nat) (φ : Nat → D) : enumFromD 0 ((List.range n).map φ) = (List.range n).map fun i : Nat => D.tpl [.int (i : Int), φ i] := by
  rw [enum_map, zipIdx_range, List.map_map]
  rfl
theorem zip_range (n : Nat) (φ ψ : Nat → D) : zipD ((List.range n).map φ) ((List.range n).map ψ) = (List.range n).map fun i : Nat => D.tpl [φ i, ψ i] := by
  rw [zip_map]
  have : (List.range n).zip (List.range n) = (List.range n).map fun i => (i, i) := by
    apply List.ext_getElem <;> simp
  rw [this, List.map_map]
  rfl
theorem iRange_n {a : SA} {ρ : Ev} {st : Sto} {n : Nat} (h : a ρ st = .ok [.int (n : Int)] st) (hn : n ≤ 1000 := by omega) : iRange1 a ρ st = .ok ((List.range n).map fun i : Nat => D.int (i : Int), none) st := iRange1_nat h (by omega)
theorem fz_map {α : Type} (f : Nat) (l : List α) (φ : α → D) (h : ∀ a ∈ l, Fz f (φ a)) : Fz (f + 1) (.tup (l.map φ)) := fz_tup fun d hd => by
  obtain ⟨i, hi, rfl⟩ := List.mem_map.mp hd
  exact h i hi
theorem fz_mapL {α : Type} (f : Nat) (l : List α) (φ : α → D) (h : ∀ a ∈ l, Fz f (φ a)) : Fz (f + 1) (.lst (l.map φ)) := fz_lst fun d hd => by
  obtain ⟨i, hi, rfl⟩ := List.mem_map.mp hd
  exact h i hi
theorem fz_rowT (f n : Nat) (g : Nat → Nat → Int) (i : Nat) : Fz (f + 1) (rowT n g i) := fz_map _ _ _ fun _ _ => fz_int _ _
theorem fz_tabT (f n : Nat) (g : Nat → Nat → Int) : Fz (f + 2) (tabT n g) := fz_map _ _ _ fun _ _ => fz_rowT _ _ _ _
theorem fz_nats (f : Nat) (r : List Nat) : Fz (f + 1) (nats r) := fz_map _ _ _ fun _ _ => fz_int _ _
theorem tabT_congr {n : Nat} {f g : Nat → Nat → Int} (h : ∀ i j, i < n → j < n → f i j = g i j) : tabT n f = tabT n g := by
  unfold tabT rowT
  congr 1
  refine List.map_congr_left fun i hi => ?_
  congr 1
  refine List.map_congr_left fun j hj => ?_
  rw [h i j (List.mem_range.mp hi) (List.mem_range.mp hj)]
/-- a table, sound or not -/
structure TabP (n : Nat) (f : Nat → Nat → Int) : Prop where
  n1 : 1 ≤ n
  n7 : n ≤ 7
  lo : ∀ i j, i < n → j < n → 0 ≤ f i j ∧ f i j ≤ 1000
  dg : ∀ i j, i < n → j < n → (f i j = 0 ↔ i = j)
  sy : ∀ i j, i < n → j < n → f i j = f j i
def Tri (n : Nat) (f : Nat → Nat → Int) : Prop := ∀ i j k, i < n → j < n → k < n → f i k ≤ f i j + f j k
theorem is_integer_i (hw : WF st) (i : Int) : F_is_integer [.int i] st = .ok (.bl true) st := defFin_v hw (fz_bl _ _) (by simp [b_is_integer, startD])
theorem is_within_i (hw : WF st) (i lo hi : Int) : F_is_within [.int i, .int lo, .int hi] st = .ok (.bl (decide (lo ≤ i ∧ i ≤ hi))) st := defFin_v hw (fz_bl _ _) (by
  by_cases h : lo ≤ i
  · simp [b_is_within, startD, is_integer_i hw, h]
  · simp [b_is_within, startD, is_integer_i hw, h])
theorem is_sized_t (hw : WF st) (xs : List D) (lo hi : Int) : F_is_sized [.tup xs, .int lo, .int hi] st = .ok (.bl (decide (lo ≤ xs.length ∧ xs.length ≤ hi))) st := defFin_v hw (fz_bl _ _) (by
  by_cases h : lo ≤ xs.length
  · simp [b_is_sized, startD, h]
  · simp [b_is_sized, startD, h])
/-! what is none -/
def niD : D → Bool
  | .non => true | .bl _ => true | .str _ => true | .tup _ => true | .lst _ => true | .dk _ _ => true
  | _ => false
def ntD : D → Bool
  | .non => true | .bl _ => true | .str _ => true | .int _ => true | .lst _ => true | .dk _ _ => true
  | _ => false
theorem is_integer_ni (hw : WF st) {x : D} (h : niD x = true) : F_is_integer [x] st = .ok (.bl false) st := defFin_v hw (fz_bl _ _) (by
  cases x <;> simp [niD] at h <;> simp [b_is_integer, startD, isTy])
theorem is_within_ni (hw : WF st) {x : D} (h : niD x = true) (lo hi : Int) : F_is_within [x, .int lo, .int hi] st = .ok (.bl false) st := defFin_v hw (fz_bl _ _) (by
  simp [b_is_within, startD, is_integer_ni hw h])
theorem ty_nt {x : D} (h : ntD x = true) : isTy .tuple x = some false := by cases x <;> simp [ntD] at h <;> rfl
theorem is_sized_nt (hw : WF st) {x : D} (h : ntD x = true) (lo hi : Int) : F_is_sized [x, .int lo, .int hi] st = .ok (.bl false) st := defFin_v hw (fz_bl _ _) (by
  simp [b_is_sized, startD, ty_nt h])
theorem is_table_nt (hw : WF st) {x : D} (h : ntD x = true) : F_is_table [x] st = .ok (.bl false) st := defFin_v hw (fz_bl _ _) (by
  simp [b_is_table, startD, is_sized_nt hw h])
/-! ### is_table -/
theorem all_true {α : Type} (l : List α) : (l.all fun _ => true) = true := by simp
theorem any_false {α : Type} (l : List α) : (l.any fun _ => false) = false := by simp
theorem is_table_T (hw : WF st) {n : Nat} {f : Nat → Nat → Int} (v : TabP n f) : F_is_table [tabT n f] st = .ok (.bl true) st := defFin_v hw (fz_bl _ _) (by
  have n1 := v.n1
  have n7 := v.n7
  have z2 := sizeLine_eq
  have h0 : (startD 5 [tabT n f])[0]? = some (some (tabT n f)) := rfl
  have hl : (startD 5 [tabT n f]).length = 5 := rfl
  generalize startD 5 [tabT n f] = ρ at h0 hl
  unfold b_is_table
  simp_arith! [h0, is_sized_t hw, List.length_range, decide_eq_true (show (1 : Int) ≤ n ∧ (n : Int) ≤ 7 by omega)]
  rw [sLC_map (dy := none) (List.range n) (fun i => rowT n f i) (fun _ => D.bl true) (by simp_arith! [iSeq_e, h0]) (still_none _ _) (by simp; omega) fun i hi => ⟨_, rfl, by
    simp_arith! [h0, hl, is_sized_t hw, List.length_range, Int.le_refl]⟩]
  have ba := fun s => bAll_map (fun _ : Nat => true) (List.range n) s
  have bn := fun s => bAny_map (fun _ : Nat => false) (List.range n) s
  simp only [all_true, any_false] at ba bn
  simp_arith! [ba, h0, iEnum_e, enum_range, List.length_range]
  generalize hL : loopFor _ _ _ _ _ _ _ _ = R
  obtain ⟨ρ', rfl, k0, kl⟩ := for_none_e hL (List.range n) (fun i : Nat => D.tpl [.int (i : Int), rowT n f i]) rfl (by simp) (still_none _ _) (fun ρ => ρ[0]? = some (some (tabT n f)) ∧ ρ.length = 5) ⟨h0, hl⟩ (by
    rintro i hi ρ ⟨h0, hl⟩
    have hi := List.mem_range.mp hi
    refine ⟨_, rfl, (ρ.set 1 (some (.int (i : Int)))).set 2 (some (rowT n f i)), .inl ?_, by simp_arith! [h0, hl]⟩
    simp_arith! [hl]
    rw [sLC_map (dy := none) (List.range n) (fun j => D.int (f i j)) (fun _ => D.bl true) (by simp_arith! [iSeq_e, hl]) (still_none _ _) (by simp; omega) fun j hj => ⟨_, rfl, by
      have hj := List.mem_range.mp hj
      simp_arith! [hl, is_within_i hw, decide_eq_true (v.lo i j hi hj)]⟩]
    simp_arith! [ba, hl]
    rw [sLC_map (dy := none) (List.range n) (fun j : Nat => D.tpl [.int (j : Int), .int (f i j)]) (fun _ => D.bl false) (by simp_arith! [iEnum_e, hl, enum_range]) (still_none _ _) (by simp; omega) fun j hj => ⟨_, rfl, by
      have hj := List.mem_range.mp hj
      have e : decide (f i j = 0) = decide ((i : Int) = (j : Int)) := by
        have := v.dg i j hi hj
        apply Bool.eq_iff_iff.mpr
        rw [decide_eq_true_eq, decide_eq_true_eq, this]
        omega
      simp_arith! [hl, e]⟩]
    simp_arith! [bn, hl])
  clear hL
  simp_arith! []
  rw [sLC_map (dy := none) (List.range n) (fun i : Nat => D.tpl [.int (i : Int), rowT n f i]) (fun _ => D.bl true) (by simp_arith! [iEnum_e, k0, enum_range]) (still_none _ _) (by simp; omega) fun i hi => ⟨_, rfl, by
    have hi := List.mem_range.mp hi
    simp_arith! [kl, k0]
    rw [sLC_map (dy := none) (List.range i) (fun j : Nat => D.int (j : Int)) (fun _ => D.bl true) (iRange_n (by simp_arith! [kl, k0])) (still_none _ _) (by simp; omega) fun j hj => ⟨_, rfl, by
      have hj := List.mem_range.mp hj
      have hjn : j < n := by omega
      simp_arith! [kl, k0, fIx_range hjn, fIx_range hi, v.sy i j hi hjn]⟩]
    have ba := bAll_map (fun _ : Nat => true) (List.range i) st
    simp only [all_true] at ba
    simp_arith! [ba]⟩]
  simp_arith! [ba])
theorem check_table_T (hw : WF st) {n : Nat} {f : Nat → Nat → Int} (v : TabP n f) : F_check_table [tabT n f] st = .ok .non st := defFin_n (ρ := startD 1 [tabT n f]) hw (by
  have h0 : (startD 1 [tabT n f])[0]? = some (some (tabT n f)) := rfl
  generalize startD 1 [tabT n f] = ρ at h0
  unfold b_check_table
  simp_arith! [h0, is_table_T hw v])
/-! ### short triples -/
def shortT (n : Nat) (f : Nat → Nat → Int) : Option (Nat × Nat × Nat) :=
  (List.range n).findSome? fun i => (List.range n).findSome? fun j => (List.range n).findSome? fun k => if j ≠ i ∧ j ≠ k ∧ i < k ∧ f i j + f j k < f i k then some (i, j, k) else none
def triD : Option (Nat × Nat × Nat) → D
  | none => .non
  | some (i, j, k) => .tup [.int (i : Int), .int (j : Int), .int (k : Int)]
theorem shortT_none {n : Nat} {f : Nat → Nat → Int} (v : TabP n f) : shortT n f = none ↔ Tri n f := by
  unfold shortT Tri
  simp only [List.findSome?_eq_none_iff, List.mem_range]
  constructor
  · intro h i j k hi hj hk
    have a := v.lo i j hi hj
    have b := v.lo j k hj hk
    have s1 := v.sy i k hi hk
    have s2 := v.sy i j hi hj
    have s3 := v.sy j k hj hk
    by_cases e1 : j = i
    · subst e1; have := (v.dg j j hj hj).mpr rfl; omega
    by_cases e2 : j = k
    · subst e2; have := (v.dg j j hj hj).mpr rfl; omega
    by_cases e3 : i = k
    · subst e3; have := (v.dg i i hi hi).mpr rfl; omega
    by_cases e4 : i < k
    · have := h i hi j hj k hk
      split at this
      · cases this
      · omega
    · have := h k hk j hj i hi
      split at this
      · cases this
      · omega
  · intro h i hi j hj k hk
    have := h i j k hi hj hk
    rw [if_neg (by omega)]
theorem findSome_map {α β γ : Type} (f : α → Option β) (g : β → γ) : ∀ l : List α, l.findSome? (fun a => (f a).map g) = (l.findSome? f).map g
  | [] => rfl
  | a :: l => by
    rw [List.findSome?_cons, List.findSome?_cons]
    cases f a with
    | none => exact findSome_map f g l
    | some b => rfl
theorem toPy_tupInts (st : Sto) (n : Nat) (l : List Int) : toPy st (n + 1) (.tup (l.map D.int)) = some (.tuple (l.map PyData.int)) := by
  rw [toPy]
  simp only [List.map_map]
  rw [allSome_map (f := toPy st n ∘ D.int) (g := PyData.int) fun i _ => toPy_int st n i]
  rfl
theorem inPy_ints (i : Int) (l : List Int) : inPy (.int i) (l.map PyData.int) = decide (i ∈ l) := by
  unfold inPy
  rw [List.any_map]
  apply Bool.eq_iff_iff.mpr
  simp only [List.any_eq_true, Function.comp, eqv_int, decide_eq_true_eq]
  constructor
  · rintro ⟨x, hx, rfl⟩; exact hx
  · intro h; exact ⟨i, h, rfl⟩
theorem fIn0_row (st : Sto) (i : Int) (l : List Int) : fIn0 (.int i) (row l) st = .ok (decide (i ∈ l)) st := by
  have hf : (flatD (.int i) && (l.map D.int).all flatD) = true := by
    simp [flatD]
  unfold fIn0
  simp only [toPy_int, hf, if_true, toPys, List.map_map]
  rw [allSome_map (f := toPy st 59 ∘ D.int) (g := PyData.int) fun i _ => toPy_int st 59 i]
  simp only [inPy_ints]
theorem nats_row (l : List Nat) : nats l = row (l.map fun m : Nat => (m : Int)) := by
  unfold nats row
  rw [List.map_map]
  rfl
theorem fIn0_nats (st : Sto) (m : Nat) (l : List Nat) : fIn0 (.int (m : Int)) (nats l) st = .ok (decide (m ∈ l)) st := by
  rw [nats_row, fIn0_row]
  have : ((m : Int) ∈ l.map fun m : Nat => (m : Int)) ↔ m ∈ l := by
    rw [List.mem_map]
    constructor
    · rintro ⟨a, ha, e⟩
      have : a = m := by omega
      exact this ▸ ha
    · intro h; exact ⟨m, h, rfl⟩
  simp only [this]
theorem fIn_nats (st : Sto) (m : Nat) (l : List Nat) : fIn (.int (m : Int)) (nats l) st = .ok (.bl (decide (m ∈ l))) st := by
  unfold fIn
  rw [fIn0_nats]
  rfl
theorem fNotIn_nats (st : Sto) (m : Nat) (l : List Nat) : fNotIn (.int (m : Int)) (nats l) st = .ok (.bl (!decide (m ∈ l))) st := by
  unfold fNotIn
  rw [fIn0_nats]
  rfl
theorem fNotIn_2 (st : Sto) (m a b : Nat) : fNotIn (.int (m : Int)) (.tup [.int (a : Int), .int (b : Int)]) st = .ok (.bl (!decide (m = a ∨ m = b))) st := by
  have := fNotIn_nats st m [a, b]
  simp only [nats, List.map_cons, List.map_nil] at this
  rw [this]
  simp
end Lw87
namespace Lw87
open PySem PD
variable {st : Sto}
def absI (i : Int) : Int := if i < 0 then -i else i
/-! ### the draws -/
/-- the hand: what it holds is in order -/
structure Hand (cs : List Int) (p q r k : Int) : Prop where
  p0 : 0 ≤ p
  q0 : 0 ≤ q
  c0 : ∀ c ∈ cs, 0 ≤ c
abbrev handO (cs : List Int) (p q r k : Int) : MO := .lst [.lst (cs.map D.int), .int p, .int q, .int r, .int k]
def HandO (o : MO) : Prop := ∃ cs p q r k, o = handO cs p q r k ∧ Hand cs p q r k
theorem noRef_hand (n : Nat) (cs : List Int) (p q r k : Int) : noRefO n (handO cs p q r k) = true := by
  refine noRefs_all fun d hd => ?_
  simp only [List.mem_cons, List.not_mem_nil, or_false] at hd
  rcases hd with rfl | rfl | rfl | rfl | rfl
  · unfold noRef
    exact noRefs_all fun d hd => by
      obtain ⟨i, _, rfl⟩ := List.mem_map.mp hd
      rfl
  all_goals rfl
theorem small_c {i : Int} (h1 : -1000000000000 ≤ i) (h2 : i ≤ 1000000000000) : small i = true := by
  unfold small
  have a : (-(2 ^ 64) : Int) < -1000000000000 := by decide +kernel
  have b : (1000000000000 : Int) < 2 ^ 64 := by decide +kernel
  generalize (2 ^ 64 : Int) = z at a b ⊢
  simp only [Bool.and_eq_true, decide_eq_true_eq]
  omega
theorem fPow18 (st : Sto) : fPow (.int 10) (.int 18) st = .ok (.int 1000000000000000000) st := by
  unfold fPow
  simp
theorem fIx_ref {st : Sto} {l i : Nat} {xs : List D} {d : D} (h : st[l]? = some (.lst xs)) (hi : xs[i]? = some d) : fIx (.ref l) (.int (i : Int)) st = .ok d st := fIx_at (items_ref h) hi
section
variable (cs : List Int) (p q r k v : Int) (rest : Sto)
theorem hi0 : fIx (.ref 0) (.int 0) (handO cs p q r k :: rest) = .ok (.lst (cs.map D.int)) (handO cs p q r k :: rest) := fIx_ref (i := 0) rfl rfl
theorem hi1 : fIx (.ref 0) (.int 1) (handO cs p q r k :: rest) = .ok (.int p) (handO cs p q r k :: rest) := fIx_ref (i := 1) rfl rfl
theorem hi2 : fIx (.ref 0) (.int 2) (handO cs p q r k :: rest) = .ok (.int q) (handO cs p q r k :: rest) := fIx_ref (i := 2) rfl rfl
theorem hi3 : fIx (.ref 0) (.int 3) (handO cs p q r k :: rest) = .ok (.int r) (handO cs p q r k :: rest) := fIx_ref (i := 3) rfl rfl
theorem hi4 : fIx (.ref 0) (.int 4) (handO cs p q r k :: rest) = .ok (.int k) (handO cs p q r k :: rest) := fIx_ref (i := 4) rfl rfl
theorem hs1 : fSetIx (.ref 0) (.int 1) (.int v) (handO cs p q r k :: rest) = some (handO cs v q r k :: rest) := fSetIx_ref (l := 0) (i := 1) (xs := [.lst (cs.map D.int), .int p, .int q, .int r, .int k]) rfl (show 1 < 5 by decide)
theorem hs2 : fSetIx (.ref 0) (.int 2) (.int v) (handO cs p q r k :: rest) = some (handO cs p v r k :: rest) := fSetIx_ref (l := 0) (i := 2) (xs := [.lst (cs.map D.int), .int p, .int q, .int r, .int k]) rfl (show 2 < 5 by decide)
theorem hs3 : fSetIx (.ref 0) (.int 3) (.int v) (handO cs p q r k :: rest) = some (handO cs p q v k :: rest) := fSetIx_ref (l := 0) (i := 3) (xs := [.lst (cs.map D.int), .int p, .int q, .int r, .int k]) rfl (show 3 < 5 by decide)
theorem hs4 : fSetIx (.ref 0) (.int 4) (.int v) (handO cs p q r k :: rest) = some (handO cs p q r v :: rest) := fSetIx_ref (l := 0) (i := 4) (xs := [.lst (cs.map D.int), .int p, .int q, .int r, .int k]) rfl (show 4 < 5 by decide)
end
theorem draw_t {o : MO} {rest : Sto} (hw : WF (o :: rest)) (ho : HandO o) {m : Int} (h0 : 0 < m) (h1 : m < 1073741824) :
    ∃ o' d, HandO o' ∧ 0 ≤ d ∧ d < m ∧ F_law_draw [.ref 0, .int m] (o :: rest) = .ok (.int d) (o' :: rest) := by
  obtain ⟨cs, p, q, r, k, rfl, hh⟩ := ho
  have z2 := sizeLine_eq
  have body : ∃ o' d, HandO o' ∧ 0 ≤ d ∧ d < m ∧ b_law_draw (startD 5 [.ref 0, .int m]) (handO cs p q r k :: rest) = some (.rt (.int d), o' :: rest) := by
    have fst : ∃ x p' q' r', Hand cs p' q' r' k ∧ (qIf (tAndD (tBl (s2 fEq (s2 fIx (sVar 0) (sC (.int 2))) (sC (.int 0)))) (tBl (s2 fLt (s2 fIx (sVar 0) (sC (.int 1))) (sB bLen (aCons (s2 fIx (sVar 0) (sC (.int 0))) aNil))))) (qSeq (qSet 2 (s2 fIx (s2 fIx (sVar 0) (sC (.int 0))) (s2 fIx (sVar 0) (sC (.int 1)))))
    (qSeq (qSetIx (sVar 0) (sC (.int 1)) (s2 fAdd (s2 fIx (sVar 0) (sC (.int 1))) (sC (.int 1))))
    (qSeq (qSetIx (sVar 0) (sC (.int 3)) (s2 fMod (sB bInt (aCons (s2 fAdd (s2 fAdd (s2 fMul (s2 fIx (sVar 0) (sC (.int 3))) (sC (.int 48271))) (sVar 2)) (sC (.int 31))) aNil)) (sC (.int 2147483647))))
    (qIf (tBl (s2 fGe (sVar 2) (s2 fPow (sC (.int 10)) (sC (.int 18))))) (qSetIx (sVar 0) (sC (.int 2)) (sVar 2)) qNext)))) qNext) (startD 5 [.ref 0, .int m]) (handO cs p q r k :: rest) = some (.nx [some (.ref 0), some (.int m), x, none, none], handO cs p' q' r' k :: rest) := by
      by_cases c1 : q = 0
      · by_cases c2 : p < cs.length
        · obtain ⟨pn, rfl⟩ : ∃ n : Nat, p = (n : Int) := ⟨p.toNat, by have := hh.p0; omega⟩
          have hp : pn < cs.length := by omega
          have hc := hh.c0 _ (List.getElem_mem hp)
          have ec : (cs.map D.int)[pn]? = some (.int cs[pn]) := by rw [List.getElem?_map, List.getElem?_eq_getElem hp]; rfl
          have ei : ∀ st, fIx (.lst (cs.map D.int)) (.int (pn : Int)) st = .ok (.int cs[pn]) st := fun st => fIx_at rfl ec
          by_cases c3 : (1000000000000000000 : Int) ≤ cs[pn]
          · refine ⟨some (.int cs[pn]), pn + 1, cs[pn], (r * 48271 + cs[pn] + 31) % 2147483647, ⟨by omega, hc, hh.c0⟩, ?_⟩
            simp [startD, hi0, hi1, hi2, hi3, hi4, hs1, hs2, hs3, hs4, c1, hp, ei, fMul_i (j := 48271) (.inr (small_c (by omega) (by omega))), fMod_i, fPow18, c3]
          · refine ⟨some (.int cs[pn]), pn + 1, 0, (r * 48271 + cs[pn] + 31) % 2147483647, ⟨by omega, by omega, hh.c0⟩, ?_⟩
            simp [startD, hi0, hi1, hi2, hi3, hi4, hs1, hs2, hs3, hs4, c1, hp, ei, fMul_i (j := 48271) (.inr (small_c (by omega) (by omega))), fMod_i, fPow18, c3]
        · refine ⟨none, p, q, r, hh, ?_⟩
          simp [startD, hi0, hi1, hi2, c1, c2]
      · refine ⟨none, p, q, r, hh, ?_⟩
        simp [startD, hi2, c1]
    obtain ⟨x, p', q', r', hh', e⟩ := fst
    unfold b_law_draw
    rw [qSeq_e, e, then_nx]
    by_cases c1 : 0 < q'
    · refine ⟨handO cs p' (q' / m) r' k, q' % m, ⟨_, _, _, _, _, rfl, hh'.p0, Int.ediv_nonneg hh'.q0 (by omega), hh'.c0⟩, Int.emod_nonneg _ (by omega), Int.emod_lt_of_pos _ h0, ?_⟩
      simp [hi2, c1, fMod_i h0, fDiv_i ⟨h0, h1⟩, hs2]
    · simp [hi2, c1, hi3, hi4, hs4, fMul_i (i := 6151) (.inl (small_c (by omega) (by omega))), fMul_i (j := 40692) (.inr (small_c (by omega) (by omega))), fMod_i, fMod_i h0, fDiv_i]
      have b1 := Int.emod_nonneg ((r' + 6151 * (k + 1)) * 40692) (show (2147483399 : Int) ≠ 0 by omega)
      have b2 := Int.emod_lt_of_pos ((r' + 6151 * (k + 1)) * 40692) (show (0 : Int) < 2147483399 by omega)
      generalize (r' + 6151 * (k + 1)) * 40692 % 2147483399 = n1 at b1 b2 ⊢
      rw [fMul_i (.inl (small_c (by omega) (by omega)))]
      simp [fMod_i, fDiv_i]
      have d1 := Int.emod_nonneg (n1 * (n1 / 1223 + 52027)) (show (2147483629 : Int) ≠ 0 by omega)
      have d2 := Int.emod_lt_of_pos (n1 * (n1 / 1223 + 52027)) (show (0 : Int) < 2147483629 by omega)
      generalize n1 * (n1 / 1223 + 52027) % 2147483629 = n2 at d1 d2 ⊢
      rw [fMul_i (.inl (small_c (by omega) (by omega)))]
      simp [fMod_i, fDiv_i]
      have f1 := Int.emod_nonneg (n2 * (n2 / 2671 + 69621)) (show (2147483647 : Int) ≠ 0 by omega)
      have f2 := Int.emod_lt_of_pos (n2 * (n2 / 2671 + 69621)) (show (0 : Int) < 2147483647 by omega)
      generalize n2 * (n2 / 2671 + 69621) % 2147483647 = n3 at f1 f2 ⊢
      simp [fMod_i, fDiv_i, fMod_i h0]
      refine ⟨handO cs p' q' r' (k + 1), ⟨_, _, _, _, _, rfl, hh'.p0, hh'.q0, hh'.c0⟩, _, ?_, ?_, rfl, rfl⟩
      · exact Int.emod_nonneg _ (by omega)
      · exact Int.emod_lt_of_pos _ h0
  obtain ⟨o', d, h1, h2, h3, h4⟩ := body
  have hw' : WF (o' :: rest) := by
    obtain ⟨cs', p', q', r', k', rfl, _⟩ := h1
    exact hw.set 0 (noRef_hand _ cs' p' q' r' k')
  exact ⟨o', d, h1, h2, h3, defFin_rt (ex := []) (by rw [List.append_nil]; exact h4) rfl hw' (by rw [List.append_nil]; exact fz_int _ _ _ _)⟩

theorem hand_t (ns : List Int) (hn : ns.length ≤ 63) : ∃ o, HandO o ∧ F_law_hand [.fz (ns.map D.int)] [] = .ok (.ref 0) [o] := by
  have z2 := sizeLine_eq
  refine ⟨handO (ns.map absI) 0 0 (97 + 5 * ((ns.map absI).length : Int)) 0, ⟨_, _, _, _, _, rfl, by omega, by omega, fun c hc => ?_⟩, ?_⟩
  · obtain ⟨i, _, rfl⟩ := List.mem_map.mp hc
    unfold absI
    split <;> omega
  · have cut : cutD (ns.map D.int) none (some 63) = ns.map D.int := by
      unfold cutD HT.sIx
      simp
      rw [List.take_of_length_le]
      simp
      omega
    unfold F_law_hand defRaw
    have body : b_law_hand (startD 3 [.fz (ns.map D.int)]) [] = some (.rt (.ref 0), [handO (ns.map absI) 0 0 (97 + 5 * ((ns.map absI).length : Int)) 0]) := by
      simp only [b_law_hand, startD]
      simp only [qSeq_e, qSet_e]
      rw [sLC_map (dy := none) ns D.int (fun i => D.int (absI i)) (by simp [cut]) (still_none _ _) (by omega) fun i _ => ⟨_, rfl, by
        show _ = Out.ok (D.int (if i < 0 then -i else i)) []
        simp⟩]
      have e : (ns.map fun i => D.int (absI i)) = (ns.map absI).map D.int := by simp
      rw [e]
      simp [fMul_i (i := 5) (.inl (small_c (by omega) (by omega))), sizeLine_eq]
    rw [body]
    rfl
theorem wf_hand {o o' : MO} {rest : Sto} (hw : WF (o :: rest)) (h : HandO o') : WF (o' :: rest) := by
  obtain ⟨cs', p', q', r', k', rfl, _⟩ := h
  exact hw.set 0 (noRef_hand _ cs' p' q' r' k')
/-- a draw as a natural number -/
theorem draw_n {o : MO} {rest : Sto} (hw : WF (o :: rest)) (ho : HandO o) {m : Nat} (h0 : 0 < m) (h1 : m < 1000000) :
    ∃ (o' : MO) (d : Nat), HandO o' ∧ d < m ∧ F_law_draw [.ref 0, .int (m : Int)] (o :: rest) = .ok (.int (d : Int)) (o' :: rest) := by
  obtain ⟨o', d, h2, h3, h4, e⟩ := draw_t hw ho (m := (m : Int)) (by omega) (by omega)
  obtain ⟨d, rfl⟩ : ∃ k : Nat, d = (k : Int) := ⟨d.toNat, by omega⟩
  exact ⟨o', d, h2, by omega, e⟩
theorem law_some_t {o : MO} {rest : Sto} (hw : WF (o :: rest)) (ho : HandO o) (xs : List D) (h0 : xs ≠ []) (hl : xs.length ≤ 1000) (hf : ∀ x ∈ xs, Fz 60 x) : ∃ o' x, HandO o' ∧ x ∈ xs ∧ F_law_some [.ref 0, .lst xs] (o :: rest) = .ok x (o' :: rest) := by
  have l0 : 0 < xs.length := List.length_pos_iff.mpr h0
  obtain ⟨o', d, ho', h1, h2, e⟩ := draw_t hw ho (m := (xs.length : Int)) (by omega) (by omega)
  obtain ⟨k, rfl⟩ : ∃ k : Nat, d = (k : Int) := ⟨d.toNat, by omega⟩
  have hk : k < xs.length := by omega
  refine ⟨o', xs[k], ho', List.getElem_mem hk, ?_⟩
  refine defFin_rt (ex := []) (st' := o' :: rest) (d := xs[k]) ?_ rfl (wf_hand hw ho') (hf _ (List.getElem_mem hk) _ _)
  simp [b_law_some, startD, e, fIx_at (st := o' :: rest) (x := .lst xs) (xs := xs) (i := k) rfl (List.getElem?_eq_getElem hk)]
/-- of a list that stands in the store behind the hand -/
theorem law_some_r {o : MO} {rest : Sto} (hw : WF (o :: rest)) (ho : HandO o) {l : Nat} (xs : List D) (hx : rest[l]? = some (.lst xs)) (h0 : xs ≠ []) (hl : xs.length ≤ 1000) (hf : ∀ x ∈ xs, Fz 60 x) : ∃ o' x, HandO o' ∧ x ∈ xs ∧ F_law_some [.ref 0, .ref (l + 1)] (o :: rest) = .ok x (o' :: rest) := by
  have l0 : 0 < xs.length := List.length_pos_iff.mpr h0
  obtain ⟨o', d, ho', h1, h2, e⟩ := draw_t hw ho (m := (xs.length : Int)) (by omega) (by omega)
  obtain ⟨k, rfl⟩ : ∃ k : Nat, d = (k : Int) := ⟨d.toNat, by omega⟩
  have hk : k < xs.length := by omega
  have g : ∀ o : MO, (o :: rest)[l + 1]? = some (.lst xs) := fun o => by rw [List.getElem?_cons_succ]; exact hx
  refine ⟨o', xs[k], ho', List.getElem_mem hk, ?_⟩
  refine defFin_rt (ex := []) (st' := o' :: rest) (d := xs[k]) ?_ rfl (wf_hand hw ho') (hf _ (List.getElem_mem hk) _ _)
  simp [b_law_some, startD, e, bLen_ref (g o), fIx_at (items_ref (g o')) (List.getElem?_eq_getElem hk)]
end Lw87
namespace Lw87
open PySem PD
variable {st : Sto}
/-! ### rows that stand in the store -/
abbrev rowG (n : Nat) (f : Nat → D) : List D := (List.range n).map f
def rowsG (n : Nat) (F : Nat → Nat → D) : Sto := (List.range n).map fun a => MO.lst (rowG n (F a))
def updG (F : Nat → Nat → D) (i j : Nat) (v : D) : Nat → Nat → D := fun a b => if a = i ∧ b = j then v else F a b
theorem rowsG_len (n : Nat) (F : Nat → Nat → D) : (rowsG n F).length = n := by simp [rowsG]
theorem rowsG_get {n a : Nat} (F : Nat → Nat → D) (st : Sto) (h : a < n) : (st ++ rowsG n F)[st.length + a]? = some (.lst (rowG n (F a))) := by
  rw [List.getElem?_append_right (by omega), Nat.add_sub_cancel_left]
  unfold rowsG
  rw [List.getElem?_map, List.getElem?_range h]
  rfl
theorem rowG_get {n b : Nat} (f : Nat → D) (h : b < n) : (rowG n f)[b]? = some (f b) := by
  rw [List.getElem?_map, List.getElem?_range h]
  rfl
theorem map_range_set {α : Type} {n b : Nat} (f : Nat → α) (v : α) : ((List.range n).map f).set b v = (List.range n).map fun x => if x = b then v else f x := by
  apply List.ext_getElem
  · simp
  · intro i h1 h2
    rw [List.getElem_set]
    simp only [List.getElem_map, List.getElem_range]
    by_cases e : b = i
    · rw [if_pos e, if_pos e.symm]
    · rw [if_neg e, if_neg fun q => e q.symm]
theorem rowsG_set {n a b : Nat} (F : Nat → Nat → D) (v : D) (st : Sto) (h : a < n) : (st ++ rowsG n F).set (st.length + a) (.lst ((rowG n (F a)).set b v)) = st ++ rowsG n (updG F a b v) := by
  rw [List.set_append_right (h := by omega), Nat.add_sub_cancel_left]
  congr 1
  unfold rowsG
  rw [map_range_set]
  refine List.map_congr_left fun x hx => ?_
  by_cases e : x = a
  · subst e
    rw [if_pos rfl]
    unfold rowG
    rw [map_range_set]
    congr 1
    refine List.map_congr_left fun y hy => ?_
    unfold updG
    by_cases e2 : y = b
    · rw [if_pos e2, if_pos ⟨rfl, e2⟩]
    · rw [if_neg e2, if_neg fun q => e2 q.2]
  · rw [if_neg e]
    congr 1
    refine List.map_congr_left fun y hy => ?_
    unfold updG
    rw [if_neg fun q => e q.1]
theorem rowsG_congr {n : Nat} {F G : Nat → Nat → D} (h : ∀ a b, a < n → b < n → F a b = G a b) : rowsG n F = rowsG n G := by
  unfold rowsG
  refine List.map_congr_left fun a ha => ?_
  congr 1
  exact List.map_congr_left fun b hb => h a b (List.mem_range.mp ha) (List.mem_range.mp hb)
theorem wf_append {st ex : Sto} (h : WF st) (he : ∀ o ∈ ex, ∀ n, noRefO n o = true) : WF (st ++ ex) := by
  unfold WF at h ⊢
  rw [List.all_append, List.length_append]
  exact Bool.and_eq_true_iff.mpr ⟨List.all_eq_true.mpr fun x hx => noRefO_mono (by omega) x (List.all_eq_true.mp h x hx), List.all_eq_true.mpr fun o ho => he o ho _⟩
theorem wf_rowsG {st : Sto} (h : WF st) {n : Nat} {F : Nat → Nat → D} (hF : ∀ a b m, noRef m (F a b) = true) : WF (st ++ rowsG n F) := wf_append h fun o ho m => by
  obtain ⟨a, _, rfl⟩ := List.mem_map.mp ho
  exact noRefs_all fun d hd => by
    obtain ⟨b, _, rfl⟩ := List.mem_map.mp hd
    exact hF a b m
theorem lc_alloc {α : Type} {g : TgD} {e : SE} {ρ0 : Ev} {φ : α → D} {F : α → MO} {n : Nat} : ∀ (xs : List α) (i : Nat) (st : Sto), (∀ a ∈ xs, ∀ st, ∃ ρ1, g (φ a) ρ0 = some ρ1 ∧ e ρ1 st = .ok (.ref st.length) (st ++ [F a])) →
    loopLC none n g tYesD e ρ0 i (xs.map φ) st = .ok ((List.range xs.length).map fun k => D.ref (st.length + k)) (st ++ xs.map F)
  | [], i, st, h => by simp [loopLC, finOk]
  | a :: xs, i, st, h => by
    obtain ⟨ρ1, h1, h2⟩ := h a List.mem_cons_self st
    have ih := lc_alloc (g := g) (e := e) (ρ0 := ρ0) (φ := φ) (F := F) (n := n) xs (i + 1) (st ++ [F a]) fun b hb => h b (List.mem_cons_of_mem _ hb)
    rw [List.map_cons, loopLC]
    simp only [fetch, h1, tYesD_e, nx_ok, bind_ok, if_true, h2, ih]
    congr 1
    · rw [List.length_cons, List.range_succ_eq_map, List.map_cons, List.map_map]
      congr 1
      refine List.map_congr_left fun k _ => ?_
      show D.ref _ = D.ref _
      congr 1
      rw [List.length_append, List.length_singleton]
      simp only [Nat.succ_eq_add_one]
      omega
    · rw [List.map_cons, List.append_assoc]
      rfl
theorem sLC_alloc {α : Type} {it : SI} {g : TgD} {e : SE} {vs : List Nat} {ρ : Ev} {st : Sto} (xs : List α) (φ : α → D) (F : α → MO) (hit : it ρ st = .ok (xs.map φ, none) st) (hz : xs.length ≤ sizeLine)
    (h : ∀ a ∈ xs, ∀ st, ∃ ρ1, g (φ a) (wipeD ρ vs) = some ρ1 ∧ e ρ1 st = .ok (.ref st.length) (st ++ [F a])) : sLC false it g tYesD e vs ρ st = .ok (.lst ((List.range xs.length).map fun k => D.ref (st.length + k))) (st ++ xs.map F) := by
  unfold sLC
  rw [hit]
  simp only [bind_ok, List.length_map]
  rw [if_pos hz, lc_alloc xs 0 st h]
  rfl
theorem lc_alloc2 {α : Type} {g : TgD} {e : SE} {ρ0 : Ev} {φ : α → D} {F : α → MO} {n : Nat} {st : Sto} : ∀ (xs : List α) (i : Nat) (ex : Sto), (∀ a ∈ xs, ∀ ex, ∃ ρ1, g (φ a) ρ0 = some ρ1 ∧ e ρ1 (st ++ ex) = .ok (.ref (st ++ ex).length) (st ++ ex ++ [F a])) →
    loopLC none n g tYesD e ρ0 i (xs.map φ) (st ++ ex) = .ok ((List.range xs.length).map fun k => D.ref ((st ++ ex).length + k)) (st ++ ex ++ xs.map F)
  | [], i, ex, h => by simp [loopLC, finOk]
  | a :: xs, i, ex, h => by
    obtain ⟨ρ1, h1, h2⟩ := h a List.mem_cons_self ex
    have ih := lc_alloc2 (g := g) (e := e) (ρ0 := ρ0) (φ := φ) (F := F) (n := n) (st := st) xs (i + 1) (ex ++ [F a]) fun b hb => h b (List.mem_cons_of_mem _ hb)
    rw [← List.append_assoc] at ih
    rw [List.map_cons, loopLC]
    simp only [fetch, h1, tYesD_e, nx_ok, bind_ok, if_true, h2, ih]
    congr 1
    · rw [List.length_cons, List.range_succ_eq_map, List.map_cons, List.map_map]
      congr 1
      refine List.map_congr_left fun k _ => ?_
      show D.ref _ = D.ref _
      congr 1
      rw [List.length_append, List.length_singleton]
      simp only [Nat.succ_eq_add_one]
      omega
    · rw [List.map_cons, List.append_assoc]
      rfl
theorem sLC_alloc2 {α : Type} {it : SI} {g : TgD} {e : SE} {vs : List Nat} {ρ : Ev} {st : Sto} (xs : List α) (φ : α → D) (F : α → MO) (hit : it ρ st = .ok (xs.map φ, none) st) (hz : xs.length ≤ sizeLine)
    (h : ∀ a ∈ xs, ∀ ex, ∃ ρ1, g (φ a) (wipeD ρ vs) = some ρ1 ∧ e ρ1 (st ++ ex) = .ok (.ref (st ++ ex).length) (st ++ ex ++ [F a])) : sLC false it g tYesD e vs ρ st = .ok (.lst ((List.range xs.length).map fun k => D.ref (st.length + k))) (st ++ xs.map F) := by
  unfold sLC
  rw [hit]
  simp only [bind_ok, List.length_map]
  have := lc_alloc2 (n := xs.length) (st := st) xs 0 [] h
  rw [List.append_nil] at this
  rw [if_pos hz, this]
  rfl
/-- the refs of rows that stand from L on -/
abbrev refsL (L n : Nat) : D := .lst ((List.range n).map fun a => D.ref (L + a))
theorem fIx_refs {n a : Nat} {st : Sto} {L : Nat} (h : a < n) : fIx (refsL L n) (.int (a : Int)) st = .ok (.ref (L + a)) st := fIx_rangeL h
theorem fIx_rowG {n a b : Nat} {F : Nat → Nat → D} {st : Sto} (h : a < n) (hb : b < n) : fIx (.ref (st.length + a)) (.int (b : Int)) (st ++ rowsG n F) = .ok (F a b) (st ++ rowsG n F) :=
  fIx_at (items_ref (rowsG_get F st h)) (rowG_get _ hb)
theorem fSetIx_rowG {n a b : Nat} {F : Nat → Nat → D} {st : Sto} {v : D} (h : a < n) (hb : b < n) : fSetIx (.ref (st.length + a)) (.int (b : Int)) v (st ++ rowsG n F) = some (st ++ rowsG n (updG F a b v)) := by
  rw [fSetIx_ref (rowsG_get F st h) (by simpa using hb), rowsG_set F v st h]
/-- the rows, as tuples -/
theorem tup_rowsG {n : Nat} {F : Nat → Nat → D} {st : Sto} {ρ : Ev} {v w : Nat} (hn : n ≤ 1000) (hρ : ρ[v]? = some (some (refsL st.length n))) (hw : w < ρ.length) :
    sLC false (iSeq (sVar v)) (gN w) tYesD (sB bTuple (aCons (sVar w) aNil)) [w] ρ (st ++ rowsG n F) = .ok (.lst ((List.range n).map fun a => D.tup (rowG n (F a)))) (st ++ rowsG n F) := by
  have := sizeLine_eq
  rw [sLC_map (dy := none) (List.range n) (fun a => D.ref (st.length + a)) (fun a => D.tup (rowG n (F a))) (by simp [hρ]) (still_none _ _) (by simp; omega) fun a ha => ⟨_, rfl, by
    have ha := List.mem_range.mp ha
    have e : (ρ.set w (some (D.ref (st.length + a))))[w]? = some (some (D.ref (st.length + a))) := by
      rw [List.getElem?_set_self hw]
    simp [e, bTuple_ref (rowsG_get F st ha)]⟩]
  rfl
theorem range_step {n i : Nat} {x : Nat} {r : List Nat} (h : List.range n = List.range i ++ x :: r) : x = i ∧ i < n ∧ List.range n = List.range (i + 1) ++ r := by
  have hl := congrArg List.length h
  simp at hl
  have hx := congrArg (fun l : List Nat => l[i]?) h
  rw [List.getElem?_append_right (by simp), List.length_range, Nat.sub_self, List.getElem?_cons_zero, List.getElem?_range (by omega)] at hx
  have : x = i := (Option.some.inj hx).symm
  subst this
  refine ⟨rfl, by omega, ?_⟩
  rw [h, List.range_succ, List.append_assoc]
  rfl
theorem range_end {n i : Nat} (h : List.range n = List.range i ++ []) : i = n := by
  have := congrArg List.length h
  simpa using this.symm
theorem fRep_G (n : Nat) (hn : n ≤ 1000) (d : D) (st : Sto) : fRep true (.lst [d]) (.int (n : Int)) st = .ok (.ref st.length) (st ++ [.lst (rowG n fun _ => d)]) := by
  have e : repL [d] n = rowG n fun _ => d := by
    unfold repL rowG
    rw [List.flatten_replicate_singleton]
    apply List.ext_getElem <;> simp
  have z2 := sizeLine_eq
  unfold fRep
  simp only [litems_lst]
  rw [if_pos (by simp; omega), Int.toNat_natCast, e]
  rfl
/-! numbers -/
abbrev intG (f : Nat → Nat → Int) : Nat → Nat → D := fun a b => .int (f a b)
def upd1 (f : Nat → Nat → Int) (i j : Nat) (v : Int) : Nat → Nat → Int := fun a b => if a = i ∧ b = j then v else f a b
theorem updG_int (f : Nat → Nat → Int) (i j : Nat) (v : Int) : updG (intG f) i j (.int v) = intG (upd1 f i j v) := by
  funext a b
  unfold updG intG upd1
  split <;> rfl
theorem noRef_intG (f : Nat → Nat → Int) : ∀ a b m, noRef m (intG f a b) = true := fun _ _ _ => rfl
/-! ### raw tables -/
structure RawF (n : Nat) (top : Int) (f : Nat → Nat → Int) : Prop where
  dg : ∀ a, f a a = 0
  sy : ∀ a b, a < n → b < n → f a b = f b a
  po : ∀ a b, a < n → b < n → a ≠ b → 1 ≤ f a b ∧ f a b ≤ top
structure RawI (i j : Nat) (top : Int) (f : Nat → Nat → Int) : Prop where
  dg : ∀ a, f a a = 0
  sy : ∀ a b, f a b = f b a
  po : ∀ a b, b < a → (a < i ∨ a = i ∧ b < j) → 1 ≤ f a b ∧ f a b ≤ top
theorem RawI.next {i j : Nat} {top v : Int} {f : Nat → Nat → Int} (h : RawI i j top f) (hj : j < i) (h1 : 1 ≤ v) (h2 : v ≤ top) : RawI i (j + 1) top (upd1 (upd1 f i j v) j i v) := by
  refine ⟨fun a => ?_, fun a b => ?_, fun a b hb hab => ?_⟩
  · unfold upd1
    rw [if_neg (by omega), if_neg (by omega)]
    exact h.dg a
  · unfold upd1
    by_cases c1 : a = j ∧ b = i
    · rw [if_pos c1]
      by_cases c2 : b = j ∧ a = i
      · omega
      · rw [if_neg c2, if_pos ⟨c1.2, c1.1⟩]
    · rw [if_neg c1]
      by_cases c2 : a = i ∧ b = j
      · rw [if_pos c2, if_pos ⟨c2.2, c2.1⟩]
      · rw [if_neg c2, if_neg fun q => c2 ⟨q.2, q.1⟩, if_neg fun q => c1 ⟨q.2, q.1⟩]
        exact h.sy a b
  · unfold upd1
    by_cases c1 : a = j ∧ b = i
    · omega
    · rw [if_neg c1]
      by_cases c2 : a = i ∧ b = j
      · rw [if_pos c2]; exact ⟨h1, h2⟩
      · rw [if_neg c2]
        exact h.po a b hb (by omega)
theorem RawI.up {i : Nat} {top : Int} {f : Nat → Nat → Int} (h : RawI i i top f) : RawI (i + 1) 0 top f :=
  ⟨h.dg, h.sy, fun a b hb hab => h.po a b hb (by omega)⟩
theorem RawI.fin {n : Nat} {top : Int} {f : Nat → Nat → Int} (h : RawI n 0 top f) : RawF n top f :=
  ⟨h.dg, fun a b _ _ => h.sy a b, fun a b ha hb hne => by
    by_cases c : b < a
    · exact h.po a b c (by omega)
    · rw [h.sy a b]
      exact h.po b a (by omega) (by omega)⟩
theorem RawF.tab {n : Nat} {top : Int} {f : Nat → Nat → Int} (h : RawF n top f) (n1 : 1 ≤ n) (n7 : n ≤ 7) (ht : top ≤ 1000) : TabP n f where
  n1 := n1
  n7 := n7
  lo := fun i j hi hj => by
    by_cases e : i = j
    · subst e; have := h.dg i; omega
    · have := h.po i j hi hj e; omega
  dg := fun i j hi hj => by
    constructor
    · intro e
      by_cases q : i = j
      · exact q
      · have := h.po i j hi hj q; omega
    · rintro rfl; exact h.dg i
  sy := fun i j hi hj => h.sy i j hi hj
/-! ### the shortest ways -/
/-- through the place m -/
def thr (d : Nat → Nat → Int) (m a b : Nat) : Int := if d a m + d m b < d a b then d a m + d m b else d a b
/-- through the places below m -/
def fw (d : Nat → Nat → Int) : Nat → Nat → Nat → Int
  | 0 => d
  | m + 1 => thr (fw d m) m
theorem thr_le (d : Nat → Nat → Int) (m a b : Nat) : thr d m a b ≤ d a b ∧ thr d m a b ≤ d a m + d m b ∧ (thr d m a b = d a b ∨ thr d m a b = d a m + d m b) := by
  unfold thr
  split
  · exact ⟨by omega, by omega, .inr rfl⟩
  · exact ⟨by omega, by omega, .inl rfl⟩
structure Met (n : Nat) (f : Nat → Nat → Int) : Prop where
  dg : ∀ a, a < n → f a a = 0
  nn : ∀ a b, a < n → b < n → 0 ≤ f a b
theorem Met.thr {n m : Nat} {d : Nat → Nat → Int} (h : Met n d) (hm : m < n) : Met n (thr d m) := by
  refine ⟨fun a ha => ?_, fun a b ha hb => ?_⟩
  · have h1 := h.dg a ha
    have h2 := h.nn a m ha hm
    have h3 := h.nn m a hm ha
    obtain ⟨q1, q2, q3⟩ := thr_le d m a a
    omega
  · have h1 := h.nn a b ha hb
    have h2 := h.nn a m ha hm
    have h3 := h.nn m b hm hb
    obtain ⟨q1, q2, q3⟩ := thr_le d m a b
    omega
theorem Met.fw {n : Nat} {d : Nat → Nat → Int} (h : Met n d) : ∀ m, m ≤ n → Met n (fw d m)
  | 0, _ => h
  | m + 1, hm => (Met.fw h m (by omega)).thr (by omega)
theorem fw_le {n : Nat} {d : Nat → Nat → Int} : ∀ (m a b : Nat), fw d m a b ≤ d a b
  | 0, _, _ => Int.le_refl _
  | m + 1, a, b => Int.le_trans (thr_le (fw d m) m a b).1 (fw_le (n := n) m a b)
theorem fw_sy {n : Nat} {d : Nat → Nat → Int} (h : ∀ a b, a < n → b < n → d a b = d b a) : ∀ m, m ≤ n → ∀ a b, a < n → b < n → fw d m a b = fw d m b a
  | 0, _, a, b, ha, hb => h a b ha hb
  | m + 1, hm, a, b, ha, hb => by
    have ih := fw_sy h m (by omega)
    show thr _ _ _ _ = thr _ _ _ _
    unfold thr
    rw [ih a b ha hb, ih a m ha (by omega), ih m b (by omega) hb, Int.add_comm]
theorem fw_po {n : Nat} {d : Nat → Nat → Int} (hd : Met n d) (h : ∀ a b, a < n → b < n → a ≠ b → 1 ≤ d a b) : ∀ m, m ≤ n → ∀ a b, a < n → b < n → a ≠ b → 1 ≤ fw d m a b
  | 0, _, a, b, ha, hb, e => h a b ha hb e
  | m + 1, hm, a, b, ha, hb, e => by
    have ih := fw_po hd h m (by omega)
    have mt := hd.fw m (by omega)
    have h1 := ih a b ha hb e
    have h2 := mt.nn a m ha (by omega)
    have h3 := mt.nn m b (by omega) hb
    obtain ⟨q1, q2, q3⟩ := thr_le (fw d m) m a b
    show 1 ≤ thr (fw d m) m a b
    rcases q3 with q | q
    · omega
    · by_cases e1 : a = m
      · subst e1
        have := mt.dg a ha
        omega
      · have := ih a m ha (by omega) e1
        omega
theorem fw_tr0 {n : Nat} {d : Nat → Nat → Int} (hd : Met n d) : ∀ m, m ≤ n → ∀ k a b, k < m → a < n → b < n → fw d m a b ≤ fw d m a k + fw d m k b
  | 0, _, k, a, b, hk, _, _ => absurd hk (by omega)
  | m + 1, hm, k, a, b, hk, ha, hb => by
    have ih := fw_tr0 hd m (by omega)
    have mt := hd.fw m (by omega)
    show thr (fw d m) m a b ≤ thr (fw d m) m a k + thr (fw d m) m k b
    obtain ⟨q1, q2, q3⟩ := thr_le (fw d m) m a b
    obtain ⟨r1, r2, r3⟩ := thr_le (fw d m) m a k
    obtain ⟨s1, s2, s3⟩ := thr_le (fw d m) m k b
    have hmn : m < n := by omega
    have hkn : k < n := by omega
    have n1 := mt.nn a m ha hmn
    have n2 := mt.nn m k hmn hkn
    have n3 := mt.nn k m hkn hmn
    have n4 := mt.nn m b hmn hb
    have n5 := mt.dg m hmn
    by_cases e : k = m
    · subst e
      rw [n5] at *
      omega
    · have t1 := ih k a b (by omega) ha hb
      have t2 := ih k m b (by omega) hmn hb
      have t3 := ih k a m (by omega) ha hmn
      omega
theorem fw_tr {n : Nat} {d : Nat → Nat → Int} (hd : Met n d) : Tri n (fw d n) := fun i j k hi hj hk => fw_tr0 hd n (Nat.le_refl _) j i k hj hi hk
theorem fw_id {n : Nat} {d : Nat → Nat → Int} (h : Tri n d) : ∀ m, m ≤ n → ∀ a b, a < n → b < n → fw d m a b = d a b
  | 0, _, a, b, ha, hb => rfl
  | m + 1, hm, a, b, ha, hb => by
    have ih := fw_id h m (by omega)
    show thr (fw d m) m a b = d a b
    have t := h a m b ha (by omega) hb
    unfold thr
    rw [ih a b ha hb, ih a m ha (by omega), ih m b (by omega) hb, if_neg (by omega)]
/-- the greatest below -/
theorem fw_ge {n : Nat} {d g : Nat → Nat → Int} (hg : Tri n g) (h : ∀ a b, a < n → b < n → g a b ≤ d a b) : ∀ m, m ≤ n → ∀ a b, a < n → b < n → g a b ≤ fw d m a b
  | 0, _, a, b, ha, hb => h a b ha hb
  | m + 1, hm, a, b, ha, hb => by
    have ih := fw_ge hg h m (by omega)
    show g a b ≤ thr (fw d m) m a b
    have t := hg a m b ha (by omega) hb
    have i1 := ih a b ha hb
    have i2 := ih a m ha (by omega)
    have i3 := ih m b (by omega) hb
    obtain ⟨q1, q2, q3⟩ := thr_le (fw d m) m a b
    omega
structure Pass (d : Nat → Nat → Int) (n m i j : Nat) (f : Nat → Nat → Int) : Prop where
  at_ : ∀ a b, a < n → b < n → f a b = if a < i ∨ a = i ∧ b < j then thr d m a b else d a b
theorem Pass.im {d f : Nat → Nat → Int} {n m i j : Nat} (hd : Met n d) (hm : m < n) (hi : i < n) (h : Pass d n m i j f) : f i m = d i m := by
  have z := hd.dg m hm
  rw [h.at_ i m hi hm]
  split
  · unfold thr
    rw [z]
    split
    · omega
    · rfl
  · rfl
theorem Pass.mj {d f : Nat → Nat → Int} {n m i j : Nat} (hd : Met n d) (hm : m < n) {b : Nat} (hb : b < n) (h : Pass d n m i j f) : f m b = d m b := by
  have z := hd.dg m hm
  rw [h.at_ m b hm hb]
  split
  · unfold thr
    rw [z]
    split
    · omega
    · rfl
  · rfl
theorem Pass.next {d f : Nat → Nat → Int} {n m i j : Nat} (hd : Met n d) (hm : m < n) (hi : i < n) (hj : j < n) (h : Pass d n m i j f) :
    Pass d n m i (j + 1) (upd1 f i j (if f i m + f m j < f i j then f i m + f m j else f i j)) := by
  have e1 := h.im hd hm hi
  have e2 := h.mj hd hm hj
  have e3 : f i j = d i j := by
    rw [h.at_ i j hi hj, if_neg (by omega)]
  refine ⟨fun a b ha hb => ?_⟩
  unfold upd1
  by_cases c : a = i ∧ b = j
  · obtain ⟨rfl, rfl⟩ := c
    rw [if_pos ⟨rfl, rfl⟩, e1, e2, e3, if_pos (show a < a ∨ a = a ∧ b < b + 1 from .inr ⟨rfl, by omega⟩)]
    rfl
  · rw [if_neg c, h.at_ a b ha hb]
    by_cases c2 : a < i ∨ a = i ∧ b < j
    · rw [if_pos c2, if_pos (by omega)]
    · rw [if_neg c2, if_neg (by omega)]
theorem Pass.up {d f : Nat → Nat → Int} {n m i : Nat} (h : Pass d n m i n f) : Pass d n m (i + 1) 0 f :=
  ⟨fun a b ha hb => by
    rw [h.at_ a b ha hb]
    by_cases c : a < i ∨ a = i ∧ b < n
    · rw [if_pos c, if_pos (by omega)]
    · rw [if_neg c, if_neg (by omega)]⟩
theorem Pass.fin {d f : Nat → Nat → Int} {n m : Nat} (h : Pass d n m n 0 f) : ∀ a b, a < n → b < n → f a b = thr d m a b := fun a b ha hb => by
  rw [h.at_ a b ha hb, if_pos (by omega)]
theorem thr_congr {n : Nat} {d e : Nat → Nat → Int} (h : ∀ a b, a < n → b < n → d a b = e a b) {m : Nat} (hm : m < n) {a b : Nat} (ha : a < n) (hb : b < n) : thr d m a b = thr e m a b := by
  unfold thr
  rw [h a b ha hb, h a m ha hm, h m b hm hb]
/-- rows of numbers, as they are handed in -/
def RowsIn (st : Sto) (n : Nat) (f : Nat → Nat → Int) (x : D) : Prop := ∃ φ : Nat → D, items st x = some ((List.range n).map φ) ∧ dynOf x = none ∧ ∀ a, a < n → ∀ ex, bList true [φ a] (st ++ ex) = .ok (.ref (st ++ ex).length) (st ++ ex ++ [.lst (rowG n (intG f a))])
theorem rowsIn_tab (st : Sto) (n : Nat) (f : Nat → Nat → Int) : RowsIn st n f (tabT n f) := ⟨fun a => rowT n f a, rfl, rfl, fun _ _ _ => rfl⟩
abbrev tabL (n : Nat) (f : Nat → Nat → Int) : D := .lst ((List.range n).map fun a => D.lst (rowG n (intG f a)))
theorem rowsIn_lst (st : Sto) (n : Nat) (f : Nat → Nat → Int) : RowsIn st n f (tabL n f) := ⟨fun a => .lst (rowG n (intG f a)), rfl, rfl, fun _ _ _ => rfl⟩
theorem rowsIn_refs (st : Sto) (n : Nat) (f : Nat → Nat → Int) : RowsIn (st ++ rowsG n (intG f)) n f (refsL st.length n) := ⟨fun a => .ref (st.length + a), rfl, rfl, fun a ha ex => by
  unfold bList
  simp only [items_ref (show ((st ++ rowsG n (intG f)) ++ ex)[st.length + a]? = some (.lst (rowG n (intG f a))) by rw [List.getElem?_append_left (by simp [rowsG_len]; omega)]; exact rowsG_get _ _ ha)]
  rfl⟩
end Lw87
namespace Lw87
open PySem PD
variable {st : Sto}
/-! ### shortest -/
theorem enum_still {st : Sto} {l n : Nat} {φ : Nat → D} (h : st[l]? = some (.lst ((List.range n).map φ))) : Still (some (.inr l)) ((List.range n).map fun i : Nat => D.tpl [.int (i : Int), φ i]) st := by
  rw [← enum_range]
  exact still_enum h
theorem fNotN2_i (st : Sto) (i : Int) : fNotN2 (.int i) .non st = .ok (.bl true) st := rfl
theorem fIsN2_i (st : Sto) (i : Int) : fIsN2 (.int i) .non st = .ok (.bl false) st := rfl
theorem Pass.same {d f : Nat → Nat → Int} {n m i j : Nat} (h : Pass d n m i j f) (hj : j < n) (hi : i < n) (e : ¬ d i m + d m j < d i j) : Pass d n m i (j + 1) f := ⟨fun a b ha hb => by
  rw [h.at_ a b ha hb]
  by_cases c : a < i ∨ a = i ∧ b < j
  · rw [if_pos c, if_pos (by omega)]
  · rw [if_neg c]
    by_cases c2 : a = i ∧ b = j
    · obtain ⟨rfl, rfl⟩ := c2
      rw [if_pos (by omega)]
      unfold thr
      rw [if_neg e]
    · rw [if_neg (by omega)]⟩
end Lw87
namespace Lw87
open PySem PD
variable {st : Sto}
/-! ### ways -/
def wsum (w : Nat → Nat → Int) : List Nat → Int
  | [] => 0
  | [_] => 0
  | a :: b :: r => w a b + wsum w (b :: r)
def lastN : List Nat → Nat
  | [] => 0
  | [a] => a
  | _ :: b :: r => lastN (b :: r)
theorem lastN_cons (a b : Nat) (r : List Nat) : lastN (a :: b :: r) = lastN (b :: r) := rfl
theorem lastN_mem : ∀ (a : Nat) (r : List Nat), lastN (a :: r) ∈ a :: r
  | a, [] => List.mem_cons_self
  | a, b :: r => List.mem_cons_of_mem _ (lastN_mem b r)
theorem lastN_app : ∀ (a : Nat) (r : List Nat) (b : Nat) (s : List Nat), lastN (a :: r ++ b :: s) = lastN (b :: s)
  | a, [], b, s => rfl
  | a, c :: r, b, s => lastN_app c r b s
theorem lastN_snoc : ∀ (l : List Nat) (b : Nat), lastN (l ++ [b]) = b
  | [], b => rfl
  | a :: r, b => lastN_app a r b []
theorem wsum_tri {n : Nat} {g : Nat → Nat → Int} (hg : Tri n g) (h0 : ∀ a, a < n → g a a = 0) : ∀ (a : Nat) (r : List Nat), (∀ x ∈ a :: r, x < n) → g a (lastN (a :: r)) ≤ wsum g (a :: r)
  | a, [], h => by
    show g a a ≤ 0
    rw [h0 a (h a List.mem_cons_self)]; exact Int.le_refl _
  | a, b :: r, h => by
    have ih := wsum_tri hg h0 b r fun x hx => h x (List.mem_cons_of_mem _ hx)
    have t := hg a b (lastN (b :: r)) (h a List.mem_cons_self) (h b (List.mem_cons_of_mem _ List.mem_cons_self)) (h _ (List.mem_cons_of_mem _ (lastN_mem b r)))
    show g a (lastN (b :: r)) ≤ g a b + wsum g (b :: r)
    omega
theorem wsum_mono {n : Nat} {g d : Nat → Nat → Int} (h : ∀ a b, a < n → b < n → g a b ≤ d a b) : ∀ (l : List Nat), (∀ x ∈ l, x < n) → wsum g l ≤ wsum d l
  | [], _ => Int.le_refl _
  | [_], _ => Int.le_refl _
  | a :: b :: r, hl => by
    have ih := wsum_mono h (b :: r) fun x hx => hl x (List.mem_cons_of_mem _ hx)
    have := h a b (hl a List.mem_cons_self) (hl b (List.mem_cons_of_mem _ List.mem_cons_self))
    show g a b + wsum g (b :: r) ≤ d a b + wsum d (b :: r)
    omega
theorem fw_le_wsum {n : Nat} {d : Nat → Nat → Int} (hd : Met n d) (a : Nat) (r : List Nat) (h : ∀ x ∈ a :: r, x < n) : fw d n a (lastN (a :: r)) ≤ wsum d (a :: r) :=
  Int.le_trans (wsum_tri (fw_tr hd) (hd.fw n (Nat.le_refl _)).dg a r h) (wsum_mono (fun a b _ _ => fw_le (n := n) n a b) _ h)
theorem wsum_app (w : Nat → Nat → Int) : ∀ (a : Nat) (r : List Nat) (s : List Nat), wsum w (a :: r ++ s) = wsum w (a :: r) + wsum w (lastN (a :: r) :: s)
  | a, [], s => by
    show wsum w (a :: s) = 0 + wsum w (a :: s)
    omega
  | a, b :: r, s => by
    have ih := wsum_app w b r s
    show w a b + wsum w (b :: r ++ s) = w a b + wsum w (b :: r) + wsum w (lastN (b :: r) :: s)
    rw [ih]
    omega
theorem fw_walk {n : Nat} {d : Nat → Nat → Int} : ∀ m, m ≤ n → ∀ a b, a < n → b < n → ∃ r, (∀ x ∈ a :: r, x < n) ∧ lastN (a :: r) = b ∧ wsum d (a :: r) = fw d m a b
  | 0, _, a, b, ha, hb => ⟨[b], fun x hx => by
      simp only [List.mem_cons, List.not_mem_nil, or_false] at hx
      rcases hx with rfl | rfl <;> assumption, rfl, by show d a b + 0 = d a b; omega⟩
  | m + 1, hm, a, b, ha, hb => by
    have ih := fw_walk (n := n) (d := d) m (by omega)
    obtain ⟨q1, q2, q3⟩ := thr_le (fw d m) m a b
    show ∃ r, _ ∧ _ ∧ _ = thr (fw d m) m a b
    rcases q3 with q | q
    · rw [q]; exact ih a b ha hb
    · rw [q]
      obtain ⟨r, r1, r2, r3⟩ := ih a m ha (by omega)
      obtain ⟨s, s1, s2, s3⟩ := ih m b (by omega) hb
      refine ⟨r ++ s, fun x hx => ?_, ?_, ?_⟩
      · rw [← List.cons_append] at hx
        rcases List.mem_append.mp hx with h | h
        · exact r1 x h
        · exact s1 x (List.mem_cons_of_mem _ h)
      · rw [← List.cons_append]
        cases s with
        | nil =>
          rw [List.append_nil, r2]
          exact s2
        | cons c s => rw [lastN_app]; exact s2
      · rw [← List.cons_append, wsum_app, r2, r3, s3]
/-- a way without a place twice that is no longer -/
theorem shorten {n : Nat} {w : Nat → Nat → Int} (hw : ∀ a b, a < n → b < n → 0 ≤ w a b) : ∀ (a : Nat) (r : List Nat), (∀ x ∈ a :: r, x < n) → ∃ s, (a :: s).Nodup ∧ (∀ x ∈ a :: s, x < n) ∧ lastN (a :: s) = lastN (a :: r) ∧ wsum w (a :: s) ≤ wsum w (a :: r)
  | a, [], h => ⟨[], by simp, h, rfl, Int.le_refl _⟩
  | a, b :: r, h => by
    obtain ⟨s, s1, s2, s3, s4⟩ := shorten hw b r fun x hx => h x (List.mem_cons_of_mem _ hx)
    have ha := h a List.mem_cons_self
    have hb := h b (List.mem_cons_of_mem _ List.mem_cons_self)
    by_cases m : a ∈ b :: s
    · obtain ⟨p, q, e⟩ := List.append_of_mem m
      refine ⟨q, ?_, fun x hx => s2 x (by rw [e]; exact List.mem_append_right _ hx), ?_, ?_⟩
      · rw [e] at s1
        exact (List.nodup_append.mp s1).2.1
      · rw [lastN_cons, ← s3, e]
        cases p with
        | nil => rfl
        | cons c p => rw [lastN_app]
      · have nn : 0 ≤ w a b := hw a b ha hb
        have : wsum w (a :: q) ≤ wsum w (b :: s) := by
          rw [e]
          cases p with
          | nil => exact Int.le_refl _
          | cons c p =>
            have hp : ∀ x ∈ c :: p ++ a :: q, x < n := fun x hx => s2 x (by rw [e]; exact hx)
            clear e m s1 s2 s3 s4
            induction p generalizing c with
            | nil =>
              have := hw c a (hp c (by simp)) ha
              show _ ≤ w c a + wsum w (a :: q)
              omega
            | cons e p ih =>
              have := hw c e (hp c (by simp)) (hp e (by simp))
              have ih := ih e fun x hx => hp x (List.mem_cons_of_mem _ hx)
              show _ ≤ w c e + wsum w (e :: p ++ a :: q)
              omega
        show _ ≤ w a b + wsum w (b :: r)
        omega
    · refine ⟨b :: s, List.nodup_cons.mpr ⟨m, s1⟩, fun x hx => ?_, ?_, ?_⟩
      · rcases List.mem_cons.mp hx with rfl | hx
        · exact ha
        · exact s2 x hx
      · rw [lastN_cons, lastN_cons, s3]
      · show w a b + wsum w (b :: s) ≤ w a b + wsum w (b :: r)
        omega
/-! all ways of so many steps -/
def nextW (n : Nat) (way : List Nat) : List (List Nat) := ((List.range n).filter fun x => !decide (x ∈ way)).map fun x => way ++ [x]
def waysN (n : Nat) : Nat → List (List Nat)
  | 0 => (List.range n).map fun x => [x]
  | k + 1 => (waysN n k).flatMap (nextW n)
theorem mem_waysN {n : Nat} : ∀ {k : Nat} {l : List Nat}, l ∈ waysN n k ↔ l.length = k + 1 ∧ l.Nodup ∧ ∀ x ∈ l, x < n
  | 0, l => by
    unfold waysN
    rw [List.mem_map]
    constructor
    · rintro ⟨x, hx, rfl⟩
      exact ⟨rfl, by simp, fun y hy => by rw [List.mem_singleton.mp hy]; exact List.mem_range.mp hx⟩
    · rintro ⟨h1, h2, h3⟩
      match l, h1 with
      | [x], _ => exact ⟨x, List.mem_range.mpr (h3 x List.mem_cons_self), rfl⟩
  | k + 1, l => by
    unfold waysN
    rw [List.mem_flatMap]
    constructor
    · rintro ⟨p, hp, hl⟩
      obtain ⟨h1, h2, h3⟩ := mem_waysN.mp hp
      obtain ⟨x, hx, rfl⟩ := List.mem_map.mp hl
      obtain ⟨hx1, hx2⟩ := List.mem_filter.mp hx
      have hx2 : ¬ x ∈ p := by simpa using hx2
      refine ⟨by simp [h1], ?_, fun y hy => ?_⟩
      · rw [List.nodup_append]
        exact ⟨h2, by simp, fun a ha b hb e => hx2 (by rw [List.mem_singleton.mp hb] at e; exact e ▸ ha)⟩
      · rcases List.mem_append.mp hy with hy | hy
        · exact h3 y hy
        · rw [List.mem_singleton.mp hy]; exact List.mem_range.mp hx1
    · rintro ⟨h1, h2, h3⟩
      have ne : l ≠ [] := fun e => by rw [e] at h1; cases h1
      obtain ⟨p, x, rfl⟩ : ∃ p x, l = p ++ [x] := ⟨l.dropLast, l.getLast ne, (List.dropLast_concat_getLast ne).symm⟩
      obtain ⟨d1, d2, d3⟩ := List.nodup_append.mp h2
      refine ⟨p, mem_waysN.mpr ⟨by simpa using h1, d1, fun y hy => h3 y (List.mem_append_left _ hy)⟩, List.mem_map.mpr ⟨x, List.mem_filter.mpr ⟨List.mem_range.mpr (h3 x (by simp)), ?_⟩, rfl⟩⟩
      simp only [Bool.not_eq_true', decide_eq_false_iff_not]
      exact fun hx => d3 x hx x List.mem_cons_self rfl
theorem nodup_len : ∀ {n : Nat} {l : List Nat}, l.Nodup → (∀ x ∈ l, x < n) → l.length ≤ n
  | 0, l, _, hl => by
    cases l with
    | nil => exact Nat.le_refl _
    | cons a r => exact absurd (hl a List.mem_cons_self) (by omega)
  | n + 1, l, h, hl => by
    by_cases m : n ∈ l
    · have ih := nodup_len (n := n) (h.erase n) fun x hx => by
        obtain ⟨h1, h2⟩ := h.mem_erase_iff.mp hx
        have := hl x h2
        omega
      rw [List.length_erase_of_mem m] at ih
      omega
    · have ih := nodup_len (n := n) h fun x hx => by
        have := hl x hx
        by_cases e : x = n
        · exact absurd (e ▸ hx) m
        · omega
      omega
/-- the least of the ways of the fewest places that are too short -/
def shortW (n : Nat) (lo hi : Nat → Nat → Int) : Option (List Nat) :=
  (List.range (n - 1)).findSome? fun t => (waysN n (t + 1)).find? fun w => decide (wsum hi w < lo (w.headD 0) (lastN w))
theorem shortW_some {n : Nat} {lo hi : Nat → Nat → Int} {w : List Nat} (h : shortW n lo hi = some w) : 2 ≤ w.length ∧ w.length ≤ n ∧ (∀ x ∈ w, x < n) ∧ wsum hi w < lo (w.headD 0) (lastN w) := by
  unfold shortW at h
  obtain ⟨t, ht, e⟩ := List.exists_of_findSome?_eq_some h
  have hm := List.mem_of_find?_eq_some e
  have hp := List.find?_some e
  obtain ⟨h1, h2, h3⟩ := mem_waysN.mp hm
  have := List.mem_range.mp ht
  exact ⟨by omega, by omega, h3, of_decide_eq_true hp⟩
theorem shortW_none {n : Nat} {lo hi : Nat → Nat → Int} (hh : Met n hi) (hl : ∀ a, a < n → lo a a ≤ 0) : shortW n lo hi = none ↔ ∀ i j, i < n → j < n → lo i j ≤ fw hi n i j := by
  constructor
  · intro h i j hi' hj
    refine Int.not_lt.mp fun lt => ?_
    obtain ⟨r, r1, r2, r3⟩ := fw_walk (n := n) (d := hi) n (Nat.le_refl _) i j hi' hj
    obtain ⟨s, s1, s2, s3, s4⟩ := shorten hh.nn i r r1
    have ne : s ≠ [] := fun e => by
      subst e
      rw [r2] at s3
      have : i = j := s3
      subst this
      have := hl i hi'
      have := (hh.fw n (Nat.le_refl _)).nn i i hi' hi'
      omega
    have len := nodup_len s1 s2
    have lp : 0 < s.length := List.length_pos_iff.mpr ne
    simp only [List.length_cons] at len
    unfold shortW at h
    rw [List.findSome?_eq_none_iff] at h
    have h1 := h (s.length - 1) (List.mem_range.mpr (by omega))
    rw [List.find?_eq_none] at h1
    have h2 := h1 (i :: s) (mem_waysN.mpr ⟨by simp; omega, s1, s2⟩)
    apply h2
    apply decide_eq_true
    rw [s3, r2]
    show _ < lo i j
    omega
  · intro h
    unfold shortW
    rw [List.findSome?_eq_none_iff]
    intro t ht
    rw [List.find?_eq_none]
    intro w hw
    obtain ⟨h1, h2, h3⟩ := mem_waysN.mp hw
    cases w with
    | nil => cases h1
    | cons a r =>
      have q := fw_le_wsum hh a r h3
      have q2 := h a (lastN (a :: r)) (h3 a List.mem_cons_self) (h3 _ (lastN_mem a r))
      intro hlt
      have := of_decide_eq_true hlt
      simp only [List.headD_cons] at this
      omega
end Lw87
namespace Lw87
open PySem PD
variable {st : Sto}
/-! ### doubts -/
abbrev pairI (a b : Int) : D := .tup [.int a, .int b]
abbrev pairG (lo hi : Nat → Nat → Int) : Nat → Nat → D := fun i j => pairI (lo i j) (hi i j)
abbrev drow (n : Nat) (lo hi : Nat → Nat → Int) (i : Nat) : D := .tup ((List.range n).map fun j : Nat => pairG lo hi i j)
abbrev dtb (n : Nat) (lo hi : Nat → Nat → Int) : D := .tup ((List.range n).map fun i : Nat => drow n lo hi i)
structure Dbt (n : Nat) (lo hi : Nat → Nat → Int) : Prop where
  n1 : 1 ≤ n
  n7 : n ≤ 7
  dg : ∀ i, i < n → lo i i = 0 ∧ hi i i = 0
  ps : ∀ i j, i < n → j < n → i ≠ j → 1 ≤ lo i j ∧ lo i j ≤ hi i j ∧ hi i j ≤ 1000
  sl : ∀ i j, i < n → j < n → lo i j = lo j i
  sh : ∀ i j, i < n → j < n → hi i j = hi j i
theorem Dbt.met {n : Nat} {lo hi : Nat → Nat → Int} (h : Dbt n lo hi) : Met n hi where
  dg := fun a ha => (h.dg a ha).2
  nn := fun a b ha hb => by
    by_cases e : a = b
    · subst e; rw [(h.dg a ha).2]; exact Int.le_refl _
    · have := h.ps a b ha hb e; omega
theorem fz_dtb (f n : Nat) (lo hi : Nat → Nat → Int) : Fz (f + 3) (dtb n lo hi) := fz_map _ _ _ fun _ _ => fz_map _ _ _ fun _ _ => fz_row _ [_, _]
theorem toPy_pairI (st : Sto) (n : Nat) (a b : Int) : toPy st (n + 1) (pairI a b) = some (.tuple [.int a, .int b]) := toPy_tupInts st n [a, b]
theorem fEq_pairI (st : Sto) (a b c d : Int) : fEq (pairI a b) (pairI c d) st = .ok (.bl (decide (a = c) && decide (b = d))) st := by
  unfold fEq
  rw [toPy_pairI st 59, toPy_pairI st 59]
  simp only [PyData.eqv, PyData.eqvAll, eqv_int, Bool.and_true]
  simp [PyData.eqv, PyData.eqvAll, Bool.beq_eq_decide_eq]
def boundB (a b : Int) (own : Bool) : Bool := (decide (0 ≤ a ∧ a ≤ 1000) && decide (0 ≤ b ∧ b ≤ 1000)) && (if own = true then decide (a = 0) && decide (b = 0) else decide (1 ≤ a) && decide (a ≤ b))
theorem fIx_p0 (st : Sto) (a b : D) : fIx (.tup [a, b]) (.int 0) st = .ok a st := fIx_tup (i := 0) rfl
theorem fIx_p1 (st : Sto) (a b : D) : fIx (.tup [a, b]) (.int 1) st = .ok b st := fIx_tup (i := 1) rfl
theorem bAll_two (a b : Bool) (st : Sto) : bAll [.lst [.bl a, .bl b]] st = .ok (.bl (a && b)) st := by simp [bAll, allBl]
def rowOkB (n : Nat) (lo hi : Nat → Nat → Int) (i : Nat) : Bool := (List.range n).all fun j => boundB (lo i j) (hi i j) (decide (i = j))
def symB (lo hi : Nat → Nat → Int) (i : Nat) : Bool := (List.range i).all fun j => decide (lo i j = lo j i) && decide (hi i j = hi j i)
def doubtB (n : Nat) (lo hi : Nat → Nat → Int) : Bool := ((List.range n).all fun i => rowOkB n lo hi i) && (List.range n).all fun i => symB lo hi i
theorem findSome_all {α : Type} (p : α → Bool) (d : D) : ∀ l : List α, (l.findSome? fun a => if p a = true then none else some d) = if l.all p = true then none else some d
  | [] => rfl
  | a :: l => by
    rw [List.findSome?_cons, List.all_cons]
    cases q : p a with
    | true => simpa [q] using findSome_all p d l
    | false => simp
theorem nat_dec (i j : Nat) : decide ((i : Int) = (j : Int)) = decide (i = j) := by
  apply Bool.eq_iff_iff.mpr
  rw [decide_eq_true_eq, decide_eq_true_eq]
  omega
theorem Dbt.ok {n : Nat} {lo hi : Nat → Nat → Int} (h : Dbt n lo hi) : doubtB n lo hi = true := by
  unfold doubtB
  rw [Bool.and_eq_true, List.all_eq_true, List.all_eq_true]
  refine ⟨fun i hi' => ?_, fun i hi' => ?_⟩
  · have hi' := List.mem_range.mp hi'
    unfold rowOkB
    rw [List.all_eq_true]
    intro j hj
    have hj := List.mem_range.mp hj
    unfold boundB
    by_cases e : i = j
    · subst e
      obtain ⟨a, b⟩ := h.dg i hi'
      rw [a, b]
      simp
    · obtain ⟨a, b, c⟩ := h.ps i j hi' hj e
      rw [decide_eq_true (show 0 ≤ lo i j ∧ lo i j ≤ 1000 by omega), decide_eq_true (show 0 ≤ hi i j ∧ hi i j ≤ 1000 by omega), decide_eq_false e, decide_eq_true a, decide_eq_true b]
      rfl
  · have hi' := List.mem_range.mp hi'
    unfold symB
    rw [List.all_eq_true]
    intro j hj
    have hj := List.mem_range.mp hj
    rw [h.sl i j hi' (by omega), h.sh i j hi' (by omega)]
    simp
/-! ### what fits -/
def fitB (n : Nat) (lo hi g : Nat → Nat → Int) : Bool := (List.range n).all fun i => (List.range n).all fun j => decide (lo i j ≤ g i j) && decide (g i j ≤ hi i j)
theorem fIsN2_tri (st : Sto) (o : Option (Nat × Nat × Nat)) : fIsN2 (triD o) .non st = .ok (.bl o.isNone) st := by
  cases o with
  | none => rfl
  | some p => obtain ⟨i, j, k⟩ := p; rfl
/-! ### the greatest, the ways -/
theorem highs_lc {ρ : Ev} {st : Sto} {n : Nat} (n7 : n ≤ 7) {lo hi : Nat → Nat → Int} (h0 : ρ[0]? = some (some (dtb n lo hi))) (hl : ρ.length = 4) :
    sLC false (iSeq (sVar 0)) (gN 1) tYesD (sLC false (iSeq (sVar 1)) (gT2 (gN 2) (gN 3)) tYesD (sVar 3) [2, 3]) [1] ρ st = .ok (tabL n hi) st := by
  have z2 := sizeLine_eq
  rw [sLC_map (dy := none) (List.range n) (fun i => drow n lo hi i) (fun i => D.lst (rowG n (intG hi i))) (by simp_arith! [iSeq_e, h0]) (still_none _ _) (by simp; omega) fun i hi' => ⟨_, rfl, by
    rw [sLC_map (dy := none) (List.range n) (fun j => pairG lo hi i j) (fun j => D.int (hi i j)) (by simp_arith! [iSeq_e, hl]) (still_none _ _) (by simp; omega) fun j hj => ⟨_, rfl, by simp_arith! [hl]⟩]
    rfl⟩]
  rfl
theorem fz_tabL (f n : Nat) (g : Nat → Nat → Int) : Fz (f + 2) (tabL n g) := fz_mapL _ _ _ fun _ _ => fz_mapL _ _ _ fun _ _ => fz_int _ _
theorem nats_snoc (way : List Nat) (x : Nat) : nats (way ++ [x]) = .tup (way.map (fun m : Nat => D.int (m : Int)) ++ [.int (x : Int)]) := by simp [nats]
theorem fAdd_nats {st : Sto} (way : List Nat) (x : Nat) (h : way.length ≤ 1000) : fAdd (nats way) (.tup [.int (x : Int)]) st = .ok (nats (way ++ [x])) st := by
  have := sizeLine_eq
  rw [nats_snoc]
  unfold fAdd
  dsimp only [nats]
  rw [if_pos (by simp; omega)]
theorem ways_small0 : (List.range 6).all (fun n => (List.range 6).all fun k => decide ((waysN n k).length ≤ 120)) = true := by decide +kernel
theorem ways_small {n k : Nat} (hn : n ≤ 5) (hk : k ≤ 5) : (waysN n k).length ≤ 120 := of_decide_eq_true (List.all_eq_true.mp (List.all_eq_true.mp ways_small0 n (List.mem_range.mpr (by omega))) k (List.mem_range.mpr (by omega)))
theorem fIx_head {st : Sto} {w : List Nat} (h : w ≠ []) : fIx (nats w) (.int 0) st = .ok (.int (w.headD 0 : Nat)) st := by
  cases w with
  | nil => exact absurd rfl h
  | cons a r => exact fIx_tup (i := 0) rfl
theorem fIx_lastN {st : Sto} {w : List Nat} (h : w ≠ []) : fIx (nats w) (.int (-1)) st = .ok (.int (lastN w : Nat)) st := by
  obtain ⟨p, x, rfl⟩ : ∃ p x, w = p ++ [x] := ⟨w.dropLast, w.getLast h, (List.dropLast_concat_getLast h).symm⟩
  rw [lastN_snoc]
  exact fIx_last (xs := p.map fun m : Nat => D.int (m : Int)) (by rw [nats_snoc]; rfl)
theorem wsum_zip (w : Nat → Nat → Int) : ∀ l : List Nat, ((l.zip l.tail).map fun p => w p.1 p.2).sum = wsum w l
  | [] => rfl
  | [_] => rfl
  | a :: b :: r => by
    have ih := wsum_zip w (b :: r)
    simp only [List.tail_cons, List.zip_cons_cons, List.map_cons, List.sum_cons] at ih ⊢
    rw [ih]
    rfl
theorem allInt_map {α : Type} (f : α → Int) (l : List α) : allInt (l.map fun a => D.int (f a)) = some (l.map f) := by
  induction l with
  | nil => rfl
  | cons a l ih => rw [List.map_cons, List.map_cons, allInt, ih]; rfl
theorem bSum_map {α : Type} (f : α → Int) (l : List α) (st : Sto) : bSum [.lst (l.map fun a => D.int (f a))] st = .ok (.int (l.map f).sum) st := by
  unfold bSum
  simp only [litems_lst, Option.bind_some, allInt_map]
theorem find_findSome {α β : Type} (p : α → Bool) (g : α → β) : ∀ l : List α, (l.findSome? fun a => if p a = true then some (g a) else none) = (l.find? p).map g
  | [] => rfl
  | a :: l => by
    rw [List.findSome?_cons, List.find?_cons]
    cases p a with
    | true => rfl
    | false => exact find_findSome p g l
def wayO : Option (List Nat) → D
  | none => .non
  | some w => nats w
theorem fz_wayO (o : Option (List Nat)) : Fz 60 (wayO o) := by
  cases o with
  | none => exact fz_non _
  | some w => exact fz_nats 59 w
def fitD (n : Nat) (lo hi : Nat → Nat → Int) : D := match shortW n lo hi with
  | some w => .tup [.str "short", nats w]
  | none => .tup [.str "table", tabT n (fw hi n)]
theorem fz_fitD (n : Nat) (lo hi : Nat → Nat → Int) : Fz 60 (fitD n lo hi) := by
  unfold fitD
  split
  · exact fz_tup fun d hd => by
      simp only [List.mem_cons, List.not_mem_nil, or_false] at hd
      rcases hd with rfl | rfl
      · exact fz_str _ _
      · exact fz_nats _ _
  · exact fz_tup fun d hd => by
      simp only [List.mem_cons, List.not_mem_nil, or_false] at hd
      rcases hd with rfl | rfl
      · exact fz_str _ _
      · exact fz_tabT _ _ _
end Lw87
namespace Lw87
open PySem PD
variable {st : Sto}
/-! ### fractions: x of 60, in lowest terms -/
abbrev gI (a b : Int) : Int := ((Int.gcd a b : Nat) : Int)
theorem gI_pos (a : Int) {b : Int} (h : 0 < b) : 0 < gI a b := by
  have := Int.gcd_pos_of_ne_zero_right a (b := b) (by omega)
  unfold gI; omega
theorem low_eq {t b x s : Int} (hb : 0 < b) (hs : 0 < s) (h : t * s = x * b) : t / gI t b = x / gI x s ∧ b / gI t b = s / gI x s := by
  obtain ⟨t', ht⟩ := Int.gcd_dvd_left t b
  obtain ⟨b', hb'⟩ := Int.gcd_dvd_right t b
  obtain ⟨x', hx⟩ := Int.gcd_dvd_left x s
  obtain ⟨s', hs'⟩ := Int.gcd_dvd_right x s
  have p1 := gI_pos t hb
  have p2 := gI_pos x hs
  have key : gI t b * s = gI x s * b := by
    have e1 := Int.gcd_mul_right t s b
    have e2 := Int.gcd_mul_right x b s
    rw [h, Int.mul_comm b s, e2] at e1
    have a1 : (b.natAbs : Int) = b := by omega
    have a2 : (s.natAbs : Int) = s := by omega
    have : ((Int.gcd t b * s.natAbs : Nat) : Int) = ((Int.gcd x s * b.natAbs : Nat) : Int) := by rw [e1]
    rw [Int.natCast_mul, Int.natCast_mul, a1, a2] at this
    exact this
  unfold gI at *
  generalize ((Int.gcd t b : Nat) : Int) = G at *
  generalize ((Int.gcd x s : Nat) : Int) = g at *
  subst ht hb' hx hs'
  have es : s' = b' := by
    have : G * g * s' = G * g * b' := by rw [Int.mul_assoc, key]; rw [Int.mul_left_comm, Int.mul_assoc]
    exact Int.eq_of_mul_eq_mul_left (by have := Int.mul_pos p1 p2; omega) this
  subst es
  have hs0 : 0 < s' := by
    rcases Int.lt_trichotomy s' 0 with h | h | h
    · have := Int.mul_neg_of_pos_of_neg p2 h; omega
    · subst h; simp at hs
    · exact h
  have et : t' = x' := by
    have e : (G * g * s') * t' = (G * g * s') * x' := by
      rw [show (G * g * s') * t' = G * t' * (g * s') by simp only [Int.mul_assoc, Int.mul_left_comm, Int.mul_comm], h]
      simp only [Int.mul_assoc, Int.mul_left_comm, Int.mul_comm]
    exact Int.eq_of_mul_eq_mul_left (by have := Int.mul_pos (Int.mul_pos p1 p2) hs0; omega) e
  subst et
  rw [Int.mul_ediv_cancel_left _ (by omega), Int.mul_ediv_cancel_left _ (by omega), Int.mul_ediv_cancel_left _ (by omega), Int.mul_ediv_cancel_left _ (by omega)]
  exact ⟨rfl, rfl⟩
def tpI (x : Int) : Int := x / gI x 60
def btI (x : Int) : Int := 60 / gI x 60
/-- x of 60 -/
def fr (x : Int) : D := .tup [.int (tpI x), .int (btI x)]
theorem fr_ex (x : Int) : ∃ g, 0 < g ∧ x = g * tpI x ∧ 60 = g * btI x ∧ 0 < btI x ∧ btI x ≤ 60 ∧ gI (tpI x) (btI x) = 1 := by
  have p := gI_pos x (b := 60) (by decide)
  obtain ⟨a, ha⟩ := Int.gcd_dvd_left x 60
  obtain ⟨b, hb⟩ := Int.gcd_dvd_right x 60
  have e1 : tpI x = a := by
    unfold tpI gI at *
    generalize ((Int.gcd x 60 : Nat) : Int) = g at *
    subst ha
    exact Int.mul_ediv_cancel_left _ (by omega)
  have e2 : btI x = b := by
    unfold btI gI at *
    generalize ((Int.gcd x 60 : Nat) : Int) = g at *
    rw [hb]
    exact Int.mul_ediv_cancel_left _ (by omega)
  rw [e1, e2]
  have q : gI a b = 1 := by
    have e3 := Int.gcd_mul_left (gI x 60) a b
    unfold gI at e3 p
    rw [← ha, ← hb] at e3
    have : (Int.gcd x 60) * 1 = (Int.gcd x 60) * Int.gcd a b := by rw [Int.natAbs_natCast] at e3; omega
    have := Nat.eq_of_mul_eq_mul_left (by omega) this
    unfold gI; omega
  have hb0 : 0 < b := by
    rcases Int.lt_trichotomy b 0 with h | h | h
    · have := Int.mul_neg_of_pos_of_neg p h
      unfold gI at this; omega
    · subst h; simp at hb
    · exact h
  have hb1 : b ≤ 60 := by
    have : 1 * b ≤ gI x 60 * b := Int.mul_le_mul_of_nonneg_right (by omega) (by omega)
    unfold gI at this; omega
  exact ⟨gI x 60, p, ha, hb, hb0, hb1, q⟩
theorem fr_of {t b x : Int} (hb : 0 < b) (h : t * 60 = x * b) : t / gI t b = tpI x ∧ b / gI t b = btI x := low_eq hb (by decide) h
theorem fr_int (d : Int) : fr (60 * d) = .tup [.int d, .int 1] := by
  obtain ⟨e1, e2⟩ := fr_of (t := d) (b := 1) (x := 60 * d) (by decide) (by omega)
  unfold fr
  rw [← e1, ← e2]
  have : gI d 1 = 1 := by simp [gI]
  rw [this, Int.ediv_one, Int.ediv_one]
theorem fr_zero : fr 0 = .tup ([0, 1].map D.int) := fr_int 0
theorem fr_zero' : fr 0 = .tup [.int 0, .int 1] := fr_int 0
theorem tp_lt (x y : Int) : tpI x * btI y < tpI y * btI x ↔ x < y := by
  obtain ⟨g, g0, e1, e2, b0, b1, _⟩ := fr_ex x
  obtain ⟨h, h0, f1, f2, c0, c1, _⟩ := fr_ex y
  have p := Int.mul_pos g0 h0
  have q1 : (g * h) * (tpI x * btI y) = x * 60 := by
    rw [show (g * h) * (tpI x * btI y) = (g * tpI x) * (h * btI y) by simp only [Int.mul_assoc, Int.mul_left_comm], ← e1, ← f2]
  have q2 : (g * h) * (tpI y * btI x) = y * 60 := by
    rw [show (g * h) * (tpI y * btI x) = (h * tpI y) * (g * btI x) by simp only [Int.mul_assoc, Int.mul_left_comm, Int.mul_comm], ← f1, ← e2]
  constructor
  · intro l
    have := Int.mul_lt_mul_of_pos_left l p
    omega
  · intro l
    exact Int.lt_of_mul_lt_mul_left (a := g * h) (by omega) (by omega)
theorem tp_sg (x : Int) : (tpI x < 0 ↔ x < 0) ∧ (0 < tpI x ↔ 0 < x) ∧ (tpI x = 0 ↔ x = 0) := by
  obtain ⟨g, g0, e1, _⟩ := fr_ex x
  rcases Int.lt_trichotomy (tpI x) 0 with h | h | h
  · have := Int.mul_neg_of_pos_of_neg g0 h
    omega
  · rw [h] at e1 ⊢; simp at e1; omega
  · have := Int.mul_pos g0 h
    omega
theorem fr_inj {x y : Int} : (tpI x = tpI y ∧ btI x = btI y) ↔ x = y := by
  constructor
  · rintro ⟨h1, h2⟩
    have a := tp_lt x y
    have b := tp_lt y x
    rw [h1, h2] at a b
    omega
  · rintro rfl; exact ⟨rfl, rfl⟩
theorem tp60 (x : Int) : tpI x * 60 = x * btI x := by
  obtain ⟨g, g0, e1, e2, _⟩ := fr_ex x
  generalize tpI x = a at *
  generalize btI x = b at *
  subst e1
  rw [e2]
  simp only [Int.mul_assoc, Int.mul_left_comm, Int.mul_comm]
theorem add_60 (x y : Int) : (tpI x * btI y + tpI y * btI x) * 60 = (x + y) * (btI x * btI y) := by
  have q1 := tp60 x
  have q2 := tp60 y
  rw [Int.add_mul, Int.add_mul, Int.mul_right_comm, q1, Int.mul_right_comm (tpI y), q2]
  simp only [Int.mul_assoc, Int.mul_left_comm, Int.mul_comm]
theorem neg_fr (x : Int) : 0 - tpI x = tpI (-x) ∧ btI x = btI (-x) := by
  unfold tpI btI gI
  rw [Int.neg_gcd]
  obtain ⟨a, ha⟩ := Int.gcd_dvd_left x 60
  have p := gI_pos x (b := 60) (by decide)
  unfold gI at p
  refine ⟨?_, rfl⟩
  generalize ((Int.gcd x 60 : Nat) : Int) = g at *
  subst ha
  rw [← Int.mul_neg, Int.mul_ediv_cancel_left _ (by omega), Int.mul_ediv_cancel_left _ (by omega)]
  omega
theorem abs_fr (x : Int) : (if tpI x < 0 then -tpI x else tpI x) = tpI (if x < 0 then -x else x) ∧ btI x = btI (if x < 0 then -x else x) := by
  have s := (tp_sg x).1
  have n := neg_fr x
  by_cases h : x < 0
  · rw [if_pos h, if_pos (s.mpr h)]
    exact ⟨by omega, n.2⟩
  · rw [if_neg h, if_neg fun q => h (s.mp q)]
    exact ⟨rfl, rfl⟩
theorem fEq_fr (x y : Int) (st : Sto) : fEq (fr x) (fr y) st = .ok (.bl (decide (x = y))) st := by
  have e : decide (x = y) = (decide (tpI x = tpI y) && decide (btI x = btI y)) := by
    rw [← Bool.decide_and]
    exact decide_eq_decide.mpr fr_inj.symm
  rw [e]
  have q : ∀ a b : Int, toPy st 60 (.tup [.int a, .int b]) = some (.tuple [.int a, .int b]) := fun _ _ => rfl
  unfold fEq fr
  rw [q, q]
  simp [PyData.eqv, PyData.eqvAll, eqv_int] <;> rfl
theorem fNe_fr (x y : Int) (st : Sto) : fNe (fr x) (fr y) st = .ok (.bl (!decide (x = y))) st := by
  have e : decide (x = y) = (decide (tpI x = tpI y) && decide (btI x = btI y)) := by
    rw [← Bool.decide_and]
    exact decide_eq_decide.mpr fr_inj.symm
  rw [e]
  have q : ∀ a b : Int, toPy st 60 (.tup [.int a, .int b]) = some (.tuple [.int a, .int b]) := fun _ _ => rfl
  unfold fNe fr
  rw [q, q]
  simp [PyData.eqv, PyData.eqvAll, eqv_int] <;> rfl
theorem fz_fr (f : Nat) (x : Int) : Fz (f + 1) (fr x) := fz_tup fun d hd => by
  simp only [List.mem_cons, List.not_mem_nil, or_false] at hd
  rcases hd with rfl | rfl
  · exact fz_int _ _
  · exact fz_int _ _
theorem fIx_fr0 (x : Int) (st : Sto) : fIx (fr x) (.int 0) st = .ok (.int (tpI x)) st := rfl
theorem fIx_fr1 (x : Int) (st : Sto) : fIx (fr x) (.int 1) st = .ok (.int (btI x)) st := rfl
theorem small_bt (x : Int) : small (btI x) = true := by
  obtain ⟨g, _, _, _, b0, b1, _⟩ := fr_ex x
  exact small_c (by omega) (by omega)
theorem fMul_bt (a x : Int) (st : Sto) : fMul (.int a) (.int (btI x)) st = .ok (.int (a * btI x)) st := fMul_i (.inr (small_bt x))
/-! ### the greatest common divisor -/
theorem gcd_step (a b : Int) : Int.gcd b (a % b) = Int.gcd a b := by
  rw [Int.emod_def, Int.gcd_sub_mul_left_right, Int.gcd_comm]
theorem common_loop : ∀ (f : Nat) (a b : Int) (ρ : Ev), ρ.length = 2 → ρ[0]? = some (some (.int a)) → ρ[1]? = some (some (.int b)) → 0 ≤ b → b.natAbs < f →
    ∃ ρ' v, loopWhile (tBl (s2 fNe (sVar 1) (sC (.int 0)))) (qPar 0 1 (aCons (sVar 1) (aCons (s2 fMod (sVar 0) (sVar 1)) aNil))) f ρ st = some (.nx ρ', st) ∧ ρ'[0]? = some (some (.int v)) ∧ v.natAbs = Int.gcd a b
  | 0, a, b, ρ, _, _, _, _, h => absurd h (by omega)
  | f + 1, a, b, ρ, hl, h0, h1, hb, hf => by
    rw [loopWhile]
    by_cases e : b = 0
    · subst e
      refine ⟨ρ, a, ?_, h0, by simp⟩
      simp_arith! [h1]
    · have hb0 : 0 < b := by omega
      have m0 := Int.emod_nonneg a e
      have m1 := Int.emod_lt_of_pos a hb0
      obtain ⟨ρ', v, q1, q2, q3⟩ := common_loop f b (a % b) ((ρ.set 0 (some (.int b))).set 1 (some (.int (a % b)))) (by simp_arith! [hl]) (by simp_arith! [hl]) (by simp_arith! [hl]) m0 (by omega)
      refine ⟨ρ', v, ?_, q2, by rw [q3, gcd_step]⟩
      rw [← q1]
      simp_arith! [h0, h1, hl, e, fMod_i hb0]
theorem common_t (hw : WF st) (a : Int) {b : Int} (hb : 0 ≤ b) : F_common [.int a, .int b] st = .ok (.int (gI a b)) st := defFin_v hw (fz_int _ _) (by
  obtain ⟨ρ', v, h1, h2, h3⟩ := common_loop (st := st) (b.natAbs + 1) a b (startD 2 [.int a, .int b]) rfl rfl rfl hb (by omega)
  unfold b_common
  rw [qSeq_e]
  have hf : fuelI 1 (startD 2 [.int a, .int b]) st = b.natAbs + 1 := rfl
  rw [qWhile, hf, h1]
  have e : (if v < 0 then -v else v) = gI a b := by unfold gI; rw [← h3]; split <;> omega
  simp_arith! [h2, e])
theorem share_t (hw : WF st) {t b x : Int} (hb : 0 < b) (hb2 : b < 1073741824) (h : t * 60 = x * b) : F_share [.int t, .int b] st = .ok (fr x) st := defFin_v hw (fz_fr _ _) (by
  obtain ⟨e1, e2⟩ := fr_of hb h
  have p := gI_pos t hb
  have q : gI t b < 1073741824 := by
    have := Int.gcd_dvd_right t b
    have := Int.le_of_dvd hb this
    unfold gI; omega
  have h0 : (startD 3 [.int t, .int b])[0]? = some (some (.int t)) := rfl
  have h1 : (startD 3 [.int t, .int b])[1]? = some (some (.int b)) := rfl
  have hl : (startD 3 [.int t, .int b]).length = 3 := rfl
  generalize startD 3 [.int t, .int b] = ρ at h0 h1 hl
  unfold b_share fr
  rw [← e1, ← e2]
  simp_arith! [h0, h1, hl, common_t hw t (Int.le_of_lt hb), hb, fDiv_i ⟨p, q⟩])
theorem plus_t (hw : WF st) (x y : Int) : F_plus [fr x, fr y] st = .ok (fr (x + y)) st := defFin_v hw (fz_fr _ _) (by
  obtain ⟨g, _, _, _, b0, b1, _⟩ := fr_ex x
  obtain ⟨h, _, _, _, c0, c1, _⟩ := fr_ex y
  have p := Int.mul_pos b0 c0
  have q : btI x * btI y ≤ 60 * 60 := Int.mul_le_mul b1 c1 (by omega) (by omega)
  have h0 : (startD 2 [fr x, fr y])[0]? = some (some (fr x)) := rfl
  have h1 : (startD 2 [fr x, fr y])[1]? = some (some (fr y)) := rfl
  generalize startD 2 [fr x, fr y] = ρ at h0 h1
  unfold b_plus
  simp_arith! [h0, h1, fIx_fr0, fIx_fr1, fMul_bt, share_t hw p (by omega) (add_60 x y)])
theorem sub_60 (x y : Int) : (tpI x * btI y - tpI y * btI x) * 60 = (x - y) * (btI x * btI y) := by
  have a := add_60 x (-y)
  have n := neg_fr y
  rw [← n.1, ← n.2, Int.sub_mul, Int.zero_mul] at a
  rw [Int.sub_eq_add_neg, Int.sub_eq_add_neg, ← a]
  congr 1
  omega
theorem minus_t (hw : WF st) (x y : Int) : F_minus [fr x, fr y] st = .ok (fr (x - y)) st := defFin_v hw (fz_fr _ _) (by
  obtain ⟨g, _, _, _, b0, b1, _⟩ := fr_ex x
  obtain ⟨h, _, _, _, c0, c1, _⟩ := fr_ex y
  have p := Int.mul_pos b0 c0
  have q : btI x * btI y ≤ 60 * 60 := Int.mul_le_mul b1 c1 (by omega) (by omega)
  have h0 : (startD 2 [fr x, fr y])[0]? = some (some (fr x)) := rfl
  have h1 : (startD 2 [fr x, fr y])[1]? = some (some (fr y)) := rfl
  generalize startD 2 [fr x, fr y] = ρ at h0 h1
  unfold b_minus
  simp_arith! [h0, h1, fIx_fr0, fIx_fr1, fMul_bt, share_t hw p (by omega) (sub_60 x y)])
theorem is_less_t (hw : WF st) (x y : Int) : F_is_less [fr x, fr y] st = .ok (.bl (decide (x < y))) st := defFin_v hw (fz_bl _ _) (by
  have h0 : (startD 2 [fr x, fr y])[0]? = some (some (fr x)) := rfl
  have h1 : (startD 2 [fr x, fr y])[1]? = some (some (fr y)) := rfl
  generalize startD 2 [fr x, fr y] = ρ at h0 h1
  unfold b_is_less
  simp_arith! [h0, h1, fIx_fr0, fIx_fr1, fMul_bt, decide_eq_decide.mpr (tp_lt x y)])
theorem law_less_t (hw : WF st) (x y : Int) : F_law_less [fr x, fr y] st = .ok (.bl (decide (x < y))) st := defFin_v hw (fz_bl _ _) (by
  have h0 : (startD 2 [fr x, fr y])[0]? = some (some (fr x)) := rfl
  have h1 : (startD 2 [fr x, fr y])[1]? = some (some (fr y)) := rfl
  generalize startD 2 [fr x, fr y] = ρ at h0 h1
  unfold b_law_less
  simp_arith! [h0, h1, fIx_fr0, fIx_fr1, fMul_bt, decide_eq_decide.mpr (tp_lt x y)])
theorem is_share_t (hw : WF st) (x : Int) : F_is_share [fr x] st = .ok (.bl true) st := defFin_v hw (fz_bl _ _) (by
  obtain ⟨g, _, _, _, b0, b1, e⟩ := fr_ex x
  have h0 : (startD 2 [fr x])[0]? = some (some (fr x)) := rfl
  have hl : (startD 2 [fr x]).length = 2 := rfl
  generalize startD 2 [fr x] = ρ at h0 hl
  have z2 := sizeLine_eq
  unfold b_is_share
  have sz := is_sized_t hw [.int (tpI x), .int (btI x)] 2 2
  change F_is_sized [fr x, .int 2, .int 2] st = _ at sz
  have e2 : (decide ((2 : Int) ≤ (([D.int (tpI x), D.int (btI x)].length : Nat) : Int) ∧ (([D.int (tpI x), D.int (btI x)].length : Nat) : Int) ≤ 2)) = true := by simp
  rw [e2] at sz
  simp_arith! [h0, sz]
  rw [sLC_map (dy := none) [tpI x, btI x] D.int (fun _ => D.bl true) (by simp_arith! [iSeq_e, h0]; rfl) (still_none _ _) (by simp; omega) fun i hi => ⟨_, rfl, by
    simp_arith! [h0, hl, is_integer_i hw]⟩]
  have ba := fun s => bAll_map (fun _ : Int => true) [tpI x, btI x] s
  simp only [all_true] at ba
  simp_arith! [h0, fIx_fr0, fIx_fr1, ba, b0, common_t hw _ (Int.le_of_lt b0), e])
/-! ### the law's own -/
theorem low_loop : ∀ (f : Nat) (a b : Int) (ρ : Ev), ρ.length = 4 → ρ[2]? = some (some (.int b)) → ρ[3]? = some (some (.int a)) → 0 ≤ b → 0 ≤ a → b.natAbs < f →
    ∃ ρ', loopWhile (tBl (s2 fGt (sVar 2) (sC (.int 0)))) (qPar 2 3 (aCons (s2 fMod (sB bInt (aCons (sVar 3) aNil)) (sVar 2)) (aCons (sVar 2) aNil))) f ρ st = some (.nx ρ', st) ∧ ρ'.length = 4 ∧ ρ'[3]? = some (some (.int (gI a b))) ∧ ρ'[0]? = ρ[0]? ∧ ρ'[1]? = ρ[1]?
  | 0, a, b, ρ, _, _, _, _, _, h => absurd h (by omega)
  | f + 1, a, b, ρ, hl, h2, h3, hb, ha, hf => by
    rw [loopWhile]
    by_cases e : b = 0
    · subst e
      refine ⟨ρ, ?_, hl, ?_, rfl, rfl⟩
      · simp_arith! [h2, Int.lt_irrefl]
      · rw [h3]
        have : gI a 0 = a := by simp [gI]; omega
        rw [this]
    · have hb0 : 0 < b := by omega
      have m0 := Int.emod_nonneg a e
      have m1 := Int.emod_lt_of_pos a hb0
      obtain ⟨ρ', q1, q2, q3, q4, q5⟩ := low_loop f b (a % b) ((ρ.set 2 (some (.int (a % b)))).set 3 (some (.int b))) (by simp_arith! [hl]) (by simp_arith! [hl]) (by simp_arith! [hl]) m0 hb (by omega)
      refine ⟨ρ', ?_, q2, ?_, by rw [q4]; simp_arith! [hl], by rw [q5]; simp_arith! [hl]⟩
      · rw [← q1]
        simp_arith! [h2, h3, hl, hb0, fMod_i hb0]
      · rw [q3]
        unfold gI
        rw [gcd_step]
theorem law_low_t (hw : WF st) {t b x : Int} (hb : 0 < b) (hb2 : b < 1073741824) (h : t * 60 = x * b) : F_law_low [.int t, .int b] st = .ok (fr x) st := defFin_v hw (fz_fr _ _) (by
  obtain ⟨e1, e2⟩ := fr_of hb h
  have p := gI_pos t hb
  have q : gI t b < 1073741824 := by
    have := Int.gcd_dvd_right t b
    have := Int.le_of_dvd hb this
    unfold gI; omega
  have h0 : (startD 4 [.int t, .int b])[0]? = some (some (.int t)) := rfl
  have h1 : (startD 4 [.int t, .int b])[1]? = some (some (.int b)) := rfl
  have hl : (startD 4 [.int t, .int b]).length = 4 := rfl
  generalize startD 4 [.int t, .int b] = ρ at h0 h1 hl
  unfold b_law_low
  rw [qSeq_e]
  have ab : (if b < 0 then -b else b) = b := if_neg (by omega)
  simp_arith! [h0, h1, hl, ab]
  generalize hT : (if t < 0 then -t else t) = t'
  have et : 0 ≤ t' ∧ gI b t' = gI t b := by
    subst hT
    split
    · refine ⟨by omega, ?_⟩
      unfold gI
      rw [Int.gcd_neg, Int.gcd_comm]
    · refine ⟨by omega, ?_⟩
      unfold gI
      rw [Int.gcd_comm]
  obtain ⟨ρ', q1, q2, q3, q4, q5⟩ := low_loop (st := st) (t'.natAbs + 1) b t' ((ρ.set 2 (some (.int t'))).set 3 (some (.int b))) (by simp_arith! [hl]) (by simp_arith! [hl]) (by simp_arith! [hl]) et.1 (Int.le_of_lt hb) (by omega)
  have hf : fuelI 2 ((ρ.set 2 (some (.int t'))).set 3 (some (.int b))) st = t'.natAbs + 1 := by unfold fuelI; simp_arith! [hl]
  rw [qWhile, hf, q1]
  rw [show ((ρ.set 2 (some (D.int t'))).set 3 (some (.int b)))[0]? = some (some (.int t)) by simp_arith! [hl, h0]] at q4
  rw [show ((ρ.set 2 (some (D.int t'))).set 3 (some (.int b)))[1]? = some (some (.int b)) by simp_arith! [hl, h1]] at q5
  rw [et.2] at q3
  unfold fr
  rw [← e1, ← e2]
  simp_arith! [q2, q3, q4, q5, hb, fDiv_i ⟨p, q⟩])
theorem law_plus_t (hw : WF st) (x y : Int) : F_law_plus [fr x, fr y] st = .ok (fr (x + y)) st := defFin_v hw (fz_fr _ _) (by
  obtain ⟨g, _, _, _, b0, b1, _⟩ := fr_ex x
  obtain ⟨h, _, _, _, c0, c1, _⟩ := fr_ex y
  have p := Int.mul_pos b0 c0
  have q : btI x * btI y ≤ 60 * 60 := Int.mul_le_mul b1 c1 (by omega) (by omega)
  have h0 : (startD 2 [fr x, fr y])[0]? = some (some (fr x)) := rfl
  have h1 : (startD 2 [fr x, fr y])[1]? = some (some (fr y)) := rfl
  generalize startD 2 [fr x, fr y] = ρ at h0 h1
  unfold b_law_plus
  simp_arith! [h0, h1, fIx_fr0, fIx_fr1, fMul_bt, law_low_t hw p (by omega) (add_60 x y)])
theorem law_minus_t (hw : WF st) (x y : Int) : F_law_minus [fr x, fr y] st = .ok (fr (x - y)) st := defFin_v hw (fz_fr _ _) (by
  have h0 : (startD 2 [fr x, fr y])[0]? = some (some (fr x)) := rfl
  have h1 : (startD 2 [fr x, fr y])[1]? = some (some (fr y)) := rfl
  generalize startD 2 [fr x, fr y] = ρ at h0 h1
  have n := neg_fr y
  have e : (D.tup [.int (0 - tpI y), .int (btI y)]) = fr (-y) := by unfold fr; rw [n.1, n.2]
  have pl := law_plus_t hw x (-y)
  unfold b_law_minus
  rw [← Int.sub_eq_add_neg] at pl
  simp_arith! [h0, h1, fIx_fr0, fIx_fr1]
  rw [e]
  simp_arith! [pl])
theorem law_is_number_i (hw : WF st) (i : Int) : F_law_is_number [.int i] st = .ok (.bl true) st := defFin_v hw (fz_bl _ _) (by simp [b_law_is_number, startD])
theorem law_is_part_t (hw : WF st) (x : Int) : F_law_is_part [fr x] st = .ok (.bl true) st := defFin_v hw (fz_bl _ _) (by
  obtain ⟨g, _, _, e60, b0, b1, e⟩ := fr_ex x
  have h0 : (startD 2 [fr x])[0]? = some (some (fr x)) := rfl
  have hl : (startD 2 [fr x]).length = 2 := rfl
  generalize startD 2 [fr x] = ρ at h0 hl
  have z2 := sizeLine_eq
  unfold b_law_is_part
  have ty : isTy .tuple (fr x) = some true := rfl
  have ln : bLen [fr x] st = .ok (.int 2) st := rfl
  simp_arith! [h0, ty, ln]
  rw [sLC_map (dy := none) [tpI x, btI x] D.int (fun _ => D.bl true) (by simp_arith! [iSeq_e, h0]; rfl) (still_none _ _) (by simp; omega) fun i hi => ⟨_, rfl, by
    simp_arith! [h0, hl, law_is_number_i hw]⟩]
  have ba := fun s => bAll_map (fun _ : Int => true) [tpI x, btI x] s
  simp only [all_true] at ba
  have lw : F_law_low [.int (tpI x), .int (btI x)] st = .ok (fr x) st := law_low_t hw b0 (by omega) (tp60 x)
  simp_arith! [h0, fIx_fr0, fIx_fr1, ba, b0, lw, fEq_fr])
end Lw87
namespace Lw87
open PySem PD
variable {st : Sto}
/-! ### tables of fractions -/
abbrev rowF (n : Nat) (F : Nat → Nat → Int) (i : Nat) : D := .tup ((List.range n).map fun j : Nat => fr (F i j))
abbrev tabF (n : Nat) (F : Nat → Nat → Int) : D := .tup ((List.range n).map fun i : Nat => rowF n F i)
theorem fz_tabF (f n : Nat) (F : Nat → Nat → Int) : Fz (f + 3) (tabF n F) := fz_map _ _ _ fun _ _ => fz_map _ _ _ fun _ _ => fz_fr _ _
theorem tabF_congr {n : Nat} {f g : Nat → Nat → Int} (h : ∀ i j, i < n → j < n → f i j = g i j) : tabF n f = tabF n g := by
  unfold tabF rowF
  congr 1
  refine List.map_congr_left fun i hi => ?_
  congr 1
  refine List.map_congr_left fun j hj => ?_
  rw [h i j (List.mem_range.mp hi) (List.mem_range.mp hj)]
structure Mend (n : Nat) (F : Nat → Nat → Int) : Prop where
  ok : ∀ i j, i < n → j < n → F i j = F j i ∧ 0 ≤ F i j ∧ (i = j → F i j = 0)
  tr : Tri n F
def okP (F : Nat → Nat → Int) (i j : Nat) : Bool := decide (F i j = F j i) && (!decide (F i j < 0) && (!decide ((i : Int) = (j : Int)) || decide (F i j = 0)))
theorem okP_iff (F : Nat → Nat → Int) (i j : Nat) : okP F i j = true ↔ F i j = F j i ∧ 0 ≤ F i j ∧ (i = j → F i j = 0) := by
  unfold okP
  simp only [Bool.and_eq_true, Bool.or_eq_true, Bool.not_eq_true', decide_eq_true_eq, decide_eq_false_iff_not]
  constructor
  · rintro ⟨h1, h2, h3⟩
    exact ⟨h1, by omega, fun e => by rcases h3 with h3 | h3; · exact absurd (by omega) h3
                                     · exact h3⟩
  · rintro ⟨h1, h2, h3⟩
    exact ⟨h1, by omega, by by_cases e : i = j; · exact .inr (h3 e)
                            · exact .inl (by omega)⟩
theorem nz_fr (x : Int) (st : Sto) : fNe (fr x) (.tup ([0, 1].map D.int)) st = .ok (.bl (!decide (x = 0))) st := by
  rw [← fr_zero]; exact fNe_fr x 0 st
theorem nz_fr' (x : Int) (st : Sto) : fNe (fr x) (.tup [.int 0, .int 1]) st = .ok (.bl (!decide (x = 0))) st := by
  rw [← fr_zero']; exact fNe_fr x 0 st
theorem ez_fr (x : Int) (st : Sto) : fEq (fr x) (.tup ([0, 1].map D.int)) st = .ok (.bl (decide (x = 0))) st := by
  rw [← fr_zero]; exact fEq_fr x 0 st
theorem ez_fr' (x : Int) (st : Sto) : fEq (fr x) (.tup [.int 0, .int 1]) st = .ok (.bl (decide (x = 0))) st := by
  rw [← fr_zero']; exact fEq_fr x 0 st
theorem tp_neg (x : Int) : decide (tpI x < 0) = decide (x < 0) := decide_eq_decide.mpr (tp_sg x).1
theorem tp_pos (x : Int) : decide (0 < tpI x) = decide (0 < x) := decide_eq_decide.mpr (tp_sg x).2.1
theorem findSome_if {α : Type} (l : List α) (p : α → Bool) (d : D) : l.findSome? (fun a => if p a = true then none else some d) = if l.all p = true then none else some d := by
  induction l with
  | nil => rfl
  | cons a l ih =>
    rw [List.findSome?_cons, List.all_cons]
    cases h : p a
    · simp
    · simp [ih]
def rng (a b : Nat) : List Nat := (List.range (b - a)).map (a + ·)
theorem mem_rng {a b x : Nat} : x ∈ rng a b ↔ a ≤ x ∧ x < b := by
  unfold rng
  simp only [List.mem_map, List.mem_range]
  constructor
  · rintro ⟨y, h, rfl⟩; omega
  · rintro ⟨h1, h2⟩; exact ⟨x - a, by omega, by omega⟩
theorem rng_len (a b : Nat) : (rng a b).length = b - a := by simp [rng]
theorem iRange2_n {a : SA} {ρ : Ev} {st : Sto} {i n : Nat} (h : a ρ st = .ok [.int (i : Int), .int (n : Int)] st) (hi : i ≤ 1000 := by omega) (hn : n ≤ 1000 := by omega) : iRange2 a ρ st = .ok ((rng i n).map fun i : Nat => D.int (i : Int), none) st := by
  unfold iRange2
  rw [h, bind_ok]
  dsimp only
  rw [if_pos (by omega)]
  have e : ((n : Int) - (i : Int)).toNat = n - i := by omega
  rw [e]
  unfold rangeL rng
  rw [List.map_map]
  congr 2
theorem is_mend_of_t (hw : WF st) {n : Nat} (n1 : 1 ≤ n) (n7 : n ≤ 7) (F : Nat → Nat → Int) : ∃ b, F_is_mend_of [.int (n : Int), tabF n F] st = .ok (.bl b) st ∧ (b = true ↔ Mend n F) := by
  have body : ∃ b, b_is_mend_of (startD 7 [.int (n : Int), tabF n F]) st = some (.rt (.bl b), st) ∧ (b = true ↔ Mend n F) := by
    have z2 := sizeLine_eq
    have h0 : (startD 7 [.int (n : Int), tabF n F])[0]? = some (some (.int (n : Int))) := rfl
    have h1 : (startD 7 [.int (n : Int), tabF n F])[1]? = some (some (tabF n F)) := rfl
    have hl : (startD 7 [.int (n : Int), tabF n F]).length = 7 := rfl
    generalize startD 7 [.int (n : Int), tabF n F] = ρ at h0 h1 hl
    unfold b_is_mend_of
    simp_arith! [h0, h1, is_sized_t hw, List.length_range, Int.le_refl]
    rw [sLC_map (dy := none) (List.range n) (fun i => rowF n F i) (fun _ => D.bl true) (by simp_arith! [iSeq_e, h1]) (still_none _ _) (by simp; omega) fun i hi => ⟨_, rfl, by
      simp_arith! [h0, hl, is_sized_t hw, List.length_range, Int.le_refl]⟩]
    have ba := fun s => bAll_map (fun _ : Nat => true) (List.range n) s
    simp only [all_true] at ba
    simp_arith! [ba, h1, iEnum_e, enum_range, List.length_range]
    generalize hL : loopFor _ _ _ _ _ _ _ _ = R
    have q := for_some_e hL (List.range n) (fun i : Nat => D.tpl [.int (i : Int), rowF n F i]) rfl (by simp) (still_none _ _) (fun ρ => ρ[0]? = some (some (.int (n : Int))) ∧ ρ[1]? = some (some (tabF n F)) ∧ ρ.length = 7) (fun i => if (List.range n).all (okP F i) = true then none else some (.bl false)) ⟨h0, h1, hl⟩ (by
      rintro i hi ρ ⟨h0, h1, hl⟩
      have hi := List.mem_range.mp hi
      refine ⟨_, rfl, ?_⟩
      simp_arith! [hl, iEnum_e, enum_range, List.length_range]
      generalize hM : loopFor _ _ _ _ _ _ _ _ = R2
      have q := for_some_e hM (List.range n) (fun j : Nat => D.tpl [.int (j : Int), fr (F i j)]) rfl (by simp) (still_none _ _) (fun ρ => ρ[0]? = some (some (.int (n : Int))) ∧ ρ[1]? = some (some (tabF n F)) ∧ ρ[2]? = some (some (.int (i : Int))) ∧ ρ.length = 7) (fun j => if okP F i j = true then none else some (.bl false)) (by simp_arith! [h0, h1, hl]) (by
        rintro j hj ρ ⟨h0, h1, h2, hl⟩
        have hj := List.mem_range.mp hj
        refine ⟨_, rfl, ?_⟩
        simp_arith! [hl, h1, h2, is_share_t hw, fIx_range hi, fIx_range hj, fNe_fr, nz_fr, fIx_fr0, tp_neg]
        unfold okP
        generalize F i j = a
        generalize F j i = b
        by_cases c1 : a = b
        · subst c1
          by_cases c2 : a < 0
          · left; refine ⟨.bl false, ?_, ?_⟩ <;> simp [c2]
          · by_cases c3 : (i : Int) = (j : Int)
            · by_cases c4 : a = 0
              · right; refine ⟨?_, (ρ.set 4 (some (.int (j : Int)))).set 5 (some (fr a)), .inl ?_, by simp_arith! [h0, h1, h2, hl]⟩
                · simp [c2, c3, c4]
                · simp [c2, c3, c4]
              · left; refine ⟨.bl false, ?_, ?_⟩
                · simp [c2, c3, c4]
                · simp [c2, c3, c4]
            · right; refine ⟨?_, (ρ.set 4 (some (.int (j : Int)))).set 5 (some (fr a)), .inl ?_, by simp_arith! [h0, h1, h2, hl]⟩
              · simp [c2, c3]
              · simp [c2, c3]
        · left; refine ⟨.bl false, ?_, ?_⟩ <;> simp [c1])
      rw [findSome_if] at q
      rcases q with ⟨d, hc, rfl⟩ | ⟨hc, ρ', rfl, k0, k1, k2, kl⟩
      · exact .inl ⟨d, hc, rfl⟩
      · exact .inr ⟨hc, ρ', .inl rfl, k0, k1, kl⟩)
    rw [findSome_if] at q
    rcases q with ⟨d, hc, rfl⟩ | ⟨hc, ρ', rfl, k0, k1, kl⟩
    · split at hc
      · cases hc
      · rename_i nn
        cases hc
        refine ⟨false, rfl, ⟨fun h => (by cases h), fun M => ?_⟩⟩
        exact absurd (List.all_eq_true.mpr fun i hi => List.all_eq_true.mpr fun j hj => (okP_iff F i j).mpr (M.ok i j (List.mem_range.mp hi) (List.mem_range.mp hj))) nn
    · split at hc
      · rename_i all1
        clear hL
        simp_arith! []
        rw [iRange_n (n := n) (by simp_arith! [k0])]
        simp_arith! [List.length_range]
        generalize hL : loopFor _ _ _ _ _ _ _ _ = R
        have q := for_some_e hL (List.range n) (fun i : Nat => D.int (i : Int)) rfl (by simp) (still_none _ _) (fun ρ => ρ[0]? = some (some (.int (n : Int))) ∧ ρ[1]? = some (some (tabF n F)) ∧ ρ.length = 7) (fun i => if (rng (i + 1) n).all (fun k => (List.range n).all fun j => !decide (F i j + F j k < F i k)) = true then none else some (.bl false)) ⟨k0, k1, kl⟩ (by
          rintro i hi ρ ⟨h0, h1, hl⟩
          have hi := List.mem_range.mp hi
          refine ⟨_, rfl, ?_⟩
          simp_arith! []
          rw [iRange2_n (i := i + 1) (n := n) (by simp_arith! [h0, hl, Int.natCast_add]; rfl)]
          simp_arith! [hl, rng_len]
          generalize hM : loopFor _ _ _ _ _ _ _ _ = R2
          have q := for_some_e hM (rng (i + 1) n) (fun j : Nat => D.int (j : Int)) rfl (by rw [rng_len]) (still_none _ _) (fun ρ => ρ[0]? = some (some (.int (n : Int))) ∧ ρ[1]? = some (some (tabF n F)) ∧ ρ[2]? = some (some (.int (i : Int))) ∧ ρ.length = 7) (fun k => if ((List.range n).all fun j => !decide (F i j + F j k < F i k)) = true then none else some (.bl false)) (by simp_arith! [h0, h1, hl]) (by
            rintro k hk ρ ⟨h0, h1, h2, hl⟩
            have hk := (mem_rng.mp hk).2
            refine ⟨_, rfl, ?_⟩
            simp_arith! []
            rw [sLC_map (dy := none) (List.range n) (fun j : Nat => D.int (j : Int)) (fun j => D.bl (decide (F i j + F j k < F i k))) (iRange_n (by simp_arith! [hl, h0])) (still_none _ _) (by simp; omega) fun j hj => ⟨_, rfl, by
              have hj := List.mem_range.mp hj
              simp_arith! [hl, h1, h2, fIx_range hi, fIx_range hj, fIx_range hk, plus_t hw, is_less_t hw]⟩]
            have bn := fun s => bAny_map (fun j : Nat => decide (F i j + F j k < F i k)) (List.range n) s
            simp_arith! [bn]
            have e : ((List.range n).all fun j => !decide (F i j + F j k < F i k)) = !((List.range n).any fun j => decide (F i j + F j k < F i k)) := by
              rw [List.not_any_eq_all_not]
            rw [e]
            cases ((List.range n).any fun j => decide (F i j + F j k < F i k))
            · exact .inr ⟨rfl, _, .inl rfl, by simp_arith! [h0, h1, h2, hl]⟩
            · exact .inl ⟨_, rfl, rfl⟩)
          rw [findSome_if] at q
          rcases q with ⟨d, hc, rfl⟩ | ⟨hc, ρ', rfl, k0, k1, k2, kl⟩
          · exact .inl ⟨d, hc, rfl⟩
          · exact .inr ⟨hc, ρ', .inl rfl, k0, k1, kl⟩)
        rw [findSome_if] at q
        have ok : ∀ i j, i < n → j < n → F i j = F j i ∧ 0 ≤ F i j ∧ (i = j → F i j = 0) := fun i j hi hj => (okP_iff F i j).mp (List.all_eq_true.mp (List.all_eq_true.mp all1 i (List.mem_range.mpr hi)) j (List.mem_range.mpr hj))
        rcases q with ⟨d, hc, rfl⟩ | ⟨hc, ρ', rfl, _⟩
        · split at hc
          · cases hc
          · rename_i nn
            cases hc
            refine ⟨false, rfl, ⟨fun h => (by cases h), fun M => ?_⟩⟩
            refine absurd (List.all_eq_true.mpr fun i hi => List.all_eq_true.mpr fun k hk => List.all_eq_true.mpr fun j hj => ?_) nn
            have := M.tr i j k (List.mem_range.mp hi) (List.mem_range.mp hj) (mem_rng.mp hk).2
            rw [Bool.not_eq_true', decide_eq_false_iff_not]; omega
        · split at hc
          · rename_i all2
            refine ⟨true, rfl, ⟨fun _ => ⟨ok, fun i j k hi hj hk => ?_⟩, fun _ => rfl⟩⟩
            have lt : ∀ i k, i < k → k < n → F i k ≤ F i j + F j k := fun i k hik hk => by
              have := List.all_eq_true.mp (List.all_eq_true.mp (List.all_eq_true.mp all2 i (List.mem_range.mpr (by omega))) k (mem_rng.mpr ⟨by omega, hk⟩)) j (List.mem_range.mpr hj)
              rw [Bool.not_eq_true', decide_eq_false_iff_not] at this; omega
            rcases Nat.lt_trichotomy i k with h | h | h
            · exact lt i k h hk
            · subst h
              have a := ok i i hi hi
              have b := ok i j hi hj
              have c := ok j i hj hi
              have := a.2.2 rfl
              omega
            · have a := lt k i h hi
              have b1 := (ok i k hi hk).1
              have b2 := (ok i j hi hj).1
              have b3 := (ok j k hj hk).1
              omega
          · cases hc
      · cases hc
  obtain ⟨b, h1, h2⟩ := body
  exact ⟨b, defFin_v hw (fz_bl _ _) h1, h2⟩
end Lw87
namespace Lw87
open PySem PD
variable {st : Sto}
/-! ### what is no mend -/
/-- an odd thing: no pair within its ones of one -/
inductive Sh : D → Prop
  | nt {x : D} : ntD x = true → Sh x
  | nil : Sh (.tup [])
  | tup {x : D} : Sh x → Sh (.tup [x])
theorem sized_sh (hw : WF st) {x : D} (h : Sh x) (k : Int) (hk : 2 ≤ k) (hi : Int) : F_is_sized [x, .int k, .int hi] st = .ok (.bl false) st := by
  cases h with
  | nt h => exact is_sized_nt hw h _ _
  | nil => rw [is_sized_t hw]; congr 2; simp; omega
  | tup h => rw [is_sized_t hw]; congr 2; simp; omega
theorem is_share_sh (hw : WF st) {x : D} (h : Sh x) : F_is_share [x] st = .ok (.bl false) st := defFin_v hw (fz_bl _ _) (by
  have h0 : (startD 2 [x])[0]? = some (some x) := rfl
  generalize startD 2 [x] = ρ at h0
  unfold b_is_share
  simp_arith! [h0, sized_sh hw h 2 (by decide)])
theorem ty_sh {x : D} (h : Sh x) : ∃ b, isTy .tuple x = some b ∧ (b = true → ∃ xs, x = .tup xs ∧ xs.length ≤ 1) := by
  cases h with
  | nt h => exact ⟨false, ty_nt h, fun q => by cases q⟩
  | nil => exact ⟨true, rfl, fun _ => ⟨_, rfl, by simp⟩⟩
  | tup h => exact ⟨true, rfl, fun _ => ⟨_, rfl, by simp⟩⟩
theorem law_is_part_sh (hw : WF st) {x : D} (h : Sh x) : F_law_is_part [x] st = .ok (.bl false) st := defFin_v hw (fz_bl _ _) (by
  have h0 : (startD 2 [x])[0]? = some (some x) := rfl
  generalize startD 2 [x] = ρ at h0
  unfold b_law_is_part
  obtain ⟨b, t1, t2⟩ := ty_sh h
  cases b
  · simp_arith! [h0, t1]
  · obtain ⟨xs, rfl, hx⟩ := t2 rfl
    have e : decide ((xs.length : Int) = 2) = false := decide_eq_false (by omega)
    simp_arith! [h0, t1, e])
theorem is_mend_of_nt (hw : WF st) {x : D} (h : ntD x = true) (n : Int) : F_is_mend_of [.int n, x] st = .ok (.bl false) st := defFin_v hw (fz_bl _ _) (by
  have h0 : (startD 7 [.int n, x])[0]? = some (some (.int n)) := rfl
  have h1 : (startD 7 [.int n, x])[1]? = some (some x) := rfl
  generalize startD 7 [.int n, x] = ρ at h0 h1
  unfold b_is_mend_of
  simp_arith! [h0, h1, is_sized_nt hw h])
theorem law_is_mend_nt (hw : WF st) {x : D} (h : ntD x = true) (n : Int) : F_law_is_mend [.int n, x] st = .ok (.bl false) st := defFin_v hw (fz_bl _ _) (by
  have h0 : (startD 7 [.int n, x])[0]? = some (some (.int n)) := rfl
  have h1 : (startD 7 [.int n, x])[1]? = some (some x) := rfl
  generalize startD 7 [.int n, x] = ρ at h0 h1
  unfold b_law_is_mend
  simp_arith! [h0, h1, ty_nt h])
theorem is_mend_of_len (hw : WF st) {xs : List D} {n : Nat} (h : xs.length ≠ n) : F_is_mend_of [.int (n : Int), .tup xs] st = .ok (.bl false) st := defFin_v hw (fz_bl _ _) (by
  have h0 : (startD 7 [.int (n : Int), .tup xs])[0]? = some (some (.int (n : Int))) := rfl
  have h1 : (startD 7 [.int (n : Int), .tup xs])[1]? = some (some (.tup xs)) := rfl
  generalize startD 7 [.int (n : Int), .tup xs] = ρ at h0 h1
  unfold b_is_mend_of
  have e : decide ((n : Int) ≤ xs.length ∧ (xs.length : Int) ≤ n) = false := decide_eq_false (by omega)
  simp_arith! [h0, h1, is_sized_t hw, e])
theorem law_is_mend_len (hw : WF st) {xs : List D} {n : Nat} (h : xs.length ≠ n) : F_law_is_mend [.int (n : Int), .tup xs] st = .ok (.bl false) st := defFin_v hw (fz_bl _ _) (by
  have h0 : (startD 7 [.int (n : Int), .tup xs])[0]? = some (some (.int (n : Int))) := rfl
  have h1 : (startD 7 [.int (n : Int), .tup xs])[1]? = some (some (.tup xs)) := rfl
  generalize startD 7 [.int (n : Int), .tup xs] = ρ at h0 h1
  unfold b_law_is_mend
  have e : decide ((xs.length : Int) = n) = false := decide_eq_false (by omega)
  simp_arith! [h0, h1, e])
/-- one row, and that is none of one -/
theorem is_mend_of_1 (hw : WF st) {y : D} (h : F_is_sized [y, .int 1, .int 1] st = .ok (.bl false) st) : F_is_mend_of [.int 1, .tup [y]] st = .ok (.bl false) st := defFin_v hw (fz_bl _ _) (by
  have z2 := sizeLine_eq
  have h0 : (startD 7 [.int 1, .tup [y]])[0]? = some (some (.int 1)) := rfl
  have h1 : (startD 7 [.int 1, .tup [y]])[1]? = some (some (.tup [y])) := rfl
  have hl : (startD 7 [.int 1, .tup [y]]).length = 7 := rfl
  generalize startD 7 [.int 1, .tup [y]] = ρ at h0 h1 hl
  unfold b_is_mend_of
  have e : (decide ((1 : Int) ≤ (([y].length : Nat) : Int) ∧ (([y].length : Nat) : Int) ≤ 1)) = true := by simp
  have sz := is_sized_t hw [y] 1 1
  rw [e] at sz
  simp_arith! [h0, h1, sz]
  rw [sLC_map (dy := none) (g := gN 3) [y] (fun d => d) (fun _ => D.bl false) (by simp_arith! [iSeq_e, h1]; rfl) (still_none _ _) (by simp; omega) fun i hi => ⟨_, rfl, by
    rw [List.mem_singleton] at hi
    subst hi
    simp_arith! [h0, hl, h]⟩]
  have ba := fun s => bAll_map (fun _ : D => false) [y] s
  have e2 : ([y].all fun _ => false) = false := rfl
  rw [e2] at ba
  simp_arith! [ba])
theorem is_mend_of_11 (hw : WF st) {z : D} (h : F_is_share [z] st = .ok (.bl false) st) : F_is_mend_of [.int 1, .tup [.tup [z]]] st = .ok (.bl false) st := defFin_v hw (fz_bl _ _) (by
  have z2 := sizeLine_eq
  have h0 : (startD 7 [.int 1, .tup [.tup [z]]])[0]? = some (some (.int 1)) := rfl
  have h1 : (startD 7 [.int 1, .tup [.tup [z]]])[1]? = some (some (.tup [.tup [z]])) := rfl
  have hl : (startD 7 [.int 1, .tup [.tup [z]]]).length = 7 := rfl
  generalize startD 7 [.int 1, .tup [.tup [z]]] = ρ at h0 h1 hl
  unfold b_is_mend_of
  have e : ∀ y : D, (decide ((1 : Int) ≤ (([y].length : Nat) : Int) ∧ (([y].length : Nat) : Int) ≤ 1)) = true := fun y => by simp
  have sz := fun y => is_sized_t hw [y] 1 1
  simp only [e] at sz
  simp_arith! [h0, h1, sz]
  rw [sLC_map (dy := none) (g := gN 3) [D.tup [z]] (fun d => d) (fun _ => D.bl true) (by simp_arith! [iSeq_e, h1]; rfl) (still_none _ _) (by simp; omega) fun i hi => ⟨_, rfl, by
    rw [List.mem_singleton] at hi
    subst hi
    simp_arith! [h0, hl, sz]⟩]
  have ba := fun s => bAll_map (fun _ : D => true) [D.tup [z]] s
  have e2 : ([D.tup [z]].all fun _ => true) = true := rfl
  rw [e2] at ba
  simp_arith! [ba, iEnum_e, h1, enumFromD, loopFor, fetch, hl, h])
theorem is_mend_of_sh (hw : WF st) {x : D} (h : Sh x) {n : Nat} (n1 : 1 ≤ n) : F_is_mend_of [.int (n : Int), x] st = .ok (.bl false) st := by
  cases h with
  | nt h => exact is_mend_of_nt hw h _
  | nil => exact is_mend_of_len hw (by simp; omega)
  | tup h =>
    by_cases e : n = 1
    · subst e
      cases h with
      | nt h => exact is_mend_of_1 hw (is_sized_nt hw h _ _)
      | nil => exact is_mend_of_1 hw (by rw [is_sized_t hw]; rfl)
      | tup h => exact is_mend_of_11 hw (is_share_sh hw h)
    · exact is_mend_of_len hw (by simp; omega)
theorem law_is_mend_1 (hw : WF st) {y : D} (h : Sh y) : F_law_is_mend [.int 1, .tup [y]] st = .ok (.bl false) st := defFin_v hw (fz_bl _ _) (by
  have z2 := sizeLine_eq
  have h0 : (startD 7 [.int 1, .tup [y]])[0]? = some (some (.int 1)) := rfl
  have h1 : (startD 7 [.int 1, .tup [y]])[1]? = some (some (.tup [y])) := rfl
  have hl : (startD 7 [.int 1, .tup [y]]).length = 7 := rfl
  generalize startD 7 [.int 1, .tup [y]] = ρ at h0 h1 hl
  unfold b_law_is_mend
  have e : decide (((1 : Nat) : Int) = 1) = true := rfl
  simp_arith! [h0, h1, iSeq_e, e]
  cases h with
  | nt h => simp_arith! [h0, h1, ty_nt h, loopFor, fetch, hl]
  | nil => simp_arith! [h0, h1, loopFor, fetch, hl]; rfl
  | tup h =>
    rename_i z
    simp_arith! [h0, h1, loopFor, fetch, hl]
    rw [sLC_map (dy := none) (g := gN 6) [z] (fun d => d) (fun _ => D.bl false) (by simp_arith! [iSeq_e, hl]; rfl) (still_none _ _) (by simp; omega) fun i hi => ⟨_, rfl, by
      rw [List.mem_singleton] at hi
      subst hi
      simp_arith! [h0, hl, law_is_part_sh hw h]⟩]
    have ba := fun s => bAll_map (fun _ : D => false) [z] s
    have e2 : ([z].all fun _ => false) = false := rfl
    rw [e2] at ba
    simp_arith! [ba, e])
theorem law_is_mend_sh (hw : WF st) {x : D} (h : Sh x) {n : Nat} (n1 : 1 ≤ n) : F_law_is_mend [.int (n : Int), x] st = .ok (.bl false) st := by
  cases h with
  | nt h => exact law_is_mend_nt hw h _
  | nil => exact law_is_mend_len hw (by simp; omega)
  | tup h =>
    by_cases e : n = 1
    · subst e; exact law_is_mend_1 hw h
    · exact law_is_mend_len hw (by simp; omega)
end Lw87
namespace Lw87
open PySem PD
variable {st : Sto}
theorem is_share_i (hw : WF st) (i : Int) : F_is_share [.int i] st = .ok (.bl false) st := is_share_sh hw (.nt rfl)
theorem law_is_part_i (hw : WF st) (i : Int) : F_law_is_part [.int i] st = .ok (.bl false) st := law_is_part_sh hw (.nt rfl)
theorem range_succ' (m : Nat) : List.range (m + 1) = 0 :: (List.range m).map (· + 1) := List.range_succ_eq_map
theorem is_mend_of_tab (hw : WF st) {n : Nat} (n1 : 1 ≤ n) (n7 : n ≤ 7) (f : Nat → Nat → Int) : F_is_mend_of [.int (n : Int), tabT n f] st = .ok (.bl false) st := defFin_v hw (fz_bl _ _) (by
  have z2 := sizeLine_eq
  have h0 : (startD 7 [.int (n : Int), tabT n f])[0]? = some (some (.int (n : Int))) := rfl
  have h1 : (startD 7 [.int (n : Int), tabT n f])[1]? = some (some (tabT n f)) := rfl
  have hl : (startD 7 [.int (n : Int), tabT n f]).length = 7 := rfl
  generalize startD 7 [.int (n : Int), tabT n f] = ρ at h0 h1 hl
  unfold b_is_mend_of
  simp_arith! [h0, h1, is_sized_t hw, List.length_range, Int.le_refl]
  rw [sLC_map (dy := none) (List.range n) (fun i => rowT n f i) (fun _ => D.bl true) (by simp_arith! [iSeq_e, h1]) (still_none _ _) (by simp; omega) fun i hi => ⟨_, rfl, by
    simp_arith! [h0, hl, is_sized_t hw, List.length_range, Int.le_refl]⟩]
  have ba := fun s => bAll_map (fun _ : Nat => true) (List.range n) s
  simp only [all_true] at ba
  simp_arith! [ba, h1, iEnum_e, enum_range, List.length_range]
  obtain ⟨m, rfl⟩ : ∃ m, n = m + 1 := ⟨n - 1, by omega⟩
  have sp : ∀ φ : Nat → D, (List.range (m + 1)).map φ = φ 0 :: ((List.range m).map (· + 1)).map φ := fun φ => by rw [range_succ' m, List.map_cons]
  rw [sp fun i => D.tpl [.int (i : Int), rowT (m + 1) f i], loopFor]
  simp_arith! [fetch, hl, h1, iEnum_e]
  rw [enum_range, sp fun j => D.tpl [.int (j : Int), .int (f 0 j)], loopFor]
  simp_arith! [fetch, hl, is_share_i hw])
theorem law_is_mend_tab (hw : WF st) {n : Nat} (n1 : 1 ≤ n) (n7 : n ≤ 7) (f : Nat → Nat → Int) : F_law_is_mend [.int (n : Int), tabT n f] st = .ok (.bl false) st := defFin_v hw (fz_bl _ _) (by
  have z2 := sizeLine_eq
  have h0 : (startD 7 [.int (n : Int), tabT n f])[0]? = some (some (.int (n : Int))) := rfl
  have h1 : (startD 7 [.int (n : Int), tabT n f])[1]? = some (some (tabT n f)) := rfl
  have hl : (startD 7 [.int (n : Int), tabT n f]).length = 7 := rfl
  generalize startD 7 [.int (n : Int), tabT n f] = ρ at h0 h1 hl
  unfold b_law_is_mend
  obtain ⟨m, rfl⟩ : ∃ m, n = m + 1 := ⟨n - 1, by omega⟩
  simp_arith! [h0, h1, List.length_range, iSeq_e]
  rw [show (List.range (m + 1)).map (fun i => rowT (m + 1) f i) = rowT (m + 1) f 0 :: ((List.range m).map (· + 1)).map fun i => rowT (m + 1) f i by rw [range_succ' m, List.map_cons], loopFor]
  simp_arith! [fetch, hl, h0, h1, List.length_range]
  rw [sLC_map (dy := none) (List.range (m + 1)) (fun j => D.int (f 0 j)) (fun _ => D.bl false) (by simp_arith! [iSeq_e, hl]) (still_none _ _) (by simp; omega) fun j hj => ⟨_, rfl, by
    simp_arith! [hl, law_is_part_i hw]⟩]
  have ba := fun s => bAll_map (fun _ : Nat => false) (List.range (m + 1)) s
  have e : ((List.range (m + 1)).all fun _ => false) = false := by rw [range_succ' m, List.all_cons]; rfl
  rw [e] at ba
  simp_arith! [ba])
theorem law_is_mend_t (hw : WF st) {n : Nat} (n1 : 1 ≤ n) (n7 : n ≤ 7) (F : Nat → Nat → Int) : ∃ b, F_law_is_mend [.int (n : Int), tabF n F] st = .ok (.bl b) st ∧ (b = true ↔ Mend n F) := by
  have body : ∃ b, b_law_is_mend (startD 7 [.int (n : Int), tabF n F]) st = some (.rt (.bl b), st) ∧ (b = true ↔ Mend n F) := by
    have z2 := sizeLine_eq
    have h0 : (startD 7 [.int (n : Int), tabF n F])[0]? = some (some (.int (n : Int))) := rfl
    have h1 : (startD 7 [.int (n : Int), tabF n F])[1]? = some (some (tabF n F)) := rfl
    have hl : (startD 7 [.int (n : Int), tabF n F]).length = 7 := rfl
    generalize startD 7 [.int (n : Int), tabF n F] = ρ at h0 h1 hl
    have ba := fun s => bAll_map (fun _ : Nat => true) (List.range n) s
    simp only [all_true] at ba
    unfold b_law_is_mend
    simp_arith! [h0, h1, List.length_range, iSeq_e]
    generalize hL : loopFor _ _ _ _ _ _ _ _ = R
    obtain ⟨ρ', rfl, k0, k1, kl⟩ := for_none_e hL (List.range n) (fun i : Nat => rowF n F i) rfl (by simp) (still_none _ _) (fun ρ => ρ[0]? = some (some (.int (n : Int))) ∧ ρ[1]? = some (some (tabF n F)) ∧ ρ.length = 7) ⟨h0, h1, hl⟩ (by
      rintro i hi ρ ⟨h0, h1, hl⟩
      refine ⟨_, rfl, ρ.set 2 (some (rowF n F i)), .inl ?_, by simp_arith! [h0, h1, hl]⟩
      simp_arith! [hl, h0, List.length_range]
      rw [sLC_map (dy := none) (List.range n) (fun j => fr (F i j)) (fun _ => D.bl true) (by simp_arith! [iSeq_e, hl]) (still_none _ _) (by simp; omega) fun j hj => ⟨_, rfl, by
        simp_arith! [hl, law_is_part_t hw]⟩]
      simp_arith! [ba])
    clear hL
    simp_arith! []
    rw [iRange_n (n := n) (by simp_arith! [k0])]
    simp_arith! [List.length_range]
    generalize hL : loopFor _ _ _ _ _ _ _ _ = R
    have q := for_some_e hL (List.range n) (fun i : Nat => D.int (i : Int)) rfl (by simp) (still_none _ _) (fun ρ => ρ[0]? = some (some (.int (n : Int))) ∧ ρ[1]? = some (some (tabF n F)) ∧ ρ.length = 7) (fun i => if (List.range n).all (fun j => okP F i j && (List.range n).all fun k => !decide (F i j + F j k < F i k)) = true then none else some (.bl false)) ⟨k0, k1, kl⟩ (by
      rintro i hi ρ ⟨h0, h1, hl⟩
      have hi := List.mem_range.mp hi
      refine ⟨_, rfl, ?_⟩
      simp_arith! []
      rw [iRange_n (n := n) (by simp_arith! [h0, hl])]
      simp_arith! [List.length_range]
      generalize hM : loopFor _ _ _ _ _ _ _ _ = R2
      have q := for_some_e hM (List.range n) (fun j : Nat => D.int (j : Int)) rfl (by simp) (still_none _ _) (fun ρ => ρ[0]? = some (some (.int (n : Int))) ∧ ρ[1]? = some (some (tabF n F)) ∧ ρ[3]? = some (some (.int (i : Int))) ∧ ρ.length = 7) (fun j => if (okP F i j && (List.range n).all fun k => !decide (F i j + F j k < F i k)) = true then none else some (.bl false)) (by simp_arith! [h0, h1, hl]) (by
        rintro j hj ρ ⟨h0, h1, h3, hl⟩
        have hj := List.mem_range.mp hj
        refine ⟨_, rfl, ?_⟩
        have tst : ∀ S : SS, qSeq (qIf (tOrD (tBl (s2 fNe (s2 fIx (s2 fIx (sVar 1) (sVar 3)) (sVar 4)) (s2 fIx (s2 fIx (sVar 1) (sVar 4)) (sVar 3)))) (tOrD (tBl (s2 fLt (s2 fIx (s2 fIx (s2 fIx (sVar 1) (sVar 3)) (sVar 4)) (sC (.int 0))) (sC (.int 0)))) (tAndD (tBl (s2 fEq (sVar 3) (sVar 4))) (tBl (s2 fNe (s2 fIx (s2 fIx (sVar 1) (sVar 3)) (sVar 4)) (sTup (aCons (sC (.int 0)) (aCons (sC (.int 1)) aNil)))))))) (qRet (sC (.bl false))) qNext) S (ρ.set 4 (some (.int (j : Int)))) st = if okP F i j = true then S (ρ.set 4 (some (.int (j : Int)))) st else some (.rt (.bl false), st) := fun S => by
          simp_arith! [hl, h1, h3, fIx_range hi, fIx_range hj, fNe_fr, nz_fr', fIx_fr0, tp_neg]
          unfold okP
          generalize F i j = a
          generalize F j i = b
          by_cases c1 : a = b
          · subst c1
            by_cases c2 : a < 0
            · simp [c2]
            · by_cases c3 : (i : Int) = (j : Int)
              · by_cases c4 : a = 0
                · simp [c2, c3, c4]
                · simp [c2, c3, c4]
              · simp [c2, c3]
          · simp [c1]
        rw [tst]
        clear tst
        cases c : okP F i j
        · exact .inl ⟨.bl false, by simp, by simp⟩
        · rw [if_pos rfl]
          simp_arith! []
          rw [iRange_n (n := n) (by simp_arith! [h0, hl])]
          simp_arith! [List.length_range]
          generalize hN : loopFor _ _ _ _ _ _ _ _ = R3
          have q := for_some_e hN (List.range n) (fun j : Nat => D.int (j : Int)) rfl (by simp) (still_none _ _) (fun ρ => ρ[0]? = some (some (.int (n : Int))) ∧ ρ[1]? = some (some (tabF n F)) ∧ ρ[3]? = some (some (.int (i : Int))) ∧ ρ[4]? = some (some (.int (j : Int))) ∧ ρ.length = 7) (fun k => if (!decide (F i j + F j k < F i k)) = true then none else some (.bl false)) (by simp_arith! [h0, h1, h3, hl]) (by
            rintro k hk ρ ⟨h0, h1, h3, h4, hl⟩
            have hk := List.mem_range.mp hk
            refine ⟨_, rfl, ?_⟩
            simp_arith! [hl, h1, h3, h4, fIx_range hi, fIx_range hj, fIx_range hk, law_plus_t hw, law_less_t hw]
            cases decide (F i j + F j k < F i k)
            · exact .inr ⟨rfl, _, .inl rfl, by simp_arith! [h0, h1, h3, h4, hl]⟩
            · exact .inl ⟨_, rfl, rfl⟩)
          rw [findSome_if] at q
          rcases q with ⟨d, hc, rfl⟩ | ⟨hc, ρ', rfl, k0, k1, k3, k4, kl⟩
          · exact .inl ⟨d, by simpa using hc, rfl⟩
          · exact .inr ⟨by simpa using hc, ρ', .inl rfl, k0, k1, k3, kl⟩)
      rw [findSome_if] at q
      rcases q with ⟨d, hc, rfl⟩ | ⟨hc, ρ', rfl, k0, k1, k2, kl⟩
      · exact .inl ⟨d, hc, rfl⟩
      · exact .inr ⟨hc, ρ', .inl rfl, k0, k1, kl⟩)
    rw [findSome_if] at q
    rcases q with ⟨d, hc, rfl⟩ | ⟨hc, ρ', rfl, _⟩
    · split at hc
      · cases hc
      · rename_i nn
        cases hc
        refine ⟨false, rfl, ⟨fun h => (by cases h), fun M => ?_⟩⟩
        refine absurd (List.all_eq_true.mpr fun i hi => List.all_eq_true.mpr fun j hj => Bool.and_eq_true_iff.mpr ⟨(okP_iff F i j).mpr (M.ok i j (List.mem_range.mp hi) (List.mem_range.mp hj)), List.all_eq_true.mpr fun k hk => ?_⟩) nn
        have := M.tr i j k (List.mem_range.mp hi) (List.mem_range.mp hj) (List.mem_range.mp hk)
        rw [Bool.not_eq_true', decide_eq_false_iff_not]; omega
    · split at hc
      · rename_i al
        have A := fun i j (hi : i < n) (hj : j < n) => Bool.and_eq_true_iff.mp (List.all_eq_true.mp (List.all_eq_true.mp al i (List.mem_range.mpr hi)) j (List.mem_range.mpr hj))
        refine ⟨true, rfl, ⟨fun _ => ⟨fun i j hi hj => (okP_iff F i j).mp (A i j hi hj).1, fun i j k hi hj hk => ?_⟩, fun _ => rfl⟩⟩
        have := List.all_eq_true.mp (A i j hi hj).2 k (List.mem_range.mpr hk)
        rw [Bool.not_eq_true', decide_eq_false_iff_not] at this; omega
      · cases hc
  obtain ⟨b, h1, h2⟩ := body
  exact ⟨b, defFin_v hw (fz_bl _ _) h1, h2⟩
end Lw87
namespace Lw87
open PySem PD
variable {st : Sto}
/-! ### lists that a def makes -/
theorem fin_list {n : Nat} {b : SS} {ds : List D} {st : Sto} (xs : List D) (hw : WF st) (hx : ∀ x ∈ xs, Fz 59 x) (h : b (startD n ds) st = some (.rt (.ref st.length), st ++ [.lst xs])) : defFin n b ds st = .ok (.lst xs) st :=
  defFin_rt (ex := [.lst xs]) h rfl hw (by
    rw [frzD]
    simp only [Nat.lt_irrefl, if_false, sto_get1]
    rw [allSome_id fun d hd => hx d hd _ _]
    rfl)
def pairsL (n : Nat) : List (Nat × Nat) := (List.range n).flatMap fun i => (rng (i + 1) n).map fun j => (i, j)
theorem mem_pairsL {n : Nat} {p : Nat × Nat} (h : p ∈ pairsL n) : p.1 < p.2 ∧ p.2 < n := by
  obtain ⟨i, hi, h⟩ := List.mem_flatMap.mp h
  obtain ⟨j, hj, rfl⟩ := List.mem_map.mp h
  have := mem_rng.mp hj
  exact ⟨by show i < j; omega, this.2⟩
theorem pairsL_len {n : Nat} (h : n ≤ 7) : (pairsL n).length ≤ 100 := by
  match n, h with
  | 0, _ => decide
  | 1, _ => decide
  | 2, _ => decide
  | 3, _ => decide
  | 4, _ => decide
  | 5, _ => decide
  | 6, _ => decide
  | 7, _ => decide
abbrev pD (p : Nat × Nat) : D := .tup [.int (p.1 : Int), .int (p.2 : Int)]
theorem fExtend_at {S : Sto} {xs ys : List D} (h : xs.length + ys.length ≤ 16777216) : fExtend (.ref S.length) (.lst ys) (S ++ [.lst xs]) = .ok .non (S ++ [.lst (xs ++ ys)]) := by
  have z2 := sizeLine_eq
  unfold fExtend
  simp only [sto_get1, litems_lst]
  rw [if_pos (by omega), sto_set1]
theorem flat_pre {α : Type} (n : Nat) (g : Nat → List α) (hn : ∀ i, i < n → (g i).length ≤ 1000) : ∀ i, i ≤ n → ((List.range i).flatMap g).length ≤ 1000 * i
  | 0, _ => by simp
  | i + 1, h => by
    have := flat_pre n g hn i (by omega)
    have := hn i (by omega)
    rw [List.range_succ, List.flatMap_append, List.length_append]
    simp only [List.flatMap_cons, List.flatMap_nil, List.append_nil]
    omega
theorem flat_succ {α : Type} (g : Nat → List α) (i : Nat) : (List.range (i + 1)).flatMap g = (List.range i).flatMap g ++ g i := by
  rw [List.range_succ, List.flatMap_append]
  simp
theorem pairs_of_t (hw : WF st) {n : Nat} (n7 : n ≤ 7) : F_pairs_of [.int (n : Int)] st = .ok (.lst ((pairsL n).map pD)) st := by
  refine fin_list _ hw (fun x hx => ?_) ?_
  · obtain ⟨p, _, rfl⟩ := List.mem_map.mp hx
    exact fz_tup fun d hd => by
      simp only [List.mem_cons, List.not_mem_nil, or_false] at hd
      rcases hd with rfl | rfl <;> exact fz_int _ _
  have z2 := sizeLine_eq
  have h0 : (startD 4 [.int (n : Int)])[0]? = some (some (.int (n : Int))) := rfl
  have hl : (startD 4 [.int (n : Int)]).length = 4 := rfl
  generalize startD 4 [.int (n : Int)] = ρ at h0 hl
  unfold b_pairs_of
  simp_arith! []
  rw [iRange_n (n := n) (by simp_arith! [h0, hl])]
  simp_arith! [List.length_range]
  generalize hL : loopFor _ _ _ _ _ _ _ _ = R
  obtain ⟨ρ', st', rfl, i, hd, k0, k1, kl, rfl⟩ := for_all_e hL (List.range n) (fun i : Nat => D.int (i : Int)) rfl (by simp) (fun r ρ st' => ∃ i, List.range n = List.range i ++ r ∧ ρ[0]? = some (some (.int (n : Int))) ∧ ρ[1]? = some (some (.ref st.length)) ∧ ρ.length = 4 ∧ st' = st ++ [.lst (((List.range i).flatMap fun i => (rng (i + 1) n).map fun j => (i, j)).map pD)]) (fun _ _ _ _ => still_none _ _) ⟨0, by simp, by simp_arith! [h0], by simp_arith! [hl], by simp_arith! [hl], by simp⟩ (by
    rintro x r ρ st' ⟨i, hd, h0, h1, hl, rfl⟩
    obtain ⟨rfl, hi, hd⟩ := range_step hd
    refine ⟨_, rfl, ρ.set 2 (some (.int (x : Int))), _, .inl ?_, x + 1, hd, by simp_arith! [h0], by simp_arith! [h1], by simp_arith! [hl], rfl⟩
    simp_arith! [h1, litems_last]
    rw [sLC_map (dy := none) (rng (x + 1) n) (fun j : Nat => D.int (j : Int)) (fun j => pD (x, j)) (iRange2_n (i := x + 1) (n := n) (by simp_arith! [h0, hl, Int.natCast_add]; rfl)) (still_none _ _) (by rw [rng_len]; omega) fun j hj => ⟨_, rfl, by
      simp_arith! [hl]⟩]
    have ln := flat_pre n (fun i => (rng (i + 1) n).map fun j => (i, j)) (fun i hi => by rw [List.length_map, rng_len]; omega) x (by omega)
    have ex := fExtend_at (S := st) (xs := ((List.range x).flatMap fun i => (rng (i + 1) n).map fun j => (i, j)).map pD) (ys := (rng (x + 1) n).map fun j => pD (x, j)) (by rw [List.length_map, List.length_map, rng_len]; omega)
    simp_arith! [ex]
    rw [flat_succ, List.map_append, List.map_map]
    rfl)
  have := range_end hd
  subst this
  simp_arith! [k1]
  rfl
/-! the greatest, the sum -/
def mx (l : List Int) : Int := l.foldl (fun b x => if b < x then x else b) 0
def sm (l : List Int) : Int := l.foldl (fun b x => b + x) 0
theorem fold_ge : ∀ (l : List Int) (b : Int), b ≤ l.foldl (fun b x => if b < x then x else b) b ∧ (∀ x ∈ l, x ≤ l.foldl (fun b x => if b < x then x else b) b) ∧ (l.foldl (fun b x => if b < x then x else b) b = b ∨ l.foldl (fun b x => if b < x then x else b) b ∈ l)
  | [], b => ⟨Int.le_refl _, fun x hx => by simp at hx, .inl rfl⟩
  | a :: l, b => by
    obtain ⟨h1, h2, h3⟩ := fold_ge l (if b < a then a else b)
    rw [List.foldl_cons]
    have hb : b ≤ (if b < a then a else b) ∧ a ≤ (if b < a then a else b) ∧ ((if b < a then a else b) = b ∨ (if b < a then a else b) = a) := by
      split <;> omega
    refine ⟨by omega, fun x hx => ?_, ?_⟩
    · rcases List.mem_cons.mp hx with rfl | hx
      · omega
      · exact h2 x hx
    · rcases h3 with h3 | h3
      · rw [h3]
        rcases hb.2.2 with e | e
        · exact .inl e
        · rw [e]; exact .inr List.mem_cons_self
      · exact .inr (List.mem_cons_of_mem _ h3)
theorem mx_le {l : List Int} {T : Int} (h0 : 0 ≤ T) : mx l ≤ T ↔ ∀ x ∈ l, x ≤ T := by
  obtain ⟨h1, h2, h3⟩ := fold_ge l 0
  unfold mx
  constructor
  · intro h x hx
    have := h2 x hx
    omega
  · intro h
    rcases h3 with e | e
    · omega
    · exact h _ e
theorem mx_nn (l : List Int) : 0 ≤ mx l := (fold_ge l 0).1
theorem mx_ge {l : List Int} {x : Int} (h : x ∈ l) : x ≤ mx l := (fold_ge l 0).2.1 x h
theorem mx_mem (l : List Int) : mx l = 0 ∨ mx l ∈ l := (fold_ge l 0).2.2
theorem most_of_t (hw : WF st) {l : List Int} (hl1 : l.length ≤ 100000) : F_most_of [.lst (l.map fr)] st = .ok (fr (mx l)) st := defFin_v hw (fz_fr _ _) (by
  have h0 : (startD 3 [.lst (l.map fr)])[0]? = some (some (.lst (l.map fr))) := rfl
  have hl : (startD 3 [.lst (l.map fr)]).length = 3 := rfl
  generalize startD 3 [.lst (l.map fr)] = ρ at h0 hl
  unfold b_most_of
  rw [← fr_zero]
  simp_arith! [h0, iSeq_e]
  generalize hL : loopFor _ _ _ _ _ _ _ _ = R
  obtain ⟨ρ', st', rfl, p, hd, k1, kl, rfl⟩ := for_all_e hL l fr rfl (by simp) (fun r ρ st' => ∃ p, l = p ++ r ∧ ρ[1]? = some (some (fr (mx p))) ∧ ρ.length = 3 ∧ st' = st) (fun _ _ _ _ => still_none _ _) ⟨[], rfl, by simp_arith! [hl]; rfl, by simp_arith! [hl], rfl⟩ (by
    rintro x r ρ st' ⟨p, rfl, h1, hl, rfl⟩
    refine ⟨_, rfl, (ρ.set 2 (some (fr x))).set 1 (some (fr (mx (p ++ [x])))), _, .inl ?_, p ++ [x], by simp, by simp_arith! [hl], by simp_arith! [hl], rfl⟩
    have e : mx (p ++ [x]) = if mx p < x then x else mx p := by unfold mx; rw [List.foldl_append]; rfl
    rw [e]
    simp_arith! [hl, h1, is_less_t hw]
    by_cases c : mx p < x
    · rw [if_pos c]; simp only [c]; simp_arith! [hl]
    · rw [if_neg c]; simp only [c]; simp_arith! [hl, h1])
  rw [List.append_nil] at hd
  subst hd
  simp_arith! [k1])
theorem sum_of_t (hw : WF st) {l : List Int} (hl1 : l.length ≤ 100000) : F_sum_of [.lst (l.map fr)] st = .ok (fr (sm l)) st := defFin_v hw (fz_fr _ _) (by
  have h0 : (startD 3 [.lst (l.map fr)])[0]? = some (some (.lst (l.map fr))) := rfl
  have hl : (startD 3 [.lst (l.map fr)]).length = 3 := rfl
  generalize startD 3 [.lst (l.map fr)] = ρ at h0 hl
  unfold b_sum_of
  rw [← fr_zero]
  simp_arith! [h0, iSeq_e]
  generalize hL : loopFor _ _ _ _ _ _ _ _ = R
  obtain ⟨ρ', st', rfl, p, hd, k1, kl, rfl⟩ := for_all_e hL l fr rfl (by simp) (fun r ρ st' => ∃ p, l = p ++ r ∧ ρ[1]? = some (some (fr (sm p))) ∧ ρ.length = 3 ∧ st' = st) (fun _ _ _ _ => still_none _ _) ⟨[], rfl, by simp_arith! [hl]; rfl, by simp_arith! [hl], rfl⟩ (by
    rintro x r ρ st' ⟨p, rfl, h1, hl, rfl⟩
    refine ⟨_, rfl, (ρ.set 2 (some (fr x))).set 1 (some (fr (sm (p ++ [x])))), _, .inl ?_, p ++ [x], by simp, by simp_arith! [hl], by simp_arith! [hl], rfl⟩
    have e : sm (p ++ [x]) = sm p + x := by unfold sm; rw [List.foldl_append]; rfl
    rw [e]
    simp_arith! [hl, h1, plus_t hw])
  rw [List.append_nil] at hd
  subst hd
  simp_arith! [k1])
theorem law_most_t (hw : WF st) {l : List Int} (hl1 : l.length ≤ 100000) : F_law_most [.lst (l.map fr)] st = .ok (fr (mx l)) st := defFin_v hw (fz_fr _ _) (by
  have h0 : (startD 3 [.lst (l.map fr)])[0]? = some (some (.lst (l.map fr))) := rfl
  have hl : (startD 3 [.lst (l.map fr)]).length = 3 := rfl
  generalize startD 3 [.lst (l.map fr)] = ρ at h0 hl
  unfold b_law_most
  simp_arith! [h0, iSeq_e]
  rw [← fr_zero']
  generalize hL : loopFor _ _ _ _ _ _ _ _ = R
  obtain ⟨ρ', st', rfl, p, hd, k1, kl, rfl⟩ := for_all_e hL l fr rfl (by simp) (fun r ρ st' => ∃ p, l = p ++ r ∧ ρ[1]? = some (some (fr (mx p))) ∧ ρ.length = 3 ∧ st' = st) (fun _ _ _ _ => still_none _ _) ⟨[], rfl, by simp_arith! [hl]; rfl, by simp_arith! [hl], rfl⟩ (by
    rintro x r ρ st' ⟨p, rfl, h1, hl, rfl⟩
    refine ⟨_, rfl, (ρ.set 2 (some (fr x))).set 1 (some (fr (mx (p ++ [x])))), _, .inl ?_, p ++ [x], by simp, by simp_arith! [hl], by simp_arith! [hl], rfl⟩
    have e : mx (p ++ [x]) = if mx p < x then x else mx p := by unfold mx; rw [List.foldl_append]; rfl
    rw [e]
    simp_arith! [hl, h1, law_less_t hw]
    by_cases c : mx p < x
    · rw [if_pos c]; simp only [c]; simp_arith! [hl]
    · rw [if_neg c]; simp only [c]; simp_arith! [hl, h1])
  rw [List.append_nil] at hd
  subst hd
  simp_arith! [k1])
theorem law_sum_t (hw : WF st) {l : List Int} (hl1 : l.length ≤ 100000) : F_law_sum [.lst (l.map fr)] st = .ok (fr (sm l)) st := defFin_v hw (fz_fr _ _) (by
  have h0 : (startD 3 [.lst (l.map fr)])[0]? = some (some (.lst (l.map fr))) := rfl
  have hl : (startD 3 [.lst (l.map fr)]).length = 3 := rfl
  generalize startD 3 [.lst (l.map fr)] = ρ at h0 hl
  unfold b_law_sum
  simp_arith! [h0, iSeq_e]
  rw [← fr_zero']
  generalize hL : loopFor _ _ _ _ _ _ _ _ = R
  obtain ⟨ρ', st', rfl, p, hd, k1, kl, rfl⟩ := for_all_e hL l fr rfl (by simp) (fun r ρ st' => ∃ p, l = p ++ r ∧ ρ[1]? = some (some (fr (sm p))) ∧ ρ.length = 3 ∧ st' = st) (fun _ _ _ _ => still_none _ _) ⟨[], rfl, by simp_arith! [hl]; rfl, by simp_arith! [hl], rfl⟩ (by
    rintro x r ρ st' ⟨p, rfl, h1, hl, rfl⟩
    refine ⟨_, rfl, (ρ.set 2 (some (fr x))).set 1 (some (fr (sm (p ++ [x])))), _, .inl ?_, p ++ [x], by simp, by simp_arith! [hl], by simp_arith! [hl], rfl⟩
    have e : sm (p ++ [x]) = sm p + x := by unfold sm; rw [List.foldl_append]; rfl
    rw [e]
    simp_arith! [hl, h1, law_plus_t hw])
  rw [List.append_nil] at hd
  subst hd
  simp_arith! [k1])
end Lw87
namespace Lw87
open PySem PD
variable {st : Sto}
def absI2 (x : Int) : Int := if x < 0 then -x else x
/-- by how much the mend is off, pair for pair -/
def offs (n : Nat) (f F : Nat → Nat → Int) : List Int := (pairsL n).map fun p => absI2 (F p.1 p.2 - 60 * f p.1 p.2)
theorem offs_len {n : Nat} (h : n ≤ 7) (f F : Nat → Nat → Int) : (offs n f F).length ≤ 100 := by unfold offs; rw [List.length_map]; exact pairsL_len h
theorem fz_frs (f : Nat) (l : List Int) : ∀ x ∈ l.map fr, Fz (f + 1) x := fun x hx => by
  obtain ⟨a, _, rfl⟩ := List.mem_map.mp hx
  exact fz_fr _ _
theorem gaps_of_t (hw : WF st) {n : Nat} (n7 : n ≤ 7) (f F : Nat → Nat → Int) : F_gaps_of [tabT n f, tabF n F] st = .ok (.lst ((offs n f F).map fr)) st := by
  refine fin_list _ hw (fz_frs _ _) ?_
  have z2 := sizeLine_eq
  have h0 : (startD 7 [tabT n f, tabF n F])[0]? = some (some (tabT n f)) := rfl
  have h1 : (startD 7 [tabT n f, tabF n F])[1]? = some (some (tabF n F)) := rfl
  have hl : (startD 7 [tabT n f, tabF n F]).length = 7 := rfl
  generalize startD 7 [tabT n f, tabF n F] = ρ at h0 h1 hl
  unfold b_gaps_of
  have w1 : WF (st ++ [.lst []]) := hw.app rfl
  simp_arith! [iSeq_e, h0, List.length_range, pairs_of_t w1 n7]
  generalize hL : loopFor _ _ _ _ _ _ _ _ = R
  obtain ⟨ρ', st', rfl, p, hd, k0, k1, k2, kl, rfl⟩ := for_all_e hL (pairsL n) pD rfl (by simp) (fun r ρ st' => ∃ p, pairsL n = p ++ r ∧ ρ[0]? = some (some (tabT n f)) ∧ ρ[1]? = some (some (tabF n F)) ∧ ρ[2]? = some (some (.ref st.length)) ∧ ρ.length = 7 ∧ st' = st ++ [.lst ((p.map fun p => absI2 (F p.1 p.2 - 60 * f p.1 p.2)).map fr)]) (fun _ _ _ _ => still_none _ _) ⟨[], rfl, by simp_arith! [h0], by simp_arith! [h1], by simp_arith! [hl], by simp_arith! [hl], rfl⟩ (by
    rintro x r ρ st' ⟨p, hd, h0, h1, h2, hl, rfl⟩
    have hx := mem_pairsL (n := n) (p := x) (by rw [hd]; simp)
    have hi : x.1 < n := by omega
    have hj := hx.2
    have pl := pairsL_len n7
    rw [hd, List.length_append] at pl
    have ww : WF (st ++ [.lst ((p.map fun p => absI2 (F p.1 p.2 - 60 * f p.1 p.2)).map fr)]) := hw.app (noRefs_all fun d hd => by
      obtain ⟨a, _, rfl⟩ := List.mem_map.mp hd
      rfl)
    have ap := fun y : D => fAppend_last (S := st) (ws := (p.map fun p => absI2 (F p.1 p.2 - 60 * f p.1 p.2)).map fr) (w := y) (by rw [List.length_map, List.length_map]; omega)
    refine ⟨_, rfl, (((ρ.set 3 (some (.int (x.1 : Int)))).set 4 (some (.int (x.2 : Int)))).set 5 (some (fr (60 * f x.1 x.2)))).set 6 (some (fr (F x.1 x.2))), _, .inl ?_, p ++ [x], by rw [hd]; simp, by simp_arith! [h0], by simp_arith! [h1], by simp_arith! [h2], by simp_arith! [hl], rfl⟩
    have e : absI2 (F x.1 x.2 - 60 * f x.1 x.2) = if F x.1 x.2 < 60 * f x.1 x.2 then 60 * f x.1 x.2 - F x.1 x.2 else F x.1 x.2 - 60 * f x.1 x.2 := by
      unfold absI2; split <;> split <;> omega
    rw [List.map_append, List.map_append, List.map_cons, List.map_nil, List.map_cons, List.map_nil, e]
    simp_arith! [h0, h1, h2, hl, fIx_range hi, fIx_range hj]
    rw [← fr_int]
    simp_arith! [h0, h1, h2, hl, litems_last, is_less_t ww]
    by_cases c : F x.1 x.2 < 60 * f x.1 x.2
    · rw [if_pos c]; simp only [c]; simp_arith! [hl, minus_t ww, ap]
    · rw [if_neg c]; simp only [c]; simp_arith! [hl, minus_t ww, ap])
  rw [List.append_nil] at hd
  subst hd
  simp_arith! [k2]
  rfl
theorem law_offs_t (hw : WF st) {n : Nat} (n7 : n ≤ 7) (f F : Nat → Nat → Int) : F_law_offs [tabT n f, tabF n F] st = .ok (.lst ((offs n f F).map fr)) st := by
  refine fin_list _ hw (fz_frs _ _) ?_
  have z2 := sizeLine_eq
  have h0 : (startD 7 [tabT n f, tabF n F])[0]? = some (some (tabT n f)) := rfl
  have h1 : (startD 7 [tabT n f, tabF n F])[1]? = some (some (tabF n F)) := rfl
  have hl : (startD 7 [tabT n f, tabF n F]).length = 7 := rfl
  generalize startD 7 [tabT n f, tabF n F] = ρ at h0 h1 hl
  unfold b_law_offs
  simp_arith! [iEnum_e, h0, enum_range, List.length_range]
  generalize hL : loopFor _ _ _ _ _ _ _ _ = R
  obtain ⟨ρ', st', rfl, i, hd, k0, k1, k2, kl, rfl⟩ := for_all_e hL (List.range n) (fun i : Nat => D.tpl [.int (i : Int), rowT n f i]) rfl (by simp) (fun r ρ st' => ∃ i, List.range n = List.range i ++ r ∧ ρ[0]? = some (some (tabT n f)) ∧ ρ[1]? = some (some (tabF n F)) ∧ ρ[2]? = some (some (.ref st.length)) ∧ ρ.length = 7 ∧ st' = st ++ [.lst ((((List.range i).flatMap fun i => (rng (i + 1) n).map fun j => (i, j)).map fun p => absI2 (F p.1 p.2 - 60 * f p.1 p.2)).map fr)]) (fun _ _ _ _ => still_none _ _) ⟨0, by simp, by simp_arith! [h0], by simp_arith! [h1], by simp_arith! [hl], by simp_arith! [hl], by simp⟩ (by
    rintro x r ρ st' ⟨i, hd, h0, h1, h2, hl, rfl⟩
    obtain ⟨rfl, hi, hd⟩ := range_step hd
    have ln := flat_pre n (fun i => (rng (i + 1) n).map fun j => (i, j)) (fun i hi => by rw [List.length_map, rng_len]; omega) x (by omega)
    generalize hP : (((List.range x).flatMap fun i => (rng (i + 1) n).map fun j => (i, j)).map fun p => absI2 (F p.1 p.2 - 60 * f p.1 p.2)) = P
    have hP2 : P.length ≤ 1000 * x := by rw [← hP, List.length_map]; exact ln
    clear ln
    refine ⟨_, rfl, ?_⟩
    simp_arith! []
    rw [iRange2_n (i := x + 1) (n := n) (by simp_arith! [h0, hl, Int.natCast_add, List.length_range]; rfl)]
    simp_arith! [hl, rng_len]
    generalize hM : loopFor _ _ _ _ _ _ _ _ = R2
    obtain ⟨ρ', st', rfl, q, hq, k0, k1, k2, k3, k4, kl, rfl⟩ := for_all_e hM (rng (x + 1) n) (fun i : Nat => D.int (i : Int)) rfl (by rw [rng_len]) (fun r ρ st' => ∃ q, rng (x + 1) n = q ++ r ∧ ρ[0]? = some (some (tabT n f)) ∧ ρ[1]? = some (some (tabF n F)) ∧ ρ[2]? = some (some (.ref st.length)) ∧ ρ[3]? = some (some (.int (x : Int))) ∧ ρ[4]? = some (some (rowT n f x)) ∧ ρ.length = 7 ∧ st' = st ++ [.lst (P.map fr ++ ((q.map fun j => (x, j)).map fun p => absI2 (F p.1 p.2 - 60 * f p.1 p.2)).map fr)]) (fun _ _ _ _ => still_none _ _) ⟨[], rfl, by simp_arith! [h0], by simp_arith! [h1], by simp_arith! [h2], by simp_arith! [hl], by simp_arith! [hl], by simp_arith! [hl], by simp⟩ (by
      rintro j r ρ st' ⟨q, hq, h0, h1, h2, h3, h4, hl, rfl⟩
      have hj : j < n := (mem_rng (a := x + 1) (b := n) (x := j).mp (by rw [hq]; simp)).2
      have ql : (q ++ j :: r).length = n - (x + 1) := by rw [← hq, rng_len]
      rw [List.length_append] at ql
      have ww : WF (st ++ [.lst (P.map fr ++ ((q.map fun j => (x, j)).map fun p => absI2 (F p.1 p.2 - 60 * f p.1 p.2)).map fr)]) := hw.app (noRefs_all fun d hd => by
        rw [← List.map_append] at hd
        obtain ⟨a, _, rfl⟩ := List.mem_map.mp hd
        rfl)
      have ap := fun y : D => fAppend_last (S := st) (ws := P.map fr ++ ((q.map fun j => (x, j)).map fun p => absI2 (F p.1 p.2 - 60 * f p.1 p.2)).map fr) (w := y) (by simp only [List.length_append, List.length_map]; omega)
      have ab := abs_fr (F x j - 60 * f x j)
      refine ⟨_, rfl, ((ρ.set 5 (some (.int (j : Int)))).set 6 (some (fr (F x j - 60 * f x j)))), _, .inl ?_, q ++ [j], by rw [hq]; simp, by simp_arith! [h0], by simp_arith! [h1], by simp_arith! [h2], by simp_arith! [h3], by simp_arith! [h4], by simp_arith! [hl], rfl⟩
      rw [List.map_append, List.map_append, List.map_append, ← List.append_assoc, List.map_cons, List.map_nil, List.map_cons, List.map_nil, List.map_cons, List.map_nil]
      simp_arith! [h0, h1, h2, h3, h4, hl, fIx_range hi, fIx_range hj]
      rw [← fr_int]
      simp_arith! [law_minus_t ww, h2, hl, litems_last, fIx_fr0, fIx_fr1, ab.1, ab.2, ap]
      rfl)
    rw [List.append_nil] at hq
    subst hq
    exact ⟨_, _, .inl rfl, x + 1, hd, k0, k1, k2, kl, by rw [flat_succ, List.map_append, List.map_append, hP]⟩)
  have := range_end hd
  subst this
  simp_arith! [k2]
  rfl
end Lw87
namespace Lw87
open PySem PD
variable {st : Sto}
/-! ### what a way asks for -/
def ask (f : Nat → Nat → Int) (w : List Nat) : Int := (f (w.headD 0) (lastN w) - wsum f w) * (60 / (w.length : Int))
theorem ask_60 (x : Int) {l : Nat} (h1 : 1 ≤ l) (h2 : l ≤ 6) : x * 60 = x * (60 / (l : Int)) * (l : Int) := by
  have e : (60 / (l : Int)) * (l : Int) = 60 := by
    rcases (show l = 1 ∨ l = 2 ∨ l = 3 ∨ l = 4 ∨ l = 5 ∨ l = 6 by omega) with rfl | rfl | rfl | rfl | rfl | rfl <;> rfl
  rw [Int.mul_assoc, e]
theorem way_nums {n : Nat} {w : List Nat} (wn : w ≠ []) (w3 : ∀ x ∈ w, x < n) : w.headD 0 < n ∧ lastN w < n := by
  cases w with
  | nil => exact absurd rfl wn
  | cons a r => exact ⟨w3 a List.mem_cons_self, w3 _ (lastN_mem a r)⟩
theorem lack_of_t (hw : WF st) {n : Nat} (n7 : n ≤ 7) (f : Nat → Nat → Int) {w : List Nat} (wn : w ≠ []) (wl : w.length ≤ 6) (w3 : ∀ x ∈ w, x < n) : F_lack_of [tabT n f, nats w] st = .ok (fr (ask f w)) st := defFin_v hw (fz_fr _ _) (by
  have z2 := sizeLine_eq
  have w0 : 1 ≤ w.length := List.length_pos_iff.mpr wn
  obtain ⟨w5, w6⟩ := way_nums wn w3
  have k0 : (startD 5 [tabT n f, nats w])[0]? = some (some (tabT n f)) := rfl
  have k1 : (startD 5 [tabT n f, nats w])[1]? = some (some (nats w)) := rfl
  have k : (startD 5 [tabT n f, nats w]).length = 5 := rfl
  generalize startD 5 [tabT n f, nats w] = ρ at k0 k1 k
  unfold b_lack_of
  rw [qSeq_e, qSet_e, sLC_map (dy := none) (w.zip w.tail) (fun q : Nat × Nat => D.tpl [.int (q.1 : Int), .int (q.2 : Int)]) (fun q => D.int (f q.1 q.2)) (by
    simp only [iZip_e]
    simp_arith! [k1, cut_1, List.drop_one, ← List.map_tail, zip_map]) (still_none _ _) (by rw [List.length_zip]; omega) fun q hq => ⟨_, rfl, by
    have q1 : q.1 < n := w3 _ (List.of_mem_zip hq).1
    have q2 : q.2 < n := w3 _ (List.mem_of_mem_tail (List.of_mem_zip hq).2)
    simp_arith! [k, k0, fIx_range q1, fIx_range q2]⟩]
  have bs := bSum_map (fun q : Nat × Nat => f q.1 q.2) (w.zip w.tail) st
  rw [wsum_zip] at bs
  have zl : (w.zip w.tail).length = w.length - 1 := by rw [List.length_zip, List.length_tail]; omega
  have ef : (((w.length - 1 : Nat) : Int) + 1) = (w.length : Int) := by omega
  have sh := share_t hw (t := f (w.headD 0) (lastN w) - wsum f w) (b := (w.length : Int)) (x := ask f w) (by omega) (by omega) (ask_60 _ w0 wl)
  simp_arith! [k, k0, k1, bs, fIx_head wn, fIx_lastN wn, fIx_range w5, fIx_range w6, zl, ef, sh])
theorem law_ask_t (hw : WF st) {n : Nat} (n7 : n ≤ 7) (f : Nat → Nat → Int) {w : List Nat} (wn : w ≠ []) (wl : w.length ≤ 6) (w3 : ∀ x ∈ w, x < n) : F_law_ask [tabT n f, nats w] st = .ok (fr (ask f w)) st := defFin_v hw (fz_fr _ _) (by
  have z2 := sizeLine_eq
  have w0 : 1 ≤ w.length := List.length_pos_iff.mpr wn
  obtain ⟨w5, w6⟩ := way_nums wn w3
  have k0 : (startD 5 [tabT n f, nats w])[0]? = some (some (tabT n f)) := rfl
  have k1 : (startD 5 [tabT n f, nats w])[1]? = some (some (nats w)) := rfl
  have k : (startD 5 [tabT n f, nats w]).length = 5 := rfl
  generalize startD 5 [tabT n f, nats w] = ρ at k0 k1 k
  unfold b_law_ask
  rw [qSeq_e, qSet_e, sB_e, aCons_e, sLC_map (dy := none) (w.zip w.tail) (fun q : Nat × Nat => D.tpl [.int (q.1 : Int), .int (q.2 : Int)]) (fun q => D.int (f q.1 q.2)) (by
    simp only [iZip_e]
    simp_arith! [k1, cut_1, List.drop_one, ← List.map_tail, zip_map]) (still_none _ _) (by rw [List.length_zip]; omega) fun q hq => ⟨_, rfl, by
    have q1 : q.1 < n := w3 _ (List.of_mem_zip hq).1
    have q2 : q.2 < n := w3 _ (List.mem_of_mem_tail (List.of_mem_zip hq).2)
    simp_arith! [k, k0, fIx_range q1, fIx_range q2]⟩]
  have bs := bSum_map (fun q : Nat × Nat => f q.1 q.2) (w.zip w.tail) st
  rw [wsum_zip] at bs
  have sh := law_low_t hw (t := f (w.headD 0) (lastN w) - wsum f w) (b := (w.length : Int)) (x := ask f w) (by omega) (by omega) (ask_60 _ w0 wl)
  simp_arith! [k, k0, k1, bs, fIx_head wn, fIx_lastN wn, fIx_range w5, fIx_range w6, sh])
/-! ### all ways -/
def waysL (n t : Nat) : List (List Nat) := (List.range t).flatMap fun t => waysN n (t + 1)
theorem waysL_succ (n t : Nat) : waysL n (t + 1) = waysL n t ++ waysN n (t + 1) := flat_succ _ _
theorem mem_waysL {n t : Nat} {w : List Nat} : w ∈ waysL n t ↔ (2 ≤ w.length ∧ w.length ≤ t + 1) ∧ w.Nodup ∧ ∀ x ∈ w, x < n := by
  unfold waysL
  rw [List.mem_flatMap]
  constructor
  · rintro ⟨k, hk, h⟩
    have := List.mem_range.mp hk
    obtain ⟨h1, h2, h3⟩ := mem_waysN.mp h
    exact ⟨by omega, h2, h3⟩
  · rintro ⟨h1, h2, h3⟩
    exact ⟨w.length - 2, List.mem_range.mpr (by omega), mem_waysN.mpr ⟨by omega, h2, h3⟩⟩
theorem waysL_len {n t : Nat} (hn : n ≤ 5) (ht : t ≤ 5) : (waysL n t).length ≤ 120 * t := by
  induction t with
  | zero => simp [waysL]
  | succ t ih =>
    have := ih (by omega)
    have := ways_small hn (k := t + 1) (by omega)
    rw [waysL_succ, List.length_append]; omega
theorem fAdd_lst {xs ys : List D} {st : Sto} (h : xs.length + ys.length ≤ 16777216) : fAdd (.lst xs) (.lst ys) st = .ok (.lst (xs ++ ys)) st := by
  have z2 := sizeLine_eq
  unfold fAdd
  simp only [litems_lst]
  rw [if_pos (by omega)]
theorem law_ways_t (hw : WF st) {n : Nat} (n1 : 1 ≤ n) (n5 : n ≤ 5) : F_law_ways [.int (n : Int)] st = .ok (.lst ((waysL n (n - 1)).map nats)) st := defFin_v hw (fz_lst fun d hd => by
    obtain ⟨w, _, rfl⟩ := List.mem_map.mp hd
    exact fz_nats _ _) (by
  have z2 := sizeLine_eq
  have h0 : (startD 7 [.int (n : Int)])[0]? = some (some (.int (n : Int))) := rfl
  have hl : (startD 7 [.int (n : Int)]).length = 7 := rfl
  generalize startD 7 [.int (n : Int)] = ρ at h0 hl
  unfold b_law_ways
  simp_arith! []
  rw [sLC_map (dy := none) (List.range n) (fun x : Nat => D.int (x : Int)) (fun x : Nat => nats [x]) (iRange_n (by simp_arith! [h0])) (still_none _ _) (by simp; omega) fun x hx => ⟨_, rfl, by
    simp_arith! [hl]
    rfl⟩]
  have e0 : ((List.range n).map fun x : Nat => nats [x]) = (waysN n 0).map nats := by
    unfold waysN
    rw [List.map_map]
    rfl
  rw [e0]
  have en : ((n : Int) - 1) = ((n - 1 : Nat) : Int) := by omega
  simp_arith! []
  rw [iRange_n (n := n - 1) (by simp_arith! [h0, en])]
  simp_arith! [List.length_range]
  generalize hL : loopFor _ _ _ _ _ _ _ _ = R
  obtain ⟨ρ', st', rfl, t, hd, k0, k1, k2, kl, rfl⟩ := for_all_e hL (List.range (n - 1)) (fun i : Nat => D.int (i : Int)) rfl (by simp) (fun r ρ st' => ∃ t, List.range (n - 1) = List.range t ++ r ∧ ρ[0]? = some (some (.int (n : Int))) ∧ ρ[1]? = some (some (.lst ((waysL n t).map nats))) ∧ ρ[2]? = some (some (.lst ((waysN n t).map nats))) ∧ ρ.length = 7 ∧ st = st') (fun _ _ _ _ => still_none _ _) ⟨0, by simp, by simp_arith! [h0], by simp_arith! [hl]; rfl, by simp_arith! [hl], by simp_arith! [hl], rfl⟩ (by
    rintro x r ρ st' ⟨t, hd, h0, h1, h2, hl, rfl⟩
    obtain ⟨rfl, hi, hd⟩ := range_step hd
    have b1 := waysL_len (t := x) n5 (by omega)
    have b2 := ways_small n5 (k := x) (by omega)
    have b3 := ways_small n5 (k := x + 1) (by omega)
    refine ⟨_, rfl, ?_⟩
    simp_arith! [h2, hl, iSeq_e]
    generalize hM : loopFor _ _ _ _ _ _ _ _ = R2
    obtain ⟨ρ', st', rfl, dn, hq, k0, k1, k4, kl, rfl⟩ := for_all_e hM (waysN n x) nats rfl (by simp) (fun r ρ st' => ∃ dn, waysN n x = dn ++ r ∧ ρ[0]? = some (some (.int (n : Int))) ∧ ρ[1]? = some (some (.lst ((waysL n x).map nats))) ∧ ρ[4]? = some (some (.lst ((dn.flatMap (nextW n)).map nats))) ∧ ρ.length = 7 ∧ st = st') (fun _ _ _ _ => still_none _ _) ⟨[], rfl, by simp_arith! [h0], by simp_arith! [h1], by simp_arith! [hl]; rfl, by simp_arith! [hl], rfl⟩ (by
      rintro w r ρ st' ⟨dn, hq, h0, h1, h4, hl, rfl⟩
      have hwl : w.length ≤ 1000 := by have := (mem_waysN.mp (show w ∈ waysN n x by rw [hq]; simp)).1; omega
      have bd : (dn.flatMap (nextW n)).length + (nextW n w).length ≤ 120 := by
        have e : waysN n (x + 1) = (waysN n x).flatMap (nextW n) := rfl
        rw [e, hq, List.flatMap_append, List.flatMap_cons, List.length_append, List.length_append] at b3
        omega
      have e : ((List.range n).filter fun x => !decide (x ∈ w)).map (fun x => nats (w ++ [x])) = (nextW n w).map nats := by
        unfold nextW
        rw [List.map_map]
        rfl
      refine ⟨_, rfl, (ρ.set 5 (some (nats w))).set 4 (some (.lst (((dn ++ [w]).flatMap (nextW n)).map nats))), _, .inl ?_, dn ++ [w], by rw [hq]; simp, by simp_arith! [h0], by simp_arith! [h1], by simp_arith! [hl], by simp_arith! [hl], rfl⟩
      rw [qSet_e, s2_e]
      simp_arith! [h4]
      rw [sLC_if (dy := none) (List.range n) (fun x : Nat => D.int (x : Int)) (fun x => !decide (x ∈ w)) (fun x => nats (w ++ [x])) (iRange_n (by simp_arith! [h0])) (still_none _ _) (by simp; omega) fun x hx => ⟨_, rfl, by
        simp_arith! [hl, fNotIn_nats, fAdd_nats w x hwl]
        exact fun _ => trivial⟩, e, newL_f]
      simp_arith! [fAdd_lst (xs := (dn.flatMap (nextW n)).map nats) (ys := (nextW n w).map nats) (by rw [List.length_map, List.length_map]; omega)]
      rw [List.flatMap_append, List.map_append, List.flatMap_cons, List.flatMap_nil, List.append_nil])
    rw [List.append_nil] at hq
    subst hq
    refine ⟨_, _, .inl (by simp_arith! [k0, k1, k4, kl, fAdd_lst (xs := (waysL n x).map nats) (ys := ((waysN n x).flatMap (nextW n)).map nats) (by rw [List.length_map, List.length_map]; show _ + (waysN n (x + 1)).length ≤ _; omega)]; rfl), x + 1, hd, by simp_arith! [k0], ?_, ?_, by simp_arith! [kl], rfl⟩
    · simp_arith! [kl, waysL_succ, List.map_append]
      rfl
    · simp_arith! [kl]
      rfl)
  have := range_end hd
  subst this
  simp_arith! [k1])
end Lw87
namespace Lw87
open PySem PD
variable {st : Sto}
/-! ### the way that asks for most -/
def stepW (f : Nat → Nat → Int) (b : Int × Option (List Nat)) (w : List Nat) : Int × Option (List Nat) := if b.1 < ask f w then (ask f w, some w) else b
def bestW (f : Nat → Nat → Int) (ws : List (List Nat)) : Int × Option (List Nat) := ws.foldl (stepW f) (0, none)
theorem bestW_snoc (f : Nat → Nat → Int) (ws : List (List Nat)) (w : List Nat) : bestW f (ws ++ [w]) = stepW f (bestW f ws) w := by
  unfold bestW; rw [List.foldl_append]; rfl
theorem bestW_app (f : Nat → Nat → Int) (ws vs : List (List Nat)) : bestW f (ws ++ vs) = vs.foldl (stepW f) (bestW f ws) := by
  unfold bestW; rw [List.foldl_append]
theorem foldW (f : Nat → Nat → Int) : ∀ (ws : List (List Nat)) (b : Int × Option (List Nat)), (ws.foldl (stepW f) b).1 = (ws.map (ask f)).foldl (fun b x => if b < x then x else b) b.1
  | [], b => rfl
  | w :: ws, b => by
    rw [List.foldl_cons, List.map_cons, List.foldl_cons, foldW f ws]
    congr 1
    unfold stepW
    split <;> rfl
theorem bestW_mx (f : Nat → Nat → Int) (ws : List (List Nat)) : (bestW f ws).1 = mx (ws.map (ask f)) := foldW f ws _
def InvW (f : Nat → Nat → Int) (all : List (List Nat)) (b : Int × Option (List Nat)) : Prop := (b.2 = none ∧ b.1 = 0) ∨ ∃ w, b.2 = some w ∧ w ∈ all ∧ ask f w = b.1 ∧ 0 < b.1
theorem foldW_inv (f : Nat → Nat → Int) (all : List (List Nat)) : ∀ (ws : List (List Nat)) (b : Int × Option (List Nat)), (∀ w ∈ ws, w ∈ all) → InvW f all b → InvW f all (ws.foldl (stepW f) b)
  | [], b, _, h => h
  | w :: ws, b, hs, h => by
    rw [List.foldl_cons]
    refine foldW_inv f all ws _ (fun v hv => hs v (List.mem_cons_of_mem _ hv)) ?_
    unfold stepW
    split
    · rename_i c
      refine .inr ⟨w, rfl, hs w List.mem_cons_self, rfl, ?_⟩
      show 0 < ask f w
      rcases h with ⟨_, h⟩ | ⟨_, _, _, _, h⟩ <;> omega
    · exact h
theorem bestW_inv (f : Nat → Nat → Int) (ws : List (List Nat)) : InvW f ws (bestW f ws) := foldW_inv f ws ws _ (fun _ h => h) (.inl ⟨rfl, rfl⟩)
def bestD (b : Int × Option (List Nat)) : D := .tup [fr b.1, wayO b.2]
theorem fz_bestD (b : Int × Option (List Nat)) : Fz 60 (bestD b) := fz_tup fun d hd => by
  simp only [List.mem_cons, List.not_mem_nil, or_false] at hd
  rcases hd with rfl | rfl
  · exact fz_fr _ _
  · cases b.2 with
    | none => exact fz_non _
    | some w => exact fz_nats 58 w
/-- one round -/
def wB : SS := (qSeq (qSet 3 (sLst true aNil))
    (qSeq (qFor (iSeq (sVar 2)) (gN 4)
    (qExpr (sM fExtend (sVar 3) (sLC false (iRange1 (aCons (sB bLen (aCons (sVar 0) aNil)) aNil)) (gN 6) (tBl (s2 fNotIn (sVar 6) (sVar 4))) (s2 fAdd (sVar 4) (sTup (aCons (sVar 6) aNil))) [6]))))
    (qSeq (qSet 2 (sVar 3))
    (qFor (iSeq (sVar 2)) (gN 4)
    (qSeq (qSet 5 (sCall 2 F_lack_of (aCons (sVar 0) (aCons (sVar 4) aNil))))
    (qSet 1 (sIf (tTru (sCall 2 F_is_less (aCons (s2 fIx (sVar 1) (sC (.int 0))) (aCons (sVar 5) aNil)))) (sTup (aCons (sVar 5) (aCons (sVar 4) aNil))) (sVar 1))))))))
theorem worst_eq : b_worst_way = qSeq (qPar 1 2 (aCons (sTup (aCons (sC (.tup ([0, 1].map D.int))) (aCons (sC .non) aNil))) (aCons (sLC false (iRange1 (aCons (sB bLen (aCons (sVar 0) aNil)) aNil)) (gN 6) tYesD (sTup (aCons (sVar 6) aNil)) [6]) aNil)))
    (qSeq (qWhile (fun _ _ => 1000) (tTru (sVar 2)) wB) (qRet (sVar 1))) := rfl
theorem noRef_ways (ws : List (List Nat)) (m : Nat) : noRefO m (.lst (ws.map nats)) = true := noRefs_all fun d hd => by
  obtain ⟨w, _, rfl⟩ := List.mem_map.mp hd
  exact noRefs_all fun d hd => by
    obtain ⟨x, _, rfl⟩ := List.mem_map.mp hd
    rfl
theorem worst_round {S : Sto} (hw : WF S) {n : Nat} (n5 : n ≤ 5) (f : Nat → Nat → Int) {t : Nat} (ht : t < n) {ρ : Ev} {x : D} (h0 : ρ[0]? = some (some (tabT n f))) (h1 : ρ[1]? = some (some (bestD (bestW f (waysL n t))))) (h2 : ρ[2]? = some (some x)) (hl : ρ.length = 7)
    (hx : ∀ ex, items (S ++ ex) x = some ((waysN n t).map nats) ∧ Still (dynOf x) ((waysN n t).map nats) (S ++ ex)) :
    ∃ ρ', wB ρ S = some (.nx ρ', S ++ [.lst ((waysN n (t + 1)).map nats)]) ∧ ρ'[0]? = some (some (tabT n f)) ∧ ρ'[1]? = some (some (bestD (bestW f (waysL n (t + 1))))) ∧ ρ'[2]? = some (some (.ref S.length)) ∧ ρ'.length = 7 := by
  have z2 := sizeLine_eq
  have b2 := ways_small n5 (k := t) (by omega)
  have b3 := ways_small n5 (k := t + 1) (by omega)
  unfold wB
  simp_arith! [hl, h2, iSeq_e, (hx [.lst []]).1]
  generalize hM : loopFor _ _ _ _ _ _ _ _ = R2
  obtain ⟨ρ', st', rfl, dn, hq, k0, k1, k3, kl, rfl⟩ := for_all_e hM (waysN n t) nats rfl (by simp) (fun r ρ st' => ∃ dn, waysN n t = dn ++ r ∧ ρ[0]? = some (some (tabT n f)) ∧ ρ[1]? = some (some (bestD (bestW f (waysL n t)))) ∧ ρ[3]? = some (some (.ref S.length)) ∧ ρ.length = 7 ∧ st' = S ++ [.lst ((dn.flatMap (nextW n)).map nats)]) (fun r ρ st' ⟨dn, _, _, _, _, _, e⟩ => by rw [e]; exact (hx _).2) ⟨[], rfl, by simp_arith! [h0], by simp_arith! [h1], by simp_arith! [hl], by simp_arith! [hl], rfl⟩ (by
    rintro w r ρ st' ⟨dn, hq, h0, h1, h3, hl, rfl⟩
    have hwl : w.length ≤ 1000 := by have := (mem_waysN.mp (show w ∈ waysN n t by rw [hq]; simp)).1; omega
    have bd : (dn.flatMap (nextW n)).length + (nextW n w).length ≤ 120 := by
      have e : waysN n (t + 1) = (waysN n t).flatMap (nextW n) := rfl
      rw [e, hq, List.flatMap_append, List.flatMap_cons, List.length_append, List.length_append] at b3
      omega
    have e : ((List.range n).filter fun x => !decide (x ∈ w)).map (fun x => nats (w ++ [x])) = (nextW n w).map nats := by
      unfold nextW
      rw [List.map_map]
      rfl
    refine ⟨_, rfl, ρ.set 4 (some (nats w)), _, .inl ?_, dn ++ [w], by rw [hq]; simp, by simp_arith! [h0], by simp_arith! [h1], by simp_arith! [h3], by simp_arith! [hl], rfl⟩
    rw [qExpr_e, sM_e]
    simp_arith! [h3, litems_last]
    rw [sLC_if (dy := none) (List.range n) (fun x : Nat => D.int (x : Int)) (fun x => !decide (x ∈ w)) (fun x => nats (w ++ [x])) (iRange_n (by simp_arith! [h0, List.length_range])) (still_none _ _) (by simp; omega) fun x hx => ⟨_, rfl, by
      simp_arith! [hl, fNotIn_nats, fAdd_nats w x hwl]
      exact fun _ => trivial⟩, e, newL_f]
    simp_arith! [fExtend_at (S := S) (xs := (dn.flatMap (nextW n)).map nats) (ys := (nextW n w).map nats) (by rw [List.length_map, List.length_map]; omega)]
    rw [List.flatMap_append, List.map_append, List.flatMap_cons, List.flatMap_nil, List.append_nil])
  rw [List.append_nil] at hq
  subst hq
  clear hM
  have eN : (waysN n t).flatMap (nextW n) = waysN n (t + 1) := rfl
  rw [eN]
  have ww : WF (S ++ [.lst ((waysN n (t + 1)).map nats)]) := hw.app (noRef_ways _ _)
  simp_arith! [k3, kl, iSeq_e, items_ref (sto_get1 _ _)]
  generalize hM : loopFor _ _ _ _ _ _ _ _ = R2
  obtain ⟨ρ', st', rfl, dn, hq, k0, k1, k2, kl, rfl⟩ := for_all_e hM (waysN n (t + 1)) nats rfl (by simp) (fun r ρ st' => ∃ dn, waysN n (t + 1) = dn ++ r ∧ ρ[0]? = some (some (tabT n f)) ∧ ρ[1]? = some (some (bestD (bestW f (waysL n t ++ dn)))) ∧ ρ[2]? = some (some (.ref S.length)) ∧ ρ.length = 7 ∧ st' = S ++ [.lst ((waysN n (t + 1)).map nats)]) (fun r ρ st' ⟨dn, _, _, _, _, _, e⟩ => by rw [e]; exact sto_get1 _ _) ⟨[], rfl, by simp_arith! [k0], by simp_arith! [k1, List.append_nil], by simp_arith! [kl], by simp_arith! [kl], rfl⟩ (by
    rintro w r ρ st' ⟨dn, hq, h0, h1, h2, hl, rfl⟩
    obtain ⟨w1, w2, w3⟩ := mem_waysN.mp (show w ∈ waysN n (t + 1) by rw [hq]; simp)
    have wn : w ≠ [] := fun e => by rw [e] at w1; cases w1
    have lk := lack_of_t ww (by omega) f wn (by omega) w3
    refine ⟨_, rfl, ((ρ.set 4 (some (nats w))).set 5 (some (fr (ask f w)))).set 1 (some (bestD (bestW f (waysL n t ++ (dn ++ [w]))))), _, .inl ?_, dn ++ [w], by rw [hq]; simp, by simp_arith! [h0], by simp_arith! [hl], by simp_arith! [h2], by simp_arith! [hl], rfl⟩
    rw [← List.append_assoc, bestW_snoc]
    generalize bestW f (waysL n t ++ dn) = b at h1 ⊢
    have i0 : ∀ st, fIx (bestD b) (.int 0) st = .ok (fr b.1) st := fun st => fIx_tup (i := 0) rfl
    simp_arith! [h0, h1, h2, hl, lk, i0, is_less_t ww]
    unfold stepW
    by_cases c : b.1 < ask f w
    · rw [if_pos c]; simp only [c]; simp_arith! [hl]; rfl
    · rw [if_neg c]; simp only [c]; simp_arith! [hl, h1])
  rw [List.append_nil] at hq
  subst hq
  exact ⟨ρ', rfl, k0, by rw [waysL_succ]; exact k1, k2, kl⟩
theorem waysN_ne {n t : Nat} (h : t < n) : waysN n t ≠ [] := fun e => by
  have : List.range (t + 1) ∈ waysN n t := mem_waysN.mpr ⟨by simp, List.nodup_range, fun x hx => by have := List.mem_range.mp hx; omega⟩
  rw [e] at this
  cases this
theorem waysN_nil (n : Nat) : waysN n n = [] := by
  rcases h : waysN n n with _ | ⟨w, r⟩
  · rfl
  · obtain ⟨h1, h2, h3⟩ := mem_waysN.mp (show w ∈ waysN n n by rw [h]; simp)
    have := nodup_len h2 h3
    omega
theorem worst_loop {n : Nat} (n5 : n ≤ 5) (f : Nat → Nat → Int) : ∀ (k t fuel : Nat) (S : Sto) (ρ : Ev) (x : D), WF S → t + k = n → k < fuel → ρ[0]? = some (some (tabT n f)) → ρ[1]? = some (some (bestD (bestW f (waysL n t)))) → ρ[2]? = some (some x) → ρ.length = 7 →
    (∀ ex, items (S ++ ex) x = some ((waysN n t).map nats) ∧ Still (dynOf x) ((waysN n t).map nats) (S ++ ex)) → truD S x = some (!((waysN n t).map nats).isEmpty) →
    ∃ ρ' ex, loopWhile (tTru (sVar 2)) wB fuel ρ S = some (.nx ρ', S ++ ex) ∧ ρ'[1]? = some (some (bestD (bestW f (waysL n n))))
  | k, t, 0, S, ρ, x, hw, e, hf, h0, h1, h2, hl, hx, tr => absurd hf (by omega)
  | 0, t, fuel + 1, S, ρ, x, hw, e, hf, h0, h1, h2, hl, hx, tr => by
    have : t = n := by omega
    subst this
    refine ⟨ρ, [], ?_, h1⟩
    rw [waysN_nil] at tr
    rw [loopWhile, tTru_e]
    simp_arith! [h2, tr]
    simp
  | k + 1, t, fuel + 1, S, ρ, x, hw, e, hf, h0, h1, h2, hl, hx, tr => by
    have ht : t < n := by omega
    obtain ⟨ρ1, q, k0, k1, k2, kl⟩ := worst_round hw n5 f ht h0 h1 h2 hl hx
    have ne := waysN_ne ht
    have te : ((waysN n t).map nats).isEmpty = false := by
      cases h : waysN n t with
      | nil => exact absurd h ne
      | cons a r => rfl
    rw [te] at tr
    obtain ⟨ρ', ex, q2, q3⟩ := worst_loop n5 f k (t + 1) fuel (S ++ [.lst ((waysN n (t + 1)).map nats)]) ρ1 (.ref S.length) (hw.app (noRef_ways _ _)) (by omega) (by omega) k0 k1 k2 kl (fun ex => by
      have g : (S ++ [MO.lst ((waysN n (t + 1)).map nats)] ++ ex)[S.length]? = some (.lst ((waysN n (t + 1)).map nats)) := by
        rw [List.getElem?_append_left (by simp)]
        exact sto_get1 _ _
      exact ⟨items_ref g, g⟩) (by
      show (match (S ++ [MO.lst ((waysN n (t + 1)).map nats)])[S.length]? with | some (.lst xs) => some (!xs.isEmpty) | _ => none) = _
      rw [sto_get1])
    refine ⟨ρ', [.lst ((waysN n (t + 1)).map nats)] ++ ex, ?_, q3⟩
    rw [loopWhile, tTru_e]
    simp_arith! [h2, tr, q, q2]
    rw [List.append_assoc]
theorem worst_way_t (hw : WF st) {n : Nat} (n1 : 1 ≤ n) (n5 : n ≤ 5) (f : Nat → Nat → Int) : F_worst_way [tabT n f] st = .ok (bestD (bestW f (waysL n (n - 1)))) st := by
  have body : ∃ ex, b_worst_way (startD 7 [tabT n f]) st = some (.rt (bestD (bestW f (waysL n (n - 1)))), st ++ ex) := by
    have z2 := sizeLine_eq
    have h0 : (startD 7 [tabT n f])[0]? = some (some (tabT n f)) := rfl
    have hl : (startD 7 [tabT n f]).length = 7 := rfl
    generalize startD 7 [tabT n f] = ρ at h0 hl
    rw [worst_eq, ← fr_zero]
    simp_arith! []
    rw [sLC_map (dy := none) (List.range n) (fun x : Nat => D.int (x : Int)) (fun x : Nat => nats [x]) (iRange_n (by simp_arith! [h0, List.length_range])) (still_none _ _) (by simp; omega) fun x hx => ⟨_, rfl, by
      simp_arith! [hl]
      rfl⟩]
    have e0 : ((List.range n).map fun x : Nat => nats [x]) = (waysN n 0).map nats := by
      unfold waysN
      rw [List.map_map]
      rfl
    rw [e0]
    obtain ⟨ρ', ex, q1, q2⟩ := worst_loop n5 f n 0 1000 st ((ρ.set 1 (some (bestD (0, none)))).set 2 (some (.lst ((waysN n 0).map nats)))) (.lst ((waysN n 0).map nats)) hw (by omega) (by omega) (by simp_arith! [h0]) (by simp_arith! [hl]; rfl) (by simp_arith! [hl]) (by simp_arith! [hl]) (fun ex => ⟨rfl, still_none _ _⟩) rfl
    have eb : D.tup [fr 0, .non] = bestD (0, none) := rfl
    refine ⟨ex, ?_⟩
    have eL : waysL n n = waysL n (n - 1) := by
      obtain ⟨m, rfl⟩ : ∃ m, n = m + 1 := ⟨n - 1, by omega⟩
      rw [waysL_succ, waysN_nil, List.append_nil]
      rfl
    rw [eL] at q2
    simp_arith! [eb]
    rw [qWhile, q1]
    simp_arith! [q2]
  obtain ⟨ex, h⟩ := body
  exact defFin_rt h rfl hw (fz_bestD _ _ _)
end Lw87
namespace Lw87
open PySem PD
variable {st : Sto}
/-! ### the shortest ways, of fractions -/
abbrev frG (f : Nat → Nat → Int) : Nat → Nat → D := fun a b => fr (f a b)
theorem updG_fr (f : Nat → Nat → Int) (i j : Nat) (v : Int) : updG (frG f) i j (fr v) = frG (upd1 f i j v) := by
  funext a b
  unfold updG frG upd1
  split <;> rfl
theorem noRef_frG (f : Nat → Nat → Int) : ∀ a b m, noRef m (frG f a b) = true := fun _ _ _ => rfl
theorem rows_alloc {ρ : Ev} (n : Nat) (f : Nat → Nat → Int) {x : D} {st : Sto} (h0 : ρ[0]? = some (some x)) (hx : items st x = some ((List.range n).map fun i => .lst ((List.range n).map fun j => fr (f i j)))) (hx2 : dynOf x = none ∨ ∃ l, x = .ref l ∧ st[l]? = some (.lst ((List.range n).map fun i => .lst ((List.range n).map fun j => fr (f i j))))) (hn : n ≤ 1000) (hl : 2 < ρ.length) :
    sLC false (iSeq (sVar 0)) (gN 2) tYesD (sB (bList true) (aCons (sVar 2) aNil)) [2] ρ st = .ok (.lst ((List.range n).map fun k => D.ref (st.length + k))) (st ++ (List.range n).map fun a => MO.lst (rowG n (frG f a))) := by
  have z2 := sizeLine_eq
  have go : ∀ (dy : Dy), (∀ ex, Still dy ((List.range n).map fun i => .lst ((List.range n).map fun j => fr (f i j))) (st ++ ex)) → ∀ (k i : Nat) (ex : Sto), i + k = n → loopLC dy n (gN 2) tYesD (sB (bList true) (aCons (sVar 2) aNil)) (wipeD ρ [2]) i (((List.range n).map fun i => D.lst ((List.range n).map fun j => fr (f i j))).drop i) (st ++ ex) =
      .ok ((List.range k).map fun a => D.ref ((st ++ ex).length + a)) (st ++ ex ++ (List.range k).map fun a => MO.lst (rowG n (frG f (i + a)))) := by
    intro dy hs k
    induction k with
    | zero =>
      intro i ex e
      have : i = n := by omega
      subst this
      rw [List.drop_eq_nil_of_le (by simp)]
      have := (hs ex).fin
      simp only [List.length_map, List.length_range] at this
      simp [loopLC, this]
    | succ k ih =>
      intro i ex e
      have hi : i < n := by omega
      have gi : ((List.range n).map fun i => D.lst ((List.range n).map fun j => fr (f i j)))[i]? = some (D.lst (rowG n (frG f i))) := by
        rw [List.getElem?_map, List.getElem?_range hi]; rfl
      obtain ⟨hlt, gv⟩ := List.getElem?_eq_some_iff.mp gi
      rw [List.drop_eq_getElem_cons hlt, loopLC, gv, (hs ex).fetch gi]
      have q := ih (i + 1) (ex ++ [.lst (rowG n (frG f i))]) (by omega)
      rw [← List.append_assoc] at q
      have el : sB (bList true) (aCons (sVar 2) aNil) ((wipeD ρ [2]).set 2 (some (.lst (rowG n (frG f i))))) (st ++ ex) = .ok (.ref (st ++ ex).length) (st ++ ex ++ [.lst (rowG n (frG f i))]) := by
        simp_arith! [hl]
        rfl
      simp only [gN_e, tYesD_e, nx_ok, bind_ok, if_true, el, q]
      congr 1
      · rw [List.range_succ_eq_map, List.map_cons, List.map_map]
        congr 1
        refine List.map_congr_left fun a _ => ?_
        show D.ref _ = D.ref _
        congr 1
        simp only [List.length_append, List.length_singleton, Nat.succ_eq_add_one]
        omega
      · rw [List.range_succ_eq_map, List.map_cons, List.map_map, List.append_assoc]
        congr 1
        show _ :: _ = _ :: _
        congr 1
        refine List.map_congr_left fun a _ => ?_
        show MO.lst (rowG n (frG f _)) = MO.lst (rowG n (frG f _))
        rw [show i + 1 + a = i + (a + 1) by omega]
  unfold sLC
  have it : iSeq (sVar 0) ρ st = .ok ((List.range n).map fun i => .lst ((List.range n).map fun j => fr (f i j)), dynOf x) st := by
    simp_arith! [iSeq_e, h0, hx]
  rw [it]
  simp only [bind_ok, List.length_map, List.length_range]
  rw [if_pos (by omega)]
  have s : ∀ ex, Still (dynOf x) ((List.range n).map fun i => .lst ((List.range n).map fun j => fr (f i j))) (st ++ ex) := fun ex => by
    rcases hx2 with e | ⟨l, rfl, e⟩
    · rw [e]; exact still_none _ _
    · exact still_some (by rw [List.getElem?_append_left (List.getElem?_eq_some_iff.mp e).1]; exact e)
  have q := go (dynOf x) s n 0 [] (by omega)
  rw [List.append_nil, List.drop_zero] at q
  rw [q]
  simp
theorem shortest_shares_t (hw : WF st) {n : Nat} (hn : n ≤ 1000) {f : Nat → Nat → Int} (hf : Met n f) {x : D} (hx : items st x = some ((List.range n).map fun i => .lst ((List.range n).map fun j => fr (f i j)))) (hx2 : dynOf x = none ∨ ∃ l, x = .ref l ∧ st[l]? = some (.lst ((List.range n).map fun i => .lst ((List.range n).map fun j => fr (f i j))))) : F_shortest_shares [x] st = .ok (tabF n (fw f n)) st := by
  have z2 := sizeLine_eq
  have body : b_shortest_shares (startD 6 [x]) st = some (.rt (tabF n (fw f n)), st ++ rowsG n (frG (fw f n))) := by
    have h0 : (startD 6 [x])[0]? = some (some x) := rfl
    have hl : (startD 6 [x]).length = 6 := rfl
    generalize startD 6 [x] = ρ at h0 hl
    unfold b_shortest_shares
    rw [qSeq_e, qSet_e]
    rw [rows_alloc n f (by simp_arith! [h0]) hx hx2 (by omega) (by rw [hl]; decide)]
    rw [show ((List.range n).map fun a => MO.lst (rowG n (frG f a))) = rowsG n (frG f) from rfl]
    simp_arith! [List.length_range]
    rw [iRange_n (n := n) (by simp_arith! [hl, List.length_range])]
    simp_arith! []
    generalize hL : loopFor _ _ _ _ _ _ _ _ = R
    obtain ⟨ρ', st', rfl, m, hd, kl, k1, rfl⟩ := for_all_e hL (List.range n) (fun i : Nat => D.int (i : Int)) rfl (by simp) (fun r ρ st' => ∃ m, List.range n = List.range m ++ r ∧ ρ.length = 6 ∧ ρ[0]? = some (some (refsL st.length n)) ∧ st' = st ++ rowsG n (frG (fw f m))) (fun _ _ _ _ => still_none _ _) ⟨0, by simp, by simp_arith! [hl], by simp_arith! [hl], rfl⟩ (by
      rintro m r ρ st' ⟨m', hd, kl, k1, rfl⟩
      obtain ⟨rfl, hm, hd⟩ := range_step hd
      have mt := hf.fw m (by omega)
      refine ⟨_, rfl, ?_⟩
      generalize hM : qFor _ _ _ _ _ = R2
      simp_arith! [kl, k1, iSeq_e] at hM
      obtain ⟨ρ', st', rfl, i, f2, hd2, hf2, jl, j1, j2, rfl⟩ := for_all_e hM (List.range n) (fun a => D.ref (st.length + a)) rfl (by simp) (fun r ρ st' => ∃ i f2, List.range n = List.range i ++ r ∧ Pass (fw f m) n m i 0 f2 ∧ ρ.length = 6 ∧ ρ[0]? = some (some (refsL st.length n)) ∧ ρ[1]? = some (some (.int (m : Int))) ∧ st' = st ++ rowsG n (frG f2)) (fun _ _ _ _ => still_none _ _) ⟨0, fw f m, by simp, ⟨fun a b ha hb => by rw [if_neg (by omega)]⟩, by simp_arith! [kl], by simp_arith! [k1], by simp_arith! [kl], rfl⟩ (by
        rintro i r2 ρ st' ⟨i', f2, hd2, hf2, jl, j1, j2, rfl⟩
        obtain ⟨rfl, hi, hd2⟩ := range_step hd2
        refine ⟨_, rfl, ?_⟩
        generalize hN : qFor _ _ _ _ _ = R3
        have ie : ∀ f3 : Nat → Nat → Int, iEnum (aCons (s2 fIx (sVar 0) (sVar 1)) aNil) (ρ.set 2 (some (.ref (st.length + i)))) (st ++ rowsG n (frG f3)) = .ok ((List.range n).map fun j : Nat => D.tpl [.int (j : Int), fr (f3 m j)], some (.inr (st.length + m))) (st ++ rowsG n (frG f3)) := fun f3 => by
          simp_arith! [iEnum_e, jl, j1, j2, fIx_refs hm, rowsG_get (frG f3) st hm, enum_range]
        rw [qFor_e, ie] at hN
        simp_arith! [] at hN
        obtain ⟨ρ', st', rfl, j, f3, hd3, hf3, il, i1, i2, i3, rfl⟩ := for_all_e hN (List.range n) (fun j : Nat => D.tpl [.int (j : Int), fr (fw f m m j)]) (by
            refine List.map_congr_left fun j hj => ?_
            rw [hf2.mj mt hm (List.mem_range.mp hj)]) (by simp) (fun r ρ st' => ∃ j f3, List.range n = List.range j ++ r ∧ Pass (fw f m) n m i j f3 ∧ ρ.length = 6 ∧ ρ[0]? = some (some (refsL st.length n)) ∧ ρ[1]? = some (some (.int (m : Int))) ∧ ρ[2]? = some (some (.ref (st.length + i))) ∧ st' = st ++ rowsG n (frG f3)) (fun r ρ st' ⟨j, f3, _, hf3, _, _, _, _, e⟩ => by
            subst e
            have := enum_still (φ := frG f3 m) (rowsG_get (frG f3) st hm)
            have e2 : ((List.range n).map fun j : Nat => D.tpl [.int (j : Int), frG f3 m j]) = (List.range n).map fun j : Nat => D.tpl [.int (j : Int), fr (fw f m m j)] := List.map_congr_left fun j hj => by
              show D.tpl [_, fr (f3 m j)] = _
              rw [hf3.mj mt hm (List.mem_range.mp hj)]
            rw [e2] at this
            exact this) ⟨0, f2, by simp, hf2, by simp_arith! [jl], by simp_arith! [j1], by simp_arith! [j2], by simp_arith! [jl], rfl⟩ (by
          rintro j r3 ρ st' ⟨j', f3, hd3, hf3, il, i1, i2, i3, rfl⟩
          obtain ⟨rfl, hj, hd3⟩ := range_step hd3
          have e1 := hf3.im mt hm hi
          have e3 : f3 i j = fw f m i j := by rw [hf3.at_ i j hi hj, if_neg (by omega)]
          have nx := hf3.next mt hm hi hj
          rw [hf3.mj mt hm hj] at nx
          have ww : WF (st ++ rowsG n (frG f3)) := wf_rowsG hw (noRef_frG f3)
          refine ⟨_, rfl, ((ρ.set 3 (some (.int (j : Int)))).set 4 (some (fr (fw f m m j)))).set 5 (some (fr (f3 i m + fw f m m j))), st ++ rowsG n (frG (upd1 f3 i j (if f3 i m + fw f m m j < f3 i j then f3 i m + fw f m m j else f3 i j))), .inl ?_, j + 1, _, hd3, nx, by simp_arith! [il], by simp_arith! [i1], by simp_arith! [i2], by simp_arith! [i3], rfl⟩
          simp_arith! [il, i1, i2, i3, fIx_rowG hi hj, fIx_rowG hi hm, plus_t ww, is_less_t ww]
          by_cases c : f3 i m + fw f m m j < f3 i j
          · simp only [c, decide_true]
            simp_arith! [il, i1, i2, i3, fIx_rowG hi hj, fSetIx_rowG hi hj, updG_fr]
          · simp only [c, decide_false]
            simp_arith! [il, i1, i2, i3, fIx_rowG hi hj, fSetIx_rowG hi hj, updG_fr])
        have := range_end hd3
        subst this
        exact ⟨_, _, .inl rfl, i + 1, f3, hd2, hf3.up, il, i1, i2, rfl⟩)
      have := range_end hd2
      subst this
      refine ⟨_, _, .inl rfl, m + 1, hd, jl, j1, ?_⟩
      rw [rowsG_congr (F := frG f2) (G := frG (fw f (m + 1))) fun a b ha hb => by
        show fr _ = fr _
        rw [hf2.fin a b ha hb]
        rfl])
    have := range_end hd
    subst this
    simp_arith! []
    rw [tup_rowsG hn k1 (by rw [kl]; decide)]
    simp_arith! []
  exact defFin_rt body rfl hw (fz_tabF 57 _ _ _ _)
end Lw87
namespace Lw87
open PySem PD
variable {st : Sto}
/-! ### the table raised, and closed -/
def rz (f : Nat → Nat → Int) (T : Int) : Nat → Nat → Int := fun i j => if i = j then 0 else 60 * f i j + T
theorem rz_met {n : Nat} {f : Nat → Nat → Int} {T : Int} (h0 : 0 ≤ T) (hf : ∀ i j, i < n → j < n → 0 ≤ f i j) : Met n (rz f T) := ⟨fun a _ => by unfold rz; rw [if_pos rfl], fun a b ha hb => by
  have := hf a b ha hb
  unfold rz
  split <;> omega⟩
theorem raised_by_t (hw : WF st) {n : Nat} (n7 : n ≤ 7) {f : Nat → Nat → Int} {T : Int} (hm : Met n (rz f T)) : F_raised_by [tabT n f, fr T] st = .ok (tabF n (fw (rz f T) n)) st := by
  have body : b_raised_by (startD 7 [tabT n f, fr T]) st = some (.rt (tabF n (fw (rz f T) n)), st ++ [.lst ((List.range n).map fun i => .lst ((List.range n).map fun j => fr (rz f T i j)))]) := by
    have z2 := sizeLine_eq
    have h0 : (startD 7 [tabT n f, fr T])[0]? = some (some (tabT n f)) := rfl
    have h1 : (startD 7 [tabT n f, fr T])[1]? = some (some (fr T)) := rfl
    have hl : (startD 7 [tabT n f, fr T]).length = 7 := rfl
    generalize startD 7 [tabT n f, fr T] = ρ at h0 h1 hl
    unfold b_raised_by
    simp_arith! [iEnum_e, h0, enum_range, List.length_range]
    generalize hL : loopFor _ _ _ _ _ _ _ _ = R
    have nr : ∀ l : List Nat, ∀ d ∈ l.map (fun i => D.lst ((List.range n).map fun j => fr (rz f T i j))), ∀ m, noRef m d = true := fun l d hd m => by
      obtain ⟨i, _, rfl⟩ := List.mem_map.mp hd
      exact noRefs_all fun d hd => by
        obtain ⟨j, _, rfl⟩ := List.mem_map.mp hd
        rfl
    obtain ⟨ρ', st', rfl, i, hd, k0, k1, k2, kl, rfl⟩ := for_all_e hL (List.range n) (fun i : Nat => D.tpl [.int (i : Int), rowT n f i]) rfl (by simp) (fun r ρ st' => ∃ i, List.range n = List.range i ++ r ∧ ρ[0]? = some (some (tabT n f)) ∧ ρ[1]? = some (some (fr T)) ∧ ρ[2]? = some (some (.ref st.length)) ∧ ρ.length = 7 ∧ st' = st ++ [.lst ((List.range i).map fun i => .lst ((List.range n).map fun j => fr (rz f T i j)))]) (fun _ _ _ _ => still_none _ _) ⟨0, by simp, by simp_arith! [h0], by simp_arith! [h1], by simp_arith! [hl], by simp_arith! [hl], rfl⟩ (by
      rintro x r ρ st' ⟨i, hd, h0, h1, h2, hl, rfl⟩
      obtain ⟨rfl, hi, hd⟩ := range_step hd
      have ww : WF (st ++ [.lst ((List.range x).map fun i => .lst ((List.range n).map fun j => fr (rz f T i j)))]) := hw.app (noRefs_all fun d hd => nr _ d hd _)
      refine ⟨_, rfl, (ρ.set 3 (some (.int (x : Int)))).set 4 (some (rowT n f x)), _, .inl ?_, x + 1, hd, by simp_arith! [h0], by simp_arith! [h1], by simp_arith! [h2], by simp_arith! [hl], rfl⟩
      simp_arith! [h2, hl, litems_last]
      rw [sLC_map (dy := none) (List.range n) (fun j : Nat => D.tpl [.int (j : Int), .int (f x j)]) (fun j => fr (rz f T x j)) (by simp_arith! [iEnum_e, hl, enum_range]) (still_none _ _) (by simp; omega) fun j hj => ⟨_, rfl, by
        have hj := List.mem_range.mp hj
        unfold rz
        by_cases c : x = j
        · subst c
          simp_arith! [hl, h1, h2]
          rw [fr_zero]
        · have c2 : decide ((x : Int) = (j : Int)) = false := decide_eq_false (by omega)
          rw [if_neg c]
          simp_arith! [hl, h1, h2, c2]
          rw [← fr_int]
          exact plus_t ww _ _⟩]
      simp_arith! [fAppend_last (S := st) (ws := (List.range x).map fun i => .lst ((List.range n).map fun j => fr (rz f T i j))) (w := .lst ((List.range n).map fun j => fr (rz f T x j))) (by rw [List.length_map, List.length_range]; omega)]
      rw [List.range_succ, List.map_append]
      rfl)
    have := range_end hd
    subst this
    have ww : WF (st ++ [.lst ((List.range i).map fun i' => .lst ((List.range i).map fun j => fr (rz f T i' j)))]) := hw.app (noRefs_all fun d hd => nr _ d hd _)
    have sh := shortest_shares_t ww (n := i) (by omega) hm (x := .ref st.length) (items_ref (sto_get1 _ _)) (.inr ⟨_, rfl, sto_get1 _ _⟩)
    simp_arith! [k2, sh]
  exact defFin_rt body rfl hw (fz_tabF 57 _ _ _ _)
/-- what nearest_mend tells -/
def toldD (n : Nat) (F : Nat → Nat → Int) (b : Int × Option (List Nat)) : D := .tup [fr b.1, tabF n F, wayO b.2]
theorem fz_toldD (n : Nat) (F : Nat → Nat → Int) (b : Int × Option (List Nat)) : Fz 60 (toldD n F b) := fz_tup fun d hd => by
  simp only [List.mem_cons, List.not_mem_nil, or_false] at hd
  rcases hd with rfl | rfl | rfl
  · exact fz_fr _ _
  · exact fz_tabF 56 _ _
  · cases b.2 with
    | none => exact fz_non _
    | some w => exact fz_nats 58 w
theorem nearest_mend_t (hw : WF st) {n : Nat} (n5 : n ≤ 5) {f : Nat → Nat → Int} (v : TabP n f) : F_nearest_mend [tabT n f] st = .ok (toldD n (fw (rz f (bestW f (waysL n (n - 1))).1) n) (bestW f (waysL n (n - 1)))) st := defFin_v hw (fz_toldD _ _ _) (by
  have z2 := sizeLine_eq
  have h0 : (startD 3 [tabT n f])[0]? = some (some (tabT n f)) := rfl
  have hl : (startD 3 [tabT n f]).length = 3 := rfl
  generalize startD 3 [tabT n f] = ρ at h0 hl
  have b0 : 0 ≤ (bestW f (waysL n (n - 1))).1 := by rw [bestW_mx]; exact mx_nn _
  have ww := worst_way_t hw v.n1 n5 f
  generalize bestW f (waysL n (n - 1)) = b at b0 ww ⊢
  unfold bestD at ww
  unfold b_nearest_mend
  simp_arith! [h0, hl, check_table_T hw v, ww]
  simp_arith! [h0, hl, raised_by_t hw (by omega) (rz_met (T := b.1) b0 fun i j hi hj => (v.lo i j hi hj).1)]
  rfl)
/-! ### the law's tables -/
structure RawU (n i j : Nat) (top : Int) (f : Nat → Nat → Int) : Prop where
  dg : ∀ a, f a a = 0
  sy : ∀ a b, f a b = f b a
  po : ∀ a b, a < b → b < n → (a < i ∨ a = i ∧ b < j) → 1 ≤ f a b ∧ f a b ≤ top
theorem RawU.next {n i j : Nat} {top v : Int} {f : Nat → Nat → Int} (h : RawU n i j top f) (hj : i < j) (h1 : 1 ≤ v) (h2 : v ≤ top) : RawU n i (j + 1) top (upd1 (upd1 f i j v) j i v) := by
  refine ⟨fun a => ?_, fun a b => ?_, fun a b hb hbn hab => ?_⟩
  · unfold upd1
    rw [if_neg (by omega), if_neg (by omega)]
    exact h.dg a
  · unfold upd1
    by_cases c1 : a = j ∧ b = i
    · rw [if_pos c1]
      by_cases c2 : b = j ∧ a = i
      · omega
      · rw [if_neg c2, if_pos ⟨c1.2, c1.1⟩]
    · rw [if_neg c1]
      by_cases c2 : a = i ∧ b = j
      · rw [if_pos c2, if_pos ⟨c2.2, c2.1⟩]
      · rw [if_neg c2, if_neg fun q => c2 ⟨q.2, q.1⟩, if_neg fun q => c1 ⟨q.2, q.1⟩]
        exact h.sy a b
  · unfold upd1
    by_cases c1 : a = j ∧ b = i
    · omega
    · rw [if_neg c1]
      by_cases c2 : a = i ∧ b = j
      · rw [if_pos c2]; exact ⟨h1, h2⟩
      · rw [if_neg c2]
        exact h.po a b hb hbn (by omega)
theorem RawU.fin {n : Nat} {top : Int} {f : Nat → Nat → Int} (h : RawU n n 0 top f) : RawF n top f :=
  ⟨h.dg, fun a b _ _ => h.sy a b, fun a b ha hb hne => by
    by_cases c : a < b
    · exact h.po a b c hb (by omega)
    · rw [h.sy a b]
      exact h.po b a (by omega) ha (by omega)⟩
theorem rng_step {a n x : Nat} {q r : List Nat} (h : rng a n = q ++ x :: r) : x = a + q.length ∧ x < n := by
  have hl := congrArg List.length h
  rw [rng_len, List.length_append, List.length_cons] at hl
  have hx := congrArg (fun l : List Nat => l[q.length]?) h
  unfold rng at hx
  simp only [List.getElem?_map] at hx
  rw [List.getElem?_append_right (Nat.le_refl _), Nat.sub_self, List.getElem?_cons_zero, List.getElem?_range (by omega)] at hx
  have : a + q.length = x := Option.some.inj hx
  omega
theorem rng_end {a n : Nat} {q : List Nat} (h : rng a n = q ++ []) : a + q.length = a + (n - a) := by
  have := congrArg List.length h
  rw [List.append_nil, rng_len] at this
  omega
theorem law_table_t {o : MO} {rest : Sto} (hw : WF (o :: rest)) (ho : HandO o) {n : Nat} (hn : n ≤ 7) {top : Int} (h0 : 0 < top) (h1 : top < 1000000) :
    ∃ o' f, HandO o' ∧ RawF n top f ∧ F_law_table [.ref 0, .int (n : Int), .int top] (o :: rest) = .ok (tabT n f) (o' :: rest) := by
  have z2 := sizeLine_eq
  have body : ∃ o' f, HandO o' ∧ RawF n top f ∧ b_law_table (startD 9 [.ref 0, .int (n : Int), .int top]) (o :: rest) = some (.rt (tabT n f), (o' :: rest) ++ rowsG n (intG f)) := by
    have h0' : (startD 9 [.ref 0, .int (n : Int), .int top])[0]? = some (some (.ref 0)) := rfl
    have h1' : (startD 9 [.ref 0, .int (n : Int), .int top])[1]? = some (some (.int (n : Int))) := rfl
    have h2' : (startD 9 [.ref 0, .int (n : Int), .int top])[2]? = some (some (.int top)) := rfl
    have hl : (startD 9 [.ref 0, .int (n : Int), .int top]).length = 9 := rfl
    generalize startD 9 [.ref 0, .int (n : Int), .int top] = ρ at h0' h1' h2' hl
    unfold b_law_table
    rw [qSeq_e, qSet_e]
    rw [sLC_alloc (List.range n) (fun i : Nat => D.int (i : Int)) (fun _ => .lst (rowG n fun _ => .int 0)) (iRange_n (by simp_arith! [h1'])) (by simp; omega) fun a _ st => ⟨_, rfl, by
      simp_arith! [hl, h1', fRep_G n (by omega)]⟩]
    rw [show ((List.range n).map fun _ => MO.lst (rowG n fun _ => D.int 0)) = rowsG n (intG fun _ _ => 0) from rfl]
    simp_arith! [List.length_range]
    rw [iRange_n (n := n) (by simp_arith! [hl, h1'])]
    have hRL : (o :: rest).length = rest.length + 1 := rfl
    simp_arith! []
    generalize hL : loopFor _ _ _ _ _ _ _ _ = R
    obtain ⟨ρ', st', rfl, i, o', f, hd, ho', hf, kl, k0, k1, k2, k3, rfl⟩ := for_all_e hL (List.range n) (fun i : Nat => D.int (i : Int)) rfl (by simp) (fun r ρ st' => ∃ i o' f, List.range n = List.range i ++ r ∧ HandO o' ∧ RawU n i 0 top f ∧ ρ.length = 9 ∧ ρ[0]? = some (some (.ref 0)) ∧ ρ[1]? = some (some (.int (n : Int))) ∧ ρ[2]? = some (some (.int top)) ∧ ρ[3]? = some (some (refsL (rest.length + 1) n)) ∧ st' = (o' :: rest) ++ rowsG n (intG f)) (fun _ _ _ _ => still_none _ _) ⟨0, o, fun _ _ => 0, by simp, ho, ⟨fun _ => rfl, fun _ _ => rfl, fun a b hb hbn hi => by omega⟩, by simp_arith! [hl], by simp_arith! [h0'], by simp_arith! [h1'], by simp_arith! [h2'], by simp_arith! [hl], rfl⟩ (by
      rintro x r ρ st' ⟨i, o', f, hd, ho', hf, kl, k0, k1, k2, k3, rfl⟩
      obtain ⟨rfl, hi, hd⟩ := range_step hd
      refine ⟨_, rfl, ?_⟩
      generalize hM : qFor _ _ _ _ _ = R2
      rw [qFor_e, iRange2_n (i := x + 1) (n := n) (by simp_arith! [kl, k1, Int.natCast_add]; rfl)] at hM
      simp_arith! [] at hM
      obtain ⟨ρ', st', rfl, q, o2, f2, hd2, ho2, hf2, jl, j0, j1, j2, j3, j4, rfl⟩ := for_all_e hM (rng (x + 1) n) (fun i : Nat => D.int (i : Int)) rfl (by simp) (fun r ρ st' => ∃ q o' f, rng (x + 1) n = q ++ r ∧ HandO o' ∧ RawU n x (x + 1 + q.length) top f ∧ ρ.length = 9 ∧ ρ[0]? = some (some (.ref 0)) ∧ ρ[1]? = some (some (.int (n : Int))) ∧ ρ[2]? = some (some (.int top)) ∧ ρ[3]? = some (some (refsL (rest.length + 1) n)) ∧ ρ[4]? = some (some (.int (x : Int))) ∧ st' = (o' :: rest) ++ rowsG n (intG f)) (fun _ _ _ _ => still_none _ _) ⟨[], o', f, rfl, ho', ⟨hf.dg, hf.sy, fun a b hab hbn h => hf.po a b hab hbn (by simp at h; omega)⟩, by simp_arith! [kl], by simp_arith! [k0], by simp_arith! [k1], by simp_arith! [k2], by simp_arith! [k3], by simp_arith! [kl], rfl⟩ (by
        rintro y r2 ρ st' ⟨q, o2, f2, hd2, ho2, hf2, jl, j0, j1, j2, j3, j4, rfl⟩
        obtain ⟨ey, hy⟩ := rng_step hd2
        rw [← ey] at hf2
        have wo2 := wf_hand hw ho2
        obtain ⟨o3, v, ho3, v0, v1, hdr⟩ := draw_t (rest := rest ++ rowsG n (intG f2)) (wf_rowsG wo2 (noRef_intG f2)) ho2 h0 (by omega)
        refine ⟨_, rfl, (ρ.set 5 (some (.int (y : Int)))).set 6 (some (.int (1 + v))), (o3 :: rest) ++ rowsG n (intG (upd1 (upd1 f2 x y (1 + v)) y x (1 + v))), .inl ?_, q ++ [y], o3, _, by rw [hd2]; simp, ho3, by
          have := hf2.next (by omega) (v := 1 + v) (by omega) (by omega)
          rw [List.length_append, List.length_singleton, ← Nat.add_assoc, ← ey]
          exact this, by simp_arith! [jl], by simp_arith! [j0], by simp_arith! [j1], by simp_arith! [j2], by simp_arith! [j3], by simp_arith! [j4], rfl⟩
        rw [show (o2 :: rest) ++ rowsG n (intG f2) = o2 :: (rest ++ rowsG n (intG f2)) from rfl]
        have c2 : ∀ (a : Nat) (f : Nat → Nat → Int) (v : Int), a < n → ∀ b, b < n → fSetIx (.ref (rest.length + 1 + a)) (.int (b : Int)) (.int v) (o3 :: (rest ++ rowsG n (intG f))) = some (o3 :: (rest ++ rowsG n (intG (upd1 f a b v)))) := fun a f v ha b hb => by
          have := fSetIx_rowG (st := o3 :: rest) (F := intG f) (v := .int v) ha hb
          rw [updG_int] at this
          exact this
        simp_arith! [jl, j0, j1, j2, j3, j4, hdr, fIx_refs hi, fIx_refs hy, c2 x _ _ hi y hy, c2 y _ _ hy x hi]
        rfl)
      have e := rng_end hd2
      refine ⟨_, _, .inl rfl, x + 1, o2, f2, hd, ho2, ⟨hf2.dg, hf2.sy, fun a b hab hbn h => hf2.po a b hab hbn (by omega)⟩, jl, j0, j1, j2, j3, rfl⟩)
    have := range_end hd
    subst this
    refine ⟨o', f, ho', hf.fin, ?_⟩
    simp_arith! []
    rw [tup_rowsG (st := o' :: rest) (by omega) k3 (by rw [kl]; decide)]
    simp_arith! []
  obtain ⟨o', f, h2, h3, h4⟩ := body
  exact ⟨o', f, h2, h3, defFin_rt h4 rfl (wf_hand hw h2) (fz_tabT 58 _ _ _ _)⟩
theorem law_closing_t (hw : WF st) {n : Nat} (hn : n ≤ 1000) {f : Nat → Nat → Int} (hf : Met n f) : F_law_closing [tabT n f] st = .ok (tabT n (fw f n)) st := by
  have z2 := sizeLine_eq
  have body : b_law_closing (startD 7 [tabT n f]) st = some (.rt (tabT n (fw f n)), st ++ rowsG n (intG (fw f n))) := by
    have h0 : (startD 7 [tabT n f])[0]? = some (some (tabT n f)) := rfl
    have hl : (startD 7 [tabT n f]).length = 7 := rfl
    generalize startD 7 [tabT n f] = ρ at h0 hl
    unfold b_law_closing
    rw [qSeq_e, qSet_e]
    rw [sLC_alloc2 (List.range n) (fun a => rowT n f a) (fun a => .lst (rowG n (intG f a))) (by simp_arith! [iSeq_e, h0]) (by simp; omega) fun a ha ex => ⟨_, rfl, by
      simp_arith! [hl]
      rfl⟩]
    rw [show ((List.range n).map fun a => MO.lst (rowG n (intG f a))) = rowsG n (intG f) from rfl]
    simp_arith! [List.length_range, hl]
    rw [iRange_n (n := n) (by simp_arith! [hl, List.length_range])]
    simp_arith! []
    generalize hL : loopFor _ _ _ _ _ _ _ _ = R
    obtain ⟨ρ', st', rfl, m, hd, kl, k1, k2, rfl⟩ := for_all_e hL (List.range n) (fun i : Nat => D.int (i : Int)) rfl (by simp) (fun r ρ st' => ∃ m, List.range n = List.range m ++ r ∧ ρ.length = 7 ∧ ρ[1]? = some (some (refsL st.length n)) ∧ ρ[2]? = some (some (.int (n : Int))) ∧ st' = st ++ rowsG n (intG (fw f m))) (fun _ _ _ _ => still_none _ _) ⟨0, by simp, by simp_arith! [hl], by simp_arith! [hl], by simp_arith! [hl], rfl⟩ (by
      rintro m r ρ st' ⟨m', hd, kl, k1, k2, rfl⟩
      obtain ⟨rfl, hm, hd⟩ := range_step hd
      have mt := hf.fw m (by omega)
      refine ⟨_, rfl, ?_⟩
      generalize hM : qFor _ _ _ _ _ = R2
      rw [qFor_e, iRange_n (n := n) (by simp_arith! [kl, k2])] at hM
      simp_arith! [] at hM
      obtain ⟨ρ', st', rfl, i, f2, hd2, hf2, jl, j1, j2, j3, rfl⟩ := for_all_e hM (List.range n) (fun i : Nat => D.int (i : Int)) rfl (by simp) (fun r ρ st' => ∃ i f2, List.range n = List.range i ++ r ∧ Pass (fw f m) n m i 0 f2 ∧ ρ.length = 7 ∧ ρ[1]? = some (some (refsL st.length n)) ∧ ρ[2]? = some (some (.int (n : Int))) ∧ ρ[3]? = some (some (.int (m : Int))) ∧ st' = st ++ rowsG n (intG f2)) (fun _ _ _ _ => still_none _ _) ⟨0, fw f m, by simp, ⟨fun a b ha hb => by rw [if_neg (by omega)]⟩, by simp_arith! [kl], by simp_arith! [k1], by simp_arith! [k2], by simp_arith! [kl], rfl⟩ (by
        rintro i r2 ρ st' ⟨i', f2, hd2, hf2, jl, j1, j2, j3, rfl⟩
        obtain ⟨rfl, hi, hd2⟩ := range_step hd2
        refine ⟨_, rfl, ?_⟩
        generalize hN : qFor _ _ _ _ _ = R3
        rw [qFor_e, iRange_n (n := n) (by simp_arith! [jl, j2])] at hN
        simp_arith! [] at hN
        obtain ⟨ρ', st', rfl, j, f3, hd3, hf3, il, i1, i2, i3, i4, rfl⟩ := for_all_e hN (List.range n) (fun i : Nat => D.int (i : Int)) rfl (by simp) (fun r ρ st' => ∃ j f3, List.range n = List.range j ++ r ∧ Pass (fw f m) n m i j f3 ∧ ρ.length = 7 ∧ ρ[1]? = some (some (refsL st.length n)) ∧ ρ[2]? = some (some (.int (n : Int))) ∧ ρ[3]? = some (some (.int (m : Int))) ∧ ρ[4]? = some (some (.int (i : Int))) ∧ st' = st ++ rowsG n (intG f3)) (fun _ _ _ _ => still_none _ _) ⟨0, f2, by simp, hf2, by simp_arith! [jl], by simp_arith! [j1], by simp_arith! [j2], by simp_arith! [j3], by simp_arith! [jl], rfl⟩ (by
          rintro j r3 ρ st' ⟨j', f3, hd3, hf3, il, i1, i2, i3, i4, rfl⟩
          obtain ⟨rfl, hj, hd3⟩ := range_step hd3
          refine ⟨_, rfl, ρ.set 5 (some (.int (j : Int))), st ++ rowsG n (intG (upd1 f3 i j (if f3 i m + f3 m j < f3 i j then f3 i m + f3 m j else f3 i j))), .inl ?_, j + 1, _, hd3, hf3.next mt hm hi hj, by simp_arith! [il], by simp_arith! [i1], by simp_arith! [i2], by simp_arith! [i3], by simp_arith! [i4], rfl⟩
          simp_arith! [il, i1, i2, i3, i4, fIx_refs hi, fIx_refs hm, fIx_rowG hi hj, fIx_rowG hi hm, fIx_rowG hm hj, fSetIx_rowG hi hj, updG_int])
        have := range_end hd3
        subst this
        exact ⟨_, _, .inl rfl, i + 1, f3, hd2, hf3.up, il, i1, i2, i3, rfl⟩)
      have := range_end hd2
      subst this
      refine ⟨_, _, .inl rfl, m + 1, hd, jl, j1, j2, ?_⟩
      rw [rowsG_congr (F := intG f2) (G := intG (fw f (m + 1))) fun a b ha hb => by
        show D.int _ = D.int _
        rw [hf2.fin a b ha hb]
        rfl])
    have := range_end hd
    subst this
    simp_arith! []
    rw [tup_rowsG (by omega) k1 (by rw [kl]; decide)]
    simp_arith! []
  exact defFin_rt body rfl hw (fz_tabT 58 _ _ _ _)
end Lw87
namespace Lw87
open PySem PD
variable {st : Sto}
/-! ### the judges and the sums -/
theorem is_mend_x (hw : WF st) {n : Nat} {f : Nat → Nat → Int} (v : TabP n f) {x : D} {b : Bool} (h : F_is_mend_of [.int (n : Int), x] st = .ok (.bl b) st) : F_is_mend [tabT n f, x] st = .ok (.bl b) st := defFin_v hw (fz_bl _ _) (by
  have h0 : (startD 2 [tabT n f, x])[0]? = some (some (tabT n f)) := rfl
  have h1 : (startD 2 [tabT n f, x])[1]? = some (some x) := rfl
  generalize startD 2 [tabT n f, x] = ρ at h0 h1
  unfold b_is_mend
  simp_arith! [h0, h1, check_table_T hw v, List.length_range, h])
theorem check_mend_t (hw : WF st) {n : Nat} {f F : Nat → Nat → Int} (v : TabP n f) (m : Mend n F) : F_check_mend [tabT n f, tabF n F] st = .ok .non st := defFin_n (ρ := startD 2 [tabT n f, tabF n F]) hw (by
  obtain ⟨b, e, hb⟩ := is_mend_of_t hw v.n1 v.n7 F
  rw [hb.mpr m] at e
  have h0 : (startD 2 [tabT n f, tabF n F])[0]? = some (some (tabT n f)) := rfl
  have h1 : (startD 2 [tabT n f, tabF n F])[1]? = some (some (tabF n F)) := rfl
  generalize startD 2 [tabT n f, tabF n F] = ρ at h0 h1
  unfold b_check_mend
  simp_arith! [h0, h1, check_table_T hw v, List.length_range, e])
theorem off_most_t (hw : WF st) {n : Nat} {f F : Nat → Nat → Int} (v : TabP n f) (m : Mend n F) : F_off_most [tabT n f, tabF n F] st = .ok (fr (mx (offs n f F))) st := defFin_v hw (fz_fr _ _) (by
  have h0 : (startD 2 [tabT n f, tabF n F])[0]? = some (some (tabT n f)) := rfl
  have h1 : (startD 2 [tabT n f, tabF n F])[1]? = some (some (tabF n F)) := rfl
  generalize startD 2 [tabT n f, tabF n F] = ρ at h0 h1
  have ol := offs_len v.n7 f F
  unfold b_off_most
  simp_arith! [h0, h1, check_mend_t hw v m, gaps_of_t hw v.n7, most_of_t hw (l := offs n f F) (by omega)])
theorem off_sum_t (hw : WF st) {n : Nat} {f F : Nat → Nat → Int} (v : TabP n f) (m : Mend n F) : F_off_sum [tabT n f, tabF n F] st = .ok (fr (sm (offs n f F))) st := defFin_v hw (fz_fr _ _) (by
  have h0 : (startD 2 [tabT n f, tabF n F])[0]? = some (some (tabT n f)) := rfl
  have h1 : (startD 2 [tabT n f, tabF n F])[1]? = some (some (tabF n F)) := rfl
  generalize startD 2 [tabT n f, tabF n F] = ρ at h0 h1
  have ol := offs_len v.n7 f F
  unfold b_off_sum
  simp_arith! [h0, h1, check_mend_t hw v m, gaps_of_t hw v.n7, sum_of_t hw (l := offs n f F) (by omega)])
theorem off_pairs_t (hw : WF st) {n : Nat} {f F : Nat → Nat → Int} (v : TabP n f) (m : Mend n F) : F_off_pairs [tabT n f, tabF n F] st = .ok (.int (((offs n f F).filter fun x => !decide (x = 0)).length : Nat)) st := defFin_v hw (fz_int _ _) (by
  have z2 := sizeLine_eq
  have h0 : (startD 3 [tabT n f, tabF n F])[0]? = some (some (tabT n f)) := rfl
  have h1 : (startD 3 [tabT n f, tabF n F])[1]? = some (some (tabF n F)) := rfl
  have hl : (startD 3 [tabT n f, tabF n F]).length = 3 := rfl
  generalize startD 3 [tabT n f, tabF n F] = ρ at h0 h1 hl
  have ol := offs_len v.n7 f F
  unfold b_off_pairs
  simp_arith! [h0, h1, check_mend_t hw v m]
  rw [sLC_if (dy := none) (offs n f F) fr (fun x => !decide (x = 0)) fr (by simp_arith! [iSeq_e, h0, h1, gaps_of_t hw v.n7]) (still_none _ _) (by omega) fun x hx => ⟨_, rfl, by
    simp_arith! [hl, nz_fr]
    exact fun _ => trivial⟩]
  simp_arith! [])
theorem offs_nn {n : Nat} {f F : Nat → Nat → Int} : ∀ x ∈ offs n f F, 0 ≤ x := fun x hx => by
  obtain ⟨p, _, rfl⟩ := List.mem_map.mp hx
  unfold absI2
  split <;> omega
/-! _law_is -/
theorem law_is1_i (hw : WF st) (a b : Int) : F_law_is_1 [.int a, .int b] st = .ok (.bl (decide (a = b))) st := defFin_v hw (fz_bl _ _) (by
  have h0 : (startD 5 [.int a, .int b])[0]? = some (some (.int a)) := rfl
  have h1 : (startD 5 [.int a, .int b])[1]? = some (some (.int b)) := rfl
  generalize startD 5 [.int a, .int b] = ρ at h0 h1
  have t1 : ∀ x : Int, isTy .list (.int x) = some false := fun _ => rfl
  have t2 : ∀ x : Int, isTy .dict (.int x) = some false := fun _ => rfl
  have t3 : ∀ x : Int, isTy .str (.int x) = some false := fun _ => rfl
  have t4 : ∀ x : Int, isTy .tuple (.int x) = some false := fun _ => rfl
  have t5 : ∀ x : Int, isTy .bool (.int x) = some false := fun _ => rfl
  have t6 : ∀ x : Int, isTy .int (.int x) = some true := fun _ => rfl
  have ni : ∀ x st, fIsN2 (.int x) .non st = .ok (.bl false) st := fun _ _ => rfl
  unfold b_law_is_1
  simp_arith! [h0, h1, sIsT_e, t1, t2, t3, t4, t5, t6, ni, Bool.or_false])
theorem law_is_i (hw : WF st) (a b : Int) : F_law_is [.int a, .int b] st = .ok (.bl (decide (a = b))) st := defFin_v hw (fz_bl _ _) (by
  have h0 : (startD 5 [.int a, .int b])[0]? = some (some (.int a)) := rfl
  have h1 : (startD 5 [.int a, .int b])[1]? = some (some (.int b)) := rfl
  generalize startD 5 [.int a, .int b] = ρ at h0 h1
  have t1 : ∀ x : Int, isTy .list (.int x) = some false := fun _ => rfl
  have t2 : ∀ x : Int, isTy .dict (.int x) = some false := fun _ => rfl
  have t3 : ∀ x : Int, isTy .str (.int x) = some false := fun _ => rfl
  have t4 : ∀ x : Int, isTy .tuple (.int x) = some false := fun _ => rfl
  have t5 : ∀ x : Int, isTy .bool (.int x) = some false := fun _ => rfl
  have t6 : ∀ x : Int, isTy .int (.int x) = some true := fun _ => rfl
  have ni : ∀ x st, fIsN2 (.int x) .non st = .ok (.bl false) st := fun _ _ => rfl
  unfold b_law_is_2
  simp_arith! [h0, h1, sIsT_e, t1, t2, t3, t4, t5, t6, ni, Bool.or_false])
theorem law_is_b (hw : WF st) (a b : Bool) : F_law_is [.bl a, .bl b] st = .ok (.bl (decide (a = b))) st := defFin_v hw (fz_bl _ _) (by
  have h0 : (startD 5 [.bl a, .bl b])[0]? = some (some (.bl a)) := rfl
  have h1 : (startD 5 [.bl a, .bl b])[1]? = some (some (.bl b)) := rfl
  generalize startD 5 [.bl a, .bl b] = ρ at h0 h1
  have t1 : ∀ x : Bool, isTy .list (.bl x) = some false := fun _ => rfl
  have t2 : ∀ x : Bool, isTy .dict (.bl x) = some false := fun _ => rfl
  have t3 : ∀ x : Bool, isTy .str (.bl x) = some false := fun _ => rfl
  have t4 : ∀ x : Bool, isTy .tuple (.bl x) = some false := fun _ => rfl
  have t5 : ∀ x : Bool, isTy .bool (.bl x) = some true := fun _ => rfl
  have t6 : ∀ x : Bool, isTy .int (.bl x) = some true := fun _ => rfl
  have ni : ∀ x st, fIsN2 (.bl x) .non st = .ok (.bl false) st := fun _ _ => rfl
  unfold b_law_is_2
  simp_arith! [h0, h1, sIsT_e, t1, t2, t3, t4, t5, t6, ni, Bool.or_false])
theorem law_is_fr (hw : WF st) (x y : Int) : F_law_is [fr x, fr y] st = .ok (.bl (decide (x = y))) st := defFin_v hw (fz_bl _ _) (by
  have z2 := sizeLine_eq
  have h0 : (startD 5 [fr x, fr y])[0]? = some (some (fr x)) := rfl
  have h1 : (startD 5 [fr x, fr y])[1]? = some (some (fr y)) := rfl
  have hl : (startD 5 [fr x, fr y]).length = 5 := rfl
  generalize startD 5 [fr x, fr y] = ρ at h0 h1 hl
  have t1 : ∀ x : Int, isTy .list (fr x) = some false := fun _ => rfl
  have t4 : ∀ x : Int, isTy .tuple (fr x) = some true := fun _ => rfl
  have ln : ∀ x st, bLen [fr x] st = .ok (.int 2) st := fun _ _ => rfl
  have e : decide (x = y) = (decide (tpI x = tpI y) && decide (btI x = btI y)) := by
    rw [← Bool.decide_and]
    exact decide_eq_decide.mpr fr_inj.symm
  unfold b_law_is_2
  simp_arith! [h0, h1, sIsT_e, t1, t4, ln, Bool.or_false]
  rw [sLC_map (dy := none) [(tpI x, tpI y), (btI x, btI y)] (fun p => D.tpl [.int p.1, .int p.2]) (fun p => D.bl (decide (p.1 = p.2))) (by
    simp_arith! [iZip_e, h0, h1]
    rfl) (still_none _ _) (by simp; omega) fun p hp => ⟨_, rfl, by
    simp_arith! [hl, law_is1_i hw]⟩]
  have ba := fun s => bAll_map (fun p : Int × Int => decide (p.1 = p.2)) [(tpI x, tpI y), (btI x, btI y)] s
  simp_arith! [ba]
  rw [e]
  simp)
/-! the judge of what is told -/
theorem nearest_nt (hw : WF st) {n : Nat} {f : Nat → Nat → Int} (v : TabP n f) {x : D} (h : F_is_sized [x, .int 3, .int 3] st = .ok (.bl false) st) : F_is_nearest_mend [tabT n f, x] st = .ok (.bl false) st := defFin_v hw (fz_bl _ _) (by
  have h0 : (startD 4 [tabT n f, x])[0]? = some (some (tabT n f)) := rfl
  have h1 : (startD 4 [tabT n f, x])[1]? = some (some x) := rfl
  have hl : (startD 4 [tabT n f, x]).length = 4 := rfl
  generalize startD 4 [tabT n f, x] = ρ at h0 h1 hl
  unfold b_is_nearest_mend
  simp_arith! [h0, h1, hl, check_table_T hw v, List.length_range, h])
theorem right_nt (hw : WF st) {n : Nat} {f : Nat → Nat → Int} {T : Int} {x : D} (h : isTy .tuple x = some false ∨ ∃ xs, x = .tup xs ∧ xs.length ≠ 3) : F_law_is_right [tabT n f, fr T, x] st = .ok (.bl false) st := defFin_v hw (fz_bl _ _) (by
  have h0 : (startD 5 [tabT n f, fr T, x])[2]? = some (some x) := rfl
  generalize startD 5 [tabT n f, fr T, x] = ρ at h0
  unfold b_law_is_right
  rcases h with h | ⟨xs, rfl, h⟩
  · simp_arith! [h0, h]
  · have e : decide ((xs.length : Int) = 3) = false := decide_eq_false (by omega)
    simp_arith! [h0, e])
theorem count_cast (x : Nat) : ∀ l : List Nat, (l.map fun m : Nat => (m : Int)).count (x : Int) = l.count x
  | [] => rfl
  | a :: l => by
    rw [List.map_cons, List.count_cons, List.count_cons, count_cast x l]
    congr 1
    by_cases h : a = x
    · subst h; simp
    · have : ¬ (a : Int) = (x : Int) := by omega
      simp [h, this]
theorem count_one : ∀ {l : List Nat} {x : Nat}, l.Nodup → x ∈ l → l.count x = 1
  | [], _, _, h => by cases h
  | a :: l, x, d, h => by
    rw [List.nodup_cons] at d
    rw [List.count_cons]
    by_cases e : a = x
    · subst e
      rw [List.count_eq_zero.mpr d.1]
      simp
    · rw [count_one d.2 (by rcases List.mem_cons.mp h with r | r; · exact absurd r.symm e
                            · exact r)]
      simp [e]
theorem countT_nats {w : List Nat} {x : Nat} (d : w.Nodup) (h : x ∈ w) (st : Sto) : fCountT (nats w) (.int (x : Int)) st = .ok (.int 1) st := by
  have := fCountT_i (xs := w.map fun m : Nat => (m : Int)) (k := (x : Int)) st
  rw [count_cast, count_one d h, List.map_map] at this
  exact this
structure GoodW (n : Nat) (w : List Nat) : Prop where
  two : 2 ≤ w.length
  le : w.length ≤ n
  nd : w.Nodup
  lt : ∀ x ∈ w, x < n
def GoodO (n : Nat) : Option (List Nat) → Prop
  | none => True
  | some w => GoodW n w
def Judged (n : Nat) (f F : Nat → Nat → Int) (s : Int) (o : Option (List Nat)) : Prop := Mend n F ∧ mx (offs n f F) ≤ s ∧ match o with
  | none => s = 0
  | some w => 0 < s ∧ ask f w = s
theorem nearest_t (hw : WF st) {n : Nat} (n5 : n ≤ 5) {f : Nat → Nat → Int} (v : TabP n f) (F : Nat → Nat → Int) (s : Int) (o : Option (List Nat)) (ho : GoodO n o) : ∃ b, F_is_nearest_mend [tabT n f, .tup [fr s, tabF n F, wayO o]] st = .ok (.bl b) st ∧ (b = true ↔ Judged n f F s o) := by
  have body : ∃ b, b_is_nearest_mend (startD 4 [tabT n f, .tup [fr s, tabF n F, wayO o]]) st = some (.rt (.bl b), st) ∧ (b = true ↔ Judged n f F s o) := by
    have z2 := sizeLine_eq
    have ol := offs_len v.n7 f F
    obtain ⟨m, em, hm⟩ := is_mend_of_t hw v.n1 v.n7 F
    have h0 : (startD 4 [tabT n f, .tup [fr s, tabF n F, wayO o]])[0]? = some (some (tabT n f)) := rfl
    have h1 : (startD 4 [tabT n f, .tup [fr s, tabF n F, wayO o]])[1]? = some (some (.tup [fr s, tabF n F, wayO o])) := rfl
    have hl : (startD 4 [tabT n f, .tup [fr s, tabF n F, wayO o]]).length = 4 := rfl
    generalize startD 4 [tabT n f, .tup [fr s, tabF n F, wayO o]] = ρ at h0 h1 hl
    have i0 : ∀ st, fIx (.tup [fr s, tabF n F, wayO o]) (.int 0) st = .ok (fr s) st := fun st => fIx_tup (i := 0) rfl
    have i1 : ∀ st, fIx (.tup [fr s, tabF n F, wayO o]) (.int 1) st = .ok (tabF n F) st := fun st => fIx_tup (i := 1) rfl
    have i2 : ∀ st, fIx (.tup [fr s, tabF n F, wayO o]) (.int 2) st = .ok (wayO o) st := fun st => fIx_tup (i := 2) rfl
    have sz : F_is_sized [.tup [fr s, tabF n F, wayO o], .int 3, .int 3] st = .ok (.bl true) st := is_sized_t hw _ 3 3
    unfold b_is_nearest_mend Judged
    simp_arith! [h0, h1, hl, check_table_T hw v, List.length_range, sz, i0, i1, is_share_t hw, em]
    cases m with
    | false =>
      refine ⟨false, rfl, ⟨fun h => (by cases h), fun M => hm.mpr M.1⟩⟩
    | true =>
      have M := hm.mp rfl
      simp_arith! [h0, h1, hl, i0, i1, gaps_of_t hw v.n7, most_of_t hw (l := offs n f F) (by omega), is_less_t hw]
      by_cases c : s < mx (offs n f F)
      · refine ⟨false, ?_, ⟨fun h => (by cases h), fun M => by omega⟩⟩
        simp only [c]
        simp_arith! []
      · simp only [c]
        simp_arith! [h1, hl, i2]
        cases o with
        | none =>
          have wn : ∀ st, fIsN2 (wayO none) .non st = .ok (.bl true) st := fun _ => rfl
          refine ⟨decide (s = 0), ?_, ⟨fun h => ⟨M, by omega, of_decide_eq_true h⟩, fun h => decide_eq_true h.2.2⟩⟩
          simp_arith! [wn, h1, hl, i0, ez_fr]
        | some w =>
          obtain ⟨w2, wn5, wd, wlt⟩ := ho
          have wn : w ≠ [] := fun e => by rw [e] at w2; simp at w2
          have mw : wayO (some w) = nats w := rfl
          simp only [mw] at h1 i0 i1 i2 sz ⊢
          have wns : ∀ st, fIsN2 (nats w) .non st = .ok (.bl false) st := fun _ => rfl
          have sw : F_is_sized [nats w, .int 2, .int (n : Int)] st = .ok (.bl true) st := by
            rw [is_sized_t hw, List.length_map]
            congr 2
            exact decide_eq_true (by omega)
          simp_arith! [wns, h1, h0, hl, i2, sw]
          rw [sLC_map (dy := none) w (fun m : Nat => D.int (m : Int)) (fun _ => D.bl true) (by simp_arith! [iSeq_e, h1, hl, i2]) (still_none _ _) (by omega) fun x hx => ⟨_, rfl, by
            have := wlt x hx
            simp_arith! [hl, is_within_i hw, decide_eq_true (show (0 : Int) ≤ (x : Int) ∧ (x : Int) ≤ (n : Int) - 1 by omega)]⟩]
          have ba := fun s => bAll_map (fun _ : Nat => true) w s
          simp only [all_true] at ba
          simp_arith! [ba]
          rw [sLC_map (dy := none) w (fun m : Nat => D.int (m : Int)) (fun _ => D.bl true) (by simp_arith! [iSeq_e, h1, hl, i2]) (still_none _ _) (by omega) fun x hx => ⟨_, rfl, by
            have ct := countT_nats wd hx st
            simp_arith! [hl, h1, sMT_e, i2, ct]⟩]
          have lk := lack_of_t hw v.n7 f wn (by omega) wlt
          refine ⟨decide (0 < s) && decide (ask f w = s), ?_, ?_⟩
          · simp_arith! [ba, h0, h1, hl, i0, i2, fIx_fr0, fGt_i, tp_pos, lk, fEq_fr]
            cases decide (0 < s)
            · simp_arith! [Bool.false_and]
            · simp_arith! [h0, h1, hl, i0, i2, lk, fEq_fr, Bool.true_and]
          · rw [Bool.and_eq_true, decide_eq_true_eq, decide_eq_true_eq]
            exact ⟨fun h => ⟨M, by omega, h⟩, fun h => h.2.2⟩
  obtain ⟨b, h1, h2⟩ := body
  exact ⟨b, defFin_v hw (fz_bl _ _) h1, h2⟩
def Right (n : Nat) (f F : Nat → Nat → Int) (T s : Int) (o : Option (List Nat)) : Prop := s = T ∧ Mend n F ∧ mx (offs n f F) ≤ T ∧ (T = 0 → o = none) ∧ (T ≠ 0 → ∃ w, o = some w ∧ ask f w = T)
theorem right_t (hw : WF st) {n : Nat} (n5 : n ≤ 5) {f : Nat → Nat → Int} (v : TabP n f) (F : Nat → Nat → Int) (T s : Int) (o : Option (List Nat)) (ho : GoodO n o) : ∃ b, F_law_is_right [tabT n f, fr T, .tup [fr s, tabF n F, wayO o]] st = .ok (.bl b) st ∧ (b = true ↔ Right n f F T s o) := by
  have body : ∃ b, b_law_is_right (startD 5 [tabT n f, fr T, .tup [fr s, tabF n F, wayO o]]) st = some (.rt (.bl b), st) ∧ (b = true ↔ Right n f F T s o) := by
    have z2 := sizeLine_eq
    have ol := offs_len v.n7 f F
    obtain ⟨m, em, hm⟩ := law_is_mend_t hw v.n1 v.n7 F
    have h0 : (startD 5 [tabT n f, fr T, .tup [fr s, tabF n F, wayO o]])[0]? = some (some (tabT n f)) := rfl
    have h1 : (startD 5 [tabT n f, fr T, .tup [fr s, tabF n F, wayO o]])[1]? = some (some (fr T)) := rfl
    have h2 : (startD 5 [tabT n f, fr T, .tup [fr s, tabF n F, wayO o]])[2]? = some (some (.tup [fr s, tabF n F, wayO o])) := rfl
    have hl : (startD 5 [tabT n f, fr T, .tup [fr s, tabF n F, wayO o]]).length = 5 := rfl
    generalize startD 5 [tabT n f, fr T, .tup [fr s, tabF n F, wayO o]] = ρ at h0 h1 h2 hl
    have i0 : ∀ st, fIx (.tup [fr s, tabF n F, wayO o]) (.int 0) st = .ok (fr s) st := fun st => fIx_tup (i := 0) rfl
    have i1 : ∀ st, fIx (.tup [fr s, tabF n F, wayO o]) (.int 1) st = .ok (tabF n F) st := fun st => fIx_tup (i := 1) rfl
    have i2 : ∀ st, fIx (.tup [fr s, tabF n F, wayO o]) (.int 2) st = .ok (wayO o) st := fun st => fIx_tup (i := 2) rfl
    have ln : ∀ st, bLen [.tup [fr s, tabF n F, wayO o]] st = .ok (.int 3) st := fun _ => rfl
    unfold b_law_is_right
    simp_arith! [h0, h1, h2, hl, ln, i0, law_is_fr hw]
    by_cases c0 : s = T
    · simp only [c0]
      simp_arith! [h0, h1, h2, hl, i1, List.length_range, em]
      cases m with
      | false => exact ⟨false, rfl, ⟨fun h => (by cases h), fun M => hm.mpr M.2.1⟩⟩
      | true =>
        have M := hm.mp rfl
        simp_arith! [h0, h1, h2, hl, i1, law_offs_t hw v.n7, law_most_t hw (l := offs n f F) (by omega), law_less_t hw]
        by_cases c : T < mx (offs n f F)
        · refine ⟨false, ?_, ⟨fun h => (by cases h), fun M => absurd M.2.2.1 (by omega)⟩⟩
          simp only [c]
          simp_arith! []
        · simp only [c]
          simp_arith! [h1, h2, hl, ez_fr', i2]
          by_cases cT : T = 0
          · simp only [cT]
            simp_arith! [h2, hl, i2]
            cases o with
            | none => exact ⟨true, rfl, ⟨fun _ => ⟨rfl, M, by omega, fun _ => rfl, fun h => (h rfl).elim⟩, fun _ => rfl⟩⟩
            | some w => exact ⟨false, rfl, ⟨fun h => (by cases h), fun h => by cases (h.2.2.2.1 rfl)⟩⟩
          · simp only [cT]
            simp_arith! [h2, hl, i2]
            cases o with
            | none =>
              have ty : isTy .tuple (wayO none) = some false := rfl
              refine ⟨false, ?_, ⟨fun h => (by cases h), fun h => ?_⟩⟩
              · simp_arith! [ty, hl]
              · obtain ⟨w, e, _⟩ := h.2.2.2.2 cT
                cases e
            | some w =>
              obtain ⟨w2, wn5, wd, wlt⟩ := ho
              have wn : w ≠ [] := fun e => by rw [e] at w2; simp at w2
              have mw : wayO (some w) = nats w := rfl
              rw [mw]
              have lw : decide ((w.length : Int) < 2) = false := decide_eq_false (by omega)
              simp_arith! [hl, lw]
              rw [sLC_map (dy := none) w (fun m : Nat => D.int (m : Int)) (fun _ => D.bl true) (by simp_arith! [iSeq_e, hl]) (still_none _ _) (by omega) fun x hx => ⟨_, rfl, by
                simp_arith! [hl, law_is_number_i hw]⟩]
              have ba := fun s => bAll_map (fun _ : Nat => true) w s
              simp only [all_true] at ba
              simp_arith! [ba]
              rw [sLC_map (dy := none) w (fun m : Nat => D.int (m : Int)) (fun _ => D.bl true) (by simp_arith! [iSeq_e, hl]) (still_none _ _) (by omega) fun x hx => ⟨_, rfl, by
                have ct := countT_nats wd hx st
                have := wlt x hx
                have a1 : decide ((0 : Int) ≤ (x : Int)) = true := decide_eq_true (by omega)
                have a2 : decide ((x : Int) < (n : Int)) = true := decide_eq_true (by omega)
                simp_arith! [hl, h0, sMT_e, ct, a1, a2, List.length_range]⟩]
              have lk := law_ask_t hw v.n7 f wn (by omega) wlt
              refine ⟨decide (ask f w = T), ?_, ?_⟩
              · simp_arith! [ba, h0, h1, hl, lk, fEq_fr]
              · rw [decide_eq_true_eq]
                exact ⟨fun h => ⟨rfl, M, by omega, fun e => (cT e).elim, fun _ => ⟨w, rfl, h⟩⟩, fun h => by
                  obtain ⟨w', e, q⟩ := h.2.2.2.2 cT
                  cases e
                  exact q⟩
    · simp only [c0]
      simp_arith! []
      exact ⟨false, rfl, ⟨fun h => (by cases h), fun M => (c0 M.1).elim⟩⟩
  obtain ⟨b, h1, h2⟩ := body
  exact ⟨b, defFin_v hw (fz_bl _ _) h1, h2⟩
end Lw87
namespace Lw87
open PySem PD
variable {st : Sto}
/-! ### odd things -/
theorem iRange_m {a : SA} {ρ : Ev} {st st' : Sto} {n : Nat} (h : a ρ st = .ok [.int (n : Int)] st') (hn : n ≤ 1000 := by omega) : iRange1 a ρ st = .ok ((List.range n).map fun i : Nat => D.int (i : Int), none) st' := by
  unfold iRange1
  rw [h, bind_ok]
  dsimp only
  rw [if_pos (by omega), Int.toNat_natCast]
  unfold rangeL
  congr 2
  refine List.map_congr_left fun k _ => ?_
  show D.int _ = D.int _
  rw [Int.zero_add]
def FzU (k : Nat) (x : D) : Prop := ∀ f, k ≤ f → Fz f x
theorem FzU.tup {k : Nat} {x : D} (h : FzU k x) : FzU (k + 1) (.tup [x]) := fun f hf => by
  obtain ⟨g, rfl⟩ : ∃ g, f = g + 1 := ⟨f - 1, by omega⟩
  exact fz_tup fun d hd => by
    rw [List.mem_singleton] at hd
    subst hd
    exact h g (by omega)
theorem FzU.lst {k : Nat} {x : D} (h : FzU k x) : FzU (k + 1) (.lst [x]) := fun f hf => by
  obtain ⟨g, rfl⟩ : ∃ g, f = g + 1 := ⟨f - 1, by omega⟩
  exact fz_lst fun d hd => by
    rw [List.mem_singleton] at hd
    subst hd
    exact h g (by omega)
theorem FzU.dk {k : Nat} {x : D} {key : L2.Key} (h : FzU k x) : FzU (k + 1) (.dk [key] [x]) := fun f hf st n => by
  obtain ⟨g, rfl⟩ : ∃ g, f = g + 1 := ⟨f - 1, by omega⟩
  rw [frzD]
  have e : allSome ([x].map (frzD st n g)) = some [x] := allSome_id fun d hd => by
    rw [List.mem_singleton] at hd
    subst hd
    exact h g (by omega) st n
  simp only [e, Option.map_some]
theorem FzU.dk0 : FzU 1 (.dk [] []) := fun f hf st n => by
  obtain ⟨g, rfl⟩ : ∃ g, f = g + 1 := ⟨f - 1, by omega⟩
  rfl
theorem deep_t {o : MO} {rest : Sto} (hw : WF (o :: rest)) (ho : HandO o) : ∃ o' x, HandO o' ∧ Sh x ∧ FzU 40 x ∧ F_law_deep [.ref 0] (o :: rest) = .ok x (o' :: rest) := by
  have z2 := sizeLine_eq
  have body : ∃ o' x, HandO o' ∧ Sh x ∧ FzU 40 x ∧ b_law_deep (startD 3 [.ref 0]) (o :: rest) = some (.rt x, o' :: rest) := by
    have h0 : (startD 3 [.ref 0])[0]? = some (some (.ref 0)) := rfl
    have hl : (startD 3 [.ref 0]).length = 3 := rfl
    generalize startD 3 [.ref 0] = ρ at h0 hl
    obtain ⟨o1, d1, ho1, l1, e1⟩ := draw_n (rest := rest) hw ho (m := 5) (by omega) (by omega)
    have e1 : F_law_draw [.ref 0, .int 5] (o :: rest) = .ok (.int (d1 : Int)) (o1 :: rest) := e1
    have st1 : ∃ x, Sh x ∧ FzU 2 x ∧ fIx (.lst [.non, .int 5, .int (-1), .dk [] [], .bl true]) (.int (d1 : Int)) (o1 :: rest) = .ok x (o1 :: rest) := by
      rcases (show d1 = 0 ∨ d1 = 1 ∨ d1 = 2 ∨ d1 = 3 ∨ d1 = 4 by omega) with rfl | rfl | rfl | rfl | rfl
      · exact ⟨_, .nt rfl, fun f _ => fz_non f, rfl⟩
      · exact ⟨_, .nt rfl, fun f _ => fz_int f _, rfl⟩
      · exact ⟨_, .nt rfl, fun f _ => fz_int f _, rfl⟩
      · exact ⟨_, .nt rfl, fun f hf => FzU.dk0 f (by omega), rfl⟩
      · exact ⟨_, .nt rfl, fun f _ => fz_bl f _, rfl⟩
    obtain ⟨x1, s1, f1, g1⟩ := st1
    have w1 := wf_hand hw ho1
    obtain ⟨o2, d2, ho2, l2, e2⟩ := draw_n (rest := rest) w1 ho1 (m := 28) (by omega) (by omega)
    have e2 : F_law_draw [.ref 0, .int 28] (o1 :: rest) = .ok (.int (d2 : Int)) (o2 :: rest) := e2
    unfold b_law_deep
    simp_arith! [h0, hl, e1, g1]
    have ec : (1 : Int) + (d2 : Int) = ((1 + d2 : Nat) : Int) := by omega
    rw [iRange_m (n := 1 + d2) (st' := o2 :: rest) (by simp_arith! [h0, hl, e2, ec])]
    simp_arith! [List.length_range]
    generalize hL : loopFor _ _ _ _ _ _ _ _ = R
    obtain ⟨ρ', st', rfl, i, o', x, hd, ho', sx, fx, k0, k1, kl, rfl⟩ := for_all_e hL (List.range (1 + d2)) (fun i : Nat => D.int (i : Int)) rfl (by simp) (fun r ρ st' => ∃ i o' x, List.range (1 + d2) = List.range i ++ r ∧ HandO o' ∧ Sh x ∧ FzU (2 + i) x ∧ ρ[0]? = some (some (.ref 0)) ∧ ρ[1]? = some (some x) ∧ ρ.length = 3 ∧ st' = o' :: rest) (fun _ _ _ _ => still_none _ _) ⟨0, o2, x1, by simp, ho2, s1, f1, by simp_arith! [h0], by simp_arith! [hl], by simp_arith! [hl], rfl⟩ (by
      rintro y r ρ st' ⟨i, o', x, hd, ho', sx, fx, h0, h1, hl, rfl⟩
      obtain ⟨rfl, hi, hd⟩ := range_step hd
      obtain ⟨o3, d3, ho3, l3, e3⟩ := draw_n (rest := rest) (wf_hand hw ho') ho' (m := 3) (by omega) (by omega)
      have e3 : F_law_draw [.ref 0, .int 3] (o' :: rest) = .ok (.int (d3 : Int)) (o3 :: rest) := e3
      have st2 : ∃ x2, Sh x2 ∧ FzU (2 + (y + 1)) x2 ∧ fIx (.lst [.tup [x], .lst [x], .dk [.inl 0] [x]]) (.int (d3 : Int)) (o3 :: rest) = .ok x2 (o3 :: rest) := by
        rcases (show d3 = 0 ∨ d3 = 1 ∨ d3 = 2 by omega) with rfl | rfl | rfl
        · exact ⟨_, .tup sx, FzU.tup fx, rfl⟩
        · exact ⟨_, .nt rfl, FzU.lst fx, rfl⟩
        · exact ⟨_, .nt rfl, FzU.dk fx, rfl⟩
      obtain ⟨x2, s2, f2, g2⟩ := st2
      refine ⟨_, rfl, (ρ.set 2 (some (.int (y : Int)))).set 1 (some x2), o3 :: rest, .inl ?_, y + 1, o3, x2, hd, ho3, s2, f2, by simp_arith! [h0], by simp_arith! [hl], by simp_arith! [hl], rfl⟩
      simp_arith! [h0, h1, hl, sDict1_e, e3, g2])
    have := range_end hd
    subst this
    exact ⟨o', x, ho', sx, fun f hf => fx f (by omega), by simp_arith! [k1]⟩
  obtain ⟨o', x, h1, h2, h3, h4⟩ := body
  exact ⟨o', x, h1, h2, h3, defFin_rt (ex := []) (by rw [List.append_nil]; exact h4) rfl (wf_hand hw h1) (by rw [List.append_nil]; exact h3 60 (by omega) _ _)⟩
theorem odd_t {o : MO} {rest : Sto} (hw : WF (o :: rest)) (ho : HandO o) : ∃ o' x, HandO o' ∧ Sh x ∧ Fz 60 x ∧ F_law_odd [.ref 0] (o :: rest) = .ok x (o' :: rest) := by
  have z2 := sizeLine_eq
  obtain ⟨o1, x1, ho1, s1, f1, e1⟩ := deep_t hw ho
  have w1 := wf_hand hw ho1
  have al : ∀ x ∈ [D.non, .bl true, .bl false, .int 0, .int (-1), .int 999, .int 9223372036854775808, .str "p", .str "", .tup [], .lst [], .dk [] [], .tup [.int 1], .tup [.str "a"], x1], Sh x ∧ Fz 60 x := by
    intro x hx
    simp only [List.mem_cons, List.not_mem_nil, or_false] at hx
    rcases hx with rfl | rfl | rfl | rfl | rfl | rfl | rfl | rfl | rfl | rfl | rfl | rfl | rfl | rfl | rfl
    · exact ⟨.nt rfl, fz_non _⟩
    · exact ⟨.nt rfl, fz_bl _ _⟩
    · exact ⟨.nt rfl, fz_bl _ _⟩
    · exact ⟨.nt rfl, fz_int _ _⟩
    · exact ⟨.nt rfl, fz_int _ _⟩
    · exact ⟨.nt rfl, fz_int _ _⟩
    · exact ⟨.nt rfl, fz_int _ _⟩
    · exact ⟨.nt rfl, fz_str _ _⟩
    · exact ⟨.nt rfl, fz_str _ _⟩
    · exact ⟨.nil, fz_tup fun d hd => by cases hd⟩
    · exact ⟨.nt rfl, fz_lst fun d hd => by cases hd⟩
    · exact ⟨.nt rfl, FzU.dk0 60 (by omega)⟩
    · exact ⟨.tup (.nt rfl), fz_row 59 [1]⟩
    · exact ⟨.tup (.nt rfl), fz_tup fun d hd => by
        rw [List.mem_singleton] at hd
        subst hd
        exact fz_str _ _⟩
    · exact ⟨s1, f1 60 (by omega)⟩
  obtain ⟨o2, x, ho2, hx, e2⟩ := law_some_t w1 ho1 _ (by simp) (by simp) fun x hx => (al x hx).2
  refine ⟨o2, x, ho2, (al x hx).1, (al x hx).2, ?_⟩
  refine defFin_rt (ex := []) (st' := o2 :: rest) (d := x) ?_ rfl (wf_hand hw ho2) (by rw [List.append_nil]; exact (al x hx).2 _ _)
  rw [List.append_nil]
  have h0 : (startD 1 [.ref 0])[0]? = some (some (.ref 0)) := rfl
  generalize startD 1 [.ref 0] = ρ at h0
  unfold b_law_odd
  simp_arith! [h0, fShl_63, e1, e2]
end Lw87
namespace Lw87
open PySem PD
variable {st : Sto}
/-! ### the nearest mend, in plain mathematics -/
theorem wsum_rz (f : Nat → Nat → Int) (T : Int) : ∀ (l : List Nat), l.Nodup → wsum (rz f T) l = 60 * wsum f l + ((l.length - 1 : Nat) : Int) * T
  | [], _ => by simp [wsum]
  | [a], _ => by simp [wsum]
  | a :: b :: r, d => by
    have ih := wsum_rz f T (b :: r) (List.nodup_cons.mp d).2
    have hab : a ≠ b := fun e => (List.nodup_cons.mp d).1 (by rw [e]; exact List.mem_cons_self)
    have e1 : wsum (rz f T) (a :: b :: r) = rz f T a b + wsum (rz f T) (b :: r) := rfl
    have e2 : wsum f (a :: b :: r) = f a b + wsum f (b :: r) := rfl
    have e3 : rz f T a b = 60 * f a b + T := by unfold rz; rw [if_neg hab]
    rw [e1, e2, ih, e3]
    have e4 : (((a :: b :: r).length - 1 : Nat) : Int) = (((b :: r).length - 1 : Nat) : Int) + 1 := by simp
    rw [e4, Int.add_mul]
    omega
theorem mend_fw {n : Nat} (n5 : n ≤ 5) {f : Nat → Nat → Int} (v : TabP n f) {T : Int} (h0 : 0 ≤ T) (hT : ∀ w ∈ waysL n (n - 1), ask f w ≤ T) : Mend n (fw (rz f T) n) ∧ mx (offs n f (fw (rz f T) n)) ≤ T := by
  have mt := rz_met h0 (f := f) fun i j hi hj => (v.lo i j hi hj).1
  have mf := mt.fw n (Nat.le_refl _)
  have sy := fw_sy (n := n) (d := rz f T) (fun a b ha hb => by
    unfold rz
    by_cases e : a = b
    · subst e; rfl
    · rw [if_neg e, if_neg fun q => e q.symm, v.sy a b ha hb]) n (Nat.le_refl _)
  refine ⟨⟨fun i j hi hj => ⟨sy i j hi hj, mf.nn i j hi hj, fun e => by subst e; exact mf.dg i hi⟩, fw_tr mt⟩, (mx_le h0).mpr fun x hx => ?_⟩
  obtain ⟨p, hp, rfl⟩ := List.mem_map.mp hx
  obtain ⟨p1, p2⟩ := mem_pairsL hp
  obtain ⟨i, j⟩ := p
  simp only at p1 p2 ⊢
  have hi : i < n := by omega
  have up := fw_le (n := n) (d := rz f T) n i j
  have e3 : rz f T i j = 60 * f i j + T := by unfold rz; rw [if_neg (by omega)]
  obtain ⟨r, r1, r2, r3⟩ := fw_walk (n := n) (d := rz f T) n (Nat.le_refl _) i j hi p2
  obtain ⟨s, s1, s2, s3, s4⟩ := shorten (n := n) (w := rz f T) (fun a b ha hb => mt.nn a b ha hb) i r r1
  have ln := nodup_len s1 s2
  have sn : s ≠ [] := fun e => by
    subst e
    rw [r2] at s3
    have : i = j := s3
    omega
  have sl : 1 ≤ s.length := List.length_pos_iff.mpr sn
  have hw := hT (i :: s) (mem_waysL.mpr ⟨⟨by simp; omega, by omega⟩, s1, s2⟩)
  have ea : ask f (i :: s) = (f i j - wsum f (i :: s)) * (60 / ((i :: s).length : Int)) := by
    unfold ask
    rw [s3, r2]
    rfl
  have e60 := ask_60 (f i j - wsum f (i :: s)) (l := (i :: s).length) (by simp) (by omega)
  rw [← ea] at e60
  have m1 : ask f (i :: s) * ((i :: s).length : Int) ≤ T * ((i :: s).length : Int) := Int.mul_le_mul_of_nonneg_right hw (by omega)
  have ws := wsum_rz f T (i :: s) s1
  have el : (((i :: s).length : Nat) : Int) = ((s.length : Nat) : Int) + 1 := by simp
  have el2 : (((i :: s).length - 1 : Nat) : Int) = ((s.length : Nat) : Int) := by simp
  rw [el2] at ws
  rw [el] at e60 m1
  simp only [Int.mul_add, Int.mul_one] at e60 m1
  rw [Int.mul_comm ((s.length : Nat) : Int) T] at ws
  generalize T * ((s.length : Nat) : Int) = z at m1 ws
  generalize ask f (i :: s) * ((s.length : Nat) : Int) = y at m1 e60
  rw [r3] at s4
  rw [ws] at s4
  unfold absI2
  split <;> omega
theorem agree {n : Nat} {f F : Nat → Nat → Int} {T : Int} (h0 : 0 ≤ T) (o : Option (List Nat)) : Judged n f F T o ↔ Right n f F T T o := by
  unfold Judged Right
  cases o with
  | none =>
    constructor
    · rintro ⟨h1, h2, h3⟩
      exact ⟨rfl, h1, h2, fun _ => rfl, fun e => absurd h3 e⟩
    · rintro ⟨_, h1, h2, _, h4⟩
      refine ⟨h1, h2, Classical.byContradiction fun e => ?_⟩
      obtain ⟨w, q, _⟩ := h4 e
      cases q
  | some w =>
    constructor
    · rintro ⟨h1, h2, h3, h4⟩
      exact ⟨rfl, h1, h2, fun e => by omega, fun _ => ⟨w, rfl, h4⟩⟩
    · rintro ⟨_, h1, h2, h3, h4⟩
      by_cases e : T = 0
      · cases h3 e
      · obtain ⟨w', q, h5⟩ := h4 e
        cases q
        exact ⟨h1, h2, by omega, h5⟩
theorem bool_iff {a b : Bool} {p q : Prop} (h1 : a = true ↔ p) (h2 : b = true ↔ q) (h : p ↔ q) : a = b := by
  cases a <;> cases b <;> simp_all
end Lw87
namespace Lw87
open PySem PD
variable {st : Sto}
theorem plain_lc {ρ : Ev} {st st' : Sto} {n : Nat} {g : Nat → Nat → Int} {it : SI} (hn : n ≤ 1000) (hit : it ρ st = .ok ((List.range n).map fun i => rowT n g i, none) st') (hl : ρ.length = 17) :
    sLC false it (gN 15) tYesD (sB bTuple (aCons (sLC false (iSeq (sVar 15)) (gN 16) tYesD (sTup (aCons (sVar 16) (aCons (sC (.int 1)) aNil))) [16]) aNil)) [15] ρ st = .ok (.lst ((List.range n).map fun i => rowF n (fun a b => 60 * g a b) i)) st' := by
  have z2 := sizeLine_eq
  unfold sLC
  rw [hit]
  have := sLC_map (m := false) (dy := none) (it := fun ρ st => .ok ((List.range n).map fun i => rowT n g i, none) st) (g := gN 15) (e := sB bTuple (aCons (sLC false (iSeq (sVar 15)) (gN 16) tYesD (sTup (aCons (sVar 16) (aCons (sC (.int 1)) aNil))) [16]) aNil)) (vs := [15]) (ρ := ρ) (st := st') (List.range n) (fun i => rowT n g i) (fun i => rowF n (fun a b => 60 * g a b) i) rfl (still_none _ _) (by simp; omega) fun i hi => ⟨_, rfl, by
    simp_arith! []
    rw [sLC_map (dy := none) (List.range n) (fun j => D.int (g i j)) (fun j => fr (60 * g i j)) (by simp_arith! [iSeq_e, hl]) (still_none _ _) (by simp; omega) fun j hj => ⟨_, rfl, by
      simp_arith! [hl]
      rw [fr_int]⟩]
    simp_arith! []⟩
  unfold sLC at this
  exact this
/-- both judges say the same -/
def Same1 (n : Nat) (f : Nat → Nat → Int) (S : Sto) (x : D) : Prop := ∃ b, F_is_mend [tabT n f, x] S = .ok (.bl b) S ∧ F_law_is_mend [.int (n : Int), x] S = .ok (.bl b) S
def Same2 (n : Nat) (f : Nat → Nat → Int) (T : Int) (S : Sto) (x : D) : Prop := ∃ b, F_is_nearest_mend [tabT n f, x] S = .ok (.bl b) S ∧ F_law_is_right [tabT n f, fr T, x] S = .ok (.bl b) S
theorem same1_F {n : Nat} {f : Nat → Nat → Int} {S : Sto} (hw : WF S) (v : TabP n f) (G : Nat → Nat → Int) : Same1 n f S (tabF n G) := by
  obtain ⟨b, h1, h2⟩ := is_mend_of_t hw v.n1 v.n7 G
  obtain ⟨c, h3, h4⟩ := law_is_mend_t hw v.n1 v.n7 G
  have e := bool_iff h2 h4 Iff.rfl
  subst e
  exact ⟨b, is_mend_x hw v h1, h3⟩
theorem same1_no {n : Nat} {f : Nat → Nat → Int} {S : Sto} (hw : WF S) (v : TabP n f) {x : D} (h1 : F_is_mend_of [.int (n : Int), x] S = .ok (.bl false) S) (h2 : F_law_is_mend [.int (n : Int), x] S = .ok (.bl false) S) : Same1 n f S x := ⟨false, is_mend_x hw v h1, h2⟩
theorem same1_sh {n : Nat} {f : Nat → Nat → Int} {S : Sto} (hw : WF S) (v : TabP n f) {x : D} (h : Sh x) : Same1 n f S x := same1_no hw v (is_mend_of_sh hw h v.n1) (law_is_mend_sh hw h v.n1)
theorem same2_T {n : Nat} (n5 : n ≤ 5) {f : Nat → Nat → Int} {T : Int} (T0 : 0 ≤ T) {S : Sto} (hw : WF S) (v : TabP n f) (G : Nat → Nat → Int) (o : Option (List Nat)) (ho : GoodO n o) : Same2 n f T S (.tup [fr T, tabF n G, wayO o]) := by
  obtain ⟨b, h1, h2⟩ := nearest_t hw n5 v G T o ho
  obtain ⟨c, h3, h4⟩ := right_t hw n5 v G T T o ho
  have e := bool_iff h2 h4 (agree T0 o)
  subst e
  exact ⟨b, h1, h3⟩
theorem same2_up {n : Nat} (n5 : n ≤ 5) {f : Nat → Nat → Int} {T : Int} {S : Sto} (hw : WF S) (v : TabP n f) (G : Nat → Nat → Int) (o : Option (List Nat)) (ho : GoodO n o) (h0 : 0 ≤ T) (ha : ∀ w, o = some w → ask f w ≤ T) : Same2 n f T S (.tup [fr (T + 60), tabF n G, wayO o]) := by
  obtain ⟨b, h1, h2⟩ := nearest_t hw n5 v G (T + 60) o ho
  obtain ⟨c, h3, h4⟩ := right_t hw n5 v G T (T + 60) o ho
  have e := bool_iff h2 h4 (by
    constructor
    · rintro ⟨_, _, h⟩
      cases o with
      | none => simp only at h; omega
      | some w => have := ha w rfl; simp only at h; omega
    · rintro ⟨h, _⟩; omega)
  subst e
  exact ⟨b, h1, h3⟩
theorem same2_no {n : Nat} {f : Nat → Nat → Int} {T : Int} {S : Sto} (hw : WF S) (v : TabP n f) {x : D} (h : ntD x = true ∨ ∃ xs, x = .tup xs ∧ xs.length ≤ 2) : Same2 n f T S x := by
  refine ⟨false, nearest_nt hw v ?_, right_nt hw ?_⟩
  · rcases h with h | ⟨xs, rfl, h⟩
    · exact is_sized_nt hw h _ _
    · rw [is_sized_t hw, decide_eq_false (by omega)]
  · rcases h with h | ⟨xs, rfl, h⟩
    · exact .inl (ty_nt h)
    · exact .inr ⟨xs, rfl, by omega⟩
theorem law_plain (ns : List Int) (hn : ns.length ≤ 63) : ∃ st', F_law [.fz (ns.map D.int)] [] = .ok (.bl true) st' := by
  have z2 := sizeLine_eq
  have body : ∃ ex, b_law (startD 17 [.fz (ns.map D.int)]) [] = some (.rt (.bl true), [] ++ ex) := by
    obtain ⟨o, ho, e1⟩ := hand_t ns hn
    have hl0 : (startD 17 [.fz (ns.map D.int)]).length = 17 := rfl
    have h00 : (startD 17 [.fz (ns.map D.int)])[0]? = some (some (.fz (ns.map D.int))) := rfl
    generalize startD 17 [.fz (ns.map D.int)] = ρ0 at hl0 h00
    generalize D.fz (ns.map D.int) = x0 at e1 h00
    have wfo : WF [o] := by
      obtain ⟨cs', p', q', r', k', rfl, _⟩ := ho
      exact WF.nil.app (noRef_hand _ cs' p' q' r' k')
    unfold b_law
    rw [qSeq_e]
    simp_arith! [h00, e1, hl0]
    rw [iRange1_nat (j := 4) (by simp_arith! []; rfl) (by omega)]
    simp_arith! []
    generalize hL : loopFor _ _ _ _ _ _ _ _ = R
    obtain ⟨ρ', st', rfl, o', hfin⟩ := for_all_e hL (List.range 4) (fun i : Nat => D.int (i : Int)) rfl (by simp) (fun r ρ st' => ∃ o', HandO o' ∧ WF [o'] ∧ ρ.length = 17 ∧ ρ[1]? = some (some (.ref 0)) ∧ st' = [o']) (fun _ _ _ _ => still_none _ _) ⟨o, ho, wfo, by simp_arith! [hl0], by simp_arith! [hl0], rfl⟩ (by
      rintro tn r ρ st' ⟨o1, ho1, hw1, hl, h1, rfl⟩
      clear hL
      refine ⟨_, rfl, ?_⟩
      generalize hN : qSeq _ _ _ _ = R2
      obtain ⟨o2, d1, ho2, l1, e2⟩ := draw_n hw1 ho1 (m := 5) (by omega) (by omega)
      have e2 : F_law_draw [.ref 0, .int 5] [o1] = .ok (.int (d1 : Int)) [o2] := e2
      have hw2 := wf_hand hw1 ho2
      obtain ⟨o3, x3, ho3, hx3, e3⟩ := law_some_t hw2 ho2 [.int 3, .int 9, .int 40] (by simp) (by simp) fun x hx => by
        simp only [List.mem_cons, List.not_mem_nil, or_false] at hx
        rcases hx with rfl | rfl | rfl <;> exact fz_int _ _
      obtain ⟨top, t0, t1, rfl⟩ : ∃ top : Int, 1 ≤ top ∧ top ≤ 40 ∧ x3 = .int top := by
        simp only [List.mem_cons, List.not_mem_nil, or_false] at hx3
        rcases hx3 with rfl | rfl | rfl
        · exact ⟨3, by omega, by omega, rfl⟩
        · exact ⟨9, by omega, by omega, rfl⟩
        · exact ⟨40, by omega, by omega, rfl⟩
      have hw3 := wf_hand hw2 ho3
      obtain ⟨n, hn1, hn5, en⟩ : ∃ n : Nat, 1 ≤ n ∧ n ≤ 5 ∧ (1 : Int) + (d1 : Int) = (n : Int) := ⟨1 + d1, by omega, by omega, by omega⟩
      obtain ⟨o4, f, ho4, rf, e4⟩ := law_table_t hw3 ho3 (n := n) (by omega) (top := top) (by omega) (by omega)
      have hw4 := wf_hand hw3 ho4
      have v : TabP n f := rf.tab hn1 (by omega) (by omega)
      clear hw1 hw2 hw3
      simp_arith! [hl, h1, e2, e3, en, e4, List.length_range] at hN
      have aw := law_ways_t hw4 hn1 hn5
      have wl := waysL_len (t := n - 1) hn5 (by omega)
      generalize hρ1 : List.set _ 4 _ = ρ1 at hN
      have k0 : ρ1.length = 17 := by rw [← hρ1]; simp_arith! [hl]
      have k1 : ρ1[1]? = some (some (.ref 0)) := by rw [← hρ1]; simp_arith! [hl, h1]
      have k3 : ρ1[3]? = some (some (tabT n f)) := by rw [← hρ1]; simp_arith! [hl]
      have k4 : ρ1[4]? = some (some (.int (n : Int))) := by rw [← hρ1]; simp_arith! [hl]
      clear hρ1
      rw [sLC_map (dy := none) (waysL n (n - 1)) nats (fun w => fr (ask f w)) (by simp_arith! [iSeq_e, k4, aw]) (still_none _ _) (by omega) fun w hw => ⟨_, rfl, by
        obtain ⟨⟨w1, w2⟩, w3, w4⟩ := mem_waysL.mp hw
        simp_arith! [k0, k3, law_ask_t hw4 v.n7 f (w := w) (fun e => by rw [e] at w1; simp at w1) (by omega) w4]⟩] at hN
      rw [show (waysL n (n - 1)).map (fun w => fr (ask f w)) = ((waysL n (n - 1)).map (ask f)).map fr by rw [List.map_map]; rfl] at hN
      have lm := law_most_t hw4 (l := (waysL n (n - 1)).map (ask f)) (by rw [List.length_map]; omega)
      have nm := nearest_mend_t hw4 hn5 v
      have inv := bestW_inv f (waysL n (n - 1))
      rw [← bestW_mx] at lm
      have asks : ∀ w ∈ waysL n (n - 1), ask f w ≤ (bestW f (waysL n (n - 1))).1 := fun w hw => by
        rw [bestW_mx]; exact mx_ge (List.mem_map.mpr ⟨w, hw, rfl⟩)
      have T0 : 0 ≤ (bestW f (waysL n (n - 1))).1 := by rw [bestW_mx]; exact mx_nn _
      generalize bestW f (waysL n (n - 1)) = b at lm nm inv asks T0
      obtain ⟨T, wo⟩ := b
      simp only at asks T0 lm nm
      obtain ⟨M1, M2⟩ := mend_fw hn5 v T0 asks
      have go : GoodO n wo := by
        rcases inv with ⟨q, _⟩ | ⟨w, q, hw, _⟩
        · simp only at q; subst q; trivial
        · simp only at q; subst q
          obtain ⟨⟨w1, w2⟩, w3, w4⟩ := mem_waysL.mp hw
          exact ⟨w1, by omega, w3, w4⟩
      have rt : Right n f (fw (rz f T) n) T T wo := by
        refine ⟨rfl, M1, M2, fun e => ?_, fun e => ?_⟩
        · rcases inv with ⟨q, _⟩ | ⟨w, q, hw, _, p⟩
          · exact q
          · simp only at p; omega
        · rcases inv with ⟨_, p⟩ | ⟨w, q, hw, p, _⟩
          · simp only at p; exact absurd p e
          · exact ⟨w, q, p⟩
      have fwMet := rz_met (n := n) T0 (f := f) fun i j hi hj => (v.lo i j hi hj).1
      generalize hF : fw (rz f T) n = F at M1 M2 rt nm
      unfold toldD at nm
      simp only at nm
      obtain ⟨b1, er, hb1⟩ := right_t hw4 hn5 v F T T wo go
      rw [hb1.mpr rt] at er
      obtain ⟨b2, en2, hb2⟩ := nearest_t hw4 hn5 v F T wo go
      rw [hb2.mpr ((agree T0 wo).mpr rt)] at en2
      have nb : ∀ st, fNotBl (.bl true) (.bl true) st = .ok (.bl false) st := fun _ => rfl
      have i0 : ∀ st, fIx (.tup [fr T, tabF n F, wayO wo]) (.int 0) st = .ok (fr T) st := fun st => fIx_tup (i := 0) rfl
      have i1 : ∀ st, fIx (.tup [fr T, tabF n F, wayO wo]) (.int 1) st = .ok (tabF n F) st := fun st => fIx_tup (i := 1) rfl
      have i2 : ∀ st, fIx (.tup [fr T, tabF n F, wayO wo]) (.int 2) st = .ok (wayO wo) st := fun st => fIx_tup (i := 2) rfl
      have ol := offs_len v.n7 f F
      have lo := law_offs_t hw4 v.n7 f F
      have om := off_most_t hw4 v M1
      have os := off_sum_t hw4 v M1
      have op := off_pairs_t hw4 v M1
      have lm2 := law_most_t hw4 (l := offs n f F) (by omega)
      have ls2 := law_sum_t hw4 (l := offs n f F) (by omega)
      simp_arith! [lm, k0, k3, nm, er, en2, nb, i0, i1, i2, lo, om, os, op, lm2, ls2, law_is_fr hw4] at hN
      generalize hρ2 : List.set _ 8 _ = ρ2 at hN
      have m0 : ρ2.length = 17 := by rw [← hρ2]; simp_arith! [k0]
      have m1 : ρ2[1]? = some (some (.ref 0)) := by rw [← hρ2]; simp_arith! [k1]
      have m3 : ρ2[3]? = some (some (tabT n f)) := by rw [← hρ2]; simp_arith! [k3]
      have m4 : ρ2[4]? = some (some (.int (n : Int))) := by rw [← hρ2]; simp_arith! [k4]
      have m5 : ρ2[5]? = some (some (fr T)) := by rw [← hρ2]; simp_arith! [k0]
      have m6 : ρ2[6]? = some (some (.tup [fr T, tabF n F, wayO wo])) := by rw [← hρ2]; simp_arith! [k0]
      have m7 : ρ2[7]? = some (some (tabF n F)) := by rw [← hρ2]; simp_arith! [k0]
      have m8 : ρ2[8]? = some (some (.lst ((offs n f F).map fr))) := by rw [← hρ2]; simp_arith! [k0]
      clear hρ2 k0 k1 k3 k4
      rw [sLC_if (dy := none) (offs n f F) fr (fun x => decide (0 < x)) fr (by simp_arith! [iSeq_e, m8]) (still_none _ _) (by omega) fun x hx => ⟨_, rfl, by
        simp_arith! [m0, fIx_fr0, fGt_i, tp_pos]
        exact fun _ => trivial⟩] at hN
      have ef : (offs n f F).filter (fun x => decide (0 < x)) = (offs n f F).filter (fun x => !decide (x = 0)) := List.filter_congr fun x hx => by
        have := offs_nn x hx
        by_cases e : x = 0
        · subst e; rfl
        · rw [decide_eq_true (show 0 < x by omega), decide_eq_false e]; rfl
      rw [ef] at hN
      simp_arith! [m0, law_is_i hw4] at hN
      clear lo om os op lm2 ls2 lm nm er en2 aw e1 e2 e3 e4
      rw [plain_lc (st' := [o4]) (n := n) (g := f) (by omega) (by simp_arith! [iSeq_e, m3]) m0] at hN
      simp_arith! [] at hN
      have fMet : Met n f := ⟨fun a ha => (v.dg a a ha ha).mpr rfl, fun a b ha hb => (v.lo a b ha hb).1⟩
      have cl := law_closing_t hw4 (n := n) (by omega) fMet
      generalize hρ3 : List.set ρ2 9 _ = ρ3 at hN
      have p0 : ρ3.length = 17 := by rw [← hρ3]; simp_arith! [m0]
      have p1 : ρ3[1]? = some (some (.ref 0)) := by rw [← hρ3]; simp_arith! [m1]
      have p3 : ρ3[3]? = some (some (tabT n f)) := by rw [← hρ3]; simp_arith! [m3]
      have p4 : ρ3[4]? = some (some (.int (n : Int))) := by rw [← hρ3]; simp_arith! [m4]
      have p5 : ρ3[5]? = some (some (fr T)) := by rw [← hρ3]; simp_arith! [m5]
      have p6 : ρ3[6]? = some (some (.tup [fr T, tabF n F, wayO wo])) := by rw [← hρ3]; simp_arith! [m6]
      have p7 : ρ3[7]? = some (some (tabF n F)) := by rw [← hρ3]; simp_arith! [m7]
      have p9 : ρ3[9]? = some (some (tabF n fun a b => 60 * f a b)) := by rw [← hρ3]; simp_arith! [m0]
      clear hρ3 m0 m1 m3 m4 m5 m6 m7 m8
      rw [plain_lc (st' := [o4]) (n := n) (g := fw f n) (by omega) (by simp_arith! [iSeq_e, p3, cl]) p0] at hN
      obtain ⟨o5, x5, ho5, sx5, _, e5⟩ := odd_t hw4 ho4
      have hw5 := wf_hand hw4 ho5
      have bl : ∀ xs st, bList false [.tup xs] st = .ok (.lst xs) st := fun _ _ => rfl
      simp_arith! [p0, p1, p3, p4, p7, p9, iSeq_e, e5, bl] at hN
      generalize hM : loopFor _ _ _ _ _ _ _ _ = R3 at hN
      have al1 : ∀ x ∈ [tabF n F, tabF n fun a b => 60 * f a b, tabF n fun a b => 60 * fw f n a b, .tup (cutD ((List.range n).map fun i => rowF n F i) (some 1) none), .lst ((List.range n).map fun i => rowF n F i), tabT n f, .non, x5], Same1 n f [o5] x := by
        intro x hx
        simp only [List.mem_cons, List.not_mem_nil, or_false] at hx
        rcases hx with rfl | rfl | rfl | rfl | rfl | rfl | rfl | rfl
        · exact same1_F hw5 v _
        · exact same1_F hw5 v _
        · exact same1_F hw5 v _
        · have cl : (cutD ((List.range n).map fun i => rowF n F i) (some 1) none).length ≠ n := by
            rw [cut_1, List.length_drop, List.length_map, List.length_range]; omega
          exact same1_no hw5 v (is_mend_of_len hw5 cl) (law_is_mend_len hw5 cl)
        · exact same1_no hw5 v (is_mend_of_nt hw5 rfl _) (law_is_mend_nt hw5 rfl _)
        · exact same1_no hw5 v (is_mend_of_tab hw5 v.n1 v.n7 f) (law_is_mend_tab hw5 v.n1 v.n7 f)
        · exact same1_sh hw5 v (.nt rfl)
        · exact same1_sh hw5 v sx5
      obtain ⟨ρ4, rfl, q0, q1, q3, q4, q5, q6, q7, q9, q10⟩ := for_none_e hM [tabF n F, tabF n fun a b => 60 * f a b, tabF n fun a b => 60 * fw f n a b, .tup (cutD ((List.range n).map fun i => rowF n F i) (some 1) none), .lst ((List.range n).map fun i => rowF n F i), tabT n f, .non, x5] (fun d => d) rfl rfl (still_none _ _) (fun ρ => ρ.length = 17 ∧ ρ[1]? = some (some (.ref 0)) ∧ ρ[3]? = some (some (tabT n f)) ∧ ρ[4]? = some (some (.int (n : Int))) ∧ ρ[5]? = some (some (fr T)) ∧ ρ[6]? = some (some (.tup [fr T, tabF n F, wayO wo])) ∧ ρ[7]? = some (some (tabF n F)) ∧ ρ[9]? = some (some (tabF n fun a b => 60 * f a b)) ∧ ρ[10]? = some (some (tabF n fun a b => 60 * fw f n a b))) ⟨by simp_arith! [p0], by simp_arith! [p1], by simp_arith! [p3], by simp_arith! [p4], by simp_arith! [p5], by simp_arith! [p6], by simp_arith! [p7], by simp_arith! [p9], by simp_arith! [p0]⟩ (by
        rintro x hx ρ ⟨h0, h1, h3, h4, h5, h6, h7, h9, h10⟩
        obtain ⟨b, g1, g2⟩ := al1 x hx
        refine ⟨_, rfl, ρ.set 11 (some x), .inl ?_, by simp_arith! [h0], by simp_arith! [h1], by simp_arith! [h3], by simp_arith! [h4], by simp_arith! [h5], by simp_arith! [h6], by simp_arith! [h7], by simp_arith! [h9], by simp_arith! [h10]⟩
        simp_arith! [h0, h3, h4, g1, g2, law_is_b hw5])
      clear hM al1 p0 p1 p3 p4 p5 p6 p7 p9
      have way : ∃ o6 w6, HandO o6 ∧ GoodO n w6 ∧ sIf (tBl (s2 fGt (sVar 4) (sC (.int 1)))) (sCall 2 F_law_some (aCons (sVar 1) (aCons (sCall 1 F_law_ways (aCons (sVar 4) aNil)) aNil))) (sC .non) ρ4 [o5] = .ok (wayO w6) [o6] := by
        by_cases c : (1 : Int) < (n : Int)
        · have ws := law_ways_t hw5 hn1 hn5
          have ne : (waysL n (n - 1)).map nats ≠ [] := fun e => by
            have h1 := waysN_ne (n := n) (t := 1) (by omega)
            obtain ⟨w, hw⟩ := List.exists_mem_of_ne_nil _ h1
            obtain ⟨a1, a2, a3⟩ := mem_waysN.mp hw
            have : w ∈ waysL n (n - 1) := mem_waysL.mpr ⟨by omega, a2, a3⟩
            rw [List.map_eq_nil_iff.mp e] at this
            cases this
          obtain ⟨o6, x6, ho6, hx6, e6⟩ := law_some_t hw5 ho5 _ ne (by rw [List.length_map]; omega) fun x hx => by
            obtain ⟨w, _, rfl⟩ := List.mem_map.mp hx
            exact fz_nats 59 w
          obtain ⟨w, hw, rfl⟩ := List.mem_map.mp hx6
          obtain ⟨⟨w1, w2⟩, w3, w4⟩ := mem_waysL.mp hw
          exact ⟨o6, some w, ho6, ⟨w1, by omega, w3, w4⟩, by
            simp_arith! [q1, q4, c, ws, e6]
            rfl⟩
        · exact ⟨o5, none, ho5, trivial, by
            simp only [sIf_e, tBl_e, s2_e, sVar_e, q4, sC_e, bind_ok, fGt_i, c]
            rfl⟩
      obtain ⟨o6, w6, ho6, gw6, ew⟩ := way
      have hw6 := wf_hand hw5 ho6
      rw [then_nx, qSeq_e, qSet_e, ew] at hN
      simp only [st_ok, then_nx] at hN
      generalize hρ5 : List.set ρ4 12 _ = ρ5 at hN
      have r0 : ρ5.length = 17 := by rw [← hρ5]; simp_arith! [q0]
      have r1 : ρ5[1]? = some (some (.ref 0)) := by rw [← hρ5]; simp_arith! [q1]
      have r3 : ρ5[3]? = some (some (tabT n f)) := by rw [← hρ5]; simp_arith! [q3]
      have r5 : ρ5[5]? = some (some (fr T)) := by rw [← hρ5]; simp_arith! [q5]
      have r6 : ρ5[6]? = some (some (.tup [fr T, tabF n F, wayO wo])) := by rw [← hρ5]; simp_arith! [q6]
      have r7 : ρ5[7]? = some (some (tabF n F)) := by rw [← hρ5]; simp_arith! [q7]
      have r9 : ρ5[9]? = some (some (tabF n fun a b => 60 * f a b)) := by rw [← hρ5]; simp_arith! [q9]
      have r10 : ρ5[10]? = some (some (tabF n fun a b => 60 * fw f n a b)) := by rw [← hρ5]; simp_arith! [q10]
      have r12 : ρ5[12]? = some (some (wayO w6)) := by rw [← hρ5]; simp_arith! [q0]
      clear hρ5 q0 q1 q3 q4 q5 q6 q7 q9 q10
      obtain ⟨o7, x7, ho7, sx7, _, e7⟩ := odd_t hw6 ho6
      have hw7 := wf_hand hw6 ho7
      have pl := law_plus_t hw6 T 60
      rw [show (60 : Int) = 60 * 1 from rfl, fr_int] at pl
      have fa : ∀ st, fAdd (.tup [fr (T + 60 * 1)]) (.tup (cutD [fr T, tabF n F, wayO wo] (some 1) none)) st = .ok (.tup [fr (T + 60), tabF n F, wayO wo]) st := fun st => rfl
      simp_arith! [r0, r1, r3, r5, r6, r7, r9, r10, r12, i2, bl, pl, fa, e7, fAdd_lst, iSeq_e, List.cons_append, List.nil_append] at hN
      have aw : ∀ w, wo = some w → ask f w ≤ T := fun w e => by
        rcases inv with ⟨q, _⟩ | ⟨w', q, _, p, _⟩
        · simp only at q; rw [e] at q; cases q
        · simp only at q p; rw [e] at q; cases q; omega
      have al2 : ∀ x ∈ [D.tup [fr T, tabF n fun a b => 60 * fw f n a b, wayO wo], .tup [fr T, tabF n F, wayO w6], .tup [fr T, tabF n F, .non], .tup [fr T, tabF n fun a b => 60 * f a b, wayO wo], .lst [fr T, tabF n F, wayO wo], .tup (cutD [fr T, tabF n F, wayO wo] none (some 2)), .tup [fr (T + 60), tabF n F, wayO wo], .non, x7], Same2 n f T [o7] x := by
        intro x hx
        simp only [List.mem_cons, List.not_mem_nil, or_false] at hx
        rcases hx with rfl | rfl | rfl | rfl | rfl | rfl | rfl | rfl | rfl
        · exact same2_T hn5 T0 hw7 v _ wo go
        · exact same2_T hn5 T0 hw7 v _ w6 gw6
        · exact same2_T hn5 T0 hw7 v _ none trivial
        · exact same2_T hn5 T0 hw7 v _ wo go
        · exact same2_no hw7 v (.inl rfl)
        · exact same2_no hw7 v (.inr ⟨_, rfl, Nat.le_refl 2⟩)
        · exact same2_up hn5 hw7 v _ wo go T0 aw
        · exact same2_no hw7 v (.inl rfl)
        · cases sx7 with
          | nt h => exact same2_no hw7 v (.inl h)
          | nil => exact same2_no hw7 v (.inr ⟨_, rfl, by simp⟩)
          | tup h => exact same2_no hw7 v (.inr ⟨_, rfl, by simp⟩)
      obtain ⟨ρ6, rfl, s0, s1, _⟩ := for_none_e hN [D.tup [fr T, tabF n fun a b => 60 * fw f n a b, wayO wo], .tup [fr T, tabF n F, wayO w6], .tup [fr T, tabF n F, .non], .tup [fr T, tabF n fun a b => 60 * f a b, wayO wo], .lst [fr T, tabF n F, wayO wo], .tup (cutD [fr T, tabF n F, wayO wo] none (some 2)), .tup [fr (T + 60), tabF n F, wayO wo], .non, x7] (fun d => d) rfl rfl (still_none _ _) (fun ρ => ρ.length = 17 ∧ ρ[1]? = some (some (.ref 0)) ∧ ρ[3]? = some (some (tabT n f)) ∧ ρ[5]? = some (some (fr T))) ⟨by simp_arith! [r0], by simp_arith! [r1], by simp_arith! [r3], by simp_arith! [r5]⟩ (by
        rintro x hx ρ ⟨h0, h1, h3, h5⟩
        obtain ⟨b, g1, g2⟩ := al2 x hx
        refine ⟨_, rfl, ρ.set 11 (some x), .inl ?_, by simp_arith! [h0], by simp_arith! [h1], by simp_arith! [h3], by simp_arith! [h5]⟩
        simp_arith! [h0, h3, h5, g1, g2, law_is_b hw7])
      exact ⟨_, _, .inl rfl, o7, ho7, hw7, s0, s1, rfl⟩)
    obtain ⟨_, _, _, _, rfl⟩ := hfin
    exact ⟨[o'], by simp_arith! []; rfl⟩
  obtain ⟨ex, h⟩ := body
  exact ⟨[], defFin_rt h rfl WF.nil (fz_bl _ _ _ _)⟩
end Lw87
namespace Lw87
open PySem PySem.Spec PyProof.Rows L2 PD
def topS (i : Nat) : Stmt := PySem.Challenge.pw_farhouse_k87_whole_nearest_mends.main.body.getD i (.Pass ⟨0, 0, 0, 0⟩)
abbrev s_is_integer : Stmt := topS 1
abbrev s_is_within : Stmt := topS 2
abbrev s_is_sized : Stmt := topS 3
abbrev s_is_table : Stmt := topS 19
abbrev s_check_table : Stmt := topS 20
abbrev s_common : Stmt := topS 10
abbrev s_is_share : Stmt := topS 12
abbrev s_share : Stmt := topS 11
abbrev s_plus : Stmt := topS 13
abbrev s_is_less : Stmt := topS 15
abbrev s_is_mend_of : Stmt := topS 24
abbrev s_is_mend : Stmt := topS 25
abbrev s_minus : Stmt := topS 14
abbrev s_pairs_of : Stmt := topS 22
abbrev s_gaps_of : Stmt := topS 26
abbrev s_check_mend : Stmt := topS 27
abbrev s_most_of : Stmt := topS 28
abbrev s_off_most : Stmt := topS 30
abbrev s_sum_of : Stmt := topS 29
abbrev s_off_sum : Stmt := topS 31
abbrev s_off_pairs : Stmt := topS 32
abbrev s_lack_of : Stmt := topS 33
abbrev s_worst_way : Stmt := topS 34
abbrev s_shortest_shares : Stmt := topS 35
abbrev s_raised_by : Stmt := topS 36
abbrev s_nearest_mend : Stmt := topS 37
abbrev s_is_nearest_mend : Stmt := topS 38
abbrev s_law_hand : Stmt := topS 40
abbrev s_law_draw : Stmt := topS 41
abbrev s_law_some : Stmt := topS 42
abbrev s_law_table : Stmt := topS 43
abbrev s_law_closing : Stmt := topS 44
abbrev s_law_low : Stmt := topS 46
abbrev s_law_plus : Stmt := topS 47
abbrev s_law_sum : Stmt := topS 50
abbrev s_law_deep : Stmt := topS 52
abbrev s_law_odd : Stmt := topS 53
abbrev s_law_is : Stmt := topS 54
abbrev s_law_less : Stmt := topS 49
abbrev s_law_is_number : Stmt := topS 45
abbrev s_law_is_part : Stmt := topS 51
abbrev s_law_is_mend : Stmt := topS 55
abbrev s_law_minus : Stmt := topS 48
abbrev s_law_offs : Stmt := topS 56
abbrev s_law_most : Stmt := topS 57
abbrev s_law_ask : Stmt := topS 58
abbrev s_law_ways : Stmt := topS 59
abbrev s_law_is_right : Stmt := topS 60
abbrev s_law : Stmt := topS 61
theorem sc_is_integer : FnScope ["thing"] ["thing"] (defScope s_is_integer) := ⟨rfl, rfl, rfl, by decide +kernel, rfl, by decide +kernel, by decide +kernel⟩
theorem sc_is_within : FnScope ["thing", "low", "high"] ["thing", "low", "high"] (defScope s_is_within) := ⟨rfl, rfl, rfl, by decide +kernel, rfl, by decide +kernel, by decide +kernel⟩
theorem sc_is_sized : FnScope ["thing", "low", "high"] ["thing", "low", "high"] (defScope s_is_sized) := ⟨rfl, rfl, rfl, by decide +kernel, rfl, by decide +kernel, by decide +kernel⟩
theorem sc_is_table : FnScope ["thing", "i", "row", "one", "j"] ["thing"] (defScope s_is_table) := ⟨rfl, rfl, rfl, by decide +kernel, rfl, by decide +kernel, by decide +kernel⟩
theorem sc_check_table : FnScope ["thing"] ["thing"] (defScope s_check_table) := ⟨rfl, rfl, rfl, by decide +kernel, rfl, by decide +kernel, by decide +kernel⟩
theorem sc_common : FnScope ["one", "other"] ["one", "other"] (defScope s_common) := ⟨rfl, rfl, rfl, by decide +kernel, rfl, by decide +kernel, by decide +kernel⟩
theorem sc_is_share : FnScope ["thing", "one"] ["thing"] (defScope s_is_share) := ⟨rfl, rfl, rfl, by decide +kernel, rfl, by decide +kernel, by decide +kernel⟩
theorem sc_share : FnScope ["top", "bottom", "divisor"] ["top", "bottom"] (defScope s_share) := ⟨rfl, rfl, rfl, by decide +kernel, rfl, by decide +kernel, by decide +kernel⟩
theorem sc_plus : FnScope ["one", "other"] ["one", "other"] (defScope s_plus) := ⟨rfl, rfl, rfl, by decide +kernel, rfl, by decide +kernel, by decide +kernel⟩
theorem sc_is_less : FnScope ["one", "other"] ["one", "other"] (defScope s_is_less) := ⟨rfl, rfl, rfl, by decide +kernel, rfl, by decide +kernel, by decide +kernel⟩
theorem sc_is_mend_of : FnScope ["n", "thing", "i", "row", "j", "far", "k"] ["n", "thing"] (defScope s_is_mend_of) := ⟨rfl, rfl, rfl, by decide +kernel, rfl, by decide +kernel, by decide +kernel⟩
theorem sc_is_mend : FnScope ["table", "thing"] ["table", "thing"] (defScope s_is_mend) := ⟨rfl, rfl, rfl, by decide +kernel, rfl, by decide +kernel, by decide +kernel⟩
theorem sc_minus : FnScope ["one", "other"] ["one", "other"] (defScope s_minus) := ⟨rfl, rfl, rfl, by decide +kernel, rfl, by decide +kernel, by decide +kernel⟩
theorem sc_pairs_of : FnScope ["n", "found", "i", "j"] ["n"] (defScope s_pairs_of) := ⟨rfl, rfl, rfl, by decide +kernel, rfl, by decide +kernel, by decide +kernel⟩
theorem sc_gaps_of : FnScope ["table", "mend", "found", "i", "j", "far", "here"] ["table", "mend"] (defScope s_gaps_of) := ⟨rfl, rfl, rfl, by decide +kernel, rfl, by decide +kernel, by decide +kernel⟩
theorem sc_check_mend : FnScope ["table", "mend"] ["table", "mend"] (defScope s_check_mend) := ⟨rfl, rfl, rfl, by decide +kernel, rfl, by decide +kernel, by decide +kernel⟩
theorem sc_most_of : FnScope ["parts", "best", "one"] ["parts"] (defScope s_most_of) := ⟨rfl, rfl, rfl, by decide +kernel, rfl, by decide +kernel, by decide +kernel⟩
theorem sc_off_most : FnScope ["table", "mend"] ["table", "mend"] (defScope s_off_most) := ⟨rfl, rfl, rfl, by decide +kernel, rfl, by decide +kernel, by decide +kernel⟩
theorem sc_sum_of : FnScope ["parts", "found", "one"] ["parts"] (defScope s_sum_of) := ⟨rfl, rfl, rfl, by decide +kernel, rfl, by decide +kernel, by decide +kernel⟩
theorem sc_off_sum : FnScope ["table", "mend"] ["table", "mend"] (defScope s_off_sum) := ⟨rfl, rfl, rfl, by decide +kernel, rfl, by decide +kernel, by decide +kernel⟩
theorem sc_off_pairs : FnScope ["table", "mend", "gap"] ["table", "mend"] (defScope s_off_pairs) := ⟨rfl, rfl, rfl, by decide +kernel, rfl, by decide +kernel, by decide +kernel⟩
theorem sc_lack_of : FnScope ["table", "row", "steps", "i", "j"] ["table", "row"] (defScope s_lack_of) := ⟨rfl, rfl, rfl, by decide +kernel, rfl, by decide +kernel, by decide +kernel⟩
theorem sc_worst_way : FnScope ["table", "best", "rows", "longer", "row", "here", "place"] ["table"] (defScope s_worst_way) := ⟨rfl, rfl, rfl, by decide +kernel, rfl, by decide +kernel, by decide +kernel⟩
theorem sc_shortest_shares : FnScope ["rows", "middle", "row", "j", "one", "here"] ["rows"] (defScope s_shortest_shares) := ⟨rfl, rfl, rfl, by decide +kernel, rfl, by decide +kernel, by decide +kernel⟩
theorem sc_raised_by : FnScope ["table", "t", "rows", "i", "row", "j", "far"] ["table", "t"] (defScope s_raised_by) := ⟨rfl, rfl, rfl, by decide +kernel, rfl, by decide +kernel, by decide +kernel⟩
theorem sc_nearest_mend : FnScope ["table", "t", "way"] ["table"] (defScope s_nearest_mend) := ⟨rfl, rfl, rfl, by decide +kernel, rfl, by decide +kernel, by decide +kernel⟩
theorem sc_is_nearest_mend : FnScope ["table", "thing", "n", "place"] ["table", "thing"] (defScope s_is_nearest_mend) := ⟨rfl, rfl, rfl, by decide +kernel, rfl, by decide +kernel, by decide +kernel⟩
theorem sc_law_hand : FnScope ["script", "cells", "cell"] ["script"] (defScope s_law_hand) := ⟨rfl, rfl, rfl, by decide +kernel, rfl, by decide +kernel, by decide +kernel⟩
theorem sc_law_draw : FnScope ["hand", "many", "cell", "figure", "number"] ["hand", "many"] (defScope s_law_draw) := ⟨rfl, rfl, rfl, by decide +kernel, rfl, by decide +kernel, by decide +kernel⟩
theorem sc_law_some : FnScope ["hand", "things"] ["hand", "things"] (defScope s_law_some) := ⟨rfl, rfl, rfl, by decide +kernel, rfl, by decide +kernel, by decide +kernel⟩
theorem sc_law_table : FnScope ["hand", "many", "most", "rows", "i", "j", "number", "place", "row"] ["hand", "many", "most"] (defScope s_law_table) := ⟨rfl, rfl, rfl, by decide +kernel, rfl, by decide +kernel, by decide +kernel⟩
theorem sc_law_closing : FnScope ["table", "rows", "many", "middle", "i", "j", "row"] ["table"] (defScope s_law_closing) := ⟨rfl, rfl, rfl, by decide +kernel, rfl, by decide +kernel, by decide +kernel⟩
theorem sc_law_low : FnScope ["top", "bottom", "one", "other"] ["top", "bottom"] (defScope s_law_low) := ⟨rfl, rfl, rfl, by decide +kernel, rfl, by decide +kernel, by decide +kernel⟩
theorem sc_law_plus : FnScope ["one", "other"] ["one", "other"] (defScope s_law_plus) := ⟨rfl, rfl, rfl, by decide +kernel, rfl, by decide +kernel, by decide +kernel⟩
theorem sc_law_sum : FnScope ["parts", "found", "part"] ["parts"] (defScope s_law_sum) := ⟨rfl, rfl, rfl, by decide +kernel, rfl, by decide +kernel, by decide +kernel⟩
theorem sc_law_deep : FnScope ["hand", "found", "turn"] ["hand"] (defScope s_law_deep) := ⟨rfl, rfl, rfl, by decide +kernel, rfl, by decide +kernel, by decide +kernel⟩
theorem sc_law_odd : FnScope ["hand"] ["hand"] (defScope s_law_odd) := ⟨rfl, rfl, rfl, by decide +kernel, rfl, by decide +kernel, by decide +kernel⟩
theorem sc_law_is : FnScope ["told", "due", "one", "two", "key"] ["told", "due"] (defScope s_law_is) := ⟨rfl, rfl, rfl, by decide +kernel, rfl, by decide +kernel, by decide +kernel⟩
theorem sc_law_less : FnScope ["one", "other"] ["one", "other"] (defScope s_law_less) := ⟨rfl, rfl, rfl, by decide +kernel, rfl, by decide +kernel, by decide +kernel⟩
theorem sc_law_is_number : FnScope ["thing"] ["thing"] (defScope s_law_is_number) := ⟨rfl, rfl, rfl, by decide +kernel, rfl, by decide +kernel, by decide +kernel⟩
theorem sc_law_is_part : FnScope ["thing", "one"] ["thing"] (defScope s_law_is_part) := ⟨rfl, rfl, rfl, by decide +kernel, rfl, by decide +kernel, by decide +kernel⟩
theorem sc_law_is_mend : FnScope ["many", "thing", "row", "i", "j", "k", "part"] ["many", "thing"] (defScope s_law_is_mend) := ⟨rfl, rfl, rfl, by decide +kernel, rfl, by decide +kernel, by decide +kernel⟩
theorem sc_law_minus : FnScope ["one", "other"] ["one", "other"] (defScope s_law_minus) := ⟨rfl, rfl, rfl, by decide +kernel, rfl, by decide +kernel, by decide +kernel⟩
theorem sc_law_offs : FnScope ["table", "mend", "found", "i", "row", "j", "gap"] ["table", "mend"] (defScope s_law_offs) := ⟨rfl, rfl, rfl, by decide +kernel, rfl, by decide +kernel, by decide +kernel⟩
theorem sc_law_most : FnScope ["parts", "best", "part"] ["parts"] (defScope s_law_most) := ⟨rfl, rfl, rfl, by decide +kernel, rfl, by decide +kernel, by decide +kernel⟩
theorem sc_law_ask : FnScope ["table", "way", "steps", "here", "there"] ["table", "way"] (defScope s_law_ask) := ⟨rfl, rfl, rfl, by decide +kernel, rfl, by decide +kernel, by decide +kernel⟩
theorem sc_law_ways : FnScope ["many", "found", "front", "turn", "later", "row", "place"] ["many"] (defScope s_law_ways) := ⟨rfl, rfl, rfl, by decide +kernel, rfl, by decide +kernel, by decide +kernel⟩
theorem sc_law_is_right : FnScope ["table", "due", "thing", "way", "place"] ["table", "due", "thing"] (defScope s_law_is_right) := ⟨rfl, rfl, rfl, by decide +kernel, rfl, by decide +kernel, by decide +kernel⟩
theorem sc_law : FnScope ["script", "hand", "turn", "table", "many", "due", "told", "mend", "offs", "plain", "closed", "thing", "way", "things", "part", "row", "number"] ["script"] (defScope s_law) := ⟨rfl, rfl, rfl, by decide +kernel, rfl, by decide +kernel, by decide +kernel⟩
structure Tx (K : PySem.W.Frag) (mg : Str → Option Value) where
  a_is_integer : Addr
  d_is_integer : FuncData
  F_is_integer : Fun K "is_integer" "is_integer" s_is_integer a_is_integer d_is_integer
  b_is_integer : Binds K d_is_integer ["thing"] []
  m_is_integer : mg "is_integer" = some (.ref a_is_integer)
  a_is_within : Addr
  d_is_within : FuncData
  F_is_within : Fun K "is_within" "is_within" s_is_within a_is_within d_is_within
  b_is_within : Binds K d_is_within ["thing", "low", "high"] []
  m_is_within : mg "is_within" = some (.ref a_is_within)
  a_is_sized : Addr
  d_is_sized : FuncData
  F_is_sized : Fun K "is_sized" "is_sized" s_is_sized a_is_sized d_is_sized
  b_is_sized : Binds K d_is_sized ["thing", "low", "high"] []
  m_is_sized : mg "is_sized" = some (.ref a_is_sized)
  a_is_table : Addr
  d_is_table : FuncData
  F_is_table : Fun K "is_table" "is_table" s_is_table a_is_table d_is_table
  b_is_table : Binds K d_is_table ["thing"] []
  m_is_table : mg "is_table" = some (.ref a_is_table)
  a_check_table : Addr
  d_check_table : FuncData
  F_check_table : Fun K "check_table" "check_table" s_check_table a_check_table d_check_table
  b_check_table : Binds K d_check_table ["thing"] []
  m_check_table : mg "check_table" = some (.ref a_check_table)
  a_common : Addr
  d_common : FuncData
  F_common : Fun K "common" "common" s_common a_common d_common
  b_common : Binds K d_common ["one", "other"] []
  m_common : mg "common" = some (.ref a_common)
  a_is_share : Addr
  d_is_share : FuncData
  F_is_share : Fun K "is_share" "is_share" s_is_share a_is_share d_is_share
  b_is_share : Binds K d_is_share ["thing"] []
  m_is_share : mg "is_share" = some (.ref a_is_share)
  a_share : Addr
  d_share : FuncData
  F_share : Fun K "share" "share" s_share a_share d_share
  b_share : Binds K d_share ["top", "bottom"] []
  m_share : mg "share" = some (.ref a_share)
  a_plus : Addr
  d_plus : FuncData
  F_plus : Fun K "plus" "plus" s_plus a_plus d_plus
  b_plus : Binds K d_plus ["one", "other"] []
  m_plus : mg "plus" = some (.ref a_plus)
  a_is_less : Addr
  d_is_less : FuncData
  F_is_less : Fun K "is_less" "is_less" s_is_less a_is_less d_is_less
  b_is_less : Binds K d_is_less ["one", "other"] []
  m_is_less : mg "is_less" = some (.ref a_is_less)
  a_is_mend_of : Addr
  d_is_mend_of : FuncData
  F_is_mend_of : Fun K "is_mend_of" "is_mend_of" s_is_mend_of a_is_mend_of d_is_mend_of
  b_is_mend_of : Binds K d_is_mend_of ["n", "thing"] []
  m_is_mend_of : mg "is_mend_of" = some (.ref a_is_mend_of)
  a_is_mend : Addr
  d_is_mend : FuncData
  F_is_mend : Fun K "is_mend" "is_mend" s_is_mend a_is_mend d_is_mend
  b_is_mend : Binds K d_is_mend ["table", "thing"] []
  m_is_mend : mg "is_mend" = some (.ref a_is_mend)
  a_minus : Addr
  d_minus : FuncData
  F_minus : Fun K "minus" "minus" s_minus a_minus d_minus
  b_minus : Binds K d_minus ["one", "other"] []
  m_minus : mg "minus" = some (.ref a_minus)
  a_pairs_of : Addr
  d_pairs_of : FuncData
  F_pairs_of : Fun K "pairs_of" "pairs_of" s_pairs_of a_pairs_of d_pairs_of
  b_pairs_of : Binds K d_pairs_of ["n"] []
  m_pairs_of : mg "pairs_of" = some (.ref a_pairs_of)
  a_gaps_of : Addr
  d_gaps_of : FuncData
  F_gaps_of : Fun K "gaps_of" "gaps_of" s_gaps_of a_gaps_of d_gaps_of
  b_gaps_of : Binds K d_gaps_of ["table", "mend"] []
  m_gaps_of : mg "gaps_of" = some (.ref a_gaps_of)
  a_check_mend : Addr
  d_check_mend : FuncData
  F_check_mend : Fun K "check_mend" "check_mend" s_check_mend a_check_mend d_check_mend
  b_check_mend : Binds K d_check_mend ["table", "mend"] []
  m_check_mend : mg "check_mend" = some (.ref a_check_mend)
  a_most_of : Addr
  d_most_of : FuncData
  F_most_of : Fun K "most_of" "most_of" s_most_of a_most_of d_most_of
  b_most_of : Binds K d_most_of ["parts"] []
  m_most_of : mg "most_of" = some (.ref a_most_of)
  a_off_most : Addr
  d_off_most : FuncData
  F_off_most : Fun K "off_most" "off_most" s_off_most a_off_most d_off_most
  b_off_most : Binds K d_off_most ["table", "mend"] []
  m_off_most : mg "off_most" = some (.ref a_off_most)
  a_sum_of : Addr
  d_sum_of : FuncData
  F_sum_of : Fun K "sum_of" "sum_of" s_sum_of a_sum_of d_sum_of
  b_sum_of : Binds K d_sum_of ["parts"] []
  m_sum_of : mg "sum_of" = some (.ref a_sum_of)
  a_off_sum : Addr
  d_off_sum : FuncData
  F_off_sum : Fun K "off_sum" "off_sum" s_off_sum a_off_sum d_off_sum
  b_off_sum : Binds K d_off_sum ["table", "mend"] []
  m_off_sum : mg "off_sum" = some (.ref a_off_sum)
  a_off_pairs : Addr
  d_off_pairs : FuncData
  F_off_pairs : Fun K "off_pairs" "off_pairs" s_off_pairs a_off_pairs d_off_pairs
  b_off_pairs : Binds K d_off_pairs ["table", "mend"] []
  m_off_pairs : mg "off_pairs" = some (.ref a_off_pairs)
  a_lack_of : Addr
  d_lack_of : FuncData
  F_lack_of : Fun K "lack_of" "lack_of" s_lack_of a_lack_of d_lack_of
  b_lack_of : Binds K d_lack_of ["table", "row"] []
  m_lack_of : mg "lack_of" = some (.ref a_lack_of)
  a_worst_way : Addr
  d_worst_way : FuncData
  F_worst_way : Fun K "worst_way" "worst_way" s_worst_way a_worst_way d_worst_way
  b_worst_way : Binds K d_worst_way ["table"] []
  m_worst_way : mg "worst_way" = some (.ref a_worst_way)
  a_shortest_shares : Addr
  d_shortest_shares : FuncData
  F_shortest_shares : Fun K "shortest_shares" "shortest_shares" s_shortest_shares a_shortest_shares d_shortest_shares
  b_shortest_shares : Binds K d_shortest_shares ["rows"] []
  m_shortest_shares : mg "shortest_shares" = some (.ref a_shortest_shares)
  a_raised_by : Addr
  d_raised_by : FuncData
  F_raised_by : Fun K "raised_by" "raised_by" s_raised_by a_raised_by d_raised_by
  b_raised_by : Binds K d_raised_by ["table", "t"] []
  m_raised_by : mg "raised_by" = some (.ref a_raised_by)
  a_nearest_mend : Addr
  d_nearest_mend : FuncData
  F_nearest_mend : Fun K "nearest_mend" "nearest_mend" s_nearest_mend a_nearest_mend d_nearest_mend
  b_nearest_mend : Binds K d_nearest_mend ["table"] []
  m_nearest_mend : mg "nearest_mend" = some (.ref a_nearest_mend)
  a_is_nearest_mend : Addr
  d_is_nearest_mend : FuncData
  F_is_nearest_mend : Fun K "is_nearest_mend" "is_nearest_mend" s_is_nearest_mend a_is_nearest_mend d_is_nearest_mend
  b_is_nearest_mend : Binds K d_is_nearest_mend ["table", "thing"] []
  m_is_nearest_mend : mg "is_nearest_mend" = some (.ref a_is_nearest_mend)
  a_law_hand : Addr
  d_law_hand : FuncData
  F_law_hand : Fun K "_law_hand" "_law_hand" s_law_hand a_law_hand d_law_hand
  b_law_hand : Binds K d_law_hand ["script"] []
  m_law_hand : mg "_law_hand" = some (.ref a_law_hand)
  a_law_draw : Addr
  d_law_draw : FuncData
  F_law_draw : Fun K "_law_draw" "_law_draw" s_law_draw a_law_draw d_law_draw
  b_law_draw : Binds K d_law_draw ["hand", "many"] []
  m_law_draw : mg "_law_draw" = some (.ref a_law_draw)
  a_law_some : Addr
  d_law_some : FuncData
  F_law_some : Fun K "_law_some" "_law_some" s_law_some a_law_some d_law_some
  b_law_some : Binds K d_law_some ["hand", "things"] []
  m_law_some : mg "_law_some" = some (.ref a_law_some)
  a_law_table : Addr
  d_law_table : FuncData
  F_law_table : Fun K "_law_table" "_law_table" s_law_table a_law_table d_law_table
  b_law_table : Binds K d_law_table ["hand", "many", "most"] []
  m_law_table : mg "_law_table" = some (.ref a_law_table)
  a_law_closing : Addr
  d_law_closing : FuncData
  F_law_closing : Fun K "_law_closing" "_law_closing" s_law_closing a_law_closing d_law_closing
  b_law_closing : Binds K d_law_closing ["table"] []
  m_law_closing : mg "_law_closing" = some (.ref a_law_closing)
  a_law_low : Addr
  d_law_low : FuncData
  F_law_low : Fun K "_law_low" "_law_low" s_law_low a_law_low d_law_low
  b_law_low : Binds K d_law_low ["top", "bottom"] []
  m_law_low : mg "_law_low" = some (.ref a_law_low)
  a_law_plus : Addr
  d_law_plus : FuncData
  F_law_plus : Fun K "_law_plus" "_law_plus" s_law_plus a_law_plus d_law_plus
  b_law_plus : Binds K d_law_plus ["one", "other"] []
  m_law_plus : mg "_law_plus" = some (.ref a_law_plus)
  a_law_sum : Addr
  d_law_sum : FuncData
  F_law_sum : Fun K "_law_sum" "_law_sum" s_law_sum a_law_sum d_law_sum
  b_law_sum : Binds K d_law_sum ["parts"] []
  m_law_sum : mg "_law_sum" = some (.ref a_law_sum)
  a_law_deep : Addr
  d_law_deep : FuncData
  F_law_deep : Fun K "_law_deep" "_law_deep" s_law_deep a_law_deep d_law_deep
  b_law_deep : Binds K d_law_deep ["hand"] []
  m_law_deep : mg "_law_deep" = some (.ref a_law_deep)
  a_law_odd : Addr
  d_law_odd : FuncData
  F_law_odd : Fun K "_law_odd" "_law_odd" s_law_odd a_law_odd d_law_odd
  b_law_odd : Binds K d_law_odd ["hand"] []
  m_law_odd : mg "_law_odd" = some (.ref a_law_odd)
  a_law_is : Addr
  d_law_is : FuncData
  F_law_is : Fun K "_law_is" "_law_is" s_law_is a_law_is d_law_is
  b_law_is : Binds K d_law_is ["told", "due"] []
  m_law_is : mg "_law_is" = some (.ref a_law_is)
  a_law_less : Addr
  d_law_less : FuncData
  F_law_less : Fun K "_law_less" "_law_less" s_law_less a_law_less d_law_less
  b_law_less : Binds K d_law_less ["one", "other"] []
  m_law_less : mg "_law_less" = some (.ref a_law_less)
  a_law_is_number : Addr
  d_law_is_number : FuncData
  F_law_is_number : Fun K "_law_is_number" "_law_is_number" s_law_is_number a_law_is_number d_law_is_number
  b_law_is_number : Binds K d_law_is_number ["thing"] []
  m_law_is_number : mg "_law_is_number" = some (.ref a_law_is_number)
  a_law_is_part : Addr
  d_law_is_part : FuncData
  F_law_is_part : Fun K "_law_is_part" "_law_is_part" s_law_is_part a_law_is_part d_law_is_part
  b_law_is_part : Binds K d_law_is_part ["thing"] []
  m_law_is_part : mg "_law_is_part" = some (.ref a_law_is_part)
  a_law_is_mend : Addr
  d_law_is_mend : FuncData
  F_law_is_mend : Fun K "_law_is_mend" "_law_is_mend" s_law_is_mend a_law_is_mend d_law_is_mend
  b_law_is_mend : Binds K d_law_is_mend ["many", "thing"] []
  m_law_is_mend : mg "_law_is_mend" = some (.ref a_law_is_mend)
  a_law_minus : Addr
  d_law_minus : FuncData
  F_law_minus : Fun K "_law_minus" "_law_minus" s_law_minus a_law_minus d_law_minus
  b_law_minus : Binds K d_law_minus ["one", "other"] []
  m_law_minus : mg "_law_minus" = some (.ref a_law_minus)
  a_law_offs : Addr
  d_law_offs : FuncData
  F_law_offs : Fun K "_law_offs" "_law_offs" s_law_offs a_law_offs d_law_offs
  b_law_offs : Binds K d_law_offs ["table", "mend"] []
  m_law_offs : mg "_law_offs" = some (.ref a_law_offs)
  a_law_most : Addr
  d_law_most : FuncData
  F_law_most : Fun K "_law_most" "_law_most" s_law_most a_law_most d_law_most
  b_law_most : Binds K d_law_most ["parts"] []
  m_law_most : mg "_law_most" = some (.ref a_law_most)
  a_law_ask : Addr
  d_law_ask : FuncData
  F_law_ask : Fun K "_law_ask" "_law_ask" s_law_ask a_law_ask d_law_ask
  b_law_ask : Binds K d_law_ask ["table", "way"] []
  m_law_ask : mg "_law_ask" = some (.ref a_law_ask)
  a_law_ways : Addr
  d_law_ways : FuncData
  F_law_ways : Fun K "_law_ways" "_law_ways" s_law_ways a_law_ways d_law_ways
  b_law_ways : Binds K d_law_ways ["many"] []
  m_law_ways : mg "_law_ways" = some (.ref a_law_ways)
  a_law_is_right : Addr
  d_law_is_right : FuncData
  F_law_is_right : Fun K "_law_is_right" "_law_is_right" s_law_is_right a_law_is_right d_law_is_right
  b_law_is_right : Binds K d_law_is_right ["table", "due", "thing"] []
  m_law_is_right : mg "_law_is_right" = some (.ref a_law_is_right)
  a_law : Addr
  d_law : FuncData
  F_law : Fun K "law" "law" s_law a_law d_law
  b_law : Binds K d_law ["script"] []
  m_law : mg "law" = some (.ref a_law)
  z_abs : mg "abs" = none
  z_all : mg "all" = none
  z_any : mg "any" = none
  z_bool : mg "bool" = none
  z_dict : mg "dict" = none
  z_enumerate : mg "enumerate" = none
  z_int : mg "int" = none
  z_isinstance : mg "isinstance" = none
  z_len : mg "len" = none
  z_list : mg "list" = none
  z_min : mg "min" = none
  z_range : mg "range" = none
  z_str : mg "str" = none
  z_sum : mg "sum" = none
  z_tuple : mg "tuple" = none
  z_zip : mg "zip" = none
  c_MOST_FAR : ∃ t, mg "MOST_FAR" = some (.int 1000 t)
  c_MOST_PLACES : ∃ t, mg "MOST_PLACES" = some (.int 7 t)
  c_ZERO : ∃ q, mg "ZERO" = some (.ref q) ∧ TupK K q [0, 1]
def suiteOf (st : Stmt) : List Stmt := ((defBody st).filterMap fun s => match s with | .Try _ hs _ _ _ => (match hs with | .ExceptHandler _ _ b _ :: _ => some b | _ => none) | _ => none).headD []
theorem hu100 {A : Around} {k : Nat} (hr : Room k A) : A.units + 100 < cLine := by have := hr.un; omega
theorem hu65 {A : Around} {k : Nat} (hr : Room k A) : A.units + 65 < cLine := by have := hr.un; omega
section
variable {P : Program} {w : World} {K : PySem.W.Frag} {mg : Str → Option Value} {base : Heap} {T : List (Addr × Str)}
theorem ok_is_integer (t : Tx K mg) : FnOk P w K mg base (L2.CX P w) 1 t.a_is_integer t.d_is_integer ["thing"] (spD ⟨K, T, mg⟩ 1 F_is_integer) :=
  def_fin (k := 0) t.F_is_integer sc_is_integer fun cdv A outer s H E hr =>
    (qs_one (ps_retD (pe_andD (pd_isI (t := .int) rfl t.z_isinstance rfl t.z_int (by decide +kernel) (pvD 0)) (pe_oneD (pe_notD (pd_isI (t := .bool) rfl t.z_isinstance rfl t.z_bool (by decide +kernel) (pvD 0)))))))
theorem ok_is_within (t : Tx K mg) : FnOk P w K mg base (L2.CX P w) 2 t.a_is_within t.d_is_within ["thing", "low", "high"] (spD ⟨K, T, mg⟩ 3 F_is_within) :=
  def_fin (k := 1) t.F_is_within sc_is_within fun cdv A outer s H E hr =>
    (qs_one (ps_retD (pe_andD (pd_call (ok_is_integer t) (takes_of rfl rfl rfl rfl) (hr.mono (by decide)) rfl t.m_is_integer t.F_is_integer.kp t.b_is_integer (pa_consD (pvD 0) pa_nilD)) (pe_oneD (pe_chainD op_le op_le does_cmp does_cmp (pvD 1) (pvD 0) (pvD 2))))))
theorem ok_is_sized (t : Tx K mg) : FnOk P w K mg base (L2.CX P w) 1 t.a_is_sized t.d_is_sized ["thing", "low", "high"] (spD ⟨K, T, mg⟩ 3 F_is_sized) :=
  def_fin (k := 0) t.F_is_sized sc_is_sized fun cdv A outer s H E hr =>
    (qs_one (ps_retD (pe_andD (pd_isI (t := .tuple) rfl t.z_isinstance rfl t.z_tuple (by decide +kernel) (pvD 0)) (pe_oneD (pe_chainD op_le op_le does_cmp does_cmp (pvD 1) (pd_callB call_len_seq does_len rfl t.z_len boot_len (pa_consD (pvD 0) pa_nilD)) (pvD 2))))))
theorem ok_is_table (t : Tx K mg) : FnOk P w K mg base (L2.CX P w) 3 t.a_is_table t.d_is_table ["thing"] (spD ⟨K, T, mg⟩ 1 F_is_table) :=
  def_fin (k := 2) t.F_is_table sc_is_table fun cdv A outer s H E hr =>
    (qs_cons (ps_ifD (pt_pw (pw_orD (pt_notD (pt_tru (pd_call (ok_is_sized t) (takes_of rfl rfl rfl rfl) (hr.mono (by decide)) rfl t.m_is_sized t.F_is_sized.kp t.b_is_sized (pa_consD (pvD 0) (pa_consD pd_int (pa_consD (pd_gint rfl t.c_MOST_PLACES) pa_nilD)))))) (pw_orD1 (pt_notD (pt_tru (pd_callB (cr_all rfl) does_all rfl t.z_all boot_all (pa_consD (pd_lc (own := [("row", 2)]) false rfl sc_is_table.nd (pi_seqD (pvD 0)) (blkOk_by (N := ["thing", "i", "row", "one", "j"]) (sc := (defScope s_is_table)) (own := [("row", 2)]) (by decide +kernel)) (tg_name _ 2) (by decide) (fun _ _ _ _ _ => (pg_name (i := 2) sc_is_table.nd rfl (by first | exact .inl rfl | exact .inr rfl))) (fun _ _ _ _ _ => pts_nilD) (fun _ _ _ _ _ => (pd_call (ok_is_sized t) takes0 (hr.mono (by decide)) rfl t.m_is_sized t.F_is_sized.kp t.b_is_sized (pa_consD (pvD 2) (pa_consD (pd_callB call_len_seq does_len rfl t.z_len boot_len (pa_consD (pvD 0) pa_nilD)) (pa_consD (pd_callB call_len_seq does_len rfl t.z_len boot_len (pa_consD (pvD 0) pa_nilD)) pa_nilD)))))) pa_nilD))))))) (qs_one (ps_retD pd_bl)) qs_nil)
    (qs_cons (ps_forD (passes_of rfl) rfl (tg_two (tg_name _ 1) (tg_name _ 2)) (pi_enumD rfl t.z_enumerate (pa_consD (pvD 0) pa_nilD)) (pg_tup rfl (pgs_cons (pg_name (i := 1) sc_is_table.nd rfl (by first | exact .inl rfl | exact .inr rfl)) (pgs_cons (pg_name (i := 2) sc_is_table.nd rfl (by first | exact .inl rfl | exact .inr rfl)) pgs_nil)))
    (qs_cons (ps_ifD (pt_notD (pt_tru (pd_callB (cr_all rfl) does_all rfl t.z_all boot_all (pa_consD (pd_lc (own := [("one", 3)]) false rfl sc_is_table.nd (pi_seqD (pvD 2)) (blkOk_by (N := ["thing", "i", "row", "one", "j"]) (sc := (defScope s_is_table)) (own := [("one", 3)]) (by decide +kernel)) (tg_name _ 3) (by decide) (fun _ _ _ _ _ => (pg_name (i := 3) sc_is_table.nd rfl (by first | exact .inl rfl | exact .inr rfl))) (fun _ _ _ _ _ => pts_nilD) (fun _ _ _ _ _ => (pd_call (ok_is_within t) takes0 (hr.mono (by decide)) rfl t.m_is_within t.F_is_within.kp t.b_is_within (pa_consD (pvD 3) (pa_consD pd_int (pa_consD (pd_gint rfl t.c_MOST_FAR) pa_nilD)))))) pa_nilD)))) (qs_one (ps_retD pd_bl)) qs_nil)
    (qs_one (ps_ifD (pt_tru (pd_callB (cr_any rfl) does_any rfl t.z_any boot_any (pa_consD (pd_lc (own := [("j", 4), ("one", 3)]) false rfl sc_is_table.nd (pi_enumD rfl t.z_enumerate (pa_consD (pvD 2) pa_nilD)) (blkOk_by (N := ["thing", "i", "row", "one", "j"]) (sc := (defScope s_is_table)) (own := [("j", 4), ("one", 3)]) (by decide +kernel)) (tg_two (tg_name _ 4) (tg_name _ 3)) (by decide) (fun _ _ _ _ _ => (pg_tup rfl (pgs_cons (pg_name (i := 4) sc_is_table.nd rfl (by first | exact .inl rfl | exact .inr rfl)) (pgs_cons (pg_name (i := 3) sc_is_table.nd rfl (by first | exact .inl rfl | exact .inr rfl)) pgs_nil)))) (fun _ _ _ _ _ => pts_nilD) (fun _ _ _ _ _ => (pd_cmp (op_neD hr.units) does_ne (pd_cmp (op_eqD hr.units) does_eq (pvD 3) pd_int (nomark _)) (pd_cmp (op_eqD hr.units) does_eq (pvD 1) (pvD 4) (nomark _)) (nomark _)))) pa_nilD))) (qs_one (ps_retD pd_bl)) qs_nil))))
    (qs_one (ps_retD (pd_callB (cr_all rfl) does_all rfl t.z_all boot_all (pa_consD (pd_lc (own := [("i", 1), ("row", 2)]) false rfl sc_is_table.nd (pi_enumD rfl t.z_enumerate (pa_consD (pvD 0) pa_nilD)) (blkOk_by (N := ["thing", "i", "row", "one", "j"]) (sc := (defScope s_is_table)) (own := [("i", 1), ("row", 2)]) (by decide +kernel)) (tg_two (tg_name _ 1) (tg_name _ 2)) (by decide) (fun _ _ _ _ _ => (pg_tup rfl (pgs_cons (pg_name (i := 1) sc_is_table.nd rfl (by first | exact .inl rfl | exact .inr rfl)) (pgs_cons (pg_name (i := 2) sc_is_table.nd rfl (by first | exact .inl rfl | exact .inr rfl)) pgs_nil)))) (fun _ _ _ _ _ => pts_nilD) (fun _ _ _ _ _ => (pd_callB (cr_all rfl) does_all rfl t.z_all boot_all (pa_consD (pd_lcN (own := [("j", 4)]) false rfl sc_is_table.nd (pi_rangeD1 rfl t.z_range (pa_consD (pvD 1) pa_nilD)) (blkOk_by (N := ["thing", "i", "row", "one", "j"]) (own := [("j", 4)]) (by decide +kernel)) (tg_name _ 4) (by decide) (fun _ _ _ _ _ => (pg_name (i := 4) sc_is_table.nd rfl (by first | exact .inl rfl | exact .inr rfl))) (fun _ _ _ _ _ => pts_nilD) (fun _ _ _ _ _ => (pd_cmp (op_eqD hr.units) does_eq (pd_ix (pvD 2) (pvD 4)) (pd_ix (pd_ix (pvD 0) (pvD 4)) (pvD 1)) (nomark _)))) pa_nilD)))) pa_nilD))))))
theorem ok_check_table (t : Tx K mg) : FnOk P w K mg base (L2.CX P w) 4 t.a_check_table t.d_check_table ["thing"] (spD ⟨K, T, mg⟩ 1 F_check_table) :=
  def_fin (k := 3) t.F_check_table sc_check_table fun cdv A outer s H E hr =>
    (qs_one (ps_ifD (pt_notD (pt_tru (pd_call (ok_is_table t) (takes_of rfl rfl rfl rfl) (hr.mono (by decide)) rfl t.m_is_table t.F_is_table.kp t.b_is_table (pa_consD (pvD 0) pa_nilD)))) (qs_one ps_neverD) qs_nil))
theorem ok_common (t : Tx K mg) : FnOk P w K mg base (L2.CX P w) 1 t.a_common t.d_common ["one", "other"] (spD ⟨K, T, mg⟩ 2 F_common) :=
  def_fin (k := 0) t.F_common sc_common fun cdv A outer s H E hr =>
    (qs_cons (ps_whileD (passes_of rfl) (pt_cmpD (op_neD hr.units) does_ne (pvD 1) pd_int (nomark _))
    (qs_one (ps_parD (i := 0) (j := 1) rfl sc_common.nd rfl rfl (by decide) rfl rfl (pa_consD (pvD 1) (pa_consD (pd_mod (pvD 0) (pvD 1)) pa_nilD)) rfl)))
    (qs_one (ps_retD (pd_callB call_abs does_abs rfl t.z_abs boot_abs (pa_consD (pvD 0) pa_nilD)))))
theorem ok_is_share (t : Tx K mg) : FnOk P w K mg base (L2.CX P w) 2 t.a_is_share t.d_is_share ["thing"] (spD ⟨K, T, mg⟩ 1 F_is_share) :=
  def_fin (k := 1) t.F_is_share sc_is_share fun cdv A outer s H E hr =>
    (qs_cons (ps_ifD (pt_pw (pw_orD (pt_notD (pt_tru (pd_call (ok_is_sized t) (takes_of rfl rfl rfl rfl) (hr.mono (by decide)) rfl t.m_is_sized t.F_is_sized.kp t.b_is_sized (pa_consD (pvD 0) (pa_consD pd_int (pa_consD pd_int pa_nilD)))))) (pw_orD1 (pt_notD (pt_tru (pd_callB (cr_all rfl) does_all rfl t.z_all boot_all (pa_consD (pd_lc (own := [("one", 1)]) false rfl sc_is_share.nd (pi_seqD (pvD 0)) (blkOk_by (N := ["thing", "one"]) (sc := (defScope s_is_share)) (own := [("one", 1)]) (by decide +kernel)) (tg_name _ 1) (by decide) (fun _ _ _ _ _ => (pg_name (i := 1) sc_is_share.nd rfl (by first | exact .inl rfl | exact .inr rfl))) (fun _ _ _ _ _ => pts_nilD) (fun _ _ _ _ _ => (pd_call (ok_is_integer t) takes0 (hr.mono (by decide)) rfl t.m_is_integer t.F_is_integer.kp t.b_is_integer (pa_consD (pvD 1) pa_nilD)))) pa_nilD))))))) (qs_one (ps_retD pd_bl)) qs_nil)
    (qs_one (ps_retD (pe_andD (pd_cmp op_gt does_cmp (pd_ix (pvD 0) pd_int) pd_int (nomark _)) (pe_oneD (pd_cmp (op_eqD hr.units) does_eq (pd_call (ok_common t) (takes_of rfl rfl rfl rfl) (hr.mono (by decide)) rfl t.m_common t.F_common.kp t.b_common (pa_consD (pd_ix (pvD 0) pd_int) (pa_consD (pd_ix (pvD 0) pd_int) pa_nilD))) pd_int (nomark _)))))))
theorem ok_share (t : Tx K mg) : FnOk P w K mg base (L2.CX P w) 2 t.a_share t.d_share ["top", "bottom"] (spD ⟨K, T, mg⟩ 2 F_share) :=
  def_fin (k := 1) t.F_share sc_share fun cdv A outer s H E hr =>
    (qs_cons (ps_setD (i := 2) sc_share.nd rfl (by first | exact .inl rfl | exact .inr rfl) (pd_call (ok_common t) (takes_of rfl rfl rfl rfl) (hr.mono (by decide)) rfl t.m_common t.F_common.kp t.b_common (pa_consD (pvD 0) (pa_consD (pvD 1) pa_nilD))))
    (qs_cons (ps_setD (i := 2) sc_share.nd rfl (by first | exact .inl rfl | exact .inr rfl) (pe_ifD (pt_cmpD op_gt does_cmp (pvD 1) pd_int (nomark _)) (pvD 2) (pd_sub pd_int (pvD 2))))
    (qs_one (ps_retD (pd_tup (pa_consD (pd_div (pvD 0) (pvD 2)) (pa_consD (pd_div (pvD 1) (pvD 2)) pa_nilD)))))))
theorem ok_plus (t : Tx K mg) : FnOk P w K mg base (L2.CX P w) 3 t.a_plus t.d_plus ["one", "other"] (spD ⟨K, T, mg⟩ 2 F_plus) :=
  def_fin (k := 2) t.F_plus sc_plus fun cdv A outer s H E hr =>
    (qs_one (ps_retD (pd_call (ok_share t) (takes_of rfl rfl rfl rfl) (hr.mono (by decide)) rfl t.m_share t.F_share.kp t.b_share (pa_consD (pd_add (pd_mul (pd_ix (pvD 0) pd_int) (pd_ix (pvD 1) pd_int)) (pd_mul (pd_ix (pvD 1) pd_int) (pd_ix (pvD 0) pd_int))) (pa_consD (pd_mul (pd_ix (pvD 0) pd_int) (pd_ix (pvD 1) pd_int)) pa_nilD)))))
theorem ok_is_less (t : Tx K mg) : FnOk P w K mg base (L2.CX P w) 1 t.a_is_less t.d_is_less ["one", "other"] (spD ⟨K, T, mg⟩ 2 F_is_less) :=
  def_fin (k := 0) t.F_is_less sc_is_less fun cdv A outer s H E hr =>
    (qs_one (ps_retD (pd_cmp op_lt does_cmp (pd_mul (pd_ix (pvD 0) pd_int) (pd_ix (pvD 1) pd_int)) (pd_mul (pd_ix (pvD 1) pd_int) (pd_ix (pvD 0) pd_int)) (nomark _))))
theorem ok_is_mend_of (t : Tx K mg) : FnOk P w K mg base (L2.CX P w) 4 t.a_is_mend_of t.d_is_mend_of ["n", "thing"] (spD ⟨K, T, mg⟩ 2 F_is_mend_of) :=
  def_fin (k := 3) t.F_is_mend_of sc_is_mend_of fun cdv A outer s H E hr =>
    (qs_cons (ps_ifD (pt_pw (pw_orD (pt_notD (pt_tru (pd_call (ok_is_sized t) (takes_of rfl rfl rfl rfl) (hr.mono (by decide)) rfl t.m_is_sized t.F_is_sized.kp t.b_is_sized (pa_consD (pvD 1) (pa_consD (pvD 0) (pa_consD (pvD 0) pa_nilD)))))) (pw_orD1 (pt_notD (pt_tru (pd_callB (cr_all rfl) does_all rfl t.z_all boot_all (pa_consD (pd_lc (own := [("row", 3)]) false rfl sc_is_mend_of.nd (pi_seqD (pvD 1)) (blkOk_by (N := ["n", "thing", "i", "row", "j", "far", "k"]) (sc := (defScope s_is_mend_of)) (own := [("row", 3)]) (by decide +kernel)) (tg_name _ 3) (by decide) (fun _ _ _ _ _ => (pg_name (i := 3) sc_is_mend_of.nd rfl (by first | exact .inl rfl | exact .inr rfl))) (fun _ _ _ _ _ => pts_nilD) (fun _ _ _ _ _ => (pd_call (ok_is_sized t) takes0 (hr.mono (by decide)) rfl t.m_is_sized t.F_is_sized.kp t.b_is_sized (pa_consD (pvD 3) (pa_consD (pvD 0) (pa_consD (pvD 0) pa_nilD)))))) pa_nilD))))))) (qs_one (ps_retD pd_bl)) qs_nil)
    (qs_cons (ps_forD (passes_of rfl) rfl (tg_two (tg_name _ 2) (tg_name _ 3)) (pi_enumD rfl t.z_enumerate (pa_consD (pvD 1) pa_nilD)) (pg_tup rfl (pgs_cons (pg_name (i := 2) sc_is_mend_of.nd rfl (by first | exact .inl rfl | exact .inr rfl)) (pgs_cons (pg_name (i := 3) sc_is_mend_of.nd rfl (by first | exact .inl rfl | exact .inr rfl)) pgs_nil)))
    (qs_one (ps_forD (passes_of rfl) rfl (tg_two (tg_name _ 4) (tg_name _ 5)) (pi_enumD rfl t.z_enumerate (pa_consD (pvD 3) pa_nilD)) (pg_tup rfl (pgs_cons (pg_name (i := 4) sc_is_mend_of.nd rfl (by first | exact .inl rfl | exact .inr rfl)) (pgs_cons (pg_name (i := 5) sc_is_mend_of.nd rfl (by first | exact .inl rfl | exact .inr rfl)) pgs_nil)))
    (qs_one (ps_ifD (pt_pw (pw_orD (pt_notD (pt_tru (pd_call (ok_is_share t) (takes_of rfl rfl rfl rfl) (hr.mono (by decide)) rfl t.m_is_share t.F_is_share.kp t.b_is_share (pa_consD (pvD 5) pa_nilD)))) (pw_orD (pt_cmpD (op_neD hr.units) does_ne (pvD 5) (pd_ix (pd_ix (pvD 1) (pvD 4)) (pvD 2)) (nomark _)) (pw_orD (pt_cmpD op_lt does_cmp (pd_ix (pvD 5) pd_int) pd_int (nomark _)) (pw_orD1 (pt_pw (pw_andD (pt_cmpD (op_eqD hr.units) does_eq (pvD 2) (pvD 4) (nomark _)) (pw_andD1 (pt_cmpD (op_neD hr.units) does_ne (pvD 5) (pd_gtup rfl t.c_ZERO) (nomark _)))))))))) (qs_one (ps_retD pd_bl)) qs_nil)))))
    (qs_cons (ps_forD (passes_of rfl) rfl (tg_name _ 2) (pi_rangeD1 rfl t.z_range (pa_consD (pvD 0) pa_nilD)) (pg_name (i := 2) sc_is_mend_of.nd rfl (by first | exact .inl rfl | exact .inr rfl))
    (qs_one (ps_forD (passes_of rfl) rfl (tg_name _ 6) (pi_rangeD2 rfl t.z_range (pa_consD (pd_add (pvD 2) pd_int) (pa_consD (pvD 0) pa_nilD))) (pg_name (i := 6) sc_is_mend_of.nd rfl (by first | exact .inl rfl | exact .inr rfl))
    (qs_one (ps_ifD (pt_tru (pd_callB (cr_any rfl) does_any rfl t.z_any boot_any (pa_consD (pd_lc (own := [("j", 4)]) false rfl sc_is_mend_of.nd (pi_rangeD1 rfl t.z_range (pa_consD (pvD 0) pa_nilD)) (blkOk_by (N := ["n", "thing", "i", "row", "j", "far", "k"]) (sc := (defScope s_is_mend_of)) (own := [("j", 4)]) (by decide +kernel)) (tg_name _ 4) (by decide) (fun _ _ _ _ _ => (pg_name (i := 4) sc_is_mend_of.nd rfl (by first | exact .inl rfl | exact .inr rfl))) (fun _ _ _ _ _ => pts_nilD) (fun _ _ _ _ _ => (pd_call (ok_is_less t) takes0 (hr.mono (by decide)) rfl t.m_is_less t.F_is_less.kp t.b_is_less (pa_consD (pd_call (ok_plus t) takes0 (hr.mono (by decide)) rfl t.m_plus t.F_plus.kp t.b_plus (pa_consD (pd_ix (pd_ix (pvD 1) (pvD 2)) (pvD 4)) (pa_consD (pd_ix (pd_ix (pvD 1) (pvD 4)) (pvD 6)) pa_nilD))) (pa_consD (pd_ix (pd_ix (pvD 1) (pvD 2)) (pvD 6)) pa_nilD))))) pa_nilD))) (qs_one (ps_retD pd_bl)) qs_nil)))))
    (qs_one (ps_retD pd_bl)))))
theorem ok_is_mend (t : Tx K mg) : FnOk P w K mg base (L2.CX P w) 5 t.a_is_mend t.d_is_mend ["table", "thing"] (spD ⟨K, T, mg⟩ 2 F_is_mend) :=
  def_fin (k := 4) t.F_is_mend sc_is_mend fun cdv A outer s H E hr =>
    (qs_cons (ps_exprD (pd_call (ok_check_table t) (takes_of rfl rfl rfl rfl) (hr.mono (by decide)) rfl t.m_check_table t.F_check_table.kp t.b_check_table (pa_consD (pvD 0) pa_nilD)))
    (qs_one (ps_retD (pd_call (ok_is_mend_of t) (takes_of rfl rfl rfl rfl) (hr.mono (by decide)) rfl t.m_is_mend_of t.F_is_mend_of.kp t.b_is_mend_of (pa_consD (pd_callB call_len_seq does_len rfl t.z_len boot_len (pa_consD (pvD 0) pa_nilD)) (pa_consD (pvD 1) pa_nilD))))))
theorem ok_minus (t : Tx K mg) : FnOk P w K mg base (L2.CX P w) 3 t.a_minus t.d_minus ["one", "other"] (spD ⟨K, T, mg⟩ 2 F_minus) :=
  def_fin (k := 2) t.F_minus sc_minus fun cdv A outer s H E hr =>
    (qs_one (ps_retD (pd_call (ok_share t) (takes_of rfl rfl rfl rfl) (hr.mono (by decide)) rfl t.m_share t.F_share.kp t.b_share (pa_consD (pd_sub (pd_mul (pd_ix (pvD 0) pd_int) (pd_ix (pvD 1) pd_int)) (pd_mul (pd_ix (pvD 1) pd_int) (pd_ix (pvD 0) pd_int))) (pa_consD (pd_mul (pd_ix (pvD 0) pd_int) (pd_ix (pvD 1) pd_int)) pa_nilD)))))
theorem ok_pairs_of (t : Tx K mg) : FnOk P w K mg base (L2.CX P w) 1 t.a_pairs_of t.d_pairs_of ["n"] (spD ⟨K, T, mg⟩ 1 F_pairs_of) :=
  def_fin (k := 0) t.F_pairs_of sc_pairs_of fun cdv A outer s H E hr =>
    (qs_cons (ps_setD (i := 1) sc_pairs_of.nd rfl (by first | exact .inl rfl | exact .inr rfl) (pd_lst true pa_nilD))
    (qs_cons (ps_forD (passes_of rfl) rfl (tg_name _ 2) (pi_rangeD1 rfl t.z_range (pa_consD (pvD 0) pa_nilD)) (pg_name (i := 2) sc_pairs_of.nd rfl (by first | exact .inl rfl | exact .inr rfl))
    (qs_one (ps_exprD (pd_extend (pvD 1) (pd_lc (own := [("j", 3)]) false rfl sc_pairs_of.nd (pi_rangeD2 rfl t.z_range (pa_consD (pd_add (pvD 2) pd_int) (pa_consD (pvD 0) pa_nilD))) (blkOk_by (N := ["n", "found", "i", "j"]) (sc := (defScope s_pairs_of)) (own := [("j", 3)]) (by decide +kernel)) (tg_name _ 3) (by decide) (fun _ _ _ _ _ => (pg_name (i := 3) sc_pairs_of.nd rfl (by first | exact .inl rfl | exact .inr rfl))) (fun _ _ _ _ _ => pts_nilD) (fun _ _ _ _ _ => (pd_tup (pa_consD (pvD 2) (pa_consD (pvD 3) pa_nilD)))))))))
    (qs_one (ps_retD (pvD 1)))))
theorem ok_gaps_of (t : Tx K mg) : FnOk P w K mg base (L2.CX P w) 4 t.a_gaps_of t.d_gaps_of ["table", "mend"] (spD ⟨K, T, mg⟩ 2 F_gaps_of) :=
  def_fin (k := 3) t.F_gaps_of sc_gaps_of fun cdv A outer s H E hr =>
    (qs_cons (ps_setD (i := 2) sc_gaps_of.nd rfl (by first | exact .inl rfl | exact .inr rfl) (pd_lst true pa_nilD))
    (qs_cons (ps_forD (passes_of rfl) rfl (tg_two (tg_name _ 3) (tg_name _ 4)) (pi_seqD (pd_call (ok_pairs_of t) (takes_of rfl rfl rfl rfl) (hr.mono (by decide)) rfl t.m_pairs_of t.F_pairs_of.kp t.b_pairs_of (pa_consD (pd_callB call_len_seq does_len rfl t.z_len boot_len (pa_consD (pvD 0) pa_nilD)) pa_nilD))) (pg_tup rfl (pgs_cons (pg_name (i := 3) sc_gaps_of.nd rfl (by first | exact .inl rfl | exact .inr rfl)) (pgs_cons (pg_name (i := 4) sc_gaps_of.nd rfl (by first | exact .inl rfl | exact .inr rfl)) pgs_nil)))
    (qs_cons (ps_parD (i := 5) (j := 6) rfl sc_gaps_of.nd rfl rfl (by decide) rfl rfl (pa_consD (pd_tup (pa_consD (pd_ix (pd_ix (pvD 0) (pvD 3)) (pvD 4)) (pa_consD pd_int pa_nilD))) (pa_consD (pd_ix (pd_ix (pvD 1) (pvD 3)) (pvD 4)) pa_nilD)) rfl)
    (qs_one (ps_exprD (pd_append (pvD 2) (pe_ifD (pt_tru (pd_call (ok_is_less t) (takes_of rfl rfl rfl rfl) (hr.mono (by decide)) rfl t.m_is_less t.F_is_less.kp t.b_is_less (pa_consD (pvD 6) (pa_consD (pvD 5) pa_nilD)))) (pd_call (ok_minus t) (takes_of rfl rfl rfl rfl) (hr.mono (by decide)) rfl t.m_minus t.F_minus.kp t.b_minus (pa_consD (pvD 5) (pa_consD (pvD 6) pa_nilD))) (pd_call (ok_minus t) (takes_of rfl rfl rfl rfl) (hr.mono (by decide)) rfl t.m_minus t.F_minus.kp t.b_minus (pa_consD (pvD 6) (pa_consD (pvD 5) pa_nilD)))))))))
    (qs_one (ps_retD (pvD 2)))))
theorem ok_check_mend (t : Tx K mg) : FnOk P w K mg base (L2.CX P w) 5 t.a_check_mend t.d_check_mend ["table", "mend"] (spD ⟨K, T, mg⟩ 2 F_check_mend) :=
  def_fin (k := 4) t.F_check_mend sc_check_mend fun cdv A outer s H E hr =>
    (qs_cons (ps_exprD (pd_call (ok_check_table t) (takes_of rfl rfl rfl rfl) (hr.mono (by decide)) rfl t.m_check_table t.F_check_table.kp t.b_check_table (pa_consD (pvD 0) pa_nilD)))
    (qs_one (ps_ifD (pt_notD (pt_tru (pd_call (ok_is_mend_of t) (takes_of rfl rfl rfl rfl) (hr.mono (by decide)) rfl t.m_is_mend_of t.F_is_mend_of.kp t.b_is_mend_of (pa_consD (pd_callB call_len_seq does_len rfl t.z_len boot_len (pa_consD (pvD 0) pa_nilD)) (pa_consD (pvD 1) pa_nilD))))) (qs_one ps_neverD) qs_nil)))
theorem ok_most_of (t : Tx K mg) : FnOk P w K mg base (L2.CX P w) 2 t.a_most_of t.d_most_of ["parts"] (spD ⟨K, T, mg⟩ 1 F_most_of) :=
  def_fin (k := 1) t.F_most_of sc_most_of fun cdv A outer s H E hr =>
    (qs_cons (ps_setD (i := 1) sc_most_of.nd rfl (by first | exact .inl rfl | exact .inr rfl) (pd_gtup rfl t.c_ZERO))
    (qs_cons (ps_forD (passes_of rfl) rfl (tg_name _ 2) (pi_seqD (pvD 0)) (pg_name (i := 2) sc_most_of.nd rfl (by first | exact .inl rfl | exact .inr rfl))
    (qs_one (ps_setD (i := 1) sc_most_of.nd rfl (by first | exact .inl rfl | exact .inr rfl) (pe_ifD (pt_tru (pd_call (ok_is_less t) (takes_of rfl rfl rfl rfl) (hr.mono (by decide)) rfl t.m_is_less t.F_is_less.kp t.b_is_less (pa_consD (pvD 1) (pa_consD (pvD 2) pa_nilD)))) (pvD 2) (pvD 1)))))
    (qs_one (ps_retD (pvD 1)))))
theorem ok_off_most (t : Tx K mg) : FnOk P w K mg base (L2.CX P w) 6 t.a_off_most t.d_off_most ["table", "mend"] (spD ⟨K, T, mg⟩ 2 F_off_most) :=
  def_fin (k := 5) t.F_off_most sc_off_most fun cdv A outer s H E hr =>
    (qs_cons (ps_exprD (pd_call (ok_check_mend t) (takes_of rfl rfl rfl rfl) (hr.mono (by decide)) rfl t.m_check_mend t.F_check_mend.kp t.b_check_mend (pa_consD (pvD 0) (pa_consD (pvD 1) pa_nilD))))
    (qs_one (ps_retD (pd_call (ok_most_of t) (takes_of rfl rfl rfl rfl) (hr.mono (by decide)) rfl t.m_most_of t.F_most_of.kp t.b_most_of (pa_consD (pd_call (ok_gaps_of t) (takes_of rfl rfl rfl rfl) (hr.mono (by decide)) rfl t.m_gaps_of t.F_gaps_of.kp t.b_gaps_of (pa_consD (pvD 0) (pa_consD (pvD 1) pa_nilD))) pa_nilD)))))
theorem ok_sum_of (t : Tx K mg) : FnOk P w K mg base (L2.CX P w) 4 t.a_sum_of t.d_sum_of ["parts"] (spD ⟨K, T, mg⟩ 1 F_sum_of) :=
  def_fin (k := 3) t.F_sum_of sc_sum_of fun cdv A outer s H E hr =>
    (qs_cons (ps_setD (i := 1) sc_sum_of.nd rfl (by first | exact .inl rfl | exact .inr rfl) (pd_gtup rfl t.c_ZERO))
    (qs_cons (ps_forD (passes_of rfl) rfl (tg_name _ 2) (pi_seqD (pvD 0)) (pg_name (i := 2) sc_sum_of.nd rfl (by first | exact .inl rfl | exact .inr rfl))
    (qs_one (ps_setD (i := 1) sc_sum_of.nd rfl (by first | exact .inl rfl | exact .inr rfl) (pd_call (ok_plus t) (takes_of rfl rfl rfl rfl) (hr.mono (by decide)) rfl t.m_plus t.F_plus.kp t.b_plus (pa_consD (pvD 1) (pa_consD (pvD 2) pa_nilD))))))
    (qs_one (ps_retD (pvD 1)))))
theorem ok_off_sum (t : Tx K mg) : FnOk P w K mg base (L2.CX P w) 6 t.a_off_sum t.d_off_sum ["table", "mend"] (spD ⟨K, T, mg⟩ 2 F_off_sum) :=
  def_fin (k := 5) t.F_off_sum sc_off_sum fun cdv A outer s H E hr =>
    (qs_cons (ps_exprD (pd_call (ok_check_mend t) (takes_of rfl rfl rfl rfl) (hr.mono (by decide)) rfl t.m_check_mend t.F_check_mend.kp t.b_check_mend (pa_consD (pvD 0) (pa_consD (pvD 1) pa_nilD))))
    (qs_one (ps_retD (pd_call (ok_sum_of t) (takes_of rfl rfl rfl rfl) (hr.mono (by decide)) rfl t.m_sum_of t.F_sum_of.kp t.b_sum_of (pa_consD (pd_call (ok_gaps_of t) (takes_of rfl rfl rfl rfl) (hr.mono (by decide)) rfl t.m_gaps_of t.F_gaps_of.kp t.b_gaps_of (pa_consD (pvD 0) (pa_consD (pvD 1) pa_nilD))) pa_nilD)))))
theorem ok_off_pairs (t : Tx K mg) : FnOk P w K mg base (L2.CX P w) 6 t.a_off_pairs t.d_off_pairs ["table", "mend"] (spD ⟨K, T, mg⟩ 2 F_off_pairs) :=
  def_fin (k := 5) t.F_off_pairs sc_off_pairs fun cdv A outer s H E hr =>
    (qs_cons (ps_exprD (pd_call (ok_check_mend t) (takes_of rfl rfl rfl rfl) (hr.mono (by decide)) rfl t.m_check_mend t.F_check_mend.kp t.b_check_mend (pa_consD (pvD 0) (pa_consD (pvD 1) pa_nilD))))
    (qs_one (ps_retD (pd_callB call_len_seq does_len rfl t.z_len boot_len (pa_consD (pd_lc (own := [("gap", 2)]) false rfl sc_off_pairs.nd (pi_seqD (pd_call (ok_gaps_of t) (takes_of rfl rfl rfl rfl) (hr.mono (by decide)) rfl t.m_gaps_of t.F_gaps_of.kp t.b_gaps_of (pa_consD (pvD 0) (pa_consD (pvD 1) pa_nilD)))) (blkOk_by (N := ["table", "mend", "gap"]) (sc := (defScope s_off_pairs)) (own := [("gap", 2)]) (by decide +kernel)) (tg_name _ 2) (by decide) (fun _ _ _ _ _ => (pg_name (i := 2) sc_off_pairs.nd rfl (by first | exact .inl rfl | exact .inr rfl))) (fun _ _ _ _ _ => (pts_oneD (pt_cmpD (op_neD hr.units) does_ne (pvD 2) (pd_gtup rfl t.c_ZERO) (nomark _)))) (fun _ _ _ _ _ => (pvD 2))) pa_nilD)))))
theorem ok_lack_of (t : Tx K mg) : FnOk P w K mg base (L2.CX P w) 3 t.a_lack_of t.d_lack_of ["table", "row"] (spD ⟨K, T, mg⟩ 2 F_lack_of) :=
  def_fin (k := 2) t.F_lack_of sc_lack_of fun cdv A outer s H E hr =>
    (qs_cons (ps_setLcD (own := [("i", 3), ("j", 4)]) (i := 2) false rfl sc_lack_of.nd rfl rfl (sw_true rfl rfl rfl (by decide +kernel)) (pi_zipD rfl t.z_zip (pa_consD (pvD 1) (pa_consD (pd_slice false (pvD 1) (po_someD pd_int) po_noneD) pa_nilD))) (blkOk_by (N := ["table", "row", "steps", "i", "j"]) (sc := (defScope s_lack_of)) (own := [("i", 3), ("j", 4)]) (by decide +kernel)) (tg_two (tg_name _ 3) (tg_name _ 4)) (by decide) (fun _ _ _ _ _ => (pg_tup rfl (pgs_cons (pg_name (i := 3) sc_lack_of.nd rfl (by first | exact .inl rfl | exact .inr rfl)) (pgs_cons (pg_name (i := 4) sc_lack_of.nd rfl (by first | exact .inl rfl | exact .inr rfl)) pgs_nil)))) (fun _ _ _ _ _ => pts_nilD) (fun _ _ _ _ _ => (pd_ix (pd_ix (pvD 0) (pvD 3)) (pvD 4))))
    (qs_one (ps_retD (pd_call (ok_share t) (takes_of rfl rfl rfl rfl) (hr.mono (by decide)) rfl t.m_share t.F_share.kp t.b_share (pa_consD (pd_sub (pd_ix (pd_ix (pvD 0) (pd_ix (pvD 1) pd_int)) (pd_ix (pvD 1) (pd_neg pd_int))) (pd_callB (cr_sum rfl) does_sum rfl t.z_sum boot_sum (pa_consD (pvD 2) pa_nilD))) (pa_consD (pd_add (pd_callB call_len_seq does_len rfl t.z_len boot_len (pa_consD (pvD 2) pa_nilD)) pd_int) pa_nilD))))))
theorem ok_worst_way (t : Tx K mg) : FnOk P w K mg base (L2.CX P w) 4 t.a_worst_way t.d_worst_way ["table"] (spD ⟨K, T, mg⟩ 1 F_worst_way) :=
  def_fin (k := 3) t.F_worst_way sc_worst_way fun cdv A outer s H E hr =>
    (qs_cons (ps_parD (i := 1) (j := 2) rfl sc_worst_way.nd rfl rfl (by decide) rfl rfl (pa_consD (pd_tup (pa_consD (pd_gtup rfl t.c_ZERO) (pa_consD pd_non pa_nilD))) (pa_consD (pd_lc (own := [("place", 6)]) false rfl sc_worst_way.nd (pi_rangeD1 rfl t.z_range (pa_consD (pd_callB call_len_seq does_len rfl t.z_len boot_len (pa_consD (pvD 0) pa_nilD)) pa_nilD)) (blkOk_by (N := ["table", "best", "rows", "longer", "row", "here", "place"]) (sc := (defScope s_worst_way)) (own := [("place", 6)]) (by decide +kernel)) (tg_name _ 6) (by decide) (fun _ _ _ _ _ => (pg_name (i := 6) sc_worst_way.nd rfl (by first | exact .inl rfl | exact .inr rfl))) (fun _ _ _ _ _ => pts_nilD) (fun _ _ _ _ _ => (pd_tup (pa_consD (pvD 6) pa_nilD)))) pa_nilD)) rfl)
    (qs_cons (ps_whileD (passes_of rfl) (pt_tru (pvD 2))
    (qs_cons (ps_setD (i := 3) sc_worst_way.nd rfl (by first | exact .inl rfl | exact .inr rfl) (pd_lst true pa_nilD))
    (qs_cons (ps_forD (passes_of rfl) rfl (tg_name _ 4) (pi_seqD (pvD 2)) (pg_name (i := 4) sc_worst_way.nd rfl (by first | exact .inl rfl | exact .inr rfl))
    (qs_one (ps_exprD (pd_extend (pvD 3) (pd_lc (own := [("place", 6)]) false rfl sc_worst_way.nd (pi_rangeD1 rfl t.z_range (pa_consD (pd_callB call_len_seq does_len rfl t.z_len boot_len (pa_consD (pvD 0) pa_nilD)) pa_nilD)) (blkOk_by (N := ["table", "best", "rows", "longer", "row", "here", "place"]) (sc := (defScope s_worst_way)) (own := [("place", 6)]) (by decide +kernel)) (tg_name _ 6) (by decide) (fun _ _ _ _ _ => (pg_name (i := 6) sc_worst_way.nd rfl (by first | exact .inl rfl | exact .inr rfl))) (fun _ _ _ _ _ => (pts_oneD (pt_cmpD (or_notIn (hu65 hr)) does_notIn (pvD 6) (pvD 4) (by with_unfolding_all rfl)))) (fun _ _ _ _ _ => (pd_add (pvD 4) (pd_tup (pa_consD (pvD 6) pa_nilD)))))))))
    (qs_cons (ps_setD (i := 2) sc_worst_way.nd rfl (by first | exact .inl rfl | exact .inr rfl) (pvD 3))
    (qs_one (ps_forD (passes_of rfl) rfl (tg_name _ 4) (pi_seqD (pvD 2)) (pg_name (i := 4) sc_worst_way.nd rfl (by first | exact .inl rfl | exact .inr rfl))
    (qs_cons (ps_setD (i := 5) sc_worst_way.nd rfl (by first | exact .inl rfl | exact .inr rfl) (pd_call (ok_lack_of t) (takes_of rfl rfl rfl rfl) (hr.mono (by decide)) rfl t.m_lack_of t.F_lack_of.kp t.b_lack_of (pa_consD (pvD 0) (pa_consD (pvD 4) pa_nilD))))
    (qs_one (ps_setD (i := 1) sc_worst_way.nd rfl (by first | exact .inl rfl | exact .inr rfl) (pe_ifD (pt_tru (pd_call (ok_is_less t) (takes_of rfl rfl rfl rfl) (hr.mono (by decide)) rfl t.m_is_less t.F_is_less.kp t.b_is_less (pa_consD (pd_ix (pvD 1) pd_int) (pa_consD (pvD 5) pa_nilD)))) (pd_tup (pa_consD (pvD 5) (pa_consD (pvD 4) pa_nilD))) (pvD 1)))))))))))
    (qs_one (ps_retD (pvD 1)))))
theorem ok_shortest_shares (t : Tx K mg) : FnOk P w K mg base (L2.CX P w) 4 t.a_shortest_shares t.d_shortest_shares ["rows"] (spD ⟨K, T, mg⟩ 1 F_shortest_shares) :=
  def_fin (k := 3) t.F_shortest_shares sc_shortest_shares fun cdv A outer s H E hr =>
    (qs_cons (ps_setLcD (own := [("row", 2)]) (i := 0) false rfl sc_shortest_shares.nd rfl rfl (sw_true rfl rfl rfl (by decide +kernel)) (pi_seqD (pvD 0)) (blkOk_by (N := ["rows", "middle", "row", "j", "one", "here"]) (sc := (defScope s_shortest_shares)) (own := [("row", 2)]) (by decide +kernel)) (tg_name _ 2) (by decide) (fun _ _ _ _ _ => (pg_name (i := 2) sc_shortest_shares.nd rfl (by first | exact .inl rfl | exact .inr rfl))) (fun _ _ _ _ _ => pts_nilD) (fun _ _ _ _ _ => (pd_callT call_list_of (does_list true) rfl t.z_list boot_list (pa_consD (pvD 2) pa_nilD))))
    (qs_cons (ps_forD (passes_of rfl) rfl (tg_name _ 1) (pi_rangeD1 rfl t.z_range (pa_consD (pd_callB call_len_seq does_len rfl t.z_len boot_len (pa_consD (pvD 0) pa_nilD)) pa_nilD)) (pg_name (i := 1) sc_shortest_shares.nd rfl (by first | exact .inl rfl | exact .inr rfl))
    (qs_one (ps_forD (passes_of rfl) rfl (tg_name _ 2) (pi_seqD (pvD 0)) (pg_name (i := 2) sc_shortest_shares.nd rfl (by first | exact .inl rfl | exact .inr rfl))
    (qs_one (ps_forD (passes_of rfl) rfl (tg_two (tg_name _ 3) (tg_name _ 4)) (pi_enumD rfl t.z_enumerate (pa_consD (pd_ix (pvD 0) (pvD 1)) pa_nilD)) (pg_tup rfl (pgs_cons (pg_name (i := 3) sc_shortest_shares.nd rfl (by first | exact .inl rfl | exact .inr rfl)) (pgs_cons (pg_name (i := 4) sc_shortest_shares.nd rfl (by first | exact .inl rfl | exact .inr rfl)) pgs_nil)))
    (qs_cons (ps_setD (i := 5) sc_shortest_shares.nd rfl (by first | exact .inl rfl | exact .inr rfl) (pd_call (ok_plus t) (takes_of rfl rfl rfl rfl) (hr.mono (by decide)) rfl t.m_plus t.F_plus.kp t.b_plus (pa_consD (pd_ix (pvD 2) (pvD 1)) (pa_consD (pvD 4) pa_nilD))))
    (qs_one (ps_setIxD (pvD 2) (pvD 3) (pe_ifD (pt_tru (pd_call (ok_is_less t) (takes_of rfl rfl rfl rfl) (hr.mono (by decide)) rfl t.m_is_less t.F_is_less.kp t.b_is_less (pa_consD (pvD 5) (pa_consD (pd_ix (pvD 2) (pvD 3)) pa_nilD)))) (pvD 5) (pd_ix (pvD 2) (pvD 3)))))))))))
    (qs_one (ps_retD (pd_callT call_tuple_ofN does_tuple rfl t.z_tuple boot_tuple (pa_consD (pd_lc (own := [("row", 2)]) false rfl sc_shortest_shares.nd (pi_seqD (pvD 0)) (blkOk_by (N := ["rows", "middle", "row", "j", "one", "here"]) (sc := (defScope s_shortest_shares)) (own := [("row", 2)]) (by decide +kernel)) (tg_name _ 2) (by decide) (fun _ _ _ _ _ => (pg_name (i := 2) sc_shortest_shares.nd rfl (by first | exact .inl rfl | exact .inr rfl))) (fun _ _ _ _ _ => pts_nilD) (fun _ _ _ _ _ => (pd_callT call_tuple_ofN does_tuple rfl t.z_tuple boot_tuple (pa_consD (pvD 2) pa_nilD)))) pa_nilD))))))
theorem ok_raised_by (t : Tx K mg) : FnOk P w K mg base (L2.CX P w) 5 t.a_raised_by t.d_raised_by ["table", "t"] (spD ⟨K, T, mg⟩ 2 F_raised_by) :=
  def_fin (k := 4) t.F_raised_by sc_raised_by fun cdv A outer s H E hr =>
    (qs_cons (ps_setD (i := 2) sc_raised_by.nd rfl (by first | exact .inl rfl | exact .inr rfl) (pd_lst true pa_nilD))
    (qs_cons (ps_forD (passes_of rfl) rfl (tg_two (tg_name _ 3) (tg_name _ 4)) (pi_enumD rfl t.z_enumerate (pa_consD (pvD 0) pa_nilD)) (pg_tup rfl (pgs_cons (pg_name (i := 3) sc_raised_by.nd rfl (by first | exact .inl rfl | exact .inr rfl)) (pgs_cons (pg_name (i := 4) sc_raised_by.nd rfl (by first | exact .inl rfl | exact .inr rfl)) pgs_nil)))
    (qs_one (ps_exprD (pd_append (pvD 2) (pd_lc (own := [("j", 5), ("far", 6)]) false rfl sc_raised_by.nd (pi_enumD rfl t.z_enumerate (pa_consD (pvD 4) pa_nilD)) (blkOk_by (N := ["table", "t", "rows", "i", "row", "j", "far"]) (sc := (defScope s_raised_by)) (own := [("j", 5), ("far", 6)]) (by decide +kernel)) (tg_two (tg_name _ 5) (tg_name _ 6)) (by decide) (fun _ _ _ _ _ => (pg_tup rfl (pgs_cons (pg_name (i := 5) sc_raised_by.nd rfl (by first | exact .inl rfl | exact .inr rfl)) (pgs_cons (pg_name (i := 6) sc_raised_by.nd rfl (by first | exact .inl rfl | exact .inr rfl)) pgs_nil)))) (fun _ _ _ _ _ => pts_nilD) (fun _ _ _ _ _ => (pe_ifD (pt_cmpD (op_eqD hr.units) does_eq (pvD 3) (pvD 5) (nomark _)) (pd_gtup rfl t.c_ZERO) (pd_call (ok_plus t) takes0 (hr.mono (by decide)) rfl t.m_plus t.F_plus.kp t.b_plus (pa_consD (pd_tup (pa_consD (pvD 6) (pa_consD pd_int pa_nilD))) (pa_consD (pvD 1) pa_nilD))))))))))
    (qs_one (ps_retD (pd_call (ok_shortest_shares t) (takes_of rfl rfl rfl rfl) (hr.mono (by decide)) rfl t.m_shortest_shares t.F_shortest_shares.kp t.b_shortest_shares (pa_consD (pvD 2) pa_nilD))))))
theorem ok_nearest_mend (t : Tx K mg) : FnOk P w K mg base (L2.CX P w) 6 t.a_nearest_mend t.d_nearest_mend ["table"] (spD ⟨K, T, mg⟩ 1 F_nearest_mend) :=
  def_fin (k := 5) t.F_nearest_mend sc_nearest_mend fun cdv A outer s H E hr =>
    (qs_cons (ps_exprD (pd_call (ok_check_table t) (takes_of rfl rfl rfl rfl) (hr.mono (by decide)) rfl t.m_check_table t.F_check_table.kp t.b_check_table (pa_consD (pvD 0) pa_nilD)))
    (qs_cons (ps_asgD (tg_two (tg_name _ 1) (tg_name _ 2)) (pd_call (ok_worst_way t) (takes_of rfl rfl rfl rfl) (hr.mono (by decide)) rfl t.m_worst_way t.F_worst_way.kp t.b_worst_way (pa_consD (pvD 0) pa_nilD)) (pg_tup rfl (pgs_cons (pg_name (i := 1) sc_nearest_mend.nd rfl (by first | exact .inl rfl | exact .inr rfl)) (pgs_cons (pg_name (i := 2) sc_nearest_mend.nd rfl (by first | exact .inl rfl | exact .inr rfl)) pgs_nil))))
    (qs_one (ps_retD (pd_tup (pa_consD (pvD 1) (pa_consD (pd_call (ok_raised_by t) (takes_of rfl rfl rfl rfl) (hr.mono (by decide)) rfl t.m_raised_by t.F_raised_by.kp t.b_raised_by (pa_consD (pvD 0) (pa_consD (pvD 1) pa_nilD))) (pa_consD (pvD 2) pa_nilD))))))))
theorem ok_is_nearest_mend (t : Tx K mg) : FnOk P w K mg base (L2.CX P w) 5 t.a_is_nearest_mend t.d_is_nearest_mend ["table", "thing"] (spD ⟨K, T, mg⟩ 2 F_is_nearest_mend) :=
  def_fin (k := 4) t.F_is_nearest_mend sc_is_nearest_mend fun cdv A outer s H E hr =>
    (qs_cons (ps_exprD (pd_call (ok_check_table t) (takes_of rfl rfl rfl rfl) (hr.mono (by decide)) rfl t.m_check_table t.F_check_table.kp t.b_check_table (pa_consD (pvD 0) pa_nilD)))
    (qs_cons (ps_setD (i := 2) sc_is_nearest_mend.nd rfl (by first | exact .inl rfl | exact .inr rfl) (pd_callB call_len_seq does_len rfl t.z_len boot_len (pa_consD (pvD 0) pa_nilD)))
    (qs_cons (ps_ifD (pt_pw (pw_orD (pt_notD (pt_tru (pd_call (ok_is_sized t) (takes_of rfl rfl rfl rfl) (hr.mono (by decide)) rfl t.m_is_sized t.F_is_sized.kp t.b_is_sized (pa_consD (pvD 1) (pa_consD pd_int (pa_consD pd_int pa_nilD)))))) (pw_orD (pt_notD (pt_tru (pd_call (ok_is_share t) (takes_of rfl rfl rfl rfl) (hr.mono (by decide)) rfl t.m_is_share t.F_is_share.kp t.b_is_share (pa_consD (pd_ix (pvD 1) pd_int) pa_nilD)))) (pw_orD1 (pt_notD (pt_tru (pd_call (ok_is_mend_of t) (takes_of rfl rfl rfl rfl) (hr.mono (by decide)) rfl t.m_is_mend_of t.F_is_mend_of.kp t.b_is_mend_of (pa_consD (pvD 2) (pa_consD (pd_ix (pvD 1) pd_int) pa_nilD))))))))) (qs_one (ps_retD pd_bl)) qs_nil)
    (qs_cons (ps_ifD (pt_tru (pd_call (ok_is_less t) (takes_of rfl rfl rfl rfl) (hr.mono (by decide)) rfl t.m_is_less t.F_is_less.kp t.b_is_less (pa_consD (pd_ix (pvD 1) pd_int) (pa_consD (pd_call (ok_most_of t) (takes_of rfl rfl rfl rfl) (hr.mono (by decide)) rfl t.m_most_of t.F_most_of.kp t.b_most_of (pa_consD (pd_call (ok_gaps_of t) (takes_of rfl rfl rfl rfl) (hr.mono (by decide)) rfl t.m_gaps_of t.F_gaps_of.kp t.b_gaps_of (pa_consD (pvD 0) (pa_consD (pd_ix (pvD 1) pd_int) pa_nilD))) pa_nilD)) pa_nilD)))) (qs_one (ps_retD pd_bl)) qs_nil)
    (qs_cons (ps_ifD (pt_cmpD op_isN does_isN (pd_ix (pvD 1) pd_int) pd_non (nomark _)) (qs_one (ps_retD (pd_cmp (op_eqD hr.units) does_eq (pd_ix (pvD 1) pd_int) (pd_gtup rfl t.c_ZERO) (nomark _)))) qs_nil)
    (qs_cons (ps_ifD (pt_pw (pw_orD (pt_notD (pt_tru (pd_call (ok_is_sized t) (takes_of rfl rfl rfl rfl) (hr.mono (by decide)) rfl t.m_is_sized t.F_is_sized.kp t.b_is_sized (pa_consD (pd_ix (pvD 1) pd_int) (pa_consD pd_int (pa_consD (pvD 2) pa_nilD)))))) (pw_orD1 (pt_notD (pt_tru (pd_callB (cr_all rfl) does_all rfl t.z_all boot_all (pa_consD (pd_lc (own := [("place", 3)]) false rfl sc_is_nearest_mend.nd (pi_seqD (pd_ix (pvD 1) pd_int)) (blkOk_by (N := ["table", "thing", "n", "place"]) (sc := (defScope s_is_nearest_mend)) (own := [("place", 3)]) (by decide +kernel)) (tg_name _ 3) (by decide) (fun _ _ _ _ _ => (pg_name (i := 3) sc_is_nearest_mend.nd rfl (by first | exact .inl rfl | exact .inr rfl))) (fun _ _ _ _ _ => pts_nilD) (fun _ _ _ _ _ => (pd_call (ok_is_within t) takes0 (hr.mono (by decide)) rfl t.m_is_within t.F_is_within.kp t.b_is_within (pa_consD (pvD 3) (pa_consD pd_int (pa_consD (pd_sub (pvD 2) pd_int) pa_nilD)))))) pa_nilD))))))) (qs_one (ps_retD pd_bl)) qs_nil)
    (qs_cons (ps_ifD (pt_notD (pt_tru (pd_callB (cr_all rfl) does_all rfl t.z_all boot_all (pa_consD (pd_lc (own := [("place", 3)]) false rfl sc_is_nearest_mend.nd (pi_seqD (pd_ix (pvD 1) pd_int)) (blkOk_by (N := ["table", "thing", "n", "place"]) (sc := (defScope s_is_nearest_mend)) (own := [("place", 3)]) (by decide +kernel)) (tg_name _ 3) (by decide) (fun _ _ _ _ _ => (pg_name (i := 3) sc_is_nearest_mend.nd rfl (by first | exact .inl rfl | exact .inr rfl))) (fun _ _ _ _ _ => pts_nilD) (fun _ _ _ _ _ => (pd_cmp (op_eqD hr.units) does_eq (pd_countT (pd_ix (pvD 1) pd_int) (pvD 3)) pd_int (nomark _)))) pa_nilD)))) (qs_one (ps_retD pd_bl)) qs_nil)
    (qs_one (ps_retD (pe_andD (pd_cmp op_gt does_cmp (pd_ix (pd_ix (pvD 1) pd_int) pd_int) pd_int (nomark _)) (pe_oneD (pd_cmp (op_eqD hr.units) does_eq (pd_call (ok_lack_of t) (takes_of rfl rfl rfl rfl) (hr.mono (by decide)) rfl t.m_lack_of t.F_lack_of.kp t.b_lack_of (pa_consD (pvD 0) (pa_consD (pd_ix (pvD 1) pd_int) pa_nilD))) (pd_ix (pvD 1) pd_int) (nomark _)))))))))))))
theorem ok_law_hand (t : Tx K mg) : FnOk P w K mg base (L2.CX P w) 1 t.a_law_hand t.d_law_hand ["script"] (spD ⟨K, T, mg⟩ 1 F_law_hand) :=
  def_raw (k := 0) t.F_law_hand sc_law_hand fun cdv A outer s H E hr =>
    (qs_cons (ps_setLcD (own := [("cell", 2)]) (i := 1) false rfl sc_law_hand.nd rfl rfl (sw_true rfl rfl rfl (by decide +kernel)) (pi_seqD (pd_slice false (pvD 0) po_noneD (po_someD pd_int))) (blkOk_by (N := ["script", "cells", "cell"]) (sc := (defScope s_law_hand)) (own := [("cell", 2)]) (by decide +kernel)) (tg_name _ 2) (by decide) (fun _ _ _ _ _ => (pg_name (i := 2) sc_law_hand.nd rfl (by first | exact .inl rfl | exact .inr rfl))) (fun _ _ _ _ _ => pts_nilD) (fun _ _ _ _ _ => (pd_callB call_abs does_abs rfl t.z_abs boot_abs (pa_consD (pd_callT call_int1 does_int rfl t.z_int boot_int (pa_consD (pvD 2) pa_nilD)) pa_nilD))))
    (qs_one (ps_retD (pd_lst true (pa_consD (pvD 1) (pa_consD pd_int (pa_consD pd_int (pa_consD (pd_add pd_int (pd_mul pd_int (pd_callB call_len_seq does_len rfl t.z_len boot_len (pa_consD (pvD 1) pa_nilD)))) (pa_consD pd_int pa_nilD)))))))))
theorem ok_law_draw (t : Tx K mg) : FnOk P w K mg base (L2.CX P w) 1 t.a_law_draw t.d_law_draw ["hand", "many"] (spD ⟨K, T, mg⟩ 2 F_law_draw) :=
  def_fin (k := 0) t.F_law_draw sc_law_draw fun cdv A outer s H E hr =>
    (qs_cons (ps_ifD (pt_pw (pw_andD (pt_cmpD (op_eqD hr.units) does_eq (pd_ix (pvD 0) pd_int) pd_int (nomark _)) (pw_andD1 (pt_cmpD op_lt does_cmp (pd_ix (pvD 0) pd_int) (pd_callB call_len_seq does_len rfl t.z_len boot_len (pa_consD (pd_ix (pvD 0) pd_int) pa_nilD)) (nomark _))))) (qs_cons (ps_setD (i := 2) sc_law_draw.nd rfl (by first | exact .inl rfl | exact .inr rfl) (pd_ix (pd_ix (pvD 0) pd_int) (pd_ix (pvD 0) pd_int)))
    (qs_cons (ps_setIxD (pvD 0) pd_int (pd_add (pd_ix (pvD 0) pd_int) pd_int))
    (qs_cons (ps_setIxD (pvD 0) pd_int (pd_mod (pd_callT call_int1 does_int rfl t.z_int boot_int (pa_consD (pd_add (pd_add (pd_mul (pd_ix (pvD 0) pd_int) pd_int) (pvD 2)) pd_int) pa_nilD)) pd_int))
    (qs_one (ps_ifD (pt_cmpD op_ge does_cmp (pvD 2) (pd_pow pd_int pd_int) (nomark _)) (qs_one (ps_setIxD (pvD 0) pd_int (pvD 2))) qs_nil))))) qs_nil)
    (qs_cons (ps_ifD (pt_cmpD op_gt does_cmp (pd_ix (pvD 0) pd_int) pd_int (nomark _)) (qs_cons (ps_setD (i := 3) sc_law_draw.nd rfl (by first | exact .inl rfl | exact .inr rfl) (pd_mod (pd_callT call_int1 does_int rfl t.z_int boot_int (pa_consD (pd_ix (pvD 0) pd_int) pa_nilD)) (pvD 1)))
    (qs_cons (ps_setIxD (pvD 0) pd_int (pd_div (pd_ix (pvD 0) pd_int) (pvD 1)))
    (qs_one (ps_retD (pvD 3))))) qs_nil)
    (qs_cons (ps_setIxD (pvD 0) pd_int (pd_add (pd_ix (pvD 0) pd_int) pd_int))
    (qs_cons (ps_setD (i := 4) sc_law_draw.nd rfl (by first | exact .inl rfl | exact .inr rfl) (pd_mod (pd_callT call_int1 does_int rfl t.z_int boot_int (pa_consD (pd_mul (pd_callT call_int1 does_int rfl t.z_int boot_int (pa_consD (pd_add (pd_ix (pvD 0) pd_int) (pd_mul pd_int (pd_ix (pvD 0) pd_int))) pa_nilD)) pd_int) pa_nilD)) pd_int))
    (qs_cons (ps_setD (i := 4) sc_law_draw.nd rfl (by first | exact .inl rfl | exact .inr rfl) (pd_mod (pd_callT call_int1 does_int rfl t.z_int boot_int (pa_consD (pd_mul (pvD 4) (pd_add (pd_div (pvD 4) pd_int) pd_int)) pa_nilD)) pd_int))
    (qs_cons (ps_setD (i := 4) sc_law_draw.nd rfl (by first | exact .inl rfl | exact .inr rfl) (pd_mod (pd_callT call_int1 does_int rfl t.z_int boot_int (pa_consD (pd_mul (pvD 4) (pd_add (pd_div (pvD 4) pd_int) pd_int)) pa_nilD)) pd_int))
    (qs_one (ps_retD (pd_mod (pd_callT call_int1 does_int rfl t.z_int boot_int (pa_consD (pd_div (pvD 4) pd_int) pa_nilD)) (pvD 1))))))))))
theorem ok_law_some (t : Tx K mg) : FnOk P w K mg base (L2.CX P w) 2 t.a_law_some t.d_law_some ["hand", "things"] (spD ⟨K, T, mg⟩ 2 F_law_some) :=
  def_fin (k := 1) t.F_law_some sc_law_some fun cdv A outer s H E hr =>
    (qs_one (ps_retD (pd_ix (pvD 1) (pd_call (ok_law_draw t) (takes_of rfl rfl rfl rfl) (hr.mono (by decide)) rfl t.m_law_draw t.F_law_draw.kp t.b_law_draw (pa_consD (pvD 0) (pa_consD (pd_callB call_len_seq does_len rfl t.z_len boot_len (pa_consD (pvD 1) pa_nilD)) pa_nilD))))))
theorem ok_law_table (t : Tx K mg) : FnOk P w K mg base (L2.CX P w) 2 t.a_law_table t.d_law_table ["hand", "many", "most"] (spD ⟨K, T, mg⟩ 3 F_law_table) :=
  def_fin (k := 1) t.F_law_table sc_law_table fun cdv A outer s H E hr =>
    (qs_cons (ps_setLcD (own := [("place", 7)]) (i := 3) false rfl sc_law_table.nd rfl rfl (sw_true rfl rfl rfl (by decide +kernel)) (pi_rangeD1 rfl t.z_range (pa_consD (pvD 1) pa_nilD)) (blkOk_by (N := ["hand", "many", "most", "rows", "i", "j", "number", "place", "row"]) (sc := (defScope s_law_table)) (own := [("place", 7)]) (by decide +kernel)) (tg_name _ 7) (by decide) (fun _ _ _ _ _ => (pg_name (i := 7) sc_law_table.nd rfl (by first | exact .inl rfl | exact .inr rfl))) (fun _ _ _ _ _ => pts_nilD) (fun _ _ _ _ _ => (pd_rep true (pd_lst false (pa_consD pd_int pa_nilD)) (pvD 1))))
    (qs_cons (ps_forD (passes_of rfl) rfl (tg_name _ 4) (pi_rangeD1 rfl t.z_range (pa_consD (pvD 1) pa_nilD)) (pg_name (i := 4) sc_law_table.nd rfl (by first | exact .inl rfl | exact .inr rfl))
    (qs_one (ps_forD (passes_of rfl) rfl (tg_name _ 5) (pi_rangeD2 rfl t.z_range (pa_consD (pd_add (pvD 4) pd_int) (pa_consD (pvD 1) pa_nilD))) (pg_name (i := 5) sc_law_table.nd rfl (by first | exact .inl rfl | exact .inr rfl))
    (qs_cons (ps_setD (i := 6) sc_law_table.nd rfl (by first | exact .inl rfl | exact .inr rfl) (pd_add pd_int (pd_call (ok_law_draw t) (takes_of rfl rfl rfl rfl) (hr.mono (by decide)) rfl t.m_law_draw t.F_law_draw.kp t.b_law_draw (pa_consD (pvD 0) (pa_consD (pvD 2) pa_nilD)))))
    (qs_one (ps_asgS (u_two u_sub u_sub) (pd_tup (pa_consD (pvD 6) (pa_consD (pvD 6) pa_nilD))) (pg_tup rfl (pgs_cons (pg_subD (pd_ix (pvD 3) (pvD 4)) (pvD 5)) (pgs_cons (pg_subD (pd_ix (pvD 3) (pvD 5)) (pvD 4)) pgs_nil)))))))))
    (qs_one (ps_retD (pd_callT call_tuple_ofN does_tuple rfl t.z_tuple boot_tuple (pa_consD (pd_lc (own := [("row", 8)]) false rfl sc_law_table.nd (pi_seqD (pvD 3)) (blkOk_by (N := ["hand", "many", "most", "rows", "i", "j", "number", "place", "row"]) (sc := (defScope s_law_table)) (own := [("row", 8)]) (by decide +kernel)) (tg_name _ 8) (by decide) (fun _ _ _ _ _ => (pg_name (i := 8) sc_law_table.nd rfl (by first | exact .inl rfl | exact .inr rfl))) (fun _ _ _ _ _ => pts_nilD) (fun _ _ _ _ _ => (pd_callT call_tuple_ofN does_tuple rfl t.z_tuple boot_tuple (pa_consD (pvD 8) pa_nilD)))) pa_nilD))))))
theorem ok_law_closing (t : Tx K mg) : FnOk P w K mg base (L2.CX P w) 1 t.a_law_closing t.d_law_closing ["table"] (spD ⟨K, T, mg⟩ 1 F_law_closing) :=
  def_fin (k := 0) t.F_law_closing sc_law_closing fun cdv A outer s H E hr =>
    (qs_cons (ps_setLcD (own := [("row", 6)]) (i := 1) false rfl sc_law_closing.nd rfl rfl (sw_true rfl rfl rfl (by decide +kernel)) (pi_seqD (pvD 0)) (blkOk_by (N := ["table", "rows", "many", "middle", "i", "j", "row"]) (sc := (defScope s_law_closing)) (own := [("row", 6)]) (by decide +kernel)) (tg_name _ 6) (by decide) (fun _ _ _ _ _ => (pg_name (i := 6) sc_law_closing.nd rfl (by first | exact .inl rfl | exact .inr rfl))) (fun _ _ _ _ _ => pts_nilD) (fun _ _ _ _ _ => (pd_callT call_list_of (does_list true) rfl t.z_list boot_list (pa_consD (pvD 6) pa_nilD))))
    (qs_cons (ps_setD (i := 2) sc_law_closing.nd rfl (by first | exact .inl rfl | exact .inr rfl) (pd_callB call_len_seq does_len rfl t.z_len boot_len (pa_consD (pvD 1) pa_nilD)))
    (qs_cons (ps_forD (passes_of rfl) rfl (tg_name _ 3) (pi_rangeD1 rfl t.z_range (pa_consD (pvD 2) pa_nilD)) (pg_name (i := 3) sc_law_closing.nd rfl (by first | exact .inl rfl | exact .inr rfl))
    (qs_one (ps_forD (passes_of rfl) rfl (tg_name _ 4) (pi_rangeD1 rfl t.z_range (pa_consD (pvD 2) pa_nilD)) (pg_name (i := 4) sc_law_closing.nd rfl (by first | exact .inl rfl | exact .inr rfl))
    (qs_one (ps_forD (passes_of rfl) rfl (tg_name _ 5) (pi_rangeD1 rfl t.z_range (pa_consD (pvD 2) pa_nilD)) (pg_name (i := 5) sc_law_closing.nd rfl (by first | exact .inl rfl | exact .inr rfl))
    (qs_one (ps_setIxD (pd_ix (pvD 1) (pvD 4)) (pvD 5) (pd_callB (call_min2 rfl) does_min2 rfl t.z_min boot_min (pa_consD (pd_ix (pd_ix (pvD 1) (pvD 4)) (pvD 5)) (pa_consD (pd_add (pd_ix (pd_ix (pvD 1) (pvD 4)) (pvD 3)) (pd_ix (pd_ix (pvD 1) (pvD 3)) (pvD 5))) pa_nilD))))))))))
    (qs_one (ps_retD (pd_callT call_tuple_ofN does_tuple rfl t.z_tuple boot_tuple (pa_consD (pd_lc (own := [("row", 6)]) false rfl sc_law_closing.nd (pi_seqD (pvD 1)) (blkOk_by (N := ["table", "rows", "many", "middle", "i", "j", "row"]) (sc := (defScope s_law_closing)) (own := [("row", 6)]) (by decide +kernel)) (tg_name _ 6) (by decide) (fun _ _ _ _ _ => (pg_name (i := 6) sc_law_closing.nd rfl (by first | exact .inl rfl | exact .inr rfl))) (fun _ _ _ _ _ => pts_nilD) (fun _ _ _ _ _ => (pd_callT call_tuple_ofN does_tuple rfl t.z_tuple boot_tuple (pa_consD (pvD 6) pa_nilD)))) pa_nilD)))))))
theorem ok_law_low (t : Tx K mg) : FnOk P w K mg base (L2.CX P w) 1 t.a_law_low t.d_law_low ["top", "bottom"] (spD ⟨K, T, mg⟩ 2 F_law_low) :=
  def_fin (k := 0) t.F_law_low sc_law_low fun cdv A outer s H E hr =>
    (qs_cons (ps_parD (i := 2) (j := 3) rfl sc_law_low.nd rfl rfl (by decide) rfl rfl (pa_consD (pd_callB call_abs does_abs rfl t.z_abs boot_abs (pa_consD (pvD 0) pa_nilD)) (pa_consD (pd_callB call_abs does_abs rfl t.z_abs boot_abs (pa_consD (pvD 1) pa_nilD)) pa_nilD)) rfl)
    (qs_cons (ps_whileD (passes_of rfl) (pt_cmpD op_gt does_cmp (pvD 2) pd_int (nomark _))
    (qs_one (ps_parD (i := 2) (j := 3) rfl sc_law_low.nd rfl rfl (by decide) rfl rfl (pa_consD (pd_mod (pd_callT call_int1 does_int rfl t.z_int boot_int (pa_consD (pvD 3) pa_nilD)) (pvD 2)) (pa_consD (pvD 2) pa_nilD)) rfl)))
    (qs_cons (ps_setD (i := 3) sc_law_low.nd rfl (by first | exact .inl rfl | exact .inr rfl) (pe_ifD (pt_cmpD op_gt does_cmp (pvD 1) pd_int (nomark _)) (pvD 3) (pd_sub pd_int (pvD 3))))
    (qs_one (ps_retD (pd_tup (pa_consD (pd_div (pvD 0) (pvD 3)) (pa_consD (pd_div (pvD 1) (pvD 3)) pa_nilD))))))))
theorem ok_law_plus (t : Tx K mg) : FnOk P w K mg base (L2.CX P w) 2 t.a_law_plus t.d_law_plus ["one", "other"] (spD ⟨K, T, mg⟩ 2 F_law_plus) :=
  def_fin (k := 1) t.F_law_plus sc_law_plus fun cdv A outer s H E hr =>
    (qs_one (ps_retD (pd_call (ok_law_low t) (takes_of rfl rfl rfl rfl) (hr.mono (by decide)) rfl t.m_law_low t.F_law_low.kp t.b_law_low (pa_consD (pd_add (pd_mul (pd_ix (pvD 0) pd_int) (pd_ix (pvD 1) pd_int)) (pd_mul (pd_ix (pvD 1) pd_int) (pd_ix (pvD 0) pd_int))) (pa_consD (pd_mul (pd_ix (pvD 0) pd_int) (pd_ix (pvD 1) pd_int)) pa_nilD)))))
theorem ok_law_sum (t : Tx K mg) : FnOk P w K mg base (L2.CX P w) 3 t.a_law_sum t.d_law_sum ["parts"] (spD ⟨K, T, mg⟩ 1 F_law_sum) :=
  def_fin (k := 2) t.F_law_sum sc_law_sum fun cdv A outer s H E hr =>
    (qs_cons (ps_setD (i := 1) sc_law_sum.nd rfl (by first | exact .inl rfl | exact .inr rfl) (pd_tup (pa_consD pd_int (pa_consD pd_int pa_nilD))))
    (qs_cons (ps_forD (passes_of rfl) rfl (tg_name _ 2) (pi_seqD (pvD 0)) (pg_name (i := 2) sc_law_sum.nd rfl (by first | exact .inl rfl | exact .inr rfl))
    (qs_one (ps_setD (i := 1) sc_law_sum.nd rfl (by first | exact .inl rfl | exact .inr rfl) (pd_call (ok_law_plus t) (takes_of rfl rfl rfl rfl) (hr.mono (by decide)) rfl t.m_law_plus t.F_law_plus.kp t.b_law_plus (pa_consD (pvD 1) (pa_consD (pvD 2) pa_nilD))))))
    (qs_one (ps_retD (pvD 1)))))
theorem ok_law_deep (t : Tx K mg) : FnOk P w K mg base (L2.CX P w) 2 t.a_law_deep t.d_law_deep ["hand"] (spD ⟨K, T, mg⟩ 1 F_law_deep) :=
  def_fin (k := 1) t.F_law_deep sc_law_deep fun cdv A outer s H E hr =>
    (qs_cons (ps_setD (i := 1) sc_law_deep.nd rfl (by first | exact .inl rfl | exact .inr rfl) (pd_ix (pd_lst false (pa_consD pd_non (pa_consD pd_int (pa_consD (pd_neg pd_int) (pa_consD pd_dict0 (pa_consD pd_bl pa_nilD)))))) (pd_call (ok_law_draw t) (takes_of rfl rfl rfl rfl) (hr.mono (by decide)) rfl t.m_law_draw t.F_law_draw.kp t.b_law_draw (pa_consD (pvD 0) (pa_consD pd_int pa_nilD)))))
    (qs_cons (ps_forD (passes_of rfl) rfl (tg_name _ 2) (pi_rangeD1 rfl t.z_range (pa_consD (pd_add pd_int (pd_call (ok_law_draw t) (takes_of rfl rfl rfl rfl) (hr.mono (by decide)) rfl t.m_law_draw t.F_law_draw.kp t.b_law_draw (pa_consD (pvD 0) (pa_consD pd_int pa_nilD)))) pa_nilD)) (pg_name (i := 2) sc_law_deep.nd rfl (by first | exact .inl rfl | exact .inr rfl))
    (qs_one (ps_setD (i := 1) sc_law_deep.nd rfl (by first | exact .inl rfl | exact .inr rfl) (pd_ix (pd_lst false (pa_consD (pd_tup (pa_consD (pvD 1) pa_nilD)) (pa_consD (pd_lst false (pa_consD (pvD 1) pa_nilD)) (pa_consD (pd_dict1 (pvD 1)) pa_nilD)))) (pd_call (ok_law_draw t) (takes_of rfl rfl rfl rfl) (hr.mono (by decide)) rfl t.m_law_draw t.F_law_draw.kp t.b_law_draw (pa_consD (pvD 0) (pa_consD pd_int pa_nilD)))))))
    (qs_one (ps_retD (pvD 1)))))
theorem ok_law_odd (t : Tx K mg) : FnOk P w K mg base (L2.CX P w) 3 t.a_law_odd t.d_law_odd ["hand"] (spD ⟨K, T, mg⟩ 1 F_law_odd) :=
  def_fin (k := 2) t.F_law_odd sc_law_odd fun cdv A outer s H E hr =>
    (qs_one (ps_retD (pd_call (ok_law_some t) (takes_of rfl rfl rfl rfl) (hr.mono (by decide)) rfl t.m_law_some t.F_law_some.kp t.b_law_some (pa_consD (pvD 0) (pa_consD (pd_lst false (pa_consD pd_non (pa_consD pd_bl (pa_consD pd_bl (pa_consD pd_int (pa_consD (pd_neg pd_int) (pa_consD pd_int (pa_consD (pd_shl pd_int pd_int) (pa_consD pd_str (pa_consD pd_str (pa_consD (pd_tup pa_nilD) (pa_consD (pd_lst false pa_nilD) (pa_consD pd_dict0 (pa_consD (pd_tup (pa_consD pd_int pa_nilD)) (pa_consD (pd_tup (pa_consD pd_str pa_nilD)) (pa_consD (pd_call (ok_law_deep t) (takes_of rfl rfl rfl rfl) (hr.mono (by decide)) rfl t.m_law_deep t.F_law_deep.kp t.b_law_deep (pa_consD (pvD 0) pa_nilD)) pa_nilD)))))))))))))))) pa_nilD)))))
theorem ok_law_is_0 (t : Tx K mg) : FnOk P w K mg base (L2.CX P w) 0 t.a_law_is t.d_law_is ["told", "due"] (spD ⟨K, T, mg⟩ 2 F_law_is_0) := fn_none
theorem ok_law_is_1 (t : Tx K mg) : FnOk P w K mg base (L2.CX P w) 1 t.a_law_is t.d_law_is ["told", "due"] (spD ⟨K, T, mg⟩ 2 F_law_is_1) :=
  def_fin (k := 0) t.F_law_is sc_law_is fun cdv A outer s H E hr =>
    (qs_cons (ps_ifD (pt_tru (pd_isT (t := .tuple) (u := .list) rfl t.z_isinstance rfl t.z_tuple (by decide +kernel) rfl t.z_list (by decide +kernel) (pvD 1))) (qs_cons (ps_ifD (pt_pw (pw_orD (pt_cmpD (op_neD hr.units) does_ne (pd_isI (t := .tuple) rfl t.z_isinstance rfl t.z_tuple (by decide +kernel) (pvD 0)) (pd_isI (t := .tuple) rfl t.z_isinstance rfl t.z_tuple (by decide +kernel) (pvD 1)) (nomark _)) (pw_orD1 (pt_notD (pt_tru (pd_isT (t := .tuple) (u := .list) rfl t.z_isinstance rfl t.z_tuple (by decide +kernel) rfl t.z_list (by decide +kernel) (pvD 0))))))) (qs_one (ps_retD pd_bl)) qs_nil)
    (qs_one (ps_retD (pe_andD (pd_cmp (op_eqD hr.units) does_eq (pd_callB call_len_seq does_len rfl t.z_len boot_len (pa_consD (pvD 0) pa_nilD)) (pd_callB call_len_seq does_len rfl t.z_len boot_len (pa_consD (pvD 1) pa_nilD)) (nomark _)) (pe_oneD (pd_callB (cr_all rfl) does_all rfl t.z_all boot_all (pa_consD (pd_lc (own := [("one", 2), ("two", 3)]) false rfl sc_law_is.nd (pi_zipD rfl t.z_zip (pa_consD (pvD 0) (pa_consD (pvD 1) pa_nilD))) (blkOk_by (N := ["told", "due", "one", "two", "key"]) (sc := (defScope s_law_is)) (own := [("one", 2), ("two", 3)]) (by decide +kernel)) (tg_two (tg_name _ 2) (tg_name _ 3)) (by decide) (fun _ _ _ _ _ => (pg_tup rfl (pgs_cons (pg_name (i := 2) sc_law_is.nd rfl (by first | exact .inl rfl | exact .inr rfl)) (pgs_cons (pg_name (i := 3) sc_law_is.nd rfl (by first | exact .inl rfl | exact .inr rfl)) pgs_nil)))) (fun _ _ _ _ _ => pts_nilD) (fun _ _ _ _ _ => (pd_call (ok_law_is_0 t) takes0 (hr.mono (by decide)) rfl t.m_law_is t.F_law_is.kp t.b_law_is (pa_consD (pvD 2) (pa_consD (pvD 3) pa_nilD))))) pa_nilD))))))) qs_nil)
    (qs_cons (ps_ifD (pt_tru (pd_isI (t := .dict) rfl t.z_isinstance rfl t.z_dict (by decide +kernel) (pvD 1))) (qs_cons ps_neverD (qs_one ps_neverD)) qs_nil)
    (qs_cons (ps_ifD (pt_pw (pw_orD (pt_tru (pd_isI (t := .str) rfl t.z_isinstance rfl t.z_str (by decide +kernel) (pvD 1))) (pw_orD1 (pt_cmpD op_isN does_isN (pvD 1) pd_non (nomark _))))) (qs_one ps_neverD) qs_nil)
    (qs_one (ps_retD (pe_andD (pd_isI (t := .int) rfl t.z_isinstance rfl t.z_int (by decide +kernel) (pvD 0)) (pe_andD (pd_cmp (op_eqD hr.units) does_eq (pd_isI (t := .bool) rfl t.z_isinstance rfl t.z_bool (by decide +kernel) (pvD 0)) (pd_isI (t := .bool) rfl t.z_isinstance rfl t.z_bool (by decide +kernel) (pvD 1)) (nomark _)) (pe_oneD (pd_cmp (op_eqD hr.units) does_eq (pvD 0) (pvD 1) (nomark _))))))))))
theorem ok_law_is_2 (t : Tx K mg) : FnOk P w K mg base (L2.CX P w) 2 t.a_law_is t.d_law_is ["told", "due"] (spD ⟨K, T, mg⟩ 2 F_law_is_2) :=
  def_fin (k := 1) t.F_law_is sc_law_is fun cdv A outer s H E hr =>
    (qs_cons (ps_ifD (pt_tru (pd_isT (t := .tuple) (u := .list) rfl t.z_isinstance rfl t.z_tuple (by decide +kernel) rfl t.z_list (by decide +kernel) (pvD 1))) (qs_cons (ps_ifD (pt_pw (pw_orD (pt_cmpD (op_neD hr.units) does_ne (pd_isI (t := .tuple) rfl t.z_isinstance rfl t.z_tuple (by decide +kernel) (pvD 0)) (pd_isI (t := .tuple) rfl t.z_isinstance rfl t.z_tuple (by decide +kernel) (pvD 1)) (nomark _)) (pw_orD1 (pt_notD (pt_tru (pd_isT (t := .tuple) (u := .list) rfl t.z_isinstance rfl t.z_tuple (by decide +kernel) rfl t.z_list (by decide +kernel) (pvD 0))))))) (qs_one (ps_retD pd_bl)) qs_nil)
    (qs_one (ps_retD (pe_andD (pd_cmp (op_eqD hr.units) does_eq (pd_callB call_len_seq does_len rfl t.z_len boot_len (pa_consD (pvD 0) pa_nilD)) (pd_callB call_len_seq does_len rfl t.z_len boot_len (pa_consD (pvD 1) pa_nilD)) (nomark _)) (pe_oneD (pd_callB (cr_all rfl) does_all rfl t.z_all boot_all (pa_consD (pd_lc (own := [("one", 2), ("two", 3)]) false rfl sc_law_is.nd (pi_zipD rfl t.z_zip (pa_consD (pvD 0) (pa_consD (pvD 1) pa_nilD))) (blkOk_by (N := ["told", "due", "one", "two", "key"]) (sc := (defScope s_law_is)) (own := [("one", 2), ("two", 3)]) (by decide +kernel)) (tg_two (tg_name _ 2) (tg_name _ 3)) (by decide) (fun _ _ _ _ _ => (pg_tup rfl (pgs_cons (pg_name (i := 2) sc_law_is.nd rfl (by first | exact .inl rfl | exact .inr rfl)) (pgs_cons (pg_name (i := 3) sc_law_is.nd rfl (by first | exact .inl rfl | exact .inr rfl)) pgs_nil)))) (fun _ _ _ _ _ => pts_nilD) (fun _ _ _ _ _ => (pd_call (ok_law_is_1 t) takes0 (hr.mono (by decide)) rfl t.m_law_is t.F_law_is.kp t.b_law_is (pa_consD (pvD 2) (pa_consD (pvD 3) pa_nilD))))) pa_nilD))))))) qs_nil)
    (qs_cons (ps_ifD (pt_tru (pd_isI (t := .dict) rfl t.z_isinstance rfl t.z_dict (by decide +kernel) (pvD 1))) (qs_cons ps_neverD (qs_one ps_neverD)) qs_nil)
    (qs_cons (ps_ifD (pt_pw (pw_orD (pt_tru (pd_isI (t := .str) rfl t.z_isinstance rfl t.z_str (by decide +kernel) (pvD 1))) (pw_orD1 (pt_cmpD op_isN does_isN (pvD 1) pd_non (nomark _))))) (qs_one ps_neverD) qs_nil)
    (qs_one (ps_retD (pe_andD (pd_isI (t := .int) rfl t.z_isinstance rfl t.z_int (by decide +kernel) (pvD 0)) (pe_andD (pd_cmp (op_eqD hr.units) does_eq (pd_isI (t := .bool) rfl t.z_isinstance rfl t.z_bool (by decide +kernel) (pvD 0)) (pd_isI (t := .bool) rfl t.z_isinstance rfl t.z_bool (by decide +kernel) (pvD 1)) (nomark _)) (pe_oneD (pd_cmp (op_eqD hr.units) does_eq (pvD 0) (pvD 1) (nomark _))))))))))
theorem ok_law_is (t : Tx K mg) : FnOk P w K mg base (L2.CX P w) 2 t.a_law_is t.d_law_is ["told", "due"] (spD ⟨K, T, mg⟩ 2 F_law_is) := ok_law_is_2 t
theorem ok_law_less (t : Tx K mg) : FnOk P w K mg base (L2.CX P w) 1 t.a_law_less t.d_law_less ["one", "other"] (spD ⟨K, T, mg⟩ 2 F_law_less) :=
  def_fin (k := 0) t.F_law_less sc_law_less fun cdv A outer s H E hr =>
    (qs_one (ps_retD (pd_cmp op_lt does_cmp (pd_mul (pd_ix (pvD 0) pd_int) (pd_ix (pvD 1) pd_int)) (pd_mul (pd_ix (pvD 1) pd_int) (pd_ix (pvD 0) pd_int)) (nomark _))))
theorem ok_law_is_number (t : Tx K mg) : FnOk P w K mg base (L2.CX P w) 1 t.a_law_is_number t.d_law_is_number ["thing"] (spD ⟨K, T, mg⟩ 1 F_law_is_number) :=
  def_fin (k := 0) t.F_law_is_number sc_law_is_number fun cdv A outer s H E hr =>
    (qs_one (ps_retD (pe_andD (pd_isI (t := .int) rfl t.z_isinstance rfl t.z_int (by decide +kernel) (pvD 0)) (pe_oneD (pe_notD (pd_isI (t := .bool) rfl t.z_isinstance rfl t.z_bool (by decide +kernel) (pvD 0)))))))
theorem ok_law_is_part (t : Tx K mg) : FnOk P w K mg base (L2.CX P w) 2 t.a_law_is_part t.d_law_is_part ["thing"] (spD ⟨K, T, mg⟩ 1 F_law_is_part) :=
  def_fin (k := 1) t.F_law_is_part sc_law_is_part fun cdv A outer s H E hr =>
    (qs_cons (ps_ifD (pt_pw (pw_orD (pt_notD (pt_tru (pd_isI (t := .tuple) rfl t.z_isinstance rfl t.z_tuple (by decide +kernel) (pvD 0)))) (pw_orD (pt_cmpD (op_neD hr.units) does_ne (pd_callB call_len_seq does_len rfl t.z_len boot_len (pa_consD (pvD 0) pa_nilD)) pd_int (nomark _)) (pw_orD1 (pt_notD (pt_tru (pd_callB (cr_all rfl) does_all rfl t.z_all boot_all (pa_consD (pd_lc (own := [("one", 1)]) false rfl sc_law_is_part.nd (pi_seqD (pvD 0)) (blkOk_by (N := ["thing", "one"]) (sc := (defScope s_law_is_part)) (own := [("one", 1)]) (by decide +kernel)) (tg_name _ 1) (by decide) (fun _ _ _ _ _ => (pg_name (i := 1) sc_law_is_part.nd rfl (by first | exact .inl rfl | exact .inr rfl))) (fun _ _ _ _ _ => pts_nilD) (fun _ _ _ _ _ => (pd_call (ok_law_is_number t) takes0 (hr.mono (by decide)) rfl t.m_law_is_number t.F_law_is_number.kp t.b_law_is_number (pa_consD (pvD 1) pa_nilD)))) pa_nilD)))))))) (qs_one (ps_retD pd_bl)) qs_nil)
    (qs_one (ps_retD (pe_andD (pd_cmp op_gt does_cmp (pd_ix (pvD 0) pd_int) pd_int (nomark _)) (pe_oneD (pd_cmp (op_eqD hr.units) does_eq (pd_call (ok_law_low t) (takes_of rfl rfl rfl rfl) (hr.mono (by decide)) rfl t.m_law_low t.F_law_low.kp t.b_law_low (pa_consD (pd_ix (pvD 0) pd_int) (pa_consD (pd_ix (pvD 0) pd_int) pa_nilD))) (pvD 0) (nomark _)))))))
theorem ok_law_is_mend (t : Tx K mg) : FnOk P w K mg base (L2.CX P w) 3 t.a_law_is_mend t.d_law_is_mend ["many", "thing"] (spD ⟨K, T, mg⟩ 2 F_law_is_mend) :=
  def_fin (k := 2) t.F_law_is_mend sc_law_is_mend fun cdv A outer s H E hr =>
    (qs_cons (ps_ifD (pt_pw (pw_orD (pt_notD (pt_tru (pd_isI (t := .tuple) rfl t.z_isinstance rfl t.z_tuple (by decide +kernel) (pvD 1)))) (pw_orD1 (pt_cmpD (op_neD hr.units) does_ne (pd_callB call_len_seq does_len rfl t.z_len boot_len (pa_consD (pvD 1) pa_nilD)) (pvD 0) (nomark _))))) (qs_one (ps_retD pd_bl)) qs_nil)
    (qs_cons (ps_forD (passes_of rfl) rfl (tg_name _ 2) (pi_seqD (pvD 1)) (pg_name (i := 2) sc_law_is_mend.nd rfl (by first | exact .inl rfl | exact .inr rfl))
    (qs_one (ps_ifD (pt_pw (pw_orD (pt_notD (pt_tru (pd_isI (t := .tuple) rfl t.z_isinstance rfl t.z_tuple (by decide +kernel) (pvD 2)))) (pw_orD (pt_cmpD (op_neD hr.units) does_ne (pd_callB call_len_seq does_len rfl t.z_len boot_len (pa_consD (pvD 2) pa_nilD)) (pvD 0) (nomark _)) (pw_orD1 (pt_notD (pt_tru (pd_callB (cr_all rfl) does_all rfl t.z_all boot_all (pa_consD (pd_lc (own := [("part", 6)]) false rfl sc_law_is_mend.nd (pi_seqD (pvD 2)) (blkOk_by (N := ["many", "thing", "row", "i", "j", "k", "part"]) (sc := (defScope s_law_is_mend)) (own := [("part", 6)]) (by decide +kernel)) (tg_name _ 6) (by decide) (fun _ _ _ _ _ => (pg_name (i := 6) sc_law_is_mend.nd rfl (by first | exact .inl rfl | exact .inr rfl))) (fun _ _ _ _ _ => pts_nilD) (fun _ _ _ _ _ => (pd_call (ok_law_is_part t) takes0 (hr.mono (by decide)) rfl t.m_law_is_part t.F_law_is_part.kp t.b_law_is_part (pa_consD (pvD 6) pa_nilD)))) pa_nilD)))))))) (qs_one (ps_retD pd_bl)) qs_nil)))
    (qs_cons (ps_forD (passes_of rfl) rfl (tg_name _ 3) (pi_rangeD1 rfl t.z_range (pa_consD (pvD 0) pa_nilD)) (pg_name (i := 3) sc_law_is_mend.nd rfl (by first | exact .inl rfl | exact .inr rfl))
    (qs_one (ps_forD (passes_of rfl) rfl (tg_name _ 4) (pi_rangeD1 rfl t.z_range (pa_consD (pvD 0) pa_nilD)) (pg_name (i := 4) sc_law_is_mend.nd rfl (by first | exact .inl rfl | exact .inr rfl))
    (qs_cons (ps_ifD (pt_pw (pw_orD (pt_cmpD (op_neD hr.units) does_ne (pd_ix (pd_ix (pvD 1) (pvD 3)) (pvD 4)) (pd_ix (pd_ix (pvD 1) (pvD 4)) (pvD 3)) (nomark _)) (pw_orD (pt_cmpD op_lt does_cmp (pd_ix (pd_ix (pd_ix (pvD 1) (pvD 3)) (pvD 4)) pd_int) pd_int (nomark _)) (pw_orD1 (pt_pw (pw_andD (pt_cmpD (op_eqD hr.units) does_eq (pvD 3) (pvD 4) (nomark _)) (pw_andD1 (pt_cmpD (op_neD hr.units) does_ne (pd_ix (pd_ix (pvD 1) (pvD 3)) (pvD 4)) (pd_tup (pa_consD pd_int (pa_consD pd_int pa_nilD))) (nomark _))))))))) (qs_one (ps_retD pd_bl)) qs_nil)
    (qs_one (ps_forD (passes_of rfl) rfl (tg_name _ 5) (pi_rangeD1 rfl t.z_range (pa_consD (pvD 0) pa_nilD)) (pg_name (i := 5) sc_law_is_mend.nd rfl (by first | exact .inl rfl | exact .inr rfl))
    (qs_one (ps_ifD (pt_tru (pd_call (ok_law_less t) (takes_of rfl rfl rfl rfl) (hr.mono (by decide)) rfl t.m_law_less t.F_law_less.kp t.b_law_less (pa_consD (pd_call (ok_law_plus t) (takes_of rfl rfl rfl rfl) (hr.mono (by decide)) rfl t.m_law_plus t.F_law_plus.kp t.b_law_plus (pa_consD (pd_ix (pd_ix (pvD 1) (pvD 3)) (pvD 4)) (pa_consD (pd_ix (pd_ix (pvD 1) (pvD 4)) (pvD 5)) pa_nilD))) (pa_consD (pd_ix (pd_ix (pvD 1) (pvD 3)) (pvD 5)) pa_nilD)))) (qs_one (ps_retD pd_bl)) qs_nil))))))))
    (qs_one (ps_retD pd_bl)))))
theorem ok_law_minus (t : Tx K mg) : FnOk P w K mg base (L2.CX P w) 3 t.a_law_minus t.d_law_minus ["one", "other"] (spD ⟨K, T, mg⟩ 2 F_law_minus) :=
  def_fin (k := 2) t.F_law_minus sc_law_minus fun cdv A outer s H E hr =>
    (qs_one (ps_retD (pd_call (ok_law_plus t) (takes_of rfl rfl rfl rfl) (hr.mono (by decide)) rfl t.m_law_plus t.F_law_plus.kp t.b_law_plus (pa_consD (pvD 0) (pa_consD (pd_tup (pa_consD (pd_sub pd_int (pd_ix (pvD 1) pd_int)) (pa_consD (pd_ix (pvD 1) pd_int) pa_nilD))) pa_nilD)))))
theorem ok_law_offs (t : Tx K mg) : FnOk P w K mg base (L2.CX P w) 4 t.a_law_offs t.d_law_offs ["table", "mend"] (spD ⟨K, T, mg⟩ 2 F_law_offs) :=
  def_fin (k := 3) t.F_law_offs sc_law_offs fun cdv A outer s H E hr =>
    (qs_cons (ps_setD (i := 2) sc_law_offs.nd rfl (by first | exact .inl rfl | exact .inr rfl) (pd_lst true pa_nilD))
    (qs_cons (ps_forD (passes_of rfl) rfl (tg_two (tg_name _ 3) (tg_name _ 4)) (pi_enumD rfl t.z_enumerate (pa_consD (pvD 0) pa_nilD)) (pg_tup rfl (pgs_cons (pg_name (i := 3) sc_law_offs.nd rfl (by first | exact .inl rfl | exact .inr rfl)) (pgs_cons (pg_name (i := 4) sc_law_offs.nd rfl (by first | exact .inl rfl | exact .inr rfl)) pgs_nil)))
    (qs_one (ps_forD (passes_of rfl) rfl (tg_name _ 5) (pi_rangeD2 rfl t.z_range (pa_consD (pd_add (pvD 3) pd_int) (pa_consD (pd_callB call_len_seq does_len rfl t.z_len boot_len (pa_consD (pvD 0) pa_nilD)) pa_nilD))) (pg_name (i := 5) sc_law_offs.nd rfl (by first | exact .inl rfl | exact .inr rfl))
    (qs_cons (ps_setD (i := 6) sc_law_offs.nd rfl (by first | exact .inl rfl | exact .inr rfl) (pd_call (ok_law_minus t) (takes_of rfl rfl rfl rfl) (hr.mono (by decide)) rfl t.m_law_minus t.F_law_minus.kp t.b_law_minus (pa_consD (pd_ix (pd_ix (pvD 1) (pvD 3)) (pvD 5)) (pa_consD (pd_tup (pa_consD (pd_ix (pvD 4) (pvD 5)) (pa_consD pd_int pa_nilD))) pa_nilD))))
    (qs_one (ps_exprD (pd_append (pvD 2) (pd_tup (pa_consD (pd_callB call_abs does_abs rfl t.z_abs boot_abs (pa_consD (pd_ix (pvD 6) pd_int) pa_nilD)) (pa_consD (pd_ix (pvD 6) pd_int) pa_nilD))))))))))
    (qs_one (ps_retD (pvD 2)))))
theorem ok_law_most (t : Tx K mg) : FnOk P w K mg base (L2.CX P w) 2 t.a_law_most t.d_law_most ["parts"] (spD ⟨K, T, mg⟩ 1 F_law_most) :=
  def_fin (k := 1) t.F_law_most sc_law_most fun cdv A outer s H E hr =>
    (qs_cons (ps_setD (i := 1) sc_law_most.nd rfl (by first | exact .inl rfl | exact .inr rfl) (pd_tup (pa_consD pd_int (pa_consD pd_int pa_nilD))))
    (qs_cons (ps_forD (passes_of rfl) rfl (tg_name _ 2) (pi_seqD (pvD 0)) (pg_name (i := 2) sc_law_most.nd rfl (by first | exact .inl rfl | exact .inr rfl))
    (qs_one (ps_setD (i := 1) sc_law_most.nd rfl (by first | exact .inl rfl | exact .inr rfl) (pe_ifD (pt_tru (pd_call (ok_law_less t) (takes_of rfl rfl rfl rfl) (hr.mono (by decide)) rfl t.m_law_less t.F_law_less.kp t.b_law_less (pa_consD (pvD 1) (pa_consD (pvD 2) pa_nilD)))) (pvD 2) (pvD 1)))))
    (qs_one (ps_retD (pvD 1)))))
theorem ok_law_ask (t : Tx K mg) : FnOk P w K mg base (L2.CX P w) 2 t.a_law_ask t.d_law_ask ["table", "way"] (spD ⟨K, T, mg⟩ 2 F_law_ask) :=
  def_fin (k := 1) t.F_law_ask sc_law_ask fun cdv A outer s H E hr =>
    (qs_cons (ps_setD (i := 2) sc_law_ask.nd rfl (by first | exact .inl rfl | exact .inr rfl) (pd_callB (cr_sum rfl) does_sum rfl t.z_sum boot_sum (pa_consD (pd_lc (own := [("here", 3), ("there", 4)]) false rfl sc_law_ask.nd (pi_zipD rfl t.z_zip (pa_consD (pvD 1) (pa_consD (pd_slice false (pvD 1) (po_someD pd_int) po_noneD) pa_nilD))) (blkOk_by (N := ["table", "way", "steps", "here", "there"]) (sc := (defScope s_law_ask)) (own := [("here", 3), ("there", 4)]) (by decide +kernel)) (tg_two (tg_name _ 3) (tg_name _ 4)) (by decide) (fun _ _ _ _ _ => (pg_tup rfl (pgs_cons (pg_name (i := 3) sc_law_ask.nd rfl (by first | exact .inl rfl | exact .inr rfl)) (pgs_cons (pg_name (i := 4) sc_law_ask.nd rfl (by first | exact .inl rfl | exact .inr rfl)) pgs_nil)))) (fun _ _ _ _ _ => pts_nilD) (fun _ _ _ _ _ => (pd_ix (pd_ix (pvD 0) (pvD 3)) (pvD 4)))) pa_nilD)))
    (qs_one (ps_retD (pd_call (ok_law_low t) (takes_of rfl rfl rfl rfl) (hr.mono (by decide)) rfl t.m_law_low t.F_law_low.kp t.b_law_low (pa_consD (pd_sub (pd_ix (pd_ix (pvD 0) (pd_ix (pvD 1) pd_int)) (pd_ix (pvD 1) (pd_neg pd_int))) (pvD 2)) (pa_consD (pd_callB call_len_seq does_len rfl t.z_len boot_len (pa_consD (pvD 1) pa_nilD)) pa_nilD))))))
theorem ok_law_ways (t : Tx K mg) : FnOk P w K mg base (L2.CX P w) 1 t.a_law_ways t.d_law_ways ["many"] (spD ⟨K, T, mg⟩ 1 F_law_ways) :=
  def_fin (k := 0) t.F_law_ways sc_law_ways fun cdv A outer s H E hr =>
    (qs_cons (ps_parD (i := 1) (j := 2) rfl sc_law_ways.nd rfl rfl (by decide) rfl rfl (pa_consD (pd_lst false pa_nilD) (pa_consD (pd_lc (own := [("place", 6)]) false rfl sc_law_ways.nd (pi_rangeD1 rfl t.z_range (pa_consD (pvD 0) pa_nilD)) (blkOk_by (N := ["many", "found", "front", "turn", "later", "row", "place"]) (sc := (defScope s_law_ways)) (own := [("place", 6)]) (by decide +kernel)) (tg_name _ 6) (by decide) (fun _ _ _ _ _ => (pg_name (i := 6) sc_law_ways.nd rfl (by first | exact .inl rfl | exact .inr rfl))) (fun _ _ _ _ _ => pts_nilD) (fun _ _ _ _ _ => (pd_tup (pa_consD (pvD 6) pa_nilD)))) pa_nilD)) rfl)
    (qs_cons (ps_forD (passes_of rfl) rfl (tg_name _ 3) (pi_rangeD1 rfl t.z_range (pa_consD (pd_sub (pvD 0) pd_int) pa_nilD)) (pg_name (i := 3) sc_law_ways.nd rfl (by first | exact .inl rfl | exact .inr rfl))
    (qs_cons (ps_setD (i := 4) sc_law_ways.nd rfl (by first | exact .inl rfl | exact .inr rfl) (pd_lst false pa_nilD))
    (qs_cons (ps_forD (passes_of rfl) rfl (tg_name _ 5) (pi_seqD (pvD 2)) (pg_name (i := 5) sc_law_ways.nd rfl (by first | exact .inl rfl | exact .inr rfl))
    (qs_one (ps_setD (i := 4) sc_law_ways.nd rfl (by first | exact .inl rfl | exact .inr rfl) (pd_add (pvD 4) (pd_lc (own := [("place", 6)]) false rfl sc_law_ways.nd (pi_rangeD1 rfl t.z_range (pa_consD (pvD 0) pa_nilD)) (blkOk_by (N := ["many", "found", "front", "turn", "later", "row", "place"]) (sc := (defScope s_law_ways)) (own := [("place", 6)]) (by decide +kernel)) (tg_name _ 6) (by decide) (fun _ _ _ _ _ => (pg_name (i := 6) sc_law_ways.nd rfl (by first | exact .inl rfl | exact .inr rfl))) (fun _ _ _ _ _ => (pts_oneD (pt_cmpD (or_notIn (hu65 hr)) does_notIn (pvD 6) (pvD 5) (by with_unfolding_all rfl)))) (fun _ _ _ _ _ => (pd_add (pvD 5) (pd_tup (pa_consD (pvD 6) pa_nilD)))))))))
    (qs_cons (ps_setD (i := 2) sc_law_ways.nd rfl (by first | exact .inl rfl | exact .inr rfl) (pvD 4))
    (qs_one (ps_setD (i := 1) sc_law_ways.nd rfl (by first | exact .inl rfl | exact .inr rfl) (pd_add (pvD 1) (pvD 4))))))))
    (qs_one (ps_retD (pvD 1)))))
theorem ok_law_is_right (t : Tx K mg) : FnOk P w K mg base (L2.CX P w) 5 t.a_law_is_right t.d_law_is_right ["table", "due", "thing"] (spD ⟨K, T, mg⟩ 3 F_law_is_right) :=
  def_fin (k := 4) t.F_law_is_right sc_law_is_right fun cdv A outer s H E hr =>
    (qs_cons (ps_ifD (pt_pw (pw_orD (pt_notD (pt_tru (pd_isI (t := .tuple) rfl t.z_isinstance rfl t.z_tuple (by decide +kernel) (pvD 2)))) (pw_orD (pt_cmpD (op_neD hr.units) does_ne (pd_callB call_len_seq does_len rfl t.z_len boot_len (pa_consD (pvD 2) pa_nilD)) pd_int (nomark _)) (pw_orD1 (pt_notD (pt_tru (pd_call (ok_law_is t) (takes_of rfl rfl rfl rfl) (hr.mono (by decide)) rfl t.m_law_is t.F_law_is.kp t.b_law_is (pa_consD (pd_ix (pvD 2) pd_int) (pa_consD (pvD 1) pa_nilD))))))))) (qs_one (ps_retD pd_bl)) qs_nil)
    (qs_cons (ps_ifD (pt_pw (pw_orD (pt_notD (pt_tru (pd_call (ok_law_is_mend t) (takes_of rfl rfl rfl rfl) (hr.mono (by decide)) rfl t.m_law_is_mend t.F_law_is_mend.kp t.b_law_is_mend (pa_consD (pd_callB call_len_seq does_len rfl t.z_len boot_len (pa_consD (pvD 0) pa_nilD)) (pa_consD (pd_ix (pvD 2) pd_int) pa_nilD))))) (pw_orD1 (pt_tru (pd_call (ok_law_less t) (takes_of rfl rfl rfl rfl) (hr.mono (by decide)) rfl t.m_law_less t.F_law_less.kp t.b_law_less (pa_consD (pvD 1) (pa_consD (pd_call (ok_law_most t) (takes_of rfl rfl rfl rfl) (hr.mono (by decide)) rfl t.m_law_most t.F_law_most.kp t.b_law_most (pa_consD (pd_call (ok_law_offs t) (takes_of rfl rfl rfl rfl) (hr.mono (by decide)) rfl t.m_law_offs t.F_law_offs.kp t.b_law_offs (pa_consD (pvD 0) (pa_consD (pd_ix (pvD 2) pd_int) pa_nilD))) pa_nilD)) pa_nilD))))))) (qs_one (ps_retD pd_bl)) qs_nil)
    (qs_cons (ps_ifD (pt_cmpD (op_eqD hr.units) does_eq (pvD 1) (pd_tup (pa_consD pd_int (pa_consD pd_int pa_nilD))) (nomark _)) (qs_one (ps_retD (pd_cmp op_isN does_isN (pd_ix (pvD 2) pd_int) pd_non (nomark _)))) qs_nil)
    (qs_cons (ps_setD (i := 3) sc_law_is_right.nd rfl (by first | exact .inl rfl | exact .inr rfl) (pd_ix (pvD 2) pd_int))
    (qs_cons (ps_ifD (pt_pw (pw_orD (pt_notD (pt_tru (pd_isI (t := .tuple) rfl t.z_isinstance rfl t.z_tuple (by decide +kernel) (pvD 3)))) (pw_orD (pt_cmpD op_lt does_cmp (pd_callB call_len_seq does_len rfl t.z_len boot_len (pa_consD (pvD 3) pa_nilD)) pd_int (nomark _)) (pw_orD1 (pt_notD (pt_tru (pd_callB (cr_all rfl) does_all rfl t.z_all boot_all (pa_consD (pd_lc (own := [("place", 4)]) false rfl sc_law_is_right.nd (pi_seqD (pvD 3)) (blkOk_by (N := ["table", "due", "thing", "way", "place"]) (sc := (defScope s_law_is_right)) (own := [("place", 4)]) (by decide +kernel)) (tg_name _ 4) (by decide) (fun _ _ _ _ _ => (pg_name (i := 4) sc_law_is_right.nd rfl (by first | exact .inl rfl | exact .inr rfl))) (fun _ _ _ _ _ => pts_nilD) (fun _ _ _ _ _ => (pd_call (ok_law_is_number t) takes0 (hr.mono (by decide)) rfl t.m_law_is_number t.F_law_is_number.kp t.b_law_is_number (pa_consD (pvD 4) pa_nilD)))) pa_nilD)))))))) (qs_one (ps_retD pd_bl)) qs_nil)
    (qs_cons (ps_ifD (pt_notD (pt_tru (pd_callB (cr_all rfl) does_all rfl t.z_all boot_all (pa_consD (pd_lc (own := [("place", 4)]) false rfl sc_law_is_right.nd (pi_seqD (pvD 3)) (blkOk_by (N := ["table", "due", "thing", "way", "place"]) (sc := (defScope s_law_is_right)) (own := [("place", 4)]) (by decide +kernel)) (tg_name _ 4) (by decide) (fun _ _ _ _ _ => (pg_name (i := 4) sc_law_is_right.nd rfl (by first | exact .inl rfl | exact .inr rfl))) (fun _ _ _ _ _ => pts_nilD) (fun _ _ _ _ _ => (pe_andD (pe_chainD op_le op_lt does_cmp does_cmp pd_int (pvD 4) (pd_callB call_len_seq does_len rfl t.z_len boot_len (pa_consD (pvD 0) pa_nilD))) (pe_oneD (pd_cmp (op_eqD hr.units) does_eq (pd_countT (pvD 3) (pvD 4)) pd_int (nomark _)))))) pa_nilD)))) (qs_one (ps_retD pd_bl)) qs_nil)
    (qs_one (ps_retD (pd_cmp (op_eqD hr.units) does_eq (pd_call (ok_law_ask t) (takes_of rfl rfl rfl rfl) (hr.mono (by decide)) rfl t.m_law_ask t.F_law_ask.kp t.b_law_ask (pa_consD (pvD 0) (pa_consD (pvD 3) pa_nilD))) (pvD 1) (nomark _))))))))))
theorem ok_law (t : Tx K mg) : FnOk P w K mg base (L2.CX P w) 7 t.a_law t.d_law ["script"] (spD ⟨K, T, mg⟩ 1 F_law) :=
  def_fin (k := 6) t.F_law sc_law fun cdv A outer s H E hr =>
    (qs_cons (ps_setD (i := 1) sc_law.nd rfl (by first | exact .inl rfl | exact .inr rfl) (pd_call (ok_law_hand t) (takes_of rfl rfl rfl rfl) (hr.mono (by decide)) rfl t.m_law_hand t.F_law_hand.kp t.b_law_hand (pa_consD (pvD 0) pa_nilD)))
    (qs_cons (ps_forD (passes_of rfl) rfl (tg_name _ 2) (pi_rangeD1 rfl t.z_range (pa_consD pd_int pa_nilD)) (pg_name (i := 2) sc_law.nd rfl (by first | exact .inl rfl | exact .inr rfl))
    (qs_cons (ps_setD (i := 3) sc_law.nd rfl (by first | exact .inl rfl | exact .inr rfl) (pd_call (ok_law_table t) (takes_of rfl rfl rfl rfl) (hr.mono (by decide)) rfl t.m_law_table t.F_law_table.kp t.b_law_table (pa_consD (pvD 1) (pa_consD (pd_add pd_int (pd_call (ok_law_draw t) (takes_of rfl rfl rfl rfl) (hr.mono (by decide)) rfl t.m_law_draw t.F_law_draw.kp t.b_law_draw (pa_consD (pvD 1) (pa_consD pd_int pa_nilD)))) (pa_consD (pd_call (ok_law_some t) (takes_of rfl rfl rfl rfl) (hr.mono (by decide)) rfl t.m_law_some t.F_law_some.kp t.b_law_some (pa_consD (pvD 1) (pa_consD (pd_lst false (pa_consD pd_int (pa_consD pd_int (pa_consD pd_int pa_nilD)))) pa_nilD))) pa_nilD)))))
    (qs_cons (ps_setD (i := 4) sc_law.nd rfl (by first | exact .inl rfl | exact .inr rfl) (pd_callB call_len_seq does_len rfl t.z_len boot_len (pa_consD (pvD 3) pa_nilD)))
    (qs_cons (ps_setD (i := 5) sc_law.nd rfl (by first | exact .inl rfl | exact .inr rfl) (pd_call (ok_law_most t) (takes_of rfl rfl rfl rfl) (hr.mono (by decide)) rfl t.m_law_most t.F_law_most.kp t.b_law_most (pa_consD (pd_lc (own := [("way", 12)]) false rfl sc_law.nd (pi_seqD (pd_call (ok_law_ways t) (takes_of rfl rfl rfl rfl) (hr.mono (by decide)) rfl t.m_law_ways t.F_law_ways.kp t.b_law_ways (pa_consD (pvD 4) pa_nilD))) (blkOk_by (N := ["script", "hand", "turn", "table", "many", "due", "told", "mend", "offs", "plain", "closed", "thing", "way", "things", "part", "row", "number"]) (sc := (defScope s_law)) (own := [("way", 12)]) (by decide +kernel)) (tg_name _ 12) (by decide) (fun _ _ _ _ _ => (pg_name (i := 12) sc_law.nd rfl (by first | exact .inl rfl | exact .inr rfl))) (fun _ _ _ _ _ => pts_nilD) (fun _ _ _ _ _ => (pd_call (ok_law_ask t) takes0 (hr.mono (by decide)) rfl t.m_law_ask t.F_law_ask.kp t.b_law_ask (pa_consD (pvD 3) (pa_consD (pvD 12) pa_nilD))))) pa_nilD)))
    (qs_cons (ps_setD (i := 6) sc_law.nd rfl (by first | exact .inl rfl | exact .inr rfl) (pd_call (ok_nearest_mend t) (takes_of rfl rfl rfl rfl) (hr.mono (by decide)) rfl t.m_nearest_mend t.F_nearest_mend.kp t.b_nearest_mend (pa_consD (pvD 3) pa_nilD)))
    (qs_cons (ps_ifD (pt_pw (pw_orD (pt_notD (pt_tru (pd_call (ok_law_is_right t) (takes_of rfl rfl rfl rfl) (hr.mono (by decide)) rfl t.m_law_is_right t.F_law_is_right.kp t.b_law_is_right (pa_consD (pvD 3) (pa_consD (pvD 5) (pa_consD (pvD 6) pa_nilD)))))) (pw_orD1 (pt_cmpD op_isnot_bl does_notBl (pd_call (ok_is_nearest_mend t) (takes_of rfl rfl rfl rfl) (hr.mono (by decide)) rfl t.m_is_nearest_mend t.F_is_nearest_mend.kp t.b_is_nearest_mend (pa_consD (pvD 3) (pa_consD (pvD 6) pa_nilD))) pd_bl (nomark _))))) (qs_one (ps_retD pd_bl)) qs_nil)
    (qs_cons (ps_setD (i := 7) sc_law.nd rfl (by first | exact .inl rfl | exact .inr rfl) (pd_ix (pvD 6) pd_int))
    (qs_cons (ps_setD (i := 8) sc_law.nd rfl (by first | exact .inl rfl | exact .inr rfl) (pd_call (ok_law_offs t) (takes_of rfl rfl rfl rfl) (hr.mono (by decide)) rfl t.m_law_offs t.F_law_offs.kp t.b_law_offs (pa_consD (pvD 3) (pa_consD (pvD 7) pa_nilD))))
    (qs_cons (ps_ifD (pt_pw (pw_orD (pt_notD (pt_tru (pd_call (ok_law_is t) (takes_of rfl rfl rfl rfl) (hr.mono (by decide)) rfl t.m_law_is t.F_law_is.kp t.b_law_is (pa_consD (pd_call (ok_off_most t) (takes_of rfl rfl rfl rfl) (hr.mono (by decide)) rfl t.m_off_most t.F_off_most.kp t.b_off_most (pa_consD (pvD 3) (pa_consD (pvD 7) pa_nilD))) (pa_consD (pd_call (ok_law_most t) (takes_of rfl rfl rfl rfl) (hr.mono (by decide)) rfl t.m_law_most t.F_law_most.kp t.b_law_most (pa_consD (pvD 8) pa_nilD)) pa_nilD))))) (pw_orD1 (pt_notD (pt_tru (pd_call (ok_law_is t) (takes_of rfl rfl rfl rfl) (hr.mono (by decide)) rfl t.m_law_is t.F_law_is.kp t.b_law_is (pa_consD (pd_call (ok_off_sum t) (takes_of rfl rfl rfl rfl) (hr.mono (by decide)) rfl t.m_off_sum t.F_off_sum.kp t.b_off_sum (pa_consD (pvD 3) (pa_consD (pvD 7) pa_nilD))) (pa_consD (pd_call (ok_law_sum t) (takes_of rfl rfl rfl rfl) (hr.mono (by decide)) rfl t.m_law_sum t.F_law_sum.kp t.b_law_sum (pa_consD (pvD 8) pa_nilD)) pa_nilD)))))))) (qs_one (ps_retD pd_bl)) qs_nil)
    (qs_cons (ps_ifD (pt_notD (pt_tru (pd_call (ok_law_is t) (takes_of rfl rfl rfl rfl) (hr.mono (by decide)) rfl t.m_law_is t.F_law_is.kp t.b_law_is (pa_consD (pd_call (ok_off_pairs t) (takes_of rfl rfl rfl rfl) (hr.mono (by decide)) rfl t.m_off_pairs t.F_off_pairs.kp t.b_off_pairs (pa_consD (pvD 3) (pa_consD (pvD 7) pa_nilD))) (pa_consD (pd_callB call_len_seq does_len rfl t.z_len boot_len (pa_consD (pd_lc (own := [("part", 14)]) false rfl sc_law.nd (pi_seqD (pvD 8)) (blkOk_by (N := ["script", "hand", "turn", "table", "many", "due", "told", "mend", "offs", "plain", "closed", "thing", "way", "things", "part", "row", "number"]) (sc := (defScope s_law)) (own := [("part", 14)]) (by decide +kernel)) (tg_name _ 14) (by decide) (fun _ _ _ _ _ => (pg_name (i := 14) sc_law.nd rfl (by first | exact .inl rfl | exact .inr rfl))) (fun _ _ _ _ _ => (pts_oneD (pt_cmpD op_gt does_cmp (pd_ix (pvD 14) pd_int) pd_int (nomark _)))) (fun _ _ _ _ _ => (pvD 14))) pa_nilD)) pa_nilD))))) (qs_one (ps_retD pd_bl)) qs_nil)
    (qs_cons (ps_setD (i := 9) sc_law.nd rfl (by first | exact .inl rfl | exact .inr rfl) (pd_callT call_tuple_ofN does_tuple rfl t.z_tuple boot_tuple (pa_consD (pd_lc (own := [("row", 15)]) false rfl sc_law.nd (pi_seqD (pvD 3)) (blkOk_by (N := ["script", "hand", "turn", "table", "many", "due", "told", "mend", "offs", "plain", "closed", "thing", "way", "things", "part", "row", "number"]) (sc := (defScope s_law)) (own := [("row", 15)]) (by decide +kernel)) (tg_name _ 15) (by decide) (fun _ _ _ _ _ => (pg_name (i := 15) sc_law.nd rfl (by first | exact .inl rfl | exact .inr rfl))) (fun _ _ _ _ _ => pts_nilD) (fun _ _ _ _ _ => (pd_callT call_tuple_ofN does_tuple rfl t.z_tuple boot_tuple (pa_consD (pd_lcN (own := [("number", 16)]) false rfl sc_law.nd (pi_seqD (pvD 15)) (blkOk_by (N := ["script", "hand", "turn", "table", "many", "due", "told", "mend", "offs", "plain", "closed", "thing", "way", "things", "part", "row", "number"]) (own := [("number", 16)]) (by decide +kernel)) (tg_name _ 16) (by decide) (fun _ _ _ _ _ => (pg_name (i := 16) sc_law.nd rfl (by first | exact .inl rfl | exact .inr rfl))) (fun _ _ _ _ _ => pts_nilD) (fun _ _ _ _ _ => (pd_tup (pa_consD (pvD 16) (pa_consD pd_int pa_nilD))))) pa_nilD)))) pa_nilD)))
    (qs_cons (ps_setD (i := 10) sc_law.nd rfl (by first | exact .inl rfl | exact .inr rfl) (pd_callT call_tuple_ofN does_tuple rfl t.z_tuple boot_tuple (pa_consD (pd_lc (own := [("row", 15)]) false rfl sc_law.nd (pi_seqD (pd_call (ok_law_closing t) (takes_of rfl rfl rfl rfl) (hr.mono (by decide)) rfl t.m_law_closing t.F_law_closing.kp t.b_law_closing (pa_consD (pvD 3) pa_nilD))) (blkOk_by (N := ["script", "hand", "turn", "table", "many", "due", "told", "mend", "offs", "plain", "closed", "thing", "way", "things", "part", "row", "number"]) (sc := (defScope s_law)) (own := [("row", 15)]) (by decide +kernel)) (tg_name _ 15) (by decide) (fun _ _ _ _ _ => (pg_name (i := 15) sc_law.nd rfl (by first | exact .inl rfl | exact .inr rfl))) (fun _ _ _ _ _ => pts_nilD) (fun _ _ _ _ _ => (pd_callT call_tuple_ofN does_tuple rfl t.z_tuple boot_tuple (pa_consD (pd_lcN (own := [("number", 16)]) false rfl sc_law.nd (pi_seqD (pvD 15)) (blkOk_by (N := ["script", "hand", "turn", "table", "many", "due", "told", "mend", "offs", "plain", "closed", "thing", "way", "things", "part", "row", "number"]) (own := [("number", 16)]) (by decide +kernel)) (tg_name _ 16) (by decide) (fun _ _ _ _ _ => (pg_name (i := 16) sc_law.nd rfl (by first | exact .inl rfl | exact .inr rfl))) (fun _ _ _ _ _ => pts_nilD) (fun _ _ _ _ _ => (pd_tup (pa_consD (pvD 16) (pa_consD pd_int pa_nilD))))) pa_nilD)))) pa_nilD)))
    (qs_cons (ps_forD (passes_of rfl) rfl (tg_name _ 11) (pi_seqD (pd_tup (pa_consD (pvD 7) (pa_consD (pvD 9) (pa_consD (pvD 10) (pa_consD (pd_slice false (pvD 7) (po_someD pd_int) po_noneD) (pa_consD (pd_callT call_list_of (does_list false) rfl t.z_list boot_list (pa_consD (pvD 7) pa_nilD)) (pa_consD (pvD 3) (pa_consD pd_non (pa_consD (pd_call (ok_law_odd t) (takes_of rfl rfl rfl rfl) (hr.mono (by decide)) rfl t.m_law_odd t.F_law_odd.kp t.b_law_odd (pa_consD (pvD 1) pa_nilD)) pa_nilD)))))))))) (pg_name (i := 11) sc_law.nd rfl (by first | exact .inl rfl | exact .inr rfl))
    (qs_one (ps_ifD (pt_notD (pt_tru (pd_call (ok_law_is t) (takes_of rfl rfl rfl rfl) (hr.mono (by decide)) rfl t.m_law_is t.F_law_is.kp t.b_law_is (pa_consD (pd_call (ok_is_mend t) (takes_of rfl rfl rfl rfl) (hr.mono (by decide)) rfl t.m_is_mend t.F_is_mend.kp t.b_is_mend (pa_consD (pvD 3) (pa_consD (pvD 11) pa_nilD))) (pa_consD (pd_call (ok_law_is_mend t) (takes_of rfl rfl rfl rfl) (hr.mono (by decide)) rfl t.m_law_is_mend t.F_law_is_mend.kp t.b_law_is_mend (pa_consD (pvD 4) (pa_consD (pvD 11) pa_nilD))) pa_nilD))))) (qs_one (ps_retD pd_bl)) qs_nil)))
    (qs_cons (ps_setD (i := 12) sc_law.nd rfl (by first | exact .inl rfl | exact .inr rfl) (pe_ifD (pt_cmpD op_gt does_cmp (pvD 4) pd_int (nomark _)) (pd_call (ok_law_some t) (takes_of rfl rfl rfl rfl) (hr.mono (by decide)) rfl t.m_law_some t.F_law_some.kp t.b_law_some (pa_consD (pvD 1) (pa_consD (pd_call (ok_law_ways t) (takes_of rfl rfl rfl rfl) (hr.mono (by decide)) rfl t.m_law_ways t.F_law_ways.kp t.b_law_ways (pa_consD (pvD 4) pa_nilD)) pa_nilD))) pd_non))
    (qs_cons (ps_setD (i := 13) sc_law.nd rfl (by first | exact .inl rfl | exact .inr rfl) (pd_lst false (pa_consD (pd_tup (pa_consD (pvD 5) (pa_consD (pvD 10) (pa_consD (pd_ix (pvD 6) pd_int) pa_nilD)))) (pa_consD (pd_tup (pa_consD (pvD 5) (pa_consD (pvD 7) (pa_consD (pvD 12) pa_nilD)))) (pa_consD (pd_tup (pa_consD (pvD 5) (pa_consD (pvD 7) (pa_consD pd_non pa_nilD)))) (pa_consD (pd_tup (pa_consD (pvD 5) (pa_consD (pvD 9) (pa_consD (pd_ix (pvD 6) pd_int) pa_nilD)))) (pa_consD (pd_callT call_list_of (does_list false) rfl t.z_list boot_list (pa_consD (pvD 6) pa_nilD)) pa_nilD)))))))
    (qs_one (ps_forD (passes_of rfl) rfl (tg_name _ 11) (pi_seqD (pd_add (pvD 13) (pd_lst false (pa_consD (pd_slice false (pvD 6) po_noneD (po_someD pd_int)) (pa_consD (pd_add (pd_tup (pa_consD (pd_call (ok_law_plus t) (takes_of rfl rfl rfl rfl) (hr.mono (by decide)) rfl t.m_law_plus t.F_law_plus.kp t.b_law_plus (pa_consD (pvD 5) (pa_consD (pd_tup (pa_consD pd_int (pa_consD pd_int pa_nilD))) pa_nilD))) pa_nilD)) (pd_slice false (pvD 6) (po_someD pd_int) po_noneD)) (pa_consD pd_non (pa_consD (pd_call (ok_law_odd t) (takes_of rfl rfl rfl rfl) (hr.mono (by decide)) rfl t.m_law_odd t.F_law_odd.kp t.b_law_odd (pa_consD (pvD 1) pa_nilD)) pa_nilD))))))) (pg_name (i := 11) sc_law.nd rfl (by first | exact .inl rfl | exact .inr rfl))
    (qs_one (ps_ifD (pt_notD (pt_tru (pd_call (ok_law_is t) (takes_of rfl rfl rfl rfl) (hr.mono (by decide)) rfl t.m_law_is t.F_law_is.kp t.b_law_is (pa_consD (pd_call (ok_is_nearest_mend t) (takes_of rfl rfl rfl rfl) (hr.mono (by decide)) rfl t.m_is_nearest_mend t.F_is_nearest_mend.kp t.b_is_nearest_mend (pa_consD (pvD 3) (pa_consD (pvD 11) pa_nilD))) (pa_consD (pd_call (ok_law_is_right t) (takes_of rfl rfl rfl rfl) (hr.mono (by decide)) rfl t.m_law_is_right t.F_law_is_right.kp t.b_law_is_right (pa_consD (pvD 3) (pa_consD (pvD 5) (pa_consD (pvD 11) pa_nilD)))) pa_nilD))))) (qs_one (ps_retD pd_bl)) qs_nil)))))))))))))))))))
    (qs_one (ps_retD pd_bl))))
end
end Lw87
namespace Lw87
open PySem PySem.Spec PyProof.Rows L2 PD
theorem all_mk {P : Program} {w : World} {K : PySem.W.Frag} {h : Heap} {mg : Str → Option Value} {fa : Addr} (X : K.In h) (G : h.Ns mainGlobals mg) (hfa : mg "law" = some (.ref fa))
    {f_is_integer : Addr} {od_is_integer an_is_integer : Option Addr} {sl_is_integer : Array (Option Value)} {oc_is_integer kV_is_integer dc_is_integer pm_is_integer cd_is_integer ct_is_integer : Value}
    {f_is_within : Addr} {od_is_within an_is_within : Option Addr} {sl_is_within : Array (Option Value)} {oc_is_within kV_is_within dc_is_within pm_is_within cd_is_within ct_is_within : Value}
    {f_is_sized : Addr} {od_is_sized an_is_sized : Option Addr} {sl_is_sized : Array (Option Value)} {oc_is_sized kV_is_sized dc_is_sized pm_is_sized cd_is_sized ct_is_sized : Value}
    {f_is_table : Addr} {od_is_table an_is_table : Option Addr} {sl_is_table : Array (Option Value)} {oc_is_table kV_is_table dc_is_table pm_is_table cd_is_table ct_is_table : Value}
    {f_check_table : Addr} {od_check_table an_check_table : Option Addr} {sl_check_table : Array (Option Value)} {oc_check_table kV_check_table dc_check_table pm_check_table cd_check_table ct_check_table : Value}
    {f_common : Addr} {od_common an_common : Option Addr} {sl_common : Array (Option Value)} {oc_common kV_common dc_common pm_common cd_common ct_common : Value}
    {f_is_share : Addr} {od_is_share an_is_share : Option Addr} {sl_is_share : Array (Option Value)} {oc_is_share kV_is_share dc_is_share pm_is_share cd_is_share ct_is_share : Value}
    {f_share : Addr} {od_share an_share : Option Addr} {sl_share : Array (Option Value)} {oc_share kV_share dc_share pm_share cd_share ct_share : Value}
    {f_plus : Addr} {od_plus an_plus : Option Addr} {sl_plus : Array (Option Value)} {oc_plus kV_plus dc_plus pm_plus cd_plus ct_plus : Value}
    {f_is_less : Addr} {od_is_less an_is_less : Option Addr} {sl_is_less : Array (Option Value)} {oc_is_less kV_is_less dc_is_less pm_is_less cd_is_less ct_is_less : Value}
    {f_is_mend_of : Addr} {od_is_mend_of an_is_mend_of : Option Addr} {sl_is_mend_of : Array (Option Value)} {oc_is_mend_of kV_is_mend_of dc_is_mend_of pm_is_mend_of cd_is_mend_of ct_is_mend_of : Value}
    {f_is_mend : Addr} {od_is_mend an_is_mend : Option Addr} {sl_is_mend : Array (Option Value)} {oc_is_mend kV_is_mend dc_is_mend pm_is_mend cd_is_mend ct_is_mend : Value}
    {f_minus : Addr} {od_minus an_minus : Option Addr} {sl_minus : Array (Option Value)} {oc_minus kV_minus dc_minus pm_minus cd_minus ct_minus : Value}
    {f_pairs_of : Addr} {od_pairs_of an_pairs_of : Option Addr} {sl_pairs_of : Array (Option Value)} {oc_pairs_of kV_pairs_of dc_pairs_of pm_pairs_of cd_pairs_of ct_pairs_of : Value}
    {f_gaps_of : Addr} {od_gaps_of an_gaps_of : Option Addr} {sl_gaps_of : Array (Option Value)} {oc_gaps_of kV_gaps_of dc_gaps_of pm_gaps_of cd_gaps_of ct_gaps_of : Value}
    {f_check_mend : Addr} {od_check_mend an_check_mend : Option Addr} {sl_check_mend : Array (Option Value)} {oc_check_mend kV_check_mend dc_check_mend pm_check_mend cd_check_mend ct_check_mend : Value}
    {f_most_of : Addr} {od_most_of an_most_of : Option Addr} {sl_most_of : Array (Option Value)} {oc_most_of kV_most_of dc_most_of pm_most_of cd_most_of ct_most_of : Value}
    {f_off_most : Addr} {od_off_most an_off_most : Option Addr} {sl_off_most : Array (Option Value)} {oc_off_most kV_off_most dc_off_most pm_off_most cd_off_most ct_off_most : Value}
    {f_sum_of : Addr} {od_sum_of an_sum_of : Option Addr} {sl_sum_of : Array (Option Value)} {oc_sum_of kV_sum_of dc_sum_of pm_sum_of cd_sum_of ct_sum_of : Value}
    {f_off_sum : Addr} {od_off_sum an_off_sum : Option Addr} {sl_off_sum : Array (Option Value)} {oc_off_sum kV_off_sum dc_off_sum pm_off_sum cd_off_sum ct_off_sum : Value}
    {f_off_pairs : Addr} {od_off_pairs an_off_pairs : Option Addr} {sl_off_pairs : Array (Option Value)} {oc_off_pairs kV_off_pairs dc_off_pairs pm_off_pairs cd_off_pairs ct_off_pairs : Value}
    {f_lack_of : Addr} {od_lack_of an_lack_of : Option Addr} {sl_lack_of : Array (Option Value)} {oc_lack_of kV_lack_of dc_lack_of pm_lack_of cd_lack_of ct_lack_of : Value}
    {f_worst_way : Addr} {od_worst_way an_worst_way : Option Addr} {sl_worst_way : Array (Option Value)} {oc_worst_way kV_worst_way dc_worst_way pm_worst_way cd_worst_way ct_worst_way : Value}
    {f_shortest_shares : Addr} {od_shortest_shares an_shortest_shares : Option Addr} {sl_shortest_shares : Array (Option Value)} {oc_shortest_shares kV_shortest_shares dc_shortest_shares pm_shortest_shares cd_shortest_shares ct_shortest_shares : Value}
    {f_raised_by : Addr} {od_raised_by an_raised_by : Option Addr} {sl_raised_by : Array (Option Value)} {oc_raised_by kV_raised_by dc_raised_by pm_raised_by cd_raised_by ct_raised_by : Value}
    {f_nearest_mend : Addr} {od_nearest_mend an_nearest_mend : Option Addr} {sl_nearest_mend : Array (Option Value)} {oc_nearest_mend kV_nearest_mend dc_nearest_mend pm_nearest_mend cd_nearest_mend ct_nearest_mend : Value}
    {f_is_nearest_mend : Addr} {od_is_nearest_mend an_is_nearest_mend : Option Addr} {sl_is_nearest_mend : Array (Option Value)} {oc_is_nearest_mend kV_is_nearest_mend dc_is_nearest_mend pm_is_nearest_mend cd_is_nearest_mend ct_is_nearest_mend : Value}
    {f_law_hand : Addr} {od_law_hand an_law_hand : Option Addr} {sl_law_hand : Array (Option Value)} {oc_law_hand kV_law_hand dc_law_hand pm_law_hand cd_law_hand ct_law_hand : Value}
    {f_law_draw : Addr} {od_law_draw an_law_draw : Option Addr} {sl_law_draw : Array (Option Value)} {oc_law_draw kV_law_draw dc_law_draw pm_law_draw cd_law_draw ct_law_draw : Value}
    {f_law_some : Addr} {od_law_some an_law_some : Option Addr} {sl_law_some : Array (Option Value)} {oc_law_some kV_law_some dc_law_some pm_law_some cd_law_some ct_law_some : Value}
    {f_law_table : Addr} {od_law_table an_law_table : Option Addr} {sl_law_table : Array (Option Value)} {oc_law_table kV_law_table dc_law_table pm_law_table cd_law_table ct_law_table : Value}
    {f_law_closing : Addr} {od_law_closing an_law_closing : Option Addr} {sl_law_closing : Array (Option Value)} {oc_law_closing kV_law_closing dc_law_closing pm_law_closing cd_law_closing ct_law_closing : Value}
    {f_law_low : Addr} {od_law_low an_law_low : Option Addr} {sl_law_low : Array (Option Value)} {oc_law_low kV_law_low dc_law_low pm_law_low cd_law_low ct_law_low : Value}
    {f_law_plus : Addr} {od_law_plus an_law_plus : Option Addr} {sl_law_plus : Array (Option Value)} {oc_law_plus kV_law_plus dc_law_plus pm_law_plus cd_law_plus ct_law_plus : Value}
    {f_law_sum : Addr} {od_law_sum an_law_sum : Option Addr} {sl_law_sum : Array (Option Value)} {oc_law_sum kV_law_sum dc_law_sum pm_law_sum cd_law_sum ct_law_sum : Value}
    {f_law_deep : Addr} {od_law_deep an_law_deep : Option Addr} {sl_law_deep : Array (Option Value)} {oc_law_deep kV_law_deep dc_law_deep pm_law_deep cd_law_deep ct_law_deep : Value}
    {f_law_odd : Addr} {od_law_odd an_law_odd : Option Addr} {sl_law_odd : Array (Option Value)} {oc_law_odd kV_law_odd dc_law_odd pm_law_odd cd_law_odd ct_law_odd : Value}
    {f_law_is : Addr} {od_law_is an_law_is : Option Addr} {sl_law_is : Array (Option Value)} {oc_law_is kV_law_is dc_law_is pm_law_is cd_law_is ct_law_is : Value}
    {f_law_less : Addr} {od_law_less an_law_less : Option Addr} {sl_law_less : Array (Option Value)} {oc_law_less kV_law_less dc_law_less pm_law_less cd_law_less ct_law_less : Value}
    {f_law_is_number : Addr} {od_law_is_number an_law_is_number : Option Addr} {sl_law_is_number : Array (Option Value)} {oc_law_is_number kV_law_is_number dc_law_is_number pm_law_is_number cd_law_is_number ct_law_is_number : Value}
    {f_law_is_part : Addr} {od_law_is_part an_law_is_part : Option Addr} {sl_law_is_part : Array (Option Value)} {oc_law_is_part kV_law_is_part dc_law_is_part pm_law_is_part cd_law_is_part ct_law_is_part : Value}
    {f_law_is_mend : Addr} {od_law_is_mend an_law_is_mend : Option Addr} {sl_law_is_mend : Array (Option Value)} {oc_law_is_mend kV_law_is_mend dc_law_is_mend pm_law_is_mend cd_law_is_mend ct_law_is_mend : Value}
    {f_law_minus : Addr} {od_law_minus an_law_minus : Option Addr} {sl_law_minus : Array (Option Value)} {oc_law_minus kV_law_minus dc_law_minus pm_law_minus cd_law_minus ct_law_minus : Value}
    {f_law_offs : Addr} {od_law_offs an_law_offs : Option Addr} {sl_law_offs : Array (Option Value)} {oc_law_offs kV_law_offs dc_law_offs pm_law_offs cd_law_offs ct_law_offs : Value}
    {f_law_most : Addr} {od_law_most an_law_most : Option Addr} {sl_law_most : Array (Option Value)} {oc_law_most kV_law_most dc_law_most pm_law_most cd_law_most ct_law_most : Value}
    {f_law_ask : Addr} {od_law_ask an_law_ask : Option Addr} {sl_law_ask : Array (Option Value)} {oc_law_ask kV_law_ask dc_law_ask pm_law_ask cd_law_ask ct_law_ask : Value}
    {f_law_ways : Addr} {od_law_ways an_law_ways : Option Addr} {sl_law_ways : Array (Option Value)} {oc_law_ways kV_law_ways dc_law_ways pm_law_ways cd_law_ways ct_law_ways : Value}
    {f_law_is_right : Addr} {od_law_is_right an_law_is_right : Option Addr} {sl_law_is_right : Array (Option Value)} {oc_law_is_right kV_law_is_right dc_law_is_right pm_law_is_right cd_law_is_right ct_law_is_right : Value}
    {f_law : Addr} {od_law an_law : Option Addr} {sl_law : Array (Option Value)} {oc_law kV_law dc_law pm_law cd_law ct_law : Value}
    {tk_MOST_FAR : Tok}
    {tk_MOST_PLACES : Tok}
    {q_ZERO : Addr} {tk_ZERO_0 tk_ZERO_1 : Tok} {nn_ZERO : Nat} {sl_ZERO : Array (Option Value)}
    (a_is_integer : PySem.W.nsIn K mainGlobals "is_integer" = some (some (.ref f_is_integer))) (l_is_integer : K.lookup f_is_integer = some ⟨oc_is_integer, od_is_integer, .func (PySem.W.fnOf "is_integer" "is_integer" (defArgs s_is_integer) (defBody s_is_integer) (defScope s_is_integer) .none kV_is_integer dc_is_integer pm_is_integer an_is_integer cd_is_integer ct_is_integer), sl_is_integer⟩) (c_is_integer : PySem.W.codeIn K cd_is_integer "is_integer" = true) (k_is_integer : PySem.W.keepIn K (.ref f_is_integer) = true)
    (a_is_within : PySem.W.nsIn K mainGlobals "is_within" = some (some (.ref f_is_within))) (l_is_within : K.lookup f_is_within = some ⟨oc_is_within, od_is_within, .func (PySem.W.fnOf "is_within" "is_within" (defArgs s_is_within) (defBody s_is_within) (defScope s_is_within) .none kV_is_within dc_is_within pm_is_within an_is_within cd_is_within ct_is_within), sl_is_within⟩) (c_is_within : PySem.W.codeIn K cd_is_within "is_within" = true) (k_is_within : PySem.W.keepIn K (.ref f_is_within) = true)
    (a_is_sized : PySem.W.nsIn K mainGlobals "is_sized" = some (some (.ref f_is_sized))) (l_is_sized : K.lookup f_is_sized = some ⟨oc_is_sized, od_is_sized, .func (PySem.W.fnOf "is_sized" "is_sized" (defArgs s_is_sized) (defBody s_is_sized) (defScope s_is_sized) .none kV_is_sized dc_is_sized pm_is_sized an_is_sized cd_is_sized ct_is_sized), sl_is_sized⟩) (c_is_sized : PySem.W.codeIn K cd_is_sized "is_sized" = true) (k_is_sized : PySem.W.keepIn K (.ref f_is_sized) = true)
    (a_is_table : PySem.W.nsIn K mainGlobals "is_table" = some (some (.ref f_is_table))) (l_is_table : K.lookup f_is_table = some ⟨oc_is_table, od_is_table, .func (PySem.W.fnOf "is_table" "is_table" (defArgs s_is_table) (defBody s_is_table) (defScope s_is_table) .none kV_is_table dc_is_table pm_is_table an_is_table cd_is_table ct_is_table), sl_is_table⟩) (c_is_table : PySem.W.codeIn K cd_is_table "is_table" = true) (k_is_table : PySem.W.keepIn K (.ref f_is_table) = true)
    (a_check_table : PySem.W.nsIn K mainGlobals "check_table" = some (some (.ref f_check_table))) (l_check_table : K.lookup f_check_table = some ⟨oc_check_table, od_check_table, .func (PySem.W.fnOf "check_table" "check_table" (defArgs s_check_table) (defBody s_check_table) (defScope s_check_table) .none kV_check_table dc_check_table pm_check_table an_check_table cd_check_table ct_check_table), sl_check_table⟩) (c_check_table : PySem.W.codeIn K cd_check_table "check_table" = true) (k_check_table : PySem.W.keepIn K (.ref f_check_table) = true)
    (a_common : PySem.W.nsIn K mainGlobals "common" = some (some (.ref f_common))) (l_common : K.lookup f_common = some ⟨oc_common, od_common, .func (PySem.W.fnOf "common" "common" (defArgs s_common) (defBody s_common) (defScope s_common) .none kV_common dc_common pm_common an_common cd_common ct_common), sl_common⟩) (c_common : PySem.W.codeIn K cd_common "common" = true) (k_common : PySem.W.keepIn K (.ref f_common) = true)
    (a_is_share : PySem.W.nsIn K mainGlobals "is_share" = some (some (.ref f_is_share))) (l_is_share : K.lookup f_is_share = some ⟨oc_is_share, od_is_share, .func (PySem.W.fnOf "is_share" "is_share" (defArgs s_is_share) (defBody s_is_share) (defScope s_is_share) .none kV_is_share dc_is_share pm_is_share an_is_share cd_is_share ct_is_share), sl_is_share⟩) (c_is_share : PySem.W.codeIn K cd_is_share "is_share" = true) (k_is_share : PySem.W.keepIn K (.ref f_is_share) = true)
    (a_share : PySem.W.nsIn K mainGlobals "share" = some (some (.ref f_share))) (l_share : K.lookup f_share = some ⟨oc_share, od_share, .func (PySem.W.fnOf "share" "share" (defArgs s_share) (defBody s_share) (defScope s_share) .none kV_share dc_share pm_share an_share cd_share ct_share), sl_share⟩) (c_share : PySem.W.codeIn K cd_share "share" = true) (k_share : PySem.W.keepIn K (.ref f_share) = true)
    (a_plus : PySem.W.nsIn K mainGlobals "plus" = some (some (.ref f_plus))) (l_plus : K.lookup f_plus = some ⟨oc_plus, od_plus, .func (PySem.W.fnOf "plus" "plus" (defArgs s_plus) (defBody s_plus) (defScope s_plus) .none kV_plus dc_plus pm_plus an_plus cd_plus ct_plus), sl_plus⟩) (c_plus : PySem.W.codeIn K cd_plus "plus" = true) (k_plus : PySem.W.keepIn K (.ref f_plus) = true)
    (a_is_less : PySem.W.nsIn K mainGlobals "is_less" = some (some (.ref f_is_less))) (l_is_less : K.lookup f_is_less = some ⟨oc_is_less, od_is_less, .func (PySem.W.fnOf "is_less" "is_less" (defArgs s_is_less) (defBody s_is_less) (defScope s_is_less) .none kV_is_less dc_is_less pm_is_less an_is_less cd_is_less ct_is_less), sl_is_less⟩) (c_is_less : PySem.W.codeIn K cd_is_less "is_less" = true) (k_is_less : PySem.W.keepIn K (.ref f_is_less) = true)
    (a_is_mend_of : PySem.W.nsIn K mainGlobals "is_mend_of" = some (some (.ref f_is_mend_of))) (l_is_mend_of : K.lookup f_is_mend_of = some ⟨oc_is_mend_of, od_is_mend_of, .func (PySem.W.fnOf "is_mend_of" "is_mend_of" (defArgs s_is_mend_of) (defBody s_is_mend_of) (defScope s_is_mend_of) .none kV_is_mend_of dc_is_mend_of pm_is_mend_of an_is_mend_of cd_is_mend_of ct_is_mend_of), sl_is_mend_of⟩) (c_is_mend_of : PySem.W.codeIn K cd_is_mend_of "is_mend_of" = true) (k_is_mend_of : PySem.W.keepIn K (.ref f_is_mend_of) = true)
    (a_is_mend : PySem.W.nsIn K mainGlobals "is_mend" = some (some (.ref f_is_mend))) (l_is_mend : K.lookup f_is_mend = some ⟨oc_is_mend, od_is_mend, .func (PySem.W.fnOf "is_mend" "is_mend" (defArgs s_is_mend) (defBody s_is_mend) (defScope s_is_mend) .none kV_is_mend dc_is_mend pm_is_mend an_is_mend cd_is_mend ct_is_mend), sl_is_mend⟩) (c_is_mend : PySem.W.codeIn K cd_is_mend "is_mend" = true) (k_is_mend : PySem.W.keepIn K (.ref f_is_mend) = true)
    (a_minus : PySem.W.nsIn K mainGlobals "minus" = some (some (.ref f_minus))) (l_minus : K.lookup f_minus = some ⟨oc_minus, od_minus, .func (PySem.W.fnOf "minus" "minus" (defArgs s_minus) (defBody s_minus) (defScope s_minus) .none kV_minus dc_minus pm_minus an_minus cd_minus ct_minus), sl_minus⟩) (c_minus : PySem.W.codeIn K cd_minus "minus" = true) (k_minus : PySem.W.keepIn K (.ref f_minus) = true)
    (a_pairs_of : PySem.W.nsIn K mainGlobals "pairs_of" = some (some (.ref f_pairs_of))) (l_pairs_of : K.lookup f_pairs_of = some ⟨oc_pairs_of, od_pairs_of, .func (PySem.W.fnOf "pairs_of" "pairs_of" (defArgs s_pairs_of) (defBody s_pairs_of) (defScope s_pairs_of) .none kV_pairs_of dc_pairs_of pm_pairs_of an_pairs_of cd_pairs_of ct_pairs_of), sl_pairs_of⟩) (c_pairs_of : PySem.W.codeIn K cd_pairs_of "pairs_of" = true) (k_pairs_of : PySem.W.keepIn K (.ref f_pairs_of) = true)
    (a_gaps_of : PySem.W.nsIn K mainGlobals "gaps_of" = some (some (.ref f_gaps_of))) (l_gaps_of : K.lookup f_gaps_of = some ⟨oc_gaps_of, od_gaps_of, .func (PySem.W.fnOf "gaps_of" "gaps_of" (defArgs s_gaps_of) (defBody s_gaps_of) (defScope s_gaps_of) .none kV_gaps_of dc_gaps_of pm_gaps_of an_gaps_of cd_gaps_of ct_gaps_of), sl_gaps_of⟩) (c_gaps_of : PySem.W.codeIn K cd_gaps_of "gaps_of" = true) (k_gaps_of : PySem.W.keepIn K (.ref f_gaps_of) = true)
    (a_check_mend : PySem.W.nsIn K mainGlobals "check_mend" = some (some (.ref f_check_mend))) (l_check_mend : K.lookup f_check_mend = some ⟨oc_check_mend, od_check_mend, .func (PySem.W.fnOf "check_mend" "check_mend" (defArgs s_check_mend) (defBody s_check_mend) (defScope s_check_mend) .none kV_check_mend dc_check_mend pm_check_mend an_check_mend cd_check_mend ct_check_mend), sl_check_mend⟩) (c_check_mend : PySem.W.codeIn K cd_check_mend "check_mend" = true) (k_check_mend : PySem.W.keepIn K (.ref f_check_mend) = true)
    (a_most_of : PySem.W.nsIn K mainGlobals "most_of" = some (some (.ref f_most_of))) (l_most_of : K.lookup f_most_of = some ⟨oc_most_of, od_most_of, .func (PySem.W.fnOf "most_of" "most_of" (defArgs s_most_of) (defBody s_most_of) (defScope s_most_of) .none kV_most_of dc_most_of pm_most_of an_most_of cd_most_of ct_most_of), sl_most_of⟩) (c_most_of : PySem.W.codeIn K cd_most_of "most_of" = true) (k_most_of : PySem.W.keepIn K (.ref f_most_of) = true)
    (a_off_most : PySem.W.nsIn K mainGlobals "off_most" = some (some (.ref f_off_most))) (l_off_most : K.lookup f_off_most = some ⟨oc_off_most, od_off_most, .func (PySem.W.fnOf "off_most" "off_most" (defArgs s_off_most) (defBody s_off_most) (defScope s_off_most) .none kV_off_most dc_off_most pm_off_most an_off_most cd_off_most ct_off_most), sl_off_most⟩) (c_off_most : PySem.W.codeIn K cd_off_most "off_most" = true) (k_off_most : PySem.W.keepIn K (.ref f_off_most) = true)
    (a_sum_of : PySem.W.nsIn K mainGlobals "sum_of" = some (some (.ref f_sum_of))) (l_sum_of : K.lookup f_sum_of = some ⟨oc_sum_of, od_sum_of, .func (PySem.W.fnOf "sum_of" "sum_of" (defArgs s_sum_of) (defBody s_sum_of) (defScope s_sum_of) .none kV_sum_of dc_sum_of pm_sum_of an_sum_of cd_sum_of ct_sum_of), sl_sum_of⟩) (c_sum_of : PySem.W.codeIn K cd_sum_of "sum_of" = true) (k_sum_of : PySem.W.keepIn K (.ref f_sum_of) = true)
    (a_off_sum : PySem.W.nsIn K mainGlobals "off_sum" = some (some (.ref f_off_sum))) (l_off_sum : K.lookup f_off_sum = some ⟨oc_off_sum, od_off_sum, .func (PySem.W.fnOf "off_sum" "off_sum" (defArgs s_off_sum) (defBody s_off_sum) (defScope s_off_sum) .none kV_off_sum dc_off_sum pm_off_sum an_off_sum cd_off_sum ct_off_sum), sl_off_sum⟩) (c_off_sum : PySem.W.codeIn K cd_off_sum "off_sum" = true) (k_off_sum : PySem.W.keepIn K (.ref f_off_sum) = true)
    (a_off_pairs : PySem.W.nsIn K mainGlobals "off_pairs" = some (some (.ref f_off_pairs))) (l_off_pairs : K.lookup f_off_pairs = some ⟨oc_off_pairs, od_off_pairs, .func (PySem.W.fnOf "off_pairs" "off_pairs" (defArgs s_off_pairs) (defBody s_off_pairs) (defScope s_off_pairs) .none kV_off_pairs dc_off_pairs pm_off_pairs an_off_pairs cd_off_pairs ct_off_pairs), sl_off_pairs⟩) (c_off_pairs : PySem.W.codeIn K cd_off_pairs "off_pairs" = true) (k_off_pairs : PySem.W.keepIn K (.ref f_off_pairs) = true)
    (a_lack_of : PySem.W.nsIn K mainGlobals "lack_of" = some (some (.ref f_lack_of))) (l_lack_of : K.lookup f_lack_of = some ⟨oc_lack_of, od_lack_of, .func (PySem.W.fnOf "lack_of" "lack_of" (defArgs s_lack_of) (defBody s_lack_of) (defScope s_lack_of) .none kV_lack_of dc_lack_of pm_lack_of an_lack_of cd_lack_of ct_lack_of), sl_lack_of⟩) (c_lack_of : PySem.W.codeIn K cd_lack_of "lack_of" = true) (k_lack_of : PySem.W.keepIn K (.ref f_lack_of) = true)
    (a_worst_way : PySem.W.nsIn K mainGlobals "worst_way" = some (some (.ref f_worst_way))) (l_worst_way : K.lookup f_worst_way = some ⟨oc_worst_way, od_worst_way, .func (PySem.W.fnOf "worst_way" "worst_way" (defArgs s_worst_way) (defBody s_worst_way) (defScope s_worst_way) .none kV_worst_way dc_worst_way pm_worst_way an_worst_way cd_worst_way ct_worst_way), sl_worst_way⟩) (c_worst_way : PySem.W.codeIn K cd_worst_way "worst_way" = true) (k_worst_way : PySem.W.keepIn K (.ref f_worst_way) = true)
    (a_shortest_shares : PySem.W.nsIn K mainGlobals "shortest_shares" = some (some (.ref f_shortest_shares))) (l_shortest_shares : K.lookup f_shortest_shares = some ⟨oc_shortest_shares, od_shortest_shares, .func (PySem.W.fnOf "shortest_shares" "shortest_shares" (defArgs s_shortest_shares) (defBody s_shortest_shares) (defScope s_shortest_shares) .none kV_shortest_shares dc_shortest_shares pm_shortest_shares an_shortest_shares cd_shortest_shares ct_shortest_shares), sl_shortest_shares⟩) (c_shortest_shares : PySem.W.codeIn K cd_shortest_shares "shortest_shares" = true) (k_shortest_shares : PySem.W.keepIn K (.ref f_shortest_shares) = true)
    (a_raised_by : PySem.W.nsIn K mainGlobals "raised_by" = some (some (.ref f_raised_by))) (l_raised_by : K.lookup f_raised_by = some ⟨oc_raised_by, od_raised_by, .func (PySem.W.fnOf "raised_by" "raised_by" (defArgs s_raised_by) (defBody s_raised_by) (defScope s_raised_by) .none kV_raised_by dc_raised_by pm_raised_by an_raised_by cd_raised_by ct_raised_by), sl_raised_by⟩) (c_raised_by : PySem.W.codeIn K cd_raised_by "raised_by" = true) (k_raised_by : PySem.W.keepIn K (.ref f_raised_by) = true)
    (a_nearest_mend : PySem.W.nsIn K mainGlobals "nearest_mend" = some (some (.ref f_nearest_mend))) (l_nearest_mend : K.lookup f_nearest_mend = some ⟨oc_nearest_mend, od_nearest_mend, .func (PySem.W.fnOf "nearest_mend" "nearest_mend" (defArgs s_nearest_mend) (defBody s_nearest_mend) (defScope s_nearest_mend) .none kV_nearest_mend dc_nearest_mend pm_nearest_mend an_nearest_mend cd_nearest_mend ct_nearest_mend), sl_nearest_mend⟩) (c_nearest_mend : PySem.W.codeIn K cd_nearest_mend "nearest_mend" = true) (k_nearest_mend : PySem.W.keepIn K (.ref f_nearest_mend) = true)
    (a_is_nearest_mend : PySem.W.nsIn K mainGlobals "is_nearest_mend" = some (some (.ref f_is_nearest_mend))) (l_is_nearest_mend : K.lookup f_is_nearest_mend = some ⟨oc_is_nearest_mend, od_is_nearest_mend, .func (PySem.W.fnOf "is_nearest_mend" "is_nearest_mend" (defArgs s_is_nearest_mend) (defBody s_is_nearest_mend) (defScope s_is_nearest_mend) .none kV_is_nearest_mend dc_is_nearest_mend pm_is_nearest_mend an_is_nearest_mend cd_is_nearest_mend ct_is_nearest_mend), sl_is_nearest_mend⟩) (c_is_nearest_mend : PySem.W.codeIn K cd_is_nearest_mend "is_nearest_mend" = true) (k_is_nearest_mend : PySem.W.keepIn K (.ref f_is_nearest_mend) = true)
    (a_law_hand : PySem.W.nsIn K mainGlobals "_law_hand" = some (some (.ref f_law_hand))) (l_law_hand : K.lookup f_law_hand = some ⟨oc_law_hand, od_law_hand, .func (PySem.W.fnOf "_law_hand" "_law_hand" (defArgs s_law_hand) (defBody s_law_hand) (defScope s_law_hand) .none kV_law_hand dc_law_hand pm_law_hand an_law_hand cd_law_hand ct_law_hand), sl_law_hand⟩) (c_law_hand : PySem.W.codeIn K cd_law_hand "_law_hand" = true) (k_law_hand : PySem.W.keepIn K (.ref f_law_hand) = true)
    (a_law_draw : PySem.W.nsIn K mainGlobals "_law_draw" = some (some (.ref f_law_draw))) (l_law_draw : K.lookup f_law_draw = some ⟨oc_law_draw, od_law_draw, .func (PySem.W.fnOf "_law_draw" "_law_draw" (defArgs s_law_draw) (defBody s_law_draw) (defScope s_law_draw) .none kV_law_draw dc_law_draw pm_law_draw an_law_draw cd_law_draw ct_law_draw), sl_law_draw⟩) (c_law_draw : PySem.W.codeIn K cd_law_draw "_law_draw" = true) (k_law_draw : PySem.W.keepIn K (.ref f_law_draw) = true)
    (a_law_some : PySem.W.nsIn K mainGlobals "_law_some" = some (some (.ref f_law_some))) (l_law_some : K.lookup f_law_some = some ⟨oc_law_some, od_law_some, .func (PySem.W.fnOf "_law_some" "_law_some" (defArgs s_law_some) (defBody s_law_some) (defScope s_law_some) .none kV_law_some dc_law_some pm_law_some an_law_some cd_law_some ct_law_some), sl_law_some⟩) (c_law_some : PySem.W.codeIn K cd_law_some "_law_some" = true) (k_law_some : PySem.W.keepIn K (.ref f_law_some) = true)
    (a_law_table : PySem.W.nsIn K mainGlobals "_law_table" = some (some (.ref f_law_table))) (l_law_table : K.lookup f_law_table = some ⟨oc_law_table, od_law_table, .func (PySem.W.fnOf "_law_table" "_law_table" (defArgs s_law_table) (defBody s_law_table) (defScope s_law_table) .none kV_law_table dc_law_table pm_law_table an_law_table cd_law_table ct_law_table), sl_law_table⟩) (c_law_table : PySem.W.codeIn K cd_law_table "_law_table" = true) (k_law_table : PySem.W.keepIn K (.ref f_law_table) = true)
    (a_law_closing : PySem.W.nsIn K mainGlobals "_law_closing" = some (some (.ref f_law_closing))) (l_law_closing : K.lookup f_law_closing = some ⟨oc_law_closing, od_law_closing, .func (PySem.W.fnOf "_law_closing" "_law_closing" (defArgs s_law_closing) (defBody s_law_closing) (defScope s_law_closing) .none kV_law_closing dc_law_closing pm_law_closing an_law_closing cd_law_closing ct_law_closing), sl_law_closing⟩) (c_law_closing : PySem.W.codeIn K cd_law_closing "_law_closing" = true) (k_law_closing : PySem.W.keepIn K (.ref f_law_closing) = true)
    (a_law_low : PySem.W.nsIn K mainGlobals "_law_low" = some (some (.ref f_law_low))) (l_law_low : K.lookup f_law_low = some ⟨oc_law_low, od_law_low, .func (PySem.W.fnOf "_law_low" "_law_low" (defArgs s_law_low) (defBody s_law_low) (defScope s_law_low) .none kV_law_low dc_law_low pm_law_low an_law_low cd_law_low ct_law_low), sl_law_low⟩) (c_law_low : PySem.W.codeIn K cd_law_low "_law_low" = true) (k_law_low : PySem.W.keepIn K (.ref f_law_low) = true)
    (a_law_plus : PySem.W.nsIn K mainGlobals "_law_plus" = some (some (.ref f_law_plus))) (l_law_plus : K.lookup f_law_plus = some ⟨oc_law_plus, od_law_plus, .func (PySem.W.fnOf "_law_plus" "_law_plus" (defArgs s_law_plus) (defBody s_law_plus) (defScope s_law_plus) .none kV_law_plus dc_law_plus pm_law_plus an_law_plus cd_law_plus ct_law_plus), sl_law_plus⟩) (c_law_plus : PySem.W.codeIn K cd_law_plus "_law_plus" = true) (k_law_plus : PySem.W.keepIn K (.ref f_law_plus) = true)
    (a_law_sum : PySem.W.nsIn K mainGlobals "_law_sum" = some (some (.ref f_law_sum))) (l_law_sum : K.lookup f_law_sum = some ⟨oc_law_sum, od_law_sum, .func (PySem.W.fnOf "_law_sum" "_law_sum" (defArgs s_law_sum) (defBody s_law_sum) (defScope s_law_sum) .none kV_law_sum dc_law_sum pm_law_sum an_law_sum cd_law_sum ct_law_sum), sl_law_sum⟩) (c_law_sum : PySem.W.codeIn K cd_law_sum "_law_sum" = true) (k_law_sum : PySem.W.keepIn K (.ref f_law_sum) = true)
    (a_law_deep : PySem.W.nsIn K mainGlobals "_law_deep" = some (some (.ref f_law_deep))) (l_law_deep : K.lookup f_law_deep = some ⟨oc_law_deep, od_law_deep, .func (PySem.W.fnOf "_law_deep" "_law_deep" (defArgs s_law_deep) (defBody s_law_deep) (defScope s_law_deep) .none kV_law_deep dc_law_deep pm_law_deep an_law_deep cd_law_deep ct_law_deep), sl_law_deep⟩) (c_law_deep : PySem.W.codeIn K cd_law_deep "_law_deep" = true) (k_law_deep : PySem.W.keepIn K (.ref f_law_deep) = true)
    (a_law_odd : PySem.W.nsIn K mainGlobals "_law_odd" = some (some (.ref f_law_odd))) (l_law_odd : K.lookup f_law_odd = some ⟨oc_law_odd, od_law_odd, .func (PySem.W.fnOf "_law_odd" "_law_odd" (defArgs s_law_odd) (defBody s_law_odd) (defScope s_law_odd) .none kV_law_odd dc_law_odd pm_law_odd an_law_odd cd_law_odd ct_law_odd), sl_law_odd⟩) (c_law_odd : PySem.W.codeIn K cd_law_odd "_law_odd" = true) (k_law_odd : PySem.W.keepIn K (.ref f_law_odd) = true)
    (a_law_is : PySem.W.nsIn K mainGlobals "_law_is" = some (some (.ref f_law_is))) (l_law_is : K.lookup f_law_is = some ⟨oc_law_is, od_law_is, .func (PySem.W.fnOf "_law_is" "_law_is" (defArgs s_law_is) (defBody s_law_is) (defScope s_law_is) .none kV_law_is dc_law_is pm_law_is an_law_is cd_law_is ct_law_is), sl_law_is⟩) (c_law_is : PySem.W.codeIn K cd_law_is "_law_is" = true) (k_law_is : PySem.W.keepIn K (.ref f_law_is) = true)
    (a_law_less : PySem.W.nsIn K mainGlobals "_law_less" = some (some (.ref f_law_less))) (l_law_less : K.lookup f_law_less = some ⟨oc_law_less, od_law_less, .func (PySem.W.fnOf "_law_less" "_law_less" (defArgs s_law_less) (defBody s_law_less) (defScope s_law_less) .none kV_law_less dc_law_less pm_law_less an_law_less cd_law_less ct_law_less), sl_law_less⟩) (c_law_less : PySem.W.codeIn K cd_law_less "_law_less" = true) (k_law_less : PySem.W.keepIn K (.ref f_law_less) = true)
    (a_law_is_number : PySem.W.nsIn K mainGlobals "_law_is_number" = some (some (.ref f_law_is_number))) (l_law_is_number : K.lookup f_law_is_number = some ⟨oc_law_is_number, od_law_is_number, .func (PySem.W.fnOf "_law_is_number" "_law_is_number" (defArgs s_law_is_number) (defBody s_law_is_number) (defScope s_law_is_number) .none kV_law_is_number dc_law_is_number pm_law_is_number an_law_is_number cd_law_is_number ct_law_is_number), sl_law_is_number⟩) (c_law_is_number : PySem.W.codeIn K cd_law_is_number "_law_is_number" = true) (k_law_is_number : PySem.W.keepIn K (.ref f_law_is_number) = true)
    (a_law_is_part : PySem.W.nsIn K mainGlobals "_law_is_part" = some (some (.ref f_law_is_part))) (l_law_is_part : K.lookup f_law_is_part = some ⟨oc_law_is_part, od_law_is_part, .func (PySem.W.fnOf "_law_is_part" "_law_is_part" (defArgs s_law_is_part) (defBody s_law_is_part) (defScope s_law_is_part) .none kV_law_is_part dc_law_is_part pm_law_is_part an_law_is_part cd_law_is_part ct_law_is_part), sl_law_is_part⟩) (c_law_is_part : PySem.W.codeIn K cd_law_is_part "_law_is_part" = true) (k_law_is_part : PySem.W.keepIn K (.ref f_law_is_part) = true)
    (a_law_is_mend : PySem.W.nsIn K mainGlobals "_law_is_mend" = some (some (.ref f_law_is_mend))) (l_law_is_mend : K.lookup f_law_is_mend = some ⟨oc_law_is_mend, od_law_is_mend, .func (PySem.W.fnOf "_law_is_mend" "_law_is_mend" (defArgs s_law_is_mend) (defBody s_law_is_mend) (defScope s_law_is_mend) .none kV_law_is_mend dc_law_is_mend pm_law_is_mend an_law_is_mend cd_law_is_mend ct_law_is_mend), sl_law_is_mend⟩) (c_law_is_mend : PySem.W.codeIn K cd_law_is_mend "_law_is_mend" = true) (k_law_is_mend : PySem.W.keepIn K (.ref f_law_is_mend) = true)
    (a_law_minus : PySem.W.nsIn K mainGlobals "_law_minus" = some (some (.ref f_law_minus))) (l_law_minus : K.lookup f_law_minus = some ⟨oc_law_minus, od_law_minus, .func (PySem.W.fnOf "_law_minus" "_law_minus" (defArgs s_law_minus) (defBody s_law_minus) (defScope s_law_minus) .none kV_law_minus dc_law_minus pm_law_minus an_law_minus cd_law_minus ct_law_minus), sl_law_minus⟩) (c_law_minus : PySem.W.codeIn K cd_law_minus "_law_minus" = true) (k_law_minus : PySem.W.keepIn K (.ref f_law_minus) = true)
    (a_law_offs : PySem.W.nsIn K mainGlobals "_law_offs" = some (some (.ref f_law_offs))) (l_law_offs : K.lookup f_law_offs = some ⟨oc_law_offs, od_law_offs, .func (PySem.W.fnOf "_law_offs" "_law_offs" (defArgs s_law_offs) (defBody s_law_offs) (defScope s_law_offs) .none kV_law_offs dc_law_offs pm_law_offs an_law_offs cd_law_offs ct_law_offs), sl_law_offs⟩) (c_law_offs : PySem.W.codeIn K cd_law_offs "_law_offs" = true) (k_law_offs : PySem.W.keepIn K (.ref f_law_offs) = true)
    (a_law_most : PySem.W.nsIn K mainGlobals "_law_most" = some (some (.ref f_law_most))) (l_law_most : K.lookup f_law_most = some ⟨oc_law_most, od_law_most, .func (PySem.W.fnOf "_law_most" "_law_most" (defArgs s_law_most) (defBody s_law_most) (defScope s_law_most) .none kV_law_most dc_law_most pm_law_most an_law_most cd_law_most ct_law_most), sl_law_most⟩) (c_law_most : PySem.W.codeIn K cd_law_most "_law_most" = true) (k_law_most : PySem.W.keepIn K (.ref f_law_most) = true)
    (a_law_ask : PySem.W.nsIn K mainGlobals "_law_ask" = some (some (.ref f_law_ask))) (l_law_ask : K.lookup f_law_ask = some ⟨oc_law_ask, od_law_ask, .func (PySem.W.fnOf "_law_ask" "_law_ask" (defArgs s_law_ask) (defBody s_law_ask) (defScope s_law_ask) .none kV_law_ask dc_law_ask pm_law_ask an_law_ask cd_law_ask ct_law_ask), sl_law_ask⟩) (c_law_ask : PySem.W.codeIn K cd_law_ask "_law_ask" = true) (k_law_ask : PySem.W.keepIn K (.ref f_law_ask) = true)
    (a_law_ways : PySem.W.nsIn K mainGlobals "_law_ways" = some (some (.ref f_law_ways))) (l_law_ways : K.lookup f_law_ways = some ⟨oc_law_ways, od_law_ways, .func (PySem.W.fnOf "_law_ways" "_law_ways" (defArgs s_law_ways) (defBody s_law_ways) (defScope s_law_ways) .none kV_law_ways dc_law_ways pm_law_ways an_law_ways cd_law_ways ct_law_ways), sl_law_ways⟩) (c_law_ways : PySem.W.codeIn K cd_law_ways "_law_ways" = true) (k_law_ways : PySem.W.keepIn K (.ref f_law_ways) = true)
    (a_law_is_right : PySem.W.nsIn K mainGlobals "_law_is_right" = some (some (.ref f_law_is_right))) (l_law_is_right : K.lookup f_law_is_right = some ⟨oc_law_is_right, od_law_is_right, .func (PySem.W.fnOf "_law_is_right" "_law_is_right" (defArgs s_law_is_right) (defBody s_law_is_right) (defScope s_law_is_right) .none kV_law_is_right dc_law_is_right pm_law_is_right an_law_is_right cd_law_is_right ct_law_is_right), sl_law_is_right⟩) (c_law_is_right : PySem.W.codeIn K cd_law_is_right "_law_is_right" = true) (k_law_is_right : PySem.W.keepIn K (.ref f_law_is_right) = true)
    (a_law : PySem.W.nsIn K mainGlobals "law" = some (some (.ref f_law))) (l_law : K.lookup f_law = some ⟨oc_law, od_law, .func (PySem.W.fnOf "law" "law" (defArgs s_law) (defBody s_law) (defScope s_law) .none kV_law dc_law pm_law an_law cd_law ct_law), sl_law⟩) (c_law : PySem.W.codeIn K cd_law "law" = true) (k_law : PySem.W.keepIn K (.ref f_law) = true)
    (z_abs : PySem.W.nsIn K mainGlobals "abs" = some none)
    (z_all : PySem.W.nsIn K mainGlobals "all" = some none)
    (z_any : PySem.W.nsIn K mainGlobals "any" = some none)
    (z_bool : PySem.W.nsIn K mainGlobals "bool" = some none)
    (z_dict : PySem.W.nsIn K mainGlobals "dict" = some none)
    (z_enumerate : PySem.W.nsIn K mainGlobals "enumerate" = some none)
    (z_int : PySem.W.nsIn K mainGlobals "int" = some none)
    (z_isinstance : PySem.W.nsIn K mainGlobals "isinstance" = some none)
    (z_len : PySem.W.nsIn K mainGlobals "len" = some none)
    (z_list : PySem.W.nsIn K mainGlobals "list" = some none)
    (z_min : PySem.W.nsIn K mainGlobals "min" = some none)
    (z_range : PySem.W.nsIn K mainGlobals "range" = some none)
    (z_str : PySem.W.nsIn K mainGlobals "str" = some none)
    (z_sum : PySem.W.nsIn K mainGlobals "sum" = some none)
    (z_tuple : PySem.W.nsIn K mainGlobals "tuple" = some none)
    (z_zip : PySem.W.nsIn K mainGlobals "zip" = some none)
    (c_MOST_FAR : PySem.W.nsIn K mainGlobals "MOST_FAR" = some (some (.int 1000 tk_MOST_FAR)))
    (c_MOST_PLACES : PySem.W.nsIn K mainGlobals "MOST_PLACES" = some (some (.int 7 tk_MOST_PLACES)))
    (c_ZERO : PySem.W.nsIn K mainGlobals "ZERO" = some (some (.ref q_ZERO))) (l_ZERO : K.lookup q_ZERO = some ⟨.type "tuple", none, .seq #[.int 0 tk_ZERO_0, .int 1 tk_ZERO_1] nn_ZERO, sl_ZERO⟩) :
    ∃ fd : FuncData, (∀ (s : Shared) (v : Value), BindsTo s fd ⟨[v], []⟩ [("script", v)]) ∧ ∀ base : Heap, K.In base → base.Ns mainGlobals mg → FnOk P w K mg base (L2.CX P w) 7 fa fd ["script"] (spLaw K) := by
  have e := hfa.symm.trans (PySem.W.mg_of X G a_law)
  cases e
  let t : Tx K mg := {
    a_is_integer := f_is_integer, d_is_integer := _, F_is_integer := fun_mk (st := s_is_integer) l_is_integer c_is_integer k_is_integer, b_is_integer := (fun_mk (st := s_is_integer) l_is_integer c_is_integer k_is_integer).binds (ps := ["thing"]) (fun _ _ _ _ _ _ us hl => match us, hl with | [_], _ => rfl), m_is_integer := PySem.W.mg_of X G a_is_integer,
    a_is_within := f_is_within, d_is_within := _, F_is_within := fun_mk (st := s_is_within) l_is_within c_is_within k_is_within, b_is_within := (fun_mk (st := s_is_within) l_is_within c_is_within k_is_within).binds (ps := ["thing", "low", "high"]) (fun _ _ _ _ _ _ us hl => match us, hl with | [_, _, _], _ => rfl), m_is_within := PySem.W.mg_of X G a_is_within,
    a_is_sized := f_is_sized, d_is_sized := _, F_is_sized := fun_mk (st := s_is_sized) l_is_sized c_is_sized k_is_sized, b_is_sized := (fun_mk (st := s_is_sized) l_is_sized c_is_sized k_is_sized).binds (ps := ["thing", "low", "high"]) (fun _ _ _ _ _ _ us hl => match us, hl with | [_, _, _], _ => rfl), m_is_sized := PySem.W.mg_of X G a_is_sized,
    a_is_table := f_is_table, d_is_table := _, F_is_table := fun_mk (st := s_is_table) l_is_table c_is_table k_is_table, b_is_table := (fun_mk (st := s_is_table) l_is_table c_is_table k_is_table).binds (ps := ["thing"]) (fun _ _ _ _ _ _ us hl => match us, hl with | [_], _ => rfl), m_is_table := PySem.W.mg_of X G a_is_table,
    a_check_table := f_check_table, d_check_table := _, F_check_table := fun_mk (st := s_check_table) l_check_table c_check_table k_check_table, b_check_table := (fun_mk (st := s_check_table) l_check_table c_check_table k_check_table).binds (ps := ["thing"]) (fun _ _ _ _ _ _ us hl => match us, hl with | [_], _ => rfl), m_check_table := PySem.W.mg_of X G a_check_table,
    a_common := f_common, d_common := _, F_common := fun_mk (st := s_common) l_common c_common k_common, b_common := (fun_mk (st := s_common) l_common c_common k_common).binds (ps := ["one", "other"]) (fun _ _ _ _ _ _ us hl => match us, hl with | [_, _], _ => rfl), m_common := PySem.W.mg_of X G a_common,
    a_is_share := f_is_share, d_is_share := _, F_is_share := fun_mk (st := s_is_share) l_is_share c_is_share k_is_share, b_is_share := (fun_mk (st := s_is_share) l_is_share c_is_share k_is_share).binds (ps := ["thing"]) (fun _ _ _ _ _ _ us hl => match us, hl with | [_], _ => rfl), m_is_share := PySem.W.mg_of X G a_is_share,
    a_share := f_share, d_share := _, F_share := fun_mk (st := s_share) l_share c_share k_share, b_share := (fun_mk (st := s_share) l_share c_share k_share).binds (ps := ["top", "bottom"]) (fun _ _ _ _ _ _ us hl => match us, hl with | [_, _], _ => rfl), m_share := PySem.W.mg_of X G a_share,
    a_plus := f_plus, d_plus := _, F_plus := fun_mk (st := s_plus) l_plus c_plus k_plus, b_plus := (fun_mk (st := s_plus) l_plus c_plus k_plus).binds (ps := ["one", "other"]) (fun _ _ _ _ _ _ us hl => match us, hl with | [_, _], _ => rfl), m_plus := PySem.W.mg_of X G a_plus,
    a_is_less := f_is_less, d_is_less := _, F_is_less := fun_mk (st := s_is_less) l_is_less c_is_less k_is_less, b_is_less := (fun_mk (st := s_is_less) l_is_less c_is_less k_is_less).binds (ps := ["one", "other"]) (fun _ _ _ _ _ _ us hl => match us, hl with | [_, _], _ => rfl), m_is_less := PySem.W.mg_of X G a_is_less,
    a_is_mend_of := f_is_mend_of, d_is_mend_of := _, F_is_mend_of := fun_mk (st := s_is_mend_of) l_is_mend_of c_is_mend_of k_is_mend_of, b_is_mend_of := (fun_mk (st := s_is_mend_of) l_is_mend_of c_is_mend_of k_is_mend_of).binds (ps := ["n", "thing"]) (fun _ _ _ _ _ _ us hl => match us, hl with | [_, _], _ => rfl), m_is_mend_of := PySem.W.mg_of X G a_is_mend_of,
    a_is_mend := f_is_mend, d_is_mend := _, F_is_mend := fun_mk (st := s_is_mend) l_is_mend c_is_mend k_is_mend, b_is_mend := (fun_mk (st := s_is_mend) l_is_mend c_is_mend k_is_mend).binds (ps := ["table", "thing"]) (fun _ _ _ _ _ _ us hl => match us, hl with | [_, _], _ => rfl), m_is_mend := PySem.W.mg_of X G a_is_mend,
    a_minus := f_minus, d_minus := _, F_minus := fun_mk (st := s_minus) l_minus c_minus k_minus, b_minus := (fun_mk (st := s_minus) l_minus c_minus k_minus).binds (ps := ["one", "other"]) (fun _ _ _ _ _ _ us hl => match us, hl with | [_, _], _ => rfl), m_minus := PySem.W.mg_of X G a_minus,
    a_pairs_of := f_pairs_of, d_pairs_of := _, F_pairs_of := fun_mk (st := s_pairs_of) l_pairs_of c_pairs_of k_pairs_of, b_pairs_of := (fun_mk (st := s_pairs_of) l_pairs_of c_pairs_of k_pairs_of).binds (ps := ["n"]) (fun _ _ _ _ _ _ us hl => match us, hl with | [_], _ => rfl), m_pairs_of := PySem.W.mg_of X G a_pairs_of,
    a_gaps_of := f_gaps_of, d_gaps_of := _, F_gaps_of := fun_mk (st := s_gaps_of) l_gaps_of c_gaps_of k_gaps_of, b_gaps_of := (fun_mk (st := s_gaps_of) l_gaps_of c_gaps_of k_gaps_of).binds (ps := ["table", "mend"]) (fun _ _ _ _ _ _ us hl => match us, hl with | [_, _], _ => rfl), m_gaps_of := PySem.W.mg_of X G a_gaps_of,
    a_check_mend := f_check_mend, d_check_mend := _, F_check_mend := fun_mk (st := s_check_mend) l_check_mend c_check_mend k_check_mend, b_check_mend := (fun_mk (st := s_check_mend) l_check_mend c_check_mend k_check_mend).binds (ps := ["table", "mend"]) (fun _ _ _ _ _ _ us hl => match us, hl with | [_, _], _ => rfl), m_check_mend := PySem.W.mg_of X G a_check_mend,
    a_most_of := f_most_of, d_most_of := _, F_most_of := fun_mk (st := s_most_of) l_most_of c_most_of k_most_of, b_most_of := (fun_mk (st := s_most_of) l_most_of c_most_of k_most_of).binds (ps := ["parts"]) (fun _ _ _ _ _ _ us hl => match us, hl with | [_], _ => rfl), m_most_of := PySem.W.mg_of X G a_most_of,
    a_off_most := f_off_most, d_off_most := _, F_off_most := fun_mk (st := s_off_most) l_off_most c_off_most k_off_most, b_off_most := (fun_mk (st := s_off_most) l_off_most c_off_most k_off_most).binds (ps := ["table", "mend"]) (fun _ _ _ _ _ _ us hl => match us, hl with | [_, _], _ => rfl), m_off_most := PySem.W.mg_of X G a_off_most,
    a_sum_of := f_sum_of, d_sum_of := _, F_sum_of := fun_mk (st := s_sum_of) l_sum_of c_sum_of k_sum_of, b_sum_of := (fun_mk (st := s_sum_of) l_sum_of c_sum_of k_sum_of).binds (ps := ["parts"]) (fun _ _ _ _ _ _ us hl => match us, hl with | [_], _ => rfl), m_sum_of := PySem.W.mg_of X G a_sum_of,
    a_off_sum := f_off_sum, d_off_sum := _, F_off_sum := fun_mk (st := s_off_sum) l_off_sum c_off_sum k_off_sum, b_off_sum := (fun_mk (st := s_off_sum) l_off_sum c_off_sum k_off_sum).binds (ps := ["table", "mend"]) (fun _ _ _ _ _ _ us hl => match us, hl with | [_, _], _ => rfl), m_off_sum := PySem.W.mg_of X G a_off_sum,
    a_off_pairs := f_off_pairs, d_off_pairs := _, F_off_pairs := fun_mk (st := s_off_pairs) l_off_pairs c_off_pairs k_off_pairs, b_off_pairs := (fun_mk (st := s_off_pairs) l_off_pairs c_off_pairs k_off_pairs).binds (ps := ["table", "mend"]) (fun _ _ _ _ _ _ us hl => match us, hl with | [_, _], _ => rfl), m_off_pairs := PySem.W.mg_of X G a_off_pairs,
    a_lack_of := f_lack_of, d_lack_of := _, F_lack_of := fun_mk (st := s_lack_of) l_lack_of c_lack_of k_lack_of, b_lack_of := (fun_mk (st := s_lack_of) l_lack_of c_lack_of k_lack_of).binds (ps := ["table", "row"]) (fun _ _ _ _ _ _ us hl => match us, hl with | [_, _], _ => rfl), m_lack_of := PySem.W.mg_of X G a_lack_of,
    a_worst_way := f_worst_way, d_worst_way := _, F_worst_way := fun_mk (st := s_worst_way) l_worst_way c_worst_way k_worst_way, b_worst_way := (fun_mk (st := s_worst_way) l_worst_way c_worst_way k_worst_way).binds (ps := ["table"]) (fun _ _ _ _ _ _ us hl => match us, hl with | [_], _ => rfl), m_worst_way := PySem.W.mg_of X G a_worst_way,
    a_shortest_shares := f_shortest_shares, d_shortest_shares := _, F_shortest_shares := fun_mk (st := s_shortest_shares) l_shortest_shares c_shortest_shares k_shortest_shares, b_shortest_shares := (fun_mk (st := s_shortest_shares) l_shortest_shares c_shortest_shares k_shortest_shares).binds (ps := ["rows"]) (fun _ _ _ _ _ _ us hl => match us, hl with | [_], _ => rfl), m_shortest_shares := PySem.W.mg_of X G a_shortest_shares,
    a_raised_by := f_raised_by, d_raised_by := _, F_raised_by := fun_mk (st := s_raised_by) l_raised_by c_raised_by k_raised_by, b_raised_by := (fun_mk (st := s_raised_by) l_raised_by c_raised_by k_raised_by).binds (ps := ["table", "t"]) (fun _ _ _ _ _ _ us hl => match us, hl with | [_, _], _ => rfl), m_raised_by := PySem.W.mg_of X G a_raised_by,
    a_nearest_mend := f_nearest_mend, d_nearest_mend := _, F_nearest_mend := fun_mk (st := s_nearest_mend) l_nearest_mend c_nearest_mend k_nearest_mend, b_nearest_mend := (fun_mk (st := s_nearest_mend) l_nearest_mend c_nearest_mend k_nearest_mend).binds (ps := ["table"]) (fun _ _ _ _ _ _ us hl => match us, hl with | [_], _ => rfl), m_nearest_mend := PySem.W.mg_of X G a_nearest_mend,
    a_is_nearest_mend := f_is_nearest_mend, d_is_nearest_mend := _, F_is_nearest_mend := fun_mk (st := s_is_nearest_mend) l_is_nearest_mend c_is_nearest_mend k_is_nearest_mend, b_is_nearest_mend := (fun_mk (st := s_is_nearest_mend) l_is_nearest_mend c_is_nearest_mend k_is_nearest_mend).binds (ps := ["table", "thing"]) (fun _ _ _ _ _ _ us hl => match us, hl with | [_, _], _ => rfl), m_is_nearest_mend := PySem.W.mg_of X G a_is_nearest_mend,
    a_law_hand := f_law_hand, d_law_hand := _, F_law_hand := fun_mk (st := s_law_hand) l_law_hand c_law_hand k_law_hand, b_law_hand := (fun_mk (st := s_law_hand) l_law_hand c_law_hand k_law_hand).binds (ps := ["script"]) (fun _ _ _ _ _ _ us hl => match us, hl with | [_], _ => rfl), m_law_hand := PySem.W.mg_of X G a_law_hand,
    a_law_draw := f_law_draw, d_law_draw := _, F_law_draw := fun_mk (st := s_law_draw) l_law_draw c_law_draw k_law_draw, b_law_draw := (fun_mk (st := s_law_draw) l_law_draw c_law_draw k_law_draw).binds (ps := ["hand", "many"]) (fun _ _ _ _ _ _ us hl => match us, hl with | [_, _], _ => rfl), m_law_draw := PySem.W.mg_of X G a_law_draw,
    a_law_some := f_law_some, d_law_some := _, F_law_some := fun_mk (st := s_law_some) l_law_some c_law_some k_law_some, b_law_some := (fun_mk (st := s_law_some) l_law_some c_law_some k_law_some).binds (ps := ["hand", "things"]) (fun _ _ _ _ _ _ us hl => match us, hl with | [_, _], _ => rfl), m_law_some := PySem.W.mg_of X G a_law_some,
    a_law_table := f_law_table, d_law_table := _, F_law_table := fun_mk (st := s_law_table) l_law_table c_law_table k_law_table, b_law_table := (fun_mk (st := s_law_table) l_law_table c_law_table k_law_table).binds (ps := ["hand", "many", "most"]) (fun _ _ _ _ _ _ us hl => match us, hl with | [_, _, _], _ => rfl), m_law_table := PySem.W.mg_of X G a_law_table,
    a_law_closing := f_law_closing, d_law_closing := _, F_law_closing := fun_mk (st := s_law_closing) l_law_closing c_law_closing k_law_closing, b_law_closing := (fun_mk (st := s_law_closing) l_law_closing c_law_closing k_law_closing).binds (ps := ["table"]) (fun _ _ _ _ _ _ us hl => match us, hl with | [_], _ => rfl), m_law_closing := PySem.W.mg_of X G a_law_closing,
    a_law_low := f_law_low, d_law_low := _, F_law_low := fun_mk (st := s_law_low) l_law_low c_law_low k_law_low, b_law_low := (fun_mk (st := s_law_low) l_law_low c_law_low k_law_low).binds (ps := ["top", "bottom"]) (fun _ _ _ _ _ _ us hl => match us, hl with | [_, _], _ => rfl), m_law_low := PySem.W.mg_of X G a_law_low,
    a_law_plus := f_law_plus, d_law_plus := _, F_law_plus := fun_mk (st := s_law_plus) l_law_plus c_law_plus k_law_plus, b_law_plus := (fun_mk (st := s_law_plus) l_law_plus c_law_plus k_law_plus).binds (ps := ["one", "other"]) (fun _ _ _ _ _ _ us hl => match us, hl with | [_, _], _ => rfl), m_law_plus := PySem.W.mg_of X G a_law_plus,
    a_law_sum := f_law_sum, d_law_sum := _, F_law_sum := fun_mk (st := s_law_sum) l_law_sum c_law_sum k_law_sum, b_law_sum := (fun_mk (st := s_law_sum) l_law_sum c_law_sum k_law_sum).binds (ps := ["parts"]) (fun _ _ _ _ _ _ us hl => match us, hl with | [_], _ => rfl), m_law_sum := PySem.W.mg_of X G a_law_sum,
    a_law_deep := f_law_deep, d_law_deep := _, F_law_deep := fun_mk (st := s_law_deep) l_law_deep c_law_deep k_law_deep, b_law_deep := (fun_mk (st := s_law_deep) l_law_deep c_law_deep k_law_deep).binds (ps := ["hand"]) (fun _ _ _ _ _ _ us hl => match us, hl with | [_], _ => rfl), m_law_deep := PySem.W.mg_of X G a_law_deep,
    a_law_odd := f_law_odd, d_law_odd := _, F_law_odd := fun_mk (st := s_law_odd) l_law_odd c_law_odd k_law_odd, b_law_odd := (fun_mk (st := s_law_odd) l_law_odd c_law_odd k_law_odd).binds (ps := ["hand"]) (fun _ _ _ _ _ _ us hl => match us, hl with | [_], _ => rfl), m_law_odd := PySem.W.mg_of X G a_law_odd,
    a_law_is := f_law_is, d_law_is := _, F_law_is := fun_mk (st := s_law_is) l_law_is c_law_is k_law_is, b_law_is := (fun_mk (st := s_law_is) l_law_is c_law_is k_law_is).binds (ps := ["told", "due"]) (fun _ _ _ _ _ _ us hl => match us, hl with | [_, _], _ => rfl), m_law_is := PySem.W.mg_of X G a_law_is,
    a_law_less := f_law_less, d_law_less := _, F_law_less := fun_mk (st := s_law_less) l_law_less c_law_less k_law_less, b_law_less := (fun_mk (st := s_law_less) l_law_less c_law_less k_law_less).binds (ps := ["one", "other"]) (fun _ _ _ _ _ _ us hl => match us, hl with | [_, _], _ => rfl), m_law_less := PySem.W.mg_of X G a_law_less,
    a_law_is_number := f_law_is_number, d_law_is_number := _, F_law_is_number := fun_mk (st := s_law_is_number) l_law_is_number c_law_is_number k_law_is_number, b_law_is_number := (fun_mk (st := s_law_is_number) l_law_is_number c_law_is_number k_law_is_number).binds (ps := ["thing"]) (fun _ _ _ _ _ _ us hl => match us, hl with | [_], _ => rfl), m_law_is_number := PySem.W.mg_of X G a_law_is_number,
    a_law_is_part := f_law_is_part, d_law_is_part := _, F_law_is_part := fun_mk (st := s_law_is_part) l_law_is_part c_law_is_part k_law_is_part, b_law_is_part := (fun_mk (st := s_law_is_part) l_law_is_part c_law_is_part k_law_is_part).binds (ps := ["thing"]) (fun _ _ _ _ _ _ us hl => match us, hl with | [_], _ => rfl), m_law_is_part := PySem.W.mg_of X G a_law_is_part,
    a_law_is_mend := f_law_is_mend, d_law_is_mend := _, F_law_is_mend := fun_mk (st := s_law_is_mend) l_law_is_mend c_law_is_mend k_law_is_mend, b_law_is_mend := (fun_mk (st := s_law_is_mend) l_law_is_mend c_law_is_mend k_law_is_mend).binds (ps := ["many", "thing"]) (fun _ _ _ _ _ _ us hl => match us, hl with | [_, _], _ => rfl), m_law_is_mend := PySem.W.mg_of X G a_law_is_mend,
    a_law_minus := f_law_minus, d_law_minus := _, F_law_minus := fun_mk (st := s_law_minus) l_law_minus c_law_minus k_law_minus, b_law_minus := (fun_mk (st := s_law_minus) l_law_minus c_law_minus k_law_minus).binds (ps := ["one", "other"]) (fun _ _ _ _ _ _ us hl => match us, hl with | [_, _], _ => rfl), m_law_minus := PySem.W.mg_of X G a_law_minus,
    a_law_offs := f_law_offs, d_law_offs := _, F_law_offs := fun_mk (st := s_law_offs) l_law_offs c_law_offs k_law_offs, b_law_offs := (fun_mk (st := s_law_offs) l_law_offs c_law_offs k_law_offs).binds (ps := ["table", "mend"]) (fun _ _ _ _ _ _ us hl => match us, hl with | [_, _], _ => rfl), m_law_offs := PySem.W.mg_of X G a_law_offs,
    a_law_most := f_law_most, d_law_most := _, F_law_most := fun_mk (st := s_law_most) l_law_most c_law_most k_law_most, b_law_most := (fun_mk (st := s_law_most) l_law_most c_law_most k_law_most).binds (ps := ["parts"]) (fun _ _ _ _ _ _ us hl => match us, hl with | [_], _ => rfl), m_law_most := PySem.W.mg_of X G a_law_most,
    a_law_ask := f_law_ask, d_law_ask := _, F_law_ask := fun_mk (st := s_law_ask) l_law_ask c_law_ask k_law_ask, b_law_ask := (fun_mk (st := s_law_ask) l_law_ask c_law_ask k_law_ask).binds (ps := ["table", "way"]) (fun _ _ _ _ _ _ us hl => match us, hl with | [_, _], _ => rfl), m_law_ask := PySem.W.mg_of X G a_law_ask,
    a_law_ways := f_law_ways, d_law_ways := _, F_law_ways := fun_mk (st := s_law_ways) l_law_ways c_law_ways k_law_ways, b_law_ways := (fun_mk (st := s_law_ways) l_law_ways c_law_ways k_law_ways).binds (ps := ["many"]) (fun _ _ _ _ _ _ us hl => match us, hl with | [_], _ => rfl), m_law_ways := PySem.W.mg_of X G a_law_ways,
    a_law_is_right := f_law_is_right, d_law_is_right := _, F_law_is_right := fun_mk (st := s_law_is_right) l_law_is_right c_law_is_right k_law_is_right, b_law_is_right := (fun_mk (st := s_law_is_right) l_law_is_right c_law_is_right k_law_is_right).binds (ps := ["table", "due", "thing"]) (fun _ _ _ _ _ _ us hl => match us, hl with | [_, _, _], _ => rfl), m_law_is_right := PySem.W.mg_of X G a_law_is_right,
    a_law := fa, d_law := _, F_law := fun_mk (st := s_law) l_law c_law k_law, b_law := (fun_mk (st := s_law) l_law c_law k_law).binds (ps := ["script"]) (fun _ _ _ _ _ _ us hl => match us, hl with | [_], _ => rfl), m_law := PySem.W.mg_of X G a_law,
    z_abs := PySem.W.mg_none_of X G z_abs,
    z_all := PySem.W.mg_none_of X G z_all,
    z_any := PySem.W.mg_none_of X G z_any,
    z_bool := PySem.W.mg_none_of X G z_bool,
    z_dict := PySem.W.mg_none_of X G z_dict,
    z_enumerate := PySem.W.mg_none_of X G z_enumerate,
    z_int := PySem.W.mg_none_of X G z_int,
    z_isinstance := PySem.W.mg_none_of X G z_isinstance,
    z_len := PySem.W.mg_none_of X G z_len,
    z_list := PySem.W.mg_none_of X G z_list,
    z_min := PySem.W.mg_none_of X G z_min,
    z_range := PySem.W.mg_none_of X G z_range,
    z_str := PySem.W.mg_none_of X G z_str,
    z_sum := PySem.W.mg_none_of X G z_sum,
    z_tuple := PySem.W.mg_none_of X G z_tuple,
    z_zip := PySem.W.mg_none_of X G z_zip,
    c_MOST_FAR := ⟨tk_MOST_FAR, PySem.W.mg_of X G c_MOST_FAR⟩,
    c_MOST_PLACES := ⟨tk_MOST_PLACES, PySem.W.mg_of X G c_MOST_PLACES⟩,
    c_ZERO := ⟨q_ZERO, PySem.W.mg_of X G c_ZERO, _, _, _, l_ZERO, rfl, rfl, rfl, Nat.le_of_ble_eq_true rfl, (.cons ⟨tk_ZERO_0, rfl⟩ (.cons ⟨tk_ZERO_1, rfl⟩ .nil))⟩ }
  refine ⟨t.d_law, fun s v => .of_eq rfl, fun base _ _ => (ok_law (T := []) t).imp fun vs H Q E h => ?_⟩
  exact law_spD law_plain h
end Lw87
open PySem PySem.W PyProof.Rows
set_option maxHeartbeats 0 in
theorem PySem.Challenge.cw_farhouse_k87_whole_nearest_mends_holds : PySem.Challenge.rw_farhouse_k87_whole_nearest_mends.Holds := by
  w_on; o_law; k_head; (case hw => w_witness2)
  k_fill
  refine PD.walk_ofD (l := PySem.Challenge.rw_farhouse_k87_whole_nearest_mends) (k := 7) (x := "script") rfl rfl ⟨rfl, by decide, by decide⟩ (fun w h Y => PySem.W.kIn_of Y) ?F
  case F =>
    intro w mg fa h KX G hmg
    refine' Lw87.all_mk KX G hmg ?a_is_integer ?l_is_integer ?c_is_integer ?k_is_integer ?a_is_within ?l_is_within ?c_is_within ?k_is_within ?a_is_sized ?l_is_sized ?c_is_sized ?k_is_sized ?a_is_table ?l_is_table ?c_is_table ?k_is_table ?a_check_table ?l_check_table ?c_check_table ?k_check_table ?a_common ?l_common ?c_common ?k_common ?a_is_share ?l_is_share ?c_is_share ?k_is_share ?a_share ?l_share ?c_share ?k_share ?a_plus ?l_plus ?c_plus ?k_plus ?a_is_less ?l_is_less ?c_is_less ?k_is_less ?a_is_mend_of ?l_is_mend_of ?c_is_mend_of ?k_is_mend_of ?a_is_mend ?l_is_mend ?c_is_mend ?k_is_mend ?a_minus ?l_minus ?c_minus ?k_minus ?a_pairs_of ?l_pairs_of ?c_pairs_of ?k_pairs_of ?a_gaps_of ?l_gaps_of ?c_gaps_of ?k_gaps_of ?a_check_mend ?l_check_mend ?c_check_mend ?k_check_mend ?a_most_of ?l_most_of ?c_most_of ?k_most_of ?a_off_most ?l_off_most ?c_off_most ?k_off_most ?a_sum_of ?l_sum_of ?c_sum_of ?k_sum_of ?a_off_sum ?l_off_sum ?c_off_sum ?k_off_sum ?a_off_pairs ?l_off_pairs ?c_off_pairs ?k_off_pairs ?a_lack_of ?l_lack_of ?c_lack_of ?k_lack_of ?a_worst_way ?l_worst_way ?c_worst_way ?k_worst_way ?a_shortest_shares ?l_shortest_shares ?c_shortest_shares ?k_shortest_shares ?a_raised_by ?l_raised_by ?c_raised_by ?k_raised_by ?a_nearest_mend ?l_nearest_mend ?c_nearest_mend ?k_nearest_mend ?a_is_nearest_mend ?l_is_nearest_mend ?c_is_nearest_mend ?k_is_nearest_mend ?a_law_hand ?l_law_hand ?c_law_hand ?k_law_hand ?a_law_draw ?l_law_draw ?c_law_draw ?k_law_draw ?a_law_some ?l_law_some ?c_law_some ?k_law_some ?a_law_table ?l_law_table ?c_law_table ?k_law_table ?a_law_closing ?l_law_closing ?c_law_closing ?k_law_closing ?a_law_low ?l_law_low ?c_law_low ?k_law_low ?a_law_plus ?l_law_plus ?c_law_plus ?k_law_plus ?a_law_sum ?l_law_sum ?c_law_sum ?k_law_sum ?a_law_deep ?l_law_deep ?c_law_deep ?k_law_deep ?a_law_odd ?l_law_odd ?c_law_odd ?k_law_odd ?a_law_is ?l_law_is ?c_law_is ?k_law_is ?a_law_less ?l_law_less ?c_law_less ?k_law_less ?a_law_is_number ?l_law_is_number ?c_law_is_number ?k_law_is_number ?a_law_is_part ?l_law_is_part ?c_law_is_part ?k_law_is_part ?a_law_is_mend ?l_law_is_mend ?c_law_is_mend ?k_law_is_mend ?a_law_minus ?l_law_minus ?c_law_minus ?k_law_minus ?a_law_offs ?l_law_offs ?c_law_offs ?k_law_offs ?a_law_most ?l_law_most ?c_law_most ?k_law_most ?a_law_ask ?l_law_ask ?c_law_ask ?k_law_ask ?a_law_ways ?l_law_ways ?c_law_ways ?k_law_ways ?a_law_is_right ?l_law_is_right ?c_law_is_right ?k_law_is_right ?a_law ?l_law ?c_law ?k_law ?z_abs ?z_all ?z_any ?z_bool ?z_dict ?z_enumerate ?z_int ?z_isinstance ?z_len ?z_list ?z_min ?z_range ?z_str ?z_sum ?z_tuple ?z_zip ?c_MOST_FAR ?c_MOST_PLACES ?c_ZERO ?l_ZERO
    (case a_is_integer => k_is)
    (case l_is_integer => k_is)
    (case c_is_integer => k_is)
    (case k_is_integer => k_is)
    (case a_is_within => k_is)
    (case l_is_within => k_is)
    (case c_is_within => k_is)
    (case k_is_within => k_is)
    (case a_is_sized => k_is)
    (case l_is_sized => k_is)
    (case c_is_sized => k_is)
    (case k_is_sized => k_is)
    (case a_is_table => k_is)
    (case l_is_table => k_is)
    (case c_is_table => k_is)
    (case k_is_table => k_is)
    (case a_check_table => k_is)
    (case l_check_table => k_is)
    (case c_check_table => k_is)
    (case k_check_table => k_is)
    (case a_common => k_is)
    (case l_common => k_is)
    (case c_common => k_is)
    (case k_common => k_is)
    (case a_is_share => k_is)
    (case l_is_share => k_is)
    (case c_is_share => k_is)
    (case k_is_share => k_is)
    (case a_share => k_is)
    (case l_share => k_is)
    (case c_share => k_is)
    (case k_share => k_is)
    (case a_plus => k_is)
    (case l_plus => k_is)
    (case c_plus => k_is)
    (case k_plus => k_is)
    (case a_is_less => k_is)
    (case l_is_less => k_is)
    (case c_is_less => k_is)
    (case k_is_less => k_is)
    (case a_is_mend_of => k_is)
    (case l_is_mend_of => k_is)
    (case c_is_mend_of => k_is)
    (case k_is_mend_of => k_is)
    (case a_is_mend => k_is)
    (case l_is_mend => k_is)
    (case c_is_mend => k_is)
    (case k_is_mend => k_is)
    (case a_minus => k_is)
    (case l_minus => k_is)
    (case c_minus => k_is)
    (case k_minus => k_is)
    (case a_pairs_of => k_is)
    (case l_pairs_of => k_is)
    (case c_pairs_of => k_is)
    (case k_pairs_of => k_is)
    (case a_gaps_of => k_is)
    (case l_gaps_of => k_is)
    (case c_gaps_of => k_is)
    (case k_gaps_of => k_is)
    (case a_check_mend => k_is)
    (case l_check_mend => k_is)
    (case c_check_mend => k_is)
    (case k_check_mend => k_is)
    (case a_most_of => k_is)
    (case l_most_of => k_is)
    (case c_most_of => k_is)
    (case k_most_of => k_is)
    (case a_off_most => k_is)
    (case l_off_most => k_is)
    (case c_off_most => k_is)
    (case k_off_most => k_is)
    (case a_sum_of => k_is)
    (case l_sum_of => k_is)
    (case c_sum_of => k_is)
    (case k_sum_of => k_is)
    (case a_off_sum => k_is)
    (case l_off_sum => k_is)
    (case c_off_sum => k_is)
    (case k_off_sum => k_is)
    (case a_off_pairs => k_is)
    (case l_off_pairs => k_is)
    (case c_off_pairs => k_is)
    (case k_off_pairs => k_is)
    (case a_lack_of => k_is)
    (case l_lack_of => k_is)
    (case c_lack_of => k_is)
    (case k_lack_of => k_is)
    (case a_worst_way => k_is)
    (case l_worst_way => k_is)
    (case c_worst_way => k_is)
    (case k_worst_way => k_is)
    (case a_shortest_shares => k_is)
    (case l_shortest_shares => k_is)
    (case c_shortest_shares => k_is)
    (case k_shortest_shares => k_is)
    (case a_raised_by => k_is)
    (case l_raised_by => k_is)
    (case c_raised_by => k_is)
    (case k_raised_by => k_is)
    (case a_nearest_mend => k_is)
    (case l_nearest_mend => k_is)
    (case c_nearest_mend => k_is)
    (case k_nearest_mend => k_is)
    (case a_is_nearest_mend => k_is)
    (case l_is_nearest_mend => k_is)
    (case c_is_nearest_mend => k_is)
    (case k_is_nearest_mend => k_is)
    (case a_law_hand => k_is)
    (case l_law_hand => k_is)
    (case c_law_hand => k_is)
    (case k_law_hand => k_is)
    (case a_law_draw => k_is)
    (case l_law_draw => k_is)
    (case c_law_draw => k_is)
    (case k_law_draw => k_is)
    (case a_law_some => k_is)
    (case l_law_some => k_is)
    (case c_law_some => k_is)
    (case k_law_some => k_is)
    (case a_law_table => k_is)
    (case l_law_table => k_is)
    (case c_law_table => k_is)
    (case k_law_table => k_is)
    (case a_law_closing => k_is)
    (case l_law_closing => k_is)
    (case c_law_closing => k_is)
    (case k_law_closing => k_is)
    (case a_law_low => k_is)
    (case l_law_low => k_is)
    (case c_law_low => k_is)
    (case k_law_low => k_is)
    (case a_law_plus => k_is)
    (case l_law_plus => k_is)
    (case c_law_plus => k_is)
    (case k_law_plus => k_is)
    (case a_law_sum => k_is)
    (case l_law_sum => k_is)
    (case c_law_sum => k_is)
    (case k_law_sum => k_is)
    (case a_law_deep => k_is)
    (case l_law_deep => k_is)
    (case c_law_deep => k_is)
    (case k_law_deep => k_is)
    (case a_law_odd => k_is)
    (case l_law_odd => k_is)
    (case c_law_odd => k_is)
    (case k_law_odd => k_is)
    (case a_law_is => k_is)
    (case l_law_is => k_is)
    (case c_law_is => k_is)
    (case k_law_is => k_is)
    (case a_law_less => k_is)
    (case l_law_less => k_is)
    (case c_law_less => k_is)
    (case k_law_less => k_is)
    (case a_law_is_number => k_is)
    (case l_law_is_number => k_is)
    (case c_law_is_number => k_is)
    (case k_law_is_number => k_is)
    (case a_law_is_part => k_is)
    (case l_law_is_part => k_is)
    (case c_law_is_part => k_is)
    (case k_law_is_part => k_is)
    (case a_law_is_mend => k_is)
    (case l_law_is_mend => k_is)
    (case c_law_is_mend => k_is)
    (case k_law_is_mend => k_is)
    (case a_law_minus => k_is)
    (case l_law_minus => k_is)
    (case c_law_minus => k_is)
    (case k_law_minus => k_is)
    (case a_law_offs => k_is)
    (case l_law_offs => k_is)
    (case c_law_offs => k_is)
    (case k_law_offs => k_is)
    (case a_law_most => k_is)
    (case l_law_most => k_is)
    (case c_law_most => k_is)
    (case k_law_most => k_is)
    (case a_law_ask => k_is)
    (case l_law_ask => k_is)
    (case c_law_ask => k_is)
    (case k_law_ask => k_is)
    (case a_law_ways => k_is)
    (case l_law_ways => k_is)
    (case c_law_ways => k_is)
    (case k_law_ways => k_is)
    (case a_law_is_right => k_is)
    (case l_law_is_right => k_is)
    (case c_law_is_right => k_is)
    (case k_law_is_right => k_is)
    (case a_law => k_is)
    (case l_law => k_is)
    (case c_law => k_is)
    (case k_law => k_is)
    (case z_abs => k_is)
    (case z_all => k_is)
    (case z_any => k_is)
    (case z_bool => k_is)
    (case z_dict => k_is)
    (case z_enumerate => k_is)
    (case z_int => k_is)
    (case z_isinstance => k_is)
    (case z_len => k_is)
    (case z_list => k_is)
    (case z_min => k_is)
    (case z_range => k_is)
    (case z_str => k_is)
    (case z_sum => k_is)
    (case z_tuple => k_is)
    (case z_zip => k_is)
    (case c_MOST_FAR => k_is)
    (case c_MOST_PLACES => k_is)
    (case c_ZERO => k_is)
    (case l_ZERO => k_is)

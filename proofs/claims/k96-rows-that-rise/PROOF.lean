import PyProof.Rows.All
import Wide.All
import OpenK.AllK
import Wide.FinOn
import PySem.Challenge.RW_farhouse_k96_whole_rows_that_nearly_rise
import HandS.ForMost
import HandS.ForExc
import HandS.ExcOwn
import HandS.Lambda
import HandS.TupAny
import HandS.TupMul
import HandS.Zip
import HandS.Deep
import HandS.IsInst
import HandS.Walk
import HandS.Conv
import HandS.Style
import HandS.Sort
import KE.GoesEnum
import HandS.SortInts
import HandS.TupLe
import HandS.WordsDict
import HandS.ExcIs
import HandS.ExcField
import HandS.SetFor
import HandS.ExcInit
import KE.DataMinMax
import KE.SortData
import HandS.Flow
import HandS.WideBits
import HandS.CallLocal
import HandS.Ends
import HandS.EndOwn
import HandS.NestedK
import PyProof.ReprRoads
import HandS.RaiseMore
import HandS.EndTab
import HandS.Flt
import HandS.TryOnly
import HandS.Words
set_option Elab.async false
set_option linter.all false
set_option maxRecDepth 100000
set_option maxHeartbeats 3900000
/-! PDSem: data by value (D), a store of what may change (Sto), and what each piece of Python does with them, as plain functions. -/
namespace PD
open PySem PySem.Spec PyProof.Rows L2

inductive D where
  | non | bl (b : Bool) | int (i : Int) | str (x : Str)
  | tup (xs : List D) | lst (xs : List D)
  /-- a pair that zip or enumerate made -/
  | tpl (xs : List D)
  /-- a list that is only read: the script, a list of the top -/
  | fz (xs : List D)
  | ref (l : Nat)
  | dk (ks : List Key) (xs : List D)
  | raw (v : V)
  /-- a def of the module, by its name -/
  | fn (x : Str)
  /-- a caught exception that has fields: at a, its dict at dd -/
  | xc (a dd : Addr) (ks : List Str) (xs : List D)

/-- what stands in the store -/
inductive MO where
  | lst (xs : List D) | dk (ks : List Key) (xs : List D) | gone

abbrev Sto := List MO
abbrev Ev := List (Option D)

inductive Out (α : Type) where
  | ok (a : α) (st : Sto) | exc (n : Str) (fs : List (Str × D)) (st : Sto) | bad

def Out.bind {α β : Type} (o : Out α) (f : α → Sto → Out β) : Out β := match o with
  | .ok a st => f a st | .exc n fs st => .exc n fs st | .bad => .bad
@[simp] theorem bind_ok {α β : Type} (a : α) (st : Sto) (f : α → Sto → Out β) : (Out.ok a st).bind f = f a st := id rfl
@[simp] theorem bind_bad {α β : Type} (f : α → Sto → Out β) : (Out.bad).bind f = .bad := id rfl
@[simp] theorem bind_exc {α β : Type} (n : Str) (fs : List (Str × D)) (st : Sto) (f : α → Sto → Out β) : (Out.exc n fs st).bind f = .exc n fs st := id rfl

abbrev SE := Ev → Sto → Out D
abbrev ST := Ev → Sto → Out Bool
abbrev SA := Ev → Sto → Out (List D)
/-- what is walked: the items, and the list of the store that is walked (inl) or enumerated (inr), if they may change -/
abbrev Dy := Option (Nat ⊕ Nat)
abbrev SI := Ev → Sto → Out (List D × Dy)
abbrev TgD := D → Ev → Option Ev

inductive Fl where
  | nx (ρ : Ev) | rt (d : D) | bk (ρ : Ev) | ct (ρ : Ev) | ex (n : Str) (fs : List (Str × D)) (ρ : Ev)
abbrev SS := Ev → Sto → Option (Fl × Sto)

/-! ### looking -/
/-- the items of a list or tuple -/
def items (st : Sto) : D → Option (List D)
  | .tup xs => some xs
  | .lst xs => some xs
  | .fz xs => some xs
  | .ref l => match st[l]? with | some (.lst xs) => some xs | _ => none
  | _ => none
/-- a list's items -/
def litems (st : Sto) : D → Option (List D)
  | .lst xs => some xs
  | .ref l => match st[l]? with | some (.lst xs) => some xs | _ => none
  | _ => none
def allSome {α : Type} : List (Option α) → Option (List α)
  | [] => some []
  | some x :: r => (allSome r).map (x :: ·)
  | none :: _ => none
def atomPy : D → Option PyData
  | .non => some .none
  | .bl b => some (.bool b)
  | .int i => some (.int i)
  | .str x => if PyData.canLay0 (.str x) then some (.str x) else none
  | _ => none
/-- a thing as plain data -/
def toPy (st : Sto) : Nat → D → Option PyData
  | 0, d => atomPy d
  | n + 1, d => match d with
    | .tup xs => (allSome (xs.map (toPy st n))).map .tuple
    | .lst xs => (allSome (xs.map (toPy st n))).map .list
    | .ref l => match st[l]? with | some (.lst xs) => (allSome (xs.map (toPy st n))).map .list | _ => none
    | d => atomPy d
def toPys (st : Sto) (n : Nat) (xs : List D) : Option (List PyData) := allSome (xs.map (toPy st n))
/-- one item of a sequence, by an index that may count from the end -/
def ixD (n : Nat) (i : Int) : Option Nat := if 0 ≤ i then (if i < n then some i.toNat else none) else if 0 ≤ i + n then some (i + n).toNat else none

/-- a new list: by value (nobody changes it), or laid into the store (m) -/
def newL (m : Bool) (xs : List D) (st : Sto) : Out D := if m = true then .ok (.ref st.length) (st ++ [.lst xs]) else .ok (.lst xs) st
@[simp] theorem newL_f (xs : List D) (st : Sto) : newL false xs st = .ok (.lst xs) st := id rfl
@[simp] theorem newL_t (xs : List D) (st : Sto) : newL true xs st = .ok (.ref st.length) (st ++ [.lst xs]) := id rfl
/-- no exception comes out of a comprehension -/
def Out.nx {α : Type} : Out α → Out α
  | .exc _ _ _ => .bad
  | o => o
@[simp] theorem nx_ok {α : Type} (a : α) (st : Sto) : (Out.ok a st).nx = .ok a st := id rfl
@[simp] theorem nx_bad {α : Type} : (Out.bad : Out α).nx = .bad := id rfl
@[simp] theorem nx_exc {α : Type} (n : Str) (fs : List (Str × D)) (st : Sto) : (Out.exc n fs st : Out α).nx = .bad := id rfl

/-! ### expressions -/
def sVar (i : Nat) : SE := fun ρ st => match ρ[i]? with | some (some d) => .ok d st | _ => .bad
def sC (d : D) : SE := fun _ st => .ok d st
def s2 (f : D → D → Sto → Out D) (a b : SE) : SE := fun ρ st => (a ρ st).bind fun x st => (b ρ st).bind fun y st => f x y st
def s1 (f : D → Sto → Out D) (a : SE) : SE := fun ρ st => (a ρ st).bind fun x st => f x st
def small (i : Int) : Bool := decide (-(2 ^ 64) < i) && decide (i < 2 ^ 64)
def fAdd (x y : D) (st : Sto) : Out D := match x, y with
  | .int i, .int j => .ok (.int (i + j)) st
  | .str x, .str y => if x.length + y.length ≤ sizeLine then .ok (.str (x ++ y)) st else .bad
  | .tup xs, .tup ys => if xs.length + ys.length ≤ sizeLine then .ok (.tup (xs ++ ys)) st else .bad
  | x, y => match litems st x, litems st y with
    | some xs, some ys => if xs.length + ys.length ≤ sizeLine then .ok (.lst (xs ++ ys)) st else .bad
    | _, _ => .bad
def fSub (x y : D) (st : Sto) : Out D := match x, y with
  | .int i, .int j => .ok (.int (i - j)) st
  | _, _ => .bad
def fMul (x y : D) (st : Sto) : Out D := match x, y with
  | .int i, .int j => if small i || small j then .ok (.int (i * j)) st else .bad
  | _, _ => .bad
def fDiv (x y : D) (st : Sto) : Out D := match x, y with
  | .int i, .int j => if 0 < j ∧ j < 1073741824 then .ok (.int (i / j)) st else .bad
  | _, _ => .bad
def fMod (x y : D) (st : Sto) : Out D := match x, y with
  | .int i, .int j => if 0 < j then .ok (.int (i % j)) st else .bad
  | _, _ => .bad
def fPow (x y : D) (st : Sto) : Out D := match x, y with
  | .int i, .int j => if 0 ≤ j ∧ j ≤ 1000000 ∧ i.natAbs ≤ 1000000 then .ok (.int (i ^ j.toNat)) st else .bad
  | _, _ => .bad
def fNeg (x : D) (st : Sto) : Out D := match x with
  | .int i => .ok (.int (-i)) st
  | _ => .bad
/-- [..] * n, the list new -/
def repL (xs : List D) (k : Nat) : List D := (List.replicate k xs).flatten
def fRep (m : Bool) (x y : D) (st : Sto) : Out D := match litems st x, y with
  | some xs, .int k => if -1000000 ≤ k ∧ k ≤ 1000000 ∧ xs.length * k.toNat ≤ sizeLine then newL m (repL xs k.toNat) st else .bad
  | _, _ => .bad
def fCmp (p : Int → Int → Bool) (x y : D) (st : Sto) : Out D := match x, y with
  | .int i, .int j => .ok (.bl (p i j)) st
  | _, _ => .bad
def fLt := fCmp fun i j => decide (i < j)
def fLe := fCmp fun i j => decide (i ≤ j)
def fGt := fCmp fun i j => decide (j < i)
def fGe := fCmp fun i j => decide (j ≤ i)
def fEq (x y : D) (st : Sto) : Out D := match toPy st 60 x, toPy st 60 y with
  | some p, some q => .ok (.bl (PyData.eqv p q)) st
  | _, _ => .bad
def fNe (x y : D) (st : Sto) : Out D := match toPy st 60 x, toPy st 60 y with
  | some p, some q => .ok (.bl (!PyData.eqv p q)) st
  | _, _ => .bad
def isNonD : D → Bool
  | .non => true
  | _ => false
def rawD : D → Bool
  | .raw _ => true
  | .xc _ _ _ _ => true
  | _ => false
def fIsN (x : D) (st : Sto) : Out D := if rawD x then .bad else .ok (.bl (isNonD x)) st
def fNotN (x : D) (st : Sto) : Out D := if rawD x then .bad else .ok (.bl (!isNonD x)) st
def fIsB (b : Bool) (x : D) (st : Sto) : Out D := match x with
  | .bl c => .ok (.bl (decide (c = b))) st
  | _ => .bad
def flatD : D → Bool
  | .non => true | .bl _ => true | .int _ => true | .str _ => true
  | _ => false
def inPy (p : PyData) (ps : List PyData) : Bool := ps.any fun z => PyData.eqv z p
/-- x in ys (flat things in a list or tuple; data in a list) -/
def fIn0 (x y : D) (st : Sto) : Out Bool := match toPy st 60 x with
  | some p => (match y with
    | .tup ys => if flatD x && ys.all flatD then (match toPys st 59 ys with | some ps => .ok (inPy p ps) st | none => .bad) else .bad
    | y => match litems st y with
      | some ys => (match toPys st 59 ys with | some ps => .ok (inPy p ps) st | none => .bad)
      | none => .bad)
  | none => .bad
def fIn (x y : D) (st : Sto) : Out D := (fIn0 x y st).bind fun b st => .ok (.bl b) st
def fNotIn (x y : D) (st : Sto) : Out D := (fIn0 x y st).bind fun b st => .ok (.bl (!b)) st
/-- a value's truth -/
def truD (st : Sto) : D → Option Bool
  | .non => some false
  | .bl b => some b
  | .int i => some (i != 0)
  | .tup xs => some (!xs.isEmpty)
  | .lst xs => some (!xs.isEmpty)
  | .ref l => match st[l]? with | some (.lst xs) => some (!xs.isEmpty) | _ => none
  | _ => none
/-! tests -/
def tTru (e : SE) : ST := fun ρ st => (e ρ st).bind fun d st => match truD st d with | some b => .ok b st | none => .bad
/-- a comparison as a test -/
def tBl (e : SE) : ST := fun ρ st => (e ρ st).bind fun d st => match d with | .bl b => .ok b st | _ => .bad
def tAndD (a b : ST) : ST := fun ρ st => (a ρ st).bind fun c st => if c = true then b ρ st else .ok false st
def tOrD (a b : ST) : ST := fun ρ st => (a ρ st).bind fun c st => if c = true then .ok true st else b ρ st
def tNotD (a : ST) : ST := fun ρ st => (a ρ st).bind fun c st => .ok (!c) st
/-! .. as values -/
def sAnd (a b : SE) : SE := fun ρ st => (a ρ st).bind fun x st => match x with
  | .bl c => if c = true then b ρ st else .ok (.bl false) st
  | _ => .bad
def sOr (a b : SE) : SE := fun ρ st => (a ρ st).bind fun x st => match x with
  | .bl c => if c = true then .ok (.bl true) st else b ρ st
  | _ => .bad
def sNot (a : ST) : SE := fun ρ st => (a ρ st).bind fun c st => .ok (.bl (!c)) st
def sIf (t : ST) (a b : SE) : SE := fun ρ st => (t ρ st).bind fun c st => if c = true then a ρ st else b ρ st
/-- a op b op' c, of comparisons -/
def sChain (f g : D → D → Sto → Out D) (a b c : SE) : SE := fun ρ st => (a ρ st).bind fun x st => (b ρ st).bind fun y st => (f x y st).bind fun z st => match z with
  | .bl k => if k = true then (c ρ st).bind fun w st => g y w st else .ok (.bl false) st
  | _ => .bad
/-! arguments, displays -/
def aNil : SA := fun _ st => .ok [] st
def aCons (e : SE) (r : SA) : SA := fun ρ st => (e ρ st).bind fun x st => (r ρ st).bind fun xs st => .ok (x :: xs) st
def sTup (a : SA) : SE := fun ρ st => (a ρ st).bind fun xs st => if xs.length ≤ sizeLine then .ok (.tup xs) st else .bad
def sLst (m : Bool) (a : SA) : SE := fun ρ st => (a ρ st).bind fun xs st => if xs.length ≤ sizeLine then newL m xs st else .bad
def sDict0 : SE := fun _ st => .ok (.dk [] []) st
/-! calls -/
def sCall (n : Nat) (F : List D → Sto → Out D) (a : SA) : SE := fun ρ st => (a ρ st).bind fun xs st => if xs.length = n then F xs st else .bad
def sB (F : List D → Sto → Out D) (a : SA) : SE := fun ρ st => (a ρ st).bind fun xs st => F xs st
def bLen (xs : List D) (st : Sto) : Out D := match xs with
  | [x] => (match items st x with | some ys => .ok (.int ys.length) st | none => .bad)
  | _ => .bad
def bAbs (xs : List D) (st : Sto) : Out D := match xs with
  | [.int i] => .ok (.int (if i < 0 then -i else i)) st
  | _ => .bad
def bMin2 (xs : List D) (st : Sto) : Out D := match xs with
  | [.int i, .int j] => .ok (.int (if j < i then j else i)) st
  | _ => .bad
def bMax2 (xs : List D) (st : Sto) : Out D := match xs with
  | [.int i, .int j] => .ok (.int (if j > i then j else i)) st
  | _ => .bad
def bInt (xs : List D) (st : Sto) : Out D := match xs with
  | [.int i] => .ok (.int i) st
  | [.bl k] => .ok (.int (if k then 1 else 0)) st
  | _ => .bad
def bTuple (xs : List D) (st : Sto) : Out D := match xs with
  | [x] => (match items st x with | some ys => .ok (.tup ys) st | none => .bad)
  | _ => .bad
def bList (m : Bool) (xs : List D) (st : Sto) : Out D := match xs with
  | [x] => (match items st x with | some ys => newL m ys st | none => .bad)
  | _ => .bad
def allBl : List D → Option (List Bool)
  | [] => some []
  | .bl b :: r => (allBl r).map (b :: ·)
  | _ => none
def allInt : List D → Option (List Int)
  | [] => some []
  | .int b :: r => (allInt r).map (b :: ·)
  | _ => none
def bAll (xs : List D) (st : Sto) : Out D := match xs with
  | [x] => (match (litems st x).bind allBl with | some bs => .ok (.bl (bs.all id)) st | none => .bad)
  | _ => .bad
def bAny (xs : List D) (st : Sto) : Out D := match xs with
  | [x] => (match (litems st x).bind allBl with | some bs => .ok (.bl (bs.any id)) st | none => .bad)
  | _ => .bad
def bSum (xs : List D) (st : Sto) : Out D := match xs with
  | [x] => (match (litems st x).bind allInt with | some bs => .ok (.int bs.sum) st | none => .bad)
  | _ => .bad
/-- list(range(..)) -/
def rangeL (lo : Int) (n : Nat) : List D := (List.range n).map fun (i : Nat) => D.int (lo + (i : Int))
/-- list(range(..)) -/
def sListR1 (m : Bool) (a : SE) : SE := fun ρ st => (a ρ st).bind fun x st => match x with
  | .int j => if 0 ≤ j ∧ j ≤ sizeLine then newL m (rangeL 0 j.toNat) st else .bad
  | _ => .bad
/-! dicts by value -/
def keyD : D → Option Key
  | .int i => some (.inl i)
  | .str x => some (.inr x)
  | _ => none
def putD (kvs : List (Key × D)) (k : Key) (d : D) : List (Key × D) := if (kvs.any fun kv => decide (kv.1 = k)) = true then kvs.map (fun kv => if kv.1 = k then (kv.1, d) else kv) else kvs ++ [(k, d)]
def pairK : D → Option (Key × D)
  | .tup [k, v] => (keyD k).map fun k => (k, v)
  | _ => none
def mkD (ps : List (Key × D)) : D := .dk (ps.map (·.1)) (ps.map (·.2))
/-- dict([(k, v), ..]) -/
def bDict (xs : List D) (st : Sto) : Out D := match xs with
  | [x] => (match (litems st x).bind fun ys => allSome (ys.map pairK) with
    | some ps => .ok (mkD (ps.foldl (fun acc p => putD acc p.1 p.2) [])) st
    | none => .bad)
  | _ => .bad
def bLenD (xs : List D) (st : Sto) : Out D := match xs with
  | [.dk ks _] => .ok (.int ks.length) st
  | _ => .bad
def fIsN2 (d n : D) (st : Sto) : Out D := match n with | .non => fIsN d st | _ => .bad
def fNotN2 (d n : D) (st : Sto) : Out D := match n with | .non => fNotN d st | _ => .bad
def fIsBl (x y : D) (st : Sto) : Out D := match x, y with
  | .bl a, .bl b => .ok (.bl (decide (a = b))) st
  | _, _ => .bad
def fNotBl (x y : D) (st : Sto) : Out D := match x, y with
  | .bl a, .bl b => .ok (.bl (!decide (a = b))) st
  | _, _ => .bad
/-! isinstance -/
inductive TyN where | int | bool | tuple | list | str | dict
def isTy : TyN → D → Option Bool
  | _, .raw _ => none
  | _, .fz _ => none
  | _, .tpl _ => none
  | _, .fn _ => none
  | _, .xc _ _ _ _ => none
  | .int, .int _ => some true
  | .int, .bl _ => some true
  | .bool, .bl _ => some true
  | .tuple, .tup _ => some true
  | .list, .lst _ => some true
  | .str, .str _ => some true
  | .dict, .dk _ _ => some true
  | _, .ref _ => none
  | _, _ => some false
def sIsI (t : TyN) (e : SE) : SE := fun ρ st => (e ρ st).bind fun d st => match isTy t d with | some b => .ok (.bl b) st | none => .bad
/-! subscripts -/
def fIx (x y : D) (st : Sto) : Out D := match items st x, y with
  | some xs, .int i => (match ixD xs.length i with | some j => (match xs[j]? with | some d => .ok d st | none => .bad) | none => .bad)
  | _, _ => .bad
def oInt (e : SE) : Ev → Sto → Out (Option Int) := fun ρ st => (e ρ st).bind fun d st => match d with | .int i => .ok (some i) st | _ => .bad
def oNone : Ev → Sto → Out (Option Int) := fun _ st => .ok none st
def cutD (xs : List D) (lo hi : Option Int) : List D := (xs.drop (HT.sIx xs.length 0 lo)).take (HT.sIx xs.length xs.length hi - HT.sIx xs.length 0 lo)
def sSlice (m : Bool) (e : SE) (lo hi : Ev → Sto → Out (Option Int)) : SE := fun ρ st => (e ρ st).bind fun x st => (lo ρ st).bind fun i st => (hi ρ st).bind fun j st => match x with
  | .tup xs => .ok (.tup (cutD xs i j)) st
  | .fz xs => newL m (cutD xs i j) st
  | x => match litems st x with | some xs => newL m (cutD xs i j) st | none => .bad

/-- not a, a value: a a bool -/
def sNotV (a : SE) : SE := fun ρ st => (a ρ st).bind fun d st => match d with | .bl c => .ok (.bl (!c)) st | _ => .bad
/-- a list's method of one argument: the receiver is a list of the store -/
def sM (f : D → D → Sto → Out D) (o e : SE) : SE := fun ρ st => (o ρ st).bind fun x st => match litems st x with
  | some _ => (e ρ st).bind fun y st => f x y st
  | none => .bad
/-! ### what is walked -/
def dynOf : D → Dy
  | .ref l => some (.inl l)
  | _ => none
/-- a list or a tuple -/
def iSeq (e : SE) : SI := fun ρ st => (e ρ st).bind fun x st => match items st x with | some xs => .ok (xs, dynOf x) st | none => .bad
def iRange1 (a : SA) : SI := fun ρ st => (a ρ st).bind fun xs st => match xs with
  | [.int j] => if -1000000 ≤ j ∧ j ≤ 1000000 then .ok (rangeL 0 j.toNat, none) st else .bad
  | _ => .bad
def iRange2 (a : SA) : SI := fun ρ st => (a ρ st).bind fun xs st => match xs with
  | [.int i, .int j] => if -1000000 ≤ i ∧ i ≤ 1000000 ∧ -1000000 ≤ j ∧ j ≤ 1000000 then .ok (rangeL i (j - i).toNat, none) st else .bad
  | _ => .bad
def zipD : List D → List D → List D
  | x :: xs, y :: ys => .tpl [x, y] :: zipD xs ys
  | _, _ => []
def isTupD : D → Bool
  | .tup _ => true
  | _ => false
def isLstD : D → Bool
  | .lst _ => true
  | _ => false
/-- zip of two tuples, or of two lists that stay -/
def iZip (a : SA) : SI := fun ρ st => (a ρ st).bind fun xs st => match xs with
  | [.tup xs, .tup ys] => .ok (zipD xs ys, none) st
  | [.lst xs, .lst ys] => .ok (zipD xs ys, none) st
  | _ => .bad
def enumFromD : Nat → List D → List D
  | _, [] => []
  | n, x :: xs => .tpl [.int n, x] :: enumFromD (n + 1) xs
/-- enumerate of a tuple, or of a list that stays -/
def iEnum (a : SA) : SI := fun ρ st => (a ρ st).bind fun xs st => match xs with
  | [.tup xs] => .ok (enumFromD 0 xs, none) st
  | [.lst xs] => .ok (enumFromD 0 xs, none) st
  | [.ref l] => (match st[l]? with | some (.lst xs) => .ok (enumFromD 0 xs, some (.inr l)) st | _ => .bad)
  | _ => .bad
def fetch (dy : Dy) (i : Nat) (d : D) (st : Sto) : Option D := match dy with
  | none => some d
  | some (.inl l) => match st[l]? with | some (.lst xs) => xs[i]? | _ => none
  | some (.inr l) => match st[l]? with | some (.lst xs) => (xs[i]?).map fun x => .tpl [.int i, x] | _ => none
def finOk (dy : Dy) (n : Nat) (st : Sto) : Bool := match dy with
  | none => true
  | some (.inl l) => match st[l]? with | some (.lst xs) => xs.length == n | _ => false
  | some (.inr l) => match st[l]? with | some (.lst xs) => xs.length == n | _ => false
/-! targets -/
def gN (i : Nat) : TgD := fun d ρ => some (ρ.set i (some d))
def gT2 (a b : TgD) : TgD := fun d ρ => match d with
  | .tup [x, y] => (a x ρ).bind fun ρ => b y ρ
  | .tpl [x, y] => (a x ρ).bind fun ρ => b y ρ
  | _ => none
def gT3 (a b c : TgD) : TgD := fun d ρ => match d with
  | .tup [x, y, z] => (a x ρ).bind fun ρ => (b y ρ).bind fun ρ => c z ρ
  | _ => none
def wipeD (ρ : Ev) : List Nat → Ev
  | [] => ρ
  | v :: vs => (wipeD ρ vs).set v none
/-! comprehensions -/
def tYesD : ST := fun _ st => .ok true st
def loopLC (dy : Dy) (n : Nat) (g : TgD) (t : ST) (e : SE) (ρ0 : Ev) : Nat → List D → Sto → Out (List D)
  | _, [], st => if finOk dy n st then .ok [] st else .bad
  | i, d :: ds, st => match fetch dy i d st with
    | none => .bad
    | some d => match g d ρ0 with
      | none => .bad
      | some ρ1 => (t ρ1 st).nx.bind fun c st => if c = true then (e ρ1 st).nx.bind fun y st => (loopLC dy n g t e ρ0 (i + 1) ds st).bind fun ys st => .ok (y :: ys) st
        else loopLC dy n g t e ρ0 (i + 1) ds st
def sLC (m : Bool) (it : SI) (g : TgD) (t : ST) (e : SE) (vs : List Nat) : SE := fun ρ st => (it ρ st).bind fun p st =>
  if p.1.length ≤ sizeLine then (loopLC p.2 p.1.length g t e (wipeD ρ vs) 0 p.1 st).bind fun ys st => newL m ys st else .bad

/-! ### statements -/
def Out.st {α : Type} (o : Out α) (ρ : Ev) (k : α → Sto → Option (Fl × Sto)) : Option (Fl × Sto) := match o with
  | .ok a st => k a st
  | .exc n fs st => some (.ex n fs ρ, st)
  | .bad => none
@[simp] theorem st_ok {α : Type} (a : α) (st : Sto) (ρ : Ev) (k : α → Sto → Option (Fl × Sto)) : (Out.ok a st).st ρ k = k a st := id rfl
@[simp] theorem st_bad {α : Type} (ρ : Ev) (k : α → Sto → Option (Fl × Sto)) : (Out.bad).st ρ k = none := id rfl
@[simp] theorem st_exc {α : Type} (n : Str) (fs : List (Str × D)) (st : Sto) (ρ : Ev) (k : α → Sto → Option (Fl × Sto)) : (Out.exc n fs st).st ρ k = some (.ex n fs ρ, st) := id rfl
def qNext : SS := fun ρ st => some (.nx ρ, st)
def qSeq (a b : SS) : SS := fun ρ st => match a ρ st with
  | some (.nx ρ', st') => b ρ' st'
  | r => r
def qSet (i : Nat) (e : SE) : SS := fun ρ st => (e ρ st).st ρ fun d st => some (.nx (ρ.set i (some d)), st)
/-- a, b = x, y -/
def qPar (i j : Nat) (a : SA) : SS := fun ρ st => (a ρ st).st ρ fun ds st => match ds with
  | [x, y] => some (.nx ((ρ.set i (some x)).set j (some y)), st)
  | _ => none
/-- target = e -/
def qAsg (g : TgD) (e : SE) : SS := fun ρ st => (e ρ st).st ρ fun d st => match g d ρ with
  | some ρ' => some (.nx ρ', st)
  | none => none
def qExpr (e : SE) : SS := fun ρ st => (e ρ st).st ρ fun _ st => some (.nx ρ, st)
def qRet (e : SE) : SS := fun ρ st => (e ρ st).st ρ fun d st => some (.rt d, st)
def qRetN : SS := fun _ st => some (.rt .non, st)
def qBrk : SS := fun ρ st => some (.bk ρ, st)
def qCnt : SS := fun ρ st => some (.ct ρ, st)
def qIf (t : ST) (a b : SS) : SS := fun ρ st => (t ρ st).st ρ fun c st => if c = true then a ρ st else b ρ st
def qNever : SS := fun _ _ => none
def qRaise (n : Str) : SS := fun ρ st => some (.ex n [] ρ, st)
/-- xs[i] = v of a list in the store -/
def fSetIx (o i v : D) (st : Sto) : Option Sto := match o, i with
  | .ref l, .int i => (match st[l]? with
    | some (.lst xs) => (match ixD xs.length i with | some j => some (st.set l (.lst (xs.set j v))) | none => none)
    | _ => none)
  | _, _ => none
/-- o[i] = e: first e, then o, then i -/
def qSetIx (o i e : SE) : SS := fun ρ st => (e ρ st).st ρ fun v st => (o ρ st).st ρ fun x st => (i ρ st).st ρ fun y st => match fSetIx x y v st with
  | some st => some (.nx ρ, st)
  | none => none
/-- xs.append(e) -/
def fAppend (x y : D) (st : Sto) : Out D := match x with
  | .ref l => (match st[l]? with
    | some (.lst xs) => if xs.length < sizeLine then .ok .non (st.set l (.lst (xs ++ [y]))) else .bad
    | _ => .bad)
  | _ => .bad
def fExtend (x y : D) (st : Sto) : Out D := match x with
  | .ref l => (match st[l]?, litems st y with
    | some (.lst xs), some ys => if xs.length + ys.length ≤ sizeLine then .ok .non (st.set l (.lst (xs ++ ys))) else .bad
    | _, _ => .bad)
  | _ => .bad
def loopFor (dy : Dy) (n : Nat) (g : TgD) (b : SS) : Nat → List D → Ev → Sto → Option (Fl × Sto)
  | _, [], ρ, st => if finOk dy n st then some (.nx ρ, st) else none
  | i, d :: ds, ρ, st => match fetch dy i d st with
    | none => none
    | some d => match g d ρ with
      | none => none
      | some ρ1 => match b ρ1 st with
        | some (.nx ρ2, st2) => loopFor dy n g b (i + 1) ds ρ2 st2
        | some (.ct ρ2, st2) => loopFor dy n g b (i + 1) ds ρ2 st2
        | some (.bk ρ2, st2) => some (.nx ρ2, st2)
        | r => r
def qFor (it : SI) (g : TgD) (b : SS) : SS := fun ρ st => (it ρ st).st ρ fun p st => loopFor p.2 p.1.length g b 0 p.1 ρ st
def loopWhile (t : ST) (b : SS) : Nat → SS
  | 0, _, _ => none
  | f + 1, ρ, st => (t ρ st).st ρ fun c st => if c = true then (match b ρ st with
      | some (.nx ρ2, st2) => loopWhile t b f ρ2 st2
      | some (.ct ρ2, st2) => loopWhile t b f ρ2 st2
      | some (.bk ρ2, st2) => some (.nx ρ2, st2)
      | r => r) else some (.nx ρ, st)
def qWhile (fuel : Ev → Sto → Nat) (t : ST) (b : SS) : SS := fun ρ st => loopWhile t b (fuel ρ st) ρ st

/-! ### a def -/
def startD (n : Nat) (ds : List D) : Ev := ds.map some ++ List.replicate (n - ds.length) none
/-- a def's end: what it handed back, as it is -/
def endRaw (r : Option (Fl × Sto)) : Out D := match r with
  | some (.rt d, st) => .ok d st
  | some (.nx _, st) => .ok .non st
  | some (.ex n fs _, st) => .exc n fs st
  | _ => .bad
def defRaw (n : Nat) (b : SS) (ds : List D) (st : Sto) : Out D := endRaw (b (startD n ds) st)
/-! lists of the store, from place n on, by value -/
def frzD (st : Sto) (n : Nat) : Nat → D → Option D
  | 0, d => match d with
    | .non => some .non
    | .bl b => some (.bl b)
    | .int i => some (.int i)
    | .str x => some (.str x)
    | _ => none
  | f + 1, d => match d with
    | .tup xs => (allSome (xs.map (frzD st n f))).map .tup
    | .lst xs => (allSome (xs.map (frzD st n f))).map .lst
    | .dk ks xs => (allSome (xs.map (frzD st n f))).map (.dk ks)
    | .ref l => if l < n then some (.ref l) else match st[l]? with | some (.lst xs) => (allSome (xs.map (frzD st n f))).map .lst | _ => none
    | .non => some .non
    | .bl b => some (.bl b)
    | .int i => some (.int i)
    | .str x => some (.str x)
    | _ => none
mutual
/-- no place from n on is named -/
def noRef (n : Nat) : D → Bool
  | .ref l => decide (l < n)
  | .tup xs => noRefs n xs
  | .lst xs => noRefs n xs
  | .tpl xs => noRefs n xs
  | .fz xs => noRefs n xs
  | .dk _ xs => noRefs n xs
  | .xc _ _ _ xs => noRefs n xs
  | _ => true
def noRefs (n : Nat) : List D → Bool
  | [] => true
  | x :: xs => noRef n x && noRefs n xs
end
def noRefO (n : Nat) : MO → Bool
  | .lst xs => noRefs n xs
  | .dk _ xs => noRefs n xs
  | .gone => true
/-- .. the lists that it made by value, its own part of the store forgotten -/
def fin (n : Nat) (o : Out D) : Out D := match o with
  | .ok d st => (match frzD st n 60 d with
    | some d' => if (st.take n).all (noRefO n) then .ok d' (st.take n) else .bad
    | none => .bad)
  | .exc k fs st => if (fs.all fun p => noRef n p.2) && (st.take n).all (noRefO n) then .exc k fs (st.take n) else .bad
  | .bad => .bad
def defFin (n : Nat) (b : SS) (ds : List D) (st : Sto) : Out D := fin st.length (defRaw n b ds st)
end PD
/-! PDTup: new tuples, known to have no dict. -/
namespace PD
open PySem PySem.Spec PyProof.Rows L2
/-- a tuple that has no dict -/
def SqN (K : PySem.W.Frag) (H : Hp) (a : Addr) (xs : List V) : Prop :=
  (∃ o : Obj, o.dict = none ∧ H a = some (.frz o (.tup xs))) ∨
    ∃ (o : Obj) (its : Array Value) (n : Nat), K.lookup a = some o ∧ o.cls = .type "tuple" ∧ o.dict = none ∧ o.data = .seq its n ∧ its.size ≤ sizeLine ∧ Vals xs its.toList
theorem SqN.t {K : PySem.W.Frag} {H : Hp} {a : Addr} {xs : List V} : SqN K H a xs → SqT K H a xs
  | .inl ⟨o, _, e⟩ => .inl (.inr ⟨o, e⟩)
  | .inr ⟨o, its, n, h1, h2, _, h4, h5, h6⟩ => .inr ⟨o, its, n, h1, h2, h4, h5, h6⟩
theorem SqN.of {K : PySem.W.Frag} {H : Hp} {a : Addr} {o : Obj} {xs : List V} (hd : o.dict = none) : SqN K (upd H a (.frz o (.tup xs))) a xs := .inl ⟨o, hd, upd_same⟩
theorem sqN_mono {K : PySem.W.Frag} {B B' : Hp} {a : Addr} {vs : List V} (h : ∀ a o, B a = some o → B' a = some o) : SqN K B a vs → SqN K B' a vs
  | .inl ⟨o, d, e⟩ => .inl ⟨o, d, h _ _ e⟩
  | .inr x => .inr x
/-- what is wanted of a new tuple -/
def NewT (Q : VK) (H : Hp) (xs : List V) : Prop := ∀ p o, H p = none → o.dict = none → Q (.ref p) (upd H p (.frz o (.tup xs)))
section
variable {X : Cx} {pins : List (Addr × Obj)} {σ : L2.St} {H : Hp} {s : Shared} {Q : VK} {e : Expr} {es : List Expr} {pos : Pos} {t : TA}
/-- .. laid -/
theorem newT_ep {xs : List V} {its : List Value} (I : Inv X pins σ H s) (r : Vals xs its) (z : xs.length ≤ sizeLine) (q : NewT Q H xs) :
    EP X pins σ Q (.ref s.heap.objs.size) { s with heap := s.heap.push { cls := .type "tuple", data := .seq its.toArray } } :=
  ⟨.ref s.heap.objs.size, _, I.laid (t' := s.toks) (o := .frz { cls := .type "tuple", data := .seq its.toArray } (.tup xs)) (fun b u e => Heap.get?_push_of_some _ e) (Nat.le_refl _)
    (show _ ∧ _ from ⟨Heap.get?_push_size _ rfl, z, its, r, IsTup.new _ _⟩), rfl, q _ _ (I.hok.fresh (Nat.le_refl _)) rfl⟩
def tTupN (t : TA) : TE := fun σ H Q => t σ H fun xs H1 => xs.length ≤ sizeLine ∧ NewT Q H1 xs
theorem pe_tupN {x1 : Nat} (h : PA X es t) : PE X (.Tuple es x1 pos) (tTupN t) := by
  refine ⟨fun pins s σ H Q I hq => ?_⟩
  refine wpAny_Tuple_spliced (thn (h.run pos pins s σ H _ I hq) fun us s1 ⟨xs, H1, I1, r, z, q⟩ => ⟨by rw [← r.length]; exact z, ?_⟩)
  exact newT_ep I1 r z q
/-- t + u -/
def rCatN (K : PySem.W.Frag) : R2 := fun x y H Q => ∃ a b xs ys, x = .ref a ∧ y = .ref b ∧ SqT K H a xs ∧ SqT K H b ys ∧ xs.length + ys.length ≤ sizeLine ∧
  (xs = [] → Q (.ref b) H) ∧ (xs ≠ [] → ys = [] → Q (.ref a) H) ∧ (xs ≠ [] → ys ≠ [] → NewT Q H (xs ++ ys))
theorem op_catN : OpR X (binaryOp .Add) (rCatN X.K) := by
  intro pins s σ H x y v u Q I rx ry h
  obtain ⟨a, b, xs, ys, rfl, rfl, ha, hb, hz, q0, q1, q2⟩ := h
  cases rx
  cases ry
  obtain ⟨its, r1, p1, _⟩ := I.tuple ha
  obtain ⟨its2, r2, p2, _⟩ := I.tuple hb
  by_cases hx : xs = []
  · subst hx
    cases r1
    exact cat_tup0 p1 p2 ⟨.ref b, H, I, rfl, q0 rfl⟩
  · refine HT.cat_tup p1 p2 (fun z => hx (r1.nil_iff.mp z)) (fun z => ⟨.ref a, H, I, rfl, q1 hx (r2.nil_iff.mp z)⟩) (fun z => ?_) (by rw [← r1.length, ← r2.length]; exact hz)
    exact newT_ep I (r1.append r2) (by rw [List.length_append]; exact hz) (q2 hx (fun w => z (r2.nil_iff.mpr w)))
/-- tuple(x) -/
theorem call_tuple_ofN : CallR X (.type "tuple") (fun xs H Q => ∃ p ys, xs = [.ref p] ∧ ((SqL X.K H p ys ∧ NewT Q H ys) ∨ (SqT X.K H p ys ∧ Q (.ref p) H))) := by
  intro pins s σ H xs us Q I r h
  obtain ⟨p, ys, rfl, h⟩ := h
  obtain ⟨u, rfl, rx⟩ := vals1 r
  cases rx
  rcases h with ⟨hq, q⟩ | ⟨hq, q⟩
  · obtain ⟨its, r', pl, hz⟩ := I.list hq
    have hlen := r'.length
    refine call_tuple_list pl.isList (fun h' kp => ?_) (by simp only [List.size_toArray] <;> omega)
    have I1 : Inv X pins σ H { s with heap := h' } := I.kept (t' := s.toks) kp
    exact newT_ep I1 r' hz q
  · obtain ⟨its, r', pl, hz⟩ := I.tuple hq
    exact call_tuple_same pl ⟨.ref p, H, I, rfl, q⟩
/-- t[lo:hi] -/
def rSlN (K : PySem.W.Frag) : V → Option Int → Option Int → Hp → VK → Prop := fun x lo hi H Q => ∃ a xs, x = .ref a ∧ SqT K H a xs ∧
  (HT.sIx xs.length 0 lo = 0 ∧ HT.sIx xs.length xs.length hi = xs.length → Q (.ref a) H) ∧ (¬ (HT.sIx xs.length 0 lo = 0 ∧ HT.sIx xs.length xs.length hi = xs.length) → NewT Q H (cutV xs lo hi))
theorem sl_tupN : SlR X (rSlN X.K) := by
  intro pins s σ H x v vl vu lo hi sl Q I rx hs pl pu h
  obtain ⟨a, xs, rfl, hx, q1, q2⟩ := h
  cases rx
  obtain ⟨its, r, ht, hz⟩ := I.tuple hx
  have hlen : its.toArray.size = xs.length := by rw [List.size_toArray]; exact r.length.symm
  refine ⟨"tuple", _, PyProof.Rows.slot_tuple_getitem.lookup, ht.typeIs, ?_⟩
  by_cases hw : HT.sIx xs.length 0 lo = 0 ∧ HT.sIx xs.length xs.length hi = xs.length
  · exact getItem_tuple_whole ht hs pl pu (by rw [hlen]; exact hw) ⟨.ref a, H, I, rfl, q1 hw⟩
  · refine HT.getItem_tuple_cut ht hs pl pu (by rw [hlen]; exact hw) ?_ (by rw [hlen]; exact hz)
    rw [hlen]
    exact newT_ep I ((r.drop (HT.sIx xs.length 0 lo)).take (HT.sIx xs.length xs.length hi - HT.sIx xs.length 0 lo)) (Nat.le_trans (cutV_length xs lo hi) hz) (q2 hw)
/-- t * k, k at least 2 -/
def rRepN (K : PySem.W.Frag) : R2 := fun x y H Q => ∃ l k xs, x = .ref l ∧ y = .int k ∧ SqT K H l xs ∧ xs ≠ [] ∧ 2 ≤ k ∧ k ≤ 1000 ∧ xs.length ≤ 1000 ∧ NewT Q H (List.replicate k.toNat xs).flatten
theorem op_repN : OpR X (binaryOp .Mult) (rRepN X.K) := by
  intro pins s σ H x y v u Q I rx ry h
  obtain ⟨l, k, xs, rfl, rfl, hT, hne, h1, h2, hz, q⟩ := h
  cases rx
  obtain ⟨t, rfl⟩ := ry
  obtain ⟨its, r, ⟨⟨cls, dd, data, sl⟩, ho, hc, n, hd⟩, hs⟩ := I.tuple hT
  simp only at hc hd
  subst hc hd
  have hle : its.length = xs.length := r.length.symm
  have h0 : 0 < xs.length := List.length_pos_iff.mpr hne
  have hi : its.toArray.isEmpty = false := by
    cases its with
    | nil => simp at hle; omega
    | cons a b => rfl
  have a1 : k.toNat * xs.length ≤ 1000 * 1000 := Nat.mul_le_mul (by omega) hz
  have a2 : ((its.toArray.size : Nat) : Int) * k ≤ 1000000 := by
    have : ((its.toArray.size : Nat) : Int) * k ≤ 1000 * k := Int.mul_le_mul_of_nonneg_right (by rw [List.size_toArray]; omega) (by omega)
    omega
  have fl : (List.replicate k.toNat xs).flatten.length ≤ sizeLine := by
    rw [PyProof.Rows.lm_len_rep_flat, sizeLine_eq]; omega
  have fl2 : (List.replicate k.toNat its).flatten.length ≤ sizeLine := by
    rw [PyProof.Rows.lm_len_rep_flat, hle, sizeLine_eq]; omega
  refine wpAny_binaryOp_repeat_ref (T := "tuple") (U := "int") (by decide) ⟨_, ho, rfl⟩ (fun s' => typeIs_int s' k t) L2.noFill_tuple_mul PySem.F.fills_int_mul PySem.F.slot_int_rmul L2.repeat_tuple PySem.F.slot_int_index.lookup
    (call_meets PySem.F.slot_int_rmul (typeIs_int s k t) PySem.F.entry_int_rmul (PySem.F.args_int_rmul_2 _ _) (L2.int_rmul_tuple k t l its.toArray n dd sl)
      ⟨ho, rfl, ⟨_, ho, rfl⟩, call_meets PySem.F.slot_tuple_mul ⟨_, ho, rfl⟩ PySem.F.entry_tuple_mul (PySem.F.args_tuple_mul_2 _ _) (L2.tuple_mulW l its.toArray n dd sl k t
        (by rw [decide_eq_false (by omega), decide_eq_false (by omega)] <;> rfl) (by rw [hi, Bool.false_or]; exact beq_eq_false_iff_ne.mpr (by omega)) (by rw [hi, Bool.or_false]; exact decide_eq_false (by omega)) (by omega)
        (by unfold Builtin.Tuple.tupleTooMany; rw [sizeLine_eq]; exact decide_eq_false (by omega)) (by rw [size_rep, List.size_toArray]; exact fl2)) ⟨ho, ?_⟩⟩)
  rw [size_rep]
  exact newT_ep I (r.rep k.toNat) fl q
end
end PD
/-! PDSim: the data stand in the machine's heap so. -/
namespace PD
open PySem PySem.Spec PyProof.Rows L2

/-- B: what never changes; ι: where the store's things stand -/
structure G where
  B : Hp
  ι : List Addr

mutual
inductive Rep (K : PySem.W.Frag) (g : G) : D → V → Prop
  | non : Rep K g .non .non
  | bl (b : Bool) : Rep K g (.bl b) (.bl b)
  | int (i : Int) : Rep K g (.int i) (.int i)
  | str (x : Str) : Rep K g (.str x) (.str x)
  | tup {ds : List D} {a : Addr} {vs : List V} : SqN K g.B a vs → vs.length ≤ sizeLine → Reps K g ds vs → Rep K g (.tup ds) (.ref a)
  | tpl {ds : List D} {a : Addr} {vs : List V} : SqT K g.B a vs → vs.length ≤ sizeLine → Reps K g ds vs → Rep K g (.tpl ds) (.ref a)
  | lst {ds : List D} {a : Addr} {vs : List V} : g.B a = some (.lst vs) → vs.length ≤ sizeLine → Reps K g ds vs → Rep K g (.lst ds) (.ref a)
  | fz {ds : List D} {a : Addr} {vs : List V} : SqL K g.B a vs → vs.length ≤ sizeLine → Reps K g ds vs → Rep K g (.fz ds) (.ref a)
  | ref {l : Nat} {a : Addr} : g.ι[l]? = some a → Rep K g (.ref l) (.ref a)
  | dk {ks : List Key} {ds : List D} {a : Addr} {vs : List V} : g.B a = some (.dK (ks.zip vs)) → ks.length = vs.length → Reps K g ds vs → Rep K g (.dk ks ds) (.ref a)
  | raw (v : V) : Rep K g (.raw v) v
  | fn {x : Str} {a : Addr} : PySem.W.nsIn K mainGlobals x = some (some (.ref a)) → Rep K g (.fn x) (.ref a)
  | xc {a dd : Addr} {ks : List Str} {ds : List D} {vs : List V} : g.B dd = some (.xd (ks.zip vs)) → Reps K g ds vs → Rep K g (.xc a dd ks ds) (.ref a)
inductive Reps (K : PySem.W.Frag) (g : G) : List D → List V → Prop
  | nil : Reps K g [] []
  | cons {d : D} {v : V} {ds : List D} {vs : List V} : Rep K g d v → Reps K g ds vs → Reps K g (d :: ds) (v :: vs)
end
theorem sqT_mono {K : PySem.W.Frag} {B B' : Hp} {a : Addr} {vs : List V} (h : ∀ a o, B a = some o → B' a = some o) : SqT K B a vs → SqT K B' a vs
  | .inl (.inl e) => .inl (.inl (h _ _ e))
  | .inl (.inr ⟨o, e⟩) => .inl (.inr ⟨o, h _ _ e⟩)
  | .inr x => .inr x
theorem sqL_mono {K : PySem.W.Frag} {B B' : Hp} {a : Addr} {vs : List V} (h : ∀ a o, B a = some o → B' a = some o) : SqL K B a vs → SqL K B' a vs
  | .inl (.inl e) => .inl (.inl (h _ _ e))
  | .inl (.inr ⟨o, e⟩) => .inl (.inr ⟨o, h _ _ e⟩)
  | .inr x => .inr x
theorem rd_mono {B B' : Hp} {a : Addr} {u : HO} (h : ∀ a o, B a = some o → B' a = some o) : Rd B a u → Rd B' a u
  | .inl e => .inl (h _ _ e)
  | .inr ⟨o, e⟩ => .inr ⟨o, h _ _ e⟩
/-- g' holds what g holds -/
structure Ge (g g' : G) : Prop where
  b : ∀ a o, g.B a = some o → g'.B a = some o
  i : ∀ (l : Nat) (a : Addr), g.ι[l]? = some a → g'.ι[l]? = some a
theorem Ge.refl (g : G) : Ge g g := ⟨fun _ _ h => h, fun _ _ h => h⟩
theorem Ge.trans {a b c : G} (h : Ge a b) (k : Ge b c) : Ge a c := ⟨fun x o e => k.b x o (h.b x o e), fun l x e => k.i l x (h.i l x e)⟩
mutual
theorem Rep.mono {K : PySem.W.Frag} {g g' : G} (h : Ge g g') : ∀ {d : D} {v : V}, Rep K g d v → Rep K g' d v
  | _, _, .non => .non
  | _, _, .bl b => .bl b
  | _, _, .int b => .int b
  | _, _, .str b => .str b
  | _, _, .tup q l r => .tup (sqN_mono h.b q) l (Reps.mono h r)
  | _, _, .tpl q l r => .tpl (sqT_mono h.b q) l (Reps.mono h r)
  | _, _, .lst q l r => .lst (h.b _ _ q) l (Reps.mono h r)
  | _, _, .fz q l r => .fz (sqL_mono h.b q) l (Reps.mono h r)
  | _, _, .ref e => .ref (h.i _ _ e)
  | _, _, .dk e l r => .dk (h.b _ _ e) l (Reps.mono h r)
  | _, _, .raw v => .raw v
  | _, _, .fn e => .fn e
  | _, _, .xc e r => .xc (h.b _ _ e) (Reps.mono h r)
theorem Reps.mono {K : PySem.W.Frag} {g g' : G} (h : Ge g g') : ∀ {ds : List D} {vs : List V}, Reps K g ds vs → Reps K g' ds vs
  | _, _, .nil => .nil
  | _, _, .cons a t => .cons (Rep.mono h a) (Reps.mono h t)
end
theorem Reps.length {K : PySem.W.Frag} {g : G} : ∀ {ds : List D} {vs : List V}, Reps K g ds vs → ds.length = vs.length
  | _, _, .nil => rfl
  | _, _, .cons _ t => by rw [List.length_cons, List.length_cons, Reps.length t]
theorem Reps.get {K : PySem.W.Frag} {g : G} : ∀ {ds : List D} {vs : List V} {i : Nat} {d : D}, Reps K g ds vs → ds[i]? = some d → ∃ v, vs[i]? = some v ∧ Rep K g d v
  | _, _, _, _, .nil, e => by simp at e
  | _, _, 0, _, .cons a _, e => by simp at e; subst e; exact ⟨_, rfl, a⟩
  | _, _, i + 1, _, .cons _ t, e => by
    obtain ⟨v, h1, h2⟩ := Reps.get (i := i) t (by simpa using e)
    exact ⟨v, by simpa using h1, h2⟩
theorem Reps.getV {K : PySem.W.Frag} {g : G} {ds : List D} {vs : List V} {i : Nat} {v : V} (r : Reps K g ds vs) (e : vs[i]? = some v) : ∃ d, ds[i]? = some d ∧ Rep K g d v := by
  have hl := r.length
  have hi : i < vs.length := (List.getElem?_eq_some_iff.mp e).1
  have e2 : ds[i]? = some ds[i] := List.getElem?_eq_getElem (by omega)
  obtain ⟨v', h1, h2⟩ := r.get e2
  rw [e] at h1; cases h1
  exact ⟨_, e2, h2⟩
theorem Reps.append {K : PySem.W.Frag} {g : G} : ∀ {ds es : List D} {vs ws : List V}, Reps K g ds vs → Reps K g es ws → Reps K g (ds ++ es) (vs ++ ws)
  | _, _, _, _, .nil, s => s
  | _, _, _, _, .cons a t, s => .cons a (Reps.append t s)
theorem Reps.set {K : PySem.W.Frag} {g : G} {d : D} {v : V} (h : Rep K g d v) : ∀ {ds : List D} {vs : List V} (i : Nat), Reps K g ds vs → Reps K g (ds.set i d) (vs.set i v)
  | _, _, _, .nil => .nil
  | _, _, 0, .cons _ t => .cons h t
  | _, _, i + 1, .cons a t => .cons a (Reps.set h i t)
theorem Reps.drop {K : PySem.W.Frag} {g : G} : ∀ {ds : List D} {vs : List V} (n : Nat), Reps K g ds vs → Reps K g (ds.drop n) (vs.drop n)
  | _, _, 0, h => h
  | _, _, _ + 1, .nil => .nil
  | _, _, n + 1, .cons _ t => Reps.drop n t
theorem Reps.take {K : PySem.W.Frag} {g : G} : ∀ {ds : List D} {vs : List V} (n : Nat), Reps K g ds vs → Reps K g (ds.take n) (vs.take n)
  | _, _, 0, _ => .nil
  | _, _, _ + 1, .nil => .nil
  | _, _, n + 1, .cons a t => .cons a (Reps.take n t)
theorem Reps.one {K : PySem.W.Frag} {g : G} {d : D} {v : V} (h : Rep K g d v) : Reps K g [d] [v] := .cons h .nil
theorem Reps.replicate {K : PySem.W.Frag} {g : G} {ds : List D} {vs : List V} (h : Reps K g ds vs) : ∀ n : Nat, Reps K g (List.replicate n ds).flatten (List.replicate n vs).flatten
  | 0 => .nil
  | n + 1 => by
    rw [List.replicate_succ, List.replicate_succ, List.flatten_cons, List.flatten_cons]
    exact h.append (Reps.replicate h n)

/-- a thing of the store stands at a -/
def ObjR (K : PySem.W.Frag) (g : G) (H : Hp) (a : Addr) : MO → Prop
  | .lst xs => ∃ vs, g.B a = none ∧ H a = some (.lst vs) ∧ vs.length ≤ sizeLine ∧ Reps K g xs vs
  | .dk ks xs => ∃ vs, g.B a = none ∧ H a = some (.dK (ks.zip vs)) ∧ ks.length = vs.length ∧ Reps K g xs vs
  | .gone => True
/-- the heap holds the data -/
structure Sim (K : PySem.W.Frag) (T : List (Addr × Str)) (g : G) (st : Sto) (H : Hp) : Prop where
  sub : ∀ a o, g.B a = some o → H a = some o
  len : g.ι.length = st.length
  nd : g.ι.Nodup
  there : ∀ a, a ∈ g.ι → ∃ o, H a = some o ∧ ∀ ps, o ≠ .tbl ps
  obj : ∀ (l : Nat) (a : Addr) (mo : MO), g.ι[l]? = some a → st[l]? = some mo → ObjR K g H a mo
  tabs : LamX.Tabs T H
  tb : ∀ a o, g.B a = some o → ∀ ps, o ≠ .tbl ps
/-- from g, H on to g', H' -/
structure Le (g g' : G) (H H' : Hp) : Prop where
  ge : Ge g g'
  fr : ∀ a o, H a = some o → g.B a = none → a ∉ g.ι → (∀ ps, o ≠ .tbl ps) → H' a = some o ∧ g'.B a = none ∧ a ∉ g'.ι
theorem Le.refl (g : G) (H : Hp) : Le g g H H := ⟨Ge.refl g, fun _ _ h1 h2 h3 _ => ⟨h1, h2, h3⟩⟩
theorem Le.trans {a b c : G} {H H1 H2 : Hp} (h : Le a b H H1) (k : Le b c H1 H2) : Le a c H H2 :=
  ⟨h.ge.trans k.ge, fun x o e1 e2 e3 e4 => let ⟨f1, f2, f3⟩ := h.fr x o e1 e2 e3 e4; k.fr x o f1 f2 f3 e4⟩

section
variable {K : PySem.W.Frag} {T : List (Addr × Str)} {g g' : G} {st : Sto} {H : Hp} {p a : Addr} {o : HO} {ds xs : List D} {vs : List V}
theorem Sim.freshB (S : Sim K T g st H) (h : H p = none) : g.B p = none := by
  cases e : g.B p with
  | none => rfl
  | some o => rw [S.sub p o e] at h; cases h
theorem Sim.freshI (S : Sim K T g st H) (h : H p = none) : p ∉ g.ι := fun hp => by
  obtain ⟨o, e, _⟩ := S.there p hp
  rw [h] at e; cases e
theorem ObjR.mono {mo : MO} {H' : Hp} (h : ObjR K g H a mo) (q : Ge g g') (hb : g.B a = none → g'.B a = none) (hh : ∀ o, H a = some o → H' a = some o) : ObjR K g' H' a mo := by
  cases mo with
  | lst xs => obtain ⟨vs, h1, h2, h3, h4⟩ := h; exact ⟨vs, hb h1, hh _ h2, h3, h4.mono q⟩
  | dk ks xs => obtain ⟨vs, h1, h2, h3, h4⟩ := h; exact ⟨vs, hb h1, hh _ h2, h3, h4.mono q⟩
  | gone => trivial
/-- a new thing that never changes -/
theorem Sim.allocB (S : Sim K T g st H) (h : H p = none) (ho : ∀ ps, o ≠ .tbl ps) : Sim K T ⟨upd g.B p o, g.ι⟩ st (upd H p o) ∧ Le g ⟨upd g.B p o, g.ι⟩ H (upd H p o) := by
  have hB := S.freshB h
  have hI := S.freshI h
  have ge : Ge g ⟨upd g.B p o, g.ι⟩ := ⟨fun a u e => by show upd g.B p o a = some u; rw [upd_ne (ne_of_none e hB)]; exact e, fun _ _ e => e⟩
  have nι : ∀ {l : Nat} {b : Addr}, g.ι[l]? = some b → b ≠ p := fun e z => hI (z ▸ List.mem_of_getElem? e)
  refine ⟨⟨fun a u e => ?_, S.len, S.nd, fun b hb => ?_, fun l b mo e1 e2 => ?_, S.tabs.ext fun b u e => by rw [upd_ne (ne_of_none e h)]; exact e, fun a u e ps => ?_⟩, ge, fun b u e1 e2 e3 e4 => ?_⟩
  · have e : upd g.B p o a = some u := e
    by_cases ha : a = p
    · subst ha; rw [upd_same] at e ⊢; exact e
    · rw [upd_ne ha] at e ⊢; exact S.sub a u e
  · obtain ⟨u, e, q⟩ := S.there b hb
    exact ⟨u, by rw [upd_ne (ne_of_none e h)]; exact e, q⟩
  · exact (S.obj l b mo e1 e2).mono ge (fun z => by show upd g.B p o b = none; rw [upd_ne (nι e1)]; exact z) fun u z => by rw [upd_ne (nι e1)]; exact z
  · by_cases ha : a = p
    · subst ha
      have e' : some o = some u := by rw [← e]; exact upd_same.symm
      cases e'; exact ho ps
    · have e' : g.B a = some u := by rw [← e]; exact (upd_ne ha).symm
      exact S.tb a u e' ps
  · have hb : b ≠ p := ne_of_none e1 h
    exact ⟨by rw [upd_ne hb]; exact e1, by show upd g.B p o b = none; rw [upd_ne hb]; exact e2, e3⟩
/-- a new list that may be changed -/
theorem Sim.allocM (S : Sim K T g st H) (h : H p = none) (hz : vs.length ≤ sizeLine) (r : Reps K g xs vs) :
    Sim K T ⟨g.B, g.ι ++ [p]⟩ (st ++ [.lst xs]) (upd H p (.lst vs)) ∧ Le g ⟨g.B, g.ι ++ [p]⟩ H (upd H p (.lst vs)) ∧ Rep K ⟨g.B, g.ι ++ [p]⟩ (.ref st.length) (.ref p) := by
  have hB := S.freshB h
  have hI := S.freshI h
  have ge : Ge g ⟨g.B, g.ι ++ [p]⟩ := ⟨fun a u e => e, fun l a e => by
    show (g.ι ++ [p])[l]? = some a
    rw [List.getElem?_append_left (List.getElem?_eq_some_iff.mp e).1]; exact e⟩
  refine ⟨⟨fun a u e => ?_, by simp [S.len], ?_, fun b hb => ?_, fun l b mo e1 e2 => ?_, S.tabs.ext fun b u e => by rw [upd_ne (ne_of_none e h)]; exact e, S.tb⟩, ⟨ge, fun b u e1 e2 e3 e4 => ?_⟩, .ref ?_⟩
  · rw [upd_ne (ne_of_none e hB)]; exact S.sub a u e
  · exact List.nodup_append.mpr ⟨S.nd, by simp, fun a ha b hb => by
      have : b = p := by simpa using hb
      subst this
      exact fun z => hI (z ▸ ha)⟩
  · rcases List.mem_append.mp hb with hb | hb
    · obtain ⟨u, e, q⟩ := S.there b hb
      exact ⟨u, by rw [upd_ne (ne_of_none e h)]; exact e, q⟩
    · have : b = p := by simpa using hb
      subst this
      exact ⟨_, upd_same, fun ps z => by cases z⟩
  · have e1' : (g.ι ++ [p])[l]? = some b := e1
    by_cases hl : l < g.ι.length
    · rw [List.getElem?_append_left hl] at e1'
      rw [List.getElem?_append_left (by rw [← S.len]; exact hl)] at e2
      have nb : b ≠ p := fun z => hI (z ▸ List.mem_of_getElem? e1')
      exact (S.obj l b mo e1' e2).mono ge (fun z => z) fun u z => by rw [upd_ne nb]; exact z
    · rw [List.getElem?_append_right (by omega)] at e1'
      rw [List.getElem?_append_right (by rw [← S.len]; omega)] at e2
      have hl0 : l - g.ι.length = 0 := by
        have := (List.getElem?_eq_some_iff.mp e1').1
        simp at this; exact this
      rw [hl0] at e1'
      rw [← S.len, hl0] at e2
      simp at e1' e2
      subst e1' e2
      exact ⟨vs, hB, upd_same, hz, r.mono ge⟩
  · have hb : b ≠ p := ne_of_none e1 h
    exact ⟨by rw [upd_ne hb]; exact e1, e2, fun z => (List.mem_append.mp z).elim e3 fun q => hb (by simpa using q)⟩
  · show (g.ι ++ [p])[st.length]? = some p
    rw [← S.len, List.getElem?_append_right (Nat.le_refl _)]; simp
/-- a list of the store is written -/
theorem Sim.write {l : Nat} {xs' : List D} {vs' : List V} (S : Sim K T g st H) (hl : g.ι[l]? = some a) (hs : st[l]? = some (.lst xs)) (hz : vs'.length ≤ sizeLine) (r : Reps K g xs' vs') :
    Sim K T g (st.set l (.lst xs')) (upd H a (.lst vs')) ∧ Le g g H (upd H a (.lst vs')) := by
  obtain ⟨vs, hB, hH, _, _⟩ := S.obj l a _ hl hs
  have ha : a ∈ g.ι := List.mem_of_getElem? hl
  have hls : l < st.length := (List.getElem?_eq_some_iff.mp hs).1
  refine ⟨⟨fun b u e => ?_, by rw [List.length_set]; exact S.len, S.nd, fun b hb => ?_, fun k b mo e1 e2 => ?_, fun q hq => ?_, S.tb⟩, Ge.refl g, fun b u e1 e2 e3 e4 => ⟨?_, e2, e3⟩⟩
  · rw [upd_ne (ne_of_none e hB)]; exact S.sub b u e
  · by_cases hb' : b = a
    · subst hb'; exact ⟨_, upd_same, fun ps z => by cases z⟩
    · obtain ⟨u, e, q⟩ := S.there b hb
      exact ⟨u, by rw [upd_ne hb']; exact e, q⟩
  · by_cases hk : k = l
    · subst hk
      rw [hl] at e1; cases e1
      rw [List.getElem?_set_self hls] at e2; cases e2
      exact ⟨vs', hB, upd_same, hz, r⟩
    · rw [List.getElem?_set_ne (Ne.symm hk)] at e2
      have nb : b ≠ a := fun z => hk (by
        subst z
        obtain ⟨h1, q1⟩ := List.getElem?_eq_some_iff.mp e1
        obtain ⟨h2, q2⟩ := List.getElem?_eq_some_iff.mp hl
        exact (List.getElem_inj S.nd).mp (q1.trans q2.symm))
      exact (S.obj k b mo e1 e2).mono (Ge.refl g) (fun z => z) fun u z => by rw [upd_ne nb]; exact z
  · obtain ⟨ps, h1, h2, h3⟩ := S.tabs q hq
    have n1 : q.1 ≠ a := fun z => by rw [z, hH] at h1; cases h1
    refine ⟨ps, by rw [upd_ne n1]; exact h1, h2, fun pos cv hc => ?_⟩
    obtain ⟨c, e1, e2⟩ := h3 pos cv hc
    have n2 : c ≠ a := fun z => by rw [z, hH] at e2; cases e2
    exact ⟨c, e1, by rw [upd_ne n2]; exact e2⟩
  · rw [upd_ne (fun z => e3 (by rw [z]; exact ha))]; exact e1
/-- reading -/
theorem Sim.tup (S : Sim K T g st H) {v : V} (r : Rep K g (.tup ds) v) : ∃ a vs, v = .ref a ∧ SqT K H a vs ∧ vs.length ≤ sizeLine ∧ Reps K g ds vs := by
  cases r with
  | tup q l r => exact ⟨_, _, rfl, sqT_mono S.sub q.t, l, r⟩
theorem Sim.tupN (S : Sim K T g st H) {v : V} (r : Rep K g (.tup ds) v) : ∃ a vs, v = .ref a ∧ SqN K H a vs ∧ vs.length ≤ sizeLine ∧ Reps K g ds vs := by
  cases r with
  | tup q l r => exact ⟨_, _, rfl, sqN_mono S.sub q, l, r⟩
theorem Sim.tpl (S : Sim K T g st H) {v : V} (r : Rep K g (.tpl ds) v) : ∃ a vs, v = .ref a ∧ SqT K H a vs ∧ vs.length ≤ sizeLine ∧ Reps K g ds vs := by
  cases r with
  | tpl q l r => exact ⟨_, _, rfl, sqT_mono S.sub q, l, r⟩
theorem Sim.litems (S : Sim K T g st H) {d : D} {v : V} (r : Rep K g d v) (e : litems st d = some xs) : ∃ a vs, v = .ref a ∧ H a = some (.lst vs) ∧ vs.length ≤ sizeLine ∧ Reps K g xs vs := by
  cases r with
  | lst q l r =>
    simp only [PD.litems, Option.some.injEq] at e
    subst e
    exact ⟨_, _, rfl, S.sub _ _ q, l, r⟩
  | ref hl =>
    rename_i l a
    simp only [PD.litems] at e
    cases q : st[l]? with
    | none => rw [q] at e; cases e
    | some mo =>
      rw [q] at e
      cases mo with
      | lst ys =>
        simp only [Option.some.injEq] at e
        subst e
        obtain ⟨vs, _, h2, h3, h4⟩ := S.obj l a _ hl q
        exact ⟨_, vs, rfl, h2, h3, h4⟩
      | _ => cases e
  | _ => cases e
theorem Sim.items (S : Sim K T g st H) {d : D} {v : V} (r : Rep K g d v) (e : items st d = some xs) : ∃ a vs, v = .ref a ∧ (SqL K H a vs ∨ SqT K H a vs) ∧ vs.length ≤ sizeLine ∧ Reps K g xs vs := by
  cases d with
  | tup ys =>
    simp only [PD.items, Option.some.injEq] at e
    subst e
    obtain ⟨a, vs, h1, h2, h3, h4⟩ := S.tup r
    exact ⟨a, vs, h1, .inr h2, h3, h4⟩
  | lst ys =>
    obtain ⟨a, vs, h1, h2, h3, h4⟩ := S.litems (xs := xs) r e
    exact ⟨a, vs, h1, .inl (SqL.of h2), h3, h4⟩
  | fz ys =>
    simp only [PD.items, Option.some.injEq] at e
    subst e
    cases r with
    | fz q l r => exact ⟨_, _, rfl, .inl (sqL_mono S.sub q), l, r⟩
  | ref l =>
    obtain ⟨a, vs, h1, h2, h3, h4⟩ := S.litems (xs := xs) r e
    exact ⟨a, vs, h1, .inl (SqL.of h2), h3, h4⟩
  | _ => cases e
end

/-! ### slots -/
structure EnvR (K : PySem.W.Frag) (g : G) (σ : L2.St) (ρ : Ev) : Prop where
  len : σ.length = ρ.length
  at_ : ∀ (i : Nat) (d : D), ρ[i]? = some (some d) → ∃ v, σ[i]? = some (some v) ∧ Rep K g d v
theorem EnvR.mono {K : PySem.W.Frag} {g g' : G} {σ : L2.St} {ρ : Ev} (h : EnvR K g σ ρ) (q : Ge g g') : EnvR K g' σ ρ :=
  ⟨h.len, fun i d e => let ⟨v, a, b⟩ := h.at_ i d e; ⟨v, a, b.mono q⟩⟩
theorem EnvR.set {K : PySem.W.Frag} {g : G} {σ : L2.St} {ρ : Ev} {d : D} {v : V} (h : EnvR K g σ ρ) (i : Nat) (r : Rep K g d v) : EnvR K g (σ.set i (some v)) (ρ.set i (some d)) := by
  refine ⟨by rw [List.length_set, List.length_set, h.len], fun j e hj => ?_⟩
  by_cases hij : i = j
  · subst hij
    have hi : i < ρ.length := by
      have := (List.getElem?_eq_some_iff.mp hj).1
      rwa [List.length_set] at this
    rw [List.getElem?_set_self hi] at hj
    cases hj
    exact ⟨v, List.getElem?_set_self (by rw [h.len]; exact hi), r⟩
  · rw [List.getElem?_set_ne hij] at hj
    rw [List.getElem?_set_ne hij]
    exact h.at_ j e hj
theorem EnvR.gone {K : PySem.W.Frag} {g : G} {σ : L2.St} {ρ : Ev} (h : EnvR K g σ ρ) (i : Nat) : EnvR K g (σ.set i none) (ρ.set i none) := by
  refine ⟨by rw [List.length_set, List.length_set, h.len], fun j e hj => ?_⟩
  by_cases hij : i = j
  · subst hij
    have hi : i < ρ.length := by
      have := (List.getElem?_eq_some_iff.mp hj).1
      rwa [List.length_set] at this
    rw [List.getElem?_set_self hi] at hj
    cases hj
  · rw [List.getElem?_set_ne hij] at hj
    rw [List.getElem?_set_ne hij]
    exact h.at_ j e hj
theorem EnvR.wipe {K : PySem.W.Frag} {g : G} {σ : L2.St} {ρ : Ev} (h : EnvR K g σ ρ) : ∀ vs : List Nat, EnvR K g (L2.wipe σ vs) (wipeD ρ vs)
  | [] => h
  | v :: vs => (EnvR.wipe h vs).gone v

/-! ### what is wanted -/
/-- the layer's constants: the written part, the tables, the module's names -/
structure Z where
  K : PySem.W.Frag
  T : List (Addr × Str)
  mg : Str → Option Value
def clsV (z : Z) (n : Str) : Value := (z.mg n).getD .none
/-- an exception's own dict -/
def XRep (z : Z) (g : G) (H : Hp) (fs : List (Str × D)) (dx : Option Addr) : Prop :=
  (fs = [] ∧ dx = none) ∨ ∃ a vs, dx = some a ∧ fs ≠ [] ∧ g.B a = some (.xd ((fs.map (·.1)).zip vs)) ∧ Reps z.K g (fs.map (·.2)) vs
def Sat {α : Type} (o : Out α) (P : α → Sto → Prop) (X : Str → List (Str × D) → Sto → Prop) : Prop := match o with
  | .ok a st => P a st
  | .exc n fs st => X n fs st
  | .bad => False
theorem sat_bind {α β : Type} {o : Out α} {f : α → Sto → Out β} {P : β → Sto → Prop} {X : Str → List (Str × D) → Sto → Prop} (h : Sat (o.bind f) P X) : Sat o (fun a st => Sat (f a st) P X) X := by
  cases o <;> exact h
theorem sat_bind' {α β : Type} {o : Out α} {f : α → Sto → Out β} {P : β → Sto → Prop} {X : Str → List (Str × D) → Sto → Prop} (h : Sat o (fun a st => Sat (f a st) P X) X) : Sat (o.bind f) P X := by
  cases o <;> exact h
theorem Sat.mono {α : Type} {o : Out α} {P P' : α → Sto → Prop} {X X' : Str → List (Str × D) → Sto → Prop} (h : Sat o P X) (hp : ∀ a st, P a st → P' a st) (hx : ∀ n fs st, X n fs st → X' n fs st) : Sat o P' X' := by
  cases o with
  | ok a st => exact hp _ _ h
  | exc n fs st => exact hx _ _ _ h
  | bad => exact h
/-- what is wanted of an exception, from g, H on -/
def XPost (z : Z) (W : WX) (σ : L2.St) (g : G) (H : Hp) : Str → List (Str × D) → Sto → Prop := fun n fs st => ∀ g' H' dx, Le g g' H H' → Sim z.K z.T g' st H' → XRep z g' H' fs dx → W (clsV z n) dx σ H'
theorem XPost.mono {z : Z} {W : WX} {σ : L2.St} {g g1 : G} {H H1 : Hp} (l : Le g g1 H H1) {n : Str} {fs : List (Str × D)} {st : Sto} (h : XPost z W σ g H n fs st) : XPost z W σ g1 H1 n fs st :=
  fun g' H' dx l' => h g' H' dx (l.trans l')
def VPost (z : Z) (Q : VK) (g : G) (H : Hp) : D → Sto → Prop := fun d st => ∀ g' H' v, Le g g' H H' → Sim z.K z.T g' st H' → Rep z.K g' d v → Q v H'
theorem VPost.mono {z : Z} {Q : VK} {g g1 : G} {H H1 : Hp} (l : Le g g1 H H1) {d : D} {st : Sto} (h : VPost z Q g H d st) : VPost z Q g1 H1 d st :=
  fun g' H' v l' => h g' H' v (l.trans l')
/-- an expression's value -/
abbrev EPost (z : Z) (W : WX) (σ : L2.St) (Q : VK) (g : G) (H : Hp) (o : Out D) : Prop := Sat o (VPost z Q g H) (XPost z W σ g H)
theorem EPost.mono {z : Z} {W : WX} {σ : L2.St} {Q : VK} {g g1 : G} {H H1 : Hp} {o : Out D} (l : Le g g1 H H1) (h : EPost z W σ Q g H o) : EPost z W σ Q g1 H1 o :=
  Sat.mono h (fun _ _ q => q.mono l) fun _ _ _ q => q.mono l
def BPost (z : Z) (Q : Bool → Hp → Prop) (g : G) (H : Hp) : Bool → Sto → Prop := fun b st => ∀ g' H', Le g g' H H' → Sim z.K z.T g' st H' → Q b H'
abbrev TPost (z : Z) (W : WX) (σ : L2.St) (Q : Bool → Hp → Prop) (g : G) (H : Hp) (o : Out Bool) : Prop := Sat o (BPost z Q g H) (XPost z W σ g H)
theorem TPost.mono {z : Z} {W : WX} {σ : L2.St} {Q : Bool → Hp → Prop} {g g1 : G} {H H1 : Hp} {o : Out Bool} (l : Le g g1 H H1) (h : TPost z W σ Q g H o) : TPost z W σ Q g1 H1 o :=
  Sat.mono h (fun _ _ q g' H' l' => q g' H' (l.trans l')) fun _ _ _ q => q.mono l
def LPost (z : Z) (Q : List V → Hp → Prop) (g : G) (H : Hp) : List D → Sto → Prop := fun ds st => ∀ g' H' vs, Le g g' H H' → Sim z.K z.T g' st H' → Reps z.K g' ds vs → Q vs H'
abbrev APost (z : Z) (W : WX) (σ : L2.St) (Q : List V → Hp → Prop) (g : G) (H : Hp) (o : Out (List D)) : Prop := Sat o (LPost z Q g H) (XPost z W σ g H)
theorem APost.mono {z : Z} {W : WX} {σ : L2.St} {Q : List V → Hp → Prop} {g g1 : G} {H H1 : Hp} {o : Out (List D)} (l : Le g g1 H H1) (h : APost z W σ Q g H o) : APost z W σ Q g1 H1 o :=
  Sat.mono h (fun _ _ q g' H' vs l' => q g' H' vs (l.trans l')) fun _ _ _ q => q.mono l
/-- behind a statement -/
def SPost (z : Z) (W : WX) (D : Ends) (g : G) (H : Hp) (r : Option (Fl × Sto)) : Prop := match r with
  | none => False
  | some (fl, st) => ∀ g' H', Le g g' H H' → Sim z.K z.T g' st H' → match fl with
    | .nx ρ => ∀ σ, EnvR z.K g' σ ρ → D.nx σ H'
    | .rt d => ∀ v, Rep z.K g' d v → D.rt v H'
    | .bk ρ => ∀ σ, EnvR z.K g' σ ρ → D.bk σ H'
    | .ct ρ => ∀ σ, EnvR z.K g' σ ρ → D.ct σ H'
    | .ex n fs ρ => ∀ σ dx, EnvR z.K g' σ ρ → XRep z g' H' fs dx → W (clsV z n) dx σ H'
theorem SPost.mono {z : Z} {W : WX} {D : Ends} {g g1 : G} {H H1 : Hp} {r : Option (Fl × Sto)} (l : Le g g1 H H1) (h : SPost z W D g H r) : SPost z W D g1 H1 r := by
  cases r with
  | none => exact h
  | some p => obtain ⟨fl, st⟩ := p; exact fun g' H' l' => h g' H' (l.trans l')
/-- from what is wanted of a statement made of an Out -/
theorem st_sat {α : Type} {z : Z} {W : WX} {D : Ends} {g : G} {H : Hp} {o : Out α} {ρ : Ev} {σ : L2.St} {k : α → Sto → Option (Fl × Sto)} (E : EnvR z.K g σ ρ) (h : SPost z W D g H (o.st ρ k)) : Sat o (fun a st => SPost z W D g H (k a st)) (XPost z W σ g H) := by
  cases o with
  | ok a st => exact h
  | exc n fs st => exact fun g' H' dx l S x => h g' H' l S σ dx (E.mono l.ge) x
  | bad => exact h

/-! ### readings -/
def tD (z : Z) (W : WX) (f : SE) : TE := fun σ H Q => ∃ g ρ st, Sim z.K z.T g st H ∧ EnvR z.K g σ ρ ∧ EPost z W σ Q g H (f ρ st)
def tDT (z : Z) (W : WX) (f : ST) : TT := fun σ H Q => ∃ g ρ st, Sim z.K z.T g st H ∧ EnvR z.K g σ ρ ∧ TPost z W σ Q g H (f ρ st)
def tDA (z : Z) (W : WX) (f : SA) : TA := fun σ H Q => ∃ g ρ st, Sim z.K z.T g st H ∧ EnvR z.K g σ ρ ∧ APost z W σ Q g H (f ρ st)
def tDS (z : Z) (W : WX) (f : SS) : TS := fun D σ H => ∃ g ρ st, Sim z.K z.T g st H ∧ EnvR z.K g σ ρ ∧ SPost z W D g H (f ρ st)
/-- an iterator J gives the items ds -/
structure WalkD (z : Z) (g : G) (J : It) (ds : List D) (dy : Dy) : Prop where
  go : ∀ g2 H2 st2 (i : Nat) (d0 d : D), Ge g g2 → Sim z.K z.T g2 st2 H2 → ds[i]? = some d0 → fetch dy i d0 st2 = some d →
    J.go i H2 ∧ ∀ x H3, J.yld i H2 x H3 → ∃ g3, Le g2 g3 H2 H3 ∧ Sim z.K z.T g3 st2 H3 ∧ Rep z.K g3 d x
  stop : ∀ g2 H2 st2, Ge g g2 → Sim z.K z.T g2 st2 H2 → finOk dy ds.length st2 = true → J.stop ds.length H2
def IPost (z : Z) (R : It → Hp → Prop) (g : G) (H : Hp) : List D × Dy → Sto → Prop := fun p st => ∀ g' H' J, Le g g' H H' → Sim z.K z.T g' st H' → WalkD z g' J p.1 p.2 → R J H'
def tDI (z : Z) (W : WX) (f : SI) : TI := fun σ H R => ∃ g ρ st, Sim z.K z.T g st H ∧ EnvR z.K g σ ρ ∧ Sat (f ρ st) (IPost z R g H) (XPost z W σ g H)

theorem PE.wk {X : Cx} {e : Expr} {t t' : TE} (h : PE X e t) (k : ∀ σ H Q, t' σ H Q → t σ H Q) : PE X e t' := ⟨fun pins s σ H Q I q => h.run pins s σ H Q I (k σ H Q q)⟩
theorem PT.wk {X : Cx} {e : Expr} {t t' : TT} (h : PT X e t) (k : ∀ σ H Q, t' σ H Q → t σ H Q) : PT X e t' := ⟨fun pins s σ H Q I q => h.run pins s σ H Q I (k σ H Q q)⟩
theorem PW.wk {X : Cx} {e : Expr} {t t' : TT} (h : PW X e t) (k : ∀ σ H Q, t' σ H Q → t σ H Q) : PW X e t' := ⟨fun wh pins s σ H Q I q => h.run wh pins s σ H Q I (k σ H Q q)⟩
theorem PA.wk {X : Cx} {es : List Expr} {t t' : TA} (h : PA X es t) (k : ∀ σ H Q, t' σ H Q → t σ H Q) : PA X es t' := ⟨fun pos pins s σ H Q I q => h.run pos pins s σ H Q I (k σ H Q q)⟩
theorem PS.wk {X : Cx} {e : Stmt} {t t' : TS} (h : PS X e t) (k : ∀ D σ H, t' D σ H → t D σ H) : PS X e t' := ⟨fun pins s σ H D I q => h.run pins s σ H D I (k D σ H q)⟩
theorem PSs.wk {X : Cx} {e : List Stmt} {t t' : TS} (h : PSs X e t) (k : ∀ D σ H, t' D σ H → t D σ H) : PSs X e t' := ⟨fun pins s σ H D I q => h.run pins s σ H D I (k D σ H q)⟩
theorem PI.wk {X : Cx} {tg e : Expr} {t t' : TI} (h : PI X tg e t) (k : ∀ σ H R, t' σ H R → t σ H R) : PI X tg e t' := ⟨fun pins s σ H R I q => h.run pins s σ H R I (k σ H R q)⟩
end PD
/-! PDRules: for each piece of Python its rule over the data. -/
namespace PD
open PySem PySem.Spec PyProof.Rows L2

abbrev zX (X : Cx) (T : List (Addr × Str)) : Z := ⟨X.K, T, X.mg⟩

section
variable {X : Cx} {T : List (Addr × Str)} {W : WX} {a b c e : Expr} {es : List Expr} {fa fb fc fe : SE} {fs : SA} {ft fu : ST} {pos p : Pos} {x : Str}

/-! ### names, constants -/
theorem pd_var {i : Nat} (hN : X.N[i]? = some x) (hv : Vis X.env.scope x) (hd : (x == ("__debug__" : Str)) = false := by decide) (hcd : (x == ("__classdict__" : Str)) = false := by decide) : PE X (.Name x pos) (tD (zX X T) W (sVar i)) :=
  PE.wk (pe_var hN hv hd hcd) fun σ H Q ⟨g, ρ, st, S, E, h⟩ => by
    unfold sVar at h
    split at h
    · rename_i d hd
      obtain ⟨v, e1, r⟩ := E.at_ _ _ hd
      exact ⟨v, e1, h g H v (Le.refl g H) S r⟩
    · exact h.elim
theorem EPost.val {z : Z} {W : WX} {σ : L2.St} {Q : VK} {g : G} {H : Hp} {d : D} {st : Sto} {v : V} (S : Sim z.K z.T g st H) (r : ∀ g, Rep z.K g d v) (h : EPost z W σ Q g H (.ok d st)) : Q v H := h g H v (Le.refl g H) S (r g)
theorem pd_int {i : Int} {j : Nat} : PE X (.Constant (.int i) j pos) (tD (zX X T) W (sC (.int i))) := PE.wk pe_int fun σ H Q ⟨g, ρ, st, S, E, h⟩ => EPost.val S (fun _ => .int i) h
theorem pd_bl {i : Bool} {j : Nat} : PE X (.Constant (.bool i) j pos) (tD (zX X T) W (sC (.bl i))) := PE.wk pe_bl fun σ H Q ⟨g, ρ, st, S, E, h⟩ => EPost.val S (fun _ => .bl i) h
theorem pd_non {j : Nat} : PE X (.Constant .none j pos) (tD (zX X T) W (sC .non)) := PE.wk pe_non fun σ H Q ⟨g, ρ, st, S, E, h⟩ => EPost.val S (fun _ => .non) h
theorem pd_str {i : Str} {j : Nat} : PE X (.Constant (.str i) j pos) (tD (zX X T) W (sC (.str i))) := PE.wk pe_str fun σ H Q ⟨g, ρ, st, S, E, h⟩ => EPost.val S (fun _ => .str i) h
/-- a number, a text of the top -/
theorem pd_gint {i : Int} (hg : Gl X x) (hm : ∃ t, X.mg x = some (.int i t)) (hd : (x == ("__debug__" : Str)) = false := by decide) : PE X (.Name x pos) (tD (zX X T) W (sC (.int i))) := by
  obtain ⟨t, hm⟩ := hm
  exact PE.wk (pe_glob (v := .int i) hg hm ⟨t, rfl⟩ hd) fun σ H Q ⟨g, ρ, st, S, E, h⟩ => EPost.val S (fun _ => .int i) h
theorem pd_gstr {i : Str} (hg : Gl X x) (hm : ∃ t, X.mg x = some (.str i t)) (hd : (x == ("__debug__" : Str)) = false := by decide) : PE X (.Name x pos) (tD (zX X T) W (sC (.str i))) := by
  obtain ⟨t, hm⟩ := hm
  exact PE.wk (pe_glob (v := .str i) hg hm ⟨t, rfl⟩ hd) fun σ H Q ⟨g, ρ, st, S, E, h⟩ => EPost.val S (fun _ => .str i) h

/-! ### two-place operations -/
/-- f is what r does -/
def Does2 (X : Cx) (T : List (Addr × Str)) (r : R2) (f : D → D → Sto → Out D) : Prop :=
  ∀ (W : WX) (σ : L2.St) (g : G) (st : Sto) (H : Hp) (dx dy : D) (x y : V) (Q : VK), Sim X.K T g st H → Rep X.K g dx x → Rep X.K g dy y → EPost (zX X T) W σ Q g H (f dx dy st) → r x y H Q
theorem wk2 {r : R2} {f : D → D → Sto → Out D} (h : Does2 X T r f) : ∀ σ H Q, tD (zX X T) W (s2 f fa fb) σ H Q → tOp r (tD (zX X T) W fa) (tD (zX X T) W fb) σ H Q := by
  rintro σ H Q ⟨g, ρ, st, S, E, q⟩
  refine ⟨g, ρ, st, S, E, Sat.mono (sat_bind q) (fun d st1 q1 g1 H1 v L1 S1 r1 => ?_) fun _ _ _ q => q⟩
  refine ⟨g1, ρ, st1, S1, E.mono L1.ge, Sat.mono (sat_bind q1) (fun d2 st2 q2 g2 H2 v2 L2 S2 r2 => ?_) fun _ _ _ q => q.mono L1⟩
  exact h W σ g2 st2 H2 d d2 v v2 Q S2 (r1.mono L2.ge) r2 (EPost.mono (L1.trans L2) q2)
theorem pd_op {op : Operator} {r : R2} {f : D → D → Sto → Out D} (ho : OpR X (binaryOp op) r) (h : Does2 X T r f) (ha : PE X a (tD (zX X T) W fa)) (hb : PE X b (tD (zX X T) W fb)) : PE X (.BinOp a op b pos) (tD (zX X T) W (s2 f fa fb)) := PE.wk (pe_op ho ha hb) (wk2 h)
theorem pd_cmp {op : CmpOp} {r : R2} {f : D → D → Sto → Out D} (ho : OpR X (compareOp op) r) (h : Does2 X T r f) (ha : PE X a (tD (zX X T) W fa)) (hb : PE X b (tD (zX X T) W fb)) (hm : behindInMarks op b = false) : PE X (.Compare a [op] [b] pos) (tD (zX X T) W (s2 f fa fb)) := PE.wk (pe_cmpR ho ha hb hm) (wk2 h)
/-- a reading whose value is a bool, as a test -/
theorem wkB {t : TE} {f : SE} (h : ∀ σ H Q, tD (zX X T) W f σ H Q → t σ H Q) : ∀ σ H Q, tDT (zX X T) W (tBl f) σ H Q → tTest t σ H Q := by
  rintro σ H Q ⟨g, ρ, st, S, E, q⟩
  refine h σ H _ ⟨g, ρ, st, S, E, Sat.mono (sat_bind q) (fun d st1 q1 g1 H1 v L1 S1 r1 => ?_) fun _ _ _ q => q⟩
  cases d with
  | bl k => cases r1; exact ⟨k, rfl, q1 g1 H1 L1 S1⟩
  | _ => exact q1.elim
theorem pt_cmpD {op : CmpOp} {r : R2} {f : D → D → Sto → Out D} (ho : OpR X (compareOp op) r) (h : Does2 X T r f) (ha : PE X a (tD (zX X T) W fa)) (hb : PE X b (tD (zX X T) W fb)) (hm : behindInMarks op b = false) : PT X (.Compare a [op] [b] pos) (tDT (zX X T) W (tBl (s2 f fa fb))) := PT.wk (pt_cmpR ho ha hb hm) (wkB (wk2 h))

theorem does_add : Does2 X T (fun x y H Q => (rI0 fun i j => V.int (i + j)) x y H Q ∨ (∃ i j, x = .str i ∧ y = .str j ∧ i.length + j.length ≤ sizeLine ∧ Q (.str (i ++ j)) H) ∨ rCatN X.K x y H Q ∨ rCat x y H Q) fAdd := by
  intro W σ g st H dx dy x y Q S rx ry h
  unfold fAdd at h
  split at h
  · cases rx; cases ry; exact .inl ⟨_, _, rfl, rfl, EPost.val S (fun _ => .int _) h⟩
  · cases rx; cases ry
    split at h
    · rename_i hz
      exact .inr (.inl ⟨_, _, rfl, rfl, hz, EPost.val S (fun _ => .str _) h⟩)
    · exact h.elim
  · rename_i xs ys
    split at h
    · rename_i hz
      obtain ⟨a, vs, rfl, h1, h2, h3⟩ := S.tup rx
      obtain ⟨b, ws, rfl, k1, k2, k3⟩ := S.tup ry
      have e1 := h3.length
      have e2 := k3.length
      have rall := h3.append k3
      refine .inr (.inr (.inl ⟨a, b, vs, ws, rfl, rfl, h1, k1, by omega, fun z => ?_, fun z z2 => ?_, fun z z2 p o hp ho => ?_⟩))
      · subst z
        have : xs = [] := by cases h3; rfl
        subst this
        exact h g H _ (Le.refl g H) S ry
      · subst z2
        have : ys = [] := by cases k3; rfl
        subst this
        rw [List.append_nil] at h
        exact h g H _ (Le.refl g H) S rx
      · obtain ⟨S', L'⟩ := S.allocB (o := .frz o (.tup (vs ++ ws))) hp (fun _ => by simp)
        exact h _ _ _ L' S' (.tup (SqN.of ho) (by rw [List.length_append]; omega) (rall.mono L'.ge))
    · exact h.elim
  · split at h
    · rename_i xs ys q1 q2
      split at h
      · rename_i hz
        obtain ⟨a, vs, rfl, h1, h2, h3⟩ := S.litems rx q1
        obtain ⟨b, ws, rfl, k1, k2, k3⟩ := S.litems ry q2
        have e1 := h3.length
        have e2 := k3.length
        refine .inr (.inr (.inr ⟨a, b, vs, ws, rfl, rfl, h1, k1, by omega, fun p hp => ?_⟩))
        obtain ⟨S', L'⟩ := S.allocB (o := .lst (vs ++ ws)) hp (fun _ => by simp)
        exact h _ _ _ L' S' (.lst upd_same (by rw [List.length_append]; omega) ((h3.append k3).mono L'.ge))
      · exact h.elim
    · exact h.elim
theorem or_add : OpR X (binaryOp .Add) (fun x y H Q => (rI0 fun i j => V.int (i + j)) x y H Q ∨ (∃ i j, x = .str i ∧ y = .str j ∧ i.length + j.length ≤ sizeLine ∧ Q (.str (i ++ j)) H) ∨ rCatN X.K x y H Q ∨ rCat x y H Q) :=
  op_add.or (op_add_str.or (op_catN.or op_cat))
theorem pd_add (ha : PE X a (tD (zX X T) W fa)) (hb : PE X b (tD (zX X T) W fb)) : PE X (.BinOp a .Add b pos) (tD (zX X T) W (s2 fAdd fa fb)) := pd_op or_add does_add ha hb
theorem pd_sub (ha : PE X a (tD (zX X T) W fa)) (hb : PE X b (tD (zX X T) W fb)) : PE X (.BinOp a .Sub b pos) (tD (zX X T) W (s2 fSub fa fb)) := pd_op op_sub (by
  intro W σ g st H dx dy x y Q S rx ry h
  unfold fSub at h
  split at h
  · cases rx; cases ry; exact ⟨_, _, rfl, rfl, EPost.val S (fun _ => .int _) h⟩
  · exact h.elim) ha hb
theorem small_ok {i : Int} (h : small i = true) : -(2 ^ 64) < i ∧ i < 2 ^ 64 := by
  unfold small at h
  simpa [Bool.and_eq_true] using h
theorem pd_mul (ha : PE X a (tD (zX X T) W fa)) (hb : PE X b (tD (zX X T) W fb)) : PE X (.BinOp a .Mult b pos) (tD (zX X T) W (s2 fMul fa fb)) := pd_op op_mul (by
  intro W σ g st H dx dy x y Q S rx ry h
  unfold fMul at h
  split at h
  · split at h
    · rename_i hz
      cases rx; cases ry
      refine ⟨_, _, rfl, rfl, ?_, EPost.val S (fun _ => .int _) h⟩
      rcases Bool.or_eq_true_iff.mp hz with z | z
      · exact .inl (small_ok z)
      · exact .inr (small_ok z)
    · exact h.elim
  · exact h.elim) ha hb
theorem pd_div (ha : PE X a (tD (zX X T) W fa)) (hb : PE X b (tD (zX X T) W fb)) : PE X (.BinOp a .FloorDiv b pos) (tD (zX X T) W (s2 fDiv fa fb)) := pd_op op_fdiv (by
  intro W σ g st H dx dy x y Q S rx ry h
  unfold fDiv at h
  split at h
  · split at h
    · rename_i hz
      cases rx; cases ry
      exact ⟨_, _, rfl, rfl, hz, EPost.val S (fun _ => .int _) h⟩
    · exact h.elim
  · exact h.elim) ha hb
theorem pd_mod (ha : PE X a (tD (zX X T) W fa)) (hb : PE X b (tD (zX X T) W fb)) : PE X (.BinOp a .Mod b pos) (tD (zX X T) W (s2 fMod fa fb)) := pd_op op_mod (by
  intro W σ g st H dx dy x y Q S rx ry h
  unfold fMod at h
  split at h
  · split at h
    · rename_i hz
      cases rx; cases ry
      exact ⟨_, _, rfl, rfl, hz, EPost.val S (fun _ => .int _) h⟩
    · exact h.elim
  · exact h.elim) ha hb
theorem pd_pow (ha : PE X a (tD (zX X T) W fa)) (hb : PE X b (tD (zX X T) W fb)) : PE X (.BinOp a .Pow b pos) (tD (zX X T) W (s2 fPow fa fb)) := pd_op op_pow (by
  intro W σ g st H dx dy x y Q S rx ry h
  unfold fPow at h
  split at h
  · split at h
    · rename_i hz
      cases rx; cases ry
      exact ⟨_, _, rfl, rfl, ⟨hz.1, hz.2.1, Nat.lt_of_le_of_lt hz.2.2 (by decide +kernel)⟩, EPost.val S (fun _ => .int _) h⟩
    · exact h.elim
  · exact h.elim) ha hb
/-- a new list lies at p -/
theorem newL_ok {m : Bool} {σ : L2.St} {Q : VK} {g : G} {H : Hp} {st : Sto} {xs : List D} {vs : List V} (S : Sim X.K T g st H) (hz : vs.length ≤ sizeLine) (r : Reps X.K g xs vs) (h : EPost (zX X T) W σ Q g H (newL m xs st)) :
    ∀ p, H p = none → Q (.ref p) (upd H p (.lst vs)) := fun p hp => by
  cases m with
  | true =>
    obtain ⟨S', L', r'⟩ := S.allocM hp hz r
    exact h _ _ _ L' S' r'
  | false =>
    obtain ⟨S', L'⟩ := S.allocB (o := .lst vs) hp (fun _ => by simp)
    exact h _ _ _ L' S' (.lst upd_same hz (r.mono L'.ge))
/-- xs * n -/
theorem pd_rep (m : Bool) (ha : PE X a (tD (zX X T) W fa)) (hb : PE X b (tD (zX X T) W fb)) : PE X (.BinOp a .Mult b pos) (tD (zX X T) W (s2 (fRep m) fa fb)) := pd_op op_rep (by
  intro W σ g st H dx dy x y Q S rx ry h
  unfold fRep at h
  split at h
  · rename_i xs k q
    split at h
    · rename_i hz
      obtain ⟨a, vs, rfl, h1, h2, h3⟩ := S.litems rx q
      cases ry
      have e1 := h3.length
      refine ⟨a, k, vs, rfl, rfl, h1, Int.le_trans (by decide +kernel) hz.1, Int.lt_of_le_of_lt hz.2.1 (by decide +kernel), by rw [← e1]; exact hz.2.2, newL_ok S ?_ (h3.replicate _) h⟩
      have : ((List.replicate k.toNat vs).flatten).length = k.toNat * vs.length := by simp [List.length_flatten]
      rw [this, Nat.mul_comm, ← e1]; exact hz.2.2
    · exact h.elim
  · exact h.elim) ha hb

/-! ### comparisons -/
theorem does_cmp {q : Int → Int → Bool} : Does2 X T (rI0 fun i j => .bl (q i j)) (fCmp q) := by
  intro W σ g st H dx dy x y Q S rx ry h
  unfold fCmp at h
  split at h
  · cases rx; cases ry; exact ⟨_, _, rfl, rfl, EPost.val S (fun _ => .bl _) h⟩
  · exact h.elim
theorem atomPy_dp {g : G} {K : PySem.W.Frag} {H : Hp} {d : D} {v : V} {p : PyData} (r : Rep K g d v) (e : atomPy d = some p) : Dp K H v p ∧ p.canLay0 = true ∧ p.depth = 0 := by
  cases d with
  | non => cases r; cases e; exact ⟨.non, rfl, rfl⟩
  | bl b => cases r; cases e; exact ⟨.bl b, rfl, rfl⟩
  | int b => cases r; cases e; exact ⟨.int b, rfl, rfl⟩
  | str b =>
    cases r
    unfold atomPy at e
    dsimp only at e
    split at e
    · rename_i hc
      cases e; exact ⟨.str b, hc, rfl⟩
    · cases e
  | _ => cases e
theorem allSome_cons {α : Type} {x : Option α} {r : List (Option α)} {ys : List α} (h : allSome (x :: r) = some ys) : ∃ y ys', x = some y ∧ allSome r = some ys' ∧ ys = y :: ys' := by
  cases x with
  | none => cases h
  | some y =>
    unfold allSome at h
    cases q : allSome r with
    | none => rw [q] at h; cases h
    | some ys' => rw [q] at h; cases h; exact ⟨y, ys', rfl, rfl, rfl⟩
theorem depthAll_cons {x : PyData} {xs : List PyData} : PyData.depthAll (x :: xs) = max x.depth (PyData.depthAll xs) := rfl
/-- what the data are as plain data -/
theorem toPy_dp {g : G} {K : PySem.W.Frag} {st : Sto} {H : Hp} (S : Sim K T g st H) : ∀ (n : Nat) {d : D} {v : V} {p : PyData}, Rep K g d v → toPy st n d = some p → Dp K H v p ∧ p.canLay0 = true ∧ p.depth ≤ n
  | 0, d, v, p, r, e => by
    obtain ⟨h1, h2, h3⟩ := atomPy_dp (H := H) r e
    exact ⟨h1, h2, by omega⟩
  | n + 1, d, v, p, r, e => by
    have all : ∀ (xs : List D) {vs : List V} {ps : List PyData}, Reps K g xs vs → allSome (xs.map (toPy st n)) = some ps → DpAll K H vs ps ∧ PyData.canLayAll0 ps = true ∧ PyData.depthAll ps ≤ n := by
      intro xs
      induction xs with
      | nil => intro vs ps r e; cases r; cases e; exact ⟨.nil, rfl, Nat.zero_le _⟩
      | cons x xs ih =>
        intro vs ps r e
        rw [List.map_cons] at e
        obtain ⟨y, ys, e1, e2, rfl⟩ := allSome_cons e
        cases r with
        | cons r1 r2 =>
          obtain ⟨h1, h2, h3⟩ := toPy_dp S n r1 e1
          obtain ⟨k1, k2, k3⟩ := ih r2 e2
          refine ⟨.cons h1 k1, ?_, ?_⟩
          · show (PyData.canLay0 y && PyData.canLayAll0 ys) = true
            rw [h2, k2]; rfl
          · rw [depthAll_cons]; omega
    cases d with
    | tup xs =>
      obtain ⟨a, vs, rfl, h1, h2, h3⟩ := S.tup r
      unfold toPy at e
      dsimp only at e
      cases q : allSome (xs.map (toPy st n)) with
      | none => rw [q] at e; cases e
      | some ps =>
        rw [q] at e; cases e
        obtain ⟨k1, k2, k3⟩ := all xs h3 q
        exact ⟨.tup h1 k1, k2, Nat.succ_le_succ k3⟩
    | tpl xs => cases e
    | fn x => cases e
    | xc _ _ _ _ => cases e
    | lst xs =>
      obtain ⟨a, vs, rfl, h1, h2, h3⟩ := S.litems (xs := xs) r rfl
      unfold toPy at e
      dsimp only at e
      cases q : allSome (xs.map (toPy st n)) with
      | none => rw [q] at e; cases e
      | some ps =>
        rw [q] at e; cases e
        obtain ⟨k1, k2, k3⟩ := all xs h3 q
        exact ⟨.lst (SqL.of h1) k1, k2, Nat.succ_le_succ k3⟩
    | ref l =>
      unfold toPy at e
      dsimp only at e
      cases hs : st[l]? with
      | none => rw [hs] at e; cases e
      | some mo =>
        rw [hs] at e
        cases mo with
        | lst xs =>
          dsimp only at e
          obtain ⟨a, vs, rfl, h1, h2, h3⟩ := S.litems (xs := xs) r (by unfold litems; dsimp only; rw [hs])
          cases q : allSome (xs.map (toPy st n)) with
          | none => rw [q] at e; cases e
          | some ps =>
            rw [q] at e; cases e
            obtain ⟨k1, k2, k3⟩ := all xs h3 q
            exact ⟨.lst (SqL.of h1) k1, k2, Nat.succ_le_succ k3⟩
        | _ => cases e
    | non => obtain ⟨h1, h2, h3⟩ := atomPy_dp (H := H) r (show atomPy .non = some p from e); exact ⟨h1, h2, by omega⟩
    | bl b => obtain ⟨h1, h2, h3⟩ := atomPy_dp (H := H) r (show atomPy (.bl b) = some p from e); exact ⟨h1, h2, by omega⟩
    | int b => obtain ⟨h1, h2, h3⟩ := atomPy_dp (H := H) r (show atomPy (.int b) = some p from e); exact ⟨h1, h2, by omega⟩
    | str b => obtain ⟨h1, h2, h3⟩ := atomPy_dp (H := H) r (show atomPy (.str b) = some p from e); exact ⟨h1, h2, by omega⟩
    | fz xs => cases (show (none : Option PyData) = some p from e)
    | dk ks xs => cases (show (none : Option PyData) = some p from e)
    | raw v => cases (show (none : Option PyData) = some p from e)
theorem shaped_of {p : PyData} (h : p.canLay0 = true) (h2 : p.depth ≤ 64) : SeqAt.shaped p = true := by
  unfold SeqAt.shaped
  rw [h, decide_eq_true h2]; rfl
theorem toPys_dp {g : G} {K : PySem.W.Frag} {st : Sto} {H : Hp} (S : Sim K T g st H) (n : Nat) {xs : List D} {vs : List V} {ps : List PyData} (r : Reps K g xs vs) (e : toPys st n xs = some ps) : DpAll K H vs ps ∧ PyData.canLayAll0 ps = true ∧ PyData.depthAll ps ≤ n := by
  unfold toPys at e
  induction xs generalizing vs ps with
  | nil => cases r; cases e; exact ⟨.nil, rfl, Nat.zero_le _⟩
  | cons x xs ih =>
    rw [List.map_cons] at e
    obtain ⟨y, ys, e1, e2, rfl⟩ := allSome_cons e
    cases r with
    | cons r1 r2 =>
      obtain ⟨h1, h2, h3⟩ := toPy_dp S n r1 e1
      obtain ⟨k1, k2, k3⟩ := ih r2 e2
      refine ⟨.cons h1 k1, ?_, ?_⟩
      · show (PyData.canLay0 y && PyData.canLayAll0 ys) = true
        rw [h2, k2]; rfl
      · rw [depthAll_cons]; omega
theorem does_eq : Does2 X T (rEqD X.K) fEq := by
  intro W σ g st H dx dy x y Q S rx ry h
  unfold fEq at h
  split at h
  · rename_i p q e1 e2
    obtain ⟨h1, h2, h3⟩ := toPy_dp S 60 rx e1
    obtain ⟨k1, k2, k3⟩ := toPy_dp S 60 ry e2
    exact ⟨p, q, h1, k1, shaped_of h2 (by omega), shaped_of k2 (by omega), EPost.val S (fun _ => .bl _) h⟩
  · exact h.elim
theorem does_ne : Does2 X T (rNeD X.K) fNe := by
  intro W σ g st H dx dy x y Q S rx ry h
  unfold fNe at h
  split at h
  · rename_i p q e1 e2
    obtain ⟨h1, h2, h3⟩ := toPy_dp S 60 rx e1
    obtain ⟨k1, k2, k3⟩ := toPy_dp S 60 ry e2
    exact ⟨p, q, h1, k1, shaped_of h2 (by omega), shaped_of k2 (by omega), EPost.val S (fun _ => .bl _) h⟩
  · exact h.elim
theorem isNon_rep {K : PySem.W.Frag} {g : G} {d : D} {v : V} (r : Rep K g d v) (h : rawD d = false) : decide (v = .non) = isNonD d := by
  cases r <;> first | rfl | exact absurd (show true = false from h) (by decide)
theorem does_isN : Does2 X T (fun x y H Q => y = .non ∧ Q (.bl (decide (x = .non))) H) fIsN2 := by
  intro W σ g st H dx dy x y Q S rx ry h
  cases dy with
  | non =>
    have h : EPost (zX X T) W σ Q g H (fIsN dx st) := h
    unfold fIsN at h
    cases ry
    split at h
    · exact h.elim
    · rename_i hr
      refine ⟨rfl, ?_⟩
      rw [isNon_rep rx (by simpa using hr)]
      exact EPost.val S (fun _ => .bl _) h
  | _ => exact h.elim
theorem does_notN : Does2 X T (fun x y H Q => y = .non ∧ Q (.bl (!decide (x = .non))) H) fNotN2 := by
  intro W σ g st H dx dy x y Q S rx ry h
  cases dy with
  | non =>
    have h : EPost (zX X T) W σ Q g H (fNotN dx st) := h
    unfold fNotN at h
    cases ry
    split at h
    · exact h.elim
    · rename_i hr
      refine ⟨rfl, ?_⟩
      rw [isNon_rep rx (by simpa using hr)]
      exact EPost.val S (fun _ => .bl _) h
  | _ => exact h.elim
theorem flat_eq {K : PySem.W.Frag} {g : G} {st : Sto} {n : Nat} {d e : D} {v w : V} {p q : PyData} (rd : Rep K g d v) (re : Rep K g e w) (hd : flatD d = true) (he : flatD e = true) (h1 : toPy st n d = some p) (h2 : toPy st n e = some q) : flatV v = true ∧ PyData.eqv p q = eqV v w := by
  have a1 : atomPy d = some p := by cases d <;> first | (cases n <;> exact h1) | exact absurd (show false = true from hd) Bool.false_ne_true
  have a2 : atomPy e = some q := by cases e <;> first | (cases n <;> exact h2) | exact absurd (show false = true from he) Bool.false_ne_true
  have s1 : ∀ {s : Str} {p : PyData}, atomPy (.str s) = some p → p = .str s := fun {s p} h => by
    unfold atomPy at h
    dsimp only at h
    split at h
    · cases h; rfl
    · cases h
  cases rd <;> first
    | exact absurd (show false = true from hd) Bool.false_ne_true
    | (cases re <;> first
        | exact absurd (show false = true from he) Bool.false_ne_true
        | (refine ⟨rfl, ?_⟩
           first
             | (have b1 := s1 a1; have b2 := s1 a2; subst b1; subst b2; done)
             | (have b1 := s1 a1; have b2 := s1 a2; subst b1; subst b2; rfl)
             | (have b1 := s1 a1; subst b1; cases a2; rfl)
             | (have b2 := s1 a2; subst b2; cases a1; rfl)
             | (cases a1; cases a2; rfl)))
end
end PD
/-! PDRules2: membership, truth, arguments, displays, calls, subscripts. -/
namespace PD
open PySem PySem.Spec PyProof.Rows L2
section
variable {X : Cx} {T : List (Addr × Str)} {W : WX} {a b c e : Expr} {es : List Expr} {fa fb fc fe : SE} {fs : SA} {ft fu : ST} {pos p : Pos} {x : Str}

/-! ### in, not in -/
def rInA (K : PySem.W.Frag) : R2 := fun x y H Q => rIn K false x y H Q ∨ rInD K x y H Q
def rNotInA (K : PySem.W.Frag) : R2 := fun x y H Q => rIn K true x y H Q ∨ rNotInD K x y H Q
theorem flats {K : PySem.W.Frag} {g : G} {st : Sto} {n : Nat} {d : D} {v : V} {p : PyData} (rd : Rep K g d v) (hd : flatD d = true) (h1 : toPy st (n + 1) d = some p) :
    ∀ {ys : List D} {vs : List V} {ps : List PyData}, Reps K g ys vs → ys.all flatD = true → toPys st n ys = some ps → vs.all flatV = true ∧ inPy p ps = inV v vs := by
  have h1' : toPy st n d = some p := by
    cases d <;> first | (cases n <;> exact h1) | exact absurd (show false = true from hd) Bool.false_ne_true
  intro ys
  induction ys with
  | nil => intro vs ps r _ e; cases r; cases e; exact ⟨rfl, rfl⟩
  | cons y ys ih =>
    intro vs ps r ha e
    unfold toPys at e
    rw [List.map_cons] at e
    obtain ⟨q, qs, e1, e2, rfl⟩ := allSome_cons e
    cases r with
    | cons r1 r2 =>
      rw [List.all_cons, Bool.and_eq_true_iff] at ha
      obtain ⟨k1, k2⟩ := ih r2 ha.2 e2
      obtain ⟨f1, f2⟩ := flat_eq r1 rd ha.1 hd e1 h1'
      refine ⟨by rw [List.all_cons, f1, k1]; rfl, ?_⟩
      unfold inPy inV at k2 ⊢
      rw [List.any_cons, List.any_cons, f2, k2]
theorem flatV_of {K : PySem.W.Frag} {g : G} {d : D} {v : V} (rd : Rep K g d v) (hd : flatD d = true) : flatV v = true := by
  cases rd <;> first | rfl | exact absurd (show false = true from hd) Bool.false_ne_true
theorem in_core {g : G} {st : Sto} {H : Hp} {dx dy : D} {x y : V} {P : Bool → Prop} (S : Sim X.K T g st H) (rx : Rep X.K g dx x) (ry : Rep X.K g dy y)
    (h : Sat (fIn0 dx dy st) (fun b st' => st' = st → P b) (fun _ _ _ => False)) :
    (∃ p xs, y = .ref p ∧ (SqL X.K H p xs ∨ SqT X.K H p xs) ∧ flatV x = true ∧ xs.all flatV = true ∧ P (inV x xs)) ∨
      (∃ d ds, Dp X.K H x d ∧ Dp X.K H y (.list ds) ∧ SeqAt.shaped d = true ∧ SeqAt.shaped (.list ds) = true ∧ P (ds.any fun z => PyData.eqv z d)) := by
  unfold fIn0 at h
  split at h
  · rename_i p e1
    split at h
    · rename_i ys
      split at h
      · rename_i hf
        rw [Bool.and_eq_true_iff] at hf
        split at h
        · rename_i ps e2
          obtain ⟨a, vs, rfl, h1, h2, h3⟩ := S.tup ry
          obtain ⟨k1, k2⟩ := flats rx hf.1 e1 h3 hf.2 e2
          refine .inl ⟨a, vs, rfl, .inr h1, flatV_of rx hf.1, k1, ?_⟩
          rw [← k2]; exact h rfl
        · exact h.elim
      · exact h.elim
    · split at h
      · rename_i ys e3
        split at h
        · rename_i ps e2
          obtain ⟨a, vs, rfl, h1, h2, h3⟩ := S.litems ry e3
          obtain ⟨q1, q2, q3⟩ := toPy_dp S 60 rx e1
          obtain ⟨k1, k2, k3⟩ := toPys_dp S 59 h3 e2
          exact .inr ⟨p, ps, q1, .lst (SqL.of h1) k1, shaped_of q2 (by omega), shaped_of (p := .list ps) k2 (by show PyData.depthAll ps + 1 ≤ 64; omega), h rfl⟩
        · exact h.elim
      · exact h.elim
  · exact h.elim
theorem fIn0_st {x y : D} {st : Sto} {P : Bool → Sto → Prop} {E : Str → List (Str × D) → Sto → Prop} (h : Sat (fIn0 x y st) P E) : Sat (fIn0 x y st) (fun b _ => P b st) (fun _ _ _ => False) := by
  have key : fIn0 x y st = .bad ∨ ∃ b, fIn0 x y st = .ok b st := by
    unfold fIn0
    repeat' (first | exact .inl rfl | exact .inr ⟨_, rfl⟩ | split)
  rcases key with k | ⟨b, k⟩
  · rw [k] at h; exact h.elim
  · rw [k] at h ⊢; exact h
theorem does_in : Does2 X T (rInA X.K) fIn := by
  intro W σ g st H dx dy x y Q S rx ry h
  refine in_core (P := fun b => Q (.bl b) H) S rx ry (Sat.mono (fIn0_st (sat_bind h)) (fun b st' q _ => ?_) fun _ _ _ q => q)
  exact EPost.val (W := W) (σ := σ) S (fun _ => .bl b) q
theorem does_notIn : Does2 X T (rNotInA X.K) fNotIn := by
  intro W σ g st H dx dy x y Q S rx ry h
  refine in_core (P := fun b => Q (.bl (!b)) H) S rx ry (Sat.mono (fIn0_st (sat_bind h)) (fun b st' q _ => ?_) fun _ _ _ q => q)
  exact EPost.val (W := W) (σ := σ) S (fun _ => .bl (!b)) q
theorem or_in (hu : X.A.units + 65 < cLine) : OpR X (compareOp .In) (rInA X.K) := op_in_seq.or (op_inD hu)
theorem or_notIn (hu : X.A.units + 65 < cLine) : OpR X (compareOp .NotIn) (rNotInA X.K) := op_notIn_seq.or (op_notInD hu)

/-! ### truth -/
theorem tru_of {g : G} {st : Sto} {H : Hp} {d : D} {v : V} {k : Bool} (S : Sim X.K T g st H) (r : Rep X.K g d v) (h : truD st d = some k) : TruV X.K v H k := by
  cases d with
  | non => cases r; cases h; exact rfl
  | bl b => cases r; cases h; exact rfl
  | int i => cases r; cases h; exact rfl
  | tup xs =>
    obtain ⟨a, vs, rfl, h1, h2, h3⟩ := S.tup r
    cases h
    exact .inr (.inl ⟨vs, h1, by cases h3 <;> rfl⟩)
  | lst xs =>
    obtain ⟨a, vs, rfl, h1, h2, h3⟩ := S.litems (xs := xs) r rfl
    cases h
    exact .inl ⟨vs, SqL.of h1, by cases h3 <;> rfl⟩
  | ref l =>
    unfold truD at h
    dsimp only at h
    split at h
    · rename_i xs hs
      obtain ⟨a, vs, rfl, h1, h2, h3⟩ := S.litems (xs := xs) r (by unfold litems; dsimp only; rw [hs])
      cases h
      exact .inl ⟨vs, SqL.of h1, by cases h3 <;> rfl⟩
    · cases h
  | _ => cases h
theorem pt_tru (ha : PE X a (tD (zX X T) W fa)) (he : ∀ whole, isTrue a X.env whole = (do let v ← whole; standAt a.pos; holding [v] (truthy v)) := by intro _; rfl) : PT X a (tDT (zX X T) W (tTru fa)) :=
  PT.wk (pt_truth ha he) fun σ H Q ⟨g, ρ, st, S, E, q⟩ => by
    refine ⟨g, ρ, st, S, E, Sat.mono (sat_bind q) (fun d st1 q1 g1 H1 v L1 S1 r1 => ?_) fun _ _ _ q => q⟩
    split at q1
    · rename_i k hk
      exact ⟨k, tru_of S1 r1 hk, q1 g1 H1 L1 S1⟩
    · exact q1.elim

/-! ### and, or, not -/
theorem pw_andD1 (h : PT X a (tDT (zX X T) W ft)) : PW X (.BoolOp .And [a] pos) (tDT (zX X T) W ft) := pw_and1 h
theorem pw_orD1 (h : PT X a (tDT (zX X T) W ft)) : PW X (.BoolOp .Or [a] pos) (tDT (zX X T) W ft) := pw_or1 h
theorem pw_andD (h1 : PT X a (tDT (zX X T) W ft)) (h2 : PW X (.BoolOp .And (b :: es) pos) (tDT (zX X T) W fu)) : PW X (.BoolOp .And (a :: b :: es) pos) (tDT (zX X T) W (tAndD ft fu)) :=
  PW.wk (pw_and h1 h2) fun σ H Q ⟨g, ρ, st, S, E, q⟩ => ⟨g, ρ, st, S, E, Sat.mono (sat_bind q) (fun k st1 q1 g1 H1 L1 S1 => by
    cases k with
    | true => exact ⟨g1, ρ, st1, S1, E.mono L1.ge, TPost.mono L1 q1⟩
    | false => exact q1 g1 H1 L1 S1) fun _ _ _ q => q⟩
theorem pw_orD (h1 : PT X a (tDT (zX X T) W ft)) (h2 : PW X (.BoolOp .Or (b :: es) pos) (tDT (zX X T) W fu)) : PW X (.BoolOp .Or (a :: b :: es) pos) (tDT (zX X T) W (tOrD ft fu)) :=
  PW.wk (pw_or h1 h2) fun σ H Q ⟨g, ρ, st, S, E, q⟩ => ⟨g, ρ, st, S, E, Sat.mono (sat_bind q) (fun k st1 q1 g1 H1 L1 S1 => by
    cases k with
    | false => exact ⟨g1, ρ, st1, S1, E.mono L1.ge, TPost.mono L1 q1⟩
    | true => exact q1 g1 H1 L1 S1) fun _ _ _ q => q⟩
theorem pt_notD (h : PT X a (tDT (zX X T) W ft)) : PT X (.UnaryOp .Not a pos) (tDT (zX X T) W (tNotD ft)) :=
  PT.wk (pt_not h) fun σ H Q ⟨g, ρ, st, S, E, q⟩ => ⟨g, ρ, st, S, E, Sat.mono (sat_bind q) (fun k st1 q1 g1 H1 L1 S1 => q1 g1 H1 L1 S1) fun _ _ _ q => q⟩
theorem pe_andD (h1 : PE X a (tD (zX X T) W fa)) (h2 : PE X (.BoolOp .And (b :: es) pos) (tD (zX X T) W fb)) : PE X (.BoolOp .And (a :: b :: es) pos) (tD (zX X T) W (sAnd fa fb)) :=
  PE.wk (pe_and h1 h2) fun σ H Q ⟨g, ρ, st, S, E, q⟩ => ⟨g, ρ, st, S, E, Sat.mono (sat_bind q) (fun d st1 q1 g1 H1 v L1 S1 r1 => by
    cases d with
    | bl k =>
      cases r1
      refine ⟨k, rfl, ?_⟩
      cases k with
      | true => exact ⟨g1, ρ, st1, S1, E.mono L1.ge, EPost.mono L1 q1⟩
      | false => exact q1 g1 H1 _ L1 S1 (.bl _)
    | _ => exact q1.elim) fun _ _ _ q => q⟩
theorem pe_orD (h1 : PE X a (tD (zX X T) W fa)) (h2 : PE X (.BoolOp .Or (b :: es) pos) (tD (zX X T) W fb)) : PE X (.BoolOp .Or (a :: b :: es) pos) (tD (zX X T) W (sOr fa fb)) :=
  PE.wk (pe_or h1 h2) fun σ H Q ⟨g, ρ, st, S, E, q⟩ => ⟨g, ρ, st, S, E, Sat.mono (sat_bind q) (fun d st1 q1 g1 H1 v L1 S1 r1 => by
    cases d with
    | bl k =>
      cases r1
      refine ⟨k, rfl, ?_⟩
      cases k with
      | false => exact ⟨g1, ρ, st1, S1, E.mono L1.ge, EPost.mono L1 q1⟩
      | true => exact q1 g1 H1 _ L1 S1 (.bl _)
    | _ => exact q1.elim) fun _ _ _ q => q⟩
theorem pe_oneD {op : BoolOp} (h : PE X a (tD (zX X T) W fa)) : PE X (.BoolOp op [a] pos) (tD (zX X T) W fa) := pe_one h
theorem pe_notD (h : PE X a (tD (zX X T) W fa)) : PE X (.UnaryOp .Not a pos) (tD (zX X T) W (sNotV fa)) :=
  PE.wk (pe_not h) fun σ H Q ⟨g, ρ, st, S, E, q⟩ => ⟨g, ρ, st, S, E, Sat.mono (sat_bind q) (fun d st1 q1 g1 H1 v L1 S1 r1 => by
    cases d with
    | bl k => cases r1; exact ⟨k, rfl, q1 g1 H1 _ L1 S1 (.bl _)⟩
    | _ => exact q1.elim) fun _ _ _ q => q⟩
theorem pe_ifD (hc : PT X c (tDT (zX X T) W ft)) (ha : PE X a (tD (zX X T) W fa)) (hb : PE X b (tD (zX X T) W fb)) : PE X (.IfExp c a b pos) (tD (zX X T) W (sIf ft fa fb)) :=
  PE.wk (pe_ifExp hc ha hb) fun σ H Q ⟨g, ρ, st, S, E, q⟩ => ⟨g, ρ, st, S, E, Sat.mono (sat_bind q) (fun k st1 q1 g1 H1 L1 S1 => by
    cases k with
    | true => exact ⟨g1, ρ, st1, S1, E.mono L1.ge, EPost.mono L1 q1⟩
    | false => exact ⟨g1, ρ, st1, S1, E.mono L1.ge, EPost.mono L1 q1⟩) fun _ _ _ q => q⟩
/-- a op b op' c -/
theorem wk_chain {r r' : R2} {f f' : D → D → Sto → Out D} (h : Does2 X T r f) (h' : Does2 X T r' f') : ∀ σ H Q, tD (zX X T) W (sChain f f' fa fb fc) σ H Q → tChain r r' (tD (zX X T) W fa) (tD (zX X T) W fb) (tD (zX X T) W fc) σ H Q := by
  rintro σ H Q ⟨g, ρ, st, S, E, q⟩
  refine ⟨g, ρ, st, S, E, Sat.mono (sat_bind q) (fun d st1 q1 g1 H1 v L1 S1 r1 => ?_) fun _ _ _ q => q⟩
  refine ⟨g1, ρ, st1, S1, E.mono L1.ge, Sat.mono (sat_bind q1) (fun d2 st2 q2 g2 H2 v2 L2 S2 r2 => ?_) fun _ _ _ q => q.mono L1⟩
  refine h W σ g2 st2 H2 d d2 v v2 _ S2 (r1.mono L2.ge) r2 (Sat.mono (sat_bind q2) (fun d3 st3 q3 g3 H3 v3 L3 S3 r3 => ?_) fun _ _ _ q => q.mono (L1.trans L2))
  cases d3 with
  | bl k =>
    cases r3
    refine ⟨k, rfl, ?_⟩
    cases k with
    | false => exact q3 g3 H3 _ ((L1.trans L2).trans L3) S3 (.bl _)
    | true =>
      refine ⟨g3, ρ, st3, S3, E.mono ((L1.trans L2).trans L3).ge, Sat.mono (sat_bind q3) (fun d4 st4 q4 g4 H4 v4 L4 S4 r4 => ?_) fun _ _ _ q => q.mono ((L1.trans L2).trans L3)⟩
      exact h' W σ g4 st4 H4 d2 d4 v2 v4 Q S4 (r2.mono (L3.trans L4).ge) r4 (EPost.mono (((L1.trans L2).trans L3).trans L4) q4)
  | _ => exact q3.elim
theorem pe_chainD {op op' : CmpOp} {r r' : R2} {f f' : D → D → Sto → Out D} (ho : OpR X (compareOp op) r) (ho' : OpR X (compareOp op') r') (h : Does2 X T r f) (h' : Does2 X T r' f') (ha : PE X a (tD (zX X T) W fa)) (hb : PE X b (tD (zX X T) W fb)) (hc : PE X c (tD (zX X T) W fc))
    (hm : lastMarks [op, op'] [b, c] = false := by with_unfolding_all rfl) : PE X (.Compare a [op, op'] [b, c] pos) (tD (zX X T) W (sChain f f' fa fb fc)) := PE.wk (pe_chain ho ho' ha hb hc hm) (wk_chain h h')
theorem pt_chainD {op op' : CmpOp} {r r' : R2} {f f' : D → D → Sto → Out D} (ho : OpR X (compareOp op) r) (ho' : OpR X (compareOp op') r') (h : Does2 X T r f) (h' : Does2 X T r' f') (ha : PE X a (tD (zX X T) W fa)) (hb : PE X b (tD (zX X T) W fb)) (hc : PE X c (tD (zX X T) W fc))
    (hm : lastMarks [op, op'] [b, c] = false := by with_unfolding_all rfl) : PT X (.Compare a [op, op'] [b, c] pos) (tDT (zX X T) W (tBl (sChain f f' fa fb fc))) := PT.wk (pt_chain ho ho' ha hb hc hm) (wkB (wk_chain h h'))

/-! ### arguments, displays -/
theorem pa_nilD : PA X [] (tDA (zX X T) W aNil) := PA.wk pa_nil fun σ H Q ⟨g, ρ, st, S, E, q⟩ => q g H [] (Le.refl g H) S .nil
theorem pa_consD (ha : PE X e (tD (zX X T) W fe)) (hr : PA X es (tDA (zX X T) W fs)) (hs : starEach (e :: es) X.env = (false, eval e X.env) :: starEach es X.env := by rfl) : PA X (e :: es) (tDA (zX X T) W (aCons fe fs)) :=
  PA.wk (pa_cons ha hr hs) fun σ H Q ⟨g, ρ, st, S, E, q⟩ => by
    refine ⟨g, ρ, st, S, E, Sat.mono (sat_bind q) (fun d st1 q1 g1 H1 v L1 S1 r1 => ?_) fun _ _ _ q => q⟩
    refine ⟨g1, ρ, st1, S1, E.mono L1.ge, Sat.mono (sat_bind q1) (fun ds st2 q2 g2 H2 vs L2 S2 r2 => ?_) fun _ _ _ q => q.mono L1⟩
    exact q2 g2 H2 (v :: vs) (L1.trans L2) S2 (.cons (r1.mono L2.ge) r2)
theorem pd_tup {x1 : Nat} (h : PA X es (tDA (zX X T) W fs)) : PE X (.Tuple es x1 pos) (tD (zX X T) W (sTup fs)) :=
  PE.wk (pe_tupN h) fun σ H Q ⟨g, ρ, st, S, E, q⟩ => by
    refine ⟨g, ρ, st, S, E, Sat.mono (sat_bind q) (fun ds st1 q1 g1 H1 vs L1 S1 r1 => ?_) fun _ _ _ q => q⟩
    split at q1
    · rename_i hz
      have hz' : vs.length ≤ sizeLine := by rw [← r1.length]; exact hz
      refine ⟨hz', fun p o hp ho => ?_⟩
      obtain ⟨S', L'⟩ := S1.allocB (o := .frz o (.tup vs)) hp (fun _ => by simp)
      exact q1 _ _ _ (L1.trans L') S' (.tup (SqN.of ho) hz' (r1.mono L'.ge))
    · exact q1.elim
theorem pd_lst (m : Bool) (h : PA X es (tDA (zX X T) W fs)) : PE X (.List es pos) (tD (zX X T) W (sLst m fs)) :=
  PE.wk (pe_lst h) fun σ H Q ⟨g, ρ, st, S, E, q⟩ => by
    refine ⟨g, ρ, st, S, E, Sat.mono (sat_bind q) (fun ds st1 q1 g1 H1 vs L1 S1 r1 => ?_) fun _ _ _ q => q⟩
    split at q1
    · rename_i hz
      have hz' : vs.length ≤ sizeLine := by rw [← r1.length]; exact hz
      exact ⟨hz', newL_ok (W := W) (σ := σ) S1 hz' r1 (EPost.mono L1 q1)⟩
    · exact q1.elim
theorem pd_dict0 : PE X (.Dict [] [] pos) (tD (zX X T) W sDict0) :=
  PE.wk pe_dnewK fun σ H Q ⟨g, ρ, st, S, E, q⟩ p hp => by
    obtain ⟨S', L'⟩ := S.allocB (o := .dK []) hp (fun _ => by simp)
    exact q _ _ _ L' S' (.dk (ks := []) (vs := []) upd_same rfl .nil)

/-! ### calls -/
/-- a built-in function of the arguments, by value -/
def DoesB (X : Cx) (T : List (Addr × Str)) (r : List V → Hp → VK → Prop) (f : List D → Sto → Out D) : Prop :=
  ∀ (W : WX) (σ : L2.St) (g : G) (st : Sto) (H : Hp) (ds : List D) (vs : List V) (Q : VK), Sim X.K T g st H → Reps X.K g ds vs → EPost (zX X T) W σ Q g H (f ds st) → r vs H Q
theorem wkCB {r : List V → Hp → VK → Prop} {f : List D → Sto → Out D} (h : DoesB X T r f) : ∀ σ H Q, tD (zX X T) W (sB f fs) σ H Q → tCB r (tDA (zX X T) W fs) σ H Q := by
  rintro σ H Q ⟨g, ρ, st, S, E, q⟩
  refine ⟨g, ρ, st, S, E, Sat.mono (sat_bind q) (fun ds st1 q1 g1 H1 vs L1 S1 r1 => ?_) fun _ _ _ q => q⟩
  exact h W σ g1 st1 H1 ds vs Q S1 r1 (EPost.mono L1 q1)
theorem pd_callB {id : String} {r : List V → Hp → VK → Prop} {f : List D → Sto → Out D} (hc : CallR X (.builtin id) r) (h : DoesB X T r f) (hg : Gl X x) (hm : X.mg x = none) (hv : bootBuiltins x = some (.builtin id)) (ha : PA X (e :: es) (tDA (zX X T) W fs)) (hn : x ≠ "__name__" := by decide) (hdb : (x == ("__debug__" : Str)) = false := by decide)
    (he : starEach (e :: es) X.env = (false, eval e X.env) :: starEach es X.env := by rfl) (hpl : (backTo pos (starEach es X.env)).any (·.1) = false := by rfl) : PE X (.Call (.Name x p) (e :: es) [] pos) (tD (zX X T) W (sB f fs)) :=
  PE.wk (pe_callB hc hg hm hv ha hn hdb he hpl) (wkCB h)
theorem pd_callT {id : String} {r : List V → Hp → VK → Prop} {f : List D → Sto → Out D} (hc : CallR X (.type id) r) (h : DoesB X T r f) (hg : Gl X x) (hm : X.mg x = none) (hv : bootBuiltins x = some (.type id)) (ha : PA X (e :: es) (tDA (zX X T) W fs)) (hn : x ≠ "__name__" := by decide) (hdb : (x == ("__debug__" : Str)) = false := by decide)
    (he : starEach (e :: es) X.env = (false, eval e X.env) :: starEach es X.env := by rfl) (hpl : (backTo pos (starEach es X.env)).any (·.1) = false := by rfl) : PE X (.Call (.Name x p) (e :: es) [] pos) (tD (zX X T) W (sB f fs)) :=
  PE.wk (pe_callTy hc hg hm hv ha hn hdb he hpl) (wkCB h)
theorem does_len : DoesB X T (fun xs H Q => ∃ p ys, xs = [.ref p] ∧ (SqL X.K H p ys ∨ SqT X.K H p ys) ∧ Q (.int ys.length) H) bLen := by
  intro W σ g st H ds vs Q S r h
  unfold bLen at h
  split at h
  · split at h
    · rename_i ys e
      cases r with
      | cons r1 r2 =>
        cases r2
        obtain ⟨a, ws, rfl, h1, h2, h3⟩ := S.items r1 e
        refine ⟨a, ws, rfl, h1, ?_⟩
        rw [← h3.length]
        exact EPost.val S (fun _ => .int _) h
    · exact h.elim
  · exact h.elim
theorem does_abs : DoesB X T (fun xs H Q => ∃ i, xs = [.int i] ∧ Q (.int (if i < 0 then -i else i)) H) bAbs := by
  intro W σ g st H ds vs Q S r h
  unfold bAbs at h
  split at h
  · cases r with
    | cons r1 r2 => cases r2; cases r1; exact ⟨_, rfl, EPost.val S (fun _ => .int _) h⟩
  · exact h.elim
theorem does_min2 : DoesB X T (fun xs H Q => ∃ i j, xs = [.int i, .int j] ∧ Q (.int (if j < i then j else i)) H) bMin2 := by
  intro W σ g st H ds vs Q S r h
  unfold bMin2 at h
  split at h
  · cases r with
    | cons r1 r2 => cases r2 with | cons r3 r4 => cases r4; cases r1; cases r3; exact ⟨_, _, rfl, EPost.val S (fun _ => .int _) h⟩
  · exact h.elim
theorem does_max2 : DoesB X T (fun xs H Q => ∃ i j, xs = [.int i, .int j] ∧ Q (.int (if j > i then j else i)) H) bMax2 := by
  intro W σ g st H ds vs Q S r h
  unfold bMax2 at h
  split at h
  · cases r with
    | cons r1 r2 => cases r2 with | cons r3 r4 => cases r4; cases r1; cases r3; exact ⟨_, _, rfl, EPost.val S (fun _ => .int _) h⟩
  · exact h.elim
theorem does_int : DoesB X T (fun xs H Q => (∃ i, xs = [.int i] ∧ Q (.int i) H) ∨ ∃ k, xs = [.bl k] ∧ Q (.int (if k then 1 else 0)) H) bInt := by
  intro W σ g st H ds vs Q S r h
  unfold bInt at h
  split at h
  · cases r with
    | cons r1 r2 => cases r2; cases r1; exact .inl ⟨_, rfl, EPost.val S (fun _ => .int _) h⟩
  · cases r with
    | cons r1 r2 => cases r2; cases r1; exact .inr ⟨_, rfl, EPost.val S (fun _ => .int _) h⟩
  · exact h.elim
theorem Sim.itemsL {K : PySem.W.Frag} {g : G} {st : Sto} {H : Hp} {d : D} {v : V} {xs : List D} (S : Sim K T g st H) (r : Rep K g d v) (e : PD.items st d = some xs) :
    d = .tup xs ∨ ∃ a vs, v = .ref a ∧ SqL K H a vs ∧ vs.length ≤ sizeLine ∧ Reps K g xs vs := by
  cases d with
  | tup ys => cases e; exact .inl rfl
  | lst ys =>
    obtain ⟨a, vs, h1, h2, h3, h4⟩ := S.litems (xs := xs) r e
    exact .inr ⟨a, vs, h1, SqL.of h2, h3, h4⟩
  | fz ys =>
    cases e
    cases r with
    | fz q l r => exact .inr ⟨_, _, rfl, sqL_mono S.sub q, l, r⟩
  | ref l =>
    obtain ⟨a, vs, h1, h2, h3, h4⟩ := S.litems (xs := xs) r e
    exact .inr ⟨a, vs, h1, SqL.of h2, h3, h4⟩
  | _ => cases e
theorem does_tuple : DoesB X T (fun xs H Q => ∃ p ys, xs = [.ref p] ∧ ((SqL X.K H p ys ∧ NewT Q H ys) ∨ (SqT X.K H p ys ∧ Q (.ref p) H))) bTuple := by
  intro W σ g st H ds vs Q S r h
  unfold bTuple at h
  split at h
  · rename_i d
    split at h
    · rename_i ys e
      cases r with
      | cons r1 r2 =>
        cases r2
        rcases S.itemsL r1 e with z | ⟨a, ws, rfl, h1, h2, h3⟩
        · subst z
          obtain ⟨a, ws, rfl, h1, h2, h3⟩ := S.tup r1
          exact ⟨a, ws, rfl, .inr ⟨h1, h g H _ (Le.refl g H) S r1⟩⟩
        · refine ⟨a, ws, rfl, .inl ⟨h1, fun l o hl ho => ?_⟩⟩
          obtain ⟨S', L'⟩ := S.allocB (o := .frz o (.tup ws)) hl (fun _ => by simp)
          exact h _ _ _ L' S' (.tup (SqN.of ho) h2 (h3.mono L'.ge))
    · exact h.elim
  · exact h.elim
theorem does_list (m : Bool) : DoesB X T (fun xs H Q => ∃ p ys, xs = [.ref p] ∧ (SqL X.K H p ys ∨ SqT X.K H p ys) ∧ ∀ l, H l = none → Q (.ref l) (upd H l (.lst ys))) (bList m) := by
  intro W σ g st H ds vs Q S r h
  unfold bList at h
  split at h
  · split at h
    · rename_i ys e
      cases r with
      | cons r1 r2 =>
        cases r2
        obtain ⟨a, ws, rfl, h1, h2, h3⟩ := S.items r1 e
        exact ⟨a, ws, rfl, h1, newL_ok S h2 h3 h⟩
    · exact h.elim
  · exact h.elim
theorem allBl_of {K : PySem.W.Frag} {g : G} : ∀ {ds : List D} {vs : List V} {bs : List Bool}, Reps K g ds vs → allBl ds = some bs → vs = bs.map V.bl
  | [], _, _, r, e => by cases r; cases e; rfl
  | d :: ds, _, bs, r, e => by
    cases r with
    | cons r1 r2 =>
      cases d with
      | bl b =>
        unfold allBl at e
        cases q : allBl ds with
        | none => rw [q] at e; cases e
        | some cs =>
          rw [q] at e; cases e
          cases r1
          rw [allBl_of r2 q]; rfl
      | _ => cases e
theorem allInt_of {K : PySem.W.Frag} {g : G} : ∀ {ds : List D} {vs : List V} {bs : List Int}, Reps K g ds vs → allInt ds = some bs → vs = bs.map V.int
  | [], _, _, r, e => by cases r; cases e; rfl
  | d :: ds, _, bs, r, e => by
    cases r with
    | cons r1 r2 =>
      cases d with
      | int b =>
        unfold allInt at e
        cases q : allInt ds with
        | none => rw [q] at e; cases e
        | some cs =>
          rw [q] at e; cases e
          cases r1
          rw [allInt_of r2 q]; rfl
      | _ => cases e
theorem does_all : DoesB X T (rAll X.K) bAll := by
  intro W σ g st H ds vs Q S r h
  unfold bAll at h
  split at h
  · split at h
    · rename_i bs e
      obtain ⟨ys, e1, e2⟩ := Option.bind_eq_some_iff.mp e
      cases r with
      | cons r1 r2 =>
        cases r2
        obtain ⟨a, ws, rfl, h1, h2, h3⟩ := S.litems r1 e1
        have ew := allBl_of h3 e2
        subst ew
        exact ⟨a, bs, rfl, SqL.of h1, EPost.val S (fun _ => .bl _) h⟩
    · exact h.elim
  · exact h.elim
theorem does_any : DoesB X T (rAny X.K) bAny := by
  intro W σ g st H ds vs Q S r h
  unfold bAny at h
  split at h
  · split at h
    · rename_i bs e
      obtain ⟨ys, e1, e2⟩ := Option.bind_eq_some_iff.mp e
      cases r with
      | cons r1 r2 =>
        cases r2
        obtain ⟨a, ws, rfl, h1, h2, h3⟩ := S.litems r1 e1
        have ew := allBl_of h3 e2
        subst ew
        exact ⟨a, bs, rfl, SqL.of h1, EPost.val S (fun _ => .bl _) h⟩
    · exact h.elim
  · exact h.elim
theorem does_sum : DoesB X T (rSum X.K) bSum := by
  intro W σ g st H ds vs Q S r h
  unfold bSum at h
  split at h
  · split at h
    · rename_i bs e
      obtain ⟨ys, e1, e2⟩ := Option.bind_eq_some_iff.mp e
      cases r with
      | cons r1 r2 =>
        cases r2
        obtain ⟨a, ws, rfl, h1, h2, h3⟩ := S.litems r1 e1
        have ew := allInt_of h3 e2
        subst ew
        exact ⟨a, bs, rfl, SqL.of h1, EPost.val S (fun _ => .int _) h⟩
    · exact h.elim
  · exact h.elim
/-! isinstance with a built-in class -/
def tyNm : TyN → String
  | .int => "int" | .bool => "bool" | .tuple => "tuple" | .list => "list" | .str => "str" | .dict => "dict"
theorem kt {K : PySem.W.Frag} {s t : String} {b : Bool} (h : kitB s t = some b) : PySem.W.kitOne K (.type s) (.type t) = some b := kit_ty h
theorem isTy_ok {K : PySem.W.Frag} {g : G} {st : Sto} {H : Hp} {d : D} {v : V} {t : TyN} {b : Bool} (S : Sim K T g st H) (r : Rep K g d v) (h : isTy t d = some b) : ∃ u, TyX K H v u ∧ PySem.W.kitOne K u (.type (tyNm t)) = some b := by
  have fin : ∀ {s : String}, TyX K H v (.type s) → kitB s (tyNm t) = some b → ∃ u, TyX K H v u ∧ PySem.W.kitOne K u (.type (tyNm t)) = some b := fun ty k => ⟨_, ty, kt k⟩
  cases d with
  | non => cases r; refine fin (.base .non) ?_; cases t <;> cases h <;> decide +kernel
  | bl k => cases r; refine fin (.base (.bl k)) ?_; cases t <;> cases h <;> decide +kernel
  | int k => cases r; refine fin (.base (.int k)) ?_; cases t <;> cases h <;> decide +kernel
  | str k => cases r; refine fin (.base (.str k)) ?_; cases t <;> cases h <;> decide +kernel
  | tup xs =>
    obtain ⟨a, vs, rfl, h1, h2, h3⟩ := S.tup r
    have ty : TyX K H (.ref a) (.type "tuple") := by
      rcases h1 with (h1 | ⟨o, h1⟩) | ⟨o, its, n, h1, h2, _⟩
      · exact .base (.tup h1)
      · exact .fTuple h1
      · exact .kTuple h1 h2
    refine fin ty ?_; cases t <;> cases h <;> decide +kernel
  | lst xs =>
    obtain ⟨a, vs, rfl, h1, h2, h3⟩ := S.litems (xs := xs) r rfl
    refine fin (.base (.lst h1)) ?_; cases t <;> cases h <;> decide +kernel
  | dk ks xs =>
    cases r with
    | dk e _ _ => refine fin (.base (.dK (S.sub _ _ e))) ?_; cases t <;> cases h <;> decide +kernel
  | _ => cases t <;> cases h
theorem pd_isI {t : TyN} {nm : Str} {p1 p2 : Pos} (hg : Gl X "isinstance") (hm : X.mg "isinstance" = none) (hg2 : Gl X nm) (hm2 : X.mg nm = none) (hv : bootBuiltins nm = some (.type (tyNm t))) (ha : PE X a (tD (zX X T) W fa)) (hn : nm ≠ "__name__" := by decide) (hd : (nm == ("__debug__" : Str)) = false := by decide)
    (he : starEach [a, .Name nm p1] X.env = (false, eval a X.env) :: starEach [.Name nm p1] X.env := by rfl) (hpl : (backTo pos (starEach [.Name nm p1] X.env)).any (·.1) = false := by rfl) (hs : starEach [.Name nm p1] X.env = (false, eval (.Name nm p1) X.env) :: starEach [] X.env := by rfl) :
    PE X (.Call (.Name "isinstance" p2) [a, .Name nm p1] [] pos) (tD (zX X T) W (sIsI t fa)) := by
  have hb : PE X (.Name nm p1) (tC (.ty (tyNm t))) := pe_bltn hg2 hm2 hv rfl hn hd
  refine PE.wk (pe_callB call_isi hg hm (by decide +kernel) (pa_cons ha (pa_cons hb pa_nil hs) he) (he := he) (hpl := hpl)) fun σ H Q ⟨g, ρ, st, S, E, q⟩ => ?_
  refine ⟨g, ρ, st, S, E, Sat.mono (sat_bind q) (fun d st1 q1 g1 H1 v L1 S1 r1 => ?_) fun _ _ _ q => q⟩
  split at q1
  · rename_i k hk
    obtain ⟨u, ty, kk⟩ := isTy_ok S1 r1 hk
    exact ⟨v, .ty (tyNm t), u, .type (tyNm t), k, rfl, .ty _, ty, kk, q1 g1 H1 _ L1 S1 (.bl k)⟩
  · exact q1.elim

/-! ### subscripts -/
theorem ix_eq (n : Nat) (i : Int) : L2.ixN n i = ixD n i := by
  unfold L2.ixN ixD
  by_cases h : 0 ≤ i
  · rw [if_pos h, if_pos h]
  · rw [if_neg h, if_neg h]
    by_cases h2 : 0 ≤ i + n
    · rw [if_pos h2, if_pos (by omega)]
    · rw [if_neg h2, if_neg (by omega)]
def rIxA (K : PySem.W.Frag) : R2 := fun x y H Q => rIxL K x y H Q ∨ rIxT K x y H Q
theorem ir_ix : IxR X (rIxA X.K) := ix_list.or ix_tup
theorem does_ix : Does2 X T (rIxA X.K) fIx := by
  intro W σ g st H dx dy x y Q S rx ry h
  unfold fIx at h
  split at h
  · rename_i xs i e
    split at h
    · rename_i j ej
      split at h
      · rename_i d ed
        obtain ⟨a, vs, rfl, h1, h2, h3⟩ := S.items rx e
        cases ry
        obtain ⟨v, ev, rv⟩ := h3.get ed
        have ha : atI vs i = some v := by
          unfold atI
          rw [← h3.length, ix_eq, ej]
          exact ev
        have hq : Q v H := h g H v (Le.refl g H) S rv
        rcases h1 with h1 | h1
        · exact .inl ⟨a, vs, i, v, rfl, rfl, h1, ha, hq⟩
        · exact .inr ⟨a, vs, i, v, rfl, rfl, h1, ha, hq⟩
      · exact h.elim
    · exact h.elim
  · exact h.elim
theorem pd_ix (ha : PE X a (tD (zX X T) W fa)) (hb : PE X b (tD (zX X T) W fb)) (hs : PlainIx b := by exact fun _ _ => rfl) : PE X (.Subscript a b pos) (tD (zX X T) W (s2 fIx fa fb)) :=
  PE.wk (pe_ix ir_ix ha hb hs) (wk2 does_ix)
/-! slices -/
abbrev SO := Ev → Sto → Out (Option Int)
def OPost (z : Z) (Q : Option Int → Hp → Prop) (g : G) (H : Hp) : Option Int → Sto → Prop := fun o st => ∀ g' H', Le g g' H H' → Sim z.K z.T g' st H' → Q o H'
def tDO (z : Z) (W : WX) (f : SO) : TO := fun σ H Q => ∃ g ρ st, Sim z.K z.T g st H ∧ EnvR z.K g σ ρ ∧ Sat (f ρ st) (OPost z Q g H) (XPost z W σ g H)
theorem PO.wk {o : Option Expr} {t t' : TO} (h : PO X o t) (k : ∀ σ H Q, t' σ H Q → t σ H Q) : PO X o t' := ⟨fun pins s σ H Q I q => h.run pins s σ H Q I (k σ H Q q)⟩
theorem po_noneD : PO X none (tDO (zX X T) W oNone) := PO.wk po_none fun σ H Q ⟨g, ρ, st, S, E, q⟩ => q g H (Le.refl g H) S
theorem po_someD (h : PE X e (tD (zX X T) W fe)) : PO X (some e) (tDO (zX X T) W (oInt fe)) := PO.wk (po_some h) fun σ H Q ⟨g, ρ, st, S, E, q⟩ => by
  refine ⟨g, ρ, st, S, E, Sat.mono (sat_bind q) (fun d st1 q1 g1 H1 v L1 S1 r1 => ?_) fun _ _ _ q => q⟩
  cases d with
  | int i => cases r1; exact ⟨i, rfl, q1 g1 H1 L1 S1⟩
  | _ => exact q1.elim
def rSlAny (K : PySem.W.Frag) : V → Option Int → Option Int → Hp → VK → Prop := fun x lo hi H Q => rSlL K x lo hi H Q ∨ rSlN K x lo hi H Q
theorem sr_any : SlR X (rSlAny X.K) := sl_list.or sl_tupN
theorem reps_cut {K : PySem.W.Frag} {g : G} {xs : List D} {vs : List V} (r : Reps K g xs vs) (lo hi : Option Int) : Reps K g (cutD xs lo hi) (cutV vs lo hi) := by
  unfold cutD cutV
  rw [r.length]
  exact (r.drop _).take _
theorem cut_len (vs : List V) (lo hi : Option Int) : (cutV vs lo hi).length ≤ vs.length := by
  unfold cutV
  rw [List.length_take, List.length_drop]; omega
theorem cut_all {xs : List D} {lo hi : Option Int} (h1 : HT.sIx xs.length 0 lo = 0) (h2 : HT.sIx xs.length xs.length hi = xs.length) : cutD xs lo hi = xs := by
  unfold cutD
  rw [h1, h2]; simp
theorem pd_slice {lo hi : Option Expr} {fl fh : SO} {p2 : Pos} (m : Bool) (he : PE X e (tD (zX X T) W fe)) (hl : PO X lo (tDO (zX X T) W fl)) (hh : PO X hi (tDO (zX X T) W fh)) : PE X (.Subscript e (.Slice lo hi none p2) pos) (tD (zX X T) W (sSlice m fe fl fh)) :=
  PE.wk (pe_slice sr_any he hl hh) fun σ H Q ⟨g, ρ, st, S, E, q⟩ => by
    refine ⟨g, ρ, st, S, E, Sat.mono (sat_bind q) (fun d st1 q1 g1 H1 v L1 S1 r1 => ?_) fun _ _ _ q => q⟩
    refine ⟨g1, ρ, st1, S1, E.mono L1.ge, Sat.mono (sat_bind q1) (fun i st2 q2 g2 H2 L2 S2 => ?_) fun _ _ _ q => q.mono L1⟩
    refine ⟨g2, ρ, st2, S2, E.mono (L1.trans L2).ge, Sat.mono (sat_bind q2) (fun j st3 q3 g3 H3 L3 S3 => ?_) fun _ _ _ q => q.mono (L1.trans L2)⟩
    have L := (L1.trans L2).trans L3
    have r3 := r1.mono (L2.trans L3).ge
    have q3' := EPost.mono L q3
    split at q3'
    · rename_i xs
      obtain ⟨a, vs, rfl, h1, h2, h3⟩ := S3.tup r3
      refine .inr ⟨a, vs, rfl, h1, fun ⟨z1, z2⟩ => ?_, fun z p o hp ho => ?_⟩
      · have e1 : cutD xs i j = xs := cut_all (by rw [h3.length]; exact z1) (by rw [h3.length]; exact z2)
        rw [e1] at q3'
        exact q3' g3 H3 _ (Le.refl _ _) S3 r3
      · obtain ⟨S', L'⟩ := S3.allocB (o := .frz o (.tup (cutV vs i j))) hp (fun _ => by simp)
        exact q3' _ _ _ L' S' (.tup (SqN.of ho) (Nat.le_trans (cut_len _ _ _) h2) ((reps_cut h3 i j).mono L'.ge))
    · rename_i xs
      cases r3 with
      | fz k1 k2 k3 => exact .inl ⟨_, _, rfl, sqL_mono S3.sub k1, newL_ok (W := W) (σ := σ) S3 (Nat.le_trans (cut_len _ _ _) k2) (reps_cut k3 i j) q3'⟩
    · split at q3'
      · rename_i xs e
        obtain ⟨a, vs, rfl, h1, h2, h3⟩ := S3.litems r3 e
        exact .inl ⟨a, vs, rfl, SqL.of h1, newL_ok (W := W) (σ := σ) S3 (Nat.le_trans (cut_len _ _ _) h2) (reps_cut h3 i j) q3'⟩
      · exact q3'.elim
end
end PD
/-! PDRules3: what is walked, comprehensions, statements, defs. -/
namespace PySem
open Sem (wp)
/-! enumerate(v), v told by how its iterator begins (one argument) -/
set_option maxHeartbeats 1000000 in
theorem pd_meets_enum {v : Value} {o : Obj} {H : Heap → Prop} (B : Begins v o H) :
    Meets (Builtin.«enumerate.__new__» ⟨[.type "enumerate", v], []⟩) (fun _ R s => H s.heap ∧ R (.ok (.ret (.ref (s.heap.push o).objs.size)))
        { s with heap := (s.heap.push o).push { cls := .type "enumerate", data := .fields #[.none, .bool false, .ref s.heap.objs.size, rawInt 0, .none, .none] } }) := by
  refine .of_wp fun prog w A R s h => ?_
  obtain ⟨hp, g, d, tk, os⟩ := s
  obtain ⟨h1, h⟩ := h
  have hsub := sub_enumerate
  have q1 : ∀ {A' : Around} {E : Value → Shared → Prop} {Q : Value → Shared → Prop}, Q (.ref hp.objs.size) ⟨hp.push o, g, d, tk, os⟩ → wpAny (model prog w) A' (pyIter v) Q E ⟨hp, g, d, tk, os⟩ := fun q => B.iter prog w _ _ ⟨hp, g, d, tk, os⟩ _ h1 q
  wp_walk using q1
  refine wpAny_stack_any fun st => wpAny_pure ?_
  split
  · rename_i c _ _ _ _ _
    cases (c == Value.type "enumerate") <;> (wp_walk using q1; exact ⟨_, rfl, h⟩)
  · wp_walk using q1
    exact ⟨_, rfl, h⟩
theorem pd_call_enum {prog : Program} {w : World} {A : Around} {E : Value → Shared → Prop} {s : Shared} {v : Value} {o : Obj} {H : Heap → Prop} {Q : Value → Shared → Prop} (B : Begins v o H) (h1 : H s.heap)
    (h : ∀ h', IsEnum h' (s.heap.objs.size + 1) s.heap.objs.size 0 .none → h'.get? s.heap.objs.size = some o → (∀ b ob, s.heap.get? b = some ob → h'.get? b = some ob) → Q (.ref (s.heap.objs.size + 1)) { s with heap := h' }) :
    wpAny (model prog w) A (call (.type "enumerate") [v]) Q E s := by
  refine callType_new F.called_enumerate (by decide) (F.typeCall_enumerate_1 _) (F.newCall_enumerate_1 _) (fun obj => F.args_object_init_2 obj _) F.entry_enumerate_new (pd_meets_enum B) ⟨h1, ?_⟩
  have hz : (s.heap.push o).objs.size = s.heap.objs.size + 1 := Heap.size_push ..
  show _ ∧ _
  rw [hz]
  have he := Heap.get?_push_size (s.heap.push o) (o := { cls := .type "enumerate", data := .fields #[.none, .bool false, .ref s.heap.objs.size, rawInt 0, .none, .none] }) rfl
  rw [hz] at he
  exact ⟨⟨_, he, rfl⟩, h _ he (Heap.get?_push_of_some _ (Heap.get?_push_size _ B.free)) fun b ob x => Heap.get?_push_of_some _ (Heap.get?_push_of_some _ x)⟩
end PySem
namespace PD
open PySem PySem.Spec PyProof.Rows L2
/-- enumerate of a tuple: new pairs -/
def IteT (K : PySem.W.Frag) (a : Addr) : It :=
  ⟨fun i H => ∃ (xs : List V) (x : V), SqT K H a xs ∧ xs[i]? = some x, fun i H v H' => ∃ Tp x, v = .ref Tp ∧ H Tp = none ∧ H' = upd H Tp (.tup [.int (i : Nat), x]) ∧ ∀ xs, SqT K H a xs → xs[i]? = some x, fun i H => ∃ xs : List V, SqT K H a xs ∧ xs.length = i⟩
theorem turn_enumT {P : Program} {w : World} {K : PySem.W.Frag} {elts : List Expr} {kk : Nat} {tpos : Pos} (a e it : Addr) :
    Turn P w K (.Tuple elts kk tpos) (IteT K a) [e, it] e (fun i h => (∃ old, IsEnum h e it ((i : Nat) : Int) old) ∧ h.IsTupleIter it a i ∧ e ≠ it ∧ a ≠ it) where
  mem := by simp
  obj := fun i h st b hb => by
    obtain ⟨⟨old, he⟩, ⟨o, ho, hc, hd⟩, _⟩ := st
    rcases List.mem_cons.mp hb with z | hb
    · rw [z]; exact ⟨_, he, fun v q => nomatch q⟩
    · rw [List.mem_singleton.mp hb]; exact ⟨o, ho, fun v q => by rw [hd] at q; cases q⟩
  keep := fun i h h' st k => by
    obtain ⟨⟨old, he⟩, hi, hne⟩ := st
    exact ⟨⟨old, k e (by simp) _ he⟩, hi.at fun o q => k it (by simp) o q, hne⟩
  item := by
    intro X hP hw hK hc i pins s σ H E I hf st hg
    subst hP hw hK
    obtain ⟨⟨old, he⟩, hit, hne, hna⟩ := st
    obtain ⟨xs, x, hq, hx⟩ := hg
    obtain ⟨its, rv, p, hz⟩ := I.tuple hq
    obtain ⟨u, hu, ru⟩ := rv.get hx
    have hel : e < s.heap.objs.size := Heap.lt_size he
    have hil : it < s.heap.objs.size := by
      obtain ⟨_, q, _⟩ := hit
      exact Heap.lt_size q
    have hlt : i < its.toArray.size := by
      have := (List.getElem?_eq_some_iff.mp hu).1
      simpa using this
    have hea : e ≠ a := fun z => by
      obtain ⟨o, ho, hcl, _⟩ := p
      rw [← z, he] at ho
      cases ho
      have q : Value.type "enumerate" = Value.type "tuple" := hcl
      injection q with q
      exact absurd q (by decide)
    refine wpAny_pyNext_enum_itemD (D := Draws.tuple (A := X.A.in1) (I.ok.hd hc) it a hna its.toArray) he ⟨hit, p⟩ hlt hne (by simp [hne, hea]) fun v h' tk hP' ho hst' hT hsz hk => ?_
    have ev : v = u := by
      have h2 : its.toArray[i]? = some u := by simpa using hu
      exact Option.some.inj (hP'.symm.trans h2)
    subst ev
    refine ⟨_, rfl, wpAny_letOwnedTupleGo_enum (s := { s with heap := h', toks := tk + 1 }) ho fun h'' he' sb => ?_⟩
    have hT2 : h''.get? s.heap.objs.size = some { cls := .type "tuple", data := .seq #[.int i tk, v] } := (sb.2 _ (Nat.ne_of_gt hel)).trans hT
    have nw : ObjOk X.prog X.w (upd H s.heap.objs.size (.tup [.int (i : Nat), x])) h'' s.heap.objs.size (.tup [.int (i : Nat), x]) := by
      refine ⟨by show 2 ≤ sizeLine; decide, [.int i tk, v], .cons ⟨_, rfl⟩ (.cons ru .nil), ⟨_, hT2, rfl, _, rfl⟩⟩
    have kp : ∀ b ob, b ∉ [e, it] → s.heap.get? b = some ob → h''.get? b = some ob := fun b ob hb q =>
      (sb.2 b fun z => hb (by simp [z])).trans (hk b ob (fun z => hb (by simp [z])) (fun z => hb (by simp [z])) q)
    have I1 := I.turnedNew (t' := tk + 1) (ch := [e, it]) kp hf (Nat.le_refl _) nw
    refine ⟨.ref s.heap.objs.size, _, I1, rfl, ⟨_, x, rfl, I.hok.fresh (Nat.le_refl _), rfl, fun ys hy => by rw [I.tuple_inj hy hq]; exact hx⟩, ⟨⟨v, ?_⟩, hst'.1.at fun o q => (sb.2 it (Ne.symm hne)).trans q, hne, hna⟩, fun b hb => ?_⟩
    · rw [show ((i + 1 : Nat) : Int) = (i : Int) + 1 by omega]
      exact he'
    · have hb' : b < s.heap.objs.size := by
        rcases List.mem_cons.mp hb with z | hb
        · rw [z]; exact hel
        · rw [List.mem_singleton.mp hb]; exact hil
      rw [upd_ne (Nat.ne_of_lt hb')]
      exact (hf b hb).1
  done := by
    intro X hP hw hK hc i pins s σ H E I hf st hg
    subst hP hw hK
    obtain ⟨⟨old, he⟩, hit, hne, hna⟩ := st
    obtain ⟨xs, hq, hx⟩ := hg
    obtain ⟨its, rv, p, hz⟩ := I.tuple hq
    obtain ⟨f0, f1, f2, f3, f4, f5⟩ := hf it (by simp)
    have hl := rv.length
    have e1 : i = its.toArray.size := by
      rw [List.size_toArray, ← hl]; exact hx.symm
    subst e1
    exact wpAny_pyNext_enum_endD (D := Draws.tuple (A := X.A.in1) (I.ok.hd hc) it a hna its.toArray) he ⟨hit, p⟩ fun h' eb => ⟨rfl, I.turned (t' := s.toks) (fun b o hb q => eb b o hb q) f0 f1 f3 f4 f5⟩
  self := fun A i s Q E st h => by
    obtain ⟨⟨_, he⟩, _⟩ := st
    exact wpAny_pyIter_enum he h

section
variable {X : Cx} {T : List (Addr × Str)} {W : WX} {a b c e e2 : Expr} {es : List Expr} {fa fb fc fe : SE} {fs : SA} {ft fu : ST} {pos p tpos : Pos} {x : Str} {tg : Expr} {elts : List Expr} {kk : Nat}
def iEnumA (K : PySem.W.Frag) (ta : TA) : TI := fun σ H R => ta σ H fun vs H1 => ∃ a xs, vs = [.ref a] ∧ ((SqL K H1 a xs ∧ R (Ite K a) H1) ∨ (SqT K H1 a xs ∧ R (IteT K a) H1))
theorem pi_enumA {ta : TA} (hg : Gl X "enumerate") (hm : X.mg "enumerate" = none) (ha : PA X [e] ta) (hs : starEach [e] X.env = [(false, eval e X.env)] := by rfl) : PI X (.Tuple elts kk tpos) (.Call (.Name "enumerate" p) [e] [] pos) (iEnumA X.K ta) := by
  refine ⟨fun pins s σ H R I h => ?_⟩
  refine Call_ (ld_blt I hg hm boot_enumerate (PyProof.Rows.callWith_type1 (thn (ha.run pos pins s σ H _ I h) fun us s1 ⟨vs, H1, I1, r1, q1⟩ => ?_) hs rfl))
  obtain ⟨a, xs, ex, q⟩ := q1
  subst ex
  cases r1 with
  | cons r rr =>
    cases rr
    cases r
    have fp : ∀ b ∈ [s1.heap.objs.size + 1, s1.heap.objs.size], FpOk X pins H1 b := fun b hb => by
      have hle : s1.heap.objs.size ≤ b := by
        rcases List.mem_cons.mp hb with z | hb
        · rw [z]; exact Nat.le_add_right _ _
        · rw [List.mem_singleton.mp hb]; exact Nat.le_refl _
      exact I1.fpOk hle (I1.hok.fresh hle)
    rcases q with ⟨hq, q⟩ | ⟨hq, q⟩
    · obtain ⟨its, rv, p', hz⟩ := I1.list hq
      refine pd_call_enum (begins_list a its.toArray) p'.isList fun h' he hit hk => wpAny_pyIter_enum he ?_
      exact ⟨s1.heap.objs.size + 1, _, _, _, H1, rfl, I1.kept (t' := s1.toks) hk, turn_enum a (s1.heap.objs.size + 1) s1.heap.objs.size, ⟨⟨.none, he⟩, ⟨_, hit, rfl, rfl⟩, Nat.succ_ne_self _⟩, fp, q⟩
    · obtain ⟨its, rv, p', hz⟩ := I1.tuple hq
      refine pd_call_enum (begins_tuple a its.toArray) p' fun h' he hit hk => wpAny_pyIter_enum he ?_
      have hal : a < s1.heap.objs.size := by
        obtain ⟨o, ho, _⟩ := p'
        exact Heap.lt_size ho
      exact ⟨s1.heap.objs.size + 1, _, _, _, H1, rfl, I1.kept (t' := s1.toks) hk, turn_enumT a (s1.heap.objs.size + 1) s1.heap.objs.size, ⟨⟨.none, he⟩, ⟨_, hit, rfl, rfl⟩, Nat.succ_ne_self _, Nat.ne_of_lt hal⟩, fp, q⟩

/-! ### what is walked -/
theorem walkD_of {z : Z} {g : G} {J : It} {ds : List D} {vs : List V} (r : Reps z.K g ds vs)
    (go : ∀ g2 H2 st2 i v, Ge g g2 → Sim z.K z.T g2 st2 H2 → vs[i]? = some v → J.go i H2 ∧ ∀ x H3, J.yld i H2 x H3 → H3 = H2 ∧ x = v)
    (stop : ∀ g2 H2 st2, Ge g g2 → Sim z.K z.T g2 st2 H2 → J.stop vs.length H2) : WalkD z g J ds none where
  go := fun g2 H2 st2 i d0 d q S e1 e2 => by
    cases e2
    obtain ⟨v, ev, rv⟩ := r.get e1
    obtain ⟨h1, h2⟩ := go g2 H2 st2 i v q S ev
    refine ⟨h1, fun x H3 y => ?_⟩
    obtain ⟨rfl, rfl⟩ := h2 x H3 y
    exact ⟨g2, Le.refl _ _, S, rv.mono q⟩
  stop := fun g2 H2 st2 q S _ => by rw [r.length]; exact stop g2 H2 st2 q S
def iSeqA (K : PySem.W.Frag) (tl : TE) : TI := fun σ H R => tl σ H fun x H1 => ∃ a, x = .ref a ∧ (((∃ xs, SqL K H1 a xs) ∧ R (Itl K a) H1) ∨ ((∃ xs, SqT K H1 a xs) ∧ R (Itt K a) H1))
theorem pi_seqA {te : TE} (h : PE X e te) : PI X tg e (iSeqA X.K te) := by
  refine ⟨fun pins s σ H R I q => ?_⟩
  refine thn (h.run pins s σ H _ I q) fun v s1 ⟨x, H1, I1, r1, q1⟩ => ?_
  obtain ⟨a, ex, q1⟩ := q1
  subst ex
  cases r1
  have fp : ∀ b ∈ [s1.heap.objs.size], FpOk X pins H1 b := fun b hb => by
    rw [List.mem_singleton.mp hb]; exact I1.fpOk (Nat.le_refl _) (I1.hok.fresh (Nat.le_refl _))
  rcases q1 with ⟨⟨xs, hq⟩, q1⟩ | ⟨⟨xs, hq⟩, q1⟩
  · obtain ⟨its, rv, p, hz⟩ := I1.list hq
    refine wpAny_pyIter_list p.isList ?_
    exact ⟨_, _, _, _, H1, rfl, I1.kept (t' := s1.toks) fun b o e => Heap.get?_push_of_some _ e, turn_list a _, ⟨_, Heap.get?_push_size _ rfl, rfl, rfl⟩, fp, q1⟩
  · obtain ⟨its, rv, p, hz⟩ := I1.tuple hq
    refine wpAny_pyIter_tuple (show s1.heap.IsTuple a its.toArray from p) ?_
    exact ⟨_, _, _, _, H1, rfl, I1.kept (t' := s1.toks) fun b o e => Heap.get?_push_of_some _ e, turn_tuple a _, ⟨_, Heap.get?_push_size _ rfl, rfl, rfl⟩, fp, q1⟩
theorem sqL_inj {K : PySem.W.Frag} {H : Hp} {a : Addr} {xs ys : List V} (h : H a = some (.lst xs)) (h' : SqL K H a ys) (hk : K.lookup a = none) : xs = ys := by
  rcases h' with (h' | ⟨o, h'⟩) | ⟨o, its, n, h', _⟩
  · rw [h] at h'; cases h'; rfl
  · rw [h] at h'; cases h'
  · rw [hk] at h'; cases h'
end
end PD
/-! PDRules4: what is walked over the data; comprehensions; loops. -/
namespace PD
open PySem PySem.Spec PyProof.Rows L2
section
variable {X : Cx} {T : List (Addr × Str)} {W : WX} {a b c e e2 elt iter : Expr} {es ifs : List Expr} {fa fb fc fe : SE} {fs : SA} {ft fu : ST} {fi : SI} {pos p tpos : Pos} {x : Str} {tg : Expr} {elts : List Expr} {kk : Nat}

theorem walkD_ref {z : Z} {g : G} {l : Nat} {a : Addr} {xs : List D} (hl : g.ι[l]? = some a) : WalkD z g (Itl z.K a) xs (some (.inl l)) where
  go := fun g2 H2 st2 i d0 d q S e1 e2 => by
    unfold fetch at e2
    dsimp only at e2
    split at e2
    · rename_i ys hs
      obtain ⟨vs, h1, h2, h3, h4⟩ := S.obj l a _ (q.i _ _ hl) hs
      obtain ⟨v, ev, rv⟩ := h4.get e2
      refine ⟨⟨vs, v, SqL.of h2, ev⟩, fun x H3 y => ?_⟩
      obtain ⟨rfl, hy⟩ := y
      have : x = v := Option.some.inj ((hy vs (SqL.of h2)).symm.trans ev)
      subst this
      exact ⟨g2, Le.refl _ _, S, rv⟩
    · cases e2
  stop := fun g2 H2 st2 q S hf => by
    unfold finOk at hf
    dsimp only at hf
    split at hf
    · rename_i ys hs
      obtain ⟨vs, h1, h2, h3, h4⟩ := S.obj l a _ (q.i _ _ hl) hs
      refine ⟨vs, SqL.of h2, ?_⟩
      rw [← h4.length, beq_iff_eq.mp hf]; exact Nat.le_refl _
    · cases hf
theorem walkD_list {z : Z} {g : G} {a : Addr} {xs : List D} {vs : List V} (h : SqL z.K g.B a vs) (r : Reps z.K g xs vs) : WalkD z g (Itl z.K a) xs none :=
  walkD_of r (fun g2 H2 st2 i v q S ev => by
    have h2 : SqL z.K H2 a vs := sqL_mono S.sub (sqL_mono q.b h)
    exact ⟨⟨vs, v, h2, ev⟩, fun x H3 y => ⟨y.1, Option.some.inj ((y.2 vs h2).symm.trans ev)⟩⟩)
    fun g2 H2 st2 q S => ⟨vs, sqL_mono S.sub (sqL_mono q.b h), Nat.le_refl _⟩
theorem walkD_tup {z : Z} {g : G} {a : Addr} {xs : List D} {vs : List V} (h : SqT z.K g.B a vs) (r : Reps z.K g xs vs) : WalkD z g (Itt z.K a) xs none :=
  walkD_of r (fun g2 H2 st2 i v q S ev => by
    have h2 : SqT z.K H2 a vs := sqT_mono S.sub (sqT_mono q.b h)
    exact ⟨⟨vs, v, h2, ev⟩, fun x H3 y => ⟨y.1, Option.some.inj ((y.2 vs h2).symm.trans ev)⟩⟩)
    fun g2 H2 st2 q S => ⟨vs, sqT_mono S.sub (sqT_mono q.b h), Nat.le_refl _⟩
theorem pi_seqD (h : PE X e (tD (zX X T) W fe)) : PI X tg e (tDI (zX X T) W (iSeq fe)) :=
  PI.wk (pi_seqA h) fun σ H R ⟨g, ρ, st, S, E, q⟩ => by
    refine ⟨g, ρ, st, S, E, Sat.mono (sat_bind q) (fun d st1 q1 g1 H1 v L1 S1 r1 => ?_) fun _ _ _ q => q⟩
    split at q1
    · rename_i xs e1
      cases d with
      | tup ys =>
        cases e1
        cases r1 with
        | tup k1 k2 k3 => exact ⟨_, rfl, .inr ⟨⟨_, sqT_mono S1.sub k1.t⟩, q1 g1 H1 _ L1 S1 (walkD_tup k1.t k3)⟩⟩
      | lst ys =>
        cases e1
        cases r1 with
        | lst k1 k2 k3 => exact ⟨_, rfl, .inl ⟨⟨_, SqL.of (S1.sub _ _ k1)⟩, q1 g1 H1 _ L1 S1 (walkD_list (SqL.of k1) k3)⟩⟩
      | fz ys =>
        cases e1
        cases r1 with
        | fz k1 k2 k3 => exact ⟨_, rfl, .inl ⟨⟨_, sqL_mono S1.sub k1⟩, q1 g1 H1 _ L1 S1 (walkD_list k1 k3)⟩⟩
      | ref l =>
        obtain ⟨a, vs, ea, h2, _, _⟩ := S1.litems (xs := xs) r1 e1
        cases r1 with
        | ref hl => exact ⟨_, rfl, .inl ⟨⟨_, SqL.of (by cases ea; exact h2)⟩, q1 g1 H1 _ L1 S1 (walkD_ref hl)⟩⟩
      | _ => cases e1
    · exact q1.elim
theorem reps_range (K : PySem.W.Frag) (g : G) (lo : Int) : ∀ (n k : Nat), Reps K g ((List.range' k n).map fun (i : Nat) => D.int (lo + (i : Int))) ((List.range' k n).map fun (i : Nat) => V.int (lo + (i : Int)))
  | 0, k => .nil
  | n + 1, k => by
    rw [List.range'_succ]
    exact .cons (.int _) (reps_range K g lo n (k + 1))
theorem walkD_range {z : Z} {g : G} (lo : Int) (n : Nat) : WalkD z g (Itr lo n) (rangeL lo n) none where
  go := fun g2 H2 st2 i d0 d q S e1 e2 => by
    cases e2
    unfold rangeL at e1
    rw [List.getElem?_map] at e1
    have hi : i < n := by
      cases q : (List.range n)[i]? with
      | none => rw [q] at e1; cases e1
      | some j => have := (List.getElem?_eq_some_iff.mp q).1; simpa using this
    have ed : d0 = .int (lo + i) := by
      rw [List.getElem?_range hi] at e1
      exact (Option.some.inj e1).symm
    subst ed
    refine ⟨hi, fun x H3 y => ?_⟩
    obtain ⟨rfl, rfl⟩ := y
    exact ⟨g2, Le.refl _ _, S, .int _⟩
  stop := fun g2 H2 st2 q S _ => by show n ≤ (rangeL lo n).length; unfold rangeL; simp
theorem bd62a {j : Int} (h : -1000000 ≤ j) : -(2 ^ 62) ≤ j := Int.le_trans (by decide +kernel) h
theorem bd62b {j : Int} (h : j ≤ 1000000) : j < 2 ^ 62 := Int.lt_of_le_of_lt h (by decide +kernel)
theorem pi_rangeD1 (hg : Gl X "range") (hm : X.mg "range" = none) (ha : PA X [a] (tDA (zX X T) W fs)) (hs : starEach [a] X.env = [(false, eval a X.env)] := by rfl) : PI X tg (.Call (.Name "range" p) [a] [] pos) (tDI (zX X T) W (iRange1 fs)) :=
  PI.wk (pi_range1 hg hm ha hs) fun σ H R ⟨g, ρ, st, S, E, q⟩ => by
    refine ⟨g, ρ, st, S, E, Sat.mono (sat_bind q) (fun ds st1 q1 g1 H1 vs L1 S1 r1 => ?_) fun _ _ _ q => q⟩
    split at q1
    · split at q1
      · rename_i hj
        cases r1 with
        | cons r1 r2 => cases r2; cases r1; exact ⟨_, rfl, bd62a hj.1, bd62b hj.2, q1 g1 H1 _ L1 S1 (walkD_range 0 _)⟩
      · exact q1.elim
    · exact q1.elim
theorem pi_rangeD2 (hg : Gl X "range") (hm : X.mg "range" = none) (ha : PA X [a, b] (tDA (zX X T) W fs)) (hs : starEach [a, b] X.env = [(false, eval a X.env), (false, eval b X.env)] := by rfl) (hs2 : starEach [b] X.env = [(false, eval b X.env)] := by rfl) : PI X tg (.Call (.Name "range" p) [a, b] [] pos) (tDI (zX X T) W (iRange2 fs)) :=
  PI.wk (pi_range2 hg hm ha hs hs2) fun σ H R ⟨g, ρ, st, S, E, q⟩ => by
    refine ⟨g, ρ, st, S, E, Sat.mono (sat_bind q) (fun ds st1 q1 g1 H1 vs L1 S1 r1 => ?_) fun _ _ _ q => q⟩
    split at q1
    · split at q1
      · rename_i hj
        cases r1 with
        | cons r1 r2 => cases r2 with | cons r2 r3 => cases r3; cases r1; cases r2; exact ⟨_, _, rfl, ⟨bd62a hj.1, bd62b hj.2.1, bd62a hj.2.2.1, bd62b hj.2.2.2⟩, q1 g1 H1 _ L1 S1 (walkD_range _ _)⟩
      · exact q1.elim
    · exact q1.elim
/-- new pairs -/
theorem walkD_pair {z : Z} {g : G} {J : It} {ds xs ys : List D} {vs ws : List V} (rx : Reps z.K g xs vs) (ry : Reps z.K g ys ws) (hd : ∀ (i : Nat) d, ds[i]? = some d → ∃ dx dy, xs[i]? = some dx ∧ ys[i]? = some dy ∧ d = .tpl [dx, dy])
    (go : ∀ g2 H2 st2 (i : Nat) v w, Ge g g2 → Sim z.K z.T g2 st2 H2 → vs[i]? = some v → ws[i]? = some w → J.go i H2 ∧ ∀ x H3, J.yld i H2 x H3 → ∃ Tp, x = .ref Tp ∧ H2 Tp = none ∧ H3 = upd H2 Tp (.tup [v, w]))
    (stop : ∀ g2 H2 st2, Ge g g2 → Sim z.K z.T g2 st2 H2 → J.stop ds.length H2) : WalkD z g J ds none where
  go := fun g2 H2 st2 i d0 d q S e1 e2 => by
    cases e2
    obtain ⟨dx, dy, ex, ey, rfl⟩ := hd i d0 e1
    obtain ⟨v, ev, rv⟩ := rx.get ex
    obtain ⟨w, ew, rw'⟩ := ry.get ey
    obtain ⟨h1, h2⟩ := go g2 H2 st2 i v w q S ev ew
    refine ⟨h1, fun x H3 y => ?_⟩
    obtain ⟨Tp, rfl, hT, rfl⟩ := h2 x H3 y
    obtain ⟨S', L'⟩ := S.allocB (o := .tup [v, w]) hT (fun _ => by simp)
    exact ⟨_, L', S', .tpl (SqT.of upd_same) (by show 2 ≤ sizeLine; decide) (.cons ((rv.mono q).mono L'.ge) (.cons ((rw'.mono q).mono L'.ge) .nil))⟩
  stop := fun g2 H2 st2 q S _ => stop g2 H2 st2 q S
theorem zipD_get : ∀ {xs ys : List D} {i : Nat} {d : D}, (zipD xs ys)[i]? = some d → ∃ dx dy, xs[i]? = some dx ∧ ys[i]? = some dy ∧ d = .tpl [dx, dy]
  | x :: xs, y :: ys, 0, d, h => by cases h; exact ⟨x, y, rfl, rfl, rfl⟩
  | x :: xs, y :: ys, i + 1, d, h => by
    obtain ⟨dx, dy, h1, h2, h3⟩ := zipD_get (xs := xs) (ys := ys) (i := i) (by simpa [zipD] using h)
    exact ⟨dx, dy, by simpa using h1, by simpa using h2, h3⟩
  | [], _, _, _, h => by simp [zipD] at h
  | _ :: _, [], _, _, h => by simp [zipD] at h
theorem zipD_len : ∀ (xs ys : List D), (zipD xs ys).length = min xs.length ys.length
  | x :: xs, y :: ys => by
    show (zipD xs ys).length + 1 = _
    rw [zipD_len xs ys, List.length_cons, List.length_cons]; omega
  | [], ys => by cases ys <;> simp [zipD]
  | _ :: _, [] => by simp [zipD]
theorem pi_zipD (hg : Gl X "zip") (hm : X.mg "zip" = none) (ha : PA X [e, e2] (tDA (zX X T) W fs)) (hs : starEach [e, e2] X.env = (false, eval e X.env) :: starEach [e2] X.env := by rfl) (hpl : (backTo pos (starEach [e2] X.env)).any (·.1) = false := by rfl) :
    PI X (.Tuple elts kk tpos) (.Call (.Name "zip" p) [e, e2] [] pos) (tDI (zX X T) W (iZip fs)) :=
  PI.wk (RZ.pi_zipA hg hm ha hs hpl) fun σ H R ⟨g, ρ, st, S, E, q⟩ => by
    refine ⟨g, ρ, st, S, E, Sat.mono (sat_bind q) (fun ds st1 q1 g1 H1 vs L1 S1 r1 => ?_) fun _ _ _ q => q⟩
    split at q1
    · rename_i xs ys
      cases r1 with
      | cons r1 r2 => cases r2 with
        | cons r2 r3 =>
          cases r3
          cases r1 with
          | tup a1 a2 a3 => cases r2 with
            | tup b1 b2 b3 =>
              refine ⟨_, _, _, _, rfl, .inr ⟨sqT_mono S1.sub a1.t, sqT_mono S1.sub b1.t, q1 g1 H1 _ L1 S1 ?_⟩⟩
              refine walkD_pair a3 b3 (fun i d h => zipD_get h) (fun g2 H2 st2 i v w q S ev ew => ?_) fun g2 H2 st2 q S => ?_
              · have h1 := sqT_mono S.sub (sqT_mono q.b a1.t)
                have h2 := sqT_mono S.sub (sqT_mono q.b b1.t)
                refine ⟨⟨_, _, v, w, h1, h2, ev, ew⟩, fun x H3 y => ?_⟩
                obtain ⟨Tp, x1, x2, rfl, hT, rfl, y1, y2⟩ := y
                have e1 := Option.some.inj ((y1 _ h1).symm.trans ev)
                have e2 := Option.some.inj ((y2 _ h2).symm.trans ew)
                subst e1 e2
                exact ⟨Tp, rfl, hT, rfl⟩
              · refine ⟨_, _, sqT_mono S.sub (sqT_mono q.b a1.t), sqT_mono S.sub (sqT_mono q.b b1.t), ?_⟩
                show _ ≤ (zipD xs ys).length ∨ _ ≤ (zipD xs ys).length
                rw [zipD_len, a3.length, b3.length]; omega
    · rename_i xs ys
      cases r1 with
      | cons r1 r2 => cases r2 with
        | cons r2 r3 =>
          cases r3
          cases r1 with
          | lst a1 a2 a3 => cases r2 with
            | lst b1 b2 b3 =>
              refine ⟨_, _, _, _, rfl, .inl ⟨SqL.of (S1.sub _ _ a1), SqL.of (S1.sub _ _ b1), q1 g1 H1 _ L1 S1 ?_⟩⟩
              refine walkD_pair a3 b3 (fun i d h => zipD_get h) (fun g2 H2 st2 i v w q S ev ew => ?_) fun g2 H2 st2 q S => ?_
              · have h1 : SqL X.K H2 _ _ := SqL.of (S.sub _ _ (q.b _ _ a1))
                have h2 : SqL X.K H2 _ _ := SqL.of (S.sub _ _ (q.b _ _ b1))
                refine ⟨⟨_, _, v, w, h1, h2, ev, ew⟩, fun x H3 y => ?_⟩
                obtain ⟨Tp, x1, x2, rfl, hT, rfl, y1, y2⟩ := y
                have e1 := Option.some.inj ((y1 _ h1).symm.trans ev)
                have e2 := Option.some.inj ((y2 _ h2).symm.trans ew)
                subst e1 e2
                exact ⟨Tp, rfl, hT, rfl⟩
              · refine ⟨_, _, SqL.of (S.sub _ _ (q.b _ _ a1)), SqL.of (S.sub _ _ (q.b _ _ b1)), ?_⟩
                show _ ≤ (zipD xs ys).length ∨ _ ≤ (zipD xs ys).length
                rw [zipD_len, a3.length, b3.length]; omega
    · exact q1.elim
def numsD (n k : Nat) : List D := (List.range' k n).map fun i => D.int (i : Nat)
def numsV (n k : Nat) : List V := (List.range' k n).map fun i => V.int (i : Nat)
theorem reps_nums (K : PySem.W.Frag) (g : G) : ∀ (n k : Nat), Reps K g (numsD n k) (numsV n k)
  | 0, k => .nil
  | n + 1, k => by
    unfold numsD numsV
    rw [List.range'_succ]
    exact .cons (.int _) (reps_nums K g n (k + 1))
theorem enum_zip : ∀ (xs : List D) (k : Nat), enumFromD k xs = zipD (numsD xs.length k) xs
  | [], k => rfl
  | x :: xs, k => by
    show D.tpl [.int k, x] :: enumFromD (k + 1) xs = zipD (numsD (xs.length + 1) k) (x :: xs)
    unfold numsD
    rw [List.range'_succ, List.map_cons]
    show _ = D.tpl [.int k, x] :: zipD (numsD xs.length (k + 1)) xs
    rw [enum_zip xs (k + 1)]
theorem nums_get {n k i : Nat} {v : V} (h : (numsV n k)[i]? = some v) : v = .int ((k + i : Nat) : Int) := by
  unfold numsV at h
  rw [List.getElem?_map] at h
  cases q : (List.range' k n)[i]? with
  | none => rw [q] at h; cases h
  | some j =>
    rw [q] at h
    have := (List.getElem?_eq_some_iff.mp q).2
    rw [List.getElem_range'] at this
    cases h
    subst this
    simp
theorem pi_enumD (hg : Gl X "enumerate") (hm : X.mg "enumerate" = none) (ha : PA X [e] (tDA (zX X T) W fs)) (hs : starEach [e] X.env = [(false, eval e X.env)] := by rfl) : PI X (.Tuple elts kk tpos) (.Call (.Name "enumerate" p) [e] [] pos) (tDI (zX X T) W (iEnum fs)) :=
  PI.wk (pi_enumA hg hm ha hs) fun σ H R ⟨g, ρ, st, S, E, q⟩ => by
    refine ⟨g, ρ, st, S, E, Sat.mono (sat_bind q) (fun ds st1 q1 g1 H1 vs L1 S1 r1 => ?_) fun _ _ _ q => q⟩
    split at q1
    · rename_i xs
      cases r1 with
      | cons r1 r2 =>
        cases r2
        cases r1 with
        | tup a1 a2 a3 =>
          refine ⟨_, _, rfl, .inr ⟨sqT_mono S1.sub a1.t, q1 g1 H1 _ L1 S1 ?_⟩⟩
          rw [enum_zip]
          refine walkD_pair (reps_nums _ _ xs.length 0) a3 (fun i d h => zipD_get h) (fun g2 H2 st2 i v w q S ev ew => ?_) fun g2 H2 st2 q S => ?_
          · have h1 := sqT_mono S.sub (sqT_mono q.b a1.t)
            refine ⟨⟨_, w, h1, ew⟩, fun x H3 y => ?_⟩
            obtain ⟨Tp, x1, rfl, hT, rfl, y1⟩ := y
            have e1 := Option.some.inj ((y1 _ h1).symm.trans ew)
            have e2 := nums_get ev
            rw [Nat.zero_add] at e2
            subst e1 e2
            exact ⟨Tp, rfl, hT, rfl⟩
          · refine ⟨_, sqT_mono S.sub (sqT_mono q.b a1.t), ?_⟩
            rw [zipD_len]
            unfold numsD
            rw [List.length_map, List.length_range', ← a3.length]; omega
    · rename_i xs
      cases r1 with
      | cons r1 r2 =>
        cases r2
        cases r1 with
        | lst a1 a2 a3 =>
          refine ⟨_, _, rfl, .inl ⟨SqL.of (S1.sub _ _ a1), q1 g1 H1 _ L1 S1 ?_⟩⟩
          rw [enum_zip]
          refine walkD_pair (reps_nums _ _ xs.length 0) a3 (fun i d h => zipD_get h) (fun g2 H2 st2 i v w q S ev ew => ?_) fun g2 H2 st2 q S => ?_
          · have h1 : SqL X.K H2 _ _ := SqL.of (S.sub _ _ (q.b _ _ a1))
            refine ⟨⟨_, w, h1, ew⟩, fun x H3 y => ?_⟩
            obtain ⟨Tp, x1, rfl, hT, rfl, y1⟩ := y
            have e1 := Option.some.inj ((y1 _ h1).symm.trans ew)
            have e2 := nums_get ev
            rw [Nat.zero_add] at e2
            subst e1 e2
            exact ⟨Tp, rfl, hT, rfl⟩
          · refine ⟨_, SqL.of (S.sub _ _ (q.b _ _ a1)), ?_⟩
            rw [zipD_len]
            unfold numsD
            rw [List.length_map, List.length_range', ← a3.length]; omega
    · rename_i l
      split at q1
      · rename_i xs hs
        cases r1 with
        | cons r1 r2 =>
          cases r2
          cases r1 with
          | ref hl =>
            obtain ⟨vs, b1, b2, b3, b4⟩ := S1.obj l _ _ hl hs
            refine ⟨_, _, rfl, .inl ⟨SqL.of b2, q1 g1 H1 _ L1 S1 ?_⟩⟩
            refine ⟨fun g2 H2 st2 i d0 d q S e1 e2 => ?_, fun g2 H2 st2 q S hf => ?_⟩
            · unfold fetch at e2
              dsimp only at e2
              split at e2
              · rename_i ys hs2
                obtain ⟨ws, c1, c2, c3, c4⟩ := S.obj l _ _ (q.i _ _ hl) hs2
                cases ey : ys[i]? with
                | none => rw [ey] at e2; cases e2
                | some dx =>
                  rw [ey] at e2
                  cases e2
                  obtain ⟨w, ew, rw'⟩ := c4.get ey
                  refine ⟨⟨ws, w, SqL.of c2, ew⟩, fun x H3 y => ?_⟩
                  obtain ⟨Tp, x1, rfl, hT, rfl, y1⟩ := y
                  have e3 := Option.some.inj ((y1 _ (SqL.of c2)).symm.trans ew)
                  subst e3
                  obtain ⟨S', L'⟩ := S.allocB (o := .tup [.int (i : Int), x1]) hT (fun _ => by simp)
                  exact ⟨_, L', S', .tpl (SqT.of upd_same) (by show 2 ≤ sizeLine; decide) (.cons (.int _) (.cons (rw'.mono L'.ge) .nil))⟩
              · cases e2
            · unfold finOk at hf
              dsimp only at hf
              split at hf
              · rename_i ys hs2
                obtain ⟨ws, c1, c2, c3, c4⟩ := S.obj l _ _ (q.i _ _ hl) hs2
                refine ⟨ws, SqL.of c2, ?_⟩
                rw [← c4.length, beq_iff_eq.mp hf]; exact Nat.le_refl _
              · cases hf
      · exact q1.elim
    · exact q1.elim

/-! ### targets -/
/-- a target stores what g says, in the slots sl alone -/
def TgOk (z : Z) (t : TG) (gd : TgD) (sl : List Nat) : Prop :=
  ∀ (g : G) (st : Sto) (σ : L2.St) (ρ ρ' : Ev) (H : Hp) (d : D) (v : V) (Q : L2.St → Hp → Prop), Sim z.K z.T g st H → Rep z.K g d v → EnvR z.K g σ ρ → gd d ρ = some ρ' →
    (∀ σ', EnvR z.K g σ' ρ' → (∀ vs, (∀ i ∈ sl, i ∈ vs) → wipe σ' vs = wipe σ vs) → Q σ' H) → t v σ H Q
theorem wipe_get {σ : L2.St} : ∀ {vs : List Nat} {j : Nat}, (wipe σ vs)[j]? = if j ∈ vs then (if j < σ.length then some none else none) else σ[j]?
  | [], j => by simp [wipe]
  | v :: vs, j => by
    unfold wipe
    by_cases hj : v = j
    · subst hj
      by_cases hl : v < σ.length
      · rw [List.getElem?_set_self (by rw [wipe_length]; exact hl)]
        simp [hl]
      · rw [List.getElem?_eq_none (by rw [List.length_set, wipe_length]; omega)]
        simp [hl]
    · rw [List.getElem?_set_ne hj, wipe_get]
      have : (j ∈ v :: vs) = (j ∈ vs) := by simp [Ne.symm hj]
      simp only [this]
theorem wipe_set {σ : L2.St} {i : Nat} {o : Option V} {vs : List Nat} (h : i ∈ vs) : wipe (σ.set i o) vs = wipe σ vs := by
  apply List.ext_getElem?
  intro j
  rw [wipe_get, wipe_get, List.length_set]
  by_cases hj : j ∈ vs
  · simp [hj]
  · have : i ≠ j := fun z => hj (z ▸ h)
    rw [if_neg hj, if_neg hj, List.getElem?_set_ne this]
theorem tg_name (z : Z) (i : Nat) : TgOk z (gName i) (gN i) [i] := fun g st σ ρ ρ' H d v Q S r E e k => by
  cases e
  exact k _ (E.set i r) fun vs hv => wipe_set (hv i (by simp))
theorem tg_two {z : Z} {t1 t2 : TG} {g1 g2 : TgD} {s1 s2 : List Nat} (h1 : TgOk z t1 g1 s1) (h2 : TgOk z t2 g2 s2) : TgOk z (gTup z.K 2 (gCons t1 (gCons t2 gNil))) (gT2 g1 g2) (s1 ++ s2) := fun g st σ ρ ρ' H d v Q S r E e k => by
  unfold gT2 at e
  split at e
  · rename_i x y
    obtain ⟨ρ1, e1, e2⟩ := Option.bind_eq_some_iff.mp e
    obtain ⟨a, vs, rfl, q1, q2, q3⟩ := S.tup r
    cases q3 with
    | cons r1 q3 => cases q3 with
      | cons r2 q3 =>
        cases q3
        refine ⟨a, [_, _], rfl, q1, rfl, _, [_], rfl, ?_⟩
        refine h1 g st σ ρ ρ1 H x _ _ S r1 E e1 fun σ1 E1 w1 => ?_
        refine ⟨_, [], rfl, ?_⟩
        refine h2 g st σ1 ρ1 ρ' H y _ _ S r2 E1 e2 fun σ2 E2 w2 => ⟨rfl, k σ2 E2 fun vs hv => ?_⟩
        rw [w2 vs fun i hi => hv i (by simp [hi]), w1 vs fun i hi => hv i (by simp [hi])]
  · rename_i x y
    obtain ⟨ρ1, e1, e2⟩ := Option.bind_eq_some_iff.mp e
    obtain ⟨a, vs, rfl, q1, q2, q3⟩ := S.tpl r
    cases q3 with
    | cons r1 q3 => cases q3 with
      | cons r2 q3 =>
        cases q3
        refine ⟨a, [_, _], rfl, q1, rfl, _, [_], rfl, ?_⟩
        refine h1 g st σ ρ ρ1 H x _ _ S r1 E e1 fun σ1 E1 w1 => ?_
        refine ⟨_, [], rfl, ?_⟩
        refine h2 g st σ1 ρ1 ρ' H y _ _ S r2 E1 e2 fun σ2 E2 w2 => ⟨rfl, k σ2 E2 fun vs hv => ?_⟩
        rw [w2 vs fun i hi => hv i (by simp [hi]), w1 vs fun i hi => hv i (by simp [hi])]
  · cases e
theorem tg_three {z : Z} {t1 t2 t3 : TG} {g1 g2 g3 : TgD} {s1 s2 s3 : List Nat} (h1 : TgOk z t1 g1 s1) (h2 : TgOk z t2 g2 s2) (h3 : TgOk z t3 g3 s3) : TgOk z (gTup z.K 3 (gCons t1 (gCons t2 (gCons t3 gNil)))) (gT3 g1 g2 g3) (s1 ++ (s2 ++ s3)) := fun g st σ ρ ρ' H d v Q S r E e k => by
  unfold gT3 at e
  split at e
  · rename_i x y w
    obtain ⟨ρ1, e1, e⟩ := Option.bind_eq_some_iff.mp e
    obtain ⟨ρ2, e2, e3⟩ := Option.bind_eq_some_iff.mp e
    obtain ⟨a, vs, rfl, q1, q2, q3⟩ := S.tup r
    cases q3 with
    | cons r1 q3 => cases q3 with
      | cons r2 q3 => cases q3 with
        | cons r3 q3 =>
          cases q3
          refine ⟨a, [_, _, _], rfl, q1, rfl, _, [_, _], rfl, ?_⟩
          refine h1 g st σ ρ ρ1 H x _ _ S r1 E e1 fun σ1 E1 w1 => ?_
          refine ⟨_, [_], rfl, ?_⟩
          refine h2 g st σ1 ρ1 ρ2 H y _ _ S r2 E1 e2 fun σ2 E2 w2 => ?_
          refine ⟨_, [], rfl, ?_⟩
          refine h3 g st σ2 ρ2 ρ' H w _ _ S r3 E2 e3 fun σ3 E3 w3 => ⟨rfl, k σ3 E3 fun vs hv => ?_⟩
          rw [w3 vs fun i hi => hv i (by simp [hi]), w2 vs fun i hi => hv i (by simp [hi]), w1 vs fun i hi => hv i (by simp [hi])]
  · cases e

/-! ### comprehensions -/
abbrev W0 : WX := fun _ _ _ _ => False
theorem nx_sat {α : Type} {o : Out α} {P : α → Sto → Prop} {E : Str → List (Str × D) → Sto → Prop} (h : Sat o.nx P E) : Sat o P (fun _ _ _ => False) := by
  cases o <;> exact h
theorem xpost0 {z : Z} {σ : L2.St} {g : G} {H : Hp} {n : Str} {fs : List (Str × D)} {st : Sto} (h : False) : XPost z W0 σ g H n fs st := h.elim
theorem drop_cons {α : Type} {xs : List α} {i : Nat} {x : α} {r : List α} (h : xs.drop i = x :: r) : xs[i]? = some x ∧ xs.drop (i + 1) = r := by
  have h1 : xs[i]? = (xs.drop i)[0]? := by simp
  refine ⟨by rw [h1, h]; rfl, ?_⟩
  rw [← List.drop_drop, h]; rfl
theorem wipe_wipe {σ : L2.St} {vs : List Nat} : wipe (wipe σ vs) vs = wipe σ vs := by
  apply List.ext_getElem?
  intro j
  rw [wipe_get, wipe_get, wipe_length]
  by_cases hj : j ∈ vs
  · simp [hj]
  · simp [hj]
/-- a thing apart is written -/
theorem Sim.side {K : PySem.W.Frag} {g : G} {st : Sto} {H : Hp} {p : Addr} {o : HO} (S : Sim K T g st H) (hB : g.B p = none) (hI : p ∉ g.ι) (hp : ∀ o', H p = some o' → (∃ xs, o' = .lst xs)) : Sim K T g st (upd H p o) := by
  refine ⟨fun b u e => ?_, S.len, S.nd, fun b hb => ?_, fun k b mo e1 e2 => ?_, fun q hq => ?_, S.tb⟩
  · rw [upd_ne (ne_of_none e hB)]; exact S.sub b u e
  · obtain ⟨u, e, q⟩ := S.there b hb
    exact ⟨u, by rw [upd_ne (fun z : b = p => hI (by rw [← z]; exact hb))]; exact e, q⟩
  · have nb : b ≠ p := fun z => hI (z ▸ List.mem_of_getElem? e1)
    exact (S.obj k b mo e1 e2).mono (Ge.refl g) (fun z => z) fun u z => by rw [upd_ne nb]; exact z
  · obtain ⟨ps, h1, h2, h3⟩ := S.tabs q hq
    have n1 : q.1 ≠ p := fun z => by
      obtain ⟨xs, e⟩ := hp _ (z ▸ h1)
      cases e
    refine ⟨ps, by rw [upd_ne n1]; exact h1, h2, fun pos cv hc => ?_⟩
    obtain ⟨c, e1, e2⟩ := h3 pos cv hc
    have n2 : c ≠ p := fun z => by
      obtain ⟨xs, e⟩ := hp _ (z ▸ e2)
      cases e
    exact ⟨c, e1, by rw [upd_ne n2]; exact e2⟩
theorem Le.side {g g' : G} {H H' : Hp} {p : Addr} {o : HO} (h : Le g g' H H') (hp : H p = none) : Le g g' H (upd H' p o) :=
  ⟨h.ge, fun a u e1 e2 e3 e4 => by
    obtain ⟨f1, f2, f3⟩ := h.fr a u e1 e2 e3 e4
    exact ⟨by rw [upd_ne (ne_of_none e1 hp)]; exact f1, f2, f3⟩⟩
/-- a thing apart is taken up: a list that never changes, or one of the store -/
theorem Sim.adopt {z : Z} {W : WX} {σ : L2.St} {Q : VK} {m : Bool} {g g0 : G} {st : Sto} {H H0 : Hp} {p : Addr} {xs : List D} {vs : List V} (S : Sim z.K z.T g st H) (L : Le g0 g H0 H) (h0 : H0 p = none) (hB : g.B p = none) (hI : p ∉ g.ι) (hp : H p = some (.lst vs)) (hz : vs.length ≤ sizeLine) (r : Reps z.K g xs vs)
    (h : EPost z W σ Q g0 H0 (newL m xs st)) : Q (.ref p) H := by
  cases m with
  | false =>
    have ge : Ge g ⟨upd g.B p (.lst vs), g.ι⟩ := ⟨fun a u e => by show upd g.B p (.lst vs) a = some u; rw [upd_ne (ne_of_none e hB)]; exact e, fun _ _ e => e⟩
    have nι : ∀ {l : Nat} {b : Addr}, g.ι[l]? = some b → b ≠ p := fun e z => hI (z ▸ List.mem_of_getElem? e)
    refine h ⟨upd g.B p (.lst vs), g.ι⟩ H _ ⟨L.ge.trans ge, fun a u e1 e2 e3 e4 => ?_⟩ ⟨fun a u e => ?_, S.len, S.nd, S.there, fun l b mo e1 e2 => ?_, S.tabs, fun a u e ps => ?_⟩ (.lst upd_same hz (r.mono ge))
    · obtain ⟨f1, f2, f3⟩ := L.fr a u e1 e2 e3 e4
      exact ⟨f1, by show upd g.B p (.lst vs) a = none; rw [upd_ne (ne_of_none e1 h0)]; exact f2, f3⟩
    · have e : upd g.B p (.lst vs) a = some u := e
      by_cases ha : a = p
      · subst ha; rw [upd_same] at e; cases e; exact hp
      · rw [upd_ne ha] at e; exact S.sub a u e
    · exact (S.obj l b mo e1 e2).mono ge (fun z => by show upd g.B p (.lst vs) b = none; rw [upd_ne (nι e1)]; exact z) fun u z => z
    · have e : upd g.B p (.lst vs) a = some u := e
      by_cases ha : a = p
      · subst ha; rw [upd_same] at e; cases e; intro q; cases q
      · rw [upd_ne ha] at e; exact S.tb a u e ps
  | true =>
    have ge : Ge g ⟨g.B, g.ι ++ [p]⟩ := ⟨fun a u e => e, fun l a e => by
      show (g.ι ++ [p])[l]? = some a
      rw [List.getElem?_append_left (List.getElem?_eq_some_iff.mp e).1]; exact e⟩
    refine h ⟨g.B, g.ι ++ [p]⟩ H (.ref p) ⟨L.ge.trans ge, fun a u e1 e2 e3 e4 => ?_⟩ ⟨S.sub, by simp [S.len], ?_, fun b hb => ?_, fun l b mo e1 e2 => ?_, S.tabs, S.tb⟩ (.ref ?_)
    · obtain ⟨f1, f2, f3⟩ := L.fr a u e1 e2 e3 e4
      refine ⟨f1, f2, fun z => (List.mem_append.mp z).elim f3 fun q => ?_⟩
      exact ne_of_none e1 h0 (by simpa using q)
    · refine List.nodup_append.mpr ⟨S.nd, by simp, fun a ha b hb => ?_⟩
      have : b = p := by simpa using hb
      subst this
      exact fun z => hI (z ▸ ha)
    · rcases List.mem_append.mp hb with hb | hb
      · exact S.there b hb
      · have : b = p := by simpa using hb
        subst this
        exact ⟨_, hp, fun ps q => by cases q⟩
    · have e1' : (g.ι ++ [p])[l]? = some b := e1
      by_cases hl : l < g.ι.length
      · rw [List.getElem?_append_left hl] at e1'
        rw [List.getElem?_append_left (by rw [← S.len]; exact hl)] at e2
        exact (S.obj l b mo e1' e2).mono ge (fun z => z) fun u z => z
      · rw [List.getElem?_append_right (by omega)] at e1'
        rw [List.getElem?_append_right (by rw [← S.len]; omega)] at e2
        have hl0 : l - g.ι.length = 0 := by
          have := (List.getElem?_eq_some_iff.mp e1').1
          simp at this; exact this
        rw [hl0] at e1'
        rw [← S.len, hl0] at e2
        simp at e1' e2
        subst e1' e2
        exact ⟨vs, hB, hp, hz, r.mono ge⟩
    · show (g.ι ++ [p])[st.length]? = some p
      rw [← S.len, List.getElem?_append_right (Nat.le_refl _)]; simp
/-- the turns of a comprehension -/
theorem lc_turns {z : Z} {W : WX} {σ0 σ : L2.St} {Q : VK} {m : Bool} {J : It} {t : TG} {gd : TgD} {sl vs : List Nat} {ft : ST} {fe : SE} {ρ : Ev} {dy : Dy} {ds : List D} {g1 : G} {H1 : Hp} {st1 : Sto} {Dd : Addr}
    (ht : TgOk z t gd sl) (hsl : ∀ i ∈ sl, i ∈ vs) (hz : ds.length ≤ sizeLine) (E : EnvR z.K g1 σ ρ) (S1 : Sim z.K z.T g1 st1 H1) (wk : WalkD z g1 J ds dy) (hD : H1 Dd = none)
    (h : EPost z W σ0 Q g1 H1 ((loopLC dy ds.length gd ft fe (wipeD ρ vs) 0 ds st1).bind fun ys st => newL m ys st)) :
    ∃ W' : Nat → Nat → Hp → Prop, (∃ k, W' 0 k (upd H1 Dd (.lst []))) ∧ ∀ i k H, W' i k H →
      (J.stop i H ∧ Q (.ref Dd) H) ∨ (J.go i H ∧ ∃ Nx : Hp → Prop, (∀ H', Nx H' → ∃ k', k' < k ∧ W' (i + 1) k' H') ∧ ∀ x H', J.yld i H x H' → t x (wipe σ vs) H' fun σ2 H2 => wipe σ2 vs = wipe σ vs ∧ tDT z W0 ft σ2 H2 fun b H3 =>
        if b = true then tD z W0 fe σ2 H3 fun y H4 => ∃ acc, H4 Dd = some (.lst acc) ∧ acc.length < sizeLine ∧ Nx (upd H4 Dd (.lst (acc ++ [y]))) else Nx H3) := by
  have hB1 := S1.freshB hD
  have hI1 := S1.freshI hD
  have S1' : Sim z.K z.T g1 st1 (upd H1 Dd (.lst [])) := S1.side hB1 hI1 fun o' e => by rw [hD] at e; cases e
  refine ⟨fun i k H => k = ds.length - i ∧ i ≤ ds.length ∧ ∃ g2 st2 as acc, Le g1 g2 H1 H ∧ Sim z.K z.T g2 st2 H ∧ H Dd = some (.lst acc) ∧ g2.B Dd = none ∧ Dd ∉ g2.ι ∧ Reps z.K g2 as acc ∧ acc.length ≤ i ∧
    EPost z W σ0 Q g1 H1 ((loopLC dy ds.length gd ft fe (wipeD ρ vs) i (ds.drop i) st2).bind fun ys st => newL m (as ++ ys) st),
    ⟨ds.length, by omega, by omega, g1, st1, [], [], (Le.refl _ _).side hD, S1', upd_same, hB1, hI1, .nil, by simp, by simpa using h⟩, ?_⟩
  rintro i k H ⟨rfl, hi, g2, st2, as, acc, L2', S2, hDa, hB, hI, ra, hl, h2⟩
  cases hd : ds.drop i with
  | nil =>
    have hin : i = ds.length := by
      have := congrArg List.length hd
      rw [List.length_drop, List.length_nil] at this; omega
    subst hin
    rw [hd] at h2
    unfold loopLC at h2
    split at h2
    · rename_i hf
      refine .inl ⟨wk.stop g2 H st2 L2'.ge S2 hf, ?_⟩
      have h3 : EPost z W σ0 Q g1 H1 (newL m (as ++ []) st2) := h2
      rw [List.append_nil] at h3
      exact S2.adopt L2' hD hB hI hDa (Nat.le_trans hl hz) ra h3
    · exact h2.elim
  | cons d0 r =>
    obtain ⟨e1, e2⟩ := drop_cons hd
    have hilt : i < ds.length := (List.getElem?_eq_some_iff.mp e1).1
    rw [hd] at h2
    unfold loopLC at h2
    split at h2
    · exact h2.elim
    · rename_i d hfe
      split at h2
      · exact h2.elim
      · rename_i ρ1 hg
        obtain ⟨go, yl⟩ := wk.go g2 H st2 i d0 d L2'.ge S2 e1 hfe
        refine .inr ⟨go, fun H' => ∃ g5 st5 as' acc', Le g1 g5 H1 H' ∧ Sim z.K z.T g5 st5 H' ∧ H' Dd = some (.lst acc') ∧ g5.B Dd = none ∧ Dd ∉ g5.ι ∧ Reps z.K g5 as' acc' ∧ acc'.length ≤ i + 1 ∧
          EPost z W σ0 Q g1 H1 ((loopLC dy ds.length gd ft fe (wipeD ρ vs) (i + 1) (ds.drop (i + 1)) st5).bind fun ys st => newL m (as' ++ ys) st),
          fun H' hN => ⟨ds.length - (i + 1), by omega, rfl, by omega, hN⟩, fun x H3 y => ?_⟩
        obtain ⟨g3, L3, S3, r3⟩ := yl x H3 y
        obtain ⟨f1, f2, f3⟩ := L3.fr Dd _ hDa hB hI (fun ps q => by cases q)
        have E3 : EnvR z.K g3 (wipe σ vs) (wipeD ρ vs) := (E.mono (L2'.trans L3).ge).wipe vs
        refine ht g3 st2 (wipe σ vs) (wipeD ρ vs) ρ1 H3 d x _ S3 r3 E3 hg fun σ2 E2 hw => ?_
        refine ⟨by rw [hw vs hsl]; exact wipe_wipe, ?_⟩
        refine ⟨g3, ρ1, st2, S3, E2, Sat.mono (nx_sat (sat_bind (sat_bind h2))) (fun b st4 q4 g4 H4 L4 S4 => ?_) fun _ _ _ q => q.elim⟩
        obtain ⟨k1, k2, k3⟩ := L4.fr Dd _ f1 f2 f3 (fun ps q => by cases q)
        have ra4 := ra.mono (L3.trans L4).ge
        have L14 := (L2'.trans L3).trans L4
        cases b with
        | true =>
          rw [if_pos rfl] at q4
          refine ⟨g4, ρ1, st4, S4, E2.mono L4.ge, Sat.mono (nx_sat (sat_bind q4)) (fun dy' st5 q5 g5 H5 v L5 S5 r5 => ?_) fun _ _ _ q => q.elim⟩
          obtain ⟨j1, j2, j3⟩ := L5.fr Dd _ k1 k2 k3 (fun ps q => by cases q)
          refine ⟨acc, j1, by omega, g5, st5, as ++ [dy'], acc ++ [v], (L14.trans L5).side hD, S5.side j2 j3 (fun o' e => by rw [j1] at e; cases e; exact ⟨_, rfl⟩), upd_same, j2, j3, (ra4.mono L5.ge).append (.one r5), by simp; omega, ?_⟩
          rw [e2]
          refine sat_bind' (Sat.mono (sat_bind q5) (fun ys st q => ?_) fun _ _ _ q => q)
          have q' : Sat (newL m (as ++ (dy' :: ys)) st) (VPost z Q g1 H1) (XPost z W σ0 g1 H1) := q
          rw [List.append_assoc]
          exact q'
        | false =>
          refine ⟨g4, st4, as, acc, L14, S4, k1, k2, k3, ra4, by omega, ?_⟩
          rw [if_neg Bool.false_ne_true] at q4
          rw [e2]
          exact sat_bind' q4
/-- [elt for tg in iter if ..] -/
theorem wk_lc {z : Z} {m : Bool} {t : TG} {gd : TgD} {sl vs : List Nat} (ht : TgOk z t gd sl) (hsl : ∀ i ∈ sl, i ∈ vs) : ∀ σ H Q, tD z W (sLC m fi gd ft fe vs) σ H Q → tLc (tDI z W fi) t (tDT z W0 ft) (tD z W0 fe) vs σ H Q := by
  rintro σ H Q ⟨g, ρ, st, S, E, q⟩
  refine ⟨g, ρ, st, S, E, Sat.mono (sat_bind q) (fun p st1 q1 g1 H1 J L1 S1 wk Dd hD => ?_) fun _ _ _ q => q⟩
  split at q1
  · rename_i hz
    exact lc_turns ht hsl hz (E.mono L1.ge) S1 wk hD (EPost.mono (W := W) (σ := σ) L1 q1)
  · exact q1.elim
end
end PD
/-! PDRules5: statements, defs and their calls. -/
namespace PD
open PySem PySem.Spec PyProof.Rows L2
section
variable {X : Cx} {T : List (Addr × Str)} {W : WX} {a b c e e2 elt iter : Expr} {es ifs : List Expr} {fa fb fc fe : SE} {fs : SA} {ft fu : ST} {fi : SI} {pos p tpos : Pos} {x : Str} {tg : Expr} {elts : List Expr} {kk : Nat} {qa qb : SS} {sa : Stmt} {ss : List Stmt}

theorem pts_nilD : PTs X [] (tDT (zX X T) W0 tYesD) := ⟨fun pins s σ H Q I ⟨g, ρ, st, S, E, q⟩ => pts_nil.run pins s σ H Q I (q g H (Le.refl g H) S)⟩
theorem pts_oneD (h : PT X c (tDT (zX X T) W0 ft)) : PTs X [c] (tDT (zX X T) W0 ft) := pts_one h
theorem pd_lc {scope : Scope} {own : List (Str × Nat)} {t : TG} {gd : TgD} {sl : List Nat} (m : Bool) (hc : X.calm = true) (hN : X.N.Nodup) (hi : PI X tg iter (tDI (zX X T) W fi)) (ok : BlkOk X.N X.env.scope scope own) (ht : TgOk (zX X T) t gd sl) (hsl : ∀ i ∈ sl, i ∈ own.map (·.2))
    (hg : ∀ (s : Shared) (H : Hp) (C : Addr) (cl : List (Str × Addr)) (fp : List Addr), PG (X.blk s H scope (compEnvC scope cl C X.env) fp) tg t)
    (hif : ∀ (s : Shared) (H : Hp) (C : Addr) (cl : List (Str × Addr)) (fp : List Addr), PTs (X.blk s H scope (compEnvC scope cl C X.env) fp) ifs (tDT (zX X T) W0 ft))
    (he : ∀ (s : Shared) (H : Hp) (C : Addr) (cl : List (Str × Addr)) (fp : List Addr), PE (X.blk s H scope (compEnvC scope cl C X.env) fp) elt (tD (zX X T) W0 fe)) (hs : ∀ x, foldedSetIterable iter X.env x = pure x := by intro _; rfl) :
    PE X (.ListComp elt [⟨tg, iter, ifs, 0⟩] scope pos) (tD (zX X T) W (sLC m fi gd ft fe (own.map (·.2)))) := PE.wk (pe_lc hc hN hi ok hg hif he hs) (wk_lc ht hsl)

/-! ### small statements -/
theorem qs_nil : PSs X [] (tDS (zX X T) W qNext) := PSs.wk pss_nil fun D σ H ⟨g, ρ, st, S, E, q⟩ => q g H (Le.refl g H) S σ E
theorem qs_cons (h1 : PS X sa (tDS (zX X T) W qa)) (h2 : PSs X ss (tDS (zX X T) W qb)) : PSs X (sa :: ss) (tDS (zX X T) W (qSeq qa qb)) :=
  PSs.wk (pss_cons h1 h2) fun D σ H ⟨g, ρ, st, S, E, q⟩ => by
    refine ⟨g, ρ, st, S, E, ?_⟩
    have q' : SPost (zX X T) W D g H (match qa ρ st with | some (.nx ρ', st') => qb ρ' st' | r => r) := q
    cases hq : qa ρ st with
    | none => rw [hq] at q'; exact q'
    | some r =>
      obtain ⟨fl, st'⟩ := r
      rw [hq] at q'
      cases fl with
      | nx ρ' => exact fun g' H' L S' σ' E' => ⟨g', ρ', st', S', E', SPost.mono L q'⟩
      | _ => exact q'
theorem qs_one (h1 : PS X sa (tDS (zX X T) W qa)) : PSs X [sa] (tDS (zX X T) W qa) := pss_one h1
theorem ps_passD : PS X (.Pass pos) (tDS (zX X T) W qNext) := PS.wk ps_pass fun D σ H ⟨g, ρ, st, S, E, q⟩ => q g H (Le.refl g H) S σ E
theorem ps_breakD : PS X (.Break pos) (tDS (zX X T) W qBrk) := PS.wk ps_break fun D σ H ⟨g, ρ, st, S, E, q⟩ => q g H (Le.refl g H) S σ E
theorem ps_contD : PS X (.Continue pos) (tDS (zX X T) W qCnt) := PS.wk ps_continue fun D σ H ⟨g, ρ, st, S, E, q⟩ => q g H (Le.refl g H) S σ E
theorem ps_neverD : PS X sa (tDS (zX X T) W qNever) := PS.wk ps_never fun D σ H ⟨g, ρ, st, S, E, q⟩ => q.elim
theorem qs_never : PSs X ss (tDS (zX X T) W qNever) := PSs.wk pss_never fun D σ H ⟨g, ρ, st, S, E, q⟩ => q.elim
theorem ps_exprD (he : PE X e (tD (zX X T) W fe)) (hs : swapsWith e none pos.line X.env = pure false := by rfl) : PS X (.Expr e pos) (tDS (zX X T) W (qExpr fe)) :=
  PS.wk (ps_expr he hs) fun D σ H ⟨g, ρ, st, S, E, q⟩ => ⟨g, ρ, st, S, E, Sat.mono (st_sat E q) (fun d st1 q1 g1 H1 v L1 S1 r1 => q1 g1 H1 L1 S1 σ (E.mono L1.ge)) fun _ _ _ q => q⟩
theorem ps_retD (he : PE X e (tD (zX X T) W fe)) : PS X (.Return (some e) pos) (tDS (zX X T) W (qRet fe)) :=
  PS.wk (ps_ret he) fun D σ H ⟨g, ρ, st, S, E, q⟩ => ⟨g, ρ, st, S, E, Sat.mono (st_sat E q) (fun d st1 q1 g1 H1 v L1 S1 r1 => q1 g1 H1 L1 S1 v r1) fun _ _ _ q => q⟩
theorem ps_retND : PS X (.Return none pos) (tDS (zX X T) W qRetN) := PS.wk ps_retN fun D σ H ⟨g, ρ, st, S, E, q⟩ => q g H (Le.refl g H) S .non .non
theorem wk_set {i : Nat} {t : TE} {f : SE} (h : ∀ σ H Q, tD (zX X T) W f σ H Q → t σ H Q) : ∀ D σ H, tDS (zX X T) W (qSet i f) D σ H → tAsg t (gName i) D σ H := fun D σ H ⟨g, ρ, st, S, E, q⟩ =>
  h σ H _ ⟨g, ρ, st, S, E, Sat.mono (st_sat E q) (fun d st1 q1 g1 H1 v L1 S1 r1 => q1 g1 H1 L1 S1 _ ((E.mono L1.ge).set i r1)) fun _ _ _ q => q⟩
theorem ps_setD {i : Nat} {pos' : Pos} (hN : X.N.Nodup) (hi : X.N[i]? = some x) (hx : Loc X.env.scope x) (he : PE X e (tD (zX X T) W fe)) (hs : swapsWith e (some (.Name x pos')) pos.line X.env = pure false := by rfl) (hf : X.fn x = true ∨ X.env.scope.names.lookup x = some .local := by first | exact .inl rfl | exact .inr rfl | assumption) :
    PS X (.Assign [.Name x pos'] e pos) (tDS (zX X T) W (qSet i fe)) := PS.wk (ps_set hN hi hx he hs hf) (wk_set fun _ _ _ h => h)
theorem ps_setLcD {i : Nat} {y : Str} {py spos : Pos} {scope : Scope} {own : List (Str × Nat)} {t : TG} {gd : TgD} {sl : List Nat} (m : Bool) (hc : X.calm = true) (hN : X.N.Nodup) (hy : X.N[i]? = some y) (hyl : X.env.scope.names.lookup y = some .local)
    (hsw : swapsWith (.ListComp elt [⟨tg, iter, ifs, 0⟩] scope pos) (some (.Name y py)) spos.line X.env = pure true) (hi : PI X tg iter (tDI (zX X T) W fi)) (ok : BlkOk X.N X.env.scope scope own) (ht : TgOk (zX X T) t gd sl) (hsl : ∀ i ∈ sl, i ∈ own.map (·.2))
    (hg : ∀ (s : Shared) (H : Hp) (C : Addr) (cl : List (Str × Addr)) (fp : List Addr), PG (X.blk s H scope (compEnvC scope cl C X.env) fp) tg t)
    (hif : ∀ (s : Shared) (H : Hp) (C : Addr) (cl : List (Str × Addr)) (fp : List Addr), PTs (X.blk s H scope (compEnvC scope cl C X.env) fp) ifs (tDT (zX X T) W0 ft))
    (he : ∀ (s : Shared) (H : Hp) (C : Addr) (cl : List (Str × Addr)) (fp : List Addr), PE (X.blk s H scope (compEnvC scope cl C X.env) fp) elt (tD (zX X T) W0 fe)) (hs : ∀ x, foldedSetIterable iter X.env x = pure x := by intro _; rfl) :
    PS X (.Assign [.Name y py] (.ListComp elt [⟨tg, iter, ifs, 0⟩] scope pos) spos) (tDS (zX X T) W (qSet i (sLC m fi gd ft fe (own.map (·.2))))) :=
  PS.wk (ps_setLc hc hN hy hyl hsw hi ok hg hif he hs) (wk_set (wk_lc ht hsl))
theorem ps_asgD {t : TG} {gd : TgD} {sl : List Nat} (ht : TgOk (zX X T) t gd sl) (he : PE X e (tD (zX X T) W fe)) (hg : PG X tg t) (hs : swapsWithSole [tg] e pos.line X.env = pure false := by rfl) (hw : swappedStores [tg] e X.env = pure none := by rfl)
    (h1 : (assignEach [tg] X.env).map (·.2) = [assign tg X.env] := by rfl) : PS X (.Assign [tg] e pos) (tDS (zX X T) W (qAsg gd fe)) :=
  PS.wk (ps_asg he hg hs hw h1) fun D σ H ⟨g, ρ, st, S, E, q⟩ => ⟨g, ρ, st, S, E, Sat.mono (st_sat E q) (fun d st1 q1 g1 H1 v L1 S1 r1 => by
    split at q1
    · rename_i ρ' e
      exact ht g1 st1 σ ρ ρ' H1 d v _ S1 r1 (E.mono L1.ge) e fun σ' E' _ => q1 g1 H1 L1 S1 σ' E'
    · exact q1.elim) fun _ _ _ q => q⟩
theorem ps_parD {i j : Nat} {x y : Str} {px py pt : Pos} {kt k2 : Nat} {pt2 : Pos} (hc : X.calm = true) (hN : X.N.Nodup) (hi : X.N[i]? = some x) (hj : X.N[j]? = some y) (hij : i ≠ j)
    (hx : X.env.scope.names.lookup x = some .local) (hy : X.env.scope.names.lookup y = some .local) (ha : PA X [a, b] (tDA (zX X T) W fs))
    (hw : swappedStores [.Tuple [.Name x px, .Name y py] kt pt] (.Tuple [a, b] k2 pt2) X.env = pure (some [x, y]))
    (hs : swapsWithSole [.Tuple [.Name x px, .Name y py] kt pt] (.Tuple [a, b] k2 pt2) pos.line X.env = pure false := by rfl) :
    PS X (.Assign [.Tuple [.Name x px, .Name y py] kt pt] (.Tuple [a, b] k2 pt2) pos) (tDS (zX X T) W (qPar i j fs)) :=
  PS.wk (ps_par hc hN hi hj hij hx hy ha hw hs) fun D σ H ⟨g, ρ, st, S, E, q⟩ => ⟨g, ρ, st, S, E, Sat.mono (st_sat E q) (fun ds st1 q1 g1 H1 vs L1 S1 r1 => by
    split at q1
    · cases r1 with
      | cons r1 r2 => cases r2 with
        | cons r2 r3 => cases r3; exact ⟨_, _, rfl, q1 g1 H1 L1 S1 _ (((E.mono L1.ge).set i r1).set j r2)⟩
    · exact q1.elim) fun _ _ _ q => q⟩
theorem ps_ifD {sb sc : List Stmt} (hc : PT X c (tDT (zX X T) W ft)) (ha : PSs X sb (tDS (zX X T) W qa)) (hb : PSs X sc (tDS (zX X T) W qb)) : PS X (.If c sb sc pos) (tDS (zX X T) W (qIf ft qa qb)) :=
  PS.wk (ps_if hc ha hb) fun D σ H ⟨g, ρ, st, S, E, q⟩ => ⟨g, ρ, st, S, E, Sat.mono (st_sat E q) (fun k st1 q1 g1 H1 L1 S1 => by
    cases k with
    | true => exact ⟨g1, ρ, st1, S1, E.mono L1.ge, SPost.mono L1 q1⟩
    | false => exact ⟨g1, ρ, st1, S1, E.mono L1.ge, SPost.mono L1 q1⟩) fun _ _ _ q => q⟩
/-- o[i] = e -/
theorem ps_setIxD {o i : Expr} {fo fx : SE} {pos' : Pos} (ho : PE X o (tD (zX X T) W fo)) (hi : PE X i (tD (zX X T) W fx)) (he : PE X e (tD (zX X T) W fe))
    (ha : ∀ v, assign (.Subscript o i pos') X.env v = (do
      let ov ← holding [v] (eval o X.env)
      let iv ← holding [v, ov] (eval i X.env)
      standAt pos'
      holding [v, ov, iv] (setItem ov iv v)
      release [v, ov, iv] []) := by intro _; rfl)
    (hs : swapsWithSole [.Subscript o i pos'] e pos.line X.env = pure false := by rfl) (hw : swappedStores [.Subscript o i pos'] e X.env = pure none := by rfl)
    (h1 : (assignEach [.Subscript o i pos'] X.env).map (·.2) = [assign (.Subscript o i pos') X.env] := by rfl) :
    PS X (.Assign [.Subscript o i pos'] e pos) (tDS (zX X T) W (qSetIx fo fx fe)) :=
  PS.wk (ps_asg he (pg_sub ho hi set_list ha) hs hw h1) fun D σ H ⟨g, ρ, st, S, E, q⟩ => ⟨g, ρ, st, S, E, Sat.mono (st_sat E q) (fun d st1 q1 g1 H1 v L1 S1 r1 => by
    refine ⟨g1, ρ, st1, S1, E.mono L1.ge, Sat.mono (st_sat E q1) (fun d2 st2 q2 g2 H2 v2 L2 S2 r2 => ?_) fun _ _ _ q => q.mono L1⟩
    refine ⟨g2, ρ, st2, S2, E.mono (L1.trans L2).ge, Sat.mono (st_sat E q2) (fun d3 st3 q3 g3 H3 v3 L3 S3 r3 => ?_) fun _ _ _ q => q.mono (L1.trans L2)⟩
    have L := (L1.trans L2).trans L3
    cases hf : fSetIx d2 d3 d st3 with
    | none => rw [hf] at q3; exact q3.elim
    | some st4 =>
      rw [hf] at q3
      unfold fSetIx at hf
      split at hf
      · rename_i l k
        split at hf
        · rename_i xs hs3
          split at hf
          · rename_i j hj
            cases hf
            cases r2 with
            | ref hl =>
              rename_i a
              cases r3
              have hl3 := L3.ge.i _ _ hl
              obtain ⟨ws, h1, h2, h3, h4⟩ := S3.obj _ a _ hl3 hs3
              refine ⟨a, ws, k, j, rfl, rfl, h2, by rw [← h4.length, ix_eq]; exact hj, ?_⟩
              obtain ⟨S4, L4⟩ := S3.write (vs' := ws.set j v) hl3 hs3 (by rw [List.length_set]; exact h3) (Reps.set (r1.mono (L2.trans L3).ge) j h4)
              exact q3 g3 _ (L.trans L4) S4 σ (E.mono (L.trans L4).ge)
          · cases hf
        · cases hf
      · cases hf) fun _ _ _ q => q⟩
/-! xs.append(e), xs.extend(e) -/
theorem ref_of {g : G} {st : Sto} {H : Hp} {l : Nat} {v : V} {xs : List D} (S : Sim X.K T g st H) (r : Rep X.K g (.ref l) v) (hs : st[l]? = some (.lst xs)) : ∃ a ws, v = .ref a ∧ g.ι[l]? = some a ∧ H a = some (.lst ws) ∧ ws.length ≤ sizeLine ∧ Reps X.K g xs ws := by
  cases r with
  | ref hl =>
    obtain ⟨ws, h1, h2, h3, h4⟩ := S.obj _ _ _ hl hs
    exact ⟨_, ws, rfl, hl, h2, h3, h4⟩
def DoesM (X : Cx) (T : List (Addr × Str)) (r : V → List V → Hp → VK → Prop) (f : D → D → Sto → Out D) : Prop :=
  ∀ (W : WX) (σ : L2.St) (g : G) (st : Sto) (H : Hp) (dx dy : D) (x y : V) (Q : VK), Sim X.K T g st H → Rep X.K g dx x → Rep X.K g dy y → EPost (zX X T) W σ Q g H (f dx dy st) → r x [y] H Q
theorem wkM {r : V → List V → Hp → VK → Prop} {f : D → D → Sto → Out D} (h : DoesM X T r f) : ∀ σ H Q, tD (zX X T) W (sM f fa fe) σ H Q → tBM X.K "list" r (tD (zX X T) W fa) (tDA (zX X T) W (aCons fe aNil)) σ H Q := by
  rintro σ H Q ⟨g, ρ, st, S, E, q⟩
  refine ⟨g, ρ, st, S, E, Sat.mono (sat_bind q) (fun d st1 q1 g1 H1 v L1 S1 r1 => ?_) fun _ _ _ q => q⟩
  split at q1
  · rename_i xs e1
    obtain ⟨a, ws, rfl, h2, h3, h4⟩ := S1.litems r1 e1
    refine ⟨.inl ⟨rfl, ws, SqL.of h2⟩, g1, ρ, st1, S1, E.mono L1.ge, ?_⟩
    refine sat_bind' (Sat.mono (sat_bind q1) (fun d2 st2 q2 => ?_) fun _ _ _ q => q.mono L1)
    refine fun g2 H2 vs L2 S2 r2 => ?_
    cases r2 with
    | cons r2 r3 =>
      cases r3
      exact h W σ g2 st2 H2 d d2 _ _ Q S2 (r1.mono L2.ge) r2 (EPost.mono (L1.trans L2) q2)
  · exact q1.elim
theorem does_append : DoesM X T rAppend fAppend := by
  intro W σ g st H dx dy x y Q S rx ry h
  unfold fAppend at h
  split at h
  · split at h
    · rename_i l xs hs
      split at h
      · rename_i hz
        obtain ⟨a, ws, rfl, hl, h2, h3, h4⟩ := ref_of S rx hs
        have e1 := h4.length
        refine ⟨a, ws, y, rfl, rfl, h2, by omega, ?_⟩
        obtain ⟨S4, L4⟩ := S.write (vs' := ws ++ [y]) hl hs (by rw [List.length_append, List.length_singleton]; omega) (h4.append (.one ry))
        exact h g _ .non L4 S4 .non
      · exact h.elim
    · exact h.elim
  · exact h.elim
theorem does_extend : DoesM X T rExtend fExtend := by
  intro W σ g st H dx dy x y Q S rx ry h
  unfold fExtend at h
  split at h
  · split at h
    · rename_i l xs ys hs hy
      split at h
      · rename_i hz
        obtain ⟨a, ws, rfl, hl, h2, h3, h4⟩ := ref_of S rx hs
        obtain ⟨b, zs, rfl, k2, k3, k4⟩ := S.litems ry hy
        have e1 := h4.length
        have e2 := k4.length
        refine ⟨a, b, ws, zs, rfl, rfl, h2, k2, by omega, ?_⟩
        obtain ⟨S4, L4⟩ := S.write (vs' := ws ++ zs) hl hs (by rw [List.length_append]; omega) (h4.append k4)
        exact h g _ .non L4 S4 .non
      · exact h.elim
    · exact h.elim
  · exact h.elim
theorem pd_append {o : Expr} {fo : SE} {apos cpos : Pos} (ho : PE X o (tD (zX X T) W fo)) (he : PE X e (tD (zX X T) W fe)) (hst : starEach [e] X.env = (false, eval e X.env) :: starEach [] X.env := by rfl)
    (hbase : attributeBase o "append" X.env (eval o X.env) = eval o X.env := by rfl)
    (hfew : ((backTo cpos (starEach [e] X.env)).all (fun x => !x.1) && (backToKw cpos (keywordEach [] X.env)).all (fun x => x.1.isSome)
      && decide ([e].length + ([] : List Keyword).length + (if ([] : List Keyword).isEmpty then 0 else 1) < 30)) = true := by rfl)
    (hline : (apos.endLine == cpos.line) = true := by rfl) (hplain : (backTo cpos (starEach [] X.env)).any (·.1) = false := by rfl) :
    PE X (.Call (.Attribute o "append" apos) [e] [] cpos) (tD (zX X T) W (sM fAppend fo fe)) :=
  PE.wk (pe_bm PySem.F.plainAttrs_list PySem.F.slot_list_append PySem.F.type_list_append mt_append ho (pa_consD he pa_nilD hst) hbase hfew hline hst hplain) (wkM does_append)
theorem pd_extend {o : Expr} {fo : SE} {apos cpos : Pos} (ho : PE X o (tD (zX X T) W fo)) (he : PE X e (tD (zX X T) W fe)) (hst : starEach [e] X.env = (false, eval e X.env) :: starEach [] X.env := by rfl)
    (hbase : attributeBase o "extend" X.env (eval o X.env) = eval o X.env := by rfl)
    (hfew : ((backTo cpos (starEach [e] X.env)).all (fun x => !x.1) && (backToKw cpos (keywordEach [] X.env)).all (fun x => x.1.isSome)
      && decide ([e].length + ([] : List Keyword).length + (if ([] : List Keyword).isEmpty then 0 else 1) < 30)) = true := by rfl)
    (hline : (apos.endLine == cpos.line) = true := by rfl) (hplain : (backTo cpos (starEach [] X.env)).any (·.1) = false := by rfl) :
    PE X (.Call (.Attribute o "extend" apos) [e] [] cpos) (tD (zX X T) W (sM fExtend fo fe)) :=
  PE.wk (pe_bm PySem.F.plainAttrs_list PySem.F.slot_list_extend PySem.F.type_list_extend mt_extend ho (pa_consD he pa_nilD hst) hbase hfew hline hst hplain) (wkM does_extend)

/-! ### loops -/
theorem wk_for {t : TG} {gd : TgD} {sl : List Nat} (ht : TgOk (zX X T) t gd sl) : ∀ D σ H, tDS (zX X T) W (qFor fi gd qb) D σ H → tFor (tDI (zX X T) W fi) t (tDS (zX X T) W qb) D σ H := by
  rintro D σ H ⟨g, ρ, st, S, E, q⟩
  refine ⟨g, ρ, st, S, E, Sat.mono (st_sat E q) (fun p st1 q1 g1 H1 J L1 S1 wk => ?_) fun _ _ _ q => q⟩
  obtain ⟨ds, dy⟩ := p
  have q2 : SPost (zX X T) W D g1 H1 (loopFor dy ds.length gd qb 0 ds ρ st1) := SPost.mono L1 q1
  refine ⟨fun i k σ H => k = ds.length - i ∧ i ≤ ds.length ∧ ∃ g2 ρ2 st2, Le g1 g2 H1 H ∧ Sim X.K T g2 st2 H ∧ EnvR X.K g2 σ ρ2 ∧ SPost (zX X T) W D g1 H1 (loopFor dy ds.length gd qb i (ds.drop i) ρ2 st2),
    ⟨ds.length, by omega, by omega, g1, ρ, st1, Le.refl _ _, S1, E.mono L1.ge, by simpa using q2⟩, ?_⟩
  rintro i k σ2 H2 ⟨rfl, hi, g2, ρ2, st2, L2, S2, E2, h2⟩
  cases hd : ds.drop i with
  | nil =>
    have hin : i = ds.length := by
      have := congrArg List.length hd
      rw [List.length_drop, List.length_nil] at this; omega
    subst hin
    rw [hd] at h2
    unfold loopFor at h2
    split at h2
    · rename_i hf
      exact .inl ⟨wk.stop g2 H2 st2 L2.ge S2 hf, h2 g2 H2 L2 S2 σ2 E2⟩
    · exact h2.elim
  | cons d0 r =>
    obtain ⟨e1, e2⟩ := drop_cons hd
    have hilt : i < ds.length := (List.getElem?_eq_some_iff.mp e1).1
    rw [hd] at h2
    unfold loopFor at h2
    split at h2
    · exact h2.elim
    · rename_i d hfe
      split at h2
      · exact h2.elim
      · rename_i ρ1 hg
        obtain ⟨go, yl⟩ := wk.go g2 H2 st2 i d0 d L2.ge S2 e1 hfe
        refine .inr ⟨go, fun σ H' => ∃ g5 ρ5 st5, Le g1 g5 H1 H' ∧ Sim X.K T g5 st5 H' ∧ EnvR X.K g5 σ ρ5 ∧ SPost (zX X T) W D g1 H1 (loopFor dy ds.length gd qb (i + 1) (ds.drop (i + 1)) ρ5 st5),
          fun σ' H' hN => ⟨ds.length - (i + 1), by omega, rfl, by omega, hN⟩, fun x H3 y => ?_⟩
        obtain ⟨g3, L3, S3, r3⟩ := yl x H3 y
        refine ht g3 st2 σ2 ρ2 ρ1 H3 d x _ S3 r3 (E2.mono L3.ge) hg fun σ3 E3 _ => ⟨g3, ρ1, st2, S3, E3, ?_⟩
        rw [e2]
        cases hb : qb ρ1 st2 with
        | none => rw [hb] at h2; exact h2.elim
        | some fr =>
          obtain ⟨fl, st4⟩ := fr
          rw [hb] at h2
          intro g4 H4 L4 S4
          have L14 := (L2.trans L3).trans L4
          cases fl with
          | nx ρ4 => exact fun σ4 E4 => ⟨g4, ρ4, st4, L14, S4, E4, h2⟩
          | ct ρ4 => exact fun σ4 E4 => ⟨g4, ρ4, st4, L14, S4, E4, h2⟩
          | bk ρ4 => exact fun σ4 E4 => h2 g4 H4 L14 S4 σ4 E4
          | rt d4 => exact fun v r => h2 g4 H4 L14 S4 v r
          | ex n fs ρ4 => exact fun σ4 dx E4 xr => h2 g4 H4 L14 S4 σ4 dx E4 xr
theorem ps_forD {t : TG} {gd : TgD} {sl : List Nat} (hp : PassesOwn (model X.prog X.w) X.A X.env X.xe) (hc : X.calm = true) (ht : TgOk (zX X T) t gd sl) (hi : PI X tg iter (tDI (zX X T) W fi)) (hg : PG X tg t) (hb : PSs X ss (tDS (zX X T) W qb))
    (hs : ∀ x, foldedSetIterable iter X.env x = pure x := by intro _; rfl) : PS X (.For tg iter ss [] pos) (tDS (zX X T) W (qFor fi gd qb)) := PS.wk (ps_for hp hc hi hg hb hs) (wk_for ht)
theorem ps_whileD {fuel : Ev → Sto → Nat} (hp : PassesOwn (model X.prog X.w) X.A X.env X.xe) (hc : PT X c (tDT (zX X T) W ft)) (hb : PSs X ss (tDS (zX X T) W qb)) : PS X (.While c ss [] pos) (tDS (zX X T) W (qWhile fuel ft qb)) :=
  PS.wk (ps_while hp hc hb) fun D σ H ⟨g, ρ, st, S, E, q⟩ => by
    refine ⟨fun k σ H' => ∃ g2 ρ2 st2, Le g g2 H H' ∧ Sim X.K T g2 st2 H' ∧ EnvR X.K g2 σ ρ2 ∧ SPost (zX X T) W D g H (loopWhile ft qb k ρ2 st2), ⟨_, g, ρ, st, Le.refl _ _, S, E, q⟩, ?_⟩
    rintro k σ2 H2 ⟨g2, ρ2, st2, L2, S2, E2, h2⟩
    cases k with
    | zero => exact h2.elim
    | succ k =>
      unfold loopWhile at h2
      refine ⟨g2, ρ2, st2, S2, E2, ?_⟩
      cases ho : ft ρ2 st2 with
      | bad => rw [ho] at h2; exact h2.elim
      | exc n fs st3 => rw [ho] at h2; exact fun g3 H3 dx L3 S3 xr => h2 g3 H3 (L2.trans L3) S3 σ2 dx (E2.mono L3.ge) xr
      | ok b st3 =>
        rw [ho] at h2
        have h3 : SPost (zX X T) W D g H (if b = true then (match qb ρ2 st3 with
          | some (.nx ρ2, st2) => loopWhile ft qb k ρ2 st2
          | some (.ct ρ2, st2) => loopWhile ft qb k ρ2 st2
          | some (.bk ρ2, st2) => some (.nx ρ2, st2)
          | r => r) else some (.nx ρ2, st3)) := h2
        intro g3 H3 L3 S3
        have L13 := L2.trans L3
        cases b with
        | false =>
          rw [if_neg Bool.false_ne_true] at h3 ⊢
          exact h3 g3 H3 L13 S3 σ2 (E2.mono L3.ge)
        | true =>
          rw [if_pos rfl] at h3 ⊢
          refine ⟨fun σ H' => ∃ g5 ρ5 st5, Le g g5 H H' ∧ Sim X.K T g5 st5 H' ∧ EnvR X.K g5 σ ρ5 ∧ SPost (zX X T) W D g H (loopWhile ft qb k ρ5 st5), fun σ' H' hN => ⟨k, by omega, hN⟩, g3, ρ2, st3, S3, E2.mono L3.ge, ?_⟩
          cases hb : qb ρ2 st3 with
          | none => rw [hb] at h3; exact h3.elim
          | some fr =>
            obtain ⟨fl, st4⟩ := fr
            rw [hb] at h3
            intro g4 H4 L4 S4
            have L14 := L13.trans L4
            cases fl with
            | nx ρ4 => exact fun σ4 E4 => ⟨g4, ρ4, st4, L14, S4, E4, h3⟩
            | ct ρ4 => exact fun σ4 E4 => ⟨g4, ρ4, st4, L14, S4, E4, h3⟩
            | bk ρ4 => exact fun σ4 E4 => h3 g4 H4 L14 S4 σ4 E4
            | rt d4 => exact fun v r => h3 g4 H4 L14 S4 v r
            | ex n fs ρ4 => exact fun σ4 dx E4 xr => h3 g4 H4 L14 S4 σ4 dx E4 xr

/-! ### defs -/
/-- the arguments' list is n long; F tells what comes of them -/
def spD (z : Z) (n : Nat) (F : List D → Sto → Out D) : Sp := fun vs H Q E => vs.length = n ∧ ∃ g ds st, Sim z.K z.T g st H ∧ Reps z.K g ds vs ∧ Sat (F ds st) (VPost z Q g H) (fun k fs st' => ∀ g' H' dx, Le g g' H H' → Sim z.K z.T g' st' H' → XRep z g' H' fs dx → E (clsV z k) dx H')
theorem pd_call {F : List D → Sto → Out D} {k n : Nat} {f : Addr} {fd : FuncData} {ps : List Str} (G0 : FnOk X.prog X.w X.K X.mg X.base (L2.CX X.prog X.w) k f fd ps (spD (zX X T) n F)) (tk : Takes X W) (hr : Room k X.A) (hg : Gl X x) (hm : X.mg x = some (.ref f)) (hk : PySem.W.keepIn X.K (.ref f) = true) (hb : Binds X.K fd ps [])
    (ha : PA X (e :: es) (tDA (zX X T) W fs)) (hdb : (x == ("__debug__" : Str)) = false := by decide) (he : starEach (e :: es) X.env = (false, eval e X.env) :: starEach es X.env := by rfl) (hpl : (backTo pos (starEach es X.env)).any (·.1) = false := by rfl) :
    PE X (.Call (.Name x p) (e :: es) [] pos) (tD (zX X T) W (sCall n F fs)) :=
  PE.wk (pe_callS G0 hr hg hm hk hb (fun σ => passAt tk σ) ha hdb he hpl) fun σ H Q ⟨g, ρ, st, S, E, q⟩ => by
    refine ⟨g, ρ, st, S, E, Sat.mono (sat_bind q) (fun ds st1 q1 g1 H1 vs L1 S1 r1 => ?_) fun _ _ _ q => q⟩
    split at q1
    · rename_i hl
      exact ⟨by rw [← r1.length]; exact hl, g1, ds, st1, S1, r1, EPost.mono L1 q1⟩
    · exact q1.elim

variable {P : Program} {w : World} {K : PySem.W.Frag} {mg : Str → Option Value} {base : Heap}
theorem start_env {g : G} {N : List Str} {ds : List D} {vs : List V} (r : Reps K g ds vs) : EnvR K g (L2.start N vs) (startD N.length ds) := by
  have hl := r.length
  refine ⟨by unfold L2.start startD; simp [hl], fun i d h => ?_⟩
  unfold startD at h
  by_cases hi : i < ds.length
  · rw [List.getElem?_append_left (by simpa using hi), List.getElem?_map] at h
    cases e : ds[i]? with
    | none => rw [e] at h; cases h
    | some d' =>
      rw [e] at h; cases h
      obtain ⟨v, ev, rv⟩ := r.get e
      refine ⟨v, ?_, rv⟩
      unfold L2.start
      rw [List.getElem?_append_left (by rw [List.length_map, ← hl]; exact hi), List.getElem?_map, ev]; rfl
  · rw [List.getElem?_append_right (by simpa using hi), List.getElem?_replicate] at h
    split at h <;> cases h
/-- a def's body, told as qb; what it hands back as it is -/
theorem def_raw {qual : Str} {st : Stmt} {f : Addr} {fd : FuncData} {N ps : List Str} {k : Nat} (F : Fun K x qual st f fd) (S : FnScope N ps (defScope st))
    (hb : ∀ (cdv : Value) (A : Around) (outer : List Env) (s : Shared) (H : Hp) (E : XK), Room k (A.deeper (envOfC qual (defScope st) s.heap.objs.size f cdv)) →
      PSs (cxOf (L2.CX P w) P w K mg base N qual (defScope st) f cdv A outer s H E) (defBody st) (tDS ⟨K, T, mg⟩ (fun cls d _ H => E cls d H) qb)) :
    FnOk P w K mg base (L2.CX P w) (k + 1) f fd ps (spD ⟨K, T, mg⟩ ps.length (defRaw N.length qb)) := by
  refine F.okX S (fun vs H Q E h => h.1) fun cdv A outer s H vs Q E hr h => ⟨_, hb cdv A outer s H E hr, ?_⟩
  obtain ⟨hl, g, ds, st0, S0, R, q⟩ := h
  refine ⟨g, startD N.length ds, st0, S0, start_env R, ?_⟩
  unfold defRaw at q
  cases hr2 : qb (startD N.length ds) st0 with
  | none => rw [hr2] at q; exact q.elim
  | some r =>
    obtain ⟨fl, st'⟩ := r
    rw [hr2] at q
    cases fl with
    | rt d => exact fun g' H' L S' v r => q g' H' v L S' r
    | nx ρ => exact fun g' H' L S' σ E => q g' H' .non L S' .non
    | ex n fs ρ => exact fun g' H' L S' σ dx E x => q g' H' dx L S' x
    | _ => exact q.elim

/-! freezing -/
mutual
theorem Rep.cut {g g2 : G} {n : Nat} (hB : ∀ a o, g.B a = some o → g2.B a = some o) (hι : ∀ (l : Nat) (a : Addr), l < n → g.ι[l]? = some a → g2.ι[l]? = some a) : ∀ {d : D} {v : V}, noRef n d = true → Rep K g d v → Rep K g2 d v
  | _, _, _, .non => .non
  | _, _, _, .bl b => .bl b
  | _, _, _, .int b => .int b
  | _, _, _, .str b => .str b
  | _, _, h, .tup q l r => .tup (sqN_mono hB q) l (Reps.cut hB hι (by unfold noRef at h; exact h) r)
  | _, _, h, .tpl q l r => .tpl (sqT_mono hB q) l (Reps.cut hB hι (by unfold noRef at h; exact h) r)
  | _, _, h, .lst q l r => .lst (hB _ _ q) l (Reps.cut hB hι (by unfold noRef at h; exact h) r)
  | _, _, h, .fz q l r => .fz (sqL_mono hB q) l (Reps.cut hB hι (by unfold noRef at h; exact h) r)
  | _, _, h, .ref e => .ref (hι _ _ (by unfold noRef at h; exact of_decide_eq_true h) e)
  | _, _, h, .dk e l r => .dk (hB _ _ e) l (Reps.cut hB hι (by unfold noRef at h; exact h) r)
  | _, _, _, .raw v => .raw v
  | _, _, _, .fn e => .fn e
  | _, _, h, .xc e r => .xc (hB _ _ e) (Reps.cut hB hι (by unfold noRef at h; exact h) r)
theorem Reps.cut {g g2 : G} {n : Nat} (hB : ∀ a o, g.B a = some o → g2.B a = some o) (hι : ∀ (l : Nat) (a : Addr), l < n → g.ι[l]? = some a → g2.ι[l]? = some a) : ∀ {ds : List D} {vs : List V}, noRefs n ds = true → Reps K g ds vs → Reps K g2 ds vs
  | _, _, _, .nil => .nil
  | _, _, h, .cons a t => by
    unfold noRefs at h
    rw [Bool.and_eq_true_iff] at h
    exact .cons (Rep.cut hB hι h.1 a) (Reps.cut hB hι h.2 t)
end
theorem frz_atom {g g2 : G} {st : Sto} {n : Nat} {d d' : D} {v : V} (r : Rep K g d v) (h : frzD st n 0 d = some d') : Rep K g2 d' v := by
  cases r <;> first
    | (cases h; constructor)
    | (exact absurd (show none = some d' from h) (by simp))
theorem frz_rep {g g2 : G} {st : Sto} {H : Hp} {n : Nat} (S : Sim K T g st H) (hB : ∀ a o, g.B a = some o → g2.B a = some o) (hι : ∀ (l : Nat) (a : Addr), l < n → g.ι[l]? = some a → g2.ι[l]? = some a)
    (hF : ∀ (l : Nat) (a : Addr) (vs : List V), n ≤ l → g.ι[l]? = some a → H a = some (.lst vs) → g2.B a = some (.lst vs)) : ∀ (f : Nat) {d d' : D} {v : V}, Rep K g d v → frzD st n f d = some d' → Rep K g2 d' v
  | 0, d, d', v, r, h => frz_atom r h
  | f + 1, d, d', v, r, h => by
    have all : ∀ (xs : List D) {ys : List D} {vs : List V}, Reps K g xs vs → allSome (xs.map (frzD st n f)) = some ys → Reps K g2 ys vs := by
      intro xs
      induction xs with
      | nil => intro ys vs r e; cases r; cases e; exact .nil
      | cons x xs ih =>
        intro ys vs r e
        rw [List.map_cons] at e
        obtain ⟨y, ys', e1, e2, rfl⟩ := allSome_cons e
        cases r with
        | cons r1 r2 => exact .cons (frz_rep S hB hι hF f r1 e1) (ih r2 e2)
    unfold frzD at h
    split at h
    · rename_i xs
      cases q : allSome (xs.map (frzD st n f)) with
      | none => rw [q] at h; cases h
      | some ys =>
        rw [q] at h; cases h
        cases r with
        | tup k l r => exact .tup (sqN_mono hB k) l (all xs r q)
    · rename_i xs
      cases q : allSome (xs.map (frzD st n f)) with
      | none => rw [q] at h; cases h
      | some ys =>
        rw [q] at h; cases h
        cases r with
        | lst k l r => exact .lst (hB _ _ k) l (all xs r q)
    · rename_i ks xs
      cases q : allSome (xs.map (frzD st n f)) with
      | none => rw [q] at h; cases h
      | some ys =>
        rw [q] at h; cases h
        cases r with
        | dk k l r => exact .dk (hB _ _ k) l (all xs r q)
    · rename_i l
      split at h
      · rename_i hl
        cases h
        cases r with
        | ref e => exact .ref (hι _ _ hl e)
      · rename_i hl
        split at h
        · rename_i xs hs
          cases q : allSome (xs.map (frzD st n f)) with
          | none => rw [q] at h; cases h
          | some ys =>
            rw [q] at h; cases h
            cases r with
            | ref e =>
              obtain ⟨ws, h1, h2, h3, h4⟩ := S.obj _ _ _ e hs
              exact .lst (hF l _ ws (by omega) e h2) h3 (all xs h4 q)
        · cases h
    · cases h; cases r; exact .non
    · cases h; cases r; exact .bl _
    · cases h; cases r; exact .int _
    · cases h; cases r; exact .str _
    · cases h
/-- the store's own part is forgotten -/
theorem fin_sim {g0 g : G} {st0 st : Sto} {H0 H : Hp} (S0 : Sim K T g0 st0 H0) (L : Le g0 g H0 H) (S : Sim K T g st H) (hc : (st.take st0.length).all (noRefO st0.length) = true) :
    ∃ g2, Le g0 g2 H0 H ∧ Sim K T g2 (st.take st0.length) H ∧ (∀ a o, g.B a = some o → g2.B a = some o) ∧ (∀ (l : Nat) (a : Addr), l < st0.length → g.ι[l]? = some a → g2.ι[l]? = some a) ∧
      ∀ (l : Nat) (a : Addr) (vs : List V), st0.length ≤ l → g.ι[l]? = some a → H a = some (.lst vs) → g2.B a = some (.lst vs) := by
  have hn0 := S0.len
  have hnl : st0.length ≤ g.ι.length := by
    rcases Nat.lt_or_ge g.ι.length st0.length with h | h
    · have h1 : g.ι.length < g0.ι.length := by omega
      have := L.ge.i g.ι.length _ (List.getElem?_eq_getElem h1)
      have := (List.getElem?_eq_some_iff.mp this).1
      omega
    · exact h
  let B2 : Hp := fun a => if a ∈ g.ι.drop st0.length then (match H a with | some (.lst vs) => some (.lst vs) | _ => g.B a) else g.B a
  have b1 : ∀ a, a ∉ g.ι.drop st0.length → B2 a = g.B a := fun a h => if_neg h
  have b2 : ∀ a o, g.B a = some o → B2 a = some o := fun a o e => by
    by_cases h : a ∈ g.ι.drop st0.length
    · show (if a ∈ g.ι.drop st0.length then _ else _) = _
      rw [if_pos h, S.sub a o e]
      cases o <;> first | rfl | exact e
    · rw [b1 a h]; exact e
  have b3 : ∀ a o, B2 a = some o → H a = some o ∧ ((∃ vs, o = .lst vs) ∨ g.B a = some o) := fun a o e => by
    by_cases h : a ∈ g.ι.drop st0.length
    · have e' : (match H a with | some (.lst vs) => some (HO.lst vs) | _ => g.B a) = some o := by
        have : B2 a = _ := if_pos h
        rw [← this]; exact e
      split at e'
      · rename_i vs hv
        cases e'
        exact ⟨hv, .inl ⟨vs, rfl⟩⟩
      · exact ⟨S.sub a o e', .inr e'⟩
    · rw [b1 a h] at e; exact ⟨S.sub a o e, .inr e⟩
  have i1 : ∀ (l : Nat) (a : Addr), l < st0.length → g.ι[l]? = some a → (g.ι.take st0.length)[l]? = some a := fun l a h e => by rw [List.getElem?_take_of_lt h]; exact e
  have i2 : ∀ (l : Nat) (a : Addr), (g.ι.take st0.length)[l]? = some a → l < st0.length ∧ g.ι[l]? = some a ∧ a ∉ g.ι.drop st0.length := fun l a e => by
    have hl : l < st0.length := by
      have := (List.getElem?_eq_some_iff.mp e).1
      rw [List.length_take] at this; omega
    rw [List.getElem?_take_of_lt hl] at e
    refine ⟨hl, e, fun hd => ?_⟩
    obtain ⟨j, hj⟩ := List.getElem?_of_mem hd
    rw [List.getElem?_drop] at hj
    obtain ⟨h1, q1⟩ := List.getElem?_eq_some_iff.mp e
    obtain ⟨h2, q2⟩ := List.getElem?_eq_some_iff.mp hj
    have := (List.getElem_inj S.nd).mp (q1.trans q2.symm)
    omega
  have f3 : ∀ (l : Nat) (a : Addr) (vs : List V), st0.length ≤ l → g.ι[l]? = some a → H a = some (.lst vs) → B2 a = some (.lst vs) := fun l a vs h e hv => by
    have hm : a ∈ g.ι.drop st0.length := by
      refine List.mem_of_getElem? (i := l - st0.length) ?_
      rw [List.getElem?_drop, show st0.length + (l - st0.length) = l by omega]; exact e
    show (if a ∈ g.ι.drop st0.length then _ else _) = _
    rw [if_pos hm, hv]
  refine ⟨⟨B2, g.ι.take st0.length⟩, ⟨⟨fun a o e => b2 a o (L.ge.b a o e), fun l a e => ?_⟩, fun a o e1 e2 e3 e4 => ?_⟩, ⟨fun a o e => (b3 a o e).1, ?_, S.nd.sublist (List.take_sublist _ _), fun a ha => S.there a (List.mem_of_mem_take ha), fun l a mo e1 e2 => ?_, S.tabs, fun a o e ps => ?_⟩, b2, i1, f3⟩
  · have hl : l < st0.length := by
      have := (List.getElem?_eq_some_iff.mp e).1
      omega
    exact i1 l a hl (L.ge.i l a e)
  · obtain ⟨f1, f2, f3⟩ := L.fr a o e1 e2 e3 e4
    exact ⟨f1, by show B2 a = none; rw [b1 a fun h => f3 (List.mem_of_mem_drop h)]; exact f2, fun h => f3 (List.mem_of_mem_take h)⟩
  · show (g.ι.take st0.length).length = _
    rw [List.length_take, List.length_take, S.len]
  · obtain ⟨hl, e, hd⟩ := i2 l a e1
    have e2' : st[l]? = some mo := by
      rw [List.getElem?_take_of_lt hl] at e2; exact e2
    have hno : noRefO st0.length mo = true := List.all_eq_true.mp hc mo (List.mem_of_getElem? e2)
    have o1 := S.obj l a mo e e2'
    cases mo with
    | lst xs =>
      obtain ⟨vs, h1, h2, h3, h4⟩ := o1
      exact ⟨vs, by show B2 a = none; rw [b1 a hd]; exact h1, h2, h3, Reps.cut (n := st0.length) b2 i1 (by unfold noRefO at hno; exact hno) h4⟩
    | dk ks xs =>
      obtain ⟨vs, h1, h2, h3, h4⟩ := o1
      exact ⟨vs, by show B2 a = none; rw [b1 a hd]; exact h1, h2, h3, Reps.cut (n := st0.length) b2 i1 (by unfold noRefO at hno; exact hno) h4⟩
    | gone => trivial
  · rcases (b3 a o e).2 with ⟨vs, rfl⟩ | q
    · intro z; cases z
    · exact S.tb a o q ps
/-- a def's body, told as qb; the lists that it hands back by value, the others forgotten -/
theorem fin_of_raw {f : Addr} {fd : FuncData} {ps : List Str} {k m n : Nat} (F0 : FnOk P w K mg base (L2.CX P w) k f fd ps (spD ⟨K, T, mg⟩ m (defRaw n qb))) : FnOk P w K mg base (L2.CX P w) k f fd ps (spD ⟨K, T, mg⟩ m (defFin n qb)) := by
  refine F0.imp fun vs H Q E ⟨hl, g, ds, st0, S0, R, q⟩ => ⟨hl, g, ds, st0, S0, R, ?_⟩
  unfold defFin at q
  cases hr : defRaw n qb ds st0 with
  | bad => rw [hr] at q; exact q.elim
  | ok d st1 =>
    rw [hr] at q
    unfold fin at q
    dsimp only at q
    intro g1 H1 v L1 S1 r1
    split at q
    · rename_i d' hd
      split at q
      · rename_i hc
        obtain ⟨g2, L2', S2, b2, i1, f3⟩ := fin_sim S0 L1 S1 hc
        exact q g2 H1 v L2' S2 (frz_rep S1 b2 i1 f3 60 r1 hd)
      · exact q.elim
    · exact q.elim
  | exc n fs st1 =>
    rw [hr] at q
    unfold fin at q
    dsimp only at q
    intro g1 H1 dx L1 S1 x1
    split at q
    · rename_i hc
      rw [Bool.and_eq_true_iff] at hc
      obtain ⟨g2, L2', S2, b2, i1, _⟩ := fin_sim S0 L1 S1 hc.2
      rcases x1 with x1 | ⟨a, vs, x1, x2, x3, x4⟩
      · exact q g2 H1 dx L2' S2 (.inl x1)
      · refine q g2 H1 dx L2' S2 (.inr ⟨a, vs, x1, x2, b2 _ _ x3, Reps.cut (n := st0.length) b2 i1 ?_ x4⟩)
        have h1 := hc.1
        clear x1 x2 x3 x4 hc q hr
        induction fs with
        | nil => rfl
        | cons p fs ih =>
          rw [List.all_cons, Bool.and_eq_true] at h1
          rw [List.map_cons, noRefs, h1.1, ih h1.2]
          rfl
    · exact q.elim
theorem def_fin {qual : Str} {st : Stmt} {f : Addr} {fd : FuncData} {N ps : List Str} {k : Nat} (F : Fun K x qual st f fd) (S : FnScope N ps (defScope st))
    (hb : ∀ (cdv : Value) (A : Around) (outer : List Env) (s : Shared) (H : Hp) (E : XK), Room k (A.deeper (envOfC qual (defScope st) s.heap.objs.size f cdv)) →
      PSs (cxOf (L2.CX P w) P w K mg base N qual (defScope st) f cdv A outer s H E) (defBody st) (tDS ⟨K, T, mg⟩ (fun cls d _ H => E cls d H) qb)) :
    FnOk P w K mg base (L2.CX P w) (k + 1) f fd ps (spD ⟨K, T, mg⟩ ps.length (defFin N.length qb)) :=
  fin_of_raw (def_raw F S hb)
end
end PD
/-! PDSort: sorted of ints, of tuples of ints and tuples of ints. -/
namespace PD
open PySem PySem.Spec PyProof.Rows L2 SrtO

/-! ### strict total orders -/
structure Sto2 {α : Type} (lt : α → α → Bool) : Prop where
  irr : ∀ x, lt x x = false
  tr : ∀ x y z, lt x y = true → lt y z = true → lt x z = true
  tot : ∀ x y, lt x y = false → lt y x = false → x = y
def lexG {α : Type} [DecidableEq α] (lt : α → α → Bool) : List α → List α → Bool
  | [], [] => false
  | [], _ :: _ => true
  | _ :: _, [] => false
  | x :: xs, y :: ys => if x = y then lexG lt xs ys else lt x y
theorem Sto2.asym {α : Type} {lt : α → α → Bool} (O : Sto2 lt) {x y : α} (h : lt x y = true) : lt y x = false := by
  cases q : lt y x
  · rfl
  · have := O.tr x y x h q
    rw [O.irr] at this
    cases this
theorem Sto2.swo {α : Type} {lt : α → α → Bool} (O : Sto2 lt) : Swo lt := by
  refine ⟨fun x y h => O.asym h, fun x y z h1 h2 => ?_⟩
  cases q : lt z x
  · rfl
  · exfalso
    cases p : lt x y
    · have := O.tot x y p h1
      subst this
      rw [q] at h2
      cases h2
    · have := O.tr z x y q p
      rw [this] at h2
      cases h2
theorem sto2_lex {α : Type} [DecidableEq α] {lt : α → α → Bool} (O : Sto2 lt) : Sto2 (lexG lt) := by
  refine ⟨fun x => ?_, fun x => ?_, fun x => ?_⟩
  · induction x with
    | nil => rfl
    | cons a x ih => unfold lexG; rw [if_pos rfl]; exact ih
  · induction x with
    | nil =>
      intro y z h1 h2
      cases y with
      | nil => cases h1
      | cons b y =>
        cases z with
        | nil => cases h2
        | cons c z => rfl
    | cons a x ih =>
      intro y z h1 h2
      cases y with
      | nil => cases h1
      | cons b y =>
        cases z with
        | nil => cases h2
        | cons c z =>
          unfold lexG at h1 h2 ⊢
          split at h1
          · rename_i e
            subst e
            split at h2
            · rename_i e2
              subst e2
              rw [if_pos rfl]
              exact ih _ _ h1 h2
            · rename_i e2
              rw [if_neg e2]
              exact h2
          · rename_i e
            split at h2
            · rename_i e2
              subst e2
              rw [if_neg e]
              exact h1
            · have h3 := O.tr _ _ _ h1 h2
              split
              · rename_i e3
                subst e3
                rw [O.irr] at h3
                cases h3
              · exact h3
  · induction x with
    | nil =>
      intro y h1 h2
      cases y with
      | nil => rfl
      | cons b y => cases h1
    | cons a x ih =>
      intro y h1 h2
      cases y with
      | nil => cases h2
      | cons b y =>
        unfold lexG at h1 h2
        by_cases e : a = b
        · subst e
          rw [if_pos rfl] at h1 h2
          rw [ih _ h1 h2]
        · rw [if_neg e] at h1
          rw [if_neg (Ne.symm e)] at h2
          exact absurd (O.tot _ _ h1 h2) e
theorem sto2_int : Sto2 fun a b : Int => decide (a < b) := by
  refine ⟨fun x => by simp, fun x y z h1 h2 => ?_, fun x y h1 h2 => ?_⟩
  · have a := of_decide_eq_true h1
    have b := of_decide_eq_true h2
    exact decide_eq_true (by omega)
  · have a := of_decide_eq_false h1
    have b := of_decide_eq_false h2
    omega
/-- the order of lists of ints -/
abbrev ltI : List Int → List Int → Bool := lexG fun a b => decide (a < b)
theorem ltI_lexLt : ∀ xs ys : List Int, HT.lexLt xs ys = ltI xs ys
  | [], [] => rfl
  | [], _ :: _ => rfl
  | _ :: _, [] => rfl
  | x :: xs, y :: ys => by
    rw [HT.lexLt_cons]
    show _ = lexG _ _ _
    unfold lexG
    rw [ltI_lexLt xs ys]
/-- the order of items -/
abbrev ltK : List (List Int) → List (List Int) → Bool := lexG ltI
theorem sto2_ltI : Sto2 ltI := sto2_lex sto2_int
theorem sto2_ltK : Sto2 ltK := sto2_lex sto2_ltI

/-! ### sorting in plain Lean -/
def insB {α : Type} (lt : α → α → Bool) (x : α) : List α → List α
  | [] => [x]
  | y :: l => if lt y x = true then y :: insB lt x l else x :: y :: l
def sortB {α : Type} (lt : α → α → Bool) : List α → List α
  | [] => []
  | x :: l => insB lt x (sortB lt l)
theorem insB_perm {α : Type} (lt : α → α → Bool) (x : α) : ∀ l : List α, (insB lt x l).Perm (x :: l)
  | [] => List.Perm.refl _
  | y :: l => by
    unfold insB
    split
    · exact ((insB_perm lt x l).cons y).trans (List.Perm.swap x y l)
    · exact List.Perm.refl _
theorem sortB_perm {α : Type} (lt : α → α → Bool) : ∀ l : List α, (sortB lt l).Perm l
  | [] => List.Perm.refl _
  | x :: l => (insB_perm lt x _).trans ((sortB_perm lt l).cons x)
theorem sortB_length {α : Type} (lt : α → α → Bool) (l : List α) : (sortB lt l).length = l.length := (sortB_perm lt l).length_eq
theorem insB_srtd {α : Type} {lt : α → α → Bool} (O : Swo lt) (x : α) : ∀ {l : List α}, Srtd lt l → Srtd lt (insB lt x l)
  | [], _ => List.pairwise_singleton _ _
  | y :: l, h => by
    unfold insB
    split
    · rename_i q
      refine List.pairwise_cons.mpr ⟨fun z hz => ?_, insB_srtd O x (List.pairwise_cons.mp h).2⟩
      rcases List.mem_cons.mp ((insB_perm lt x l).mem_iff.mp hz) with e | hz
      · rw [e]; exact O.asym _ _ q
      · exact srtd_head h z hz
    · rename_i q
      refine List.pairwise_cons.mpr ⟨fun z hz => ?_, h⟩
      exact O.le_all h (by cases e : lt y x <;> simp_all) z hz
theorem sortB_srtd {α : Type} {lt : α → α → Bool} (O : Swo lt) : ∀ l : List α, Srtd lt (sortB lt l)
  | [] => List.Pairwise.nil
  | x :: l => insB_srtd O x (sortB_srtd O l)
theorem insB_cls {α : Type} {lt : α → α → Bool} (O : Swo lt) (x z : α) : ∀ l : List α, (insB lt x l).filter (SrtO.eqv lt z) = (x :: l).filter (SrtO.eqv lt z)
  | [] => rfl
  | y :: l => by
    unfold insB
    split
    · rename_i q
      have ih := insB_cls O x z l
      by_cases hy : SrtO.eqv lt z y = true
      · have hx : ¬ SrtO.eqv lt z x = true := fun hx => by
          obtain ⟨a1, a2⟩ := eqv_iff.mp hy
          obtain ⟨b1, b2⟩ := eqv_iff.mp hx
          have := O.ltle q b1
          rw [this] at a2
          cases a2
        rw [List.filter_cons_of_pos hy, ih, List.filter_cons_of_neg hx, List.filter_cons_of_neg hx, List.filter_cons_of_pos hy]
      · rw [List.filter_cons_of_neg hy, ih]
        by_cases hx : SrtO.eqv lt z x = true
        · rw [List.filter_cons_of_pos hx, List.filter_cons_of_pos hx, List.filter_cons_of_neg hy]
        · rw [List.filter_cons_of_neg hx, List.filter_cons_of_neg hx, List.filter_cons_of_neg hy]
    · rfl
theorem sortB_stb {α : Type} {lt : α → α → Bool} (O : Swo lt) : ∀ l : List α, Stb lt (sortB lt l) l
  | [] => Stb.refl _
  | x :: l => by
    have ih := sortB_stb O l
    refine ⟨sortB_perm lt _, fun z => ?_⟩
    show (insB lt x (sortB lt l)).filter _ = _
    rw [insB_cls O]
    by_cases hx : SrtO.eqv lt z x = true
    · rw [List.filter_cons_of_pos hx, List.filter_cons_of_pos hx, ih.cls]
    · rw [List.filter_cons_of_neg hx, List.filter_cons_of_neg hx, ih.cls]
theorem sortB_uniq {α : Type} {lt : α → α → Bool} (O : Swo lt) {l m : List α} (h1 : Srtd lt m) (h2 : Stb lt m l) : m = sortB lt l :=
  stb_uniq O h1 (sortB_srtd O l) (h2.trans ⟨(sortB_stb O l).perm.symm, fun x => ((sortB_stb O l).cls x).symm⟩)
theorem insB_map {α β : Type} {la : α → α → Bool} {lb : β → β → Bool} (f : α → β) (x : α) : ∀ (l : List α), (∀ y ∈ l, lb (f y) (f x) = la y x) → insB lb (f x) (l.map f) = (insB la x l).map f
  | [], _ => rfl
  | y :: l, h => by
    rw [List.map_cons]
    unfold insB
    rw [h y List.mem_cons_self]
    split
    · rw [List.map_cons, insB_map f x l fun z hz => h z (List.mem_cons_of_mem _ hz)]
    · rfl
theorem sortB_map {α β : Type} {la : α → α → Bool} {lb : β → β → Bool} (f : α → β) : ∀ (l : List α), (∀ x ∈ l, ∀ y ∈ l, lb (f x) (f y) = la x y) → sortB lb (l.map f) = (sortB la l).map f
  | [], _ => rfl
  | x :: l, h => by
    show insB lb (f x) (sortB lb (l.map f)) = (insB la x (sortB la l)).map f
    rw [sortB_map f l fun a ha b hb => h a (List.mem_cons_of_mem _ ha) b (List.mem_cons_of_mem _ hb)]
    refine insB_map f x _ fun y hy => h y (List.mem_cons_of_mem _ ((sortB_perm la l).mem_iff.mp hy)) x List.mem_cons_self
/-- sorted by keys -/
def sortZ {α : Type} (ks : List (List (List Int))) (xs : List α) : List α := (sortB (fun p q => ltK p.1 q.1) (ks.zip xs)).map (·.2)
theorem sortZ_eq {α : Type} {lt : α → α → Bool} {ks : List (List (List Int))} {xs : List α} (hl : ks.length = xs.length) (h : ∀ p ∈ ks.zip xs, ∀ q ∈ ks.zip xs, lt p.2 q.2 = ltK p.1 q.1) : sortB lt xs = sortZ ks xs := by
  have e := sortB_map (la := fun (p : List (List Int) × α) q => ltK p.1 q.1) (lb := lt) (fun p => p.2) (ks.zip xs) h
  rw [List.map_snd_zip (by omega)] at e
  exact e
theorem sortZ_map {α β : Type} (f : α → β) (ks : List (List (List Int))) (xs : List α) : sortZ ks (xs.map f) = (sortZ ks xs).map f := by
  unfold sortZ
  have e : ks.zip (xs.map f) = (ks.zip xs).map fun p => (p.1, f p.2) := by rw [List.zip_map_right]; rfl
  rw [e, sortB_map (la := fun p q => ltK p.1 q.1) _ _ fun _ _ _ _ => rfl, List.map_map, List.map_map]
  rfl
theorem sortZ_length {α : Type} {ks : List (List (List Int))} {xs : List α} (hl : ks.length = xs.length) : (sortZ ks xs).length = xs.length := by
  unfold sortZ
  rw [List.length_map, sortB_length, List.length_zip]
  omega
theorem sortZ_perm {α : Type} {ks : List (List (List Int))} {xs : List α} (hl : ks.length = xs.length) : (sortZ ks xs).Perm xs := by
  have h := (sortB_perm (fun p q => ltK p.1 q.1) (ks.zip xs)).map (·.2)
  rw [List.map_snd_zip (by omega)] at h
  exact h

/-! ### the machine's items -/
section
variable {prog : Program} {w : World} {A : Around} {E : Value → Shared → Prop} {s : Shared}
/-- one part of an item -/
def KC (h : Heap) (v : Value) (c : List Int) : Prop :=
  (∃ i t, v = .int i t ∧ c = [1, i]) ∨ ∃ a its ns, v = .ref a ∧ IsTup h a its ∧ IntsAre its.toList ns ∧ c = 0 :: ns
inductive KCs (h : Heap) : List Value → List (List Int) → Prop
  | nil : KCs h [] []
  | cons {v vs c cs} : KC h v c → KCs h vs cs → KCs h (v :: vs) (c :: cs)
/-- an item -/
def KI (h : Heap) (v : Value) (k : List (List Int)) : Prop := ∃ a its, v = .ref a ∧ IsTup h a its ∧ KCs h its.toList k
def compat : List (List Int) → List (List Int) → Bool
  | a :: as, b :: bs => a.head? == b.head? && compat as bs
  | _, _ => true
theorem intsAre_inj : ∀ {vs : List Value} {ns ms : List Int}, IntsAre vs ns → IntsAre vs ms → ns = ms
  | _, _, _, .nil, .nil => rfl
  | _, _, _, .cons _ _ r, .cons _ _ q => by rw [intsAre_inj r q]
theorem isTup_inj {h : Heap} {a : Addr} {i j : Array Value} (x : IsTup h a i) (y : IsTup h a j) : i = j := by
  obtain ⟨o, ho, _, n, d⟩ := x
  obtain ⟨o', ho', _, n', d'⟩ := y
  rw [ho] at ho'; cases ho'
  rw [d] at d'; cases d'
  rfl
theorem KC.inj {h : Heap} {v : Value} {c d : List Int} (x : KC h v c) (y : KC h v d) : c = d := by
  rcases x with ⟨i, t, rfl, rfl⟩ | ⟨a, its, ns, rfl, h1, h2, rfl⟩
  · rcases y with ⟨j, u, e, rfl⟩ | ⟨a, its, ns, e, _⟩
    · cases e; rfl
    · cases e
  · rcases y with ⟨j, u, e, rfl⟩ | ⟨a', its', ns', e, h1', h2', rfl⟩
    · cases e
    · cases e
      have := isTup_inj h1 h1'
      subst this
      rw [intsAre_inj h2 h2']
theorem KCs.inj {h : Heap} : ∀ {vs : List Value} {c d : List (List Int)}, KCs h vs c → KCs h vs d → c = d
  | _, _, _, .nil, .nil => rfl
  | _, _, _, .cons a r, .cons b q => by rw [a.inj b, KCs.inj r q]
theorem KI.inj {h : Heap} {v : Value} {c d : List (List Int)} (x : KI h v c) (y : KI h v d) : c = d := by
  obtain ⟨a, its, rfl, h1, h2⟩ := x
  obtain ⟨a', its', e, h1', h2'⟩ := y
  cases e
  have := isTup_inj h1 h1'
  subst this
  exact h2.inj h2'
abbrev KeepTup (h h' : Heap) : Prop := ∀ b its, IsTup h b its → IsTup h' b its
theorem KC.keeps {h h' : Heap} (kp : KeepTup h h') {v : Value} {c : List Int} (x : KC h v c) : KC h' v c := by
  rcases x with ⟨i, t, rfl, rfl⟩ | ⟨a, its, ns, rfl, h1, h2, rfl⟩
  · exact .inl ⟨_, _, rfl, rfl⟩
  · exact .inr ⟨_, _, _, rfl, kp _ _ h1, h2, rfl⟩
theorem KCs.keeps {h h' : Heap} (kp : KeepTup h h') : ∀ {vs : List Value} {c : List (List Int)}, KCs h vs c → KCs h' vs c
  | _, _, .nil => .nil
  | _, _, .cons a r => .cons (a.keeps kp) (KCs.keeps kp r)
theorem KI.keeps {h h' : Heap} (kp : KeepTup h h') {v : Value} {c : List (List Int)} (x : KI h v c) : KI h' v c := by
  obtain ⟨a, its, rfl, h1, h2⟩ := x
  exact ⟨_, _, rfl, kp _ _ h1, h2.keeps kp⟩
theorem KCs.length {h : Heap} : ∀ {vs : List Value} {c : List (List Int)}, KCs h vs c → vs.length = c.length
  | _, _, .nil => rfl
  | _, _, .cons _ r => by simp [KCs.length r]

theorem intsAre_get : ∀ {vs : List Value} {ns : List Int}, IntsAre vs ns → ∀ (j : Nat) (h : j < vs.length), ∃ i t, vs[j] = Value.int i t ∧ ns[j]? = some i
  | _, _, .nil, j, h => absurd h (by simp)
  | _, _, .cons n t r, 0, _ => ⟨n, t, rfl, rfl⟩
  | _, _, .cons n t r, j + 1, h => by
    obtain ⟨i, u, e, q⟩ := intsAre_get r j (by simpa using h)
    exact ⟨i, u, by simpa using e, by simpa using q⟩
theorem eq_all {ns ms : List Int} : ((List.range (min ns.length ms.length)).all (fun j => ns[j]? == ms[j]?) && ns.length == ms.length) = decide (ns = ms) := by
  apply Bool.eq_iff_iff.mpr
  rw [Bool.and_eq_true, List.all_eq_true, decide_eq_true_eq]
  constructor
  · rintro ⟨h, hl⟩
    have hl := eq_of_beq hl
    refine List.ext_getElem? fun j => ?_
    by_cases hj : j < ns.length
    · exact eq_of_beq (h j (List.mem_range.mpr (by omega)))
    · rw [List.getElem?_eq_none (by omega), List.getElem?_eq_none (by omega)]
  · rintro rfl
    exact ⟨fun j _ => by simp, by simp⟩
theorem kc_eq {v u : Value} {c d : List Int} (hu : A.units + 4 < cLine) (x : KC s.heap v c) (y : KC s.heap u d) (hk : c.head? = d.head?) : SeqAt.EqAt A s v u (decide (c = d)) := by
  rcases x with ⟨i, t, rfl, rfl⟩ | ⟨a, its, ns, rfl, h1, h2, rfl⟩
  · rcases y with ⟨j, t', rfl, rfl⟩ | ⟨_, _, _, _, _, _, rfl⟩
    · have e : decide (([1, i] : List Int) = [1, j]) = (i == j) := by
        by_cases q : i = j
        · subst q; simp
        · simp [q]
      rw [e]
      exact SeqAt.EqAt.int_int _ _ _ _
    · cases hk
  · rcases y with ⟨j, t', rfl, rfl⟩ | ⟨a', its', ms, rfl, g1, g2, rfl⟩
    · cases hk
    · by_cases e : a = a'
      · subst e
        have := isTup_inj h1 g1
        subst this
        rw [intsAre_inj h2 g2, decide_eq_true rfl]
        exact SeqAt.EqAt.same _
      · refine SeqAt.EqAt.of_refs e ?_
        have hl1 : its.size = ns.length := by rw [← h2.length]; simp
        have hl2 : its'.size = ms.length := by rw [← g2.length]; simp
        have r := SeqAt.RcAt.tuples (A := A) (s := s) (e := fun j => ns[j]? == ms[j]?) (l := a) (b := a') (items := its) (items2 := its') h1 g1 (by omega) fun j j1 j2 => by
          obtain ⟨i, t, e1, q1⟩ := intsAre_get h2 j (by simpa using j1)
          obtain ⟨i', t', e2, q2⟩ := intsAre_get g2 j (by simpa using j2)
          have e1' : its[j] = Value.int i t := by simpa using e1
          have e2' : its'[j] = Value.int i' t' := by simpa using e2
          rw [e1', e2', q1, q2]
          have : ((some i == some i') : Bool) = (i == i') := by simp
          rw [this]
          exact SeqAt.EqAt.int_int _ _ _ _
        rw [hl1, hl2, eq_all] at r
        have e2 : decide ((0 : Int) :: ns = 0 :: ms) = decide (ns = ms) := by simp
        rw [e2]
        exact r
theorem ltI_cons (x : Int) (xs ys : List Int) : ltI (x :: xs) (x :: ys) = ltI xs ys := by
  show lexG _ _ _ = _
  rw [lexG, if_pos rfl]
theorem oneLt_intsX (c : Bool) {p q : Int} {t u : Tok} {Q : Bool → Shared → Prop} (h : Q (decide (p < q)) s) : wpAny (model prog w) A (oneLt' c (.int p t) (.int q u)) Q E s := by
  cases c
  · exact PySem.W.kat_one _ _ (PyProof.Rows.lt_int (Q := PySem.W.BoolBack Q) h)
  · exact oneLt_int h
theorem kc_lt {f : Bool} {v u : Value} {c d : List Int} {Q : Bool → Shared → Prop} (hu : A.units + 4 < cLine) (x : KC s.heap v c) (y : KC s.heap u d) (hk : c.head? = d.head?) (hf : f = true → c.head? = some 1) (h : Q (ltI c d) s) :
    wpAny (model prog w) A (oneLt' f v u) Q E s := by
  rcases x with ⟨i, t, rfl, rfl⟩ | ⟨a, its, ns, rfl, h1, h2, rfl⟩
  · rcases y with ⟨j, t', rfl, rfl⟩ | ⟨_, _, _, _, _, _, rfl⟩
    · refine oneLt_intsX f ?_
      have e : ltI [1, i] [1, j] = decide (i < j) := by
        rw [ltI_cons]
        show lexG _ _ _ = _
        rw [lexG]
        split
        · rename_i e; subst e; simp [lexG]
        · rfl
      rw [e] at h
      exact h
    · cases hk
  · rcases y with ⟨j, t', rfl, rfl⟩ | ⟨a', its', ms, rfl, g1, g2, rfl⟩
    · cases hk
    · have ef : f = false := by
        cases f
        · rfl
        · exact absurd (hf rfl) (by simp)
      subst ef
      refine PySem.W.kat_one _ _ (HT.lt_tupInts h1 g1 h2 g2 (by omega) (Q := PySem.W.BoolBack Q) ?_)
      rw [ltI_lexLt, ← ltI_cons 0]
      exact h
theorem kcs_lex {f : Bool} : ∀ {xs ys : List Value} {cs ds : List (List Int)} (i : Nat), A.units + 4 < cLine → KCs s.heap xs cs → KCs s.heap ys ds → compat cs ds = true → (f = true → i = 0 → ∀ c, cs.head? = some c → c.head? = some 1) →
    PySem.W.KatLex prog w A f (decide (xs.length < ys.length)) (fun r s' => s' = s ∧ r = ltK cs ds) (xs.zip ys) i s
  | _, _, _, _, i, hu, .nil, .nil, _, _ => PySem.W.kat_nil ⟨rfl, rfl⟩
  | _, _, _, _, i, hu, .nil, .cons a r, _, _ => by
    refine PySem.W.kat_nil ⟨rfl, ?_⟩
    simp [ltK, lexG]
  | _, _, _, _, i, hu, .cons a r, .nil, _, _ => by
    refine PySem.W.kat_nil ⟨rfl, ?_⟩
    simp [ltK, lexG]
  | _, _, _, _, i, hu, .cons (c := c) (cs := cs) a r, .cons (c := d) (cs := ds) b q, hc, hf => by
    unfold compat at hc
    obtain ⟨h1, h2⟩ := Bool.and_eq_true_iff.mp hc
    have h1 := eq_of_beq h1
    refine PySem.W.kat_cons (kc_eq hu a b h1 prog w _ _ ?_)
    refine PySem.W.kat_go (fun e => ?_) (fun e => ?_)
    · have e : c = d := of_decide_eq_true e
      subst e
      refine PySem.W.kat_yes ?_
      have ih := kcs_lex (f := f) (i + 1) hu r q h2 fun _ h => by omega
      have e2 : ltK (c :: cs) (c :: ds) = ltK cs ds := by
        show lexG _ _ _ = _
        rw [lexG, if_pos rfl]
      rw [e2]
      simp only [List.length_cons, Nat.add_lt_add_iff_right]
      exact ih
    · have e : c ≠ d := of_decide_eq_false e
      refine PySem.W.kat_no (kc_lt hu a b h1 (fun h => ?_) ⟨rfl, ?_⟩)
      · obtain ⟨f1, i0⟩ := Bool.and_eq_true_iff.mp h
        exact hf f1 (eq_of_beq i0) c rfl
      · show _ = lexG _ _ _
        rw [lexG, if_neg e]
end

section
variable {prog : Program} {w : World} {A : Around} {E : Value → Shared → Prop} {s : Shared}
open Classical in
noncomputable def keyAt (h : Heap) (v : Value) : List (List Int) := if q : ∃ k, KI h v k then choose q else []
theorem keyAt_eq {h : Heap} {v : Value} {k : List (List Int)} (x : KI h v k) : keyAt h v = k := by
  unfold keyAt
  rw [dif_pos ⟨k, x⟩]
  exact (Classical.choose_spec (⟨k, x⟩ : ∃ k, KI h v k)).inj x
inductive KIs (h : Heap) : List Value → List (List (List Int)) → Prop
  | nil : KIs h [] []
  | cons {v vs k ks} : KI h v k → KIs h vs ks → KIs h (v :: vs) (k :: ks)
theorem KIs.mem {h : Heap} : ∀ {vs : List Value} {ks : List (List (List Int))}, KIs h vs ks → ∀ v ∈ vs, ∃ k ∈ ks, KI h v k
  | _, _, .nil, v, hv => absurd hv (by simp)
  | _, _, .cons a r, v, hv => by
    rcases List.mem_cons.mp hv with rfl | hv
    · exact ⟨_, List.mem_cons_self, a⟩
    · obtain ⟨k, h1, h2⟩ := KIs.mem r v hv
      exact ⟨k, List.mem_cons_of_mem _ h1, h2⟩
theorem KIs.length {h : Heap} : ∀ {vs : List Value} {ks : List (List (List Int))}, KIs h vs ks → vs.length = ks.length
  | _, _, .nil => rfl
  | _, _, .cons _ r => by simp [KIs.length r]
theorem KIs.zip {h : Heap} : ∀ {vs : List Value} {ks : List (List (List Int))}, KIs h vs ks → ∀ p ∈ ks.zip vs, KI h p.2 p.1
  | _, _, .nil, p, hp => absurd hp (by simp)
  | _, _, .cons a r, p, hp => by
    rw [List.zip_cons_cons] at hp
    rcases List.mem_cons.mp hp with rfl | hp
    · exact a
    · exact KIs.zip r p hp
/-- any two keys compare -/
def compats (ks : List (List (List Int))) : Bool := ks.all fun a => !a.isEmpty && ks.all fun b => compat a b
theorem compats_spec {ks : List (List (List Int))} (h : compats ks = true) {a b : List (List Int)} (ha : a ∈ ks) (hb : b ∈ ks) : a ≠ [] ∧ compat a b = true := by
  unfold compats at h
  have h := List.all_eq_true.mp h a ha
  obtain ⟨h1, h2⟩ := Bool.and_eq_true_iff.mp h
  refine ⟨fun e => ?_, List.all_eq_true.mp h2 b hb⟩
  subst e
  cases h1
theorem kc_firsts {h : Heap} : ∀ {vs : List Value} {ks : List (List (List Int))}, KIs h vs ks → (∀ k ∈ ks, k ≠ []) →
    ∃ fs, PySem.W.KatTups h vs fs ∧ fs.length = vs.length ∧ ∀ f ∈ fs, ∃ k ∈ ks, ∃ c, k.head? = some c ∧ KC h f c
  | _, _, .nil, _ => ⟨[], PySem.W.KatTups.nil, rfl, fun f hf => absurd hf (by simp)⟩
  | _, _, .cons (v := v) (k := k) a r, hne => by
    obtain ⟨fs, h1, h2, h3⟩ := kc_firsts r fun k hk => hne k (List.mem_cons_of_mem _ hk)
    obtain ⟨b, its, rfl, ⟨o, ho, hc, n, hd⟩, hk⟩ := a
    obtain ⟨f, rest, c, cs, e1, e2, hh⟩ : ∃ f rest c cs, its.toList = f :: rest ∧ k = c :: cs ∧ KC h f c := by
      generalize its.toList = l at hk
      cases hk with
      | nil => exact absurd rfl (hne _ List.mem_cons_self)
      | cons x y => exact ⟨_, _, _, _, rfl, rfl, x⟩
    refine ⟨f :: fs, PySem.W.KatTups.cons ho hc hd ?_ h1, by simp [h2], fun g hg => ?_⟩
    · have : its.toList[0]? = some f := by rw [e1]; rfl
      simpa using this
    · rcases List.mem_cons.mp hg with rfl | hg
      · exact ⟨k, List.mem_cons_self, c, by rw [e2]; rfl, hh⟩
      · obtain ⟨k', a1, c', a2, a3⟩ := h3 g hg
        exact ⟨k', List.mem_cons_of_mem _ a1, c', a2, a3⟩
theorem compat_head {a b : List (List Int)} {c d : List Int} (h : compat a b = true) (ha : a.head? = some c) (hb : b.head? = some d) : c.head? = d.head? := by
  cases a with
  | nil => cases ha
  | cons x a =>
    cases b with
    | nil => cases hb
    | cons y b =>
      cases ha; cases hb
      unfold compat at h
      exact eq_of_beq (Bool.and_eq_true_iff.mp h).1
theorem items_sortable {a : Addr} {vs : List Value} {ks : List (List (List Int))} (hu : A.units + 4 < cLine) (h0 : 0 < vs.length) (hk : KIs s.heap vs ks) (hc : compats ks = true) (ha : ∀ o, s.heap.get? a = some o → o.cls ≠ .type "tuple") :
    SortableO prog w A s a vs fun v u => ltK (keyAt s.heap v) (keyAt s.heap u) := by
  intro h' keep
  have kt : KeepTup s.heap h' := fun b its hb => by
    obtain ⟨o, ho, hcl, n, hd⟩ := hb
    exact ⟨o, keep b o (fun z => by subst z; exact ha o ho hcl) ho, hcl, n, hd⟩
  have hk' : KIs h' vs ks := by
    clear h0 hc
    induction hk with
    | nil => exact .nil
    | cons x _ ih => exact .cons (x.keeps kt) ih
  obtain ⟨fs, f1, f2, f3⟩ := kc_firsts hk' fun k m => (compats_spec hc m m).1
  obtain ⟨f0, fr, ef⟩ : ∃ f0 fr, fs = f0 :: fr := by
    cases fs with
    | nil => rw [List.length_nil] at f2; omega
    | cons x y => exact ⟨x, y, rfl⟩
  obtain ⟨k0, m0, c0, e0, q0⟩ := f3 f0 (by rw [ef]; exact List.mem_cons_self)
  have cmp : ∀ f : Bool, (f = true → c0.head? = some 1) → Cmp prog w A { s with heap := h' } (tuples' f) (fun p => p.1 ∈ vs) (lt2 fun v u => ltK (keyAt s.heap v) (keyAt s.heap u)) := by
    intro f hf p q hp hq
    show wpAny (model prog w) A (keyLt' (tuples' f) p.1 q.1) (fun r s' => s' = { s with heap := h' } ∧ r = ltK (keyAt s.heap p.1) (keyAt s.heap q.1)) (fun _ _ => False) { s with heap := h' }
    obtain ⟨k1, m1, x1⟩ := hk.mem _ hp
    obtain ⟨k2, m2, x2⟩ := hk.mem _ hq
    rw [keyAt_eq x1, keyAt_eq x2]
    obtain ⟨b1, i1, e1, ⟨o1, ho1, _, n1, hd1⟩, y1⟩ := x1.keeps kt
    obtain ⟨b2, i2, e2, ⟨o2, ho2, _, n2, hd2⟩, y2⟩ := x2.keeps kt
    rw [e1, e2]
    refine PySem.W.kat_lt (s := { s with heap := h' }) ho1 hd1 ho2 hd2 ?_
    have r := kcs_lex (prog := prog) (w := w) (A := A) (s := { s with heap := h' }) (f := f) 0 hu y1 y2 (compats_spec hc m1 m2).2 fun hf' _ c hcc => by
      rw [compat_head (compats_spec hc m1 m0).2 hcc e0]
      exact hf hf'
    simp only [Array.length_toList] at r
    exact r
  rcases q0 with ⟨i, t, ei, ec⟩ | ⟨b, its, ns, ei, ht, hi, ec⟩
  · refine ⟨tuples' true, fun Q E hq => ?_, cmp true fun _ => by rw [ec]; rfl⟩
    refine PySem.W.kat_kind (T := .type "int") f1 (by omega) (fun f hm => ?_) (by rfl) ?_
    · obtain ⟨k1, m1, c1, e1, q1⟩ := f3 f hm
      have hh := compat_head (compats_spec hc m1 m0).2 e1 e0
      rcases q1 with ⟨j, u, rfl, _⟩ | ⟨_, _, _, _, _, _, rfl⟩
      · exact PySem.W.Looks.now
      · rw [ec] at hh; cases hh
    · have e : (Value.type "int" != Value.type "tuple") = true := by first | decide +kernel | rfl | decide
      rw [e]
      exact hq
  · refine ⟨tuples' false, fun Q E hq => ?_, cmp false fun h => by cases h⟩
    refine PySem.W.kat_kind (T := .type "tuple") f1 (by omega) (fun f hm => ?_) (by rfl) ?_
    · obtain ⟨k1, m1, c1, e1, q1⟩ := f3 f hm
      have hh := compat_head (compats_spec hc m1 m0).2 e1 e0
      rcases q1 with ⟨j, u, rfl, rfl⟩ | ⟨b', its', ns', rfl, ⟨o, ho, hcl, _⟩, _, _⟩
      · rw [ec] at hh; cases hh
      · have := (show PySem.W.Looks (model prog w) h' (typeOf (.ref b')) o.cls from (PySem.W.Looks.ld ho).andThen .now)
        rw [hcl] at this
        exact this
    · have e : (Value.type "tuple" != Value.type "tuple") = false := by first | decide +kernel | rfl | decide
      rw [e]
      exact hq
/-- sorted(l) of items -/
theorem sorted_items {l : Addr} {vs : List Value} {ks : List (List (List Int))} {Q : Value → Shared → Prop} (hu : A.units + 64 < cLine) (hl : s.heap.IsList l vs.toArray) (hz : vs.length ≤ sizeLine) (hk : KIs s.heap vs ks) (hc : vs.length < 2 ∨ compats ks = true)
    (h : ∀ (h' : Heap) (d : Addr), (∀ b o, s.heap.get? b = some o → h'.get? b = some o) → s.heap.objs.size ≤ d → (∃ n, h'.get? d = some (seqObj "list" (sortZ ks vs).toArray n)) → Q (.ref d) { s with heap := h' }) :
    wpAny (model prog w) A (call (.builtin "sorted") [.ref l]) Q E s := by
  have O : Swo fun v u : Value => ltK (keyAt s.heap v) (keyAt s.heap u) :=
    ⟨fun x y => sto2_ltK.swo.asym _ _, fun x y z => sto2_ltK.swo.tr _ _ _⟩
  refine sorted_ord O hl hz (fun h2 h₁ a ha kk => ?_) fun out hs hb => ?_
  · have kt : KeepTup s.heap h₁ := fun b its hb => by
      obtain ⟨o, ho, hcl, n, hd⟩ := hb
      exact ⟨o, (kk b o ho).2, hcl, n, hd⟩
    have hk' : KIs h₁ vs ks := by
      clear h2 hl hz hc h ha
      induction hk with
      | nil => exact .nil
      | cons x _ ih => exact .cons (x.keeps kt) ih
    have hc : compats ks = true := by
      rcases hc with hc | hc
      · omega
      · exact hc
    have r := items_sortable (prog := prog) (w := w) (A := A.in1.in1) (s := { s with heap := h₁ }) (a := a) (by simp only [PySem.Around.in1_units]; omega) (by omega) hk' hc fun o e => by
      have e' : some o = some (seqObj "list" vs.toArray 0) := e.symm.trans ha
      cases e'
      intro c
      exact absurd (Value.type.inj c) (by decide)
    intro h' keep
    obtain ⟨κ, r1, r2⟩ := r h' keep
    refine ⟨κ, r1, fun p q hp hq => ?_⟩
    obtain ⟨k1, _, x1⟩ := hk.mem _ hp
    obtain ⟨k2, _, x2⟩ := hk.mem _ hq
    have := r2 p q hp hq
    show wpAny _ _ _ (fun r s' => _ ∧ r = ltK (keyAt s.heap p.1) (keyAt s.heap q.1)) _ _
    rw [keyAt_eq x1, keyAt_eq x2]
    have e1 := keyAt_eq (x1.keeps kt)
    have e2 := keyAt_eq (x2.keeps kt)
    rw [show lt2 (fun v u => ltK (keyAt h₁ v) (keyAt h₁ u)) p q = ltK (keyAt h₁ p.1) (keyAt h₁ q.1) from rfl, e1, e2] at this
    exact this
  · have e : out = sortZ ks vs := (sortB_uniq O hs hb).trans (sortZ_eq hk.length.symm fun p hp q hq => by rw [keyAt_eq (hk.zip p hp), keyAt_eq (hk.zip q hq)])
    rw [← e] at h
    exact h _ _ (fun b o e => sortedAll_old e) (Nat.le_succ _) (sortedAll_at s.heap vs out.toArray)
end

/-! ### by the machine's rules -/
def CV (K : PySem.W.Frag) (H : Hp) (x : V) (c : List Int) : Prop := (∃ i, x = .int i ∧ c = [1, i]) ∨ ∃ q ns, x = .ref q ∧ SqT K H q (ns.map V.int) ∧ c = 0 :: ns
inductive CVs (K : PySem.W.Frag) (H : Hp) : List V → List (List Int) → Prop
  | nil : CVs K H [] []
  | cons {x xs c cs} : CV K H x c → CVs K H xs cs → CVs K H (x :: xs) (c :: cs)
def KV (K : PySem.W.Frag) (H : Hp) (x : V) (k : List (List Int)) : Prop := ∃ t ws, x = .ref t ∧ SqT K H t ws ∧ CVs K H ws k
inductive KVs (K : PySem.W.Frag) (H : Hp) : List V → List (List (List Int)) → Prop
  | nil : KVs K H [] []
  | cons {x xs k ks} : KV K H x k → KVs K H xs ks → KVs K H (x :: xs) (k :: ks)
def rSortedK (K : PySem.W.Frag) : List V → Hp → VK → Prop := fun vs H Q => ∃ a xs ks, vs = [.ref a] ∧ SqL K H a xs ∧ KVs K H xs ks ∧ (xs.length < 2 ∨ compats ks = true) ∧ ∀ p, H p = none → Q (.ref p) (upd H p (.lst (sortZ ks xs)))
theorem KVs.refs {K : PySem.W.Frag} {H : Hp} : ∀ {xs : List V} {ks : List (List (List Int))}, KVs K H xs ks → ∀ x ∈ xs, ∃ a, x = V.ref a
  | _, _, .nil, x, hx => absurd hx (by simp)
  | _, _, .cons ⟨t, _, e, _⟩ r, x, hx => by
    rcases List.mem_cons.mp hx with rfl | hx
    · exact ⟨t, e⟩
    · exact KVs.refs r x hx
section
variable {X : Cx}
theorem cv_kc {pins : List (Addr × Obj)} {σ : L2.St} {H : Hp} {s : Shared} (I : Inv X pins σ H s) : ∀ {xs : List V} {us : List Value} {cs : List (List Int)}, CVs X.K H xs cs → Vals xs us → KCs s.heap us cs
  | _, _, _, .nil, .nil => .nil
  | _, _, _, .cons a r, .cons b q => by
    refine .cons ?_ (cv_kc I r q)
    rcases a with ⟨i, rfl, rfl⟩ | ⟨t, ns, rfl, h, rfl⟩
    · obtain ⟨u, rfl⟩ := b
      exact .inl ⟨_, _, rfl, rfl⟩
    · cases b
      obtain ⟨its, rv, ht, _⟩ := I.tuple h
      exact .inr ⟨_, _, _, rfl, ht, intsAre_of rv, rfl⟩
theorem kv_ki {pins : List (Addr × Obj)} {σ : L2.St} {H : Hp} {s : Shared} (I : Inv X pins σ H s) : ∀ {xs : List V} {us : List Value} {ks : List (List (List Int))}, KVs X.K H xs ks → Vals xs us → KIs s.heap us ks
  | _, _, _, .nil, .nil => .nil
  | _, _, _, .cons a r, .cons b q => by
    refine .cons ?_ (kv_ki I r q)
    obtain ⟨t, ws, rfl, h, c⟩ := a
    cases b
    obtain ⟨its, rv, ht, _⟩ := I.tuple h
    exact ⟨_, _, rfl, ht, cv_kc I c rv⟩
theorem cr_sortedK (hu : X.A.units + 64 < cLine) : CallR X (.builtin "sorted") (rSortedK X.K) := by
  intro pins s σ H vs us Q I r h
  obtain ⟨a, xs, ks, rfl, hs, hx, hc, q⟩ := h
  obtain ⟨its, rv, hl, hz⟩ := I.list hs
  rw [Vals.ref1 r]
  obtain ⟨e1, e2⟩ := refs_back rv hx.refs
  have hk := kv_ki I hx rv
  have el : ks.length = its.length := hk.length.symm
  refine sorted_items hu hl.isList (by rw [← rv.length]; exact hz) hk (by rw [← rv.length]; exact hc) fun h' d kp hd hn => ?_
  have h3 : ∀ u ∈ sortZ ks its, ∃ a, u = Value.ref a := fun u hu => e2 u ((sortZ_perm el).mem_iff.mp hu)
  obtain ⟨n, hn⟩ := hn
  have eo : sortZ ks xs = (sortZ ks its).map backV := by rw [e1, sortZ_map]
  refine ⟨.ref d, upd H d (.lst (sortZ ks xs)), I.laid (t' := s.toks) kp hd ⟨?_, sortZ ks its, n, by rw [eo]; exact vals_back h3, hn⟩, rfl, q d (I.hok.fresh hd)⟩
  rw [sortZ_length (by rw [el, rv.length])]
  exact hz
def rSD (K : PySem.W.Frag) : List V → Hp → VK → Prop := fun vs H Q => rSortedI K vs H Q ∨ rSortedK K vs H Q
theorem cr_sortedD (hu : X.A.units + 65 < cLine) : CallR X (.builtin "sorted") (rSD X.K) := by
  intro pins s σ H vs us Q I r h
  rcases h with h | h
  · exact cr_sortedI _ _ _ _ _ _ _ I r h
  · exact cr_sortedK (by omega) _ _ _ _ _ _ _ I r h
end

/-! ### of data -/
def cKey : D → Option (List Int)
  | .int i => some [1, i]
  | .tup ds => (allInt ds).map (0 :: ·)
  | _ => none
def iKey : D → Option (List (List Int))
  | .tup ds => allSome (ds.map cKey)
  | _ => none
def iiKey : D → Option (List (List Int))
  | .int i => some [[1, i]]
  | _ => none
def bSorted (m : Bool) (xs : List D) (st : Sto) : Out D := match xs with
  | [x] => (match litems st x with
    | some ys => (match allSome (ys.map iiKey) with
      | some ks => newL m (sortZ ks ys) st
      | none => match allSome (ys.map iKey) with
        | some ks => if ys.length < 2 ∨ compats ks = true then newL m (sortZ ks ys) st else .bad
        | none => .bad)
    | none => .bad)
  | _ => .bad
theorem allSome_len {α : Type} : ∀ {l : List (Option α)} {r : List α}, allSome l = some r → l.length = r.length
  | [], r, h => by cases h; rfl
  | none :: l, r, h => by cases h
  | some a :: l, r, h => by
    unfold allSome at h
    cases q : allSome l with
    | none => rw [q] at h; cases h
    | some b => rw [q] at h; cases h; simp [allSome_len q]
theorem allSome_consK {α : Type} {o : Option α} {l : List (Option α)} {r : List α} (h : allSome (o :: l) = some r) : ∃ a b, o = some a ∧ allSome l = some b ∧ r = a :: b := by
  cases o with
  | none => cases h
  | some a =>
    unfold allSome at h
    cases q : allSome l with
    | none => rw [q] at h; cases h
    | some b => rw [q] at h; cases h; exact ⟨a, b, rfl, rfl, rfl⟩
theorem Reps.zip {K : PySem.W.Frag} {g : G} {κ : Type} : ∀ {ks : List κ} {ds : List D} {vs : List V}, Reps K g ds vs → ks.length = ds.length → ∃ z : List (κ × D × V), ks.zip ds = z.map (fun p => (p.1, p.2.1)) ∧ ks.zip vs = z.map (fun p => (p.1, p.2.2)) ∧ ∀ p ∈ z, Rep K g p.2.1 p.2.2
  | [], _, _, .nil, _ => ⟨[], rfl, rfl, fun p hp => absurd hp (by simp)⟩
  | k :: ks, _, _, .cons (d := d) (v := v) a t, h => by
    obtain ⟨z, h1, h2, h3⟩ := Reps.zip (ks := ks) t (by simpa using h)
    refine ⟨(k, d, v) :: z, by simp [h1], by simp [h2], fun p hp => ?_⟩
    rcases List.mem_cons.mp hp with rfl | hp
    · exact a
    · exact h3 p hp
  | [], _, _, .cons _ _, h => by simp at h
  | _ :: _, _, _, .nil, h => by simp at h
theorem reps_of {K : PySem.W.Frag} {g : G} {κ : Type} : ∀ (z : List (κ × D × V)), (∀ p ∈ z, Rep K g p.2.1 p.2.2) → Reps K g (z.map fun p => p.2.1) (z.map fun p => p.2.2)
  | [], _ => .nil
  | p :: z, h => .cons (h p List.mem_cons_self) (reps_of z fun q hq => h q (List.mem_cons_of_mem _ hq))
theorem Reps.sortZ {K : PySem.W.Frag} {g : G} {ks : List (List (List Int))} {ds : List D} {vs : List V} (r : Reps K g ds vs) (hl : ks.length = ds.length) : Reps K g (sortZ ks ds) (sortZ ks vs) := by
  obtain ⟨z, h1, h2, h3⟩ := r.zip hl
  unfold PD.sortZ
  rw [h1, h2, sortB_map (la := fun (p : List (List Int) × D × V) q => ltK p.1 q.1) (fun p : List (List Int) × D × V => (p.1, p.2.1)) _ fun _ _ _ _ => rfl, sortB_map (la := fun (p : List (List Int) × D × V) q => ltK p.1 q.1) (fun p : List (List Int) × D × V => (p.1, p.2.2)) _ fun _ _ _ _ => rfl, List.map_map, List.map_map]
  exact reps_of _ fun p hp => h3 p ((sortB_perm _ z).mem_iff.mp hp)
theorem iiKey_all : ∀ {ds : List D} {ks : List (List (List Int))}, allSome (ds.map iiKey) = some ks → ∃ ns : List Int, ds = ns.map D.int ∧ ks = ns.map fun i => [[1, i]]
  | [], ks, h => by cases h; exact ⟨[], rfl, rfl⟩
  | d :: ds, ks, h => by
    obtain ⟨a, b, h1, h2, rfl⟩ := allSome_consK h
    obtain ⟨ns, rfl, rfl⟩ := iiKey_all h2
    cases d <;> cases h1
    exact ⟨_ :: ns, rfl, rfl⟩
theorem reps_ints {K : PySem.W.Frag} {g : G} : ∀ {ns : List Int} {vs : List V}, Reps K g (ns.map D.int) vs → vs = ns.map V.int
  | [], _, .nil => rfl
  | n :: ns, _, .cons a t => by cases a; rw [reps_ints t]; rfl
theorem reps_ofInts {K : PySem.W.Frag} {g : G} : ∀ (ns : List Int), Reps K g (ns.map D.int) (ns.map V.int)
  | [] => .nil
  | n :: ns => .cons (.int n) (reps_ofInts ns)
theorem allInt_ofK : ∀ {ds : List D} {ns : List Int}, allInt ds = some ns → ds = ns.map D.int
  | [], ns, h => by cases h; rfl
  | d :: ds, ns, h => by
    cases d <;> first | cases h | skip
    unfold allInt at h
    cases q : allInt ds with
    | none => rw [q] at h; cases h
    | some ms => rw [q] at h; cases h; rw [allInt_ofK q]; rfl
theorem cvs_of {K : PySem.W.Frag} {g : G} : ∀ {ds : List D} {vs : List V} {cs : List (List Int)}, Reps K g ds vs → allSome (ds.map cKey) = some cs → CVs K g.B vs cs
  | [], _, _, .nil, h => by cases h; exact .nil
  | d :: ds, _, cs, .cons a t, h => by
    obtain ⟨c, b, h1, h2, rfl⟩ := allSome_consK h
    refine .cons ?_ (cvs_of t h2)
    cases a <;> first | cases h1 | skip
    · exact .inl ⟨_, rfl, rfl⟩
    · rename_i xs q ws hq hl hr
      replace h1 : (allInt xs).map (0 :: ·) = some c := h1
      cases e : allInt xs with
      | none => rw [e] at h1; cases h1
      | some ns =>
        rw [e] at h1; cases h1
        have := allInt_ofK e
        subst this
        have := reps_ints hr
        subst this
        exact .inr ⟨_, _, rfl, hq.t, rfl⟩
theorem kvs_of {K : PySem.W.Frag} {g : G} : ∀ {ds : List D} {vs : List V} {ks : List (List (List Int))}, Reps K g ds vs → allSome (ds.map iKey) = some ks → KVs K g.B vs ks
  | [], _, _, .nil, h => by cases h; exact .nil
  | d :: ds, _, cs, .cons a t, h => by
    obtain ⟨c, b, h1, h2, rfl⟩ := allSome_consK h
    refine .cons ?_ (kvs_of t h2)
    cases a <;> first | cases h1 | skip
    rename_i xs q ws hq hl hr
    exact ⟨_, _, rfl, hq.t, cvs_of hr h1⟩
theorem CVs.mono {K : PySem.W.Frag} {B H : Hp} (hs : ∀ a o, B a = some o → H a = some o) : ∀ {vs : List V} {cs : List (List Int)}, CVs K B vs cs → CVs K H vs cs
  | _, _, .nil => .nil
  | _, _, .cons a r => by
    refine .cons ?_ (CVs.mono hs r)
    rcases a with h | ⟨q, ns, h1, h2, h3⟩
    · exact .inl h
    · exact .inr ⟨q, ns, h1, sqT_mono hs h2, h3⟩
theorem KVs.mono {K : PySem.W.Frag} {B H : Hp} (hs : ∀ a o, B a = some o → H a = some o) : ∀ {vs : List V} {cs : List (List (List Int))}, KVs K B vs cs → KVs K H vs cs
  | _, _, .nil => .nil
  | _, _, .cons ⟨t, ws, h1, h2, h3⟩ r => .cons ⟨t, ws, h1, sqT_mono hs h2, h3.mono hs⟩ (KVs.mono hs r)
theorem ltK_int (i j : Int) : ltK [[1, i]] [[1, j]] = decide (i < j) := by
  by_cases e : i = j
  · subst e; simp [ltK, ltI, lexG]
  · simp [ltK, ltI, lexG, e]
theorem sortZ_ints (ns ns' : List Int) (hp : ns'.Perm ns) (hs : ns'.Pairwise (· ≤ ·)) : ns' = sortZ (ns.map fun i => [[1, i]]) ns := by
  have O := sto2_int.swo
  have st : Stb (fun a b : Int => decide (a < b)) ns' ns := by
    refine ⟨hp, fun x => ?_⟩
    have e : SrtO.eqv (fun a b : Int => decide (a < b)) x = fun y => decide (x = y) := funext fun y => by
      unfold SrtO.eqv
      by_cases h : x = y
      · subst h; simp
      · simp only [h, decide_false]
        rcases Int.lt_or_gt_of_ne h with q | q
        · simp [q]
        · simp [q]
    rw [e]
    have h1 := fun l : List Int => List.filter_eq (l := l) x
    have e3 : ∀ l : List Int, l.filter (fun y => decide (x = y)) = List.replicate (l.count x) x := fun l => by
      rw [← List.filter_beq]
      congr 1
      funext y
      by_cases h : x = y
      · subst h; simp
      · simp [h, Ne.symm h]
    rw [e3, e3, hp.count_eq]
  have sr : Srtd (fun a b : Int => decide (a < b)) ns' := hs.imp fun h => by simp; omega
  refine (sortB_uniq O sr st).trans (sortZ_eq (by simp) fun p hp q hq => ?_)
  have key : ∀ (l : List Int) (p : List (List Int) × Int), p ∈ (l.map fun i => [[(1:Int), i]]).zip l → p.1 = [[1, p.2]] := by
    intro l
    induction l with
    | nil => intro p hp; simp at hp
    | cons a l ih =>
      intro p hp
      rw [List.map_cons, List.zip_cons_cons] at hp
      rcases List.mem_cons.mp hp with rfl | hp
      · rfl
      · exact ih p hp
  rw [key ns p hp, key ns q hq, ltK_int]
section
variable {X : Cx} {T : List (Addr × Str)}
theorem does_sorted (m : Bool) : DoesB X T (rSD X.K) (bSorted m) := by
  intro W σ g st H ds vs Q S r h
  unfold bSorted at h
  split at h
  · split at h
    · rename_i ys e
      cases r with
      | cons r1 r2 =>
        cases r2
        obtain ⟨a, ws, rfl, h1, h2, h3⟩ := S.litems r1 e
        split at h
        · rename_i ks ek
          obtain ⟨ns, rfl, rfl⟩ := iiKey_all ek
          have := reps_ints h3
          subst this
          refine .inl ⟨a, ns, rfl, SqL.of h1, fun ns' p hp hs hf => ?_⟩
          have e := sortZ_ints ns ns' hp hs
          have e1 : sortZ (ns.map fun i => [[(1:Int), i]]) (ns.map D.int) = ns'.map D.int := by rw [sortZ_map, ← e]
          rw [e1] at h
          exact newL_ok S (by rw [List.length_map, hp.length_eq]; simpa using h2) (reps_ofInts ns') h p hf
        · split at h
          · rename_i ks ek
            split at h
            · rename_i hc
              have hl : ks.length = ys.length := by rw [← allSome_len ek, List.length_map]
              refine .inr ⟨a, ws, ks, rfl, SqL.of h1, (kvs_of h3 ek).mono S.sub, by rw [← h3.length]; exact hc, newL_ok S ?_ (h3.sortZ hl) h⟩
              rw [sortZ_length (by rw [hl, h3.length])]
              exact h2
            · exact h.elim
          · exact h.elim
    · exact h.elim
  · exact h.elim
end
end PD
/-! PDRules6: odds and ends. -/
namespace PD
open PySem PySem.Spec PyProof.Rows L2
section
variable {X : Cx} {T : List (Addr × Str)} {W : WX} {a b c e e2 elt iter : Expr} {es ifs : List Expr} {fa fb fc fe : SE} {fs : SA} {ft fu : ST} {fi : SI} {pos p tpos : Pos} {x : Str}
theorem pt_pw {tt : TT} (h : PW X e tt) : PT X e tt := h.pt
theorem lookup_relab {env : Env} {x : Str} : ∀ {names : List (Str × NameKind)}, (names.lookup x = some .cell ∨ names.lookup x = some .free) →
    (names.map fun (n, k) => if (k == NameKind.free && env.scope.kind == .function && env.kindOf n == some .cell) then (n, NameKind.cell) else (n, k)).lookup x = some .cell ∨ (names.map fun (n, k) => if (k == NameKind.free && env.scope.kind == .function && env.kindOf n == some .cell) then (n, NameKind.cell) else (n, k)).lookup x = some .free
  | [], h => by simp at h
  | (n, k) :: r, h => by
    rw [List.map_cons]
    by_cases e : x = n
    · subst e
      simp only [List.lookup_cons, beq_self_eq_true] at h
      dsimp only
      split
      · left; simp [List.lookup_cons]
      · rcases h with h | h
        · left; cases h; simp [List.lookup_cons]
        · right; cases h; simp [List.lookup_cons]
    · have en : (x == n) = false := by simpa using e
      simp only [List.lookup_cons, en] at h
      have ih := lookup_relab (env := env) h
      have e2 : ((if (k == NameKind.free && env.scope.kind == .function && env.kindOf n == some .cell) = true then (n, NameKind.cell) else (n, k)) : Str × NameKind).1 = n := by split <;> rfl
      generalize hz : (if (k == NameKind.free && env.scope.kind == .function && env.kindOf n == some .cell) = true then (n, NameKind.cell) else (n, k) : Str × NameKind) = z at e2
      dsimp only
      rw [hz]
      obtain ⟨z1, z2⟩ := z
      simp only at e2
      subst e2
      simp only [List.lookup_cons, en]
      exact ih
theorem blk_relabel {N : List Str} {sc scope : Scope} {own : List (Str × Nat)} {env : Env} (h : BlkOk N sc scope own) : BlkOk N (relabel sc env) scope own :=
  ⟨h.kind, h.uniq, h.ix, fun y hy e => lookup_relab (h.free y hy e), h.own⟩
theorem pd_lcN {tg : Expr} {X0 : Cx} {s0 : Shared} {H0 : Hp} {sc0 : Scope} {cl0 : List (Str × Addr)} {C0 : Addr} {fp0 : List Addr} {scope : Scope} {own : List (Str × Nat)} {t : TG} {gd : TgD} {sl : List Nat} (m : Bool) (hc : X0.calm = true) (hN : X0.N.Nodup) (hi : PI (X0.blk s0 H0 sc0 (compEnvC sc0 cl0 C0 X0.env) fp0) tg iter (tDI (zX X0 T) W fi)) (ok : BlkOk X0.N sc0 scope own) (ht : TgOk (zX X0 T) t gd sl) (hsl : ∀ i ∈ sl, i ∈ own.map (·.2))
    (hg : ∀ (s : Shared) (H : Hp) (C : Addr) (cl : List (Str × Addr)) (fp : List Addr), PG ((X0.blk s0 H0 sc0 (compEnvC sc0 cl0 C0 X0.env) fp0).blk s H scope (compEnvC scope cl C (X0.blk s0 H0 sc0 (compEnvC sc0 cl0 C0 X0.env) fp0).env) fp) tg t)
    (hif : ∀ (s : Shared) (H : Hp) (C : Addr) (cl : List (Str × Addr)) (fp : List Addr), PTs ((X0.blk s0 H0 sc0 (compEnvC sc0 cl0 C0 X0.env) fp0).blk s H scope (compEnvC scope cl C (X0.blk s0 H0 sc0 (compEnvC sc0 cl0 C0 X0.env) fp0).env) fp) ifs (tDT (zX X0 T) W0 ft))
    (he : ∀ (s : Shared) (H : Hp) (C : Addr) (cl : List (Str × Addr)) (fp : List Addr), PE ((X0.blk s0 H0 sc0 (compEnvC sc0 cl0 C0 X0.env) fp0).blk s H scope (compEnvC scope cl C (X0.blk s0 H0 sc0 (compEnvC sc0 cl0 C0 X0.env) fp0).env) fp) elt (tD (zX X0 T) W0 fe)) (hs : ∀ x, foldedSetIterable iter (X0.blk s0 H0 sc0 (compEnvC sc0 cl0 C0 X0.env) fp0).env x = pure x := by intro _; rfl) :
    PE (X0.blk s0 H0 sc0 (compEnvC sc0 cl0 C0 X0.env) fp0) (.ListComp elt [⟨tg, iter, ifs, 0⟩] scope pos) (tD (zX X0 T) W (sLC m fi gd ft fe (own.map (·.2)))) :=
  pd_lc (X := X0.blk s0 H0 sc0 (compEnvC sc0 cl0 C0 X0.env) fp0) m hc hN hi (blk_relabel ok) ht hsl hg hif he hs
theorem pvD (i : Nat) (hN : X.N[i]? = some x := by rfl) (hv : Vis X.env.scope x := by first | exact Or.inl rfl | exact Or.inr (Or.inl rfl) | exact Or.inr (Or.inr rfl)) (hd : (x == ("__debug__" : Str)) = false := by decide)
    (hcd : (x == ("__classdict__" : Str)) = false := by decide) : PE X (.Name x pos) (tD (zX X T) W (sVar i)) := pd_var hN hv hd hcd
theorem pd_neg (ha : PE X a (tD (zX X T) W fa)) : PE X (.UnaryOp .USub a pos) (tD (zX X T) W (s1 fNeg fa)) :=
  PE.wk (pe_un un_neg ha) fun σ H Q ⟨g, ρ, st, S, E, q⟩ => by
    refine ⟨g, ρ, st, S, E, Sat.mono (sat_bind q) (fun d st1 q1 g1 H1 v L1 S1 r1 => ?_) fun _ _ _ q => q⟩
    unfold fNeg at q1
    split at q1
    · cases r1; exact ⟨_, rfl, q1 g1 H1 _ L1 S1 (.int _)⟩
    · exact q1.elim
theorem does_isBl : Does2 X T (fun x y H Q => ∃ a b, x = .bl a ∧ y = .bl b ∧ Q (.bl (decide (a = b))) H) fIsBl := by
  intro W σ g st H dx dy x y Q S rx ry h
  unfold fIsBl at h
  split at h
  · cases rx; cases ry; exact ⟨_, _, rfl, rfl, EPost.val S (fun _ => .bl _) h⟩
  · exact h.elim
theorem does_notBl : Does2 X T (fun x y H Q => ∃ a b, x = .bl a ∧ y = .bl b ∧ Q (.bl (!decide (a = b))) H) fNotBl := by
  intro W σ g st H dx dy x y Q S rx ry h
  unfold fNotBl at h
  split at h
  · cases rx; cases ry; exact ⟨_, _, rfl, rfl, EPost.val S (fun _ => .bl _) h⟩
  · exact h.elim
theorem rgV_reps (K : PySem.W.Frag) (g : G) (n : Nat) : Reps K g (rangeL 0 n) ((List.range n).map fun (i : Nat) => V.int (0 + (i : Int))) := by
  unfold rangeL
  rw [List.range_eq_range']
  exact reps_range K g 0 n 0
theorem pd_listR1 {p1 p2 : Pos} (m : Bool) (hc : X.calm = true) (hg : Gl X "list") (hm : X.mg "list" = none) (hg2 : Gl X "range") (hm2 : X.mg "range" = none) (ha : PE X a (tD (zX X T) W fa)) (na : starEach [a] X.env = (false, eval a X.env) :: starEach [] X.env := by rfl)
    (nb : starEach [.Call (.Name "range" p2) [a] [] p1] X.env = (false, eval (.Call (.Name "range" p2) [a] [] p1) X.env) :: starEach [] X.env := by rfl) :
    PE X (.Call (.Name "list" p) [.Call (.Name "range" p2) [a] [] p1] [] pos) (tD (zX X T) W (sListR1 m fa)) :=
  PE.wk (pe_listRg hc hg hm (prg_1 hg2 hm2 ha na) nb) fun σ H Q ⟨g, ρ, st, S, E, q⟩ => by
    refine ⟨g, ρ, st, S, E, Sat.mono (sat_bind q) (fun d st1 q1 g1 H1 v L1 S1 r1 => ?_) fun _ _ _ q => q⟩
    split at q1
    · rename_i j
      split at q1
      · rename_i hj
        cases r1
        refine ⟨j, rfl, ?_, ?_⟩
        · have := sizeLine_eq
          exact RgOk.of_le (by omega) (by omega) (by omega) (by omega)
        · have e : rgV 0 j = (List.range j.toNat).map fun (i : Nat) => V.int (0 + (i : Int)) := by
            unfold rgV
            rw [Int.sub_zero]
          refine newL_ok (W := W) (σ := σ) S1 (vs := rgV 0 j) ?_ ?_ (EPost.mono L1 q1)
          · rw [rgV_length]; omega
          · rw [e]; exact rgV_reps _ _ _
      · exact q1.elim
    · exact q1.elim

/-! ### dicts made of pairs -/
inductive KR (K : PySem.W.Frag) (g : G) : List (Key × D) → List (Key × V) → Prop
  | nil : KR K g [] []
  | cons {k d v ps qs} : Rep K g d v → KR K g ps qs → KR K g ((k, d) :: ps) ((k, v) :: qs)
theorem KR.reps {K : PySem.W.Frag} {g : G} : ∀ {ps qs}, KR K g ps qs → ps.map (·.1) = qs.map (·.1) ∧ Reps K g (ps.map (·.2)) (qs.map (·.2))
  | _, _, .nil => ⟨rfl, .nil⟩
  | _, _, .cons a r => ⟨by simp [(KR.reps r).1], .cons a (KR.reps r).2⟩
theorem KR.any {K : PySem.W.Frag} {g : G} (k : Key) : ∀ {ps qs}, KR K g ps qs → (ps.any fun kv => decide (kv.1 = k)) = qs.any fun kv => decide (kv.1 = k)
  | _, _, .nil => rfl
  | _, _, .cons a r => by rw [List.any_cons, List.any_cons, KR.any k r]
theorem KR.upd {K : PySem.W.Frag} {g : G} {d : D} {v : V} (h : Rep K g d v) (k : Key) : ∀ {ps qs}, KR K g ps qs → KR K g (ps.map fun kv => if kv.1 = k then (kv.1, d) else kv) (qs.map fun kv => if kv.1 = k then (kv.1, v) else kv)
  | _, _, .nil => .nil
  | _, _, .cons (k := k') a r => by
    rw [List.map_cons, List.map_cons]
    by_cases e : k' = k
    · simp only [e, if_pos]; exact .cons h (KR.upd h k r)
    · simp only [e, if_neg, not_false_eq_true]; exact .cons a (KR.upd h k r)
theorem KR.snoc {K : PySem.W.Frag} {g : G} {d : D} {v : V} (h : Rep K g d v) (k : Key) : ∀ {ps qs}, KR K g ps qs → KR K g (ps ++ [(k, d)]) (qs ++ [(k, v)])
  | _, _, .nil => .cons h .nil
  | _, _, .cons a r => .cons a (KR.snoc h k r)
theorem KR.put {K : PySem.W.Frag} {g : G} {d : D} {v : V} (h : Rep K g d v) (k : Key) {ps qs} (r : KR K g ps qs) : KR K g (putD ps k d) (putK qs k v) := by
  unfold putD putK
  rw [r.any k]
  split
  · exact r.upd h k
  · exact r.snoc h k
theorem KR.merge {K : PySem.W.Frag} {g : G} {more mores} (r : KR K g more mores) : ∀ {acc accs}, KR K g acc accs → KR K g (more.foldl (fun acc p => putD acc p.1 p.2) acc) (mergeK accs mores) := by
  induction r with
  | nil => intro _ _ q; exact q
  | cons a r ih => intro _ _ q; exact ih (q.put a _)
theorem pairs_reps {K : PySem.W.Frag} {g : G} : ∀ {ds : List D} {vs : List V} {ps : List (Key × D)}, Reps K g ds vs → allSome (ds.map pairK) = some ps →
    ∃ (as : List Addr) (kvs : List (Key × V)), vs = as.map V.ref ∧ Paired (fun p (kv : Key × V) => SqT K g.B p [kV kv.1, kv.2]) as kvs ∧ KR K g ps kvs
  | [], _, _, .nil, h => by cases h; exact ⟨[], [], rfl, .nil, .nil⟩
  | d :: ds, _, _, .cons a t, h => by
    obtain ⟨p, ps, h1, h2, rfl⟩ := allSome_consK h
    obtain ⟨as, kvs, rfl, e2, e3⟩ := pairs_reps t h2
    unfold pairK at h1
    split at h1
    · rename_i k v
      cases a with
      | tup q l r =>
        cases r with
        | cons r1 r2 =>
          cases r2 with
          | cons r3 r4 =>
            cases r4
            cases k <;> first | cases h1 | skip
            · cases r1
              exact ⟨_ :: as, (.inl _, _) :: kvs, rfl, .cons q.t e2, .cons r3 e3⟩
            · cases r1
              exact ⟨_ :: as, (.inr _, _) :: kvs, rfl, .cons q.t e2, .cons r3 e3⟩
    · cases h1
theorem paired_mono {K : PySem.W.Frag} {B H : Hp} (hs : ∀ a o, B a = some o → H a = some o) : ∀ {as : List Addr} {kvs : List (Key × V)}, Paired (fun p (kv : Key × V) => SqT K B p [kV kv.1, kv.2]) as kvs → Paired (fun p (kv : Key × V) => SqT K H p [kV kv.1, kv.2]) as kvs
  | _, _, .nil => .nil
  | _, _, .cons a r => .cons (sqT_mono hs a) (paired_mono hs r)
theorem does_dict : DoesB X T (fun xs H Q => ∃ (a : Addr) (ps : List Addr) (kvs : List (Key × V)), xs = [.ref a] ∧ SqL X.K H a (ps.map V.ref) ∧ Paired (fun p kv => SqT X.K H p [kV kv.1, kv.2]) ps kvs ∧
    ∀ p, H p = none → Q (.ref p) (upd H p (.dK (mergeK [] kvs)))) bDict := by
  intro W σ g st H ds vs Q S r h
  unfold bDict at h
  split at h
  · rename_i x
    split at h
    · rename_i ps e
      cases r with
      | cons r1 r2 =>
        cases r2
        cases e1 : litems st x with
        | none => rw [e1] at e; cases e
        | some ys =>
          rw [e1] at e
          obtain ⟨a, ws, rfl, h1, h2, h3⟩ := S.litems r1 e1
          obtain ⟨as, kvs, rfl, e2, e3⟩ := pairs_reps h3 e
          refine ⟨a, as, kvs, rfl, SqL.of h1, paired_mono S.sub e2, fun p hp => ?_⟩
          obtain ⟨S', L'⟩ := S.allocB (o := .dK (mergeK [] kvs)) hp (fun _ => by simp)
          obtain ⟨m1, m2⟩ := (KR.merge e3 .nil).reps
          have ez : mergeK [] kvs = ((mergeK [] kvs).map (·.1)).zip ((mergeK [] kvs).map (·.2)) := by
            generalize mergeK [] kvs = l
            induction l with
            | nil => rfl
            | cons x l ih => simp [← ih]
          refine h _ _ _ L' S' ?_
          refine .dk (vs := (mergeK [] kvs).map (·.2)) ?_ ?_ ?_
          · rw [m1, ← ez]; exact upd_same
          · rw [m1, List.length_map, List.length_map]
          · exact m2.mono L'.ge
    · exact h.elim
  · exact h.elim
theorem does_lenD : DoesB X T (fun xs H Q => ∃ a kvs, xs = [V.ref a] ∧ H a = some (.dK kvs) ∧ Q (.int kvs.length) H) bLenD := by
  intro W σ g st H ds vs Q S r h
  unfold bLenD at h
  split at h
  · cases r with
    | cons r1 r2 =>
      cases r2
      cases r1 with
      | dk e l r =>
        refine ⟨_, _, rfl, S.sub _ _ e, ?_⟩
        rw [List.length_zip, ← l, Nat.min_self]
        exact EPost.val S (fun _ => .int _) h
  · exact h.elim
end
end PD
/-! PDRules7: min, max of a list of ints. -/
namespace PD
open PySem PySem.Spec PyProof.Rows L2
def minL : List Int → Int
  | [] => 0
  | [a] => a
  | a :: b :: l => if minL (b :: l) < a then minL (b :: l) else a
def maxL : List Int → Int
  | [] => 0
  | [a] => a
  | a :: b :: l => if a < maxL (b :: l) then maxL (b :: l) else a
theorem minL_spec : ∀ {l : List Int}, l ≠ [] → minL l ∈ l ∧ ∀ y ∈ l, minL l ≤ y
  | [], h => absurd rfl h
  | [a], _ => ⟨List.mem_singleton.mpr rfl, fun y hy => by rw [List.mem_singleton.mp hy]; exact Int.le_refl _⟩
  | a :: b :: l, _ => by
    obtain ⟨h1, h2⟩ := minL_spec (l := b :: l) (by simp)
    unfold minL
    split
    · exact ⟨List.mem_cons_of_mem _ h1, fun y hy => by
        rcases List.mem_cons.mp hy with rfl | hy
        · omega
        · exact h2 y hy⟩
    · exact ⟨List.mem_cons_self, fun y hy => by
        rcases List.mem_cons.mp hy with rfl | hy
        · exact Int.le_refl _
        · have := h2 y hy; omega⟩
theorem maxL_spec : ∀ {l : List Int}, l ≠ [] → maxL l ∈ l ∧ ∀ y ∈ l, y ≤ maxL l
  | [], h => absurd rfl h
  | [a], _ => ⟨List.mem_singleton.mpr rfl, fun y hy => by rw [List.mem_singleton.mp hy]; exact Int.le_refl _⟩
  | a :: b :: l, _ => by
    obtain ⟨h1, h2⟩ := maxL_spec (l := b :: l) (by simp)
    unfold maxL
    split
    · exact ⟨List.mem_cons_of_mem _ h1, fun y hy => by
        rcases List.mem_cons.mp hy with rfl | hy
        · omega
        · exact h2 y hy⟩
    · exact ⟨List.mem_cons_self, fun y hy => by
        rcases List.mem_cons.mp hy with rfl | hy
        · exact Int.le_refl _
        · have := h2 y hy; omega⟩
def bMin1 (xs : List D) (st : Sto) : Out D := match xs with
  | [x] => (match (litems st x).bind allInt with | some ns => if ns.isEmpty then .bad else .ok (.int (minL ns)) st | none => .bad)
  | _ => .bad
def bMax1 (xs : List D) (st : Sto) : Out D := match xs with
  | [x] => (match (litems st x).bind allInt with | some ns => if ns.isEmpty then .bad else .ok (.int (maxL ns)) st | none => .bad)
  | _ => .bad
section
variable {X : Cx} {T : List (Addr × Str)}
theorem does_min1 : DoesB X T (rMin X.K) bMin1 := by
  intro W σ g st H ds vs Q S r h
  unfold bMin1 at h
  split at h
  · rename_i x
    split at h
    · rename_i ns e
      split at h
      · exact h.elim
      · rename_i hne
        cases r with
        | cons r1 r2 =>
          cases r2
          cases e1 : litems st x with
          | none => rw [e1] at e; cases e
          | some ys =>
            rw [e1] at e
            obtain ⟨a, ws, rfl, h1, h2, h3⟩ := S.litems r1 e1
            have := allInt_of h3 e
            subst this
            have nn : ns ≠ [] := fun q => by subst q; exact hne rfl
            refine ⟨a, ns, rfl, SqL.of h1, List.length_pos_iff.mpr nn, fun m hm hl => ?_⟩
            obtain ⟨k1, k2⟩ := minL_spec nn
            have : m = minL ns := Int.le_antisymm (hl _ k1) (k2 _ hm)
            rw [this]
            exact EPost.val S (fun _ => .int _) h
    · exact h.elim
  · exact h.elim
theorem does_max1 : DoesB X T (rMax X.K) bMax1 := by
  intro W σ g st H ds vs Q S r h
  unfold bMax1 at h
  split at h
  · rename_i x
    split at h
    · rename_i ns e
      split at h
      · exact h.elim
      · rename_i hne
        cases r with
        | cons r1 r2 =>
          cases r2
          cases e1 : litems st x with
          | none => rw [e1] at e; cases e
          | some ys =>
            rw [e1] at e
            obtain ⟨a, ws, rfl, h1, h2, h3⟩ := S.litems r1 e1
            have := allInt_of h3 e
            subst this
            have nn : ns ≠ [] := fun q => by subst q; exact hne rfl
            refine ⟨a, ns, rfl, SqL.of h1, List.length_pos_iff.mpr nn, fun m hm hl => ?_⟩
            obtain ⟨k1, k2⟩ := maxL_spec nn
            have : m = maxL ns := Int.le_antisymm (k2 _ hm) (hl _ k1)
            rw [this]
            exact EPost.val S (fun _ => .int _) h
    · exact h.elim
  · exact h.elim
end
end PD
/-! PDExc: raising, catching. -/
namespace PD
open PySem PySem.Spec PyProof.Rows L2
/-- an own exception class without an __init__ -/
structure OwnE (K : PySem.W.Frag) (mg : Str → Option Value) (n : Str) (C : Addr) : Prop where
  g : mg n = some (.ref C)
  k : PySem.W.keepIn K (.ref C) = true
  x : PySem.W.excIn K C [.type "ValueError", .type "Exception", .type "BaseException", .type "object"] "ValueError.__new__" = true
  b : PySem.W.subIn K (.ref C) (.type "BaseException") = some true
  t : PySem.W.typeIn K (.ref C) = some (.type "type")
section
variable {X : Cx} {T : List (Addr × Str)} {W : WX} {n : Str} {C : Addr} {p pos pos' : Pos}
/-- C() -/
theorem pmk_own0 (o : OwnE X.K X.mg n C) (hg : Gl X n) (hdb : (n == ("__debug__" : Str)) = false := by decide) : PMk X (.Call (.Name n p) [] [] pos) (fun _ H Q => Q (.ref C) none H) := by
  intro pins s σ H Q I h
  refine wpAny_Call_Name_kw (ld_glob I hg o.g ?_ hdb)
  refine PySem.W.callWith_K0 I.kIn o.k ?_
  obtain ⟨bm, N, nm, qn, bs, hdct, sn, sub, ab, col, dd, k0, k1, k2, k3, k5, mN, hC, hN, hni, T⟩ := exc_obj I.kIn o.x
  exact wpAny_call_exc_subT PySem.F.excBase_ValueError T hC hN hni (fun h' e hm => mk_of I hm (raises_own o.b o.t) h (I.hok.gone hm.new)) (Nat.zero_le _)
theorem clsV_own {z : Z} (h : z.mg n = some (.ref C)) : clsV z n = .ref C := by unfold clsV; rw [h]; rfl
/-- raise C() -/
theorem ps_raiseD (o : OwnE X.K X.mg n C) (hc : X.calm = true) (tk : Takes X W) (hg : Gl X n) (hdb : (n == ("__debug__" : Str)) = false := by decide) : PS X (.Raise (some (.Call (.Name n p) [] [] pos)) none pos') (tDS (zX X T) W (qRaise n)) :=
  PS.wk (ps_raise hc tk (pmk_own0 o hg hdb)) fun D σ H ⟨g, ρ, st, S, E, q⟩ => by
    have := q g H (Le.refl g H) S σ none E (.inl ⟨rfl, rfl⟩)
    rw [clsV_own (z := zX X T) o.g] at this
    exact this
end

/-! ### xs.count(b), xs.index(x) -/
def eqb (k : Bool) : Value → Bool
  | .bool b => b == k
  | _ => false
theorem bools_of {bs : List Bool} {us : List Value} (r : Vals (bs.map V.bl) us) : us = bs.map Value.bool := by
  induction bs generalizing us with
  | nil => cases r; rfl
  | cons b bs ih =>
    rw [List.map_cons] at r
    cases r with
    | cons h t => rw [ih t]; cases h; rfl
theorem eqb_count (k : Bool) (bs : List Bool) : (bs.map Value.bool).countP (eqb k) = bs.count k := by
  induction bs with
  | nil => rfl
  | cons b bs ih =>
    rw [List.map_cons, List.countP_cons, List.count_cons, ih]
    rfl
def rCntB (K : PySem.W.Frag) : V → List V → Hp → VK → Prop := fun x xs H Q => ∃ (p : Addr) (bs : List Bool) (k : Bool), x = .ref p ∧ xs = [.bl k] ∧ SqL K H p (bs.map V.bl) ∧ Q (.int (bs.count k : Nat)) H
theorem mt_lcountB {X : Cx} : MtR X "list.count" (rCntB X.K) := by
  intro pins s σ H x xs v us Q I rx rxs h
  obtain ⟨p, bs, k, rfl, rfl, hs, q⟩ := h
  cases rx
  obtain ⟨u, rfl, ru⟩ := rxs.one
  cases ru
  obtain ⟨its, rv, ⟨⟨cls, dd, data, sl⟩, n, ho, hc, hdn, hd⟩, hlen⟩ := I.list hs
  simp only at hc hd
  subst hc hd
  have hi := bools_of rv
  subst hi
  refine call_meets PySem.F.slot_list_count ⟨_, ho, rfl⟩ PySem.F.entry_list_count (PySem.F.args_list_count_2 _ _)
    (SeqAt.list_countAt p (bs.map Value.bool).toArray n dd sl (.bool k) (eqb k)) ⟨ho, fun y hy => ?_, ?_⟩
  · obtain ⟨b, _, rfl⟩ := List.mem_map.mp (show y ∈ bs.map Value.bool by simpa using hy)
    exact SeqAt.EqAt.bool_bool b k
  · have ec : ((bs.map Value.bool).toArray.toList.countP (eqb k)) = bs.count k := eqb_count k bs
    refine ⟨.int (bs.count k : Nat), H, I.tok _, ⟨s.toks, ?_⟩, q⟩
    show Value.int ((((bs.map Value.bool).toArray.toList.countP (eqb k)) : Nat) : Int) s.toks = Value.int ((bs.count k : Nat) : Int) s.toks
    rw [ec]
def fCountB (x y : D) (st : Sto) : Out D := match (litems st x).bind allBl, y with
  | some bs, .bl k => .ok (.int (bs.count k : Nat)) st
  | _, _ => .bad
def firstIx (p : PyData) : Nat → List PyData → Option Nat
  | _, [] => none
  | i, z :: zs => if PyData.eqv z p = true then some i else firstIx p (i + 1) zs
theorem firstIx_spec {p : PyData} : ∀ {ps : List PyData} {i j : Nat}, firstIx p i ps = some j → ∃ k z, j = i + k ∧ ps[k]? = some z ∧ PyData.eqv z p = true ∧ ∀ (m : Nat) (z' : PyData), m < k → ps[m]? = some z' → PyData.eqv z' p = false
  | [], i, j, h => by cases h
  | z :: zs, i, j, h => by
    unfold firstIx at h
    split at h
    · rename_i e
      cases h
      exact ⟨0, z, rfl, rfl, e, fun m z' hm => absurd hm (by omega)⟩
    · rename_i e
      obtain ⟨k, w, e1, e2, e3, e4⟩ := firstIx_spec h
      refine ⟨k + 1, w, by omega, by simpa using e2, e3, fun m z' hm hz => ?_⟩
      cases m with
      | zero =>
        have : z = z' := by simpa using hz
        subst this
        simpa using e
      | succ m => exact e4 m z' (by omega) (by simpa using hz)
def fIndexD (x y : D) (st : Sto) : Out D := match litems st x, toPy st 60 y with
  | some ys, some p => (match toPys st 59 ys with
    | some ps => (match firstIx p 0 ps with | some j => .ok (.int (j : Nat)) st | none => .bad)
    | none => .bad)
  | _, _ => .bad
section
variable {X : Cx} {T : List (Addr × Str)} {W : WX} {e : Expr} {fe : SE}
theorem does_countB : DoesM X T (rCntB X.K) fCountB := by
  intro W σ g st H dx dy x y Q S rx ry h
  unfold fCountB at h
  split at h
  · rename_i bs k q
    cases e1 : litems st dx with
    | none => rw [e1] at q; cases q
    | some ys =>
      rw [e1] at q
      obtain ⟨a, ws, rfl, h1, h2, h3⟩ := S.litems rx e1
      cases ry
      have := allBl_of h3 q
      subst this
      exact ⟨a, bs, k, rfl, rfl, SqL.of h1, EPost.val S (fun _ => .int _) h⟩
  · exact h.elim
theorem does_index : DoesM X T (rIndexD X.K) fIndexD := by
  intro W σ g st H dx dy x y Q S rx ry h
  unfold fIndexD at h
  split at h
  · rename_i ys p e1 e2
    split at h
    · rename_i ps e3
      split at h
      · rename_i j e4
        obtain ⟨a, ws, rfl, h1, h2, h3⟩ := S.litems rx e1
        obtain ⟨q1, q2, q3⟩ := toPy_dp S 60 ry e2
        obtain ⟨k1, k2, k3⟩ := toPys_dp S 59 h3 e3
        obtain ⟨k, z, rfl, f1, f2, f3⟩ := firstIx_spec e4
        exact ⟨a, y, p, ps, k, z, rfl, rfl, .lst (SqL.of h1) k1, q1, shaped_of (p := .list ps) k2 (by show PyData.depthAll ps + 1 ≤ 64; omega), shaped_of q2 (by omega), f1, f2, f3, by
          rw [Nat.zero_add] at h
          exact EPost.val S (fun _ => .int _) h⟩
      · exact h.elim
    · exact h.elim
  · exact h.elim
variable {fo : SE} {o : Expr} {apos cpos : Pos}
theorem pd_countB (ho : PE X o (tD (zX X T) W fo)) (he : PE X e (tD (zX X T) W fe)) (hst : starEach [e] X.env = (false, eval e X.env) :: starEach [] X.env := by rfl)
    (hbase : attributeBase o "count" X.env (eval o X.env) = eval o X.env := by rfl)
    (hfew : ((backTo cpos (starEach [e] X.env)).all (fun x => !x.1) && (backToKw cpos (keywordEach [] X.env)).all (fun x => x.1.isSome)
      && decide ([e].length + ([] : List Keyword).length + (if ([] : List Keyword).isEmpty then 0 else 1) < 30)) = true := by rfl)
    (hline : (apos.endLine == cpos.line) = true := by rfl) (hplain : (backTo cpos (starEach [] X.env)).any (·.1) = false := by rfl) :
    PE X (.Call (.Attribute o "count" apos) [e] [] cpos) (tD (zX X T) W (sM fCountB fo fe)) :=
  PE.wk (pe_bm PySem.F.plainAttrs_list PySem.F.slot_list_count PySem.F.type_list_count mt_lcountB ho (pa_consD he pa_nilD hst) hbase hfew hline hst hplain) (wkM does_countB)
theorem pd_index (hu : X.A.units + 65 < cLine) (ho : PE X o (tD (zX X T) W fo)) (he : PE X e (tD (zX X T) W fe)) (hst : starEach [e] X.env = (false, eval e X.env) :: starEach [] X.env := by rfl)
    (hbase : attributeBase o "index" X.env (eval o X.env) = eval o X.env := by rfl)
    (hfew : ((backTo cpos (starEach [e] X.env)).all (fun x => !x.1) && (backToKw cpos (keywordEach [] X.env)).all (fun x => x.1.isSome)
      && decide ([e].length + ([] : List Keyword).length + (if ([] : List Keyword).isEmpty then 0 else 1) < 30)) = true := by rfl)
    (hline : (apos.endLine == cpos.line) = true := by rfl) (hplain : (backTo cpos (starEach [] X.env)).any (·.1) = false := by rfl) :
    PE X (.Call (.Attribute o "index" apos) [e] [] cpos) (tD (zX X T) W (sM fIndexD fo fe)) :=
  PE.wk (pe_bm PySem.F.plainAttrs_list PySem.F.slot_list_index PySem.F.type_list_index (mt_indexD hu) ho (pa_consD he pa_nilD hst) hbase hfew hline hst hplain) (wkM does_index)
end
/-! ### isinstance of what was caught -/
/-- what slot i holds in the suite: the exception at a, its dict -/
def excD (a : Addr) (dx : Option Addr) (fs : List (Str × D)) : D := match dx with
  | none => .raw (.ref a)
  | some dd => .xc a dd (fs.map (·.1)) (fs.map (·.2))
/-- isinstance(e, C): slot i holds the exception, at a -/
def sIsE (i : Nat) (a : Addr) (dx : Option Addr) (b : Bool) : SE := fun ρ st => match ρ[i]? with
  | some (some (.raw (.ref a'))) => if a' = a ∧ dx = none then .ok (.bl b) st else .bad
  | some (some (.xc a' dd _ _)) => if a' = a ∧ dx = some dd then .ok (.bl b) st else .bad
  | _ => .bad
/-! the class of an own exception, asked for through its instance (with a dict or without) -/
section
open PySem.W PySem.Calls
variable {prog : Program} {w : World} {A : Around} {E : Value → Shared → Prop} {s : Shared} {K : Frag} {x D : Addr} {ox : Obj} {od : Option Obj}
theorem cls_exc {Q : Option Value → Shared → Prop} (C : ExcC K D) (X : K.In s.heap) (I : InstAt s.heap x ox D od) (h : Q (some (.ref D)) { s with toks := s.toks + 1 }) :
    wpAny (model prog w) A (getAttr? (.ref x) "__class__") Q E s := by
  have fo : findObj K D od "__class__" = some (.bind (.builtin "getset_descriptor.__get__") (.builtin "object.__class__")) := by
    obtain ⟨cd, hc, _⟩ := any_some C.hd
    unfold findObj
    rw [hc, Option.bind_some, C.ha, Option.bind_some]
    simp [C.hn, C.ht]
  obtain ⟨hp, g, d, t, os⟩ := s
  have l0 := I.type (M := model prog w)
  have l1 := looks_findIn (M := model prog w) X C.hg
  have l2 := looks_findIn (M := model prog w) X C.hk
  have l3 := looks_find (M := model prog w) X I fo
  have su : Looks (model prog w) hp (isInstance (.ref x) (.type "BaseException")) true := l0.andThen (looks_subIn X C.hs)
  have n2 : (Value.builtin "BaseException.__getattribute__" == Value.builtin "object.__getattribute__") = false := by decide +kernel
  have n1 : (onTheHeap (Value.ref D) && Value.builtin "BaseException.__getattribute__" == Value.builtin "object.__getattribute__") = false := by rw [n2]; rfl
  have n0 : (false && onTheHeap (Value.builtin "BaseException.__getattribute__")) = false := rfl
  unfold getAttr? getAttrBy? getAttrBy
  refine wpAny_bind (wpAny_mkText (wpAny_bind (wpAny_attempt (wpAny_holding (wpAny_bind (l0.at (wpAny_bind (l1.at ?_))))))))
  show wpAny _ _ (if (onTheHeap (Value.ref D) && Value.builtin "BaseException.__getattribute__" == Value.builtin "object.__getattribute__") = true then _ else _) _ _ _
  rw [n1, if_neg Bool.false_ne_true]
  unfold getAttrByItsOwn hookBefore
  refine wpAny_bind ?_
  rw [if_pos (show onTheHeap (Value.ref D) = true from rfl)]
  refine l2.at (wpAny_bind (wpAny_attempt (wpAny_holding ?_)))
  unfold callGetattribute
  rw [n0, if_neg Bool.false_ne_true]
  unfold boundAndCalled
  rw [PySem.F.excAttr_ValueError.ga.bind (.ref x)]
  refine wpAny_bind (wpAny_pure ?_)
  show wpAny _ _ (call (.builtin "BaseException.__getattribute__") [.ref x, .str "__class__" t]) _ _ _
  refine wpAny_call (codeAny_call_builtin PySem.F.excAttr_ValueError.ga.plain PySem.F.entry_bexc_ga ?_)
  refine @check_slot (model prog w) _ _ ⟨hp, g, d, t + 1, os⟩ "BaseException.__getattribute__" "BaseException" "__getattribute__" (.ref x) [.str "__class__" t] [] _ (by decide +kernel) (by decide +kernel) su (PySem.F.args_bexc_ga (.ref x) (.str "__class__" t)) ?_
  unfold Builtin.«object.__getattribute__»
  refine wpAny_bind (wpAny_of_eq (a := ((Value.ref x : Value), [Value.str "__class__" t])) (by first | rfl | (simp only [slotArgs]; rfl)) ?_)
  refine wpAny_bind (wpAny_pure (wpAny_bind (l0.at (wpAny_bind (l3.at ?_)))))
  show wpAny _ _ (holding [Value.builtin "object.__class__"] (call (.builtin "getset_descriptor.__get__") [.builtin "object.__class__", .ref x, .ref D]) >>= ret) _ _ _
  refine wpAny_bind (wpAny_holding (wpAny_call (class_get (s := ⟨hp, g, d, t + 1, os⟩) (ox := ox) (od := od) X I C.hm (wpAny_pure ?_))))
  show wpAny _ _ (handedOut (.ref D)) _ _ _
  rw [handedOut_of (v := .ref D) rfl]
  first
    | exact wpAny_pure (wpAny_pure h)
    | exact wpAny_pure h
    | exact wpAny_pure (wpAny_bind (wpAny_pure (wpAny_pure h)))
theorem kit_exc (C : ExcC K D) : KitX K (.ref x) (.ref D) (fun h => InstAt h x ox D od) where
  ty := fun _ _ _ I => I.type
  it := fun _ _ X _ => by
    obtain ⟨cd, hc, _⟩ := any_some C.hd
    unfold clsIn at hc
    split at hc
    · rename_i ho
      intro A' Q' E' s' k q
      unfold isType loadHead
      exact wpAny_bind (wpAny_loadPart (k _ _ (X _ _ ho)) (wpAny_pure q))
    · cases hc
  ne := fun h tp dd its n sl X htp => by
    obtain ⟨cd, hc, _⟩ := any_some C.hd
    refine Bool.eq_false_iff.mpr fun q => ?_
    cases Value.ref.inj (beq_iff_eq.mp q)
    unfold clsIn at hc
    split at hc
    · rename_i ho
      cases (X _ _ ho).symm.trans htp
    · cases hc
  ca := fun X I k => cls_exc C X I k
end
/-- isinstance(e, c), e the exception that the suite holds, its dict told -/
def rIsED (K : PySem.W.Frag) (D a : Addr) (dx : Option Addr) : List V → Hp → VK → Prop := fun xs H Q => ∃ (c : V) (cv : Value) (b : Bool), xs = [.ref a, c] ∧ (∀ u, RelV c u → u = cv) ∧ PySem.W.kitOne K (.ref D) cv = some b ∧ (∀ dd, dx = some dd → ∃ fs, H dd = some (.xd fs)) ∧ Q (.bl b) H
theorem call_isED {X : Cx} {a D : Addr} {dx : Option Addr} {oe : Obj} {pn : List (Addr × Obj)} (C : ExcC X.K D) (hz : Zc (.ref D) dx oe) (hf : ∃ vs, oe.data = .fields vs) : CallR (X.suite a ((a, oe) :: pn)) (.builtin "isinstance") (rIsED X.K D a dx) := by
  intro pins s σ H xs us Q I r h
  obtain ⟨c, cv, b, rfl, hcv, e, hdx, q⟩ := h
  obtain ⟨u1, r⟩ : ∃ u1, us = [.ref a, u1] ∧ RelV c u1 := by
    cases r with
    | cons rx rr => cases rr with
      | cons rt rr => cases rr; cases rx; exact ⟨_, rfl, rt⟩
  obtain ⟨rfl, rc⟩ := r
  cases hcv _ rc
  obtain ⟨hget, _⟩ := I.pin (a, oe) (List.mem_append.mpr (.inl List.mem_cons_self))
  obtain ⟨vs, hv⟩ := hf
  obtain ⟨od, J⟩ : ∃ od, PySem.W.InstAt s.heap a oe D od := by
    obtain ⟨oc, ox, oda, osl⟩ := oe
    obtain ⟨h1, h2⟩ := hz
    dsimp only at h1 h2 hv
    subst h1 h2 hv
    cases ox with
    | none => exact ⟨none, hget, rfl, rfl, trivial⟩
    | some dd =>
      obtain ⟨fs, ea⟩ := hdx dd rfl
      have hx : ObjOk X.prog X.w H s.heap dd (.xd fs) := I.hok dd _ ea
      obtain ⟨mA, hns, hr⟩ := hx
      obtain ⟨o, ho, _⟩ := lookIn_ns hns
      exact ⟨some o, hget, rfl, rfl, ho⟩
  exact PySem.W.kia_one (kit_exc C) I.kIn J e (fun z => nomatch z) fun tk => ⟨.bl b, H, I.kept (t' := tk) fun _ _ z => z, rfl, q⟩
section
variable {X : Cx} {T : List (Addr × Str)} {W : WX} {e : Expr} {fe : SE}
theorem pd_isE {Y : Cx} {a C D : Addr} {dx : Option Addr} {oe : Obj} {pn : List (Addr × Obj)} {i : Nat} {n x : Str} {b : Bool} {p p1 p2 pos : Pos} (ec : ExcC Y.K D) (hz : Zc (.ref D) dx oe) (hf : ∃ vs, oe.data = .fields vs) (hb : PySem.W.kitOne Y.K (.ref D) (.ref C) = some b)
    (hN : Y.N[i]? = some x) (hv : Vis Y.env.scope x) (hg : Gl Y "isinstance") (hm : Y.mg "isinstance" = none) (hgC : Gl Y n) (hmC : Y.mg n = some (.ref C))
    (hd : (x == ("__debug__" : Str)) = false := by decide) (hcd : (x == ("__classdict__" : Str)) = false := by decide) (hnd : (n == ("__debug__" : Str)) = false := by decide)
    (he : starEach [.Name x p1, .Name n p2] (Y.suite a ((a, oe) :: pn)).env = (false, eval (.Name x p1) (Y.suite a ((a, oe) :: pn)).env) :: starEach [.Name n p2] (Y.suite a ((a, oe) :: pn)).env := by rfl) (he2 : starEach [.Name n p2] (Y.suite a ((a, oe) :: pn)).env = (false, eval (.Name n p2) (Y.suite a ((a, oe) :: pn)).env) :: starEach [] (Y.suite a ((a, oe) :: pn)).env := by rfl)
    (hpl : (backTo pos (starEach [.Name n p2] (Y.suite a ((a, oe) :: pn)).env)).any (·.1) = false := by rfl) :
    PE (Y.suite a ((a, oe) :: pn)) (.Call (.Name "isinstance" p) [.Name x p1, .Name n p2] [] pos) (tD (zX (Y.suite a ((a, oe) :: pn)) T) W (sIsE i a dx b)) := by
  have h1 : PE (Y.suite a ((a, oe) :: pn)) (.Name n p2) (tC (V.ref C)) := pe_glob hgC hmC rfl hnd
  have h0 : PE (Y.suite a ((a, oe) :: pn)) (.Name x p1) _ := pe_var (i := i) hN hv hd hcd
  refine PE.wk (pe_callB (call_isED ec hz hf) hg hm (by rfl) (pa_cons h0 (pa_cons h1 pa_nil he2) he) (by decide) (by decide) he hpl) fun σ H Q ⟨g, ρ, st, S, E, q⟩ => ?_
  unfold sIsE at q
  split at q
  · rename_i a' e
    split at q
    · rename_i ea
      obtain ⟨rfl, rfl⟩ := ea
      obtain ⟨v, hv, rv⟩ := E.2 i _ e
      cases rv
      exact ⟨_, hv, .ref C, .ref C, b, rfl, fun u hu => hu, hb, (fun dd z => by cases z), EPost.val S (fun _ => .bl b) q⟩
    · exact q.elim
  · rename_i a' dd ks xs e
    split at q
    · rename_i ea
      obtain ⟨rfl, rfl⟩ := ea
      obtain ⟨v, hv, rv⟩ := E.2 i _ e
      cases rv with
      | xc eb _ => exact ⟨_, hv, .ref C, .ref C, b, rfl, fun u hu => hu, hb, (fun d2 z => by cases z; exact ⟨_, S.sub _ _ eb⟩), EPost.val S (fun _ => .bl b) q⟩
    · exact q.elim
  · exact q.elim
/-- error.f, in the suite -/
def sXf (i : Nat) (a : Addr) (dx : Option Addr) (f : Str) : SE := fun ρ st => match ρ[i]? with
  | some (some (.xc a' dd ks xs)) => if a' = a ∧ dx = some dd then (match (ks.zip xs).lookup f with | some d => .ok d st | none => .bad) else .bad
  | _ => .bad
theorem lookup_reps {K : PySem.W.Frag} {g : G} {f : Str} {d : D} : ∀ {ks : List Str} {xs : List D} {vs : List V}, Reps K g xs vs → (ks.zip xs).lookup f = some d → ∃ v, (ks.zip vs).lookup f = some v ∧ Rep K g d v
  | [], _, _, _, e => by simp at e
  | _ :: _, _, _, .nil, e => by simp at e
  | k :: ks, _, _, .cons (v := v) a t, e => by
    rw [List.zip_cons_cons, List.lookup_cons] at e
    rw [List.zip_cons_cons, List.lookup_cons]
    cases h : f == k with
    | true => rw [h] at e; cases e; exact ⟨v, rfl, a⟩
    | false => rw [h] at e; exact lookup_reps t e
theorem pd_xf {Y : Cx} {a D : Addr} {dx : Option Addr} {oe : Obj} {pn : List (Addr × Obj)} {i : Nat} {n x : Str} {p1 pos : Pos} (ec : ExcC Y.K D) (hno : PySem.W.findIn Y.K (.ref D) n = some none) (hz : Zc (.ref D) dx oe) (hf : ∃ vs, oe.data = .fields vs)
    (hN : Y.N[i]? = some x) (hv : Vis Y.env.scope x) (hd : (x == ("__debug__" : Str)) = false := by decide) (hcd : (x == ("__classdict__" : Str)) = false := by decide)
    (hb : attributeBase (.Name x p1) n Y.env (eval (.Name x p1) Y.env) = eval (.Name x p1) Y.env := by rfl) :
    PE (Y.suite a ((a, oe) :: pn)) (.Attribute (.Name x p1) n pos) (tD (zX (Y.suite a ((a, oe) :: pn)) T) W (sXf i a dx n)) := by
  have h0 : PE (Y.suite a ((a, oe) :: pn)) (.Name x p1) _ := pe_var (i := i) hN hv hd hcd
  refine PE.wk (pe_xf ⟨ec.hg, ec.hk, ec.hs, ec.hd⟩ hno hz hf h0 hb) fun σ H Q ⟨g, ρ, st, S, E, q⟩ => ?_
  unfold sXf at q
  split at q
  · rename_i a' dd ks xs e
    split at q
    · rename_i ea
      obtain ⟨rfl, rfl⟩ := ea
      split at q
      · rename_i d hl
        obtain ⟨v, hv, rv⟩ := E.2 i _ e
        cases rv with
        | xc eb er =>
          obtain ⟨y, hy, ry⟩ := lookup_reps er hl
          exact ⟨_, hv, rfl, rfl, dd, _, y, rfl, S.sub _ _ eb, hy, q g H y (Le.refl g H) S ry⟩
      · exact q.elim
    · exact q.elim
  · exact q.elim
end
/-! ### try: .. except x as n: .. -/
def cleanS (i : Nat) : Option (Fl × Sto) → Option (Fl × Sto)
  | some (.nx ρ, st) => some (.nx (ρ.set i none), st)
  | some (.bk ρ, st) => some (.bk (ρ.set i none), st)
  | some (.ct ρ, st) => some (.ct (ρ.set i none), st)
  | some (.rt d, st) => some (.rt d, st)
  | _ => none
/-- caught n: does the clause take an exception of the class n; res n: what its suite does, slot i empty before and behind -/
def qTryAs (i m : Nat) (caught : Str → Option Bool) (qb : SS) (res : Str → List (Str × D) → SS) : SS := fun ρ st => match qb ρ st with
  | some (.ex n fs ρ', st') => (match caught n with
    | some true => if decide (ρ'.length = m) then res n fs ρ' st' else none
    | some false => some (.ex n fs ρ', st')
    | none => none)
  | r => r
theorem EnvR.unset {K : PySem.W.Frag} {g : G} {σ : L2.St} {ρ : Ev} (E : EnvR K g σ ρ) (i : Nat) : EnvR K g (σ.set i none) (ρ.set i none) := by
  refine ⟨by rw [List.length_set, List.length_set]; exact E.1, fun j d h => ?_⟩
  by_cases e : i = j
  · subst e
    rw [List.getElem?_set] at h
    split at h
    · split at h <;> cases h
    · exact absurd rfl (by assumption)
  · rw [List.getElem?_set_ne e] at h ⊢
    exact E.2 j d h
theorem spost_clean {z : Z} {W : WX} {D : Ends} {g : G} {H : Hp} {i : Nat} {r : Option (Fl × Sto)} (h : SPost z W D g H (cleanS i r)) :
    SPost z W { nx := fun σ' H' => D.nx (σ'.set i none) H', rt := D.rt, bk := fun σ' H' => D.bk (σ'.set i none) H', ct := fun σ' H' => D.ct (σ'.set i none) H' } g H r := by
  cases r with
  | none => exact h
  | some p =>
    obtain ⟨fl, st⟩ := p
    cases fl with
    | nx ρ => exact fun g' H' l S σ E => h g' H' l S _ (E.unset i)
    | bk ρ => exact fun g' H' l S σ E => h g' H' l S _ (E.unset i)
    | ct ρ => exact fun g' H' l S σ E => h g' H' l S _ (E.unset i)
    | rt d => exact h
    | ex n fs ρ => exact False.elim h
/-- a reading that knows R of where it begins -/
def tDSR (z : Z) (W : WX) (R : G → L2.St → Hp → Prop) (f : SS) : TS := fun D σ H => ∃ g ρ st, R g σ H ∧ Sim z.K z.T g st H ∧ EnvR z.K g σ ρ ∧ SPost z W D g H (f ρ st)
section
variable {X : Cx} {T : List (Addr × Str)} {W : WX} {x nm : Str} {CF : Addr} {i : Nat} {body suite : List Stmt} {b₀ : Stmt} {np pos pos' : Pos} {qb : SS} {caught : Str → Option Bool} {res : Str → List (Str × D) → SS} {R : G → L2.St → Hp → Prop} {m : Nat}
theorem ps_tryAsR (hs : X.stack = X.env :: X.outer) (hf : X.env.frame = some X.env.locals) (hN : X.N.Nodup) (hi : X.N[i]? = some nm) (hln : X.env.kindOf nm = some .local) (hc : Names X x (.ref CF)) (tk : Takes X W)
    (hct : ∀ n b, caught n = some b → PySem.W.exmOne X.K (clsV (zX X T) n) (.ref CF) = some b)
    (hb : ∀ (W' : WX) (pn : List (Addr × Obj)) (xe : Value → Shared → Prop), Takes (X.tr pn xe) W' → PassesOwn (model X.prog X.w) X.A X.env xe → PSs (X.tr pn xe) body (tDSR (zX X T) W' R qb))
    (h : Str → Addr → Option Addr → SS)
    (hsu : ∀ (n : Str) (a : Addr) (d : Option Addr) (oe : Obj) (pn : List (Addr × Obj)), caught n = some true → Zc (clsV (zX X T) n) d oe → (∃ vs, oe.data = .fields vs) → PSs (X.suite a ((a, oe) :: pn)) (b₀ :: suite) (tDS (zX X T) W (h n a d)))
    (hres : ∀ (n : Str) (fs : List (Str × D)) (a : Addr) (d : Option Addr) (ρ : Ev) (st : Sto), caught n = some true → (fs = [] ∧ d = none ∨ fs ≠ [] ∧ d ≠ none) → ρ.length = m → cleanS i (h n a d (ρ.set i (some (excD a d fs))) st) = res n fs ρ st) :
    PS X (.Try body [.ExceptHandler (some (.Name x np)) (some nm) (b₀ :: suite) pos'] [] [] pos) (tDSR (zX X T) W R (qTryAs i m caught qb res)) :=
  PS.wk (ps_try_as hs hf hN hi hln hc tk hb (ts := fun a cls d D σ H => ∃ n, caught n = some true ∧ cls = clsV (zX X T) n ∧ tDS (zX X T) W (h n a d) D σ H) fun a oe cls d pn hz hd =>
      ⟨fun pins s σ H D I ⟨n, hn, e1, q⟩ => (hsu n a d oe pn hn (by rw [← e1]; exact hz) hd).run pins s σ H D I q⟩) fun D σ H ⟨g, ρ, st, hR, S, E, q⟩ => by
    refine ⟨g, ρ, st, hR, S, E, ?_⟩
    unfold qTryAs at q
    cases e : qb ρ st with
    | none => rw [e] at q; exact q.elim
    | some p =>
      obtain ⟨fl, st'⟩ := p
      rw [e] at q
      cases fl with
      | nx ρ' => exact q
      | rt d => exact q
      | bk ρ' => exact q
      | ct ρ' => exact q
      | ex n fs ρ' =>
        dsimp only at q
        intro g' H' l S' σ' dx E' xr
        cases ec : caught n with
        | none => rw [ec] at q; exact q.elim
        | some b =>
          rw [ec] at q
          refine ⟨b, hct n b ec, fun hb2 a na => ?_, fun hb2 => ?_⟩
          · subst hb2
            dsimp only at q
            split at q
            · rename_i hh
              have hdx : fs = [] ∧ dx = none ∨ fs ≠ [] ∧ dx ≠ none := by
                rcases xr with h | ⟨_, _, e, hne, _⟩
                · exact .inl h
                · exact .inr ⟨hne, by rw [e]; simp⟩
              have rx : Rep X.K g' (excD a dx fs) (.ref a) := by
                rcases xr with ⟨_, e⟩ | ⟨dd, vs, e, _, h3, h4⟩
                · subst e; exact .raw _
                · subst e; exact .xc h3 h4
              refine ⟨n, ec, rfl, g', ρ'.set i (some (excD a dx fs)), st', S', E'.set i rx, spost_clean ?_⟩
              rw [hres n fs a dx ρ' st' ec hdx (of_decide_eq_true hh)]
              exact q.mono l
            · exact q.elim
          · subst hb2
            exact q g' H' l S' σ' dx E' xr
end
end PD
/-! PDLam: a lambda handed to a def that calls it under try. -/
namespace PD
open PySem PySem.Spec PyProof.Rows L2
/-- what a lambda's reading computes, from g0, H0 on -/
def Acts (z : Z) (g0 : G) (O : Sto → Out D) (tl : XK → Hp → VK → Prop) : Prop :=
  ∀ (E : XK) (g' : G) (H' : Hp) (st' : Sto) (Q' : VK), Ge g0 g' → Sim z.K z.T g' st' H' → Sat (O st') (VPost z Q' g' H') (fun n fs st'' => ∀ g'' H'' dx, Le g' g'' H' H'' → Sim z.K z.T g'' st'' H'' → XRep z g'' H'' fs dx → E (clsV z n) dx H'') → tl E H' Q'
/-- the def makes Fw of what the lambda computes -/
def TTw (z : Z) (Fw : (Sto → Out D) → Sto → Out D) : (XK → Hp → VK → Prop) → Hp → VK → Prop := fun tl H Q =>
  ∃ g st O, Sim z.K z.T g st H ∧ Acts z g O tl ∧ Sat (Fw O st) (VPost z Q g H) (fun _ _ _ => False)
/-- x(lambda: body) -/
def sLam (Fw : (Sto → Out D) → Sto → Out D) (fb : SE) : SE := fun ρ st => match Fw (fun st => fb ρ st) st with
  | .ok d st => .ok d st
  | _ => .bad
theorem simN {z : Z} {g : G} {st : Sto} {H H1 : Hp} (S : Sim z.K z.T g st H) (e : LamX.ExtN H H1) (t : LamX.Tabs z.T H1) : Sim z.K z.T g st H1 ∧ Le g g H H1 := by
  refine ⟨⟨fun a o h => e a o (S.sub a o h) (S.tb a o h), S.len, S.nd, fun a ha => ?_, fun l a mo h1 h2 => ?_, t, S.tb⟩, Ge.refl g, fun a o h1 h2 h3 h4 => ⟨e a o h1 h4, h2, h3⟩⟩
  · obtain ⟨o, h1, h2⟩ := S.there a ha
    exact ⟨o, e a o h1 h2, h2⟩
  · have q := S.obj l a mo h1 h2
    cases mo with
    | lst xs => obtain ⟨vs, k1, k2, k3, k4⟩ := q; exact ⟨vs, k1, e _ _ k2 (fun _ => by simp), k3, k4⟩
    | dk ks xs => obtain ⟨vs, k1, k2, k3, k4⟩ := q; exact ⟨vs, k1, e _ _ k2 (fun _ => by simp), k3, k4⟩
    | gone => trivial
theorem wk_lam {X : Cx} {T : List (Addr × Str)} {W : WX} {Fw : (Sto → Out D) → Sto → Out D} {fb : SE} {σ : L2.St} {H : Hp} {Q : VK} (h : tD (zX X T) W (sLam Fw fb) σ H Q) : LamX.tLam T (TTw (zX X T) Fw) (fun E => tD (zX X T) (fun cls d _ H => E cls d H) fb) σ H Q := by
  obtain ⟨g, ρ, st, S, E, q⟩ := h
  refine ⟨S.tabs, fun H1 eN T1 => ?_⟩
  obtain ⟨S1, L1⟩ := simN S eN T1
  refine ⟨g, st, fun st => fb ρ st, S1, fun E' g' H' st' Q' ge S' sat => ⟨g', ρ, st', S', E.mono ge, Sat.mono sat (fun _ _ q => q) fun n fs st'' q => fun g'' H'' dx l S'' x => q g'' H'' dx l S'' x⟩, ?_⟩
  unfold sLam at q
  cases e : Fw (fun st => fb ρ st) st with
  | ok d st2 =>
    rw [e] at q
    exact fun g' H' v l S' r => q g' H' v (L1.trans l) S' r
  | exc _ _ _ => rw [e] at q; exact q.elim
  | bad => rw [e] at q; exact q.elim

/-! ### the def that calls it -/
def noneEv (n : Nat) : Ev := List.replicate n none
/-- call(): its exception leaves nothing known of the names -/
def qExprW (O : Sto → Out D) : SS := fun ρ st => match O st with
  | .ok _ st' => some (.nx ρ, st')
  | .exc n fs st' => some (.ex n fs (noneEv ρ.length), st')
  | .bad => none
structure RW (g0 : G) (f c' : Addr) (q : Str) (n : Nat) (g : G) (σ : L2.St) (H : Hp) : Prop where
  ge : Ge g0 g
  at0 : σ[0]? = some (some (.ref f))
  co : H c' = some (LamX.CodeO c' q)
  len : σ.length = n
theorem takes_len {X : Cx} {W : WX} (t : Takes X W) : Takes X (fun c d σ H => σ.length = X.N.length → W c d σ H) := fun u s' ⟨a, B, sI, pins, σ, H, cls, d, e, I, nb, up, sky, na, os, ag, w⟩ =>
  t u s' ⟨a, B, sI, pins, σ, H, cls, d, e, I, nb, up, sky, na, os, ag, w I.len⟩
section
variable {Y : Cx} {T : List (Addr × Str)} {g0 : G} {f c' : Addr} {q a : Str} {O : Sto → Out D} {tl : XK → Hp → VK → Prop}
theorem ps_actR {W' : WX} {p1 p2 p3 : Pos} (acts : Acts (zX Y T) g0 O tl) (tk : Takes Y W')
    (hact : ∀ (W : WX) (E : XK), Takes Y W → (∀ cls d σ' H', E cls d H' → W cls d σ' H') → PE Y (.Call (.Name a p1) [] [] p2) (fun σZ HZ Q => σZ[0]? = some (some (.ref f)) ∧ HZ c' = some (LamX.CodeO c' q) ∧ tl E HZ Q))
    (hs : swapsWith (.Call (.Name a p1) [] [] p2) none p3.line Y.env = pure false := by rfl) :
    PS Y (.Expr (.Call (.Name a p1) [] [] p2) p3) (tDSR (zX Y T) W' (RW g0 f c' q Y.N.length) (qExprW O)) := by
  have hp := hact (fun c d σ H => σ.length = Y.N.length → W' c d σ H) (fun cls d H' => ∀ σ', σ'.length = Y.N.length → W' cls d σ' H') (takes_len tk) (fun cls d σ' H' h hl => h σ' hl)
  refine PS.wk (ps_expr hp hs) fun D σ H ⟨g, ρ, st, r, S, E, qq⟩ => ?_
  refine ⟨r.at0, r.co, acts _ g H st _ r.ge S ?_⟩
  unfold qExprW at qq
  cases e : O st with
  | ok d st' =>
    rw [e] at qq
    exact fun g' H' v l S' rv => qq g' H' l S' σ (E.mono l.ge)
  | exc n fs st' =>
    rw [e] at qq
    refine fun g'' H'' dx l S'' xr σ' hl => qq g'' H'' l S'' σ' dx ⟨?_, fun i d h => ?_⟩ xr
    · rw [hl, ← r.len, E.len]
      simp [noneEv]
    · unfold noneEv at h
      rw [List.getElem?_replicate] at h
      split at h <;> cases h
  | bad => rw [e] at qq; exact qq.elim
theorem qsR_cons {W : WX} {R : G → L2.St → Hp → Prop} {sa : Stmt} {ss : List Stmt} {qa qb : SS} (h1 : PS Y sa (tDSR (zX Y T) W R qa)) (h2 : PSs Y ss (tDS (zX Y T) W qb)) : PSs Y (sa :: ss) (tDSR (zX Y T) W R (qSeq qa qb)) :=
  PSs.wk (pss_cons h1 h2) fun D σ H ⟨g, ρ, st, r, S, E, q⟩ => by
    refine ⟨g, ρ, st, r, S, E, ?_⟩
    unfold qSeq at q
    cases e : qa ρ st with
    | none => rw [e] at q; exact q.elim
    | some p =>
      obtain ⟨fl, st'⟩ := p
      rw [e] at q
      cases fl with
      | nx ρ' => exact fun g' H' l S' σ' E' => ⟨g', ρ', st', S', E', q.mono l⟩
      | rt d => exact q
      | bk ρ' => exact q
      | ct ρ' => exact q
      | ex n fs ρ' => exact q
theorem psR_set {W : WX} {n i : Nat} {x m : Str} {j : Nat} {pos pos' pe : Pos} {ss : List Stmt} {qb : SS} (hN : Y.N.Nodup) (hi : Y.N[i]? = some x) (hx : Loc Y.env.scope x) (h0 : i ≠ 0) (h2 : PSs Y ss (tDSR (zX Y T) W (RW g0 f c' q n) qb)) (hs : swapsWith (.Constant (.str m) j pe) (some (.Name x pos')) pos.line Y.env = pure false := by rfl) (hf : Y.fn x = true ∨ Y.env.scope.names.lookup x = some .local := by first | exact .inl rfl | exact .inr rfl | assumption) :
    PSs Y (.Assign [.Name x pos'] (.Constant (.str m) j pe) pos :: ss) (tDSR (zX Y T) W (RW g0 f c' q n) (qSeq (qSet i (sC (.str m))) qb)) :=
  PSs.wk (pss_cons (ps_set hN hi hx pe_str hs hf) h2) fun D σ H ⟨g, ρ, st, r, S, E, q⟩ =>
    ⟨g, ρ.set i (some (.str m)), st, ⟨r.ge, by rw [List.getElem?_set_ne h0]; exact r.at0, r.co, by rw [List.length_set]; exact r.len⟩, S, E.set i (.str m), q⟩
end

theorem none_env {K : PySem.W.Frag} {g : G} {σ : L2.St} {n : Nat} (h : σ.length = n) : EnvR K g σ (noneEv n) := ⟨by rw [h]; simp [noneEv], fun i d e => by
  unfold noneEv at e
  rw [List.getElem?_replicate] at e
  split at e <;> cases e⟩
theorem gives_of {X : Cx} {T : List (Addr × Str)} {Ng : List Str} {x a q : Str} {sg : Scope} {g : Addr} {cdg : Value} {bg : List Stmt} {bW : (Sto → Out D) → SS} (hN : 0 < Ng.length)
    (hw : ∀ (f c' : Addr) (s : Shared) (H : Hp) (g0 : G) (O : Sto → Out D) (tl : XK → Hp → VK → Prop), Acts (zX X T) g0 O tl →
      (∀ (W : WX) (pn : List (Addr × Obj)) (xe : Value → Shared → Prop) (E : XK) (p1 p2 : Pos), Takes ((cxOf C8.CX0 X.prog X.w X.K X.mg X.base Ng x sg g cdg X.A X.stack s H C8.E0).tr pn xe) W → (∀ cls d σ' H', E cls d H' → W cls d σ' H') →
        PE ((cxOf C8.CX0 X.prog X.w X.K X.mg X.base Ng x sg g cdg X.A X.stack s H C8.E0).tr pn xe) (.Call (.Name a p1) [] [] p2) (fun σZ HZ Q => σZ[0]? = some (some (.ref f)) ∧ HZ c' = some (LamX.CodeO c' q) ∧ tl E HZ Q)) →
      PSs (cxOf C8.CX0 X.prog X.w X.K X.mg X.base Ng x sg g cdg X.A X.stack s H C8.E0).nox bg (tDSR (zX X T) W0 (RW g0 f c' q Ng.length) (bW O))) :
    LamX.GivesTo X Ng x sg g cdg bg a q (TTw (zX X T) fun O st => endRaw (bW O (noneEv Ng.length) st)) := by
  intro f c' s H Q tl act hc h
  obtain ⟨g0, st, O, S, acts, sat⟩ := h
  have hs : (L2.start Ng [V.ref f]).length = Ng.length := by
    unfold L2.start
    simp
    omega
  refine ⟨_, hw f c' s H g0 O tl acts act, g0, noneEv Ng.length, st, ⟨Ge.refl g0, by unfold L2.start; simp, hc, hs⟩, S, none_env hs, ?_⟩
  dsimp only at sat
  cases e : bW O (noneEv Ng.length) st with
  | none => rw [e] at sat; exact sat.elim
  | some p =>
    obtain ⟨fl, st'⟩ := p
    rw [e] at sat
    cases fl with
    | nx ρ => exact fun g' H' l S' σ E => sat g' H' .non l S' .non
    | rt d => exact fun g' H' l S' v r => sat g' H' v l S' r
    | bk ρ => exact sat.elim
    | ct ρ => exact sat.elim
    | ex n fs ρ => exact sat.elim
section
variable {X : Cx}
/-- x(lambda: body) -/
theorem pd_lam {T : List (Addr × Str)} {W : WX} {Fw : (Sto → Out D) → Sto → Out D} {fb : SE} {x a : Str} {g c P : Addr} {k : Nat} {pg : Arguments} {bg : List Stmt} {sg : Scope} {dV kV doc pm cdv ct oc : Value} {an od : Option Addr} {osl : Array (Option Value)} {Ng : List Str}
    {params : Arguments} {body : Expr} {scope : Scope} {p lpos pos : Pos} (hg : Gl X x) (hm : X.mg x = some (.ref g)) (hk : PySem.W.keepIn X.K (.ref g) = true)
    (lk : X.K.lookup g = some ⟨oc, od, .func (PySem.W.fnOf x x pg bg sg dV kV doc pm an cdv ct), osl⟩) (hcg : PySem.W.codeIn X.K cdv x = true) (hb : L2.Binds X.K (PySem.W.fnOf x x pg bg sg dV kV doc pm an cdv ct) [a] []) (Sg : FnScope Ng [a] sg) (hNg : Ng[0]? = some a) (hva : Vis sg a)
    (hG : LamX.GivesTo X Ng x sg g cdv bg a (X.env.qual ++ "<lambda>") (TTw (zX X T) Fw))
    (TB : LamX.TabB X.base X.mg c P) (hcode : X.env.code = .ref c) (hmT : (P, X.env.qual ++ "<lambda>") ∈ T) (hu : ∀ p ∈ T, p.1 = P → p.2 = X.env.qual ++ "<lambda>") (hr : Room (k + 2) X.A) (L : LamX.LamS X.env.scope scope) (hdef : defaultsOf params X.env = ([], []))
    (hbind : ∀ (q : Str) (cl : List (Str × Addr)) (pm cv ctv : Value), bindArgs (PySem.W.kla_fn "<lambda>" q params body scope cl pm cv ctv) ⟨[], []⟩ = pure [])
    (hbody : ∀ (A : Around) (outer : List Env) (s : Shared) (H : Hp) (E : XK) (f c' : Addr), Room k (A.deeper (LamX.lamEnv X scope s.heap.objs.size f c')) → PE (LamX.lamCx X A outer s H E scope f c') body (tD (zX X T) (fun cls d _ H => E cls d H) fb))
    (hdb : (x == ("__debug__" : Str)) = false := by decide) (hd : (a == ("__debug__" : Str)) = false := by decide) (hcd : (a == ("__classdict__" : Str)) = false := by decide) :
    PE X (.Call (.Name x p) [.Lambda params body scope lpos] [] pos) (tD (zX X T) W (sLam Fw fb)) :=
  PE.wk (LamX.pe_lamcall (t := fun E => tD (zX X T) (fun cls d _ H => E cls d H) fb) hg hm hk lk hcg hb Sg hNg hva hG TB hcode hmT hu hr L hdef hbind hbody hdb hd hcd) fun σ H Q h => wk_lam h
/-- the same, of a def at the top -/
theorem pd_lamF {T : List (Addr × Str)} {W : WX} {Fw : (Sto → Out D) → Sto → Out D} {fb : SE} {x a : Str} {g c P : Addr} {fd : FuncData} {k : Nat} {st : Stmt} {Ng : List Str} {params : Arguments} {body : Expr} {scope : Scope} {p lpos pos : Pos}
    (F : Fun X.K x x st g fd) (hb : L2.Binds X.K fd [a] []) (Sg : FnScope Ng [a] (defScope st)) (hm : X.mg x = some (.ref g))
    (hG : ∀ cdv, LamX.GivesTo X Ng x (defScope st) g cdv (defBody st) a (X.env.qual ++ "<lambda>") (TTw (zX X T) Fw)) (hg : Gl X x) (hNg : Ng[0]? = some a) (hva : Vis (defScope st) a)
    (TB : LamX.TabB X.base X.mg c P) (hcode : X.env.code = .ref c) (hmT : (P, X.env.qual ++ "<lambda>") ∈ T) (hu : ∀ p ∈ T, p.1 = P → p.2 = X.env.qual ++ "<lambda>") (hr : Room (k + 2) X.A) (L : LamX.LamS X.env.scope scope)
    (hbody : ∀ (A : Around) (outer : List Env) (s : Shared) (H : Hp) (E : XK) (f c' : Addr), Room k (A.deeper (LamX.lamEnv X scope s.heap.objs.size f c')) → PE (LamX.lamCx X A outer s H E scope f c') body (tD (zX X T) (fun cls d _ H => E cls d H) fb))
    (hdef : defaultsOf params X.env = ([], []) := by rfl) (hbind : ∀ (q : Str) (cl : List (Str × Addr)) (pm cv ctv : Value), bindArgs (PySem.W.kla_fn "<lambda>" q params body scope cl pm cv ctv) ⟨[], []⟩ = pure [] := by intros; rfl)
    (hdb : (x == ("__debug__" : Str)) = false := by decide) (hd : (a == ("__debug__" : Str)) = false := by decide) (hcd : (a == ("__classdict__" : Str)) = false := by decide) :
    PE X (.Call (.Name x p) [.Lambda params body scope lpos] [] pos) (tD (zX X T) W (sLam Fw fb)) := by
  obtain ⟨oc, od, kV, doc, pm, an, cdv, ct, osl, rfl, lk, hcg⟩ := F.ex
  exact pd_lam hg hm F.kp lk hcg hb Sg hNg hva (hG cdv) TB hcode hmT hu hr L hdef hbind hbody hdb hd hcd
end

/-! ### defs, their code object told -/
section
variable {P : Program} {w : World} {K : PySem.W.Frag} {mg : Str → Option Value} {base : Heap} {T : List (Addr × Str)} {qb : SS} {x : Str}
theorem def_rawC {qual : Str} {st : Stmt} {f : Addr} {fd : FuncData} {N ps : List Str} {k : Nat} (F : Fun K x qual st f fd) (S : FnScope N ps (defScope st))
    (hb : ∀ (cdv : Value), fd.code = cdv → ∀ (A : Around) (outer : List Env) (s : Shared) (H : Hp) (E : XK), Room k (A.deeper (envOfC qual (defScope st) s.heap.objs.size f cdv)) →
      PSs (cxOf (L2.CX P w) P w K mg base N qual (defScope st) f cdv A outer s H E) (defBody st) (tDS ⟨K, T, mg⟩ (fun cls d _ H => E cls d H) qb)) :
    FnOk P w K mg base (L2.CX P w) (k + 1) f fd ps (spD ⟨K, T, mg⟩ ps.length (defRaw N.length qb)) := by
  obtain ⟨oc, od, kV, doc, pm, an, cdv, ct, osl, rfl, lk, hcd⟩ := F.ex
  refine fn_of lk hcd S (fun vs H Q E h => h.1) fun A outer s H vs Q E hr h => ⟨_, hb cdv rfl A outer s H E hr, ?_⟩
  obtain ⟨hl, g, ds, st0, S0, R, q⟩ := h
  refine ⟨g, startD N.length ds, st0, S0, start_env R, ?_⟩
  unfold defRaw at q
  cases hr2 : qb (startD N.length ds) st0 with
  | none => rw [hr2] at q; exact q.elim
  | some r =>
    obtain ⟨fl, st'⟩ := r
    rw [hr2] at q
    cases fl with
    | rt d => exact fun g' H' L S' v r => q g' H' v L S' r
    | nx ρ => exact fun g' H' L S' σ E => q g' H' .non L S' .non
    | ex n fs ρ => exact fun g' H' L S' σ dx E x => q g' H' dx L S' x
    | _ => exact q.elim
theorem def_finC {qual : Str} {st : Stmt} {f : Addr} {fd : FuncData} {N ps : List Str} {k : Nat} (F : Fun K x qual st f fd) (S : FnScope N ps (defScope st))
    (hb : ∀ (cdv : Value), fd.code = cdv → ∀ (A : Around) (outer : List Env) (s : Shared) (H : Hp) (E : XK), Room k (A.deeper (envOfC qual (defScope st) s.heap.objs.size f cdv)) →
      PSs (cxOf (L2.CX P w) P w K mg base N qual (defScope st) f cdv A outer s H E) (defBody st) (tDS ⟨K, T, mg⟩ (fun cls d _ H => E cls d H) qb)) :
    FnOk P w K mg base (L2.CX P w) (k + 1) f fd ps (spD ⟨K, T, mg⟩ ps.length (defFin N.length qb)) := fin_of_raw (def_rawC F S hb)
end
theorem hu_suite {X : Cx} {N : List Str} {x : Str} {sc : Scope} {g : Addr} {cdg : Value} {s : Shared} {H : Hp} {a : Addr} {pn : List (Addr × Obj)} (hu : X.A.units + 100 < cLine) : ((cxOf C8.CX0 X.prog X.w X.K X.mg X.base N x sc g cdg X.A X.stack s H C8.E0).nox.suite a pn).A.units + 65 < cLine := by
  show X.A.units + 3 + 65 < cLine
  omega
end PD
/-! PDExI: raise C(e), C an own exception class with `def __init__(self, f): self.f = f`. -/
namespace PD
open PySem PySem.Spec PyProof.Rows L2
/-- what __init__ does: the one field is laid -/
def spI (K : PySem.W.Frag) (C : Addr) (f : Str) : Sp := fun vs H Q _ => ∃ (a : Addr) (y : V), vs = [.ref a, y] ∧ H a = some (exo a C none) ∧ ∀ dx, H dx = none → dx ≠ a → Q .non (upd (upd H dx (exd dx [(f, y)])) a (exo a C (some dx)))
/-- an own exception class with a one field __init__ at fI -/
structure OwnI (K : PySem.W.Frag) (mg : Str → Option Value) (n f : Str) (C fI : Addr) : Prop where
  g : mg n = some (.ref C)
  x : OexC K C
  i : PySem.W.findIn K (.ref C) "__init__" = some (some (.ref fI))
  t : PySem.W.typeIn K (.ref fI) = some (.type "function")
  o : PySem.W.findIn K (.ref C) f = some none
/-- the class object's look: a class over ValueError -/
def oexIn (K : PySem.W.Frag) (C : Addr) : Bool := match K.lookup C with
  | some ⟨.type "type", _, .cls cd, sl⟩ => (match cd.mro, sl.toList with
    | .ref D :: bm, [_, _, _, _, some (.builtin m), _] => D == C && (m == "ValueError.__new__" && (cd.hasDict && (!cd.hasDel && PySem.HandSPX.refsVE bm)))
    | _, _ => false)
  | _ => false
theorem oex_cls {K : PySem.W.Frag} {C : Addr} (h : oexIn K C = true) : ∃ nm q N bs bm sn sub ab col dd k0 k1 k2 k3 k5, K.lookup C = some (excClassObj nm q C N bs bm true sn sub ab col dd k0 k1 k2 k3 k5 "ValueError.__new__") ∧ PySem.HandSPX.refsVE bm = true := by
  unfold oexIn at h
  split at h
  · rename_i dd cd sl ho
    obtain ⟨nm, bs, mro, ns, qn, hd, sn, sub, ab, col, dl⟩ := cd
    obtain ⟨l⟩ := sl
    dsimp only at h
    split at h
    · simp only [Bool.and_eq_true, beq_iff_eq, Bool.not_eq_true'] at h
      obtain ⟨rfl, rfl, rfl, rfl, h5⟩ := h
      exact ⟨_, _, _, _, _, _, _, _, _, _, _, _, _, _, _, ho, h5⟩
    · cases h
  · cases h
section
variable {P : Program} {w : World} {K : PySem.W.Frag} {mg : Str → Option Value} {base : Heap} {qual n f : Str} {C fI : Addr} {st : Stmt} {fd : FuncData} {N : List Str}
theorem init_ok {k : Nat} (o : OwnI K mg n f C fI) (F : Fun K "__init__" qual st fI fd) (S : FnScope N N (defScope st)) (hN : N.length = 2)
    (hb : ∀ (cdv : Value) (A : Around) (outer : List Env) (s : Shared) (H : Hp) (E : XK),
      PSs (cxOf (L2.CX P w) P w K mg base N qual (defScope st) fI cdv A outer s H E) (defBody st) (tOst K f (tVar 0) (tVar 1))) :
    FnOk P w K mg base (L2.CX P w) (k + 1) fI fd N (spI K C f) := by
  refine F.okX S (fun vs H Q E ⟨_, _, e, _⟩ => by rw [e, hN]; rfl) fun cdv A outer s H vs Q E hr h => ⟨_, hb cdv A outer s H E, ?_⟩
  obtain ⟨a, y, rfl, ha, q⟩ := h
  have e0 : (L2.start N [V.ref a, y])[0]? = some (some (.ref a)) := rfl
  have e1 : (L2.start N [V.ref a, y])[1]? = some (some y) := rfl
  exact ⟨y, e1, .ref a, e0, a, C, rfl, o.x, o.o, .inl ⟨ha, fun dx h1 h2 => q dx h1 h2⟩⟩
/-- C(e) -/
def sMk (n f : Str) (fe : SE) : SS := fun ρ st => (fe ρ st).st ρ fun d st => some (.ex n [(f, d)] ρ, st)
end
section
variable {X : Cx} {T : List (Addr × Str)} {W : WX} {n f : Str} {C fI : Addr} {p pos pos' : Pos} {e : Expr} {fe : SE} {fd : FuncData} {N : List Str} {k : Nat}
theorem exd_xd {a dx : Addr} {C : Addr} {f : Str} {y : V} {H : Hp} (h : H a = none) (hd : upd H a (exo a C none) dx = none) (hn : dx ≠ a) :
    upd (del (upd (upd (upd H a (exo a C none)) dx (exd dx [(f, y)])) a (exo a C (some dx))) a) dx (.xd [(f, y)]) = upd H dx (.xd [(f, y)]) := by
  funext b
  by_cases h1 : b = dx
  · subst h1
    rw [upd_same, upd_same]
  · rw [upd_ne h1, upd_ne h1]
    by_cases h2 : b = a
    · subst h2
      rw [del_same, h]
    · rw [del_ne h2, upd_ne h2, upd_ne h1, upd_ne h2]
theorem ps_raiseI (o : OwnI X.K X.mg n f C fI) (F1 : FnOk X.prog X.w X.K X.mg X.base (L2.CX X.prog X.w) k fI fd N (spI X.K C f)) (hb : Binds X.K fd N []) (hr : Room (k + 1) X.A) (hc : X.calm = true) (tk : Takes X W) (hg : Gl X n)
    (he : PE X e (tD (zX X T) W fe)) (hdb : (n == ("__debug__" : Str)) = false := by decide) (hst : starEach [e] X.env = (false, eval e X.env) :: starEach [] X.env := by rfl) (hpl : (backTo pos (starEach [] X.env)).any (·.1) = false := by rfl) :
    PS X (.Raise (some (.Call (.Name n p) [e] [] pos)) none pos') (tDS (zX X T) W (sMk n f fe)) :=
  PS.wk (ps_raise hc tk (pmk_oex o.x o.i o.t F1 hr hb (ds := []) (dvs := []) .nil (fun _ _ _ _ _ _ _ h => by obtain ⟨_, _, _, _, _, _, _, _, _, _, _, _, h⟩ := h; exact h.elim) hg o.g (pa_cons he pa_nil hst) hdb hst hpl)) fun D σ H ⟨g, ρ, st, S, E, q⟩ => by
    refine ⟨g, ρ, st, S, E, Sat.mono (st_sat E q) (fun d st1 q1 g1 H1 v L1 S1 r1 => ?_) fun _ _ _ q => q⟩
    refine ⟨by simp, fun a ha => ⟨a, v, rfl, upd_same, fun dx h1 h2 => ⟨rfl, dx, [(f, v)], upd_same, by rw [upd_ne h2, upd_same], ?_, ?_⟩⟩⟩
    · rw [upd_ne h2] at h1; exact h1
    · have h1' : H1 dx = none := by rw [upd_ne h2] at h1; exact h1
      rw [exd_xd ha h1 h2]
      obtain ⟨S2, L2'⟩ := S1.allocB (p := dx) (o := .xd [(f, v)]) h1' (fun ps z => by cases z)
      have := q1 ⟨upd g1.B dx (.xd [(f, v)]), g1.ι⟩ _ (L1.trans L2') S2 σ (some dx) (E.mono (L1.trans L2').ge) (.inr ⟨dx, [v], rfl, by simp, upd_same, .cons (r1.mono L2'.ge) .nil⟩)
      unfold clsV at this
      rw [show (zX X T).mg n = some (.ref C) from o.g] at this
      exact this
end
end PD
/-! PDMin: min, max of a list of data (the first of the least, of the greatest). -/
namespace PD
open PySem PySem.Spec PyProof.Rows L2
open PySem.W (alike dataLt AlikeAll)
/-- all can be compared with one another -/
def alikeB (ps : List PyData) : Bool := (ps.all fun x => ps.all fun y => alike x y) && ps.all fun x => match x with
  | .none => false
  | _ => true
theorem alikeB_ok {ps : List PyData} (h : alikeB ps = true) : AlikeAll ps := by
  unfold alikeB at h
  rw [Bool.and_eq_true, List.all_eq_true, List.all_eq_true] at h
  refine ⟨fun x hx y hy => List.all_eq_true.mp (h.1 x hx) y hy, fun x hx e => ?_⟩
  have := h.2 x hx
  subst e
  cases this
/-- the first of the best, by the data -/
def bestP {α : Type} (f : PyData → PyData → Bool) (p : PyData × α) (l : List (PyData × α)) : PyData × α := l.foldl (fun a y => if f y.1 a.1 then y else a) p
def bBestP (f : PyData → PyData → Bool) (xs : List D) (st : Sto) : Out D := match xs with
  | [x] => (match litems st x with
    | some (y :: ys) => (match toPys st 59 (y :: ys) with
      | some (p :: ps) => if alikeB (p :: ps) then .ok (bestP f (p, y) (ps.zip ys)).2 st else .bad
      | _ => .bad)
    | _ => .bad)
  | _ => .bad
def bMinP := bBestP fun y a => dataLt y a
def bMaxP := bBestP fun y a => dataLt a y
/-- min, max: the item at the best place -/
def rBestP (K : PySem.W.Frag) (f : PyData → PyData → Bool) : List V → Hp → VK → Prop := fun vs H Q => ∃ (a : Addr) (xs : List V) (ps : List PyData), vs = [.ref a] ∧ SqL K H a xs ∧ DpAll K H xs ps ∧ AlikeAll ps ∧ PyData.depthAll ps ≤ 60 ∧ 0 < xs.length ∧
  ∀ v, xs[argBest (fun i j => f (ps.getD i .none) (ps.getD j .none)) (ps.length - 1)]? = some v → Q v H
section
variable {X : Cx}
theorem dpAll_len {K : PySem.W.Frag} {H : Hp} : ∀ {xs : List V} {ps : List PyData}, DpAll K H xs ps → xs.length = ps.length
  | _, _, .nil => rfl
  | _, _, .cons _ t => by rw [List.length_cons, List.length_cons, dpAll_len t]
theorem argBest_le (f : Nat → Nat → Bool) : ∀ k, argBest f k ≤ k
  | 0 => Nat.le_refl _
  | k + 1 => by
    unfold argBest
    split
    · exact Nat.le_refl _
    · exact Nat.le_succ_of_le (argBest_le f k)
theorem cr_minP (hc : X.calm = true) (hu : X.A.units + 65 < cLine) : CallR X (.builtin "min") (rBestP X.K fun y a => dataLt y a) := by
  intro pins s σ H vs us Q I r h
  obtain ⟨a, xs, ps, rfl, hs, hd, al, dp, hne, q⟩ := h
  obtain ⟨its, rv, hl, _⟩ := I.list hs
  rw [Vals.ref1 r]
  obtain ⟨as, hr⟩ := Dp.readsAll I ps xs its hd rv
  have e1 := dpAll_len hd
  have e2 := rv.length
  have hh := I.ok.hd hc
  refine PySem.call_min_walkH (PySem.W.iter_listW (A := X.A.in1) hh hl.isList fun s₂ e W st hfp hw hk => ?_)
  refine ⟨_, _, _, _, _, _, _, s.heap, _, rfl, W, st, hfp, by simp; omega, hw, hk, PySem.W.cmpIn_lt (A := X.A.in1) (by simpa using hr) al (by show X.A.units + 1 + _ < _; omega), fun v s' hP m => ?_⟩
  obtain ⟨h', tk, rfl, hk'⟩ := PySem.W.moved_old e rfl m
  have e3 : its.toArray.size - 1 = ps.length - 1 := by simp; omega
  rw [e3] at hP
  have hlt := argBest_le (fun i j => dataLt (ps.getD i .none) (ps.getD j .none)) (ps.length - 1)
  generalize argBest (fun i j => dataLt (ps.getD i .none) (ps.getD j .none)) (ps.length - 1) = k at hP q hlt
  have hk2 : k < xs.length := by omega
  have g1 : xs[k]? = some xs[k] := List.getElem?_eq_getElem hk2
  have g2 : its[k]? = some v := by simpa using hP
  obtain ⟨u, g3, g4⟩ := Vals.get rv g1
  rw [g2] at g3
  cases g3
  exact ⟨xs[k], H, I.kept hk', g4, q _ g1⟩
theorem cr_maxP (hc : X.calm = true) (hu : X.A.units + 65 < cLine) : CallR X (.builtin "max") (rBestP X.K fun y a => dataLt a y) := by
  intro pins s σ H vs us Q I r h
  obtain ⟨a, xs, ps, rfl, hs, hd, al, dp, hne, q⟩ := h
  obtain ⟨its, rv, hl, _⟩ := I.list hs
  rw [Vals.ref1 r]
  obtain ⟨as, hr⟩ := Dp.readsAll I ps xs its hd rv
  have e1 := dpAll_len hd
  have e2 := rv.length
  have hh := I.ok.hd hc
  refine PySem.call_max_walkH (PySem.W.iter_listW (A := X.A.in1) hh hl.isList fun s₂ e W st hfp hw hk => ?_)
  refine ⟨_, _, _, _, _, _, _, s.heap, _, rfl, W, st, hfp, by simp; omega, hw, hk, PySem.W.cmpIn_gt (A := X.A.in1) (by simpa using hr) al (by show X.A.units + 1 + _ < _; omega), fun v s' hP m => ?_⟩
  obtain ⟨h', tk, rfl, hk'⟩ := PySem.W.moved_old e rfl m
  have e3 : its.toArray.size - 1 = ps.length - 1 := by simp; omega
  rw [e3] at hP
  have hlt := argBest_le (fun i j => dataLt (ps.getD j .none) (ps.getD i .none)) (ps.length - 1)
  generalize argBest (fun i j => dataLt (ps.getD j .none) (ps.getD i .none)) (ps.length - 1) = k at hP q hlt
  have hk2 : k < xs.length := by omega
  have g1 : xs[k]? = some xs[k] := List.getElem?_eq_getElem hk2
  have g2 : its[k]? = some v := by simpa using hP
  obtain ⟨u, g3, g4⟩ := Vals.get rv g1
  rw [g2] at g3
  cases g3
  exact ⟨xs[k], H, I.kept hk', g4, q _ g1⟩
theorem zip_getD {α β : Type} (a : α) (b : β) : ∀ (xs : List α) (ys : List β) (i : Nat), xs.length = ys.length → (xs.zip ys).getD i (a, b) = (xs.getD i a, ys.getD i b)
  | [], [], _, _ => rfl
  | [], _ :: _, _, h => by simp at h
  | _ :: _, [], _, h => by simp at h
  | x :: xs, y :: ys, 0, _ => rfl
  | x :: xs, y :: ys, i + 1, h => by
    have := zip_getD a b xs ys i (by simpa using h)
    simpa using this
variable {T : List (Addr × Str)}
theorem does_bestP (f : PyData → PyData → Bool) : DoesB X T (rBestP X.K f) (bBestP f) := by
  intro W σ g st H ds vs Q S r h
  unfold bBestP at h
  split at h
  · rename_i x
    split at h
    · rename_i y ys e1
      split at h
      · rename_i p ps e2
        split at h
        · rename_i ha
          cases r with
          | cons r1 r2 =>
            cases r2
            obtain ⟨a, ws, rfl, h1, h2, h3⟩ := S.litems r1 e1
            obtain ⟨k1, k2, k3⟩ := toPys_dp S 59 h3 e2
            have el := dpAll_len k1
            have el2 := h3.length
            have ep : ps.length = ys.length := by
              rw [← el2] at el
              simpa using el.symm
            refine ⟨a, ws, p :: ps, rfl, SqL.of h1, k1, alikeB_ok ha, by omega, by rw [el]; simp, fun v hv => ?_⟩
            have fo := PySem.W.argBest_fold (fun (u w : PyData × D) => f u.1 w.1) (PyData.none, D.non) (p, y) (ps.zip ys) (ps.zip ys).length (Nat.le_refl _)
            rw [List.take_length] at fo
            have ez : (ps.zip ys).length = (p :: ps).length - 1 := by rw [List.length_zip, List.length_cons]; omega
            have eg : ∀ i, ((p, y) :: ps.zip ys).getD i (PyData.none, D.non) = ((p :: ps).getD i .none, (y :: ys).getD i .non) := fun i => zip_getD _ _ (p :: ps) (y :: ys) i (by simp [ep])
            simp only [eg] at fo
            rw [ez] at fo
            generalize argBest (fun i j => f ((p :: ps).getD i .none) ((p :: ps).getD j .none)) ((p :: ps).length - 1) = k at fo hv
            obtain ⟨d, g1, g2⟩ := h3.getV hv
            have g3 : (y :: ys).getD k .non = d := by rw [List.getD_eq_getElem?_getD, g1]; rfl
            have g4 : (bestP f (p, y) (ps.zip ys)).2 = d := by
              unfold bestP
              rw [← fo.2]
              exact g3
            rw [g4] at h
            exact h g H v (Le.refl g H) S g2
        · exact h.elim
      · exact h.elim
    · exact h.elim
  · exact h.elim
end
end PD
/-! PDRep: a tuple times a number. -/
namespace PD
open PySem PySem.Spec PyProof.Rows L2
open PySem.AutoSeq1 (wpAny_loadPart')
open PySem.MeetsSeq PySem.MeetsSeq2 PySem.MeetsSeq3
theorem tuple_mul1 (l : Addr) (items : Array Value) (n : Nat) (dd : Option Addr) (sl : Array (Option Value)) (u : Tok) :
    Meets (Builtin.«tuple.__mul__» ⟨[.ref l, .int 1 u], []⟩) (fun _ R s => s.heap.get? l = some { cls := .type "tuple", dict := dd, data := .seq items n, slots := sl } ∧ R (.ok (.ret (Value.ref l))) s) :=
  .of_wp fun prog w A R s h => by
    obtain ⟨hp, g, d, tk, os⟩ := s
    obtain ⟨hl, h⟩ := h
    have f1 := AutoSeq1.idx_int
    wp_walk using wpAny_loadPart' hl
    exact ⟨_, rfl, h⟩
def rRepT1 (K : PySem.W.Frag) : R2 := fun x y H Q => ∃ l xs, x = .ref l ∧ y = .int 1 ∧ SqT K H l xs ∧ Q (.ref l) H
theorem op_repT1 {X : Cx} : OpR X (binaryOp .Mult) (rRepT1 X.K) := by
  intro pins s σ H x y v u Q I rx ry h
  obtain ⟨l, xs, rfl, rfl, hT, q⟩ := h
  cases rx
  obtain ⟨t, rfl⟩ := ry
  obtain ⟨its, r, ⟨⟨cls, dd, data, sl⟩, ho, hc, n, hd⟩, hs⟩ := I.tuple hT
  simp only at hc hd
  subst hc hd
  refine wpAny_binaryOp_repeat_ref (T := "tuple") (U := "int") (by decide) ⟨_, ho, rfl⟩ (fun s' => typeIs_int s' 1 t) L2.noFill_tuple_mul PySem.F.fills_int_mul PySem.F.slot_int_rmul L2.repeat_tuple PySem.F.slot_int_index.lookup
    (call_meets PySem.F.slot_int_rmul (typeIs_int s 1 t) PySem.F.entry_int_rmul (PySem.F.args_int_rmul_2 _ _) (L2.int_rmul_tuple 1 t l its.toArray n dd sl)
      ⟨ho, rfl, ⟨_, ho, rfl⟩, call_meets PySem.F.slot_tuple_mul ⟨_, ho, rfl⟩ PySem.F.entry_tuple_mul (PySem.F.args_tuple_mul_2 _ _) (tuple_mul1 l its.toArray n dd sl t) ⟨ho, ?_⟩⟩)
  exact ⟨.ref l, H, I, rfl, q⟩
def fRepT (x y : D) (st : Sto) : Out D := match x, y with
  | .tup xs, .int k => if 1 ≤ k ∧ k ≤ 1000 ∧ 0 < xs.length ∧ xs.length ≤ 1000 then .ok (.tup (repL xs k.toNat)) st else .bad
  | _, _ => .bad
theorem pd_repT {X : Cx} {T : List (Addr × Str)} {W : WX} {a b : Expr} {fa fb : SE} {pos : Pos} (ha : PE X a (tD (zX X T) W fa)) (hb : PE X b (tD (zX X T) W fb)) : PE X (.BinOp a .Mult b pos) (tD (zX X T) W (s2 fRepT fa fb)) := pd_op (op_repT1.or op_repN) (by
  intro W σ g st H dx dy x y Q S rx ry h
  unfold fRepT at h
  split at h
  · rename_i xs k
    split at h
    · rename_i hz
      obtain ⟨h1, h2, h3, h4⟩ := hz
      cases ry
      obtain ⟨a, vs, rfl, k1, k2, k3⟩ := S.tup rx
      have e1 := k3.length
      by_cases e : k = 1
      · subst e
        refine .inl ⟨a, vs, rfl, rfl, k1, ?_⟩
        have er : repL xs (1 : Int).toNat = xs := by simp [repL]
        rw [er] at h
        exact h g H _ (Le.refl g H) S rx
      · refine .inr ⟨a, k, vs, rfl, rfl, k1, fun q => by rw [q] at e1; rw [List.length_nil] at e1; omega, by omega, h2, by omega, fun p o hp ho => ?_⟩
        obtain ⟨S', L'⟩ := S.allocB (o := .frz o (.tup (List.replicate k.toNat vs).flatten)) hp (fun _ => by simp)
        refine h _ _ _ L' S' (.tup (SqN.of ho) ?_ ((k3.replicate _).mono L'.ge))
        have : ((List.replicate k.toNat vs).flatten).length = k.toNat * vs.length := by simp [List.length_flatten]
        rw [this, sizeLine_eq]
        have a1 : k.toNat * vs.length ≤ 1000 * 1000 := Nat.mul_le_mul (by omega) (by omega)
        omega
    · exact h.elim
  · exact h.elim) ha hb
end PD
/-! PDSub: targets that are items: (o[i], p[j]) = .. -/
namespace PD
open PySem PySem.Spec PyProof.Rows L2
abbrev TgS := D → SS
def uN (i : Nat) : TgS := fun d ρ st => some (.nx (ρ.set i (some d)), st)
def uIx (o i : SE) : TgS := fun v ρ st => (o ρ st).st ρ fun x st => (i ρ st).st ρ fun y st => match fSetIx x y v st with
  | some st => some (.nx ρ, st)
  | none => none
/-- one target after another -/
def uSeq (a : Option (Fl × Sto)) (b : SS) : Option (Fl × Sto) := match a with
  | some (.nx ρ, st) => b ρ st
  | some (.ex n fs ρ, st) => some (.ex n fs ρ, st)
  | _ => none
def uT2 (a b : TgS) : TgS := fun d ρ st => match d with
  | .tup [x, y] => uSeq (a x ρ st) (b y)
  | _ => none
def qAsgS (u : TgS) (e : SE) : SS := fun ρ st => (e ρ st).st ρ fun d st => u d ρ st
@[simp] theorem uN_e (i : Nat) (d : D) (ρ : Ev) (st : Sto) : uN i d ρ st = some (.nx (ρ.set i (some d)), st) := id rfl
@[simp] theorem uIx_e (o i : SE) (v : D) (ρ : Ev) (st : Sto) : uIx o i v ρ st = (o ρ st).st ρ fun x st => (i ρ st).st ρ fun y st => match fSetIx x y v st with
  | some st => some (.nx ρ, st)
  | none => none := id rfl
@[simp] theorem uT2_e (a b : TgS) (x y : D) (ρ : Ev) (st : Sto) : uT2 a b (.tup [x, y]) ρ st = uSeq (a x ρ st) (b y) := id rfl
@[simp] theorem uSeq_nx (b : SS) (ρ : Ev) (st : Sto) : uSeq (some (.nx ρ, st)) b = b ρ st := id rfl
@[simp] theorem qAsgS_e (u : TgS) (e : SE) (ρ : Ev) (st : Sto) : qAsgS u e ρ st = (e ρ st).st ρ fun d st => u d ρ st := id rfl
section
variable {X : Cx} {T : List (Addr × Str)} {W : WX}
/-- a target does what u says -/
def UOk (X : Cx) (T : List (Addr × Str)) (W : WX) (t : TG) (u : TgS) : Prop := ∀ (Dd : Ends) (g : G) (st : Sto) (σ : L2.St) (ρ : Ev) (H : Hp) (d : D) (v : V), Sim X.K T g st H → Rep X.K g d v → EnvR X.K g σ ρ → SPost (zX X T) W Dd g H (u d ρ st) → t v σ H Dd.nx
theorem u_name (i : Nat) : UOk X T W (gName i) (uN i) := fun Dd g st σ ρ H d v S r E q => q g H (Le.refl g H) S _ (E.set i r)
theorem u_sub {fo fx : SE} : UOk X T W (gSub (tD (zX X T) W fo) (tD (zX X T) W fx) rSetL) (uIx fo fx) := fun Dd g st σ ρ H d v S r E q => by
  refine ⟨g, ρ, st, S, E, Sat.mono (st_sat E q) (fun d2 st2 q2 g2 H2 v2 L2 S2 r2 => ?_) fun _ _ _ q => q⟩
  refine ⟨g2, ρ, st2, S2, E.mono L2.ge, Sat.mono (st_sat E q2) (fun d3 st3 q3 g3 H3 v3 L3 S3 r3 => ?_) fun _ _ _ q => q.mono L2⟩
  have L := L2.trans L3
  cases hf : fSetIx d2 d3 d st3 with
  | none => rw [hf] at q3; exact q3.elim
  | some st4 =>
    rw [hf] at q3
    unfold fSetIx at hf
    split at hf
    · rename_i l k
      split at hf
      · rename_i xs hs3
        split at hf
        · rename_i j hj
          cases hf
          cases r2 with
          | ref hl =>
            rename_i a
            cases r3
            have hl3 := L3.ge.i _ _ hl
            obtain ⟨ws, h1, h2, h3, h4⟩ := S3.obj _ a _ hl3 hs3
            refine ⟨a, ws, k, j, rfl, rfl, h2, by rw [← h4.length, ix_eq]; exact hj, ?_⟩
            obtain ⟨S4, L4⟩ := S3.write (vs' := ws.set j v) hl3 hs3 (by rw [List.length_set]; exact h3) (Reps.set (r.mono L.ge) j h4)
            exact q3 g3 _ (L.trans L4) S4 σ (E.mono (L.trans L4).ge)
        · cases hf
      · cases hf
    · cases hf
theorem u_two {t1 t2 : TG} {u1 u2 : TgS} (h1 : UOk X T W t1 u1) (h2 : UOk X T W t2 u2) : UOk X T W (gTup X.K 2 (gCons t1 (gCons t2 gNil))) (uT2 u1 u2) := fun Dd g st σ ρ H d v S r E q => by
  unfold uT2 at q
  split at q
  · rename_i x y
    obtain ⟨a, vs, rfl, q1, q2, q3⟩ := S.tup r
    cases q3 with
    | cons r1 q3 => cases q3 with
      | cons r2 q3 =>
        cases q3
        rename_i v1 v2
        refine ⟨a, [_, _], rfl, q1, rfl, _, [_], rfl, ?_⟩
        refine h1 { Dd with nx := fun σ' H' => gCons t2 gNil [v2] σ' H' Dd.nx } g st σ ρ H x v1 S r1 E ?_
        cases e : u1 x ρ st with
        | none => rw [e] at q; exact q
        | some p =>
          obtain ⟨fl, st1⟩ := p
          rw [e] at q
          cases fl with
          | nx ρ1 =>
            refine fun g' H' L S' σ' E' => ⟨v2, [], rfl, ?_⟩
            refine h2 { Dd with nx := fun σ' H' => gNil [] σ' H' Dd.nx } g' st1 σ' ρ1 H' y v2 S' (r2.mono L.ge) E' ?_
            have q' : SPost (zX X T) W Dd g' H' (u2 y ρ1 st1) := SPost.mono L q
            cases e2 : u2 y ρ1 st1 with
            | none => rw [e2] at q'; exact q'
            | some p =>
              obtain ⟨fl, st2⟩ := p
              rw [e2] at q'
              cases fl with
              | nx ρ2 => exact fun g2 H2 L2 S2 σ2 E2 => ⟨rfl, q' g2 H2 L2 S2 σ2 E2⟩
              | rt d => exact q'
              | bk ρ2 => exact q'
              | ct ρ2 => exact q'
              | ex n fs ρ2 => exact q'
          | ex n fs ρ1 => exact q
          | rt d => exact q.elim
          | bk ρ1 => exact q.elim
          | ct ρ1 => exact q.elim
  · exact q.elim
variable {tg e : Expr} {fe : SE} {pos : Pos}
theorem ps_asgS {t : TG} {u : TgS} (ht : UOk X T W t u) (he : PE X e (tD (zX X T) W fe)) (hg : PG X tg t) (hs : swapsWithSole [tg] e pos.line X.env = pure false := by rfl) (hw : swappedStores [tg] e X.env = pure none := by rfl)
    (h1 : (assignEach [tg] X.env).map (·.2) = [assign tg X.env] := by rfl) : PS X (.Assign [tg] e pos) (tDS (zX X T) W (qAsgS u fe)) :=
  PS.wk (ps_asg he hg hs hw h1) fun D σ H ⟨g, ρ, st, S, E, q⟩ => ⟨g, ρ, st, S, E, Sat.mono (st_sat E q) (fun d st1 q1 g1 H1 v L1 S1 r1 =>
    ht D g1 st1 σ ρ H1 d v S1 r1 (E.mono L1.ge) (SPost.mono L1 q1)) fun _ _ _ q => q⟩
theorem pg_subD {o i : Expr} {fo fx : SE} {pos' : Pos} (ho : PE X o (tD (zX X T) W fo)) (hi : PE X i (tD (zX X T) W fx))
    (ha : ∀ v, assign (.Subscript o i pos') X.env v = (do
      let ov ← holding [v] (eval o X.env)
      let iv ← holding [v, ov] (eval i X.env)
      standAt pos'
      holding [v, ov, iv] (setItem ov iv v)
      release [v, ov, iv] []) := by intro _; rfl) : PG X (.Subscript o i pos') (gSub (tD (zX X T) W fo) (tD (zX X T) W fx) rSetL) := pg_sub ho hi set_list ha
end
end PD
/-! PDEval: how the plain semantics computes. -/
namespace PD
open PySem PySem.Spec PyProof.Rows L2

/-! ### unfolding -/
@[simp] theorem sVar_e (i : Nat) (ρ : Ev) (st : Sto) : sVar i ρ st = match ρ[i]? with | some (some d) => .ok d st | _ => .bad := id rfl
@[simp] theorem sC_e (d : D) (ρ : Ev) (st : Sto) : sC d ρ st = .ok d st := id rfl
@[simp] theorem s2_e (f : D → D → Sto → Out D) (a b : SE) (ρ : Ev) (st : Sto) : s2 f a b ρ st = (a ρ st).bind fun x st => (b ρ st).bind fun y st => f x y st := id rfl
@[simp] theorem s1_e (f : D → Sto → Out D) (a : SE) (ρ : Ev) (st : Sto) : s1 f a ρ st = (a ρ st).bind fun x st => f x st := id rfl
@[simp] theorem tTru_e (e : SE) (ρ : Ev) (st : Sto) : tTru e ρ st = (e ρ st).bind fun d st => match truD st d with | some b => .ok b st | none => .bad := id rfl
@[simp] theorem tBl_e (e : SE) (ρ : Ev) (st : Sto) : tBl e ρ st = (e ρ st).bind fun d st => match d with | .bl b => .ok b st | _ => .bad := id rfl
@[simp] theorem tAndD_e (a b : ST) (ρ : Ev) (st : Sto) : tAndD a b ρ st = (a ρ st).bind fun c st => if c = true then b ρ st else .ok false st := id rfl
@[simp] theorem tOrD_e (a b : ST) (ρ : Ev) (st : Sto) : tOrD a b ρ st = (a ρ st).bind fun c st => if c = true then .ok true st else b ρ st := id rfl
@[simp] theorem tNotD_e (a : ST) (ρ : Ev) (st : Sto) : tNotD a ρ st = (a ρ st).bind fun c st => .ok (!c) st := id rfl
@[simp] theorem tYesD_e (ρ : Ev) (st : Sto) : tYesD ρ st = .ok true st := id rfl
@[simp] theorem sAnd_e (a b : SE) (ρ : Ev) (st : Sto) : sAnd a b ρ st = (a ρ st).bind fun x st => match x with | .bl c => if c = true then b ρ st else .ok (.bl false) st | _ => .bad := id rfl
@[simp] theorem sOr_e (a b : SE) (ρ : Ev) (st : Sto) : sOr a b ρ st = (a ρ st).bind fun x st => match x with | .bl c => if c = true then .ok (.bl true) st else b ρ st | _ => .bad := id rfl
@[simp] theorem sNotV_e (a : SE) (ρ : Ev) (st : Sto) : sNotV a ρ st = (a ρ st).bind fun d st => match d with | .bl c => .ok (.bl (!c)) st | _ => .bad := id rfl
@[simp] theorem sIf_e (t : ST) (a b : SE) (ρ : Ev) (st : Sto) : sIf t a b ρ st = (t ρ st).bind fun c st => if c = true then a ρ st else b ρ st := id rfl
@[simp] theorem sChain_e (f g : D → D → Sto → Out D) (a b c : SE) (ρ : Ev) (st : Sto) : sChain f g a b c ρ st = (a ρ st).bind fun x st => (b ρ st).bind fun y st => (f x y st).bind fun z st => match z with
  | .bl k => if k = true then (c ρ st).bind fun w st => g y w st else .ok (.bl false) st
  | _ => .bad := id rfl
@[simp] theorem aNil_e (ρ : Ev) (st : Sto) : aNil ρ st = .ok [] st := id rfl
@[simp] theorem aCons_e (e : SE) (r : SA) (ρ : Ev) (st : Sto) : aCons e r ρ st = (e ρ st).bind fun x st => (r ρ st).bind fun xs st => .ok (x :: xs) st := id rfl
@[simp] theorem sTup_e (a : SA) (ρ : Ev) (st : Sto) : sTup a ρ st = (a ρ st).bind fun xs st => if xs.length ≤ sizeLine then .ok (.tup xs) st else .bad := id rfl
@[simp] theorem sLst_e (m : Bool) (a : SA) (ρ : Ev) (st : Sto) : sLst m a ρ st = (a ρ st).bind fun xs st => if xs.length ≤ sizeLine then newL m xs st else .bad := id rfl
@[simp] theorem sCall_e (n : Nat) (F : List D → Sto → Out D) (a : SA) (ρ : Ev) (st : Sto) : sCall n F a ρ st = (a ρ st).bind fun xs st => if xs.length = n then F xs st else .bad := id rfl
@[simp] theorem sB_e (F : List D → Sto → Out D) (a : SA) (ρ : Ev) (st : Sto) : sB F a ρ st = (a ρ st).bind fun xs st => F xs st := id rfl
@[simp] theorem sIsI_e (t : TyN) (e : SE) (ρ : Ev) (st : Sto) : sIsI t e ρ st = (e ρ st).bind fun d st => match isTy t d with | some b => .ok (.bl b) st | none => .bad := id rfl
@[simp] theorem oInt_e (e : SE) (ρ : Ev) (st : Sto) : oInt e ρ st = (e ρ st).bind fun d st => match d with | .int i => .ok (some i) st | _ => .bad := id rfl
@[simp] theorem oNone_e (ρ : Ev) (st : Sto) : oNone ρ st = .ok none st := id rfl
@[simp] theorem sM_e (f : D → D → Sto → Out D) (o e : SE) (ρ : Ev) (st : Sto) : sM f o e ρ st = (o ρ st).bind fun x st => match litems st x with | some _ => (e ρ st).bind fun y st => f x y st | none => .bad := id rfl
@[simp] theorem iSeq_e (e : SE) (ρ : Ev) (st : Sto) : iSeq e ρ st = (e ρ st).bind fun x st => match items st x with | some xs => .ok (xs, dynOf x) st | none => .bad := id rfl
@[simp] theorem iRange1_e (a : SA) (ρ : Ev) (st : Sto) : iRange1 a ρ st = (a ρ st).bind fun xs st => match xs with
  | [.int j] => if -1000000 ≤ j ∧ j ≤ 1000000 then .ok (rangeL 0 j.toNat, none) st else .bad
  | _ => .bad := id rfl
@[simp] theorem iRange2_e (a : SA) (ρ : Ev) (st : Sto) : iRange2 a ρ st = (a ρ st).bind fun xs st => match xs with
  | [.int i, .int j] => if -1000000 ≤ i ∧ i ≤ 1000000 ∧ -1000000 ≤ j ∧ j ≤ 1000000 then .ok (rangeL i (j - i).toNat, none) st else .bad
  | _ => .bad := id rfl
@[simp] theorem iZip_e (a : SA) (ρ : Ev) (st : Sto) : iZip a ρ st = (a ρ st).bind fun xs st => match xs with
  | [.tup xs, .tup ys] => .ok (zipD xs ys, none) st
  | [.lst xs, .lst ys] => .ok (zipD xs ys, none) st
  | _ => .bad := id rfl
@[simp] theorem iEnum_e (a : SA) (ρ : Ev) (st : Sto) : iEnum a ρ st = (a ρ st).bind fun xs st => match xs with
  | [.tup xs] => .ok (enumFromD 0 xs, none) st
  | [.lst xs] => .ok (enumFromD 0 xs, none) st
  | [.ref l] => (match st[l]? with | some (.lst xs) => .ok (enumFromD 0 xs, some (.inr l)) st | _ => .bad)
  | _ => .bad := id rfl
@[simp] theorem gN_e (i : Nat) (d : D) (ρ : Ev) : gN i d ρ = some (ρ.set i (some d)) := id rfl
@[simp] theorem gT2_e (a b : TgD) (x y : D) (ρ : Ev) : gT2 a b (.tup [x, y]) ρ = (a x ρ).bind fun ρ => b y ρ := id rfl
@[simp] theorem gT2_p (a b : TgD) (x y : D) (ρ : Ev) : gT2 a b (.tpl [x, y]) ρ = (a x ρ).bind fun ρ => b y ρ := id rfl
@[simp] theorem gT3_e (a b c : TgD) (x y z : D) (ρ : Ev) : gT3 a b c (.tup [x, y, z]) ρ = (a x ρ).bind fun ρ => (b y ρ).bind fun ρ => c z ρ := id rfl
@[simp] theorem wipe_nil (ρ : Ev) : wipeD ρ [] = ρ := id rfl
@[simp] theorem wipe_cons (ρ : Ev) (v : Nat) (vs : List Nat) : wipeD ρ (v :: vs) = (wipeD ρ vs).set v none := id rfl
@[simp] theorem qNext_e (ρ : Ev) (st : Sto) : qNext ρ st = some (.nx ρ, st) := id rfl
@[simp] theorem qSet_e (i : Nat) (e : SE) (ρ : Ev) (st : Sto) : qSet i e ρ st = (e ρ st).st ρ fun d st => some (.nx (ρ.set i (some d)), st) := id rfl
@[simp] theorem qPar_e (i j : Nat) (a : SA) (ρ : Ev) (st : Sto) : qPar i j a ρ st = (a ρ st).st ρ fun ds st => match ds with
  | [x, y] => some (.nx ((ρ.set i (some x)).set j (some y)), st)
  | _ => none := id rfl
@[simp] theorem qAsg_e (g : TgD) (e : SE) (ρ : Ev) (st : Sto) : qAsg g e ρ st = (e ρ st).st ρ fun d st => match g d ρ with
  | some ρ' => some (.nx ρ', st)
  | none => none := id rfl
@[simp] theorem qExpr_e (e : SE) (ρ : Ev) (st : Sto) : qExpr e ρ st = (e ρ st).st ρ fun _ st => some (.nx ρ, st) := id rfl
@[simp] theorem qRet_e (e : SE) (ρ : Ev) (st : Sto) : qRet e ρ st = (e ρ st).st ρ fun d st => some (.rt d, st) := id rfl
@[simp] theorem qRetN_e (ρ : Ev) (st : Sto) : qRetN ρ st = some (.rt .non, st) := id rfl
@[simp] theorem qBrk_e (ρ : Ev) (st : Sto) : qBrk ρ st = some (.bk ρ, st) := id rfl
@[simp] theorem qCnt_e (ρ : Ev) (st : Sto) : qCnt ρ st = some (.ct ρ, st) := id rfl
@[simp] theorem qIf_e (t : ST) (a b : SS) (ρ : Ev) (st : Sto) : qIf t a b ρ st = (t ρ st).st ρ fun c st => if c = true then a ρ st else b ρ st := id rfl
@[simp] theorem qSetIx_e (o i e : SE) (ρ : Ev) (st : Sto) : qSetIx o i e ρ st = (e ρ st).st ρ fun v st => (o ρ st).st ρ fun x st => (i ρ st).st ρ fun y st => match fSetIx x y v st with
  | some st => some (.nx ρ, st)
  | none => none := id rfl
/-- one statement after another -/
def thenS (r : Option (Fl × Sto)) (b : SS) : Option (Fl × Sto) := match r with
  | some (.nx ρ', st') => b ρ' st'
  | r => r
@[simp] theorem qSeq_e (a b : SS) (ρ : Ev) (st : Sto) : qSeq a b ρ st = thenS (a ρ st) b := id rfl
@[simp] theorem then_nx (ρ : Ev) (st : Sto) (b : SS) : thenS (some (.nx ρ, st)) b = b ρ st := id rfl
@[simp] theorem then_rt (d : D) (st : Sto) (b : SS) : thenS (some (.rt d, st)) b = some (.rt d, st) := id rfl
@[simp] theorem then_ct (ρ : Ev) (st : Sto) (b : SS) : thenS (some (.ct ρ, st)) b = some (.ct ρ, st) := id rfl
@[simp] theorem then_bk (ρ : Ev) (st : Sto) (b : SS) : thenS (some (.bk ρ, st)) b = some (.bk ρ, st) := id rfl
@[simp] theorem qFor_e (it : SI) (g : TgD) (b : SS) (ρ : Ev) (st : Sto) : qFor it g b ρ st = (it ρ st).st ρ fun p st => loopFor p.2 p.1.length g b 0 p.1 ρ st := id rfl
@[simp] theorem sListR1_e (m : Bool) (a : SE) (ρ : Ev) (st : Sto) : sListR1 m a ρ st = (a ρ st).bind fun x st => match x with
  | .int j => if 0 ≤ j ∧ j ≤ sizeLine then newL m (rangeL 0 j.toNat) st else .bad
  | _ => .bad := id rfl
@[simp] theorem sSlice_e (m : Bool) (e : SE) (lo hi : Ev → Sto → Out (Option Int)) (ρ : Ev) (st : Sto) : sSlice m e lo hi ρ st = (e ρ st).bind fun x st => (lo ρ st).bind fun i st => (hi ρ st).bind fun j st => match x with
  | .tup xs => .ok (.tup (cutD xs i j)) st
  | .fz xs => newL m (cutD xs i j) st
  | x => match litems st x with | some xs => newL m (cutD xs i j) st | none => .bad := id rfl
/-! operators on ints -/
@[simp] theorem fAdd_i (i j : Int) (st : Sto) : fAdd (.int i) (.int j) st = .ok (.int (i + j)) st := id rfl
@[simp] theorem fSub_i (i j : Int) (st : Sto) : fSub (.int i) (.int j) st = .ok (.int (i - j)) st := id rfl
@[simp] theorem fNeg_i (i : Int) (st : Sto) : fNeg (.int i) st = .ok (.int (-i)) st := id rfl
@[simp] theorem fLt_i (i j : Int) (st : Sto) : fLt (.int i) (.int j) st = .ok (.bl (decide (i < j))) st := id rfl
@[simp] theorem fLe_i (i j : Int) (st : Sto) : fLe (.int i) (.int j) st = .ok (.bl (decide (i ≤ j))) st := id rfl
@[simp] theorem fGt_i (i j : Int) (st : Sto) : fGt (.int i) (.int j) st = .ok (.bl (decide (j < i))) st := id rfl
@[simp] theorem fGe_i (i j : Int) (st : Sto) : fGe (.int i) (.int j) st = .ok (.bl (decide (j ≤ i))) st := id rfl
theorem fMul_i {i j : Int} {st : Sto} (h : small i = true ∨ small j = true) : fMul (.int i) (.int j) st = .ok (.int (i * j)) st := by
  unfold fMul
  dsimp only
  rcases h with h | h <;> simp [h]
theorem fDiv_i {i j : Int} {st : Sto} (h : 0 < j ∧ j < 1073741824) : fDiv (.int i) (.int j) st = .ok (.int (i / j)) st := by
  unfold fDiv; dsimp only; rw [if_pos h]
theorem fMod_i {i j : Int} {st : Sto} (h : 0 < j) : fMod (.int i) (.int j) st = .ok (.int (i % j)) st := by
  unfold fMod; dsimp only; rw [if_pos h]
@[simp] theorem toPy_int (st : Sto) (n : Nat) (i : Int) : toPy st n (.int i) = some (.int i) := by cases n <;> rfl
@[simp] theorem toPy_bl (st : Sto) (n : Nat) (i : Bool) : toPy st n (.bl i) = some (.bool i) := by cases n <;> rfl
@[simp] theorem toPy_non (st : Sto) (n : Nat) : toPy st n .non = some .none := by cases n <;> rfl
theorem eqv_int (i j : Int) : PyData.eqv (.int i) (.int j) = decide (i = j) := by
  by_cases h : i = j
  · subst h; simp [PyData.eqv]
  · simp [PyData.eqv, h]
theorem eqv_bl (i j : Bool) : PyData.eqv (.bool i) (.bool j) = decide (i = j) := by
  cases i <;> cases j <;> simp [PyData.eqv]
@[simp] theorem fEq_i (i j : Int) (st : Sto) : fEq (.int i) (.int j) st = .ok (.bl (decide (i = j))) st := by
  unfold fEq; simp [eqv_int]
@[simp] theorem fNe_i (i j : Int) (st : Sto) : fNe (.int i) (.int j) st = .ok (.bl (!decide (i = j))) st := by
  unfold fNe; simp [eqv_int]
@[simp] theorem fEq_b (i j : Bool) (st : Sto) : fEq (.bl i) (.bl j) st = .ok (.bl (decide (i = j))) st := by
  unfold fEq; simp [eqv_bl]
@[simp] theorem fNe_b (i j : Bool) (st : Sto) : fNe (.bl i) (.bl j) st = .ok (.bl (!decide (i = j))) st := by
  unfold fNe; simp [eqv_bl]
@[simp] theorem truD_bl (st : Sto) (b : Bool) : truD st (.bl b) = some b := id rfl
@[simp] theorem isTy_int (i : Int) : isTy .int (.int i) = some true := id rfl
@[simp] theorem isTy_bool (i : Int) : isTy .bool (.int i) = some false := id rfl
@[simp] theorem isTy_tuple (xs : List D) : isTy .tuple (.tup xs) = some true := id rfl
@[simp] theorem items_tup (st : Sto) (xs : List D) : items st (.tup xs) = some xs := id rfl
@[simp] theorem items_lst (st : Sto) (xs : List D) : items st (.lst xs) = some xs := id rfl
@[simp] theorem items_fz (st : Sto) (xs : List D) : items st (.fz xs) = some xs := id rfl
@[simp] theorem litems_lst (st : Sto) (xs : List D) : litems st (.lst xs) = some xs := id rfl
@[simp] theorem dyn_tup (xs : List D) : dynOf (.tup xs) = none := id rfl
@[simp] theorem dyn_lst (xs : List D) : dynOf (.lst xs) = none := id rfl
@[simp] theorem dyn_fz (xs : List D) : dynOf (.fz xs) = none := id rfl
@[simp] theorem dyn_ref (l : Nat) : dynOf (.ref l) = some (.inl l) := id rfl
theorem items_ref {st : Sto} {l : Nat} {xs : List D} (h : st[l]? = some (.lst xs)) : items st (.ref l) = some xs := by simp only [items, h]
theorem litems_ref {st : Sto} {l : Nat} {xs : List D} (h : st[l]? = some (.lst xs)) : litems st (.ref l) = some xs := by simp only [litems, h]
@[simp] theorem bLen_tup (st : Sto) (xs : List D) : bLen [.tup xs] st = .ok (.int xs.length) st := id rfl
@[simp] theorem bLen_lst (st : Sto) (xs : List D) : bLen [.lst xs] st = .ok (.int xs.length) st := id rfl
theorem bLen_ref {st : Sto} {l : Nat} {xs : List D} (h : st[l]? = some (.lst xs)) : bLen [.ref l] st = .ok (.int xs.length) st := by unfold bLen; simp only [items_ref h]
@[simp] theorem bTuple_lst (st : Sto) (xs : List D) : bTuple [.lst xs] st = .ok (.tup xs) st := id rfl
@[simp] theorem bTuple_tup (st : Sto) (xs : List D) : bTuple [.tup xs] st = .ok (.tup xs) st := id rfl
theorem bTuple_ref {st : Sto} {l : Nat} {xs : List D} (h : st[l]? = some (.lst xs)) : bTuple [.ref l] st = .ok (.tup xs) st := by unfold bTuple; simp only [items_ref h]
@[simp] theorem bInt_i (st : Sto) (i : Int) : bInt [.int i] st = .ok (.int i) st := id rfl
@[simp] theorem bAbs_i (st : Sto) (i : Int) : bAbs [.int i] st = .ok (.int (if i < 0 then -i else i)) st := id rfl
@[simp] theorem bMin2_i (st : Sto) (i j : Int) : bMin2 [.int i, .int j] st = .ok (.int (if j < i then j else i)) st := id rfl
@[simp] theorem bMax2_i (st : Sto) (i j : Int) : bMax2 [.int i, .int j] st = .ok (.int (if j > i then j else i)) st := id rfl
@[simp] theorem fIsN2_n (st : Sto) : fIsN2 .non .non st = .ok (.bl true) st := id rfl
@[simp] theorem fIsN2_t (st : Sto) (xs : List D) : fIsN2 (.tup xs) .non st = .ok (.bl false) st := id rfl
@[simp] theorem fNotN2_n (st : Sto) : fNotN2 .non .non st = .ok (.bl false) st := id rfl
@[simp] theorem fNotN2_t (st : Sto) (xs : List D) : fNotN2 (.tup xs) .non st = .ok (.bl true) st := id rfl
theorem allBl_map {α : Type} (f : α → Bool) (l : List α) : allBl (l.map fun a => D.bl (f a)) = some (l.map f) := by
  induction l with
  | nil => rfl
  | cons a l ih => rw [List.map_cons, List.map_cons, allBl, ih] <;> rfl
@[simp] theorem bAll_map {α : Type} (f : α → Bool) (l : List α) (st : Sto) : bAll [.lst (l.map fun a => D.bl (f a))] st = .ok (.bl (l.all f)) st := by
  unfold bAll
  simp only [litems_lst, Option.bind_some, allBl_map, List.all_map]
  rfl
@[simp] theorem bAny_map {α : Type} (f : α → Bool) (l : List α) (st : Sto) : bAny [.lst (l.map fun a => D.bl (f a))] st = .ok (.bl (l.any f)) st := by
  unfold bAny
  simp only [litems_lst, Option.bind_some, allBl_map, List.any_map]
  rfl
/-! subscripts -/
theorem ix_nat {n i : Nat} (h : i < n) : ixD n (i : Int) = some i := by
  unfold ixD
  rw [if_pos (by omega), if_pos (by omega)]
  simp
theorem fIx_at {st : Sto} {x d : D} {xs : List D} {i : Nat} (hx : items st x = some xs) (h : xs[i]? = some d) : fIx x (.int (i : Int)) st = .ok d st := by
  have hl : i < xs.length := (List.getElem?_eq_some_iff.mp h).1
  unfold fIx
  simp only [hx, ix_nat hl, h]
theorem fIx_tup {st : Sto} {d : D} {xs : List D} {i : Nat} (h : xs[i]? = some d) : fIx (.tup xs) (.int (i : Int)) st = .ok d st := fIx_at rfl h
theorem fIx_last {st : Sto} {x : D} {xs : List D} {d : D} (hx : items st x = some (xs ++ [d])) : fIx x (.int (-1)) st = .ok d st := by
  unfold fIx
  simp only [hx]
  have e : ixD (xs ++ [d]).length (-1) = some xs.length := by
    unfold ixD
    rw [if_neg (by omega), List.length_append, if_pos (by simp <;> omega)]
    simp
    omega
  rw [e]
  simp
theorem fExtend_ref {st : Sto} {l : Nat} {xs ys : List D} {y : D} (h : st[l]? = some (.lst xs)) (hy : litems st y = some ys) (hz : xs.length + ys.length ≤ sizeLine) : fExtend (.ref l) y st = .ok .non (st.set l (.lst (xs ++ ys))) := by
  simp only [fExtend, h, hy, if_pos hz]
theorem fAppend_ref {st : Sto} {l : Nat} {xs : List D} {y : D} (h : st[l]? = some (.lst xs)) (hz : xs.length < sizeLine) : fAppend (.ref l) y st = .ok .non (st.set l (.lst (xs ++ [y]))) := by
  simp only [fAppend, h, if_pos hz]
theorem sto_get (st ex : Sto) (o : MO) : (st ++ (ex ++ [o]))[st.length + ex.length]? = some o := by
  rw [← List.append_assoc, List.getElem?_append_right (by simp)]
  simp
theorem sto_set (st ex : Sto) (o o' : MO) : (st ++ (ex ++ [o])).set (st.length + ex.length) o' = st ++ (ex ++ [o']) := by
  rw [← List.append_assoc, List.set_append_right (h := by simp)]
  simp
theorem sto_get1 (st : Sto) (o : MO) : (st ++ [o])[st.length]? = some o := by simp
theorem sto_set1 (st : Sto) (o o' : MO) : (st ++ [o]).set st.length o' = st ++ [o'] := by simp
theorem fSetIx_ref {st : Sto} {l i : Nat} {xs : List D} {v : D} (h : st[l]? = some (.lst xs)) (hi : i < xs.length) : fSetIx (.ref l) (.int (i : Int)) v st = some (st.set l (.lst (xs.set i v))) := by
  have e : ixD xs.length (i : Int) = some i := by
    unfold ixD
    rw [if_pos (by omega), if_pos (by omega)]
    simp
  simp only [fSetIx, h, e]
/-! what stands by value -/
abbrev row (r : List Int) : D := .tup (r.map D.int)
abbrev tbl (t : List (List Int)) : D := .tup (t.map row)
def Fz (f : Nat) (d : D) : Prop := ∀ st n, frzD st n f d = some d
theorem fz_int (f : Nat) (i : Int) : Fz f (.int i) := fun st n => by cases f <;> rfl
theorem fz_bl (f : Nat) (i : Bool) : Fz f (.bl i) := fun st n => by cases f <;> rfl
theorem fz_non (f : Nat) : Fz f .non := fun st n => by cases f <;> rfl
theorem fz_str (f : Nat) (x : Str) : Fz f (.str x) := fun st n => by cases f <;> rfl
theorem allSome_map {α β : Type} {f : α → Option β} {g : α → β} : ∀ {l : List α}, (∀ a ∈ l, f a = some (g a)) → allSome (l.map f) = some (l.map g)
  | [], _ => rfl
  | a :: l, h => by
    rw [List.map_cons, h a List.mem_cons_self, allSome, allSome_map fun b hb => h b (List.mem_cons_of_mem _ hb)]
    rfl
theorem allSome_id {f : D → Option D} {l : List D} (h : ∀ d ∈ l, f d = some d) : allSome (l.map f) = some l := by
  rw [allSome_map (g := id) h, List.map_id]
theorem fz_tup {f : Nat} {ds : List D} (h : ∀ d ∈ ds, Fz f d) : Fz (f + 1) (.tup ds) := fun st n => by
  rw [frzD]
  simp only [allSome_id fun d hd => h d hd st n, Option.map_some]
theorem fz_lst {f : Nat} {ds : List D} (h : ∀ d ∈ ds, Fz f d) : Fz (f + 1) (.lst ds) := fun st n => by
  rw [frzD]
  simp only [allSome_id fun d hd => h d hd st n, Option.map_some]
theorem fz_row (f : Nat) (r : List Int) : Fz (f + 1) (row r) := fz_tup fun d hd => by
  obtain ⟨i, _, rfl⟩ := List.mem_map.mp hd
  exact fz_int f i
theorem fz_rows (f : Nat) (t : List (List Int)) : Fz (f + 2) (.tup (t.map row)) := fz_tup fun d hd => by
  obtain ⟨i, _, rfl⟩ := List.mem_map.mp hd
  exact fz_row f i
theorem fz_lrows (f : Nat) (t : List (List Int)) : Fz (f + 2) (.lst (t.map row)) := fz_lst fun d hd => by
  obtain ⟨i, _, rfl⟩ := List.mem_map.mp hd
  exact fz_row f i
/-! stores -/
def WF (st : Sto) : Prop := st.all (noRefO st.length) = true
mutual
theorem noRef_mono {n m : Nat} (h : n ≤ m) : ∀ d : D, noRef n d = true → noRef m d = true
  | .non, _ => rfl
  | .bl _, _ => rfl
  | .int _, _ => rfl
  | .str _, _ => rfl
  | .raw _, _ => rfl
  | .fn _, _ => rfl
  | .ref l, q => by
    unfold noRef at q ⊢
    have := of_decide_eq_true q
    exact decide_eq_true (by omega)
  | .tup xs, q => by
    unfold noRef at q ⊢
    exact noRefs_mono h xs q
  | .lst xs, q => by
    unfold noRef at q ⊢
    exact noRefs_mono h xs q
  | .fz xs, q => by
    unfold noRef at q ⊢
    exact noRefs_mono h xs q
  | .tpl xs, q => by
    unfold noRef at q ⊢
    exact noRefs_mono h xs q
  | .dk _ xs, q => by
    unfold noRef at q ⊢
    exact noRefs_mono h xs q
  | .xc _ _ _ xs, q => by
    unfold noRef at q ⊢
    exact noRefs_mono h xs q
theorem noRefs_mono {n m : Nat} (h : n ≤ m) : ∀ ds : List D, noRefs n ds = true → noRefs m ds = true
  | [], _ => rfl
  | d :: ds, q => by
    unfold noRefs at q ⊢
    obtain ⟨q1, q2⟩ := Bool.and_eq_true_iff.mp q
    exact Bool.and_eq_true_iff.mpr ⟨noRef_mono h d q1, noRefs_mono h ds q2⟩
end
theorem noRefO_mono {n m : Nat} (h : n ≤ m) : ∀ o : MO, noRefO n o = true → noRefO m o = true
  | .lst xs, q => noRefs_mono h xs q
  | .dk _ xs, q => noRefs_mono h xs q
  | .gone, _ => rfl
theorem noRefs_all {n : Nat} : ∀ {ds : List D}, (∀ d ∈ ds, noRef n d = true) → noRefs n ds = true
  | [], _ => rfl
  | d :: ds, h => by
    unfold noRefs
    exact Bool.and_eq_true_iff.mpr ⟨h d List.mem_cons_self, noRefs_all fun e he => h e (List.mem_cons_of_mem _ he)⟩
theorem noRefs_mem {n : Nat} : ∀ {ds : List D}, noRefs n ds = true → ∀ d ∈ ds, noRef n d = true
  | d :: ds, h, e, he => by
    unfold noRefs at h
    obtain ⟨q1, q2⟩ := Bool.and_eq_true_iff.mp h
    rcases List.mem_cons.mp he with rfl | he
    · exact q1
    · exact noRefs_mem q2 e he
theorem WF.nil : WF [] := rfl
theorem WF.app {st : Sto} (h : WF st) {o : MO} (ho : noRefO (st.length + 1) o = true) : WF (st ++ [o]) := by
  unfold WF at h ⊢
  rw [List.all_append, List.length_append]
  refine Bool.and_eq_true_iff.mpr ⟨List.all_eq_true.mpr fun x hx => noRefO_mono (by omega) x (List.all_eq_true.mp h x hx), ?_⟩
  simpa using ho
theorem WF.set {st : Sto} (h : WF st) (l : Nat) {o : MO} (ho : noRefO st.length o = true) : WF (st.set l o) := by
  unfold WF at h ⊢
  rw [List.length_set]
  refine List.all_eq_true.mpr fun x hx => ?_
  rcases List.mem_or_eq_of_mem_set hx with hx | rfl
  · exact List.all_eq_true.mp h x hx
  · exact ho
theorem noRef_row (n : Nat) (r : List Int) : noRef n (row r) = true := by
  unfold noRef
  exact noRefs_all fun d hd => by
    obtain ⟨i, _, rfl⟩ := List.mem_map.mp hd
    rfl
theorem defFin_rt {n : Nat} {b : SS} {ds : List D} {st st' ex : Sto} {d d' : D} (h : b (startD n ds) st = some (.rt d, st' ++ ex)) (hl : st'.length = st.length) (hw : WF st') (hf : frzD (st' ++ ex) st.length 60 d = some d') : defFin n b ds st = .ok d' st' := by
  unfold defFin defRaw
  rw [h]
  show fin st.length (.ok d (st' ++ ex)) = _
  unfold fin
  dsimp only
  rw [hf]
  have e : (st' ++ ex).take st.length = st' := by rw [← hl, List.take_left]
  rw [e]
  dsimp only
  rw [if_pos (by rw [← hl]; exact hw)]
theorem defFin_nx {n : Nat} {b : SS} {ds : List D} {st st' ex : Sto} {ρ : Ev} (h : b (startD n ds) st = some (.nx ρ, st' ++ ex)) (hl : st'.length = st.length) (hw : WF st') : defFin n b ds st = .ok .non st' := by
  unfold defFin defRaw
  rw [h]
  show fin st.length (.ok .non (st' ++ ex)) = _
  unfold fin
  dsimp only
  rw [show frzD (st' ++ ex) st.length 60 .non = some .non from rfl]
  have e : (st' ++ ex).take st.length = st' := by rw [← hl, List.take_left]
  rw [e]
  dsimp only
  rw [if_pos (by rw [← hl]; exact hw)]
/-- a def that leaves the store -/
theorem defFin_v {n : Nat} {b : SS} {ds : List D} {st : Sto} {d : D} (hw : WF st) (hf : Fz 60 d) (h : b (startD n ds) st = some (.rt d, st)) : defFin n b ds st = .ok d st :=
  defFin_rt (ex := []) (by rw [List.append_nil]; exact h) rfl hw (by rw [List.append_nil]; exact hf _ _)
theorem defFin_n {n : Nat} {b : SS} {ds : List D} {st : Sto} {ρ : Ev} (hw : WF st) (h : b (startD n ds) st = some (.nx ρ, st)) : defFin n b ds st = .ok .non st :=
  defFin_nx (ex := []) (by rw [List.append_nil]; exact h) rfl hw

/-! ### comprehensions -/
def Still (dy : Dy) (ds : List D) (st : Sto) : Prop := match dy with
  | none => True
  | some (.inl l) => st[l]? = some (.lst ds)
  | some (.inr l) => ∃ xs, st[l]? = some (.lst xs) ∧ ds = enumFromD 0 xs
theorem still_none (ds : List D) (st : Sto) : Still none ds st := True.intro
theorem still_some {l : Nat} {ds : List D} {st : Sto} (h : st[l]? = some (.lst ds)) : Still (some (.inl l)) ds st := h
theorem enumFromD_get : ∀ (xs : List D) (k i : Nat), (enumFromD k xs)[i]? = (xs[i]?).map fun x => .tpl [.int ((k + i : Nat) : Int), x]
  | [], _, _ => rfl
  | x :: xs, k, 0 => rfl
  | x :: xs, k, i + 1 => by
    rw [enumFromD, List.getElem?_cons_succ, List.getElem?_cons_succ, enumFromD_get xs (k + 1) i, show k + 1 + i = k + (i + 1) by omega]
theorem enumFromD_len : ∀ (xs : List D) (k : Nat), (enumFromD k xs).length = xs.length
  | [], _ => rfl
  | x :: xs, k => by rw [enumFromD, List.length_cons, List.length_cons, enumFromD_len xs (k + 1)]
theorem still_enum {l : Nat} {xs : List D} {st : Sto} (h : st[l]? = some (.lst xs)) : Still (some (.inr l)) (enumFromD 0 xs) st := ⟨xs, h, rfl⟩
theorem Still.fetch {dy : Dy} {ds : List D} {st : Sto} (h : Still dy ds st) {i : Nat} {d : D} (e : ds[i]? = some d) : fetch dy i d st = some d := by
  match dy, h with
  | none, _ => rfl
  | some (.inl l), h =>
    have h : st[l]? = some (.lst ds) := h
    unfold PD.fetch; simp only [h, e]
  | some (.inr l), h =>
    obtain ⟨xs, hx, rfl⟩ := h
    rw [enumFromD_get, Nat.zero_add] at e
    unfold PD.fetch; simp only [hx, e]
theorem Still.fin {dy : Dy} {ds : List D} {st : Sto} (h : Still dy ds st) : finOk dy ds.length st = true := by
  match dy, h with
  | none, _ => rfl
  | some (.inl l), h =>
    have h : st[l]? = some (.lst ds) := h
    unfold finOk; simp only [h, beq_self_eq_true]
  | some (.inr l), h =>
    obtain ⟨xs, hx, rfl⟩ := h
    unfold finOk; simp only [hx, enumFromD_len, beq_self_eq_true]
theorem lc_loop {α : Type} {dy : Dy} {g : TgD} {t : ST} {e : SE} {ρ0 : Ev} {st : Sto} {all : List D} {φ : α → D} {c : α → Bool} {f : α → D} (hs : Still dy all st) :
    ∀ (xs : List α) (i : Nat), all.drop i = xs.map φ → (∀ a ∈ xs, ∃ ρ1, g (φ a) ρ0 = some ρ1 ∧ t ρ1 st = .ok (c a) st ∧ (c a = true → e ρ1 st = .ok (f a) st)) →
      loopLC dy all.length g t e ρ0 i (xs.map φ) st = .ok ((xs.filter c).map f) st
  | [], i, hd, h => by
    simp only [List.map_nil, List.filter_nil, loopLC, hs.fin, if_true]
  | a :: xs, i, hd, h => by
    obtain ⟨ρ1, h1, h2, h3⟩ := h a List.mem_cons_self
    have hi : all[i]? = some (φ a) := by
      have := congrArg (fun l : List D => l[0]?) hd
      simpa using this
    have hd2 : all.drop (i + 1) = xs.map φ := by
      have := congrArg (fun l : List D => l.drop 1) hd
      simpa [List.drop_drop] using this
    have ih := lc_loop hs xs (i + 1) hd2 fun b hb => h b (List.mem_cons_of_mem _ hb)
    rw [List.map_cons, loopLC, hs.fetch hi]
    simp only [h1, h2, nx_ok, bind_ok]
    cases hc : c a with
    | true => simp only [h3 hc, if_true, nx_ok, bind_ok, ih, List.filter_cons_of_pos hc, List.map_cons]
    | false => simp only [Bool.false_eq_true, if_false, ih, List.filter_cons_of_neg (show ¬ c a = true by rw [hc]; decide)]
theorem sLC_if {α : Type} {m : Bool} {it : SI} {dy : Dy} {g : TgD} {t : ST} {e : SE} {vs : List Nat} {ρ : Ev} {st : Sto} (xs : List α) (φ : α → D) (c : α → Bool) (f : α → D) (hit : it ρ st = .ok (xs.map φ, dy) st) (hs : Still dy (xs.map φ) st) (hz : xs.length ≤ sizeLine)
    (h : ∀ a ∈ xs, ∃ ρ1, g (φ a) (wipeD ρ vs) = some ρ1 ∧ t ρ1 st = .ok (c a) st ∧ (c a = true → e ρ1 st = .ok (f a) st)) : sLC m it g t e vs ρ st = newL m ((xs.filter c).map f) st := by
  unfold sLC
  rw [hit]
  simp only [bind_ok, List.length_map]
  rw [if_pos hz]
  have := lc_loop hs xs 0 rfl h
  rw [List.length_map] at this
  rw [this]
  rfl
theorem sLC_map {α : Type} {m : Bool} {it : SI} {dy : Dy} {g : TgD} {e : SE} {vs : List Nat} {ρ : Ev} {st : Sto} (xs : List α) (φ : α → D) (f : α → D) (hit : it ρ st = .ok (xs.map φ, dy) st) (hs : Still dy (xs.map φ) st) (hz : xs.length ≤ sizeLine)
    (h : ∀ a ∈ xs, ∃ ρ1, g (φ a) (wipeD ρ vs) = some ρ1 ∧ e ρ1 st = .ok (f a) st) : sLC m it g tYesD e vs ρ st = newL m (xs.map f) st := by
  have := sLC_if (m := m) (t := tYesD) (vs := vs) xs φ (fun _ => true) f hit hs hz fun a ha => by
    obtain ⟨ρ1, h1, h2⟩ := h a ha
    exact ⟨ρ1, h1, rfl, fun _ => h2⟩
  rw [this, List.filter_eq_self.mpr fun _ _ => rfl]

/-! ### for -/
theorem drop_head {α β : Type} {l : List α} {φ : β → α} {b : β} {r : List β} {i : Nat} (h : l.drop i = (b :: r).map φ) : l[i]? = some (φ b) ∧ l.drop (i + 1) = r.map φ := by
  constructor
  · have := congrArg (fun l : List α => l[0]?) h
    simpa using this
  · have := congrArg (fun l : List α => l.drop 1) h
    simpa [List.drop_drop] using this
theorem for_loopS {α : Type} {g : TgD} {b : SS} {dy : Dy} {all : List D} {φ : α → D} (I : List α → Ev → Sto → Prop) (R : D → Sto → Prop) (hS : ∀ r ρ st, I r ρ st → Still dy all st)
    (step : ∀ a r ρ st, I (a :: r) ρ st → ∃ ρ1, g (φ a) ρ = some ρ1 ∧ ((∃ ρ2 st2, (b ρ1 st = some (.nx ρ2, st2) ∨ b ρ1 st = some (.ct ρ2, st2)) ∧ I r ρ2 st2) ∨ ∃ d st2, b ρ1 st = some (.rt d, st2) ∧ R d st2)) :
    ∀ (xs : List α) (i : Nat) (ρ : Ev) (st : Sto), all.drop i = xs.map φ → I xs ρ st → (∃ ρ' st', loopFor dy all.length g b i (xs.map φ) ρ st = some (.nx ρ', st') ∧ I [] ρ' st') ∨ ∃ d st', loopFor dy all.length g b i (xs.map φ) ρ st = some (.rt d, st') ∧ R d st'
  | [], i, ρ, st, _, h => .inl ⟨ρ, st, by simp [loopFor, (hS _ _ _ h).fin], h⟩
  | a :: xs, i, ρ, st, hd, h => by
    obtain ⟨ρ1, h1, h2⟩ := step a xs ρ st h
    obtain ⟨hi, hd2⟩ := drop_head hd
    rw [List.map_cons, loopFor, (hS _ _ _ h).fetch hi]
    simp only [h1]
    rcases h2 with ⟨ρ2, st2, h3 | h3, h4⟩ | ⟨d, st2, h3, h4⟩
    · rw [h3]; exact for_loopS I R hS step xs (i + 1) ρ2 st2 hd2 h4
    · rw [h3]; exact for_loopS I R hS step xs (i + 1) ρ2 st2 hd2 h4
    · rw [h3]; exact .inr ⟨d, st2, rfl, h4⟩
/-- a walk over a list of the store that nothing leaves early -/
theorem for_allS {α : Type} {g : TgD} {b : SS} {dy : Dy} {φ : α → D} (I : List α → Ev → Sto → Prop) (xs : List α) (hS : ∀ r ρ st, I r ρ st → Still dy (xs.map φ) st)
    (step : ∀ a r ρ st, I (a :: r) ρ st → ∃ ρ1, g (φ a) ρ = some ρ1 ∧ ∃ ρ2 st2, (b ρ1 st = some (.nx ρ2, st2) ∨ b ρ1 st = some (.ct ρ2, st2)) ∧ I r ρ2 st2)
    (ρ : Ev) (st : Sto) (h : I xs ρ st) : ∃ ρ' st', loopFor dy xs.length g b 0 (xs.map φ) ρ st = some (.nx ρ', st') ∧ I [] ρ' st' := by
  have q := for_loopS (all := xs.map φ) I (fun _ _ => False) hS (fun a r ρ st h => by
    obtain ⟨ρ1, h1, h2⟩ := step a r ρ st h
    exact ⟨ρ1, h1, .inl h2⟩) xs 0 ρ st rfl h
  rw [List.length_map] at q
  rcases q with q | ⟨_, _, _, q⟩
  · exact q
  · exact q.elim
theorem for_loop {α : Type} {g : TgD} {b : SS} {φ : α → D} (I : List α → Ev → Sto → Prop) (R : D → Sto → Prop) (xs : List α)
    (step : ∀ a r ρ st, I (a :: r) ρ st → ∃ ρ1, g (φ a) ρ = some ρ1 ∧ ((∃ ρ2 st2, (b ρ1 st = some (.nx ρ2, st2) ∨ b ρ1 st = some (.ct ρ2, st2)) ∧ I r ρ2 st2) ∨ ∃ d st2, b ρ1 st = some (.rt d, st2) ∧ R d st2))
    (ρ : Ev) (st : Sto) (h : I xs ρ st) : (∃ ρ' st', loopFor none xs.length g b 0 (xs.map φ) ρ st = some (.nx ρ', st') ∧ I [] ρ' st') ∨ ∃ d st', loopFor none xs.length g b 0 (xs.map φ) ρ st = some (.rt d, st') ∧ R d st' := by
  have q := for_loopS (dy := none) (all := xs.map φ) I R (fun _ _ _ _ => still_none _ _) step xs 0 ρ st rfl h
  rw [List.length_map] at q
  exact q
/-- a loop that nothing leaves early -/
theorem for_all {α : Type} {g : TgD} {b : SS} {φ : α → D} (I : List α → Ev → Sto → Prop) (xs : List α)
    (step : ∀ a r ρ st, I (a :: r) ρ st → ∃ ρ1, g (φ a) ρ = some ρ1 ∧ ∃ ρ2 st2, (b ρ1 st = some (.nx ρ2, st2) ∨ b ρ1 st = some (.ct ρ2, st2)) ∧ I r ρ2 st2)
    (ρ : Ev) (st : Sto) (h : I xs ρ st) : ∃ ρ' st', loopFor none xs.length g b 0 (xs.map φ) ρ st = some (.nx ρ', st') ∧ I [] ρ' st' :=
  for_allS (dy := none) I xs (fun _ _ _ _ => still_none _ _) step ρ st h
/-- a loop that looks for the first; the store stays -/
theorem for_some0 {α : Type} {g : TgD} {b : SS} {φ : α → D} {st : Sto} {dy : Dy} {all : List D} (hs : Still dy all st) (J : Ev → Prop) (c : α → Option D) : ∀ (xs : List α) (i : Nat) (ρ : Ev), all.drop i = xs.map φ → J ρ →
    (∀ a ∈ xs, ∀ ρ, J ρ → ∃ ρ1, g (φ a) ρ = some ρ1 ∧ ((∃ d, c a = some d ∧ b ρ1 st = some (.rt d, st)) ∨ (c a = none ∧ ∃ ρ2, (b ρ1 st = some (.nx ρ2, st) ∨ b ρ1 st = some (.ct ρ2, st)) ∧ J ρ2))) →
    (∃ d, xs.findSome? c = some d ∧ loopFor dy all.length g b i (xs.map φ) ρ st = some (.rt d, st)) ∨ (xs.findSome? c = none ∧ ∃ ρ', loopFor dy all.length g b i (xs.map φ) ρ st = some (.nx ρ', st) ∧ J ρ')
  | [], i, ρ, hd, h, _ => .inr ⟨rfl, ρ, by simp [loopFor, hs.fin], h⟩
  | a :: xs, i, ρ, hd, h, step => by
    obtain ⟨ρ1, h1, h2⟩ := step a List.mem_cons_self ρ h
    obtain ⟨hi, hd2⟩ := drop_head hd
    rw [List.map_cons, loopFor, hs.fetch hi, List.findSome?_cons]
    simp only [h1]
    rcases h2 with ⟨d, hc, hb⟩ | ⟨hc, ρ2, hb, hj⟩
    · rw [hc, hb]; exact .inl ⟨d, rfl, rfl⟩
    · rw [hc]
      have ih := for_some0 hs J c xs (i + 1) ρ2 hd2 hj fun a ha => step a (List.mem_cons_of_mem _ ha)
      rcases hb with hb | hb
      · rw [hb]; exact ih
      · rw [hb]; exact ih
theorem for_some {α : Type} {g : TgD} {b : SS} {φ : α → D} {st : Sto} {dy : Dy} (xs : List α) (hs : Still dy (xs.map φ) st) (J : Ev → Prop) (c : α → Option D) (ρ : Ev) (h : J ρ)
    (step : ∀ a ∈ xs, ∀ ρ, J ρ → ∃ ρ1, g (φ a) ρ = some ρ1 ∧ ((∃ d, c a = some d ∧ b ρ1 st = some (.rt d, st)) ∨ (c a = none ∧ ∃ ρ2, (b ρ1 st = some (.nx ρ2, st) ∨ b ρ1 st = some (.ct ρ2, st)) ∧ J ρ2))) :
    (∃ d, xs.findSome? c = some d ∧ loopFor dy xs.length g b 0 (xs.map φ) ρ st = some (.rt d, st)) ∨ (xs.findSome? c = none ∧ ∃ ρ', loopFor dy xs.length g b 0 (xs.map φ) ρ st = some (.nx ρ', st) ∧ J ρ') := by
  have q := for_some0 hs J c xs 0 ρ rfl h step
  rw [List.length_map] at q
  exact q
/-! the same, of a loop in a goal (generalize it, then ask) -/
section
variable {α : Type} {g : TgD} {b : SS} {st : Sto} {dy : Dy} {L : Nat} {ds : List D} {ρ : Ev} {r : Option (Fl × Sto)}
theorem for_some_e (hL : loopFor dy L g b 0 ds ρ st = r) (xs : List α) (φ : α → D) (ed : ds = xs.map φ) (eL : L = xs.length) (hs : Still dy (xs.map φ) st) (J : Ev → Prop) (c : α → Option D) (h : J ρ)
    (step : ∀ a ∈ xs, ∀ ρ, J ρ → ∃ ρ1, g (φ a) ρ = some ρ1 ∧ ((∃ d, c a = some d ∧ b ρ1 st = some (.rt d, st)) ∨ (c a = none ∧ ∃ ρ2, (b ρ1 st = some (.nx ρ2, st) ∨ b ρ1 st = some (.ct ρ2, st)) ∧ J ρ2))) :
    (∃ d, xs.findSome? c = some d ∧ r = some (.rt d, st)) ∨ (xs.findSome? c = none ∧ ∃ ρ', r = some (.nx ρ', st) ∧ J ρ') := by
  subst hL ed eL
  exact for_some xs hs J c ρ h step
/-- nothing is found -/
theorem for_none_e (hL : loopFor dy L g b 0 ds ρ st = r) (xs : List α) (φ : α → D) (ed : ds = xs.map φ) (eL : L = xs.length) (hs : Still dy (xs.map φ) st) (J : Ev → Prop) (h : J ρ)
    (step : ∀ a ∈ xs, ∀ ρ, J ρ → ∃ ρ1, g (φ a) ρ = some ρ1 ∧ ∃ ρ2, (b ρ1 st = some (.nx ρ2, st) ∨ b ρ1 st = some (.ct ρ2, st)) ∧ J ρ2) :
    ∃ ρ', r = some (.nx ρ', st) ∧ J ρ' := by
  rcases for_some_e hL xs φ ed eL hs J (fun _ => none) h fun a ha ρ hj => by
    obtain ⟨ρ1, h1, h2⟩ := step a ha ρ hj
    exact ⟨ρ1, h1, .inr ⟨rfl, h2⟩⟩ with ⟨d, e, _⟩ | ⟨_, q⟩
  · rw [List.findSome?_eq_none_iff.mpr fun _ _ => rfl] at e
    cases e
  · exact q
theorem for_all_e (hL : loopFor dy L g b 0 ds ρ st = r) (xs : List α) (φ : α → D) (ed : ds = xs.map φ) (eL : L = xs.length) (I : List α → Ev → Sto → Prop) (hS : ∀ r ρ st, I r ρ st → Still dy (xs.map φ) st) (h : I xs ρ st)
    (step : ∀ a r ρ st, I (a :: r) ρ st → ∃ ρ1, g (φ a) ρ = some ρ1 ∧ ∃ ρ2 st2, (b ρ1 st = some (.nx ρ2, st2) ∨ b ρ1 st = some (.ct ρ2, st2)) ∧ I r ρ2 st2) :
    ∃ ρ' st', r = some (.nx ρ', st') ∧ I [] ρ' st' := by
  subst hL ed eL
  exact for_allS I xs hS step ρ st h
end
/-! ranges -/
theorem rangeL_n (j : Nat) : rangeL 0 j = (List.range j).map fun i : Nat => D.int i := by
  unfold rangeL
  exact List.map_congr_left fun i _ => by rw [Int.zero_add]
theorem rangeL_0 (j : Nat) : rangeL 0 ((j : Int).toNat) = (List.range j).map fun i : Nat => D.int i := by
  unfold rangeL
  rw [Int.toNat_natCast]
  exact List.map_congr_left fun i _ => by rw [Int.zero_add]
theorem rangeL_2 (i j : Nat) : rangeL (i : Int) (((j : Int) - (i : Int)).toNat) = (List.range' i (j - i)).map fun k : Nat => D.int k := by
  unfold rangeL
  have e : ((j : Int) - (i : Int)).toNat = j - i := by omega
  rw [e, List.range'_eq_map_range, List.map_map]
  exact List.map_congr_left fun k _ => by
    show D.int _ = D.int _
    congr 1
theorem iRange1_nat {a : SA} {ρ : Ev} {st : Sto} {j : Nat} (h : a ρ st = .ok [.int (j : Int)] st) (hj : j ≤ 1000000) : iRange1 a ρ st = .ok ((List.range j).map fun i : Nat => D.int (i : Int), none) st := by
  simp only [iRange1_e, h, bind_ok, rangeL_0]
  rw [if_pos ⟨by omega, by omega⟩]
theorem iRange2_nat {a : SA} {ρ : Ev} {st : Sto} {i j : Nat} (h : a ρ st = .ok [.int (i : Int), .int (j : Int)] st) (hi : i ≤ 1000000) (hj : j ≤ 1000000) : iRange2 a ρ st = .ok ((List.range' i (j - i)).map fun i : Nat => D.int (i : Int), none) st := by
  simp only [iRange2_e, h, bind_ok, rangeL_2]
  rw [if_pos ⟨by omega, by omega, by omega, by omega⟩]
/-! enumerate, zip, slices -/
theorem enum_map {α : Type} (φ : α → D) : ∀ (k : Nat) (xs : List α), enumFromD k (xs.map φ) = (xs.zipIdx k).map fun p => D.tpl [.int (p.2 : Int), φ p.1]
  | _, [] => rfl
  | k, a :: xs => by
    rw [List.map_cons, enumFromD, enum_map φ (k + 1) xs, List.zipIdx_cons, List.map_cons]
theorem zip_map {α β : Type} (φ : α → D) (ψ : β → D) : ∀ (xs : List α) (ys : List β), zipD (xs.map φ) (ys.map ψ) = (xs.zip ys).map fun p => D.tpl [φ p.1, ψ p.2]
  | [], _ => rfl
  | _ :: _, [] => rfl
  | a :: xs, b :: ys => by
    rw [List.map_cons, List.map_cons, zipD, zip_map φ ψ xs ys, List.zip_cons_cons, List.map_cons]
theorem cut_1 (xs : List D) : cutD xs (some 1) none = xs.drop 1 := by
  unfold cutD HT.sIx
  simp
  cases xs with
  | nil => simp
  | cons a xs => simp
end PD
/-! PDX: words for going through the plain semantics. -/
namespace PD
open PySem PySem.Spec PyProof.Rows L2
theorem set_ne_e {ρ : Ev} {i j : Nat} {v : Option D} (h : i ≠ j) : (ρ.set i v)[j]? = ρ[j]? := List.getElem?_set_ne h
theorem set_eq_e {ρ : Ev} {i : Nat} {v : Option D} (h : i < ρ.length) : (ρ.set i v)[i]? = some v := by
  rw [List.getElem?_set_self h]
@[simp] theorem sDict0_e (ρ : Ev) (st : Sto) : sDict0 ρ st = .ok (.dk [] []) st := id rfl
end PD
local macro_rules
  | `(tactic| simp_arith! [$ls,*] $[$loc]?) => `(tactic| simp only [PD.sVar_e, PD.sC_e, PD.s2_e, PD.s1_e, PD.tTru_e, PD.tBl_e, PD.tAndD_e, PD.tOrD_e, PD.tNotD_e, PD.tYesD_e, PD.sAnd_e, PD.sOr_e, PD.sNotV_e, PD.sIf_e, PD.sChain_e, PD.aNil_e, PD.aCons_e, PD.sTup_e, PD.sLst_e, PD.sCall_e, PD.sB_e, PD.sIsI_e, PD.oInt_e, PD.oNone_e, PD.sM_e, PD.sDict0_e, PD.gN_e, PD.gT2_e, PD.gT2_p, PD.gT3_e, PD.wipe_nil, PD.wipe_cons, PD.qNext_e, PD.qSet_e, PD.qPar_e, PD.qAsg_e, PD.qExpr_e, PD.qRet_e, PD.qRetN_e, PD.qBrk_e, PD.qCnt_e, PD.qIf_e, PD.qSetIx_e, PD.qAsgS_e, PD.uN_e, PD.uIx_e, PD.uT2_e, PD.uSeq_nx, PD.qSeq_e, PD.qFor_e, PD.sListR1_e, PD.sSlice_e, PD.then_nx, PD.then_rt, PD.then_ct, PD.then_bk, PD.bind_ok, PD.bind_exc, PD.bind_bad, PD.st_ok, PD.st_exc, PD.st_bad, PD.nx_ok, PD.newL_f, PD.newL_t, PD.fAdd_i, PD.fSub_i, PD.fNeg_i, PD.fLt_i, PD.fLe_i, PD.fGt_i, PD.fGe_i, PD.fEq_i, PD.fNe_i, PD.fEq_b, PD.fNe_b, PD.truD_bl, PD.items_tup, PD.items_lst, PD.items_fz, PD.litems_lst, PD.dyn_tup, PD.dyn_lst, PD.dyn_fz, PD.dyn_ref, PD.bLen_tup, PD.bLen_lst, PD.bTuple_lst, PD.bTuple_tup, PD.bInt_i, PD.bAbs_i, PD.bMin2_i, PD.bMax2_i, PD.fIsN2_n, PD.fIsN2_t, PD.fNotN2_n, PD.fNotN2_t, PD.isTy_int, PD.isTy_bool, PD.isTy_tuple, List.getElem?_cons_succ, List.getElem?_cons_zero, List.set_cons_succ, List.set_cons_zero, List.getElem?_set, List.length_set, List.length_cons, List.length_nil, List.length_map, Nat.reduceEqDiff, Nat.reduceLT, Nat.reduceAdd, Nat.reduceLeDiff, Option.bind_some, if_true, if_false, ite_true, ite_false, Bool.not_true, Bool.not_false, Bool.false_eq_true, reduceIte, decide_true, decide_false, PySem.sizeLine_eq, eq_self, Nat.succ_ne_zero, Nat.zero_ne_one, Nat.one_ne_zero, ne_eq, not_true, not_false_iff, and_self, and_true, true_and, $ls,*] $[$loc]?)
namespace PD
open PySem PySem.Spec PyProof.Rows L2
/-! a refusal: a def that raises -/
theorem defFin_ex {n : Nat} {b : SS} {ds : List D} {st : Sto} {ρ : Ev} {k : Str} (hw : WF st) (h : b (startD n ds) st = some (.ex k [] ρ, st)) : defFin n b ds st = .exc k [] st := by
  unfold defFin defRaw
  rw [h]
  show fin st.length (.exc k [] st) = _
  unfold fin
  have e : st.take st.length = st := by simp
  simp only [e, List.all_nil, Bool.true_and]
  exact if_pos hw
/-! comprehensions that change the store -/
theorem lc_inv {α β : Type} {g : TgD} {e : SE} {ρ0 : Ev} {φ : α → D} {n : Nat} (ψ : β → D) (I : Sto → Prop) (P : α → β → Prop) : ∀ (xs : List α) (i : Nat) (st : Sto), I st →
    (∀ a ∈ xs, ∀ st, I st → ∃ ρ1, g (φ a) ρ0 = some ρ1 ∧ ∃ y st', e ρ1 st = .ok (ψ y) st' ∧ I st' ∧ P a y) →
    ∃ ys st', loopLC none n g tYesD e ρ0 i (xs.map φ) st = .ok (ys.map ψ) st' ∧ I st' ∧ ys.length = xs.length ∧ ∀ p ∈ xs.zip ys, P p.1 p.2
  | [], i, st, hi, h => ⟨[], st, rfl, hi, rfl, fun p hp => by simp at hp⟩
  | a :: xs, i, st, hi, h => by
    obtain ⟨ρ1, h1, y, st1, h2, hi1, hp⟩ := h a List.mem_cons_self st hi
    obtain ⟨ys, st2, h3, hi2, hl, hq⟩ := lc_inv (n := n) ψ I P xs (i + 1) st1 hi1 fun b hb => h b (List.mem_cons_of_mem _ hb)
    refine ⟨y :: ys, st2, ?_, hi2, by simp [hl], ?_⟩
    · rw [List.map_cons, loopLC]
      simp only [fetch, h1, tYesD_e, nx_ok, bind_ok, if_true, h2, h3, List.map_cons]
    · intro p hp'
      rw [List.zip_cons_cons] at hp'
      rcases List.mem_cons.mp hp' with rfl | hp'
      · exact hp
      · exact hq p hp'
theorem sLC_inv {α β : Type} {it : SI} {g : TgD} {e : SE} {vs : List Nat} {ρ : Ev} {st st0 : Sto} (xs : List α) (φ : α → D) (ψ : β → D) (I : Sto → Prop) (P : α → β → Prop) (hit : it ρ st0 = .ok (xs.map φ, none) st) (hz : xs.length ≤ sizeLine) (hi : I st)
    (h : ∀ a ∈ xs, ∀ st, I st → ∃ ρ1, g (φ a) (wipeD ρ vs) = some ρ1 ∧ ∃ y st', e ρ1 st = .ok (ψ y) st' ∧ I st' ∧ P a y) :
    ∃ ys st', sLC false it g tYesD e vs ρ st0 = .ok (.lst (ys.map ψ)) st' ∧ I st' ∧ ys.length = xs.length ∧ ∀ p ∈ xs.zip ys, P p.1 p.2 := by
  obtain ⟨ys, st', h1, h2, h3, h4⟩ := lc_inv (n := xs.length) ψ I P xs 0 st hi h
  refine ⟨ys, st', ?_, h2, h3, h4⟩
  unfold sLC
  rw [hit]
  simp only [bind_ok, List.length_map]
  rw [if_pos hz, h1]
  rfl
theorem for_loop_e {α : Type} {g : TgD} {b : SS} {st : Sto} {dy : Dy} {L : Nat} {ds : List D} {ρ : Ev} {r : Option (Fl × Sto)} (hL : loopFor dy L g b 0 ds ρ st = r) (xs : List α) (φ : α → D) (ed : ds = xs.map φ) (eL : L = xs.length) (I : List α → Ev → Sto → Prop) (R : D → Sto → Prop) (hS : ∀ r ρ st, I r ρ st → Still dy (xs.map φ) st) (h : I xs ρ st)
    (step : ∀ a r ρ st, I (a :: r) ρ st → ∃ ρ1, g (φ a) ρ = some ρ1 ∧ ((∃ ρ2 st2, (b ρ1 st = some (.nx ρ2, st2) ∨ b ρ1 st = some (.ct ρ2, st2)) ∧ I r ρ2 st2) ∨ ∃ d st2, b ρ1 st = some (.rt d, st2) ∧ R d st2)) :
    (∃ ρ' st', r = some (.nx ρ', st') ∧ I [] ρ' st') ∨ ∃ d st', r = some (.rt d, st') ∧ R d st' := by
  subst hL ed eL
  have q := for_loopS (all := xs.map φ) I R hS step xs 0 ρ st rfl h
  rw [List.length_map] at q
  exact q
/-! a list of words at the store's end -/
theorem litems_last (S : Sto) (ws : List D) : litems (S ++ [.lst ws]) (.ref S.length) = some ws := litems_ref (sto_get1 _ _)
theorem fAppend_last {S : Sto} {ws : List D} {w : D} (h : ws.length < sizeLine) : fAppend (.ref S.length) w (S ++ [.lst ws]) = .ok .non (S ++ [.lst (ws ++ [w])]) := by
  rw [fAppend_ref (sto_get1 _ _) h, sto_set1]
theorem toPys_words (st : Sto) (n : Nat) : ∀ (ws : List Str), ws.all (fun w => PyData.canLay0 (.str w)) = true → allSome ((ws.map D.str).map (toPy st n)) = some (ws.map PyData.str)
  | [], _ => rfl
  | w :: ws, h => by
    rw [List.all_cons, Bool.and_eq_true] at h
    have e : toPy st n (.str w) = some (.str w) := by
      cases n <;> simp [toPy, atomPy, h.1]
    rw [List.map_cons, List.map_cons, e, allSome, toPys_words st n ws h.2]
    rfl
theorem eqvAll_words : ∀ (ws vs : List Str), PyData.eqvAll (ws.map PyData.str) (vs.map PyData.str) = decide (ws = vs)
  | [], [] => rfl
  | [], _ :: _ => rfl
  | _ :: _, [] => rfl
  | w :: ws, v :: vs => by
    rw [List.map_cons, List.map_cons, PyData.eqvAll, eqvAll_words ws vs]
    by_cases h : w = v <;> simp [PyData.eqv, h]
theorem fNe_words (S : Sto) (ws : List Str) (h : ws.all (fun w => PyData.canLay0 (.str w)) = true) : fNe (.ref S.length) (.lst (ws.map D.str)) (S ++ [.lst (ws.map D.str)]) = .ok (.bl false) (S ++ [.lst (ws.map D.str)]) := by
  have a : toPy (S ++ [.lst (ws.map D.str)]) 60 (.ref S.length) = some (.list (ws.map .str)) := by
    rw [toPy]
    simp only [sto_get1, toPys_words _ _ ws h, Option.map_some]
  have b : toPy (S ++ [.lst (ws.map D.str)]) 60 (.lst (ws.map D.str)) = some (.list (ws.map .str)) := by
    rw [toPy]
    simp only [toPys_words _ _ ws h, Option.map_some]
  unfold fNe
  rw [a, b]
  simp [PyData.eqv, eqvAll_words]
theorem noRefs_words (n : Nat) (ws : List Str) : noRefs n (ws.map D.str) = true := noRefs_all fun d hd => by
  obtain ⟨w, _, rfl⟩ := List.mem_map.mp hd
  rfl
theorem wf_words {S : Sto} (hw : WF S) (ws : List Str) : WF (S ++ [.lst (ws.map D.str)]) := hw.app (noRefs_words _ ws)
end PD
/-! PDMisc: constants that are tuples, isinstance of two classes, {k: v}, a def that calls itself, shifts, tuple.count. -/
namespace PD
open PySem PySem.Spec PyProof.Rows L2
section
variable {X : Cx} {T : List (Addr × Str)} {W : WX} {a b e : Expr} {fa fb fe : SE} {pos p : Pos} {x : Str}
/-! ### a constant of the module that is a tuple of ints -/
def TupK (K : PySem.W.Frag) (q : Addr) (ns : List Int) : Prop := ∃ (o : Obj) (its : Array Value) (n : Nat), K.lookup q = some o ∧ o.cls = .type "tuple" ∧ o.dict = none ∧ o.data = .seq its n ∧ its.size ≤ sizeLine ∧ Vals (ns.map V.int) its.toList
theorem pd_gtup {ns : List Int} (hg : Gl X x) (hm : ∃ q, X.mg x = some (.ref q) ∧ TupK X.K q ns) (hd : (x == ("__debug__" : Str)) = false := by decide) : PE X (.Name x pos) (tD (zX X T) W (sC (.tup (ns.map D.int)))) := by
  obtain ⟨q, hm, hk⟩ := hm
  refine PE.wk (pe_glob (v := .ref q) hg hm rfl hd) fun σ H Q ⟨g, ρ, st, S, E, h⟩ => EPost.val S (fun g' => ?_) h
  obtain ⟨o, its, n, h1, h2, hd', h3, h4, h5⟩ := hk
  refine .tup (vs := ns.map V.int) (.inr ⟨o, its, n, h1, h2, hd', h3, h4, h5⟩) ?_ (reps_ofInts ns)
  have := h5.length
  rw [this, Array.length_toList]
  exact h4
/-! ### isinstance(x, (t, u)) -/
def sIsT (t u : TyN) (e : SE) : SE := fun ρ st => (e ρ st).bind fun d st => match isTy t d, isTy u d with | some b, some c => .ok (.bl (b || c)) st | _, _ => .bad
@[simp] theorem sIsT_e (t u : TyN) (e : SE) (ρ : Ev) (st : Sto) : sIsT t u e ρ st = (e ρ st).bind fun d st => match isTy t d, isTy u d with | some b, some c => .ok (.bl (b || c)) st | _, _ => .bad := id rfl
theorem ty_of {K : PySem.W.Frag} {g : G} {st : Sto} {H : Hp} {d : D} {v : V} {t0 : TyN} {b0 : Bool} (S : Sim K T g st H) (r : Rep K g d v) (h0 : isTy t0 d = some b0) : ∃ s : String, TyX K H v (.type s) ∧ ∀ (t : TyN) (b : Bool), isTy t d = some b → kitB s (tyNm t) = some b := by
  cases d with
  | non => cases r; refine ⟨_, .base .non, fun t b h => ?_⟩; cases t <;> cases h <;> decide +kernel
  | bl k => cases r; refine ⟨_, .base (.bl k), fun t b h => ?_⟩; cases t <;> cases h <;> decide +kernel
  | int k => cases r; refine ⟨_, .base (.int k), fun t b h => ?_⟩; cases t <;> cases h <;> decide +kernel
  | str k => cases r; refine ⟨_, .base (.str k), fun t b h => ?_⟩; cases t <;> cases h <;> decide +kernel
  | tup xs =>
    obtain ⟨a, vs, rfl, h1, h2, h3⟩ := S.tup r
    have ty : TyX K H (.ref a) (.type "tuple") := by
      rcases h1 with (h1 | ⟨o, h1⟩) | ⟨o, its, n, h1, h2, _⟩
      · exact .base (.tup h1)
      · exact .fTuple h1
      · exact .kTuple h1 h2
    refine ⟨_, ty, fun t b h => ?_⟩; cases t <;> cases h <;> decide +kernel
  | lst xs =>
    obtain ⟨a, vs, rfl, h1, h2, h3⟩ := S.litems (xs := xs) r rfl
    refine ⟨_, .base (.lst h1), fun t b h => ?_⟩; cases t <;> cases h <;> decide +kernel
  | dk ks xs =>
    cases r with
    | dk e _ _ => refine ⟨_, .base (.dK (S.sub _ _ e)), fun t b h => ?_⟩; cases t <;> cases h <;> decide +kernel
  | _ => cases t0 <;> cases h0
theorem kitAny_two {K : PySem.W.Frag} {w c1 c2 : Value} {b c : Bool} (h1 : PySem.W.kitOne K w c1 = some b) (h2 : PySem.W.kitOne K w c2 = some c) : PySem.W.kitAny K w [c1, c2] = some (b || c) := by
  unfold PySem.W.kitAny
  rw [h1]
  cases b with
  | true => rfl
  | false =>
    unfold PySem.W.kitAny
    rw [h2]
    cases c <;> rfl
theorem pd_isT {t u : TyN} {n1 n2 : Str} {p0 p1 p2 p3 : Pos} {k : Nat} (hg : Gl X "isinstance") (hm : X.mg "isinstance" = none) (hg1 : Gl X n1) (hm1 : X.mg n1 = none) (hv1 : bootBuiltins n1 = some (.type (tyNm t))) (hg2 : Gl X n2) (hm2 : X.mg n2 = none) (hv2 : bootBuiltins n2 = some (.type (tyNm u))) (ha : PE X a (tD (zX X T) W fa))
    (hn1 : n1 ≠ "__name__" := by decide) (hd1 : (n1 == ("__debug__" : Str)) = false := by decide) (hn2 : n2 ≠ "__name__" := by decide) (hd2 : (n2 == ("__debug__" : Str)) = false := by decide)
    (hs1 : starEach [.Name n1 p1, .Name n2 p2] X.env = (false, eval (.Name n1 p1) X.env) :: starEach [.Name n2 p2] X.env := by rfl) (hs2 : starEach [.Name n2 p2] X.env = (false, eval (.Name n2 p2) X.env) :: starEach [] X.env := by rfl)
    (he : starEach [a, .Tuple [.Name n1 p1, .Name n2 p2] k p3] X.env = (false, eval a X.env) :: starEach [.Tuple [.Name n1 p1, .Name n2 p2] k p3] X.env := by rfl) (hpl : (backTo pos (starEach [.Tuple [.Name n1 p1, .Name n2 p2] k p3] X.env)).any (·.1) = false := by rfl) (hs : starEach [.Tuple [.Name n1 p1, .Name n2 p2] k p3] X.env = (false, eval (.Tuple [.Name n1 p1, .Name n2 p2] k p3) X.env) :: starEach [] X.env := by rfl) :
    PE X (.Call (.Name "isinstance" p0) [a, .Tuple [.Name n1 p1, .Name n2 p2] k p3] [] pos) (tD (zX X T) W (sIsT t u fa)) := by
  have b1 : PE X (.Name n1 p1) (tC (.ty (tyNm t))) := pe_bltn hg1 hm1 hv1 rfl hn1 hd1
  have b2 : PE X (.Name n2 p2) (tC (.ty (tyNm u))) := pe_bltn hg2 hm2 hv2 rfl hn2 hd2
  have bt := pe_tup (pos := p3) (x1 := k) (pa_cons b1 (pa_cons b2 pa_nil hs2) hs1)
  refine PE.wk (pe_callB call_isiT hg hm (by decide +kernel) (pa_cons ha (pa_cons bt pa_nil hs) he) (he := he) (hpl := hpl)) fun σ H Q ⟨g, ρ, st, S, E, q⟩ => ?_
  refine ⟨g, ρ, st, S, E, Sat.mono (sat_bind q) (fun d st1 q1 g1 H1 v L1 S1 r1 => ?_) fun _ _ _ q => q⟩
  split at q1
  · rename_i b c hb hc
    obtain ⟨s, ty, kk⟩ := ty_of S1 r1 hb
    refine ⟨by show 2 ≤ sizeLine; decide, fun tp hp => ?_⟩
    obtain ⟨S', L'⟩ := S1.allocB (o := .tup [.ty (tyNm t), .ty (tyNm u)]) hp (fun _ => by simp)
    obtain ⟨s2, ty2, kk2⟩ := ty_of S' (r1.mono L'.ge) hb
    exact ⟨v, tp, _, _, [.type (tyNm t), .type (tyNm u)], (b || c), rfl, upd_same, .cons (.ty _) (.cons (.ty _) .nil), ty2, kitAny_two (kt (kk2 t b hb)) (kt (kk2 u c hc)), q1 _ _ _ (L1.trans L') S' (.bl _)⟩
  · exact q1.elim
/-! ### 1 << k -/
def fShl (x y : D) (st : Sto) : Out D := match x, y with
  | .int i, .int j => if i = 1 ∧ 0 ≤ j ∧ j ≤ 1000 then .ok (.int (2 ^ j.toNat)) st else .bad
  | _, _ => .bad
theorem pd_shl (ha : PE X a (tD (zX X T) W fa)) (hb : PE X b (tD (zX X T) W fb)) : PE X (.BinOp a .LShift b pos) (tD (zX X T) W (s2 fShl fa fb)) := pd_op op_oneShl (by
  intro W σ g st H dx dy x y Q S rx ry h
  unfold fShl at h
  split at h
  · rename_i i j
    split at h
    · rename_i hz
      obtain ⟨rfl, h1, h2⟩ := hz
      cases rx; cases ry
      exact ⟨j.toNat, rfl, by rw [Int.toNat_of_nonneg h1], by omega, EPost.val S (fun _ => .int _) h⟩
    · exact h.elim
  · exact h.elim) ha hb
/-! ### t.count(i) -/
def fCountT (x y : D) (st : Sto) : Out D := match x, y with
  | .tup xs, .int k => (match allInt xs with | some is => .ok (.int (is.count k : Nat)) st | none => .bad)
  | _, _ => .bad
/-- a tuple's method of one argument -/
def sMT (f : D → D → Sto → Out D) (o e : SE) : SE := fun ρ st => (o ρ st).bind fun x st => match x with
  | .tup _ => (e ρ st).bind fun y st => f x y st
  | _ => .bad
@[simp] theorem sMT_e (f : D → D → Sto → Out D) (o e : SE) (ρ : Ev) (st : Sto) : sMT f o e ρ st = (o ρ st).bind fun x st => match x with
  | .tup _ => (e ρ st).bind fun y st => f x y st
  | _ => .bad := id rfl
theorem fCountT_i {xs : List Int} {k : Int} (st : Sto) : fCountT (.tup (xs.map D.int)) (.int k) st = .ok (.int (xs.count k : Nat)) st := by
  have e : allInt (xs.map D.int) = some xs := by
    induction xs with
    | nil => rfl
    | cons x xs ih => rw [List.map_cons, allInt, ih]; rfl
  unfold fCountT
  dsimp only
  rw [e]
def eqi (k : Int) : Value → Bool
  | .int i _ => decide (i = k)
  | _ => false
theorem eqi_count (k : Int) : ∀ {ns : List Int} {us : List Value}, Vals (ns.map V.int) us → us.countP (eqi k) = ns.count k ∧ ∀ y ∈ us, ∃ i t, y = .int i t
  | [], _, r => by cases r; exact ⟨rfl, fun y hy => by cases hy⟩
  | n :: ns, _, r => by
    rw [List.map_cons] at r
    cases r with
    | cons r1 r2 =>
      obtain ⟨t, rfl⟩ := r1
      obtain ⟨h1, h2⟩ := eqi_count k r2
      refine ⟨?_, fun y hy => ?_⟩
      · rw [List.countP_cons, List.count_cons, h1]
        simp [eqi]
      · rcases List.mem_cons.mp hy with rfl | hy
        · exact ⟨_, _, rfl⟩
        · exact h2 y hy
theorem sqN_ty {pins : List (Addr × Obj)} {σ : L2.St} {H : Hp} {s : Shared} {p : Addr} {ws : List V} (I : Inv X pins σ H s) (h : SqN X.K H p ws) : s.TypeIs (.ref p) "tuple" ∧ ∀ b, Value.ref p = .ref b → ∃ ob, s.heap.get? b = some ob ∧ ob.dict = none := by
  rcases h with ⟨o, hd, e⟩ | ⟨o, its, n, h1, h2, hd, _⟩
  · obtain ⟨e1, _, _, _, o2, e2, c, _⟩ := (show ObjOk X.prog X.w H s.heap p (.frz o (.tup ws)) from I.hok p _ e)
    rw [e1] at e2
    cases e2
    exact ⟨⟨o, e1, c⟩, fun b z => by cases z; exact ⟨o, e1, hd⟩⟩
  · exact ⟨⟨o, I.kIn p o h1, h2⟩, fun b z => by cases z; exact ⟨o, I.kIn _ o h1, hd⟩⟩
theorem pd_countT {o : Expr} {fo : SE} {apos cpos : Pos} (ho : PE X o (tD (zX X T) W fo)) (he : PE X e (tD (zX X T) W fe)) (hst : starEach [e] X.env = (false, eval e X.env) :: starEach [] X.env := by rfl)
    (hbase : attributeBase o "count" X.env (eval o X.env) = eval o X.env := by rfl)
    (hfew : ((backTo cpos (starEach [e] X.env)).all (fun x => !x.1) && (backToKw cpos (keywordEach [] X.env)).all (fun x => x.1.isSome)
      && decide ([e].length + ([] : List Keyword).length + (if ([] : List Keyword).isEmpty then 0 else 1) < 30)) = true := by rfl)
    (hline : (apos.endLine == cpos.line) = true := by rfl) (hplain : (backTo cpos (starEach [] X.env)).any (·.1) = false := by rfl) :
    PE X (.Call (.Attribute o "count" apos) [e] [] cpos) (tD (zX X T) W (sMT fCountT fo fe)) := by
  refine ⟨fun pins s σ H Q I ⟨g, ρ, st, S, E, q⟩ => ?_⟩
  refine wpAny_Call_method_late hbase hfew hline rfl (thn (ho.run pins s σ H (fun x H1 => ∃ g1 st1 d, Le g g1 H H1 ∧ Sim X.K T g1 st1 H1 ∧ Rep X.K g1 d x ∧ EPost (zX X T) W σ Q g1 H1 (match d with | .tup _ => (fe ρ st1).bind fun y st => fCountT d y st | _ => .bad)) I
    ⟨g, ρ, st, S, E, Sat.mono (sat_bind q) (fun d st1 q1 g1 H1 v L1 S1 r1 => ⟨g1, st1, d, L1, S1, r1, EPost.mono L1 q1⟩) fun _ _ _ q => q⟩) fun v s1 ⟨x, H1, I1, r1, g1, st1, d, L1, S1, rd, q1⟩ => ?_)
  split at q1
  · rename_i xs
    obtain ⟨a, vs, rfl, h1, h2, h3⟩ := S1.tupN rd
    cases r1
    obtain ⟨t1, t2⟩ := sqN_ty I1 h1
    refine ⟨"tuple", "tuple.count", PySem.F.plainAttrs_tuple, PySem.F.slot_tuple_count, PySem.F.type_tuple_count, t1, t2, ?_⟩
    have hA := (pa_consD (W := W) (T := T) he pa_nilD hst).run cpos pins s1 σ H1 (fun vs H2 => ∃ g2 st2 k y, vs = [y] ∧ Le g1 g2 H1 H2 ∧ Sim X.K T g2 st2 H2 ∧ Rep X.K g2 k y ∧ EPost (zX X T) W σ Q g2 H2 (fCountT (.tup xs) k st2)) I1
      ⟨g1, ρ, st1, S1, E.mono L1.ge, ?_⟩
    · rw [hst] at hA ⊢
      refine Calls.callWith_builtin (by show (false || (backTo cpos (starEach [] X.env)).any (·.1)) = false; rw [hplain] <;> rfl) (Calls.evalArgs_plain ?_)
      refine thn hA fun us s2 ⟨ys, H2, I2, r2, g2, st2, k, y, e2, L2, S2, rk, q2⟩ => ?_
      subst e2
      obtain ⟨u, rfl, ru⟩ := r2.one
      unfold fCountT at q2
      split at q2
      · rename_i zs kk hz1
        cases hz1
        split at q2
        · rename_i is hi
          cases rk
          obtain ⟨tk, rfl⟩ := ru
          obtain ⟨a2, vs2, ea, k1, k2, k3⟩ := S2.tupN (rd.mono L2.ge)
          cases ea
          have hv := allInt_of k3 hi
          subst hv
          obtain ⟨its, rv, ⟨⟨cls, dd, data, sl⟩, ho2, hc, n, hd⟩, hlen⟩ := I2.tuple k1.t
          simp only at hc hd
          subst hc hd
          obtain ⟨c1, c2⟩ := eqi_count kk rv
          refine call_meets PySem.F.slot_tuple_count ⟨_, ho2, rfl⟩ PySem.F.entry_tuple_count (PySem.F.args_tuple_count_2 _ _)
            (SeqAt.tuple_countAt a its.toArray n dd sl (.int kk tk) (eqi kk)) ⟨ho2, fun y hy => ?_, ?_⟩
          · obtain ⟨i, t, rfl⟩ := c2 y (by simpa using hy)
            exact SeqAt.EqAt.int_int i t kk tk
          · refine ⟨.int (is.count kk : Nat), H2, I2.tok _, ⟨s2.toks, ?_⟩, EPost.val S2 (fun _ => .int _) q2⟩
            show Value.int ((its.countP (eqi kk) : Nat) : Int) s2.toks = Value.int ((is.count kk : Nat) : Int) s2.toks
            rw [c1]
        · exact q2.elim
      · exact q2.elim
    · refine sat_bind' (Sat.mono (sat_bind q1) (fun d2 st2 q2 => ?_) fun _ _ _ q => q)
      intro g2 H2 v2 L2 S2 r2
      cases r2 with
      | cons r2 r3 =>
        cases r3
        exact ⟨g2, st2, d2, _, rfl, L2, S2, r2, EPost.mono L2 q2⟩
  · exact q1.elim
/-! ### {k: e}, k written -/
theorem Sim.grow {K : PySem.W.Frag} {g : G} {st : Sto} {H : Hp} {p : Addr} {o : HO} (S : Sim K T g st H) (h : H p = none) : Sim K T g st (upd H p o) :=
  have k : ∀ a u, H a = some u → upd H p o a = some u := fun a u e => by rw [upd_ne (ne_of_none e h)]; exact e
  ⟨fun a u e => k _ _ (S.sub a u e), S.len, S.nd, fun a ha => let ⟨u, e, q⟩ := S.there a ha; ⟨u, k _ _ e, q⟩, fun l a mo e1 e2 => (S.obj l a mo e1 e2).mono (Ge.refl g) (fun z => z) (k a), S.tabs.ext k, S.tb⟩
theorem Sim.poke {K : PySem.W.Frag} {g : G} {st : Sto} {H : Hp} {p : Addr} {kvs kvs' : List (Key × V)} (S : Sim K T g st H) (hu : H p = some (.dK kvs)) (hb : g.B p = none) (hi : p ∉ g.ι) : Sim K T g st (upd H p (.dK kvs')) := by
  have nι : ∀ {l : Nat} {b : Addr}, g.ι[l]? = some b → b ≠ p := fun e z => hi (z ▸ List.mem_of_getElem? e)
  refine ⟨fun a u e => ?_, S.len, S.nd, fun a ha => ?_, fun l a mo e1 e2 => (S.obj l a mo e1 e2).mono (Ge.refl g) (fun z => z) fun u z => by rw [upd_ne (nι e1)]; exact z, fun q hq => ?_, S.tb⟩
  · rw [upd_ne (ne_of_none e hb)]; exact S.sub a u e
  · obtain ⟨u, e, q⟩ := S.there a ha
    have na : a ≠ p := fun z => by subst z; exact hi ha
    exact ⟨u, by rw [upd_ne na]; exact e, q⟩
  · obtain ⟨ps, h1, h2, h3⟩ := S.tabs q hq
    have n1 : q.1 ≠ p := fun z => by rw [z, hu] at h1; cases h1
    refine ⟨ps, by rw [upd_ne n1]; exact h1, h2, fun pos cv hc => ?_⟩
    obtain ⟨c, e1, e2⟩ := h3 pos cv hc
    have n2 : c ≠ p := fun z => by rw [z, hu] at e2; cases e2
    exact ⟨c, e1, by rw [upd_ne n2]; exact e2⟩
theorem Sim.adoptB {K : PySem.W.Frag} {g : G} {st : Sto} {H : Hp} {p : Addr} {o : HO} (S : Sim K T g st H) (hu : H p = some o) (hb : g.B p = none) (hi : p ∉ g.ι) (ho : ∀ ps, o ≠ .tbl ps) : Sim K T ⟨upd g.B p o, g.ι⟩ st H ∧ Ge g ⟨upd g.B p o, g.ι⟩ := by
  have ge : Ge g ⟨upd g.B p o, g.ι⟩ := ⟨fun a u e => by show upd g.B p o a = some u; rw [upd_ne (ne_of_none e hb)]; exact e, fun _ _ e => e⟩
  have nι : ∀ {l : Nat} {b : Addr}, g.ι[l]? = some b → b ≠ p := fun e z => hi (z ▸ List.mem_of_getElem? e)
  refine ⟨⟨fun a u e => ?_, S.len, S.nd, S.there, fun l b mo e1 e2 => (S.obj l b mo e1 e2).mono ge (fun z => by show upd g.B p o b = none; rw [upd_ne (nι e1)]; exact z) fun u z => z, S.tabs, fun a u e ps => ?_⟩, ge⟩
  · have e : upd g.B p o a = some u := e
    by_cases ha : a = p
    · subst ha; rw [upd_same] at e; cases e; exact hu
    · rw [upd_ne ha] at e; exact S.sub a u e
  · have e : upd g.B p o a = some u := e
    by_cases ha : a = p
    · subst ha; rw [upd_same] at e; cases e; exact ho ps
    · rw [upd_ne ha] at e; exact S.tb a u e ps
def sDict1 (k : Int) (e : SE) : SE := fun ρ st => (e ρ st).bind fun d st => .ok (.dk [.inl k] [d]) st
@[simp] theorem sDict1_e (k : Int) (e : SE) (ρ : Ev) (st : Sto) : sDict1 k e ρ st = (e ρ st).bind fun d st => .ok (.dk [.inl k] [d]) st := id rfl
theorem pd_dict1 {k : Int} {j : Nat} {p1 : Pos} (he : PE X e (tD (zX X T) W fe)) : PE X (.Dict [some (.Constant (.int k) j p1)] [e] pos) (tD (zX X T) W (sDict1 k fe)) :=
  PE.wk (pe_disp (pps_cons pe_int he pps_nil) rfl rfl (by simp) (Nat.le_of_ble_eq_true rfl)) fun σ H Q ⟨g, ρ, st, S, E, q⟩ p hp => by
    refine ⟨g, ρ, st, S.grow hp, E, Sat.mono (sat_bind q) (fun d st1 q1 g1 H1 v L1 S1 r1 => ?_) fun n fs st1 q1 => ?_⟩
    · obtain ⟨f1, f2, f3⟩ := L1.fr p _ upd_same (S.freshB hp) (S.freshI hp) (fun ps => by simp)
      refine ⟨f1, [(.inl k, v)], rfl, Nat.le_of_ble_eq_true rfl, ?_⟩
      obtain ⟨S3, ge⟩ := (S1.poke (kvs' := mergeK [] [(.inl k, v)]) f1 f2 f3).adoptB upd_same f2 f3 (fun ps => by simp)
      refine q1 _ _ _ ⟨L1.ge.trans ge, fun a u e1 e2 e3 e4 => ?_⟩ S3 (.dk (ks := [.inl k]) (vs := [v]) upd_same rfl (.one (r1.mono ge)))
      have na : a ≠ p := ne_of_none e1 hp
      obtain ⟨h1, h2, h3⟩ := L1.fr a u (by rw [upd_ne na]; exact e1) e2 e3 e4
      exact ⟨by rw [upd_ne na]; exact h1, by show upd g1.B p _ a = none; rw [upd_ne na]; exact h2, h3⟩
    · exact fun g' H' dx L' S' X' => q1 g' H' dx ⟨L'.ge, fun a u e1 e2 e3 e4 => L'.fr a u (by rw [upd_ne (ne_of_none e1 hp)]; exact e1) e2 e3 e4⟩ S' X'
/-! ### a def that calls itself: at depth 0 nothing is promised -/
def fNone : List D → Sto → Out D := fun _ _ => .bad
theorem fn_none {P : Program} {w : World} {K : PySem.W.Frag} {mg : Str → Option Value} {base : Heap} {k n : Nat} {f : Addr} {fd : FuncData} {ps : List Str} : FnOk P w K mg base (L2.CX P w) k f fd ps (spD ⟨K, T, mg⟩ n fNone) :=
  ⟨fun vs H Q E ⟨_, g, ds, st, _, _, q⟩ => q.elim, fun A outer s H args us vs Q E hr he hb hv ⟨_, g, ds, st, _, _, q⟩ => q.elim⟩
/-- a while loop's turns, by a number that grows less -/
def fuelI (i : Nat) : Ev → Sto → Nat := fun ρ _ => match ρ[i]? with | some (some (.int k)) => k.natAbs + 1 | _ => 0
/-! ### simp -/
theorem isTy_two (t u : TyN) (e : SE) (ρ : Ev) (st : Sto) {d : D} {b c : Bool} {st' : Sto} (h : e ρ st = .ok d st') (h1 : isTy t d = some b) (h2 : isTy u d = some c) : sIsT t u e ρ st = .ok (.bl (b || c)) st' := by
  unfold sIsT
  rw [h, bind_ok]
  simp only [h1, h2]
theorem fShl_63 (st : Sto) : fShl (.int 1) (.int 63) st = .ok (.int 9223372036854775808) st := rfl
end
end PD
/-! PDFn: defs as values; a call of a variable that holds one. -/
namespace PD
open PySem PySem.Spec PyProof.Rows L2
section
variable {X : Cx} {T : List (Addr × Str)} {W : WX} {a b e : Expr} {es : List Expr} {fa fb fe : SE} {fs : SA} {pos p : Pos} {x : Str}
theorem pd_gfn (hg : Gl X x) (hm : ∃ q, X.mg x = some (.ref q) ∧ PySem.W.nsIn X.K mainGlobals x = some (some (.ref q))) (hd : (x == ("__debug__" : Str)) = false := by decide) : PE X (.Name x pos) (tD (zX X T) W (sC (.fn x))) := by
  obtain ⟨q, hm, hk⟩ := hm
  exact PE.wk (pe_glob (v := .ref q) hg hm rfl hd) fun σ H Q ⟨g, ρ, st, S, E, h⟩ => EPost.val S (fun g' => .fn hk) h
abbrev FnTab := List (Str × Nat × (List D → Sto → Out D))
/-- the call of a variable that holds one of these defs -/
def sCallV (tab : FnTab) (n i : Nat) (as : SA) : SE := fun ρ st => match ρ[i]? with
  | some (some (.fn x)) => (match tab.find? (fun p => p.1 == x) with
    | some (_, m, F) => if m = n then (as ρ st).bind fun xs st => if xs.length = n then F xs st else .bad else .bad
    | none => .bad)
  | _ => .bad
/-- what a table of defs owes -/
def TabOk (X : Cx) (T : List (Addr × Str)) (k : Nat) (tab : FnTab) : Prop := ∀ e ∈ tab, ∃ (f : Addr) (fd : FuncData) (ps : List Str), FnOk X.prog X.w X.K X.mg X.base (L2.CX X.prog X.w) k f fd ps (spD (zX X T) e.2.1 e.2.2) ∧ PySem.W.nsIn X.K mainGlobals e.1 = some (some (.ref f)) ∧ PySem.W.keepIn X.K (.ref f) = true ∧ Binds X.K fd ps []
theorem pd_callV {tab : FnTab} {k i : Nat} (A : TabOk X T k tab) (tk : Takes X W) (hr : Room k X.A) (hN : X.N[i]? = some x) (hv : Vis X.env.scope x) (ha : PA X (e :: es) (tDA (zX X T) W fs)) (hdb : (x == ("__debug__" : Str)) = false := by decide) (hcd : (x == ("__classdict__" : Str)) = false := by decide)
    (he : starEach (e :: es) X.env = (false, eval e X.env) :: starEach es X.env := by rfl) (hpl : (backTo pos (starEach es X.env)).any (·.1) = false := by rfl) :
    PE X (.Call (.Name x p) (e :: es) [] pos) (tD (zX X T) W (sCallV tab (es.length + 1) i fs)) := by
  refine ⟨fun pins s σ H Q I ⟨g, ρ, st, S, E, q⟩ => ?_⟩
  unfold sCallV at q
  split at q
  · rename_i z hz
    split at q
    · rename_i y m F hf
      obtain ⟨f, fd, ps, G0, hn, hk, hb⟩ := A _ (List.mem_of_find?_eq_some hf)
      have hy : y = z := by
        have := List.find?_some hf
        simpa using this
      subst hy
      split at q
      · rename_i hm
        subst hm
        obtain ⟨v, hs, r⟩ := E.at_ i _ hz
        cases r with
        | fn hn2 =>
          have hff : some (some (Value.ref f)) = some (some (Value.ref _)) := hn.symm.trans hn2
          injection hff with h1
          injection h1 with h2
          injection h2 with h3
          subst h3
          refine wpAny_Call_Name_kw (thn ((pe_var (pos := p) hN hv hdb hcd).run pins s σ H (fun v H1 => v = .ref f ∧ H1 = H) I ⟨.ref f, hs, rfl, rfl⟩) fun u s1 ⟨v, H1, I1, r1, q1⟩ => ?_)
          obtain ⟨ev, eH⟩ := q1
          subst ev
          subst eH
          cases r1
          refine PySem.W.callWith_K (h₀ := X.base) I.ok.mod.kin hk (thn (ha.run pos pins s1 σ _ (fun vs H1 => ∃ g1 ds st1, Sim X.K T g1 st1 H1 ∧ Reps X.K g1 ds vs ∧ EPost (zX X T) W σ Q g1 H1 (if ds.length = es.length + 1 then F ds st1 else .bad)) I1
            ⟨g, ρ, st, S, E, Sat.mono (sat_bind q) (fun ds st1 q1 g1 H1 vs L1 S1 r1 => ⟨g1, ds, st1, S1, r1, EPost.mono L1 q1⟩) fun _ _ _ q => q⟩) fun us s2 ⟨vs, H2, I2, r, g1, ds, st1, S1, r1, q2⟩ => ⟨I2.kIn, ?_⟩) he hpl
          split at q2
          · rename_i hl
            exact run_fnS G0 hr hb (passAt tk σ) I2 r ⟨by rw [← r1.length]; exact hl, g1, ds, st1, S1, r1, q2⟩
          · exact q2.elim
      · exact q.elim
    · exact q.elim
  · exact q.elim
theorem tabOk_nil {k : Nat} : TabOk X T k [] := fun e he => by cases he
theorem tabOk_cons {tab : FnTab} {k j m : Nat} {F : List D → Sto → Out D} {f : Addr} {fd : FuncData} {ps : List Str} (G0 : FnOk X.prog X.w X.K X.mg X.base (L2.CX X.prog X.w) j f fd ps (spD (zX X T) m F)) (h : j ≤ k) (hn : PySem.W.nsIn X.K mainGlobals x = some (some (.ref f))) (hk : PySem.W.keepIn X.K (.ref f) = true) (hb : Binds X.K fd ps []) (r : TabOk X T k tab) : TabOk X T k ((x, m, F) :: tab) := fun e he => by
  rcases List.mem_cons.mp he with rfl | he
  · exact ⟨f, fd, ps, G0.mono h, hn, hk, hb⟩
  · exact r e he
/-! xs[::-1] of a list -/
def sRev (m : Bool) (e : SE) : SE := fun ρ st => (e ρ st).bind fun x st => match litems st x with
  | some xs => newL m xs.reverse st
  | none => .bad
@[simp] theorem sRev_e (m : Bool) (e : SE) (ρ : Ev) (st : Sto) : sRev m e ρ st = (e ρ st).bind fun x st => match litems st x with
  | some xs => newL m xs.reverse st
  | none => .bad := id rfl
theorem reps_rev {K : PySem.W.Frag} {g : G} : ∀ {ds : List D} {vs : List V}, Reps K g ds vs → Reps K g ds.reverse vs.reverse
  | _, _, .nil => .nil
  | _, _, .cons a t => by
    rw [List.reverse_cons, List.reverse_cons]
    exact (reps_rev t).append (.one a)
theorem pd_rev {k : Nat} {p1 p2 p3 : Pos} (m : Bool) (he : PE X e (tD (zX X T) W fe)) : PE X (.Subscript e (.Slice none none (some (.UnaryOp .USub (.Constant (.int 1) k p1) p2)) p3) pos) (tD (zX X T) W (sRev m fe)) :=
  PE.wk (pe_revL he) fun σ H Q ⟨g, ρ, st, S, E, q⟩ => by
    refine ⟨g, ρ, st, S, E, Sat.mono (sat_bind q) (fun d st1 q1 g1 H1 v L1 S1 r1 => ?_) fun _ _ _ q => q⟩
    split at q1
    · rename_i xs e1
      obtain ⟨a, vs, rfl, h1, h2, h3⟩ := S1.litems r1 e1
      exact ⟨a, vs, rfl, SqL.of h1, newL_ok (W := W) (σ := σ) S1 (by rw [List.length_reverse]; exact h2) (reps_rev h3) (EPost.mono L1 q1)⟩
    · exact q1.elim
end
end PD
/-! PDEnd: the law's promise, from what its def computes. -/
namespace PD
open PySem PySem.Spec PyProof.Rows L2
/-- the law: of a script of up to 63 ints, True -/
def spLaw (K : PySem.W.Frag) : Sp := fun vs H Q _ => ∃ (a : Addr) (ns : List Int), vs = [.ref a] ∧ ns.length ≤ 63 ∧ Only H ∧ SqL K H a (ns.map V.int) ∧ ∀ H', Q (.bl true) H'
theorem law_spD {K : PySem.W.Frag} {mg : Str → Option Value} {F : List D → Sto → Out D} (hF : ∀ ns : List Int, ns.length ≤ 63 → ∃ st', F [.fz (ns.map D.int)] [] = .ok (.bl true) st') {vs : List V} {H : Hp} {Q : VK} {E : XK} (h : spLaw K vs H Q E) : spD ⟨K, [], mg⟩ 1 F vs H Q E := by
  obtain ⟨a, ns, rfl, hl, hO, hS, q⟩ := h
  obtain ⟨st', e⟩ := hF ns hl
  have tb : ∀ a o, H a = some o → ∀ ps, o ≠ .tbl ps := fun b o e ps => by
    rcases hO b with h | ⟨o', xs, h⟩
    · rw [h] at e; cases e
    · rw [h] at e; cases e; simp
  refine ⟨rfl, ⟨H, []⟩, [.fz (ns.map D.int)], [], ⟨fun _ _ h => h, rfl, List.nodup_nil, fun b hb => absurd hb (by simp), fun l b mo h => by simp at h, ?_, tb⟩, .cons (.fz hS ?_ (reps_ofInts ns)) .nil, ?_⟩
  · first | exact fun p hp => absurd hp (by simp) | trivial
  · rw [List.length_map]
    have := sizeLine_eq
    omega
  · rw [e]
    intro g' H' v _ _ r
    cases r
    exact q H'
theorem spLaw_of {K : PySem.W.Frag} {H : Hp} {a : Addr} {ns : List Int} (hl : ns.length ≤ 63) (hO : Only H) (hS : SqL K H a (ns.map V.int)) : spLaw K [.ref a] H (fun v _ => v = .bl true) fun _ _ _ => False :=
  ⟨a, ns, rfl, hl, hO, hS, fun _ => rfl⟩
theorem noCX {P : Program} {w : World} {outer : List Env} {H : Hp} {s : Shared} {e : Value} {s' : Shared} (h : L2.CX P w outer H s (fun _ _ _ => False) e s') : False := by
  obtain ⟨_, _, _, _, _, _, _, _, _, _, _, _, h⟩ := h
  exact h
/-- the goal that k_head leaves, from the defs' promises -/
theorem walk_ofD {l : PySem.W.OpenLaw} {k : Nat} {q : Program} {loose : List Str} {XP : (Str → Option Value) → Heap → Prop} {YP : World → Heap → Prop} {d : DefRec} {K : Params → PySem.W.Frag} {x : Str}
    (hn : l.most = some 63) (hdf : d.params.defaults = []) (hr : Room k callerA)
    (hY : ∀ (w : World) (h : Heap), YP w h → (K w.params).In h)
    (F : ∀ (w : World) (mg : Str → Option Value) (fa : Addr) (h : Heap), (K w.params).In h → h.Ns mainGlobals mg → mg d.name = some (.ref fa) →
      ∃ fd : FuncData, (∀ (s : Shared) (u : Value), BindsTo s fd ⟨[u], []⟩ [(x, u)]) ∧
        ∀ base : Heap, (K w.params).In base → base.Ns mainGlobals mg → FnOk l.prog w (K w.params) mg base (L2.CX l.prog w) k fa fd [x] (spLaw (K w.params))) :
    PySem.W.WalkO q loose XP YP l.row.toRowW d [] (fun f vs => PySem.call f vs) :=
  walk_of (CX := fun w => L2.CX l.prog w) (sp := fun w => spLaw (K w.params)) hn (by decide) hdf hr hY F (fun _ _ _ _ hl hO hS => spLaw_of hl hO hS) fun _ _ _ _ _ h => noCX h
end PD
/-! PDEndL: the promise of a law that holds lambdas. -/
namespace PD
open PySem PySem.Spec PyProof.Rows L2
def notTbl (H : Hp) : Hp := fun b => match H b with | some (.tbl _) => none | o => o
theorem notTbl_sub {H : Hp} {b : Addr} {o : HO} (h : notTbl H b = some o) : H b = some o ∧ ∀ ps, o ≠ .tbl ps := by
  unfold notTbl at h
  split at h
  · cases h
  · rename_i o' hn
    exact ⟨h, fun ps e => hn ps (by rw [h, e])⟩
theorem notTbl_of {H : Hp} {b : Addr} {o : HO} (h : H b = some o) (n : ∀ ps, o ≠ .tbl ps) : notTbl H b = some o := by
  unfold notTbl
  split
  · rename_i ps e
    rw [h] at e
    cases e
    exact (n ps rfl).elim
  · exact h
theorem sqL_notTbl {K : PySem.W.Frag} {H : Hp} {a : Addr} {vs : List V} : SqL K H a vs → SqL K (notTbl H) a vs
  | .inl (.inl e) => .inl (.inl (notTbl_of e (by simp)))
  | .inl (.inr ⟨o, e⟩) => .inl (.inr ⟨o, notTbl_of e (by simp)⟩)
  | .inr x => .inr x
theorem law_spT {K : PySem.W.Frag} {mg : Str → Option Value} {F : List D → Sto → Out D} {Pt : Addr} {q : Str} (hF : ∀ ns : List Int, ns.length ≤ 63 → ∃ st', F [.fz (ns.map D.int)] [] = .ok (.bl true) st') {H : Hp} {a : Addr} {ns : List Int} (hl : ns.length ≤ 63) (hP : H Pt = some (.tbl #[])) (hS : SqL K H a (ns.map V.int)) :
    spD ⟨K, [(Pt, q)], mg⟩ 1 F [.ref a] H (fun v _ => v = .bl true) fun _ _ _ => False := by
  obtain ⟨st', e⟩ := hF ns hl
  refine ⟨rfl, ⟨notTbl H, []⟩, [.fz (ns.map D.int)], [], ⟨fun _ _ h => (notTbl_sub h).1, rfl, List.nodup_nil, fun b hb => absurd hb (by simp), fun l b mo h => by simp at h, ?_, fun _ _ h => (notTbl_sub h).2⟩, .cons (.fz (sqL_notTbl hS) ?_ (reps_ofInts ns)) .nil, ?_⟩
  · intro p hp
    rw [List.mem_singleton.mp hp]
    exact LamX.TabS.nil hP
  · rw [List.length_map]
    have := sizeLine_eq
    omega
  · rw [e]
    intro g' H' v _ _ r
    cases r
    rfl
end PD
/-! PDEndA: the end of a law of which several defs hold lambdas: the table of each def of the text is empty at the start. -/
namespace PD
open PySem PySem.Spec PyProof.Rows L2 LamX
theorem law_spTs {K : PySem.W.Frag} {mg : Str → Option Value} {F : List D → Sto → Out D} {T : List (Addr × Str)} (hF : ∀ ns : List Int, ns.length ≤ 63 → ∃ st', F [.fz (ns.map D.int)] [] = .ok (.bl true) st') {H : Hp} {a : Addr} {ns : List Int} (hl : ns.length ≤ 63) (hP : ∀ p ∈ T, H p.1 = some (.tbl #[])) (hS : SqL K H a (ns.map V.int)) :
    spD ⟨K, T, mg⟩ 1 F [.ref a] H (fun v _ => v = .bl true) fun _ _ _ => False := by
  obtain ⟨st', e⟩ := hF ns hl
  refine ⟨rfl, ⟨notTbl H, []⟩, [.fz (ns.map D.int)], [], ⟨fun _ _ h => (notTbl_sub h).1, rfl, List.nodup_nil, fun b hb => absurd hb (by simp), fun l b mo h => by simp at h, fun p hp => LamX.TabS.nil (hP p hp), fun _ _ h => (notTbl_sub h).2⟩, .cons (.fz (sqL_notTbl hS) ?_ (reps_ofInts ns)) .nil, ?_⟩
  · rw [List.length_map]
    have := sizeLine_eq
    omega
  · rw [e]
    intro g' H' v _ _ r
    cases r
    rfl
theorem walk_ofAll {l : PySem.W.OpenLaw} {n k : Nat} {q : Program} {loose : List Str} {XP : (Str → Option Value) → Heap → Prop} {YP : World → Heap → Prop} {d : DefRec} {K : Params → PySem.W.Frag} {CX : World → CXT} {x : Str}
    (hn : l.most = some n) (hn2 : n ≤ sizeLine) (hdf : d.params.defaults = []) (hr : Room k callerA) (hY : ∀ (w : World) (h : Heap), YP w h → (K w.params).In h)
    (F : ∀ (w : World) (mg : Str → Option Value) (fa : Addr) (h : Heap), YP w h → (K w.params).In h → h.Ns mainGlobals mg → mg d.name = some (.ref fa) →
      (∀ (y : Str) (fy : Addr), ((recsOf q).any fun e => e.name == y) = true → mg y = some (.ref fy) → OwnTab (K w.params) fy h) → LawAtS l w (K w.params) (CX w) k n x mg fa h)
    (hCX : ∀ (w : World) (H : Hp) (s : Shared) (e : Value) (s' : Shared), CX w [] H s (fun _ _ _ => False) e s' → False) :
    PySem.W.WalkO q loose XP YP l.row.toRowW d [] (fun f vs => PySem.call f vs) := by
  refine Att.attach_callB hn hdf fun w s0 s1 mg mb fa o pm cd doc a vs ns G Y ho hd hcd hmg hobj hints hlen hbits hg => ?_
  have KX := hY w _ Y
  have own : ∀ (y : Str) (fy : Addr), ((recsOf q).any fun e => e.name == y) = true → mg y = some (.ref fy) → OwnTab (K w.params) fy s1.heap := by
    intro y fy hy hm c P ob fd1 e dd vs1 sl k1 k2 k3 k4 k5
    obtain ⟨dL, hmem, hname⟩ := List.any_eq_true.mp hy
    obtain ⟨a', o', fd', c', P', h1, h2, h3, h4, h5, ⟨oc, vc, e1, _, e3, e4⟩, hP⟩ := G.T.tab dL hmem
    have ey : dL.name = y := beq_iff_eq.mp hname
    subst ey
    cases hm.symm.trans h1
    cases (KX _ _ k1).symm.trans h2
    cases k2.symm.trans h3
    cases k3.symm.trans h4
    cases (KX _ _ k4).symm.trans e1
    cases e3
    cases k5.symm.trans e4
    exact hP
  obtain ⟨fd, cs, sp, hT, nT, C, hb, hsp, hF⟩ := F w mg fa _ Y KX G.T.g hmg own
  exact law_callTs KX G.T.g G.T.b G.T.builtins G.T.nolimit hg hT nT C G.T.bmain hobj hints (Nat.le_trans hlen hn2) hr hF hb (fun H hH hS => hsp H a ns hlen hbits hH hS) fun H e s' => hCX w H s1 e s'
end PD
/-! PDG: promises that are given only where no repr is under way; repr of data. -/
namespace PD
open PySem PySem.Spec PyProof.Rows L2
/-- a def's promise, where no repr is under way -/
structure FnG (P : Program) (w : World) (K : PySem.W.Frag) (mg : Str → Option Value) (base : Heap) (CX : CXT) (k : Nat) (f : Addr) (fd : FuncData) (ps : List Str) (sp : Sp) : Prop where
  len : ∀ vs H Q E, sp vs H Q E → vs.length = ps.length
  run : ∀ (A : Around) (outer : List Env) (s : Shared) (H : Hp) (args : Args) (us : List Value) (vs : List V) (Q : VK) (E : XK), Room k A → A.guards = some [] → Env0 P w K mg base A outer s H → BindsTo s fd args (ps.zip us) → Vals vs us → sp vs H Q E →
    codeAny (model P w) A (.call (.ref f) args) (CR CX outer P w H s Q E) s
section
variable {P : Program} {w : World} {K : PySem.W.Frag} {mg : Str → Option Value} {base : Heap} {CX : CXT} {k : Nat} {f : Addr} {fd : FuncData} {ps : List Str} {sp sp' : Sp}
theorem FnG.imp (F : FnG P w K mg base CX k f fd ps sp) (h : ∀ vs H Q E, sp' vs H Q E → sp vs H Q E) : FnG P w K mg base CX k f fd ps sp' :=
  ⟨fun vs H Q E q => F.len vs H Q E (h _ _ _ _ q), fun A outer s H args us vs Q E hr hg he hb hv hs => F.run A outer s H args us vs Q E hr hg he hb hv (h _ _ _ _ hs)⟩
theorem fnG_of (F : FnOk P w K mg base CX k f fd ps sp) : FnG P w K mg base CX k f fd ps sp :=
  ⟨F.len, fun A outer s H args us vs Q E hr _ he hb hv hs => F.run A outer s H args us vs Q E hr he hb hv hs⟩
/-- a def by its body -/
theorem fnG_body {name qual : Str} {params : Arguments} {body : List Stmt} {scope : Scope} {dV kV doc pm cdv ct oc : Value} {an od : Option Addr} {osl : Array (Option Value)} {N : List Str}
    (lk : K.lookup f = some ⟨oc, od, .func (PySem.W.fnOf name qual params body scope dV kV doc pm an cdv ct), osl⟩) (hcd : PySem.W.codeIn K cdv qual = true) (S : FnScope N ps scope) (len : ∀ vs H Q E, sp vs H Q E → vs.length = ps.length)
    (hbody : ∀ (A : Around) (outer : List Env) (s : Shared) (H : Hp) (vs : List V) (Q : VK) (E : XK), Room k (A.deeper (envOfC qual scope s.heap.objs.size f cdv)) → (A.deeper (envOfC qual scope s.heap.objs.size f cdv)).guards = some [] → sp vs H Q E →
      ∃ t, PSs (cxOf CX P w K mg base N qual scope f cdv A outer s H E) body t ∧ t { nx := fun _ H' => Q .non H', rt := Q } (start N vs) H) :
    FnG P w K mg base CX (k + 1) f (PySem.W.fnOf name qual params body scope dV kV doc pm an cdv ct) ps sp where
  len := len
  run := fun A outer s H args us vs Q E room gd e0 hb rv hsp => by
    have ln := len _ _ _ _ hsp
    have kin : K.In s.heap := e0.mod.kin.keeps fun b o e => (e0.bs b o e).1
    have nl : s.heap.NoLimit := e0.mod.nolimit.keeps fun b o e => (e0.bs b o e).1
    have kinds : ∀ y ∈ ps.zip us, scope.names.lookup y.1 = some .local ∨ (scope.names.lookup y.1 = some .cell ∧ ((cellsFrom (s.heap.objs.size + 1) scope.names []).lookup y.1).isSome = true) := by
      rintro ⟨n, v⟩ hy
      exact (S.par n (List.of_mem_zip hy).1).imp id fun q => ⟨q, PySem.W.cellsFrom_some _ _ _ (.inl q)⟩
    refine codeAny_call_function room.depth (kin _ _ lk) rfl S.co S.gen rfl (PySem.W.codeRec_of kin hcd) (hb _ _ _ _ (wpAny_newFunctionEnv_cells S.kind kinds fun env he s1 x => ?_))
    subst he
    obtain ⟨t, ht, hq⟩ := hbody A outer s H vs Q E (room.deeper _) gd hsp
    have J0 : Inv (cxOf CX P w K mg base N qual scope f cdv A outer s H E) [] (start N vs) H s1 := inv_start S room.hd e0 ln rv x
    refine ⟨nl.keeps x.toInCall.keep, codeAny_func (wpAny_mono (ht.run [] s1 (start N vs) H _ J0 hq) (fun fl s' hs => ?_) fun _ _ hs => hs)⟩
    have done : ∀ {σ' : L2.St} {H' : Hp} {v : V} {u : Value}, Inv (cxOf CX P w K mg base N qual scope f cdv A outer s H E) [] σ' H' s' → RelV v u → Q v H' → CE outer P w H s Q u s' := by
      intro σ' H' v u J r q
      exact ⟨v, H', J.os, J.bare, J.base, J.hok, r, q⟩
    cases fl with
    | ret u => obtain ⟨v, σ', H', J, r, q⟩ := hs; exact done J r q
    | next => obtain ⟨σ', H', J, q⟩ := hs; exact done (v := V.non) (u := Value.none) J rfl q
    | brk => obtain ⟨_, _, _, q⟩ := hs; exact q.elim
    | cont => obtain ⟨_, _, _, q⟩ := hs; exact q.elim
end
section
variable {X : Cx} {T : List (Addr × Str)} {W : WX} {CX : CXT} {k n : Nat} {f : Addr} {fd : FuncData} {ps : List Str} {sp : Sp} {E : L2.St → XK} {x : Str} {p pos : Pos} {e : Expr} {es : List Expr} {t : TA} {fs : SA} {F : List D → Sto → Out D}
theorem callG {pins : List (Addr × Obj)} {σ : L2.St} {H : Hp} {s : Shared} {Q : VK} {us : List Value} {vs : List V} (G0 : FnG X.prog X.w X.K X.mg X.base CX k f fd ps sp) (hr : Room k X.A) (gd : X.A.guards = some []) (hb : Binds X.K fd ps [])
    (hx : PassesAt CX X σ (E σ)) (I : Inv X pins σ H s) (r : Vals vs us) (h : sp vs H Q (E σ)) : wpAny (model X.prog X.w) X.A (call (.ref f) us) (EP X pins σ Q) X.xe s := by
  have bb := hb s us I.kIn (by rw [List.append_nil, ← r.length]; exact G0.len _ _ _ _ h)
  rw [List.append_nil] at bb
  refine wpAny_call (codeAny_mono (G0.run X.A X.stack s H ⟨us, []⟩ us vs Q (E σ) hr gd I.env0 bb r h) fun res s' hq => ?_)
  rcases res with er | fl
  · exact hx pins H s er s' I hq
  · cases fl with
    | ret u => exact I.after hq
    | next => exact hq.elim
    | brk => exact hq.elim
    | cont => exact hq.elim
theorem pd_callG (G0 : FnG X.prog X.w X.K X.mg X.base (L2.CX X.prog X.w) k f fd ps (spD (zX X T) n F)) (tk : Takes X W) (hr : Room k X.A) (gd : X.A.guards = some []) (hg : Gl X x) (hm : X.mg x = some (.ref f)) (hk : PySem.W.keepIn X.K (.ref f) = true) (hb : Binds X.K fd ps [])
    (ha : PA X (e :: es) (tDA (zX X T) W fs)) (hdb : (x == ("__debug__" : Str)) = false := by decide) (he : starEach (e :: es) X.env = (false, eval e X.env) :: starEach es X.env := by rfl) (hpl : (backTo pos (starEach es X.env)).any (·.1) = false := by rfl) :
    PE X (.Call (.Name x p) (e :: es) [] pos) (tD (zX X T) W (sCall n F fs)) := by
  refine ⟨fun pins s σ H Q I ⟨g, ρ, st, S, E, q⟩ => ?_⟩
  refine wpAny_Call_Name_kw (ld_glob I hg hm (PySem.W.callWith_K (h₀ := X.base) I.ok.mod.kin hk (thn (ha.run pos pins s σ H (fun vs H1 => spD (zX X T) n F vs H1 Q (WE W σ)) I ?_) fun us s1 ⟨vs, H1, I1, r, q1⟩ => ⟨I1.kIn, callG G0 hr gd hb (passAt tk σ) I1 r q1⟩) he hpl) hdb)
  refine ⟨g, ρ, st, S, E, Sat.mono (sat_bind q) (fun ds st1 q1 g1 H1 vs L1 S1 r1 => ?_) fun _ _ _ q => q⟩
  split at q1
  · rename_i hl
    exact ⟨by rw [← r1.length]; exact hl, g1, ds, st1, S1, r1, EPost.mono L1 q1⟩
  · exact q1.elim
end
section
variable {P : Program} {w : World} {K : PySem.W.Frag} {mg : Str → Option Value} {base : Heap} {T : List (Addr × Str)} {qb : SS} {x qual : Str} {st : Stmt} {f : Addr} {fd : FuncData} {N ps : List Str} {k : Nat}
theorem def_rawG (F : Fun K x qual st f fd) (S : FnScope N ps (defScope st))
    (hb : ∀ (cdv : Value), fd.code = cdv → ∀ (A : Around) (outer : List Env) (s : Shared) (H : Hp) (E : XK), Room k (A.deeper (envOfC qual (defScope st) s.heap.objs.size f cdv)) → (A.deeper (envOfC qual (defScope st) s.heap.objs.size f cdv)).guards = some [] →
      PSs (cxOf (L2.CX P w) P w K mg base N qual (defScope st) f cdv A outer s H E) (defBody st) (tDS ⟨K, T, mg⟩ (fun cls d _ H => E cls d H) qb)) :
    FnG P w K mg base (L2.CX P w) (k + 1) f fd ps (spD ⟨K, T, mg⟩ ps.length (defRaw N.length qb)) := by
  obtain ⟨oc, od, kV, doc, pm, an, cdv, ct, osl, rfl, lk, hcd⟩ := F.ex
  refine fnG_body lk hcd S (fun vs H Q E h => h.1) fun A outer s H vs Q E hr gd h => ⟨_, hb cdv rfl A outer s H E hr gd, ?_⟩
  obtain ⟨hl, g, ds, st0, S0, R, q⟩ := h
  refine ⟨g, startD N.length ds, st0, S0, start_env R, ?_⟩
  unfold defRaw at q
  cases hr2 : qb (startD N.length ds) st0 with
  | none => rw [hr2] at q; exact q.elim
  | some r =>
    obtain ⟨fl, st'⟩ := r
    rw [hr2] at q
    cases fl with
    | rt d => exact fun g' H' L S' v r => q g' H' v L S' r
    | nx ρ => exact fun g' H' L S' σ E => q g' H' .non L S' .non
    | ex n fs ρ => exact fun g' H' L S' σ dx E x => q g' H' dx L S' x
    | _ => exact q.elim
theorem finG_of {m n : Nat} (F0 : FnG P w K mg base (L2.CX P w) k f fd ps (spD ⟨K, T, mg⟩ m (defRaw n qb))) : FnG P w K mg base (L2.CX P w) k f fd ps (spD ⟨K, T, mg⟩ m (defFin n qb)) := by
  refine F0.imp fun vs H Q E ⟨hl, g, ds, st0, S0, R, q⟩ => ⟨hl, g, ds, st0, S0, R, ?_⟩
  unfold defFin at q
  cases hr : defRaw n qb ds st0 with
  | bad => rw [hr] at q; exact q.elim
  | ok d st1 =>
    rw [hr] at q
    unfold fin at q
    dsimp only at q
    intro g1 H1 v L1 S1 r1
    split at q
    · rename_i d' hd
      split at q
      · rename_i hc
        obtain ⟨g2, L2', S2, b2, i1, f3⟩ := fin_sim S0 L1 S1 hc
        exact q g2 H1 v L2' S2 (frz_rep S1 b2 i1 f3 60 r1 hd)
      · exact q.elim
    · exact q.elim
  | exc n fs st1 =>
    rw [hr] at q
    unfold fin at q
    dsimp only at q
    intro g1 H1 dx L1 S1 x1
    split at q
    · rename_i hc
      rw [Bool.and_eq_true_iff] at hc
      obtain ⟨g2, L2', S2, b2, i1, _⟩ := fin_sim S0 L1 S1 hc.2
      rcases x1 with x1 | ⟨a, vs, x1, x2, x3, x4⟩
      · exact q g2 H1 dx L2' S2 (.inl x1)
      · refine q g2 H1 dx L2' S2 (.inr ⟨a, vs, x1, x2, b2 _ _ x3, Reps.cut (n := st0.length) b2 i1 ?_ x4⟩)
        have h1 := hc.1
        clear x1 x2 x3 x4 hc q hr
        induction fs with
        | nil => rfl
        | cons p fs ih =>
          rw [List.all_cons, Bool.and_eq_true] at h1
          rw [List.map_cons, noRefs, h1.1, ih h1.2]
          rfl
    · exact q.elim
theorem def_finG (F : Fun K x qual st f fd) (S : FnScope N ps (defScope st))
    (hb : ∀ (cdv : Value), fd.code = cdv → ∀ (A : Around) (outer : List Env) (s : Shared) (H : Hp) (E : XK), Room k (A.deeper (envOfC qual (defScope st) s.heap.objs.size f cdv)) → (A.deeper (envOfC qual (defScope st) s.heap.objs.size f cdv)).guards = some [] →
      PSs (cxOf (L2.CX P w) P w K mg base N qual (defScope st) f cdv A outer s H E) (defBody st) (tDS ⟨K, T, mg⟩ (fun cls d _ H => E cls d H) qb)) :
    FnG P w K mg base (L2.CX P w) (k + 1) f fd ps (spD ⟨K, T, mg⟩ ps.length (defFin N.length qb)) := finG_of (def_rawG F S hb)
end
/-! ### repr -/
def bRepr (xs : List D) (st : Sto) : Out D := match xs with
  | [x] => (match toPy st 60 x with
    | some p => if p.showable = true ∧ p.shown.length ≤ sizeLine then .ok (.str p.shown) st else .bad
    | none => .bad)
  | _ => .bad
def rRepr (K : PySem.W.Frag) : List V → Hp → VK → Prop := fun xs H Q => ∃ (x : V) (p : PyData), xs = [x] ∧ Dp K H x p ∧ p.canLay0 = true ∧ p.depth ≤ 60 ∧ p.showable = true ∧ p.shown.length ≤ sizeLine ∧ Q (.str p.shown) H
section
variable {X : Cx} {T : List (Addr × Str)} {W : WX} {x : Str} {p pos : Pos} {e : Expr} {es : List Expr} {fe : SE}
theorem cr_repr (gd : X.A.guards = some []) (hu : X.A.units + 65 < cLine) : CallR X (.builtin "repr") (rRepr X.K) := by
  intro pins s σ H xs us Q I r h
  obtain ⟨x, p, rfl, dp, cl, dd, sh, sz, q⟩ := h
  obtain ⟨u, rfl, ru⟩ := Vals.one r
  obtain ⟨as, rd⟩ := Dp.reads I p x u dp ru
  have hd := PyData.hasDict_of_canLay p cl
  have fin : ∀ h' t tk, (∀ b o, s.heap.get? b = some o → h'.get? b = some o) → EP X pins σ Q (.str p.shown t) { s with heap := h', toks := tk } := fun h' t tk hk => ⟨.str p.shown, H, I.kept hk, ⟨t, rfl⟩, q⟩
  have stay : ∀ b o, s.heap.get? b = some o → s.heap.get? b = some o := fun _ _ e => e
  cases rd with
  | none => exact PySem.P.repr_of_none (fin s.heap _ _ stay)
  | bool b => exact PySem.P.repr_of_bool (fin s.heap _ _ stay)
  | int i t => exact PySem.P.repr_of_int (of_decide_eq_true sh) (fin s.heap _ _ stay)
  | str y t => exact PySem.P.repr_of_str (fin s.heap _ _ stay) sz
  | list h1 h2 h3 h4 => exact PySem.repr_of_reads' (Reads.list h1 h2 h3 h4) sh (PyData.noDict_hsm hd) gd (by omega) stay (fun h' t tk hk => fin h' t tk hk) sz
  | tuple h1 h2 h3 h4 => exact PySem.repr_of_reads' (Reads.tuple h1 h2 h3 h4) sh (PyData.noDict_hsm hd) gd (by omega) stay (fun h' t tk hk => fin h' t tk hk) sz
  | dict => cases hd
theorem does_repr : DoesB X T (rRepr X.K) bRepr := by
  intro W σ g st H ds vs Q S r h
  unfold bRepr at h
  split at h
  · rename_i x
    split at h
    · rename_i p e
      split at h
      · rename_i hc
        cases r with
        | cons r1 r2 =>
          cases r2
          obtain ⟨q1, q2, q3⟩ := toPy_dp S 60 r1 e
          exact ⟨_, p, rfl, q1, q2, q3, hc.1, hc.2, EPost.val S (fun _ => .str _) h⟩
      · exact h.elim
    · exact h.elim
  · exact h.elim
end
/-! ### x == y of texts -/
def fEqS (x y : D) (st : Sto) : Out D := match x, y with
  | .str a, .str b => .ok (.bl (decide (a = b))) st
  | _, _ => .bad
def fNeS (x y : D) (st : Sto) : Out D := match x, y with
  | .str a, .str b => .ok (.bl (!decide (a = b))) st
  | _, _ => .bad
theorem does_eqS {X : Cx} {T : List (Addr × Str)} : Does2 X T rEq fEqS := by
  intro W σ g st H dx dy x y Q S rx ry h
  unfold fEqS at h
  split at h
  · cases rx; cases ry
    refine ⟨rfl, ?_⟩
    rename_i a b
    have e : decide (V.str a = V.str b) = decide (a = b) := decide_eq_decide.mpr ⟨fun q => by injection q, fun q => by rw [q]⟩
    rw [e]
    exact EPost.val S (fun _ => .bl _) h
  · exact h.elim
theorem does_neS {X : Cx} {T : List (Addr × Str)} : Does2 X T rNe fNeS := by
  intro W σ g st H dx dy x y Q S rx ry h
  unfold fNeS at h
  split at h
  · cases rx; cases ry
    refine ⟨rfl, ?_⟩
    rename_i a b
    have e : decide (V.str a = V.str b) = decide (a = b) := decide_eq_decide.mpr ⟨fun q => by injection q, fun q => by rw [q]⟩
    rw [e]
    exact EPost.val S (fun _ => .bl _) h
  · exact h.elim
end PD
/-! PDEndG: the end of a law whose def keeps its promise where no repr is under way. -/
namespace PD
open PySem PySem.Spec PyProof.Rows L2 LamX
/-- the tables, and what is known of the script -/
def trkH (T : List Addr) (a : Addr) (o : Option HO) : Hp := fun b => if b = a then o else if b ∈ T then some (.tbl #[]) else none
theorem trkH_a {T : List Addr} {a : Addr} {o : Option HO} : trkH T a o a = o := if_pos rfl
theorem trkH_t {T : List Addr} {a b : Addr} {o : Option HO} (h : b ≠ a) (hb : b ∈ T) : trkH T a o b = some (.tbl #[]) := (if_neg h).trans (if_pos hb)
theorem trkH_n {T : List Addr} {a b : Addr} {o : Option HO} (h : b ≠ a) (hb : b ∉ T) : trkH T a o b = none := (if_neg h).trans (if_neg hb)
section
variable {P : Program} {w : World} {K : PySem.W.Frag} {mg mb : Str → Option Value} {CX : CXT} {k : Nat} {fa a : Addr} {cs : List (Addr × Addr)} {fd : FuncData} {x : Str} {sp : Sp} {s1 : Shared} {us : List Value} {ns : List Int}
theorem law_callG (kin : K.In s1.heap) (gns : s1.heap.Ns mainGlobals mg) (bns : s1.heap.Ns builtinsNs mb) (bbs : ∀ x : Str, x ≠ "__name__" → mb x = bootBuiltins x) (nol : s1.heap.NoLimit) (gen0 : s1.gens = #[])
    (tabs : ∀ p ∈ cs, s1.heap.get? p.2 = some { cls := .none, data := .fields #[] }) (notK : ∀ p ∈ cs, K.lookup p.2 = none) (codes : ∀ p ∈ cs, PySem.W.CodeHd s1.heap p.1 p.2)
    (bmod : ∃ (bm : Addr) (ob : Obj), mg "__builtins__" = some (.ref bm) ∧ bm ≠ builtinsNs ∧ s1.heap.get? bm = some ob ∧ ob.cls = .type "module" ∧ ob.dict = some builtinsNs ∧ ob.data = .plain)
    (scr : s1.heap.get? a = some { cls := .type "list", data := .seq us.toArray }) (hints : IntsAre us ns) (short : ns.length ≤ sizeLine) (room : Room k callerA)
    (fn : ∀ base : Heap, K.In base → base.Ns mainGlobals mg → (∀ p ∈ cs, TabB base mg p.1 p.2) → FnG P w K mg base CX k fa fd [x] sp) (bnd : ∀ (s : Shared) (u : Value), BindsTo s fd ⟨[u], []⟩ [(x, u)])
    (asks : ∀ H : Hp, (∀ p ∈ cs, H p.2 = some (.tbl #[])) → SqL K H a (ns.map V.int) → sp [.ref a] H (fun v _ => v = .bl true) fun _ _ _ => False) (noX : ∀ H e s', CX [] H s1 (fun _ _ _ => False) e s' → False) :
    codeAny (model P w) callerA (.call (.ref fa) ⟨[.ref a], []⟩) (fun r s' => r = .ok (.ret (.bool true)) ∧ OldK s1.heap s'.heap ∧ s'.os = s1.os ∧ AllBare s'.gens) s1 := by
  have vals := vals_ints hints
  have lenU := hints.length
  -- the tables' places
  obtain ⟨T, hT⟩ : ∃ T, T = cs.map (·.2) := ⟨_, rfl⟩
  have inT : ∀ p ∈ cs, p.2 ∈ T := fun p hp => by rw [hT]; exact List.mem_map.mpr ⟨p, hp, rfl⟩
  have ofT : ∀ b ∈ T, ∃ p ∈ cs, p.2 = b := fun b hb => by rw [hT] at hb; exact List.mem_map.mp hb
  have getT : ∀ b ∈ T, s1.heap.get? b = some { cls := .none, data := .fields #[] } := fun b hb => by
    obtain ⟨p, hp, rfl⟩ := ofT b hb
    exact tabs p hp
  have nT : ∀ b ∈ T, b ≠ a := fun b hb e => by
    have q := getT b hb
    rw [e, scr] at q
    have q2 := congrArg (fun o : Option Obj => o.map Obj.data) q
    cases q2
  -- what is known of the script
  obtain ⟨o, ho, hS, hK⟩ : ∃ o : Option HO, (o = none ∨ o = some (.frz { cls := .type "list", data := .seq us.toArray } (.lst (ns.map V.int)))) ∧ SqL K (trkH T a o) a (ns.map V.int) ∧ (o ≠ none → K.lookup a = none) := by
    cases hk : K.lookup a with
    | none => exact ⟨_, .inr rfl, .inl (.inr ⟨_, trkH_a⟩), fun _ => rfl⟩
    | some ob =>
      have e := kin a ob hk
      rw [scr] at e
      cases e
      exact ⟨none, .inl rfl, .inr ⟨_, us.toArray, _, hk, rfl, rfl, rfl, by rw [List.size_toArray, lenU]; exact short, by simpa using vals⟩, fun h => absurd rfl h⟩
  have hH : ∀ p ∈ cs, trkH T a o p.2 = some (.tbl #[]) := fun p hp => trkH_t (nT _ (inT p hp)) (inT p hp)
  have ok : HOk P w (trkH T a o) s1.heap := fun b u z => by
    by_cases e : b = a
    · subst e
      rw [trkH_a] at z
      rcases ho with rfl | rfl
      · cases z
      · cases z
        exact ⟨scr, by rw [List.length_map]; exact short, us, _, vals, scr⟩
    · by_cases hb : b ∈ T
      · rw [trkH_t e hb] at z
        cases z
        exact getT b hb
      · rw [trkH_n e hb] at z
        cases z
  have kinds : ∀ b, trkH T a o b = none ∨ b ∈ T ∨ ∃ ob xs, trkH T a o b = some (.frz ob (.lst xs)) := fun b => by
    by_cases e : b = a
    · subst e
      rcases ho with rfl | rfl
      · exact .inl trkH_a
      · exact .inr (.inr ⟨_, _, trkH_a⟩)
    · by_cases hb : b ∈ T
      · exact .inr (.inl hb)
      · exact .inl (trkH_n e hb)
  -- what is not a list and not a table is not tracked
  have free : ∀ {b : Addr} {ob : Obj}, s1.heap.get? b = some ob → (∀ vs n, ob.data ≠ .seq vs n) → ob.data ≠ .fields #[] → trkH T a o b = none := fun {b ob} e h1 h2 => by
    by_cases eb : b = a
    · subst eb
      rw [scr] at e
      cases e
      exact absurd rfl (h1 _ _)
    · refine trkH_n eb fun hb => ?_
      rw [getT b hb] at e
      cases e
      exact h2 rfl
  have toB : ∀ {b : Addr} {ob : Obj}, s1.heap.get? b = some ob → trkH T a o b = none → (hidT s1.heap (trkH T a o)).get? b = some ob := fun e n => hidT_get e n
  have dicts : ∀ {b : Addr} {m : Str → Option Value}, s1.heap.Ns b m → (hidT s1.heap (trkH T a o)).Ns b m := fun {b m} ⟨ob, es, ep, e, d, r⟩ =>
    ⟨ob, es, ep, toB e (free e (fun vs n z => by rw [d] at z; cases z) fun z => by rw [d] at z; cases z), d, r⟩
  have kinB : K.In (hidT s1.heap (trkH T a o)) := fun b ob e => toB (kin b ob e) (by
    by_cases eb : b = a
    · subst eb
      rcases ho with rfl | rfl
      · exact trkH_a
      · rw [hK (by simp)] at e
        cases e
    · refine trkH_n eb fun hb => ?_
      obtain ⟨p, hp, rfl⟩ := ofT b hb
      rw [notK p hp] at e
      cases e)
  have modB : L2.Mod K mg (hidT s1.heap (trkH T a o)) := ⟨kinB, dicts gns, ⟨mb, dicts bns, bbs⟩, let ⟨mc, h1, h2⟩ := nol; ⟨mc, dicts h1, h2⟩⟩
  have tabB : ∀ p ∈ cs, TabB (hidT s1.heap (trkH T a o)) mg p.1 p.2 := fun p hp => by
    refine ⟨?_, ?_, fun z => ?_⟩
    · obtain ⟨ob, vs, fl, tf, fg, tg, iF, tx, tt, e1, r1, r2, r3, r⟩ := codes p hp
      refine ⟨ob, vs, fl, tf, fg, tg, iF, tx, tt, toB e1 (free e1 (fun vs n z => ?_) fun z => ?_), r1, r2, r3, r⟩ <;> (rw [r2] at z; cases z)
      simp at r3
    · obtain ⟨bm, ob, b1, b2, b3, b4, b5, b6⟩ := bmod
      refine ⟨bm, ob, b1, b2, fun e => ?_, fun e => ?_, toB b3 (free b3 (fun vs n z => ?_) fun z => ?_), b4, b5, b6⟩
      · obtain ⟨ob2, es, ep, e2, d, _⟩ := gns
        rw [e, e2] at b3
        cases b3
        rw [d] at b6
        cases b6
      · rw [e, tabs p hp] at b3
        cases b3
        cases b6
      · rw [b6] at z; cases z
      · rw [b6] at z; cases z
    · obtain ⟨ob, es, ep, e, d, _⟩ := gns
      rw [z, tabs p hp] at e
      cases e
      cases d
  have env : Env0 P w K mg (hidT s1.heap (trkH T a o)) callerA [] s1 (trkH T a o) := ⟨rfl, modB, fun b ob e => of_hidT e, Nat.le_of_eq (hidT_size _ _), trivial, fun b hb => absurd (show b ∈ ([] : List Addr) from hb) (by simp), ok, .of_eq gen0⟩
  refine codeAny_mono ((fn _ kinB (dicts gns) tabB).run callerA [] s1 _ ⟨[.ref a], []⟩ [.ref a] [.ref a] _ _ room rfl env (bnd s1 (.ref a)) (.cons rfl .nil) (asks _ hH hS)) fun res s' hr => ?_
  rcases res with e | fl
  · exact (noX _ e s' hr).elim
  cases fl with
  | next => exact hr.elim
  | brk => exact hr.elim
  | cont => exact hr.elim
  | ret u =>
    obtain ⟨v, H2, os, bare, un, ok2, ru, rfl⟩ := hr
    obtain rfl : u = Value.bool true := ru
    have stays : ∀ b ob, b ∉ T → s1.heap.get? b = some ob → s'.heap.get? b = some ob := fun b ob nb e => by
      rcases kinds b with z | z | ⟨o2, xs, z⟩
      · exact un.keep b ob e z (by intro q; exact absurd (show b ∈ ([] : List Addr) from q) (by simp)) (by simp)
      · exact absurd z nb
      · obtain ⟨e1, _⟩ := ok b _ z
        obtain ⟨e2, _⟩ := ok2 b _ (un.frzs b o2 _ z)
        rw [e] at e1
        cases e1
        exact e2
    have grow : ∀ p ∈ cs, ∃ more : Array Value, s'.heap.get? p.2 = some { cls := .none, data := .fields more } := fun p hp => by
      obtain ⟨more, z⟩ := un.tbls p.2 #[] (hH p hp)
      exact ⟨_, ok2 p.2 _ z⟩
    refine ⟨rfl, ⟨fun b ob e => ?_, fun b ob e => ?_⟩, os, bare⟩
    · by_cases hb : b ∈ T
      · obtain ⟨p, hp, rfl⟩ := ofT b hb
        obtain ⟨more, hm⟩ := grow p hp
        rw [tabs p hp] at e
        cases e
        exact .inr (.inl ⟨((codes p hp).tab (tabs p hp)).isCodeTable, rfl, #[], more, rfl, by rw [Array.empty_append]; exact hm⟩)
      · exact .inl (stays b ob hb e)
    · by_cases hb : b ∈ T
      · obtain ⟨p, hp, rfl⟩ := ofT b hb
        obtain ⟨more, hm⟩ := grow p hp
        exact ⟨_, hm⟩
      · exact ⟨ob, stays b ob hb e⟩
/-- what is known of the law's promise at the head's heap -/
def LawAtG (l : PySem.W.OpenLaw) (w : World) (K : PySem.W.Frag) (CX : CXT) (k n : Nat) (x : Str) (mg : Str → Option Value) (fa : Addr) (h : Heap) : Prop :=
  ∃ (fd : FuncData) (cs : List (Addr × Addr)) (sp : Sp), (∀ p ∈ cs, h.get? p.2 = some { cls := .none, data := .fields #[] }) ∧ (∀ p ∈ cs, K.lookup p.2 = none) ∧ (∀ p ∈ cs, PySem.W.CodeHd h p.1 p.2) ∧ (∀ (s : Shared) (u : Value), BindsTo s fd ⟨[u], []⟩ [(x, u)]) ∧
    (∀ (H : Hp) (a : Addr) (ns : List Int), ns.length ≤ n → (∀ p ∈ cs, H p.2 = some (.tbl #[])) → SqL K H a (ns.map V.int) → sp [.ref a] H (fun v _ => v = .bl true) fun _ _ _ => False) ∧
    ∀ base : Heap, K.In base → base.Ns mainGlobals mg → (∀ p ∈ cs, TabB base mg p.1 p.2) → FnG l.prog w K mg base CX k fa fd [x] sp
end
theorem walk_ofAllG {l : PySem.W.OpenLaw} {n k : Nat} {q : Program} {loose : List Str} {XP : (Str → Option Value) → Heap → Prop} {YP : World → Heap → Prop} {d : DefRec} {K : Params → PySem.W.Frag} {CX : World → CXT} {x : Str}
    (hn : l.most = some n) (hn2 : n ≤ sizeLine) (hdf : d.params.defaults = []) (hr : Room k callerA) (hY : ∀ (w : World) (h : Heap), YP w h → (K w.params).In h)
    (F : ∀ (w : World) (mg : Str → Option Value) (fa : Addr) (h : Heap), YP w h → (K w.params).In h → h.Ns mainGlobals mg → mg d.name = some (.ref fa) →
      (∀ (y : Str) (fy : Addr), ((recsOf q).any fun e => e.name == y) = true → mg y = some (.ref fy) → OwnTab (K w.params) fy h) → LawAtG l w (K w.params) (CX w) k n x mg fa h)
    (hCX : ∀ (w : World) (H : Hp) (s : Shared) (e : Value) (s' : Shared), CX w [] H s (fun _ _ _ => False) e s' → False) :
    PySem.W.WalkO q loose XP YP l.row.toRowW d [] (fun f vs => PySem.call f vs) := by
  refine Att.attach_callB hn hdf fun w s0 s1 mg mb fa o pm cd doc a vs ns G Y ho hd hcd hmg hobj hints hlen hbits hg => ?_
  have KX := hY w _ Y
  have own : ∀ (y : Str) (fy : Addr), ((recsOf q).any fun e => e.name == y) = true → mg y = some (.ref fy) → OwnTab (K w.params) fy s1.heap := by
    intro y fy hy hm c P ob fd1 e dd vs1 sl k1 k2 k3 k4 k5
    obtain ⟨dL, hmem, hname⟩ := List.any_eq_true.mp hy
    obtain ⟨a', o', fd', c', P', h1, h2, h3, h4, h5, ⟨oc, vc, e1, _, e3, e4⟩, hP⟩ := G.T.tab dL hmem
    have ey : dL.name = y := beq_iff_eq.mp hname
    subst ey
    cases hm.symm.trans h1
    cases (KX _ _ k1).symm.trans h2
    cases k2.symm.trans h3
    cases k3.symm.trans h4
    cases (KX _ _ k4).symm.trans e1
    cases e3
    cases k5.symm.trans e4
    exact hP
  obtain ⟨fd, cs, sp, hT, nT, C, hb, hsp, hF⟩ := F w mg fa _ Y KX G.T.g hmg own
  exact law_callG KX G.T.g G.T.b G.T.builtins G.T.nolimit hg hT nT C G.T.bmain hobj hints (Nat.le_trans hlen hn2) hr hF hb (fun H hH hS => hsp H a ns hlen hH hS) fun H e s' => hCX w H s1 e s'
end PD
/-! PDPop: tuple(range(n)), xs.pop(i), max of three, str of an int. -/
namespace PD
open PySem PySem.Spec PyProof.Rows L2
section
variable {X : Cx} {T : List (Addr × Str)} {W : WX} {a e o : Expr} {fa fe fo : SE} {p p1 p2 pos apos cpos : Pos}
/-- tuple(range(n)) -/
def sTupR1 (a : SE) : SE := fun ρ st => (a ρ st).bind fun x st => match x with
  | .int j => if 0 ≤ j ∧ j ≤ sizeLine then .ok (.tup (rangeL 0 j.toNat)) st else .bad
  | _ => .bad
@[simp] theorem sTupR1_e (a : SE) (ρ : Ev) (st : Sto) : sTupR1 a ρ st = (a ρ st).bind fun x st => match x with
  | .int j => if 0 ≤ j ∧ j ≤ sizeLine then .ok (.tup (rangeL 0 j.toNat)) st else .bad
  | _ => .bad := id rfl
def tTupRN (te : L2.St → Hp → (Int → Int → Hp → Prop) → Prop) : TE := fun σ H Q => te σ H fun a b H1 => RgOk a b ∧ NewT Q H1 (rgV a b)
theorem pe_tupRN {te : L2.St → Hp → (Int → Int → Hp → Prop) → Prop} (hc : X.calm = true) (hg : Gl X "tuple") (hm : X.mg "tuple" = none) (he : PRg X e te) (na : starEach [e] X.env = (false, eval e X.env) :: starEach [] X.env := by rfl) : PE X (.Call (.Name "tuple" p) [e] [] pos) (tTupRN te) := by
  refine ⟨fun pins s σ H Q I h => ?_⟩
  refine Call_ (ld_blt I hg hm boot_tuple (PyProof.Rows.callWith_type1 (args_cons (thn (he pins s σ H _ I h) fun x s1 hx => ?_) na) na))
  obtain ⟨r, a, b, t, u, v, H1, rfl, hr, I1, ⟨b1, b2, b3, b4, b5⟩, q⟩ := hx
  refine args_nil (call_tuple_range (n := (b - a).toNat) (I1.ok.hd hc) hr (small_one b1 b2 b3 b4) (rangeSize_nat a b) b5 fun h' tk acc hk hi => ?_)
  have I2 : Inv X pins σ H1 { s1 with heap := h', toks := tk } := I1.kept hk
  have := newT_ep (its := acc.toList) I2 (vals_rg hi) (by rw [rgV_length, sizeLine_eq]; omega) q
  rw [Array.toArray_toList] at this
  exact this
theorem pd_tupR1 (hc : X.calm = true) (hg : Gl X "tuple") (hm : X.mg "tuple" = none) (hg2 : Gl X "range") (hm2 : X.mg "range" = none) (ha : PE X a (tD (zX X T) W fa)) (na : starEach [a] X.env = (false, eval a X.env) :: starEach [] X.env := by rfl)
    (nb : starEach [.Call (.Name "range" p2) [a] [] p1] X.env = (false, eval (.Call (.Name "range" p2) [a] [] p1) X.env) :: starEach [] X.env := by rfl) :
    PE X (.Call (.Name "tuple" p) [.Call (.Name "range" p2) [a] [] p1] [] pos) (tD (zX X T) W (sTupR1 fa)) :=
  PE.wk (pe_tupRN hc hg hm (prg_1 hg2 hm2 ha na) nb) fun σ H Q ⟨g, ρ, st, S, E, q⟩ => by
    refine ⟨g, ρ, st, S, E, Sat.mono (sat_bind q) (fun d st1 q1 g1 H1 v L1 S1 r1 => ?_) fun _ _ _ q => q⟩
    split at q1
    · rename_i j
      split at q1
      · rename_i hj
        cases r1
        refine ⟨j, rfl, ?_, fun p o hp ho => ?_⟩
        · have := sizeLine_eq
          exact RgOk.of_le (by omega) (by omega) (by omega) (by omega)
        · have e : rgV 0 j = (List.range j.toNat).map fun (i : Nat) => V.int (0 + (i : Int)) := by
            unfold rgV
            rw [Int.sub_zero]
          obtain ⟨S', L'⟩ := S1.allocB (o := .frz o (.tup (rgV 0 j))) hp (fun _ => by simp)
          have rr := rgV_reps X.K g1 j.toNat
          rw [← e] at rr
          exact q1 _ _ _ (L1.trans L') S' (.tup (SqN.of ho) (by rw [rgV_length]; omega) (rr.mono L'.ge))
      · exact q1.elim
    · exact q1.elim
/-! xs.pop(i) -/
def fPopAt (x y : D) (st : Sto) : Out D := match x, y with
  | .ref l, .int i => (match st[l]? with
    | some (.lst xs) => if 0 ≤ i ∧ i < 1000000 then (match xs[i.toNat]? with | some d => .ok d (st.set l (.lst (xs.eraseIdx i.toNat))) | none => .bad) else .bad
    | _ => .bad)
  | _, _ => .bad
theorem reps_erase {K : PySem.W.Frag} {g : G} : ∀ {ds : List D} {vs : List V} (i : Nat), Reps K g ds vs → Reps K g (ds.eraseIdx i) (vs.eraseIdx i)
  | _, _, _, .nil => .nil
  | _, _, 0, .cons _ t => t
  | _, _, i + 1, .cons a t => .cons a (reps_erase i t)
theorem does_popAt : DoesM X T rPopAt fPopAt := by
  intro W σ g st H dx dy x y Q S rx ry h
  unfold fPopAt at h
  split at h
  · rename_i l i
    split at h
    · rename_i xs hs
      split at h
      · rename_i hz
        split at h
        · rename_i d hd
          obtain ⟨a, ws, rfl, hl, h2, h3, h4⟩ := ref_of S rx hs
          cases ry
          obtain ⟨v, hv, rv⟩ := h4.get hd
          have hlt : i.toNat < xs.length := (List.getElem?_eq_some_iff.mp hd).1
          have e1 := h4.length
          refine ⟨a, ws, i, i.toNat, v, rfl, rfl, h2, by omega, by omega, ?_, hv, ?_⟩
          · have n0 : ¬ i < 0 := by omega
            have n1 : (decide (0 ≤ i) && decide (i < (ws.length : Int))) = true := by
              rw [Bool.and_eq_true, decide_eq_true_eq, decide_eq_true_eq]
              omega
            unfold seqIndex?
            simp only [n0, if_false, n1, if_true]
          · obtain ⟨S4, L4⟩ := S.write (vs' := ws.eraseIdx i.toNat) hl hs (by have := List.length_eraseIdx_le ws i.toNat; omega) (reps_erase _ h4)
            exact h g _ v L4 S4 rv
        · exact h.elim
      · exact h.elim
    · exact h.elim
  · exact h.elim
theorem pd_popAt (ho : PE X o (tD (zX X T) W fo)) (he : PE X e (tD (zX X T) W fe)) (hst : starEach [e] X.env = (false, eval e X.env) :: starEach [] X.env := by rfl)
    (hbase : attributeBase o "pop" X.env (eval o X.env) = eval o X.env := by rfl)
    (hfew : ((backTo cpos (starEach [e] X.env)).all (fun x => !x.1) && (backToKw cpos (keywordEach [] X.env)).all (fun x => x.1.isSome)
      && decide ([e].length + ([] : List Keyword).length + (if ([] : List Keyword).isEmpty then 0 else 1) < 30)) = true := by rfl)
    (hline : (apos.endLine == cpos.line) = true := by rfl) (hplain : (backTo cpos (starEach [] X.env)).any (·.1) = false := by rfl) :
    PE X (.Call (.Attribute o "pop" apos) [e] [] cpos) (tD (zX X T) W (sM fPopAt fo fe)) :=
  PE.wk (pe_bm PySem.F.plainAttrs_list PySem.F.slot_list_pop PySem.F.type_list_pop mt_popAt ho (pa_consD he pa_nilD hst) hbase hfew hline hst hplain) (wkM does_popAt)
/-! max of three -/
def bMax3 (xs : List D) (st : Sto) : Out D := match xs with
  | [.int i, .int j, .int k] => .ok (.int (if (if i < j then j else i) < k then k else (if i < j then j else i))) st
  | _ => .bad
theorem does_max3 : DoesB X T (rNuC3 nuMax3) bMax3 := by
  intro W σ g st H ds vs Q S r h
  unfold bMax3 at h
  split at h
  · rename_i i j k
    cases r with
    | cons r1 r => cases r with
      | cons r2 r => cases r with
        | cons r3 r =>
          cases r; cases r1; cases r2; cases r3
          refine ⟨.int i, .int j, .int k, _, rfl, ?_, EPost.val S (fun _ => .int _) h⟩
          unfold nuMax3 nuMax2
          have nl : ∀ a b : Int, nuLt (V.int a) (V.int b) = some (decide (a < b)) := fun _ _ => rfl
          simp only [nl, Option.map_some, Option.bind_some]
          by_cases c1 : i < j <;> by_cases c2 : j < k <;> by_cases c3 : i < k <;> simp [c1, c2, c3, nl]
  · exact h.elim
/-! str of an int -/
def bStr (xs : List D) (st : Sto) : Out D := match xs with
  | [.int i] => if i.natAbs < 1000000 then .ok (.str (toString i)) st else .bad
  | _ => .bad
theorem does_str : DoesB X T (fun xs H Q => ∃ i : Int, xs = [V.int i] ∧ i.natAbs.log2 < 1920 ∧ Q (.str (toString i)) H) bStr := by
  intro W σ g st H ds vs Q S r h
  unfold bStr at h
  split at h
  · rename_i i
    split at h
    · rename_i hi
      cases r with
      | cons r1 r =>
        cases r; cases r1
        refine ⟨i, rfl, ?_, EPost.val S (fun _ => .str _) h⟩
        have : i.natAbs.log2 < 20 := by
          by_cases z : i.natAbs = 0
          · rw [z]; decide
          · exact (Nat.log2_lt z).mpr (by omega)
        omega
    · exact h.elim
  · exact h.elim
/-! i, j, k = x, y, z -/
def qPar3 (i j l : Nat) (a : SA) : SS := fun ρ st => (a ρ st).st ρ fun ds st => match ds with
  | [x, y, z] => some (.nx (((ρ.set i (some x)).set j (some y)).set l (some z)), st)
  | _ => none
@[simp] theorem qPar3_e (i j l : Nat) (a : SA) (ρ : Ev) (st : Sto) : qPar3 i j l a ρ st = (a ρ st).st ρ fun ds st => match ds with
  | [x, y, z] => some (.nx (((ρ.set i (some x)).set j (some y)).set l (some z)), st)
  | _ => none := id rfl
theorem ps_par3D {b c : Expr} {fs : SA} {i j l : Nat} {x y z : Str} {px py pz pt : Pos} {kt k2 : Nat} {pt2 : Pos} (hc : X.calm = true) (hN : X.N.Nodup) (hi : X.N[i]? = some x) (hj : X.N[j]? = some y) (hl : X.N[l]? = some z) (hij : i ≠ j) (hil : i ≠ l) (hjl : j ≠ l)
    (hx : X.env.scope.names.lookup x = some .local) (hy : X.env.scope.names.lookup y = some .local) (hz : X.env.scope.names.lookup z = some .local) (ha : PA X [a, b, c] (tDA (zX X T) W fs))
    (hw : swappedStores [.Tuple [.Name x px, .Name y py, .Name z pz] kt pt] (.Tuple [a, b, c] k2 pt2) X.env = pure (some [x, y, z])) :
    PS X (.Assign [.Tuple [.Name x px, .Name y py, .Name z pz] kt pt] (.Tuple [a, b, c] k2 pt2) pos) (tDS (zX X T) W (qPar3 i j l fs)) :=
  PS.wk (ps_par3 hc hN hi hj hl hij hil hjl hx hy hz ha hw rfl) fun D σ H ⟨g, ρ, st, S, E, q⟩ => ⟨g, ρ, st, S, E, Sat.mono (st_sat E q) (fun ds st1 q1 g1 H1 vs L1 S1 r1 => by
    split at q1
    · cases r1 with
      | cons r1 r2 => cases r2 with
        | cons r2 r3 => cases r3 with
          | cons r3 r4 => cases r4; exact ⟨_, _, _, rfl, q1 g1 H1 L1 S1 _ ((((E.mono L1.ge).set i r1).set j r2).set l r3)⟩
    · exact q1.elim) fun _ _ _ q => q⟩
end
end PD
/-! PDLst: a, b = a list of two. -/
namespace PD
open PySem PySem.Spec PyProof.Rows L2
section
variable {X : Cx} {T : List (Addr × Str)} {pos : Pos}
def gT2L (a b : TgD) : TgD := fun d ρ => match d with
  | .lst [x, y] => (a x ρ).bind fun ρ => b y ρ
  | _ => none
@[simp] theorem gT2L_e (a b : TgD) (x y : D) (ρ : Ev) : gT2L a b (.lst [x, y]) ρ = (a x ρ).bind fun ρ => b y ρ := id rfl
theorem tg_twoL {z : Z} {t1 t2 : TG} {g1 g2 : TgD} {s1 s2 : List Nat} (h1 : TgOk z t1 g1 s1) (h2 : TgOk z t2 g2 s2) : TgOk z (gLst z.K 2 (gCons t1 (gCons t2 gNil))) (gT2L g1 g2) (s1 ++ s2) := fun g st σ ρ ρ' H d v Q S r E e k => by
  unfold gT2L at e
  split at e
  · rename_i x y
    obtain ⟨ρ1, e1, e2⟩ := Option.bind_eq_some_iff.mp e
    obtain ⟨a, vs, rfl, q1, q2, q3⟩ := S.litems (xs := [x, y]) r rfl
    cases q3 with
    | cons r1 q3 => cases q3 with
      | cons r2 q3 =>
        cases q3
        refine ⟨a, [_, _], rfl, SqL.of q1, rfl, _, [_], rfl, h1 g st σ ρ ρ1 H x _ _ S r1 E e1 fun σ1 E1 w1 => ⟨_, [], rfl, h2 g st σ1 ρ1 ρ' H y _ _ S r2 E1 e2 fun σ2 E2 w2 => ⟨rfl, k σ2 E2 fun vs hv => ?_⟩⟩⟩
        exact (w2 vs fun i hi => hv i (List.mem_append_right _ hi)).trans (w1 vs fun i hi => hv i (List.mem_append_left _ hi))
  · cases e
end
end PD
/-! PDSrtT: sorted of a tuple of ints. -/
namespace PD
open PySem PySem.Spec PyProof.Rows L2
section
variable {prog : Program} {w : World} {A : Around} {E : Value → Shared → Prop} {s : Shared}
theorem tup_collect {t : Addr} {vs : List Value} {Q : List Value → Shared → Prop} (ht : IsTup s.heap t vs.toArray) (hz : vs.length ≤ sizeLine)
    (k : Q vs { s with heap := (s.heap.push (seqObj "list" #[] 0)).update s.heap.objs.size (Obj.mapSeq (· ++ vs.toArray)) }) : wpAny (model prog w) A (collect (.ref t)) Q E s := by
  obtain ⟨o, ho, hc, n, hd⟩ := id ht
  have ho' : (s.heap.push (seqObj "list" #[] 0)).get? t = some o := Heap.get?_push_of_some _ ho
  unfold collect
  refine wpAny_bind (wpAny_runValue (codeAny_builtin entry_proto_collect' ?_))
  show wpAny _ _ (do again (.builtin "list.__iadd__" ⟨[← newList [], .ref t], []⟩)) _ _ s
  refine wpAny_bind (wpAny_newList (wpAny_pure ⟨Code.quiet_builtin _ (by decide +kernel), codeAny_builtin entry_list_iadd' ?_⟩))
  show wpAny _ _ (Builtin.List.listExtendWith (.ref s.heap.objs.size) (.ref t) (.ref s.heap.objs.size)) _ _ { s with heap := s.heap.push (seqObj "list" #[] 0) }
  unfold Builtin.List.listExtendWith
  refine wpAny_bind (wpAny_typeOf (T := "tuple") ⟨o, ho', hc⟩ ?_)
  rw [if_pos (by rw [show (Value.type "tuple" == Value.type "tuple") = true by rfl]; simp)]
  refine wpAny_bind (listItems_at ho' hd (wpAny_bind (listItems_at (xs := #[]) (n := 0) (Heap.get?_push_size _ rfl) rfl ?_)))
  rw [if_neg (by simp)]
  refine wpAny_bind (listUpdate_at (xs := #[]) (n := 0) (Heap.get?_push_size _ rfl) rfl (wpAny_pure ?_) (Nat.zero_le _) (by show (#[] ++ vs.toArray).size ≤ sizeLine + 1; rw [Array.size_append, List.size_toArray]; show 0 + vs.length ≤ _; omega))
  show wpAny (model prog w) A (do
      let o ← load s.heap.objs.size
      match o.data with
      | .seq xs _ => pure xs.toList
      | _ => unsupported "internal:collect") Q E { s with heap := (s.heap.push (seqObj "list" #[] 0)).update s.heap.objs.size (Obj.mapSeq (· ++ vs.toArray)) }
  refine wpAny_bind (wpAny_load (get?_update_seq (Heap.get?_push_size _ rfl) _) ?_)
  have e : ((#[] : Array Value) ++ vs.toArray).toList = vs := by simp
  show wpAny _ _ (pure ((#[] : Array Value) ++ vs.toArray).toList) Q E _
  rw [e]
  exact wpAny_pure k
theorem tup_sorted {t : Addr} {vs : List Value} {ltv : Value → Value → Bool} {Q : Value → Shared → Prop} (O : SrtO.Swo ltv) (ht : IsTup s.heap t vs.toArray) (hz : vs.length ≤ sizeLine)
    (hS : 2 ≤ vs.length → ∀ (h₁ : Heap) (a : Addr), SrtO.SortableO prog w A.in1.in1 { s with heap := h₁ } a vs ltv)
    (k : ∀ out : List Value, SrtO.Srtd ltv out → SrtO.Stb ltv out vs → Q (.ref (s.heap.objs.size + 1)) { s with heap := sortedAll s.heap vs out.toArray }) :
    wpAny (model prog w) A (call (.builtin "sorted") [.ref t]) Q E s := by
  refine Calls.call_function_entry kind_sorted plain_sorted entry_sorted (args_sorted1 _) ?_
  unfold Builtin.«sorted»
  refine wpAny_bind (m := checkCount "sorted" 1 1 _) (wpAny_pure (wpAny_bind (tup_collect ht hz (wpAny_bind (wpAny_newList ?_ hz)))))
  have sz : ((s.heap.push (seqObj "list" #[] 0)).update s.heap.objs.size (Obj.mapSeq (· ++ vs.toArray))).objs.size = s.heap.objs.size + 1 := by
    rw [Heap.size_update, size_push']
  have at1 : (((s.heap.push (seqObj "list" #[] 0)).update s.heap.objs.size (Obj.mapSeq (· ++ vs.toArray))).push (seqObj "list" vs.toArray 0)).get? (s.heap.objs.size + 1) = some (seqObj "list" vs.toArray 0) := by
    rw [← sz]; exact Heap.get?_push_size _ rfl
  show wpAny _ _ _ _ _ { s with heap := ((s.heap.push (seqObj "list" #[] 0)).update s.heap.objs.size (Obj.mapSeq (· ++ vs.toArray))).push (seqObj "list" vs.toArray 0) }
  rw [sz]
  refine wpAny_bind (wpAny_holding (wpAny_call_entry slot_list_sort ⟨_, at1, rfl⟩ entry_list_sort (SrtO.list_sort_ord O at1 hz (fun h2 => hS h2 _ _) fun out h1 h2 => ⟨_, rfl, wpAny_pure ⟨_, rfl, k out h1 h2⟩⟩) (args_list_sort _)))
end
section
variable {X : Cx} {T : List (Addr × Str)}
def rSortT (K : PySem.W.Frag) : List V → Hp → VK → Prop := fun vs H Q => ∃ (a : Addr) (ns : List Int), vs = [V.ref a] ∧ SqT K H a (ns.map V.int) ∧
  ∀ (ns' : List Int) (p : Addr), ns'.Perm ns → ns'.Pairwise (· ≤ ·) → H p = none → Q (.ref p) (upd H p (.lst (ns'.map V.int)))
theorem cr_sortT : CallR X (.builtin "sorted") (rSortT X.K) := by
  intro pins s σ H vs us Q I r h
  obtain ⟨a, ns, rfl, hs, q⟩ := h
  obtain ⟨its, rv, hl, hz⟩ := I.tuple hs
  rw [Vals.ref1 r]
  have hi := rv.ints
  refine tup_sorted SrtO.swo_int hl (by rw [← rv.length]; exact hz) (fun h2 h₁ a' => SrtO.ints_sortable hi h2) fun out h1 h2 => ?_
  obtain ⟨k1, k2, k3⟩ := SrtO.ints_out hi h1 h2
  obtain ⟨ep, he'⟩ := sortedAll_at s.heap its out.toArray
  have hlen : ((out.map SrtO.iv).map V.int).length ≤ sizeLine := by
    rw [List.length_map, k2.length_eq, ← List.length_map (f := V.int) (as := ns)]
    exact hz
  exact ⟨.ref _, upd H (s.heap.objs.size + 1) (.lst ((out.map SrtO.iv).map V.int)), I.laid (t' := s.toks) (fun _ _ => sortedAll_old) (Nat.le_succ _) ⟨hlen, out, ep, vals_of_ints k1, he'⟩, rfl, q _ _ k2 k3 (I.hok.fresh (Nat.le_succ _))⟩
/-- sorted of a tuple of ints -/
def bSortedT (xs : List D) (st : Sto) : Out D := match xs with
  | [.tup ds] => (match allInt ds with | some ns => .ok (.lst ((sortZ (ns.map fun i => [[(1 : Int), i]]) ns).map D.int)) st | none => .bad)
  | _ => .bad
theorem does_sortT : DoesB X T (rSortT X.K) bSortedT := by
  intro W σ g st H ds vs Q S r h
  unfold bSortedT at h
  split at h
  · rename_i ys
    split at h
    · rename_i ns e
      have := allInt_ofK e
      subst this
      cases r with
      | cons r1 r2 =>
        cases r2
        obtain ⟨a, ws, rfl, h1, h2, h3⟩ := S.tup r1
        have := reps_ints h3
        subst this
        refine ⟨a, ns, rfl, h1, fun ns' p hp hs hf => ?_⟩
        have e := sortZ_ints ns ns' hp hs
        rw [← e] at h
        exact newL_ok (m := false) S (by rw [List.length_map, hp.length_eq]; simpa using h2) (reps_ofInts ns') h p hf
    · exact h.elim
  · exact h.elim
end
end PD
/-! PDRevT: t[::-1] of a tuple. -/
namespace PD
open PySem PySem.Spec PyProof.Rows L2
section
variable {prog : Program} {w : World} {A : Around} {E : Value → Shared → Prop} {s : Shared}
theorem fm_congr {α β : Type} {f g : α → Option β} : ∀ {l : List α}, (∀ a ∈ l, f a = g a) → l.filterMap f = l.filterMap g
  | [], _ => rfl
  | a :: l, h => by rw [List.filterMap_cons, List.filterMap_cons, h a List.mem_cons_self, fm_congr fun b hb => h b (List.mem_cons_of_mem _ hb)]
theorem back_pick (xs : Array Value) : ((List.range xs.size).filterMap fun (k : Nat) => xs[(((xs.size : Int) - 1) + (k : Int) * (-1)).toNat]?).toArray = xs.toList.reverse.toArray := by
  have e : (List.range xs.size).filterMap (fun (k : Nat) => xs[(((xs.size : Int) - 1) + (k : Int) * (-1)).toNat]?) = ((List.range xs.size).map fun k => xs.size - 1 - k).filterMap (xs[·]?) := by
    rw [List.filterMap_map]
    refine fm_congr fun k hk => ?_
    have := List.mem_range.mp hk
    show xs[_]? = xs[xs.size - 1 - k]?
    congr 1
    omega
  rw [e, PySem.W.krv_range, List.filterMap_reverse, PySem.W.krv_all]
theorem back_places (n : Nat) : Builtin.Slice.slicePlaces ((n : Int) - 1) (-1) (-1) = n := by
  unfold Builtin.Slice.slicePlaces
  rw [if_neg (by decide)]
  by_cases h : (n : Int) - 1 > -1
  · rw [if_pos h, show (- -1 : Int) = 1 by decide, Int.ediv_one]
    omega
  · rw [if_neg h]
    omega
theorem back_applied {sl : Addr} {vl vu vs : Value} {n : Nat} {Q : Int × Int × Nat → Shared → Prop} (hs : s.heap.IsSliceOf sl vl vu vs) (pl : IsPart vl none) (pu : IsPart vu none) (ps : IsPart vs (some (-1)))
    (h : Q (((n : Int) - 1), -1, n) s) : wpAny (model prog w) A (Builtin.Slice.sliceApplied (.ref sl) (pure (n : Int))) Q E s := by
  obtain ⟨os, hos, hcs, hds⟩ := id hs
  unfold Builtin.Slice.sliceApplied Builtin.Slice.sliceFields
  refine wpAny_bind (wpAny_bind (wpAny_field hos hds (x := vl) rfl (wpAny_bind (wpAny_field hos hds (x := vu) rfl (wpAny_bind (wpAny_field hos hds (x := vs) rfl (wpAny_pure ?_)))))))
  refine wpAny_bind (HT.slicePart_ ps ?_)
  show wpAny _ _ (if ((-1 : Int) == 0) = true then _ else _) _ _ s
  rw [if_neg (by decide)]
  refine wpAny_bind (HT.slicePart_ pl (wpAny_bind (HT.slicePart_ pu (wpAny_bind (wpAny_pure ?_)))))
  show wpAny _ _ (pure (((n : Int) - 1), (-1 : Int), Builtin.Slice.slicePlaces ((n : Int) - 1) (-1) (-1))) _ _ s
  rw [back_places]
  exact wpAny_pure h
theorem back_tuple {t sl : Addr} {items : Array Value} {vl vu vs : Value} {Q : Value → Shared → Prop} (ht : IsTup s.heap t items) (hs : s.heap.IsSliceOf sl vl vu vs) (pl : IsPart vl none) (pu : IsPart vu none) (ps : IsPart vs (some (-1)))
    (h : Q (.ref s.heap.objs.size) { s with heap := s.heap.push { cls := .type "tuple", data := .seq items.toList.reverse.toArray } }) (hz : items.size ≤ sizeLine) : wpAny (model prog w) A (getItem (.ref t) (.ref sl)) Q E s := by
  have fits : sizeOk (.seq items.toList.reverse.toArray) := by
    show items.toList.reverse.toArray.size ≤ sizeLine
    rw [List.size_toArray, List.length_reverse, Array.length_toList]
    exact hz
  obtain ⟨os, hos, hcs, hds⟩ := id hs
  have hTs : s.TypeIs (.ref sl) "slice" := ⟨os, hos, hcs⟩
  unfold getItem
  try with_reducible refine wpAny_holding ?_
  first | refine wpAny_bind (wpAny_pure ?_) | skip
  refine wpAny_bind (wpAny_sequenceKey ht.typeIs (by decide) (wpAny_bind (wpAny_callSpecial?_slot (name := Str.ofString "__getitem__") ht.typeIs PyProof.Rows.slot_tuple_getitem
    (wpAny_call_entry PyProof.Rows.slot_tuple_getitem ht.typeIs entry_tuple_getitem ?_ (args_tuple_getitem _ _)))))
  show wpAny _ _ (Builtin.Tuple.tupleItemsOf (.ref t) >>= _) _ _ s
  refine wpAny_bind (tupleItemsOf_ ht (wpAny_bind (wpAny_typeOf hTs ?_)))
  rw [if_pos (by decide)]
  refine wpAny_bind (back_applied hs pl pu ps ?_)
  have no : ¬ ((((items.size : Int) - 1) == 0 && (-1 : Int) == 1 && items.size == items.size) = true) := by
    intro q
    rw [Bool.and_eq_true, Bool.and_eq_true] at q
    exact absurd q.1.2 (by decide)
  show wpAny _ _ (if (((items.size : Int) - 1) == 0 && (-1 : Int) == 1 && items.size == items.size) = true then _ else _) _ _ s
  rw [if_neg no, back_pick]
  first
    | exact wpAny_bind (m := Builtin.Tuple.tupleExact _) (wpAny_newObj_type (wpAny_pure ⟨_, rfl, wpAny_pure h⟩) fits)
    | exact wpAny_bind (m := Builtin.Tuple.tupleExact _) (wpAny_newObj_type (wpAny_bind (wpAny_pure (wpAny_pure ⟨_, rfl, wpAny_pure h⟩))) fits)
    | exact wpAny_bind (wpAny_bind (m := Builtin.Tuple.tupleExact _) (wpAny_newObj_type (wpAny_pure (wpAny_pure ⟨_, rfl, wpAny_pure h⟩)) fits))
    | exact wpAny_bind (wpAny_bind (m := Builtin.Tuple.tupleExact _) (wpAny_newObj_type (wpAny_pure ⟨_, rfl, wpAny_pure h⟩) fits))
end
section
variable {X : Cx} {T : List (Addr × Str)} {W : WX} {e : Expr} {fe : SE} {pos : Pos}
def tBackT (K : PySem.W.Frag) (te : TE) : TE := fun σ H Q => te σ H fun x H1 => ∃ a xs, x = .ref a ∧ SqT K H1 a xs ∧ NewT Q H1 xs.reverse
theorem pe_backT {te : TE} {k : Nat} {p1 p2 p3 : Pos} (he : PE X e te) : PE X (.Subscript e (.Slice none none (some (.UnaryOp .USub (.Constant (.int 1) k p1) p2)) p3) pos) (tBackT X.K te) := by
  refine ⟨fun pins s σ H Q I h => ?_⟩
  refine Subscript_ (thn (he.run pins s σ H _ I h) fun v s1 ⟨x, H1, I1, r1, a, xs, ex, hx, q⟩ => ?_)
  subst ex
  cases r1
  have hst : PO X (some (.UnaryOp .USub (.Constant (.int 1) k p1) p2)) (tPart (tUn (rU fun i => .int (-i)) (tC (.int 1)))) := po_some (pe_un un_neg pe_int)
  refine wpAny_Slice (thn (po_none.run pins s1 σ H1 (fun o H2 => o = none ∧ H2 = H1) I1 ⟨rfl, rfl⟩) fun vl s2 ⟨l, H2, I2, pl, el, e2⟩ => ?_)
  subst el e2
  refine thn (po_none.run pins s2 σ H2 (fun o H3 => o = none ∧ H3 = H2) I2 ⟨rfl, rfl⟩) fun vu s3 ⟨u, H3, I3, pu, eu, e3⟩ => ?_
  subst eu e3
  refine thn (hst.run pins s3 σ H3 (fun o H4 => o = some (-1) ∧ H4 = H3) I3 ⟨1, rfl, -1, rfl, rfl, rfl⟩) fun vs s4 ⟨o, H4, I4, ps, eo, e4⟩ => ?_
  subst eo e4
  have I5 : Inv X pins σ H4 { s4 with heap := s4.heap.push { cls := .type "slice", data := .fields #[vl, vu, vs] } } := I4.kept (t' := s4.toks) fun b ob q => Heap.get?_push_of_some _ q
  obtain ⟨its, r, ht, hz⟩ := I5.tuple hx
  have hlen := r.length
  show wpAny (model X.prog X.w) X.A (subscriptTail e (.Slice none none (some (.UnaryOp .USub (.Constant (.int 1) k p1) p2)) p3) (.ref a) (.ref s4.heap.objs.size)) (EP X pins σ Q) X.xe { s4 with heap := s4.heap.push { cls := .type "slice", data := .fields #[vl, vu, vs] } }
  refine tail_any (ops := [.ref a, .ref s4.heap.objs.size]) ht.typeIs PyProof.Rows.slot_tuple_getitem.lookup ?_ (by with_unfolding_all rfl)
  refine back_tuple ht (Heap.IsSliceOf.new _ vl vu vs) pl pu ps ?_ (by rw [List.size_toArray]; omega)
  exact newT_ep I5 r.reverse (by rw [List.length_reverse]; exact hz) q
def sRevT (e : SE) : SE := fun ρ st => (e ρ st).bind fun x st => match x with
  | .tup xs => .ok (.tup xs.reverse) st
  | _ => .bad
@[simp] theorem sRevT_e (e : SE) (ρ : Ev) (st : Sto) : sRevT e ρ st = (e ρ st).bind fun x st => match x with
  | .tup xs => .ok (.tup xs.reverse) st
  | _ => .bad := id rfl
theorem pd_revT {k : Nat} {p1 p2 p3 : Pos} (he : PE X e (tD (zX X T) W fe)) : PE X (.Subscript e (.Slice none none (some (.UnaryOp .USub (.Constant (.int 1) k p1) p2)) p3) pos) (tD (zX X T) W (sRevT fe)) :=
  PE.wk (pe_backT he) fun σ H Q ⟨g, ρ, st, S, E, q⟩ => by
    refine ⟨g, ρ, st, S, E, Sat.mono (sat_bind q) (fun d st1 q1 g1 H1 v L1 S1 r1 => ?_) fun _ _ _ q => q⟩
    split at q1
    · rename_i xs
      obtain ⟨a, vs, rfl, h1, h2, h3⟩ := S1.tup r1
      refine ⟨a, vs, rfl, h1, fun p o hp ho => ?_⟩
      obtain ⟨S', L'⟩ := S1.allocB (o := .frz o (.tup vs.reverse)) hp (fun _ => by simp)
      exact q1 _ _ _ (L1.trans L') S' (.tup (SqN.of ho) (by rw [List.length_reverse]; exact h2) ((reps_rev h3).mono L'.ge))
    · exact q1.elim
end
/-! isinstance(e, C), C a class of the builtins -/
section
variable {X : Cx} {T : List (Addr × Str)} {W : WX} {e : Expr} {fe : SE}
theorem pd_isEB {Y : Cx} {a D : Addr} {dx : Option Addr} {oe : Obj} {pn : List (Addr × Obj)} {i : Nat} {n x : Str} {C : String} {b : Bool} {p p1 p2 pos : Pos} (ec : ExcC Y.K D) (hz : Zc (.ref D) dx oe) (hf : ∃ vs, oe.data = .fields vs) (hb : PySem.W.kitOne Y.K (.ref D) (.type C) = some b)
    (hN : Y.N[i]? = some x) (hv : Vis Y.env.scope x) (hg : Gl Y "isinstance") (hm : Y.mg "isinstance" = none) (hgC : Gl Y n) (hmC : Y.mg n = none) (hbC : bootBuiltins n = some (.type C)) (hnn : n ≠ "__name__" := by decide)
    (hd : (x == ("__debug__" : Str)) = false := by decide) (hcd : (x == ("__classdict__" : Str)) = false := by decide) (hnd : (n == ("__debug__" : Str)) = false := by decide)
    (he : starEach [.Name x p1, .Name n p2] (Y.suite a ((a, oe) :: pn)).env = (false, eval (.Name x p1) (Y.suite a ((a, oe) :: pn)).env) :: starEach [.Name n p2] (Y.suite a ((a, oe) :: pn)).env := by rfl) (he2 : starEach [.Name n p2] (Y.suite a ((a, oe) :: pn)).env = (false, eval (.Name n p2) (Y.suite a ((a, oe) :: pn)).env) :: starEach [] (Y.suite a ((a, oe) :: pn)).env := by rfl)
    (hpl : (backTo pos (starEach [.Name n p2] (Y.suite a ((a, oe) :: pn)).env)).any (·.1) = false := by rfl) :
    PE (Y.suite a ((a, oe) :: pn)) (.Call (.Name "isinstance" p) [.Name x p1, .Name n p2] [] pos) (tD (zX (Y.suite a ((a, oe) :: pn)) T) W (sIsE i a dx b)) := by
  have h1 : PE (Y.suite a ((a, oe) :: pn)) (.Name n p2) (tC (V.ty C)) := pe_bltn hgC hmC hbC rfl hnn hnd
  have h0 : PE (Y.suite a ((a, oe) :: pn)) (.Name x p1) _ := pe_var (i := i) hN hv hd hcd
  refine PE.wk (pe_callB (call_isED ec hz hf) hg hm (by rfl) (pa_cons h0 (pa_cons h1 pa_nil he2) he) (by decide) (by decide) he hpl) fun σ H Q ⟨g, ρ, st, S, E, q⟩ => ?_
  unfold sIsE at q
  split at q
  · rename_i a' e
    split at q
    · rename_i ea
      obtain ⟨rfl, rfl⟩ := ea
      obtain ⟨v, hv, rv⟩ := E.2 i _ e
      cases rv
      exact ⟨_, hv, .ty C, .type C, b, rfl, fun u hu => hu, hb, (fun dd z => by cases z), EPost.val S (fun _ => .bl b) q⟩
    · exact q.elim
  · rename_i a' dd ks xs e
    split at q
    · rename_i ea
      obtain ⟨rfl, rfl⟩ := ea
      obtain ⟨v, hv, rv⟩ := E.2 i _ e
      cases rv with
      | xc eb _ => exact ⟨_, hv, .ty C, .type C, b, rfl, fun u hu => hu, hb, (fun d2 z => by cases z; exact ⟨_, S.sub _ _ eb⟩), EPost.val S (fun _ => .bl b) q⟩
    · exact q.elim
  · exact q.elim
end
end PD
namespace Lw96
open PySem PD
def b_is_integer : SS := (qRet (sAnd (sIsI .int (sVar 0)) (sNotV (sIsI .bool (sVar 0)))))
def F_is_integer : List D → Sto → Out D := defFin 1 b_is_integer
def b_is_within : SS := (qRet (sAnd (sCall 1 F_is_integer (aCons (sVar 0) aNil)) (sChain fLe fLe (sVar 1) (sVar 0) (sVar 2))))
def F_is_within : List D → Sto → Out D := defFin 3 b_is_within
def b_is_sized : SS := (qRet (sAnd (sIsI .tuple (sVar 0)) (sChain fLe fLe (sVar 1) (sB bLen (aCons (sVar 0) aNil)) (sVar 2))))
def F_is_sized : List D → Sto → Out D := defFin 3 b_is_sized
def b_is_table : SS := (qSeq (qIf (tOrD (tNotD (tTru (sCall 3 F_is_sized (aCons (sVar 0) (aCons (sC (.int 1)) (aCons (sC (.int 7)) aNil)))))) (tNotD (tTru (sB bAll (aCons (sLC false (iSeq (sVar 0)) (gN 2) tYesD (sCall 3 F_is_sized (aCons (sVar 2) (aCons (sB bLen (aCons (sVar 0) aNil)) (aCons (sB bLen (aCons (sVar 0) aNil)) aNil)))) [2]) aNil))))) (qRet (sC (.bl false))) qNext)
    (qSeq (qFor (iEnum (aCons (sVar 0) aNil)) (gT2 (gN 1) (gN 2))
    (qSeq (qIf (tNotD (tTru (sB bAll (aCons (sLC false (iSeq (sVar 2)) (gN 3) tYesD (sCall 3 F_is_within (aCons (sVar 3) (aCons (sC (.int 0)) (aCons (sC (.int 1000)) aNil)))) [3]) aNil)))) (qRet (sC (.bl false))) qNext)
    (qIf (tTru (sB bAny (aCons (sLC false (iEnum (aCons (sVar 2) aNil)) (gT2 (gN 4) (gN 3)) tYesD (s2 fNe (s2 fEq (sVar 3) (sC (.int 0))) (s2 fEq (sVar 1) (sVar 4))) [4, 3]) aNil))) (qRet (sC (.bl false))) qNext)))
    (qRet (sB bAll (aCons (sLC false (iEnum (aCons (sVar 0) aNil)) (gT2 (gN 1) (gN 2)) tYesD (sB bAll (aCons (sLC false (iRange1 (aCons (sVar 1) aNil)) (gN 4) tYesD (s2 fEq (s2 fIx (sVar 2) (sVar 4)) (s2 fIx (s2 fIx (sVar 0) (sVar 4)) (sVar 1))) [4]) aNil)) [1, 2]) aNil)))))
def F_is_table : List D → Sto → Out D := defFin 5 b_is_table
def b_check_table : SS := (qIf (tNotD (tTru (sCall 1 F_is_table (aCons (sVar 0) aNil)))) (qRaise "NoTable") qNext)
def F_check_table : List D → Sto → Out D := defFin 1 b_check_table
def b_short_triple : SS := (qSeq (qSet 1 (sListR1 false (sB bLen (aCons (sVar 0) aNil))))
    (qSeq (qFor (iSeq (sVar 1)) (gN 2)
    (qFor (iSeq (sVar 1)) (gN 3)
    (qFor (iSeq (sVar 1)) (gN 4)
    (qIf (tAndD (tBl (s2 fNotIn (sVar 3) (sTup (aCons (sVar 2) (aCons (sVar 4) aNil))))) (tAndD (tBl (s2 fLt (sVar 2) (sVar 4))) (tBl (s2 fGt (s2 fIx (s2 fIx (sVar 0) (sVar 2)) (sVar 4)) (s2 fAdd (s2 fIx (s2 fIx (sVar 0) (sVar 2)) (sVar 3)) (s2 fIx (s2 fIx (sVar 0) (sVar 3)) (sVar 4))))))) (qRet (sTup (aCons (sVar 2) (aCons (sVar 3) (aCons (sVar 4) aNil))))) qNext))))
    (qRet (sC .non))))
def F_short_triple : List D → Sto → Out D := defFin 5 b_short_triple
def b_check_sound : SS := (qSeq (qExpr (sCall 1 F_check_table (aCons (sVar 0) aNil)))
    (qIf (tBl (s2 fNotN2 (sCall 1 F_short_triple (aCons (sVar 0) aNil)) (sC .non))) (qRaise "Unsound") qNext))
def F_check_sound : List D → Sto → Out D := defFin 1 b_check_sound
def b_falls_of : SS := (qSeq (qSet 2 (sLst true aNil))
    (qSeq (qFor (iRange1 (aCons (sB bLen (aCons (sVar 1) aNil)) aNil)) (gN 3)
    (qFor (iRange2 (aCons (s2 fAdd (sVar 3) (sC (.int 1))) (aCons (sB bLen (aCons (sVar 1) aNil)) aNil))) (gN 4)
    (qFor (iRange2 (aCons (s2 fAdd (sVar 4) (sC (.int 1))) (aCons (sB bLen (aCons (sVar 1) aNil)) aNil))) (gN 5)
    (qSeq (qSet 6 (s2 fIx (s2 fIx (sVar 0) (s2 fIx (sVar 1) (sVar 3))) (s2 fIx (sVar 1) (sVar 5))))
    (qIf (tOrD (tBl (s2 fLt (sVar 6) (s2 fIx (s2 fIx (sVar 0) (s2 fIx (sVar 1) (sVar 3))) (s2 fIx (sVar 1) (sVar 4))))) (tBl (s2 fLt (sVar 6) (s2 fIx (s2 fIx (sVar 0) (s2 fIx (sVar 1) (sVar 4))) (s2 fIx (sVar 1) (sVar 5)))))) (qExpr (sM fAppend (sVar 2) (sTup (aCons (sVar 3) (aCons (sVar 4) (aCons (sVar 5) aNil)))))) qNext)))))
    (qRet (sVar 2))))
def F_falls_of : List D → Sto → Out D := defFin 7 b_falls_of
def b_all_rows : SS := (qSeq (qSet 1 (sLst false (aCons (sTup aNil) aNil)))
    (qSeq (qFor (iRange1 (aCons (sVar 0) aNil)) (gN 2)
    (qSeq (qSet 3 (sLst true aNil))
    (qSeq (qFor (iSeq (sVar 1)) (gN 4)
    (qExpr (sM fExtend (sVar 3) (sLC false (iRange1 (aCons (sVar 0) aNil)) (gN 5) (tBl (s2 fNotIn (sVar 5) (sVar 4))) (s2 fAdd (sVar 4) (sTup (aCons (sVar 5) aNil))) [5]))))
    (qSet 1 (sVar 3)))))
    (qRet (sVar 1))))
def F_all_rows : List D → Sto → Out D := defFin 6 b_all_rows
def b_fewest_falls : SS := (qSeq (qExpr (sCall 1 F_check_sound (aCons (sVar 0) aNil)))
    (qRet (sB bMinP (aCons (sLC false (iSeq (sCall 1 F_all_rows (aCons (sB bLen (aCons (sVar 0) aNil)) aNil))) (gN 1) tYesD (sTup (aCons (sB bLen (aCons (sCall 2 F_falls_of (aCons (sVar 0) (aCons (sVar 1) aNil))) aNil)) (aCons (sVar 1) aNil))) [1]) aNil))))
def F_fewest_falls : List D → Sto → Out D := defFin 2 b_fewest_falls
def b_is_row : SS := (qSeq (qIf (tOrD (tNotD (tTru (sCall 3 F_is_sized (aCons (sVar 1) (aCons (sVar 0) (aCons (sVar 0) aNil)))))) (tNotD (tTru (sB bAll (aCons (sLC false (iSeq (sVar 1)) (gN 2) tYesD (sCall 1 F_is_integer (aCons (sVar 2) aNil)) [2]) aNil))))) (qRet (sC (.bl false))) qNext)
    (qRet (s2 fEq (sB bSortedT (aCons (sVar 1) aNil)) (sListR1 false (sVar 0)))))
def F_is_row : List D → Sto → Out D := defFin 3 b_is_row
def b_check_row : SS := (qSeq (qExpr (sCall 1 F_check_sound (aCons (sVar 0) aNil)))
    (qIf (tNotD (tTru (sCall 2 F_is_row (aCons (sB bLen (aCons (sVar 0) aNil)) (aCons (sVar 1) aNil))))) (qRaise "NoRow") qNext))
def F_check_row : List D → Sto → Out D := defFin 2 b_check_row
def b_raised_table : SS := (qSeq (qSet 2 (sB bLen (aCons (sVar 0) aNil)))
    (qSeq (qSet 3 (sLst true aNil))
    (qSeq (qFor (iRange1 (aCons (sVar 2) aNil)) (gN 4)
    (qExpr (sM fAppend (sVar 3) (s2 (fRep true) (sLst false (aCons (sC (.int 0)) aNil)) (sVar 2)))))
    (qSeq (qFor (iRange2 (aCons (sC (.int 1)) (aCons (sVar 2) aNil))) (gN 5)
    (qFor (iRange1 (aCons (s2 fSub (sVar 2) (sVar 5)) aNil)) (gN 6)
    (qSeq (qPar 7 8 (aCons (s2 fIx (sVar 1) (sVar 6)) (aCons (s2 fIx (sVar 1) (s2 fAdd (sVar 6) (sVar 5))) aNil)))
    (qSeq (qSet 9 (s2 fIx (s2 fIx (sVar 0) (sVar 7)) (sVar 8)))
    (qSeq (qIf (tBl (s2 fGt (sVar 5) (sC (.int 1)))) (qSet 9 (sB bMax3 (aCons (sVar 9) (aCons (s2 fIx (s2 fIx (sVar 3) (sVar 7)) (s2 fIx (sVar 1) (s2 fSub (s2 fAdd (sVar 6) (sVar 5)) (sC (.int 1))))) (aCons (s2 fIx (s2 fIx (sVar 3) (s2 fIx (sVar 1) (s2 fAdd (sVar 6) (sC (.int 1))))) (sVar 8)) aNil))))) qNext)
    (qSeq (qSetIx (s2 fIx (sVar 3) (sVar 7)) (sVar 8) (sVar 9))
    (qSetIx (s2 fIx (sVar 3) (sVar 8)) (sVar 7) (sVar 9))))))))
    (qRet (sB bTuple (aCons (sLC false (iSeq (sVar 3)) (gN 10) tYesD (sB bTuple (aCons (sVar 10) aNil)) [10]) aNil)))))))
def F_raised_table : List D → Sto → Out D := defFin 11 b_raised_table
def b_nearest_rising : SS := (qSeq (qExpr (sCall 2 F_check_row (aCons (sVar 0) (aCons (sVar 1) aNil))))
    (qRet (sCall 2 F_raised_table (aCons (sVar 0) (aCons (sVar 1) aNil)))))
def F_nearest_rising : List D → Sto → Out D := defFin 2 b_nearest_rising
def b_raised_by : SS := (qSeq (qSet 2 (sCall 2 F_raised_table (aCons (sVar 0) (aCons (sVar 1) aNil))))
    (qRet (sB bMax1 (aCons (sLC false (iZip (aCons (sVar 2) (aCons (sVar 0) aNil))) (gT2 (gN 3) (gN 4)) tYesD (sB bMax1 (aCons (sLC false (iZip (aCons (sVar 3) (aCons (sVar 4) aNil))) (gT2 (gN 5) (gN 6)) tYesD (s2 fSub (sVar 5) (sVar 6)) [5, 6]) aNil)) [3, 4]) aNil))))
def F_raised_by : List D → Sto → Out D := defFin 7 b_raised_by
def b_over_by : SS := (qSeq (qExpr (sCall 2 F_check_row (aCons (sVar 0) (aCons (sVar 1) aNil))))
    (qRet (sCall 2 F_raised_by (aCons (sVar 0) (aCons (sVar 1) aNil)))))
def F_over_by : List D → Sto → Out D := defFin 2 b_over_by
def b_least_over : SS := (qSeq (qExpr (sCall 1 F_check_sound (aCons (sVar 0) aNil)))
    (qRet (sB bMinP (aCons (sLC false (iSeq (sCall 1 F_all_rows (aCons (sB bLen (aCons (sVar 0) aNil)) aNil))) (gN 1) tYesD (sTup (aCons (sCall 2 F_raised_by (aCons (sVar 0) (aCons (sVar 1) aNil))) (aCons (sVar 1) aNil))) [1]) aNil))))
def F_least_over : List D → Sto → Out D := defFin 2 b_least_over
def b_law_hand : SS := (qSeq (qSet 1 (sLC false (iSeq (sSlice false (sVar 0) oNone (oInt (sC (.int 63))))) (gN 2) tYesD (sB bAbs (aCons (sB bInt (aCons (sVar 2) aNil)) aNil)) [2]))
    (qRet (sLst true (aCons (sVar 1) (aCons (sC (.int 0)) (aCons (sC (.int 0)) (aCons (s2 fAdd (sC (.int 211)) (s2 fMul (sC (.int 19)) (sB bLen (aCons (sVar 1) aNil)))) (aCons (sC (.int 0)) aNil))))))))
def F_law_hand : List D → Sto → Out D := defRaw 3 b_law_hand
def b_law_is : SS := (qRet (s2 fEqS (sB bRepr (aCons (sVar 0) aNil)) (sB bRepr (aCons (sVar 1) aNil))))
def F_law_is : List D → Sto → Out D := defFin 2 b_law_is
def b_law_draw : SS := (qSeq (qIf (tAndD (tBl (s2 fEq (s2 fIx (sVar 0) (sC (.int 2))) (sC (.int 0)))) (tBl (s2 fLt (s2 fIx (sVar 0) (sC (.int 1))) (sB bLen (aCons (s2 fIx (sVar 0) (sC (.int 0))) aNil))))) (qSeq (qSet 2 (s2 fIx (s2 fIx (sVar 0) (sC (.int 0))) (s2 fIx (sVar 0) (sC (.int 1)))))
    (qSeq (qSetIx (sVar 0) (sC (.int 1)) (s2 fAdd (s2 fIx (sVar 0) (sC (.int 1))) (sC (.int 1))))
    (qSeq (qSetIx (sVar 0) (sC (.int 3)) (s2 fMod (sB bInt (aCons (s2 fAdd (s2 fAdd (s2 fMul (s2 fIx (sVar 0) (sC (.int 3))) (sC (.int 69621))) (s2 fMul (sVar 2) (sC (.int 48271)))) (sC (.int 17))) aNil)) (sC (.int 2147483629))))
    (qIf (tBl (s2 fGe (sVar 2) (s2 fPow (sC (.int 10)) (sC (.int 18))))) (qSetIx (sVar 0) (sC (.int 2)) (sVar 2)) qNext)))) qNext)
    (qSeq (qIf (tBl (s2 fGt (s2 fIx (sVar 0) (sC (.int 2))) (sC (.int 0)))) (qSeq (qSet 3 (s2 fMod (sB bInt (aCons (s2 fIx (sVar 0) (sC (.int 2))) aNil)) (sVar 1)))
    (qSeq (qSetIx (sVar 0) (sC (.int 2)) (s2 fDiv (s2 fIx (sVar 0) (sC (.int 2))) (sVar 1)))
    (qRet (sVar 3)))) qNext)
    (qSeq (qSetIx (sVar 0) (sC (.int 4)) (s2 fAdd (s2 fIx (sVar 0) (sC (.int 4))) (sC (.int 1))))
    (qSeq (qSet 4 (s2 fMod (sB bInt (aCons (s2 fMul (sB bInt (aCons (s2 fAdd (s2 fIx (sVar 0) (sC (.int 3))) (s2 fMul (sC (.int 7919)) (s2 fIx (sVar 0) (sC (.int 4))))) aNil)) (sC (.int 40692))) aNil)) (sC (.int 2147483647))))
    (qSeq (qSet 4 (s2 fMod (sB bInt (aCons (s2 fMul (sVar 4) (s2 fAdd (s2 fDiv (sVar 4) (sC (.int 1009))) (sC (.int 69621)))) aNil)) (sC (.int 2147483647))))
    (qSeq (qSet 4 (s2 fMod (sB bInt (aCons (s2 fMul (sVar 4) (s2 fAdd (s2 fDiv (sVar 4) (sC (.int 2003))) (sC (.int 40014)))) aNil)) (sC (.int 2147483563))))
    (qRet (s2 fMod (sB bInt (aCons (s2 fDiv (sVar 4) (sC (.int 16))) aNil)) (sVar 1)))))))))
def F_law_draw : List D → Sto → Out D := defFin 5 b_law_draw
def b_law_some : SS := (qRet (s2 fIx (sVar 1) (sCall 2 F_law_draw (aCons (sVar 0) (aCons (sB bLen (aCons (sVar 1) aNil)) aNil)))))
def F_law_some : List D → Sto → Out D := defFin 2 b_law_some
def b_law_mixed : SS := (qSeq (qPar 2 3 (aCons (sB (bList true) (aCons (sVar 1) aNil)) (aCons (sLst true aNil) aNil)))
    (qSeq (qWhile (fun _ _ => 1000) (tBl (s2 fGt (sB bLen (aCons (sVar 2) aNil)) (sC (.int 0))))
    (qExpr (sM fAppend (sVar 3) (sM fPopAt (sVar 2) (sCall 2 F_law_draw (aCons (sVar 0) (aCons (sB bLen (aCons (sVar 2) aNil)) aNil)))))))
    (qRet (sVar 3))))
def F_law_mixed : List D → Sto → Out D := defFin 4 b_law_mixed
def b_law_closed : SS := (qSeq (qPar 1 2 (aCons (sLC false (iSeq (sVar 0)) (gN 6) tYesD (sB (bList true) (aCons (sVar 6) aNil)) [6]) (aCons (sB bLen (aCons (sVar 0) aNil)) aNil)))
    (qSeq (qFor (iRange1 (aCons (sVar 2) aNil)) (gN 3)
    (qFor (iRange1 (aCons (sVar 2) aNil)) (gN 4)
    (qFor (iRange1 (aCons (sVar 2) aNil)) (gN 5)
    (qSetIx (s2 fIx (sVar 1) (sVar 4)) (sVar 5) (sB bMin2 (aCons (s2 fIx (s2 fIx (sVar 1) (sVar 4)) (sVar 5)) (aCons (s2 fAdd (s2 fIx (s2 fIx (sVar 1) (sVar 4)) (sVar 3)) (s2 fIx (s2 fIx (sVar 1) (sVar 3)) (sVar 5))) aNil)))))))
    (qRet (sB bTuple (aCons (sLC false (iSeq (sVar 1)) (gN 6) tYesD (sB bTuple (aCons (sVar 6) aNil)) [6]) aNil)))))
def F_law_closed : List D → Sto → Out D := defFin 7 b_law_closed
def b_law_of_pairs : SS := (qSeq (qPar 2 3 (aCons (sLC false (iRange1 (aCons (sVar 0) aNil)) (gN 6) tYesD (s2 (fRep true) (sLst false (aCons (sC (.int 0)) aNil)) (sVar 0)) [6]) (aCons (sC (.int 0)) aNil)))
    (qSeq (qFor (iRange1 (aCons (sVar 0) aNil)) (gN 4)
    (qFor (iRange2 (aCons (s2 fAdd (sVar 4) (sC (.int 1))) (aCons (sVar 0) aNil))) (gN 5)
    (qSeq (qAsgS (uT2 (uIx (s2 fIx (sVar 2) (sVar 4)) (sVar 5)) (uIx (s2 fIx (sVar 2) (sVar 5)) (sVar 4))) (sTup (aCons (s2 fIx (sVar 1) (sVar 3)) (aCons (s2 fIx (sVar 1) (sVar 3)) aNil))))
    (qSet 3 (s2 fAdd (sVar 3) (sC (.int 1)))))))
    (qRet (sB bTuple (aCons (sLC false (iSeq (sVar 2)) (gN 7) tYesD (sB bTuple (aCons (sVar 7) aNil)) [7]) aNil)))))
def F_law_of_pairs : List D → Sto → Out D := defFin 8 b_law_of_pairs
def b_law_any_table : SS := (qRet (sCall 2 F_law_of_pairs (aCons (sVar 1) (aCons (sLC false (iRange1 (aCons (s2 fMul (sVar 1) (sVar 1)) aNil)) (gN 3) tYesD (s2 fAdd (sC (.int 1)) (sCall 2 F_law_draw (aCons (sVar 0) (aCons (sVar 2) aNil)))) [3]) aNil))))
def F_law_any_table : List D → Sto → Out D := defFin 4 b_law_any_table
def b_law_cuts : SS := (qSeq (qSet 1 (sLst false (aCons (sTup aNil) aNil)))
    (qSeq (qFor (iRange2 (aCons (sC (.int 1)) (aCons (sVar 0) aNil))) (gN 2)
    (qSet 1 (s2 fAdd (sVar 1) (sLC false (iSeq (sVar 1)) (gN 3) tYesD (s2 fAdd (sVar 3) (sTup (aCons (sVar 2) aNil))) [3]))))
    (qRet (sB (bSorted false) (aCons (sLC false (iSeq (sVar 1)) (gN 3) (tBl (s2 fGt (sB bLen (aCons (sVar 3) aNil)) (sC (.int 0)))) (sVar 3) [3]) aNil)))))
def F_law_cuts : List D → Sto → Out D := defFin 4 b_law_cuts
def b_law_sum_of_cuts : SS := (qSeq (qPar 2 3 (aCons (sLst false aNil) (aCons (sCall 1 F_law_cuts (aCons (sVar 1) aNil)) aNil)))
    (qSeq (qFor (iRange1 (aCons (sIf (tBl (s2 fGt (sB bLen (aCons (sVar 3) aNil)) (sC (.int 0)))) (s2 fAdd (sC (.int 1)) (sCall 2 F_law_draw (aCons (sVar 0) (aCons (sC (.int 4)) aNil)))) (sC (.int 0))) aNil)) (gN 4)
    (qSet 2 (s2 fAdd (sVar 2) (s2 (fRep false) (sLst false (aCons (sCall 2 F_law_some (aCons (sVar 0) (aCons (sVar 3) aNil))) aNil)) (s2 fAdd (sC (.int 1)) (sCall 2 F_law_draw (aCons (sVar 0) (aCons (sC (.int 3)) aNil))))))))
    (qRet (s2 fAdd (sVar 2) (sLC false (iRange2 (aCons (sC (.int 1)) (aCons (sVar 1) aNil))) (gN 5) tYesD (sTup (aCons (sVar 5) aNil)) [5])))))
def F_law_sum_of_cuts : List D → Sto → Out D := defFin 6 b_law_sum_of_cuts
def b_law_parts : SS := (qRet (sB bInt (aCons (s2 fNe (s2 fIn (sVar 1) (sVar 0)) (s2 fIn (sVar 2) (sVar 0))) aNil)))
def F_law_parts : List D → Sto → Out D := defFin 3 b_law_parts
def b_law_table_of : SS := (qSeq (qSet 2 (sLst true aNil))
    (qSeq (qFor (iRange1 (aCons (sVar 0) aNil)) (gN 3)
    (qExpr (sM fExtend (sVar 2) (sLC false (iRange2 (aCons (s2 fAdd (sVar 3) (sC (.int 1))) (aCons (sVar 0) aNil))) (gN 4) tYesD (sB bSum (aCons (sLC false (iSeq (sVar 1)) (gN 5) tYesD (sCall 3 F_law_parts (aCons (sVar 5) (aCons (sVar 3) (aCons (sVar 4) aNil)))) [5]) aNil)) [4]))))
    (qRet (sCall 2 F_law_of_pairs (aCons (sVar 0) (aCons (sVar 2) aNil))))))
def F_law_table_of : List D → Sto → Out D := defFin 6 b_law_table_of
def b_law_table : SS := (qSeq (qPar 2 3 (aCons (s2 fAdd (sC (.int 1)) (sCall 2 F_law_draw (aCons (sVar 0) (aCons (sVar 1) aNil)))) (aCons (sCall 2 F_law_draw (aCons (sVar 0) (aCons (sC (.int 5)) aNil))) aNil)))
    (qSeq (qIf (tBl (s2 fEq (sVar 3) (sC (.int 0)))) (qSeq (qSet 4 (sSlice false (sCall 2 F_law_mixed (aCons (sVar 0) (aCons (sListR1 false (sC (.int 12))) aNil))) oNone (oInt (sVar 2))))
    (qRet (sB bTuple (aCons (sLC false (iSeq (sVar 4)) (gN 5) tYesD (sB bTuple (aCons (sLC false (iSeq (sVar 4)) (gN 6) tYesD (sB bAbs (aCons (s2 fSub (sVar 5) (sVar 6)) aNil)) [6]) aNil)) [5]) aNil)))) qNext)
    (qSeq (qIf (tBl (s2 fEq (sVar 3) (sC (.int 1)))) (qRet (sCall 2 F_law_table_of (aCons (sVar 2) (aCons (sCall 2 F_law_sum_of_cuts (aCons (sVar 0) (aCons (sVar 2) aNil))) aNil)))) qNext)
    (qSeq (qIf (tBl (s2 fEq (sVar 3) (sC (.int 2)))) (qRet (sCall 2 F_law_of_pairs (aCons (sVar 2) (aCons (sLC false (iRange1 (aCons (s2 fMul (sVar 2) (sVar 2)) aNil)) (gN 7) tYesD (s2 fAdd (sC (.int 1)) (sCall 2 F_law_draw (aCons (sVar 0) (aCons (sC (.int 2)) aNil)))) [7]) aNil)))) qNext)
    (qRet (sCall 1 F_law_closed (aCons (sCall 3 F_law_any_table (aCons (sVar 0) (aCons (sVar 2) (aCons (sCall 2 F_law_some (aCons (sVar 0) (aCons (sLst false (aCons (sC (.int 3)) (aCons (sC (.int 6)) (aCons (sC (.int 12)) aNil)))) aNil))) aNil)))) aNil)))))))
def F_law_table : List D → Sto → Out D := defFin 8 b_law_table
def b_law_renamed : SS := (qSeq (qSet 2 (sB bLen (aCons (sVar 0) aNil)))
    (qSeq (qSet 3 (sLC false (iRange1 (aCons (sVar 2) aNil)) (gN 4) tYesD (sM fIndexD (sVar 1) (sVar 4)) [4]))
    (qRet (sB bTuple (aCons (sLC false (iRange1 (aCons (sVar 2) aNil)) (gN 5) tYesD (sB bTuple (aCons (sLC false (iRange1 (aCons (sVar 2) aNil)) (gN 6) tYesD (s2 fIx (s2 fIx (sVar 0) (s2 fIx (sVar 3) (sVar 5))) (s2 fIx (sVar 3) (sVar 6))) [6]) aNil)) [5]) aNil)))))
def F_law_renamed : List D → Sto → Out D := defFin 7 b_law_renamed
def b_law_drawn_table : SS := (qSeq (qIf (tBl (s2 fEq (sCall 2 F_law_draw (aCons (sVar 0) (aCons (sC (.int 3)) aNil))) (sC (.int 0)))) (qRet (sCall 1 F_law_closed (aCons (sCall 3 F_law_any_table (aCons (sVar 0) (aCons (s2 fAdd (sC (.int 1)) (sCall 2 F_law_draw (aCons (sVar 0) (aCons (sVar 1) aNil)))) (aCons (sCall 2 F_law_some (aCons (sVar 0) (aCons (sLst false (aCons (sC (.int 2)) (aCons (sC (.int 4)) (aCons (sC (.int 30)) aNil)))) aNil))) aNil)))) aNil))) qNext)
    (qSeq (qIf (tBl (s2 fEq (sCall 2 F_law_draw (aCons (sVar 0) (aCons (sC (.int 2)) aNil))) (sC (.int 0)))) (qRet (sCall 2 F_law_table (aCons (sVar 0) (aCons (sVar 1) aNil)))) qNext)
    (qSeq (qSet 2 (s2 fAdd (sC (.int 1)) (sCall 2 F_law_draw (aCons (sVar 0) (aCons (sVar 1) aNil)))))
    (qSeq (qSet 3 (sLC false (iRange1 (aCons (sVar 2) aNil)) (gN 10) tYesD (s2 (fRep true) (sLst false (aCons (sC (.int 0)) aNil)) (sVar 2)) [10]))
    (qSeq (qFor (iRange2 (aCons (sC (.int 1)) (aCons (sVar 2) aNil))) (gN 4)
    (qFor (iRange1 (aCons (s2 fSub (sVar 2) (sVar 4)) aNil)) (gN 5)
    (qSeq (qSet 6 (sLst false (aCons (s2 fIx (s2 fIx (sVar 3) (sVar 5)) (s2 fSub (s2 fAdd (sVar 5) (sVar 4)) (sC (.int 1)))) (aCons (s2 fIx (s2 fIx (sVar 3) (s2 fAdd (sVar 5) (sC (.int 1)))) (s2 fAdd (sVar 5) (sVar 4))) (aCons (sC (.int 1)) aNil)))))
    (qSeq (qSetIx (s2 fIx (sVar 3) (sVar 5)) (s2 fAdd (sVar 5) (sVar 4)) (s2 fAdd (sB bMax1 (aCons (sVar 6) aNil)) (sCall 2 F_law_some (aCons (sVar 0) (aCons (sLst false (aCons (sC (.int 0)) (aCons (sC (.int 0)) (aCons (sC (.int 1)) (aCons (sC (.int 3)) aNil))))) aNil)))))
    (qSetIx (s2 fIx (sVar 3) (s2 fAdd (sVar 5) (sVar 4))) (sVar 5) (s2 fIx (s2 fIx (sVar 3) (sVar 5)) (s2 fAdd (sVar 5) (sVar 4))))))))
    (qSeq (qIf (tAndD (tBl (s2 fEq (sCall 2 F_law_draw (aCons (sVar 0) (aCons (sC (.int 4)) aNil))) (sC (.int 0)))) (tBl (s2 fGt (sVar 2) (sC (.int 2))))) (qSeq (qAsg (gT2L (gN 5) (gN 7)) (sSlice false (sCall 2 F_law_mixed (aCons (sVar 0) (aCons (sListR1 false (sVar 2)) aNil))) oNone (oInt (sC (.int 2)))))
    (qSeq (qSetIx (s2 fIx (sVar 3) (sVar 5)) (sVar 7) (s2 fAdd (sC (.int 1)) (sCall 2 F_law_draw (aCons (sVar 0) (aCons (sC (.int 6)) aNil)))))
    (qSetIx (s2 fIx (sVar 3) (sVar 7)) (sVar 5) (s2 fIx (s2 fIx (sVar 3) (sVar 5)) (sVar 7))))) qNext)
    (qSeq (qSet 8 (sIf (tBl (s2 fEq (sCall 2 F_law_draw (aCons (sVar 0) (aCons (sC (.int 2)) aNil))) (sC (.int 0)))) (sB bMax1 (aCons (sLC false (iSeq (sVar 3)) (gN 11) tYesD (sB bMax1 (aCons (sVar 11) aNil)) [11]) aNil)) (sC (.int 0))))
    (qSeq (qSet 9 (sLst true aNil))
    (qSeq (qFor (iRange1 (aCons (sVar 2) aNil)) (gN 5)
    (qExpr (sM fAppend (sVar 9) (sB bTuple (aCons (sLC false (iRange1 (aCons (sVar 2) aNil)) (gN 7) tYesD (s2 fAdd (s2 fIx (s2 fIx (sVar 3) (sVar 5)) (sVar 7)) (s2 fMul (sVar 8) (sB bInt (aCons (s2 fNe (sVar 5) (sVar 7)) aNil)))) [7]) aNil)))))
    (qRet (sCall 2 F_law_renamed (aCons (sCall 1 F_law_closed (aCons (sB bTuple (aCons (sVar 9) aNil)) aNil)) (aCons (sCall 2 F_law_mixed (aCons (sVar 0) (aCons (sListR1 false (sVar 2)) aNil))) aNil)))))))))))))
def F_law_drawn_table : List D → Sto → Out D := defFin 12 b_law_drawn_table
def b_law_rows : SS := (qSeq (qSet 1 (sLst false (aCons (sTup aNil) aNil)))
    (qSeq (qFor (iRange1 (aCons (sVar 0) aNil)) (gN 2)
    (qSeq (qSet 3 (sLst true aNil))
    (qSeq (qFor (iSeq (sVar 1)) (gN 4)
    (qExpr (sM fExtend (sVar 3) (sLC false (iRange1 (aCons (sVar 0) aNil)) (gN 5) (tBl (s2 fNotIn (sVar 5) (sVar 4))) (s2 fAdd (sVar 4) (sTup (aCons (sVar 5) aNil))) [5]))))
    (qSet 1 (sVar 3)))))
    (qRet (sVar 1))))
def F_law_rows : List D → Sto → Out D := defFin 6 b_law_rows
def b_law_falls : SS := (qSeq (qSet 2 (sLst true aNil))
    (qSeq (qFor (iRange1 (aCons (sB bLen (aCons (sVar 1) aNil)) aNil)) (gN 3)
    (qFor (iRange2 (aCons (s2 fAdd (sVar 3) (sC (.int 1))) (aCons (sB bLen (aCons (sVar 1) aNil)) aNil))) (gN 4)
    (qFor (iRange2 (aCons (s2 fAdd (sVar 4) (sC (.int 1))) (aCons (sB bLen (aCons (sVar 1) aNil)) aNil))) (gN 5)
    (qSeq (qPar3 6 7 8 (aCons (s2 fIx (sVar 1) (sVar 3)) (aCons (s2 fIx (sVar 1) (sVar 4)) (aCons (s2 fIx (sVar 1) (sVar 5)) aNil))))
    (qIf (tOrD (tBl (s2 fLt (s2 fIx (s2 fIx (sVar 0) (sVar 6)) (sVar 8)) (s2 fIx (s2 fIx (sVar 0) (sVar 6)) (sVar 7)))) (tBl (s2 fLt (s2 fIx (s2 fIx (sVar 0) (sVar 6)) (sVar 8)) (s2 fIx (s2 fIx (sVar 0) (sVar 7)) (sVar 8))))) (qExpr (sM fAppend (sVar 2) (sTup (aCons (sVar 3) (aCons (sVar 4) (aCons (sVar 5) aNil)))))) qNext)))))
    (qRet (sVar 2))))
def F_law_falls : List D → Sto → Out D := defFin 9 b_law_falls
def b_law_nearest : SS := (qSeq (qSet 2 (sB bLen (aCons (sVar 1) aNil)))
    (qSeq (qSet 3 (sLC false (iRange1 (aCons (sVar 2) aNil)) (gN 8) tYesD (s2 (fRep true) (sLst false (aCons (sC (.int 0)) aNil)) (sVar 2)) [8]))
    (qSeq (qFor (iRange1 (aCons (sVar 2) aNil)) (gN 4)
    (qFor (iRange2 (aCons (s2 fAdd (sVar 4) (sC (.int 1))) (aCons (sVar 2) aNil))) (gN 5)
    (qSeq (qSet 6 (sLst true aNil))
    (qSeq (qFor (iRange2 (aCons (sVar 4) (aCons (s2 fAdd (sVar 5) (sC (.int 1))) aNil))) (gN 7)
    (qExpr (sM fExtend (sVar 6) (sLC false (iRange2 (aCons (sVar 7) (aCons (s2 fAdd (sVar 5) (sC (.int 1))) aNil))) (gN 9) tYesD (s2 fIx (s2 fIx (sVar 0) (s2 fIx (sVar 1) (sVar 7))) (s2 fIx (sVar 1) (sVar 9))) [9]))))
    (qSeq (qSetIx (s2 fIx (sVar 3) (s2 fIx (sVar 1) (sVar 4))) (s2 fIx (sVar 1) (sVar 5)) (sB bMax1 (aCons (sVar 6) aNil)))
    (qSetIx (s2 fIx (sVar 3) (s2 fIx (sVar 1) (sVar 5))) (s2 fIx (sVar 1) (sVar 4)) (sB bMax1 (aCons (sVar 6) aNil))))))))
    (qRet (sB bTuple (aCons (sLC false (iSeq (sVar 3)) (gN 10) tYesD (sB bTuple (aCons (sVar 10) aNil)) [10]) aNil))))))
def F_law_nearest : List D → Sto → Out D := defFin 11 b_law_nearest
def b_law_off_by : SS := (qSeq (qSet 2 (sCall 2 F_law_nearest (aCons (sVar 0) (aCons (sVar 1) aNil))))
    (qRet (sB bMax1 (aCons (sLC false (iZip (aCons (sVar 2) (aCons (sVar 0) aNil))) (gT2 (gN 3) (gN 4)) tYesD (sB bMax1 (aCons (sLC false (iZip (aCons (sVar 3) (aCons (sVar 4) aNil))) (gT2 (gN 5) (gN 6)) tYesD (s2 fSub (sVar 5) (sVar 6)) [5, 6]) aNil)) [3, 4]) aNil))))
def F_law_off_by : List D → Sto → Out D := defFin 7 b_law_off_by
def b_does_rise : SS := (qSeq (qExpr (sCall 2 F_check_row (aCons (sVar 0) (aCons (sVar 1) aNil))))
    (qRet (s2 fEq (sB bLen (aCons (sCall 2 F_falls_of (aCons (sVar 0) (aCons (sVar 1) aNil))) aNil)) (sC (.int 0)))))
def F_does_rise : List D → Sto → Out D := defFin 2 b_does_rise
def b_falls : SS := (qSeq (qExpr (sCall 2 F_check_row (aCons (sVar 0) (aCons (sVar 1) aNil))))
    (qRet (sB bLen (aCons (sCall 2 F_falls_of (aCons (sVar 0) (aCons (sVar 1) aNil))) aNil))))
def F_falls : List D → Sto → Out D := defFin 2 b_falls
def b_law_row_right : SS := (qSeq (qSet 3 (sCall 2 F_law_nearest (aCons (sVar 1) (aCons (sVar 2) aNil))))
    (qSeq (qSet 4 (sLst false (aCons (sCall 2 F_nearest_rising (aCons (sVar 1) (aCons (sVar 2) aNil))) (aCons (sCall 2 F_nearest_rising (aCons (sVar 1) (aCons (sRevT (sVar 2)) aNil))) (aCons (sCall 2 F_over_by (aCons (sVar 1) (aCons (sVar 2) aNil))) (aCons (sCall 2 F_falls (aCons (sVar 1) (aCons (sVar 2) aNil))) aNil))))))
    (qSeq (qIf (tNotD (tTru (sCall 2 F_law_is (aCons (sVar 4) (aCons (sLst false (aCons (sVar 3) (aCons (sVar 3) (aCons (sCall 2 F_law_off_by (aCons (sVar 1) (aCons (sVar 2) aNil))) (aCons (sB bLen (aCons (sCall 2 F_law_falls (aCons (sVar 1) (aCons (sVar 2) aNil))) aNil)) aNil))))) aNil))))) (qRet (sC (.bl false))) qNext)
    (qSeq (qIf (tOrD (tBl (s2 fGt (sB bLen (aCons (sCall 2 F_law_falls (aCons (sVar 3) (aCons (sVar 2) aNil))) aNil)) (sC (.int 0)))) (tBl (s2 fNe (s2 fEq (sVar 3) (sVar 1)) (s2 fIsBl (sCall 2 F_does_rise (aCons (sVar 1) (aCons (sVar 2) aNil))) (sC (.bl true)))))) (qRet (sC (.bl false))) qNext)
    (qSeq (qSet 5 (sLst true aNil))
    (qSeq (qFor (iRange1 (aCons (sB bLen (aCons (sVar 1) aNil)) aNil)) (gN 6)
    (qExpr (sM fExtend (sVar 5) (sLC false (iRange1 (aCons (sVar 6) aNil)) (gN 7) (tBl (s2 fGt (s2 fIx (s2 fIx (sVar 3) (sVar 6)) (sVar 7)) (s2 fIx (s2 fIx (sVar 1) (sVar 6)) (sVar 7)))) (sTup (aCons (sVar 6) (aCons (sVar 7) aNil))) [7]))))
    (qSeq (qIf (tBl (s2 fEq (sB bLen (aCons (sVar 5) aNil)) (sC (.int 0)))) (qRet (sC (.bl true))) qNext)
    (qSeq (qAsg (gT2 (gN 6) (gN 7)) (sCall 2 F_law_some (aCons (sVar 0) (aCons (sVar 5) aNil))))
    (qSeq (qSet 8 (sLC false (iSeq (sVar 3)) (gN 9) tYesD (sB (bList true) (aCons (sVar 9) aNil)) [9]))
    (qSeq (qSetIx (s2 fIx (sVar 8) (sVar 6)) (sVar 7) (s2 fSub (s2 fIx (s2 fIx (sVar 8) (sVar 6)) (sVar 7)) (sC (.int 1))))
    (qSeq (qSetIx (s2 fIx (sVar 8) (sVar 7)) (sVar 6) (s2 fIx (s2 fIx (sVar 8) (sVar 6)) (sVar 7)))
    (qRet (s2 fGt (sB bLen (aCons (sCall 2 F_law_falls (aCons (sVar 8) (aCons (sVar 2) aNil))) aNil)) (sC (.int 0)))))))))))))))
def F_law_row_right : List D → Sto → Out D := defFin 10 b_law_row_right
def b_law_case_right : SS := (qSeq (qSet 2 (sCall 1 F_law_rows (aCons (sB bLen (aCons (sVar 1) aNil)) aNil)))
    (qSeq (qSet 3 (sB bMinP (aCons (sLC false (iSeq (sVar 2)) (gN 6) tYesD (sTup (aCons (sB bLen (aCons (sCall 2 F_law_falls (aCons (sVar 1) (aCons (sVar 6) aNil))) aNil)) (aCons (sVar 6) aNil))) [6]) aNil)))
    (qSeq (qSet 4 (sB bMinP (aCons (sLC false (iSeq (sVar 2)) (gN 6) tYesD (sTup (aCons (sCall 2 F_law_off_by (aCons (sVar 1) (aCons (sVar 6) aNil))) (aCons (sVar 6) aNil))) [6]) aNil)))
    (qSeq (qIf (tOrD (tNotD (tTru (sCall 2 F_law_is (aCons (sLst false (aCons (sCall 1 F_fewest_falls (aCons (sVar 1) aNil)) (aCons (sCall 1 F_least_over (aCons (sVar 1) aNil)) aNil))) (aCons (sLst false (aCons (sVar 3) (aCons (sVar 4) aNil))) aNil))))) (tBl (s2 fNe (s2 fEq (s2 fIx (sVar 3) (sC (.int 0))) (sC (.int 0))) (s2 fEq (s2 fIx (sVar 4) (sC (.int 0))) (sC (.int 0)))))) (qRet (sC (.bl false))) qNext)
    (qSeq (qSet 5 (s2 fAdd (sLst false (aCons (s2 fIx (sVar 3) (sC (.int 1))) (aCons (s2 fIx (sVar 4) (sC (.int 1))) aNil))) (sLC false (iRange1 (aCons (sC (.int 3)) aNil)) (gN 7) tYesD (sCall 2 F_law_some (aCons (sVar 0) (aCons (sVar 2) aNil))) [7])))
    (qRet (sB bAll (aCons (sLC false (iSeq (sVar 5)) (gN 6) tYesD (sCall 3 F_law_row_right (aCons (sVar 0) (aCons (sVar 1) (aCons (sVar 6) aNil)))) [6]) aNil))))))))
def F_law_case_right : List D → Sto → Out D := defFin 8 b_law_case_right
def b_law_no_table : SS := (qSeq (qSet 1 (sLst false (aCons (sC .non) (aCons (sTup aNil) (aCons (sTup (aCons (sTup (aCons (sC (.int 0)) (aCons (sC (.int 1)) aNil))) (aCons (sTup (aCons (sC (.int 2)) (aCons (sC (.int 0)) aNil))) aNil))) (aCons (sTup (aCons (sTup (aCons (sC (.int 1)) aNil)) aNil)) (aCons (sLst false (aCons (sTup (aCons (sC (.int 0)) aNil)) aNil)) (aCons (sTup (aCons (sTup (aCons (sC (.int 0)) (aCons (sC (.int 0)) aNil))) (aCons (sTup (aCons (sC (.int 0)) (aCons (sC (.int 0)) aNil))) aNil))) (aCons (sTup (aCons (sTup (aCons (sC (.int 0)) (aCons (sC (.int 1)) aNil))) aNil)) (aCons (sTup (aCons (sLst false (aCons (sC (.int 0)) aNil)) aNil)) (aCons (sTup (aCons (sTup (aCons (sC (.int 0)) (aCons (s1 fNeg (sC (.int 1))) aNil))) (aCons (sTup (aCons (s1 fNeg (sC (.int 1))) (aCons (sC (.int 0)) aNil))) aNil))) (aCons (sC (.str "0")) aNil))))))))))))
    (qSeq (qSet 1 (s2 fAdd (sVar 1) (sLst false (aCons (sTup (aCons (sTup (aCons (sC (.int 0)) (aCons (sC (.int 1001)) aNil))) (aCons (sTup (aCons (sC (.int 1001)) (aCons (sC (.int 0)) aNil))) aNil))) (aCons (sTup (aCons (sTup (aCons (sC (.int 0)) (aCons (sC (.bl true)) aNil))) (aCons (sTup (aCons (sC (.bl true)) (aCons (sC (.int 0)) aNil))) aNil))) (aCons (sTup (aCons (sTup (aCons (sC (.int 0)) (aCons (sC .non) aNil))) (aCons (sTup (aCons (sC .non) (aCons (sC (.int 0)) aNil))) aNil))) (aCons (sTup (aCons (sTup (aCons (sC (.bl false)) aNil)) aNil)) (aCons sDict0 aNil))))))))
    (qRet (sCall 2 F_law_some (aCons (sVar 0) (aCons (s2 fAdd (sVar 1) (sLst false (aCons (sB bTuple (aCons (sLC false (iRange1 (aCons (sC (.int 8)) aNil)) (gN 2) tYesD (sB bTuple (aCons (sLC false (iRange1 (aCons (sC (.int 8)) aNil)) (gN 3) tYesD (sB bInt (aCons (s2 fNe (sVar 3) (sVar 2)) aNil)) [3]) aNil)) [2]) aNil)) (aCons (sC (.int 5)) aNil)))) aNil))))))
def F_law_no_table : List D → Sto → Out D := defFin 4 b_law_no_table
def b_law_no_row : SS := (qSeq (qSet 2 (sTupR1 (sVar 1)))
    (qSeq (qSet 3 (sLst false (aCons (sC .non) (aCons (sB (bList false) (aCons (sVar 2) aNil)) (aCons (s2 fAdd (sVar 2) (sTup (aCons (sVar 1) aNil))) (aCons (sSlice false (sVar 2) oNone (oInt (s1 fNeg (sC (.int 1))))) (aCons (s2 fAdd (sSlice false (sVar 2) oNone (oInt (s1 fNeg (sC (.int 1))))) (sTup (aCons (s1 fNeg (sC (.int 1))) aNil))) (aCons (s2 fAdd (sSlice false (sVar 2) oNone (oInt (s1 fNeg (sC (.int 1))))) (sTup (aCons (sVar 1) aNil))) (aCons sDict0 (aCons (sC (.str "0")) aNil))))))))))
    (qSeq (qSet 3 (s2 fAdd (sVar 3) (sLst false (aCons (s2 fAdd (sSlice false (sVar 2) oNone (oInt (s1 fNeg (sC (.int 1))))) (sTup (aCons (sC .non) aNil))) (aCons (s2 fAdd (sSlice false (sVar 2) oNone (oInt (s1 fNeg (sC (.int 1))))) (sTup (aCons (sB bStr (aCons (s2 fSub (sVar 1) (sC (.int 1))) aNil)) aNil))) (aCons (sTup (aCons (sVar 2) aNil)) (aCons (sC (.int 0)) (aCons (s2 fAdd (sVar 2) (sVar 2)) aNil))))))))
    (qRet (sCall 2 F_law_some (aCons (sVar 0) (aCons (s2 fAdd (sVar 3) (sLst false (aCons (s2 fAdd (sSlice false (sVar 2) oNone (oInt (s1 fNeg (sC (.int 1))))) (sTup (aCons (sC (.bl true)) aNil))) aNil))) aNil)))))))
def F_law_no_row : List D → Sto → Out D := defFin 4 b_law_no_row
def ca_law_word (n : Str) : Option Bool := if n = "NoRow" then some true else if n = "NoTable" then some true else if n = "Unsound" then some true else none
def sub_law_word (n c : Str) : Bool := (n == "NoRow" && c == "NoRow") || (n == "NoRow" && c == "ValueError") || (n == "NoTable" && c == "NoTable") || (n == "NoTable" && c == "ValueError") || (n == "Unsound" && c == "ValueError")
def h_law_word (n : Str) (a : Addr) (dx : Option Addr) : SS := (qSeq (qSet 2 (sLst false (aCons (sIsE 1 a dx (sub_law_word n "NoTable")) (aCons (sIsE 1 a dx (sub_law_word n "NoRow")) aNil))))
    (qSeq (qIf (tOrD (tBl (s2 fNe (sM fCountB (sVar 2) (sC (.bl true))) (sC (.int 1)))) (tNotD (tTru (sIsE 1 a dx (sub_law_word n "ValueError"))))) (qRet (sC (.str "other"))) qNext)
    (qRet (sIf (tTru (s2 fIx (sVar 2) (sC (.int 0)))) (sC (.str "table")) (sC (.str "row"))))))
def res_law_word (n : Str) (fs : List (Str × D)) : SS := fun ρ st => match fs with
  | [] => cleanS 1 (h_law_word n 0 none (ρ.set 1 (some (.raw (.ref 0)))) st)
  | fs => cleanS 1 (h_law_word n 0 (some 0) (ρ.set 1 (some (.xc 0 0 (fs.map (·.1)) (fs.map (·.2))))) st)
def b_law_word (O : Sto → Out D) : SS := (qSeq (qTryAs 1 3 ca_law_word (qExprW O) (res_law_word)) (qRet (sC (.str "let"))))
def F_law_word (O : Sto → Out D) (st : Sto) : Out D := endRaw (b_law_word O (noneEv 3) st)
def b_law_refused_right : SS := (qSeq (qAsg (gT2 (gN 2) (gN 3)) (sTup (aCons (sCall 1 F_law_no_table (aCons (sVar 0) aNil)) (aCons (sCall 2 F_law_no_row (aCons (sVar 0) (aCons (sB bLen (aCons (sVar 1) aNil)) aNil))) aNil))))
    (qSeq (qSet 4 (sLst true aNil))
    (qSeq (qFor (iSeq (sTup (aCons (sC (.fn "nearest_rising")) (aCons (sC (.fn "over_by")) (aCons (sC (.fn "falls")) aNil))))) (gN 5)
    (qSeq (qExpr (sM fAppend (sVar 4) (sLam F_law_word (sCallV [("nearest_rising", 2, F_nearest_rising), ("over_by", 2, F_over_by), ("falls", 2, F_falls)] 2 5 (aCons (sVar 2) (aCons (sVar 3) aNil))))))
    (qExpr (sM fAppend (sVar 4) (sLam F_law_word (sCallV [("nearest_rising", 2, F_nearest_rising), ("over_by", 2, F_over_by), ("falls", 2, F_falls)] 2 5 (aCons (sVar 1) (aCons (sVar 3) aNil))))))))
    (qRet (s2 fEq (sVar 4) (s2 (fRep false) (sLst false (aCons (sC (.str "table")) (aCons (sC (.str "row")) aNil))) (sC (.int 3))))))))
def F_law_refused_right : List D → Sto → Out D := defFin 6 b_law_refused_right
def b_law : SS := (qSeq (qSet 1 (sCall 1 F_law_hand (aCons (sVar 0) aNil)))
    (qSeq (qFor (iRange1 (aCons (sC (.int 2)) aNil)) (gN 2)
    (qSeq (qSet 3 (sCall 2 F_law_drawn_table (aCons (sVar 1) (aCons (sC (.int 5)) aNil))))
    (qIf (tOrD (tNotD (tTru (sCall 2 F_law_case_right (aCons (sVar 1) (aCons (sVar 3) aNil))))) (tNotD (tTru (sCall 2 F_law_refused_right (aCons (sVar 1) (aCons (sVar 3) aNil)))))) (qRet (sC (.bl false))) qNext)))
    (qSeq (qSet 3 (sTup (aCons (sTup (aCons (sC (.int 0)) (aCons (sC (.int 2)) (aCons (sC (.int 1)) aNil)))) (aCons (sTup (aCons (sC (.int 2)) (aCons (sC (.int 0)) (aCons (sC (.int 1)) aNil)))) (aCons (sTup (aCons (sC (.int 1)) (aCons (sC (.int 1)) (aCons (sC (.int 0)) aNil)))) aNil)))))
    (qSeq (qSet 4 (sLst false (aCons (sCall 2 F_nearest_rising (aCons (sVar 3) (aCons (sTup (aCons (sC (.int 0)) (aCons (sC (.int 1)) (aCons (sC (.int 2)) aNil)))) aNil))) (aCons (sCall 2 F_over_by (aCons (sVar 3) (aCons (sTup (aCons (sC (.int 0)) (aCons (sC (.int 1)) (aCons (sC (.int 2)) aNil)))) aNil))) (aCons (sCall 1 F_least_over (aCons (sVar 3) aNil)) (aCons (sCall 1 F_fewest_falls (aCons (sVar 3) aNil)) aNil))))))
    (qRet (sCall 2 F_law_is (aCons (sVar 4) (aCons (sLst false (aCons (sTup (aCons (sTup (aCons (sC (.int 0)) (aCons (sC (.int 2)) (aCons (sC (.int 2)) aNil)))) (aCons (sTup (aCons (sC (.int 2)) (aCons (sC (.int 0)) (aCons (sC (.int 1)) aNil)))) (aCons (sTup (aCons (sC (.int 2)) (aCons (sC (.int 1)) (aCons (sC (.int 0)) aNil)))) aNil)))) (aCons (sC (.int 1)) (aCons (sTup (aCons (sC (.int 0)) (aCons (sTup (aCons (sC (.int 0)) (aCons (sC (.int 2)) (aCons (sC (.int 1)) aNil)))) aNil))) (aCons (sTup (aCons (sC (.int 0)) (aCons (sTup (aCons (sC (.int 0)) (aCons (sC (.int 2)) (aCons (sC (.int 1)) aNil)))) aNil))) aNil))))) aNil))))))))
def F_law : List D → Sto → Out D := defFin 5 b_law
end Lw96
namespace Lw96
open PySem PD
variable {st : Sto}
/-! ### tables by their numbers -/
abbrev rowT (n : Nat) (f : Nat → Nat → Int) (i : Nat) : D := .tup ((List.range n).map fun j : Nat => D.int (f i j))
abbrev tabT (n : Nat) (f : Nat → Nat → Int) : D := .tup ((List.range n).map fun i : Nat => rowT n f i)
abbrev nats (ms : List Nat) : D := .tup (ms.map fun m : Nat => D.int (m : Int))
theorem fIx_range {st : Sto} {n i : Nat} {φ : Nat → D} (h : i < n) : fIx (.tup ((List.range n).map φ)) (.int (i : Int)) st = .ok (φ i) st := fIx_tup (by rw [List.getElem?_map, List.getElem?_range h]; rfl)
theorem fIx_rangeL {st : Sto} {n i : Nat} {φ : Nat → D} (h : i < n) : fIx (.lst ((List.range n).map φ)) (.int (i : Int)) st = .ok (φ i) st := fIx_at (x := .lst ((List.range n).map φ)) rfl (by rw [List.getElem?_map, List.getElem?_range h]; rfl)
theorem zipIdx_range (n : Nat) : (List.range n).zipIdx = (List.range n).map fun i => (i, i) := by
  apply List.ext_getElem <;> simp
theorem enum_range (n : Nat) (φ : Nat → D) : enumFromD 0 ((List.range n).map φ) = (List.range n).map fun i : Nat => D.tpl [.int (i : Int), φ i] := by
  rw [enum_map, zipIdx_range, List.map_map]
  rfl
theorem zip_range (n : Nat) (φ ψ : Nat → D) : zipD ((List.range n).map φ) ((List.range n).map ψ) = (List.range n).map fun i : Nat => D.tpl [φ i, ψ i] := by
  rw [zip_map]
  have : (List.range n).zip (List.range n) = (List.range n).map fun i => (i, i) := by
    apply List.ext_getElem <;> simp
  rw [this, List.map_map]
  rfl
theorem iRange_n {a : SA} {ρ : Ev} {st : Sto} {n : Nat} (h : a ρ st = .ok [.int (n : Int)] st) (hn : n ≤ 1000 := by omega) : iRange1 a ρ st = .ok ((List.range n).map fun i : Nat => D.int (i : Int), none) st := iRange1_nat h (by omega)
theorem fz_map {α : Type} (f : Nat) (l : List α) (φ : α → D) (h : ∀ a ∈ l, Fz f (φ a)) : Fz (f + 1) (.tup (l.map φ)) := fz_tup fun d hd => by
  obtain ⟨i, hi, rfl⟩ := List.mem_map.mp hd
  exact h i hi
theorem fz_mapL {α : Type} (f : Nat) (l : List α) (φ : α → D) (h : ∀ a ∈ l, Fz f (φ a)) : Fz (f + 1) (.lst (l.map φ)) := fz_lst fun d hd => by
  obtain ⟨i, hi, rfl⟩ := List.mem_map.mp hd
  exact h i hi
theorem fz_rowT (f n : Nat) (g : Nat → Nat → Int) (i : Nat) : Fz (f + 1) (rowT n g i) := fz_map _ _ _ fun _ _ => fz_int _ _
theorem fz_tabT (f n : Nat) (g : Nat → Nat → Int) : Fz (f + 2) (tabT n g) := fz_map _ _ _ fun _ _ => fz_rowT _ _ _ _
theorem fz_nats (f : Nat) (r : List Nat) : Fz (f + 1) (nats r) := fz_map _ _ _ fun _ _ => fz_int _ _
theorem tabT_congr {n : Nat} {f g : Nat → Nat → Int} (h : ∀ i j, i < n → j < n → f i j = g i j) : tabT n f = tabT n g := by
  unfold tabT rowT
  congr 1
  refine List.map_congr_left fun i hi => ?_
  congr 1
  refine List.map_congr_left fun j hj => ?_
  rw [h i j (List.mem_range.mp hi) (List.mem_range.mp hj)]
/-- a table, sound or not -/
structure TabP (n : Nat) (f : Nat → Nat → Int) : Prop where
  n1 : 1 ≤ n
  n7 : n ≤ 7
  lo : ∀ i j, i < n → j < n → 0 ≤ f i j ∧ f i j ≤ 1000
  dg : ∀ i j, i < n → j < n → (f i j = 0 ↔ i = j)
  sy : ∀ i j, i < n → j < n → f i j = f j i
def Tri (n : Nat) (f : Nat → Nat → Int) : Prop := ∀ i j k, i < n → j < n → k < n → f i k ≤ f i j + f j k
theorem is_integer_i (hw : WF st) (i : Int) : F_is_integer [.int i] st = .ok (.bl true) st := defFin_v hw (fz_bl _ _) (by simp [b_is_integer, startD])
theorem is_within_i (hw : WF st) (i lo hi : Int) : F_is_within [.int i, .int lo, .int hi] st = .ok (.bl (decide (lo ≤ i ∧ i ≤ hi))) st := defFin_v hw (fz_bl _ _) (by
  by_cases h : lo ≤ i
  · simp [b_is_within, startD, is_integer_i hw, h]
  · simp [b_is_within, startD, is_integer_i hw, h])
theorem is_sized_t (hw : WF st) (xs : List D) (lo hi : Int) : F_is_sized [.tup xs, .int lo, .int hi] st = .ok (.bl (decide (lo ≤ xs.length ∧ xs.length ≤ hi))) st := defFin_v hw (fz_bl _ _) (by
  by_cases h : lo ≤ xs.length
  · simp [b_is_sized, startD, h]
  · simp [b_is_sized, startD, h])
/-! what is none -/
def niD : D → Bool
  | .non => true | .bl _ => true | .str _ => true | .tup _ => true | .lst _ => true | .dk _ _ => true
  | _ => false
def ntD : D → Bool
  | .non => true | .bl _ => true | .str _ => true | .int _ => true | .lst _ => true | .dk _ _ => true
  | _ => false
theorem is_integer_ni (hw : WF st) {x : D} (h : niD x = true) : F_is_integer [x] st = .ok (.bl false) st := defFin_v hw (fz_bl _ _) (by
  cases x <;> simp [niD] at h <;> simp [b_is_integer, startD, isTy])
theorem is_within_ni (hw : WF st) {x : D} (h : niD x = true) (lo hi : Int) : F_is_within [x, .int lo, .int hi] st = .ok (.bl false) st := defFin_v hw (fz_bl _ _) (by
  simp [b_is_within, startD, is_integer_ni hw h])
theorem ty_nt {x : D} (h : ntD x = true) : isTy .tuple x = some false := by cases x <;> simp [ntD] at h <;> rfl
theorem is_sized_nt (hw : WF st) {x : D} (h : ntD x = true) (lo hi : Int) : F_is_sized [x, .int lo, .int hi] st = .ok (.bl false) st := defFin_v hw (fz_bl _ _) (by
  simp [b_is_sized, startD, ty_nt h])
theorem is_table_nt (hw : WF st) {x : D} (h : ntD x = true) : F_is_table [x] st = .ok (.bl false) st := defFin_v hw (fz_bl _ _) (by
  simp [b_is_table, startD, is_sized_nt hw h])
/-! ### is_table -/
theorem all_true {α : Type} (l : List α) : (l.all fun _ => true) = true := by simp
theorem any_false {α : Type} (l : List α) : (l.any fun _ => false) = false := by simp
theorem is_table_T (hw : WF st) {n : Nat} {f : Nat → Nat → Int} (v : TabP n f) : F_is_table [tabT n f] st = .ok (.bl true) st := defFin_v hw (fz_bl _ _) (by
  have n1 := v.n1
  have n7 := v.n7
  have z2 := sizeLine_eq
  have h0 : (startD 5 [tabT n f])[0]? = some (some (tabT n f)) := rfl
  have hl : (startD 5 [tabT n f]).length = 5 := rfl
  generalize startD 5 [tabT n f] = ρ at h0 hl
  unfold b_is_table
  simp_arith! [h0, is_sized_t hw, List.length_range, decide_eq_true (show (1 : Int) ≤ n ∧ (n : Int) ≤ 7 by omega)]
  rw [sLC_map (dy := none) (List.range n) (fun i => rowT n f i) (fun _ => D.bl true) (by simp_arith! [iSeq_e, h0]) (still_none _ _) (by simp; omega) fun i hi => ⟨_, rfl, by
    simp_arith! [h0, hl, is_sized_t hw, List.length_range, Int.le_refl]⟩]
  have ba := fun s => bAll_map (fun _ : Nat => true) (List.range n) s
  have bn := fun s => bAny_map (fun _ : Nat => false) (List.range n) s
  simp only [all_true, any_false] at ba bn
  simp_arith! [ba, h0, iEnum_e, enum_range, List.length_range]
  generalize hL : loopFor _ _ _ _ _ _ _ _ = R
  obtain ⟨ρ', rfl, k0, kl⟩ := for_none_e hL (List.range n) (fun i : Nat => D.tpl [.int (i : Int), rowT n f i]) rfl (by simp) (still_none _ _) (fun ρ => ρ[0]? = some (some (tabT n f)) ∧ ρ.length = 5) ⟨h0, hl⟩ (by
    rintro i hi ρ ⟨h0, hl⟩
    have hi := List.mem_range.mp hi
    refine ⟨_, rfl, (ρ.set 1 (some (.int (i : Int)))).set 2 (some (rowT n f i)), .inl ?_, by simp_arith! [h0, hl]⟩
    simp_arith! [hl]
    rw [sLC_map (dy := none) (List.range n) (fun j => D.int (f i j)) (fun _ => D.bl true) (by simp_arith! [iSeq_e, hl]) (still_none _ _) (by simp; omega) fun j hj => ⟨_, rfl, by
      have hj := List.mem_range.mp hj
      simp_arith! [hl, is_within_i hw, decide_eq_true (v.lo i j hi hj)]⟩]
    simp_arith! [ba, hl]
    rw [sLC_map (dy := none) (List.range n) (fun j : Nat => D.tpl [.int (j : Int), .int (f i j)]) (fun _ => D.bl false) (by simp_arith! [iEnum_e, hl, enum_range]) (still_none _ _) (by simp; omega) fun j hj => ⟨_, rfl, by
      have hj := List.mem_range.mp hj
      have e : decide (f i j = 0) = decide ((i : Int) = (j : Int)) := by
        have := v.dg i j hi hj
        apply Bool.eq_iff_iff.mpr
        rw [decide_eq_true_eq, decide_eq_true_eq, this]
        omega
      simp_arith! [hl, e]⟩]
    simp_arith! [bn, hl])
  clear hL
  simp_arith! []
  rw [sLC_map (dy := none) (List.range n) (fun i : Nat => D.tpl [.int (i : Int), rowT n f i]) (fun _ => D.bl true) (by simp_arith! [iEnum_e, k0, enum_range]) (still_none _ _) (by simp; omega) fun i hi => ⟨_, rfl, by
    have hi := List.mem_range.mp hi
    simp_arith! [kl, k0]
    rw [sLC_map (dy := none) (List.range i) (fun j : Nat => D.int (j : Int)) (fun _ => D.bl true) (iRange_n (by simp_arith! [kl, k0])) (still_none _ _) (by simp; omega) fun j hj => ⟨_, rfl, by
      have hj := List.mem_range.mp hj
      have hjn : j < n := by omega
      simp_arith! [kl, k0, fIx_range hjn, fIx_range hi, v.sy i j hi hjn]⟩]
    have ba := bAll_map (fun _ : Nat => true) (List.range i) st
    simp only [all_true] at ba
    simp_arith! [ba]⟩]
  simp_arith! [ba])
theorem check_table_T (hw : WF st) {n : Nat} {f : Nat → Nat → Int} (v : TabP n f) : F_check_table [tabT n f] st = .ok .non st := defFin_n (ρ := startD 1 [tabT n f]) hw (by
  have h0 : (startD 1 [tabT n f])[0]? = some (some (tabT n f)) := rfl
  generalize startD 1 [tabT n f] = ρ at h0
  unfold b_check_table
  simp_arith! [h0, is_table_T hw v])
/-! ### short triples -/
def shortT (n : Nat) (f : Nat → Nat → Int) : Option (Nat × Nat × Nat) :=
  (List.range n).findSome? fun i => (List.range n).findSome? fun j => (List.range n).findSome? fun k => if j ≠ i ∧ j ≠ k ∧ i < k ∧ f i j + f j k < f i k then some (i, j, k) else none
def triD : Option (Nat × Nat × Nat) → D
  | none => .non
  | some (i, j, k) => .tup [.int (i : Int), .int (j : Int), .int (k : Int)]
theorem shortT_none {n : Nat} {f : Nat → Nat → Int} (v : TabP n f) : shortT n f = none ↔ Tri n f := by
  unfold shortT Tri
  simp only [List.findSome?_eq_none_iff, List.mem_range]
  constructor
  · intro h i j k hi hj hk
    have a := v.lo i j hi hj
    have b := v.lo j k hj hk
    have s1 := v.sy i k hi hk
    have s2 := v.sy i j hi hj
    have s3 := v.sy j k hj hk
    by_cases e1 : j = i
    · subst e1; have := (v.dg j j hj hj).mpr rfl; omega
    by_cases e2 : j = k
    · subst e2; have := (v.dg j j hj hj).mpr rfl; omega
    by_cases e3 : i = k
    · subst e3; have := (v.dg i i hi hi).mpr rfl; omega
    by_cases e4 : i < k
    · have := h i hi j hj k hk
      split at this
      · cases this
      · omega
    · have := h k hk j hj i hi
      split at this
      · cases this
      · omega
  · intro h i hi j hj k hk
    have := h i j k hi hj hk
    rw [if_neg (by omega)]
theorem findSome_map {α β γ : Type} (f : α → Option β) (g : β → γ) : ∀ l : List α, l.findSome? (fun a => (f a).map g) = (l.findSome? f).map g
  | [] => rfl
  | a :: l => by
    rw [List.findSome?_cons, List.findSome?_cons]
    cases f a with
    | none => exact findSome_map f g l
    | some b => rfl
theorem toPy_tupInts (st : Sto) (n : Nat) (l : List Int) : toPy st (n + 1) (.tup (l.map D.int)) = some (.tuple (l.map PyData.int)) := by
  rw [toPy]
  simp only [List.map_map]
  rw [allSome_map (f := toPy st n ∘ D.int) (g := PyData.int) fun i _ => toPy_int st n i]
  rfl
theorem inPy_ints (i : Int) (l : List Int) : inPy (.int i) (l.map PyData.int) = decide (i ∈ l) := by
  unfold inPy
  rw [List.any_map]
  apply Bool.eq_iff_iff.mpr
  simp only [List.any_eq_true, Function.comp, eqv_int, decide_eq_true_eq]
  constructor
  · rintro ⟨x, hx, rfl⟩; exact hx
  · intro h; exact ⟨i, h, rfl⟩
theorem fIn0_row (st : Sto) (i : Int) (l : List Int) : fIn0 (.int i) (row l) st = .ok (decide (i ∈ l)) st := by
  have hf : (flatD (.int i) && (l.map D.int).all flatD) = true := by
    simp [flatD]
  unfold fIn0
  simp only [toPy_int, hf, if_true, toPys, List.map_map]
  rw [allSome_map (f := toPy st 59 ∘ D.int) (g := PyData.int) fun i _ => toPy_int st 59 i]
  simp only [inPy_ints]
theorem nats_row (l : List Nat) : nats l = row (l.map fun m : Nat => (m : Int)) := by
  unfold nats row
  rw [List.map_map]
  rfl
theorem fIn0_nats (st : Sto) (m : Nat) (l : List Nat) : fIn0 (.int (m : Int)) (nats l) st = .ok (decide (m ∈ l)) st := by
  rw [nats_row, fIn0_row]
  have : ((m : Int) ∈ l.map fun m : Nat => (m : Int)) ↔ m ∈ l := by
    rw [List.mem_map]
    constructor
    · rintro ⟨a, ha, e⟩
      have : a = m := by omega
      exact this ▸ ha
    · intro h; exact ⟨m, h, rfl⟩
  simp only [this]
theorem fIn_nats (st : Sto) (m : Nat) (l : List Nat) : fIn (.int (m : Int)) (nats l) st = .ok (.bl (decide (m ∈ l))) st := by
  unfold fIn
  rw [fIn0_nats]
  rfl
theorem fNotIn_nats (st : Sto) (m : Nat) (l : List Nat) : fNotIn (.int (m : Int)) (nats l) st = .ok (.bl (!decide (m ∈ l))) st := by
  unfold fNotIn
  rw [fIn0_nats]
  rfl
theorem fNotIn_2 (st : Sto) (m a b : Nat) : fNotIn (.int (m : Int)) (.tup [.int (a : Int), .int (b : Int)]) st = .ok (.bl (!decide (m = a ∨ m = b))) st := by
  have := fNotIn_nats st m [a, b]
  simp only [nats, List.map_cons, List.map_nil] at this
  rw [this]
  simp
theorem short_triple_T (hw : WF st) {n : Nat} (f : Nat → Nat → Int) (n7 : n ≤ 7) : F_short_triple [tabT n f] st = .ok (triD (shortT n f)) st := by
  have z2 := sizeLine_eq
  refine defFin_v hw (by
    cases shortT n f with
    | none => exact fz_non _
    | some p =>
      obtain ⟨i, j, k⟩ := p
      exact fz_nats 59 [i, j, k]) ?_
  have h0 : (startD 5 [tabT n f])[0]? = some (some (tabT n f)) := rfl
  have hl : (startD 5 [tabT n f]).length = 5 := rfl
  generalize startD 5 [tabT n f] = ρ at h0 hl
  unfold b_short_triple
  simp_arith! [h0, List.length_range]
  rw [if_pos (by omega), rangeL_0]
  let c3 : Nat → Nat → Nat → Option D := fun i j k => if j ≠ i ∧ j ≠ k ∧ i < k ∧ f i j + f j k < f i k then some (.tup [.int (i : Int), .int (j : Int), .int (k : Int)]) else none
  have c3n : ∀ i j k, ¬ (j ≠ i ∧ j ≠ k ∧ i < k ∧ f i j + f j k < f i k) → c3 i j k = none := fun _ _ _ h => if_neg h
  have c3p : ∀ i j k, (j ≠ i ∧ j ≠ k ∧ i < k ∧ f i j + f j k < f i k) → c3 i j k = some (.tup [.int (i : Int), .int (j : Int), .int (k : Int)]) := fun _ _ _ h => if_pos h
  let c2 : Nat → Nat → Option D := fun i j => (List.range n).findSome? (c3 i j)
  let c1 : Nat → Option D := fun i => (List.range n).findSome? (c2 i)
  have cc : (List.range n).findSome? c1 = (shortT n f).map fun p => .tup [.int (p.1 : Int), .int (p.2.1 : Int), .int (p.2.2 : Int)] := by
    unfold shortT
    rw [← findSome_map]
    congr 1
    funext i
    rw [← findSome_map]
    show (List.range n).findSome? (c2 i) = _
    congr 1
    funext j
    rw [← findSome_map]
    show (List.range n).findSome? (c3 i j) = _
    congr 1
    funext k
    show (if _ then _ else _) = _
    split <;> rfl
  let L : D := .lst ((List.range n).map fun i : Nat => D.int (i : Int))
  simp_arith! [hl, iSeq_e, List.length_range]
  generalize hL : loopFor _ _ _ _ _ _ _ _ = R
  rcases for_some_e hL (List.range n) (fun i : Nat => D.int (i : Int)) rfl (by simp) (still_none _ _) (fun ρ => ρ.length = 5 ∧ ρ[0]? = some (some (tabT n f)) ∧ ρ[1]? = some (some L)) c1 ⟨by simp_arith! [hl], by simp_arith! [h0], by simp_arith! [hl]; rfl⟩ (by
    rintro i hi ρ ⟨hl, h0, h1⟩
    have hi := List.mem_range.mp hi
    refine ⟨_, rfl, ?_⟩
    generalize hM : qFor _ _ _ _ _ = R2
    simp_arith! [hl, h1, iSeq_e, L, List.length_range] at hM
    rcases for_some_e hM (List.range n) (fun i : Nat => D.int (i : Int)) rfl (by simp) (still_none _ _) (fun ρ => ρ.length = 5 ∧ ρ[0]? = some (some (tabT n f)) ∧ ρ[1]? = some (some L) ∧ ρ[2]? = some (some (.int (i : Int)))) (c2 i) ⟨by simp_arith! [hl], by simp_arith! [h0], by simp_arith! [h1], by simp_arith! [hl]⟩ (by
      rintro j hj ρ ⟨hl, h0, h1, h2⟩
      have hj := List.mem_range.mp hj
      refine ⟨_, rfl, ?_⟩
      generalize hN : qFor _ _ _ _ _ = R3
      simp_arith! [hl, h1, iSeq_e, L, List.length_range] at hN
      rcases for_some_e hN (List.range n) (fun i : Nat => D.int (i : Int)) rfl (by simp) (still_none _ _) (fun ρ => ρ.length = 5 ∧ ρ[0]? = some (some (tabT n f)) ∧ ρ[1]? = some (some L) ∧ ρ[2]? = some (some (.int (i : Int))) ∧ ρ[3]? = some (some (.int (j : Int)))) (c3 i j) ⟨by simp_arith! [hl], by simp_arith! [h0], by simp_arith! [h1], by simp_arith! [h2], by simp_arith! [hl]⟩ (by
        rintro k hk ρ ⟨hl, h0, h1, h2, h3⟩
        have hk := List.mem_range.mp hk
        refine ⟨_, rfl, ?_⟩
        generalize hO : qIf _ _ _ _ _ = R4
        have ei : decide ((i : Int) < (k : Int)) = decide (i < k) := by simp
        simp_arith! [hl, h0, h1, h2, h3, fNotIn_2, fIx_range hi, fIx_range hj, fIx_range hk, ei] at hO
        by_cases q1 : j = i ∨ j = k
        · right
          simp only [q1, decide_true, Bool.not_true, Bool.false_eq_true, if_false] at hO
          try simp_arith! [] at hO
          exact ⟨c3n _ _ _ (by omega), _, .inl hO.symm, by simp_arith! [hl], by simp_arith! [h0], by simp_arith! [h1], by simp_arith! [h2], by simp_arith! [h3]⟩
        · simp only [q1, decide_false, Bool.not_false, if_true] at hO
          try simp_arith! [] at hO
          by_cases q2 : i < k
          · simp only [q2, decide_true, if_true] at hO
            try simp_arith! [] at hO
            by_cases q3 : f i j + f j k < f i k
            · simp only [q3, decide_true, if_true] at hO
              try simp_arith! [] at hO
              exact .inl ⟨_, c3p _ _ _ (by omega), hO.symm⟩
            · simp only [q3, decide_false] at hO
              try simp_arith! [] at hO
              exact .inr ⟨c3n _ _ _ (by omega), _, .inl hO.symm, by simp_arith! [hl], by simp_arith! [h0], by simp_arith! [h1], by simp_arith! [h2], by simp_arith! [h3]⟩
          · simp only [q2, decide_false] at hO
            try simp_arith! [] at hO
            exact .inr ⟨c3n _ _ _ (by omega), _, .inl hO.symm, by simp_arith! [hl], by simp_arith! [h0], by simp_arith! [h1], by simp_arith! [h2], by simp_arith! [h3]⟩) with ⟨d, e, rfl⟩ | ⟨e, ρ', rfl, q⟩
      · exact .inl ⟨d, e, rfl⟩
      · exact .inr ⟨e, _, .inl rfl, q.1, q.2.1, q.2.2.1, q.2.2.2.1⟩) with ⟨d, e, rfl⟩ | ⟨e, ρ', rfl, q⟩
    · exact .inl ⟨d, e, rfl⟩
    · exact .inr ⟨e, _, .inl rfl, q.1, q.2.1, q.2.2.1⟩) with ⟨d, e, rfl⟩ | ⟨e, ρ', rfl, q⟩
  · rw [cc] at e
    cases q : shortT n f with
    | none => rw [q] at e; cases e
    | some p => rw [q] at e; cases e; rfl
  · rw [cc] at e
    cases q : shortT n f with
    | none => simp_arith! []; rfl
    | some p => rw [q] at e; cases e
end Lw96
namespace Lw96
open PySem PD
variable {st : Sto}
def absI (i : Int) : Int := if i < 0 then -i else i
/-! ### the draws -/
/-- the hand: what it holds is in order -/
structure Hand (cs : List Int) (p q r k : Int) : Prop where
  p0 : 0 ≤ p
  q0 : 0 ≤ q
  c0 : ∀ c ∈ cs, 0 ≤ c
abbrev handO (cs : List Int) (p q r k : Int) : MO := .lst [.lst (cs.map D.int), .int p, .int q, .int r, .int k]
def HandO (o : MO) : Prop := ∃ cs p q r k, o = handO cs p q r k ∧ Hand cs p q r k
theorem noRef_hand (n : Nat) (cs : List Int) (p q r k : Int) : noRefO n (handO cs p q r k) = true := by
  refine noRefs_all fun d hd => ?_
  simp only [List.mem_cons, List.not_mem_nil, or_false] at hd
  rcases hd with rfl | rfl | rfl | rfl | rfl
  · unfold noRef
    exact noRefs_all fun d hd => by
      obtain ⟨i, _, rfl⟩ := List.mem_map.mp hd
      rfl
  all_goals rfl
theorem small_c {i : Int} (h1 : -1000000000000 ≤ i) (h2 : i ≤ 1000000000000) : small i = true := by
  unfold small
  have a : (-(2 ^ 64) : Int) < -1000000000000 := by decide +kernel
  have b : (1000000000000 : Int) < 2 ^ 64 := by decide +kernel
  generalize (2 ^ 64 : Int) = z at a b ⊢
  simp only [Bool.and_eq_true, decide_eq_true_eq]
  omega
theorem fPow18 (st : Sto) : fPow (.int 10) (.int 18) st = .ok (.int 1000000000000000000) st := by
  unfold fPow
  simp
theorem fIx_ref {st : Sto} {l i : Nat} {xs : List D} {d : D} (h : st[l]? = some (.lst xs)) (hi : xs[i]? = some d) : fIx (.ref l) (.int (i : Int)) st = .ok d st := fIx_at (items_ref h) hi
section
variable (cs : List Int) (p q r k v : Int) (rest : Sto)
theorem hi0 : fIx (.ref 0) (.int 0) (handO cs p q r k :: rest) = .ok (.lst (cs.map D.int)) (handO cs p q r k :: rest) := fIx_ref (i := 0) rfl rfl
theorem hi1 : fIx (.ref 0) (.int 1) (handO cs p q r k :: rest) = .ok (.int p) (handO cs p q r k :: rest) := fIx_ref (i := 1) rfl rfl
theorem hi2 : fIx (.ref 0) (.int 2) (handO cs p q r k :: rest) = .ok (.int q) (handO cs p q r k :: rest) := fIx_ref (i := 2) rfl rfl
theorem hi3 : fIx (.ref 0) (.int 3) (handO cs p q r k :: rest) = .ok (.int r) (handO cs p q r k :: rest) := fIx_ref (i := 3) rfl rfl
theorem hi4 : fIx (.ref 0) (.int 4) (handO cs p q r k :: rest) = .ok (.int k) (handO cs p q r k :: rest) := fIx_ref (i := 4) rfl rfl
theorem hs1 : fSetIx (.ref 0) (.int 1) (.int v) (handO cs p q r k :: rest) = some (handO cs v q r k :: rest) := fSetIx_ref (l := 0) (i := 1) (xs := [.lst (cs.map D.int), .int p, .int q, .int r, .int k]) rfl (show 1 < 5 by decide)
theorem hs2 : fSetIx (.ref 0) (.int 2) (.int v) (handO cs p q r k :: rest) = some (handO cs p v r k :: rest) := fSetIx_ref (l := 0) (i := 2) (xs := [.lst (cs.map D.int), .int p, .int q, .int r, .int k]) rfl (show 2 < 5 by decide)
theorem hs3 : fSetIx (.ref 0) (.int 3) (.int v) (handO cs p q r k :: rest) = some (handO cs p q v k :: rest) := fSetIx_ref (l := 0) (i := 3) (xs := [.lst (cs.map D.int), .int p, .int q, .int r, .int k]) rfl (show 3 < 5 by decide)
theorem hs4 : fSetIx (.ref 0) (.int 4) (.int v) (handO cs p q r k :: rest) = some (handO cs p q r v :: rest) := fSetIx_ref (l := 0) (i := 4) (xs := [.lst (cs.map D.int), .int p, .int q, .int r, .int k]) rfl (show 4 < 5 by decide)
end
theorem draw_t {o : MO} {rest : Sto} (hw : WF (o :: rest)) (ho : HandO o) {m : Int} (h0 : 0 < m) (h1 : m < 1073741824) :
    ∃ o' d, HandO o' ∧ 0 ≤ d ∧ d < m ∧ F_law_draw [.ref 0, .int m] (o :: rest) = .ok (.int d) (o' :: rest) := by
  obtain ⟨cs, p, q, r, k, rfl, hh⟩ := ho
  have z2 := sizeLine_eq
  have body : ∃ o' d, HandO o' ∧ 0 ≤ d ∧ d < m ∧ b_law_draw (startD 5 [.ref 0, .int m]) (handO cs p q r k :: rest) = some (.rt (.int d), o' :: rest) := by
    have fst : ∃ x p' q' r', Hand cs p' q' r' k ∧ (qIf (tAndD (tBl (s2 fEq (s2 fIx (sVar 0) (sC (.int 2))) (sC (.int 0)))) (tBl (s2 fLt (s2 fIx (sVar 0) (sC (.int 1))) (sB bLen (aCons (s2 fIx (sVar 0) (sC (.int 0))) aNil))))) (qSeq (qSet 2 (s2 fIx (s2 fIx (sVar 0) (sC (.int 0))) (s2 fIx (sVar 0) (sC (.int 1)))))
    (qSeq (qSetIx (sVar 0) (sC (.int 1)) (s2 fAdd (s2 fIx (sVar 0) (sC (.int 1))) (sC (.int 1))))
    (qSeq (qSetIx (sVar 0) (sC (.int 3)) (s2 fMod (sB bInt (aCons (s2 fAdd (s2 fAdd (s2 fMul (s2 fIx (sVar 0) (sC (.int 3))) (sC (.int 69621))) (s2 fMul (sVar 2) (sC (.int 48271)))) (sC (.int 17))) aNil)) (sC (.int 2147483629))))
    (qIf (tBl (s2 fGe (sVar 2) (s2 fPow (sC (.int 10)) (sC (.int 18))))) (qSetIx (sVar 0) (sC (.int 2)) (sVar 2)) qNext)))) qNext) (startD 5 [.ref 0, .int m]) (handO cs p q r k :: rest) = some (.nx [some (.ref 0), some (.int m), x, none, none], handO cs p' q' r' k :: rest) := by
      by_cases c1 : q = 0
      · by_cases c2 : p < cs.length
        · obtain ⟨pn, rfl⟩ : ∃ n : Nat, p = (n : Int) := ⟨p.toNat, by have := hh.p0; omega⟩
          have hp : pn < cs.length := by omega
          have hc := hh.c0 _ (List.getElem_mem hp)
          have ec : (cs.map D.int)[pn]? = some (.int cs[pn]) := by rw [List.getElem?_map, List.getElem?_eq_getElem hp]; rfl
          have ei : ∀ st, fIx (.lst (cs.map D.int)) (.int (pn : Int)) st = .ok (.int cs[pn]) st := fun st => fIx_at rfl ec
          by_cases c3 : (1000000000000000000 : Int) ≤ cs[pn]
          · refine ⟨some (.int cs[pn]), pn + 1, cs[pn], (r * 69621 + cs[pn] * 48271 + 17) % 2147483629, ⟨by omega, hc, hh.c0⟩, ?_⟩
            simp [startD, hi0, hi1, hi2, hi3, hi4, hs1, hs2, hs3, hs4, c1, hp, ei, fMul_i (j := 69621) (.inr (small_c (by omega) (by omega))), fMul_i (j := 48271) (.inr (small_c (by omega) (by omega))), fMod_i, fPow18, c3]
          · refine ⟨some (.int cs[pn]), pn + 1, 0, (r * 69621 + cs[pn] * 48271 + 17) % 2147483629, ⟨by omega, by omega, hh.c0⟩, ?_⟩
            simp [startD, hi0, hi1, hi2, hi3, hi4, hs1, hs2, hs3, hs4, c1, hp, ei, fMul_i (j := 69621) (.inr (small_c (by omega) (by omega))), fMul_i (j := 48271) (.inr (small_c (by omega) (by omega))), fMod_i, fPow18, c3]
        · refine ⟨none, p, q, r, hh, ?_⟩
          simp [startD, hi0, hi1, hi2, c1, c2]
      · refine ⟨none, p, q, r, hh, ?_⟩
        simp [startD, hi2, c1]
    obtain ⟨x, p', q', r', hh', e⟩ := fst
    unfold b_law_draw
    rw [qSeq_e, e, then_nx]
    by_cases c1 : 0 < q'
    · refine ⟨handO cs p' (q' / m) r' k, q' % m, ⟨_, _, _, _, _, rfl, hh'.p0, Int.ediv_nonneg hh'.q0 (by omega), hh'.c0⟩, Int.emod_nonneg _ (by omega), Int.emod_lt_of_pos _ h0, ?_⟩
      simp [hi2, c1, fMod_i h0, fDiv_i ⟨h0, h1⟩, hs2]
    · simp [hi2, c1, hi3, hi4, hs4, fMul_i (i := 7919) (.inl (small_c (by omega) (by omega))), fMul_i (j := 40692) (.inr (small_c (by omega) (by omega))), fMod_i, fMod_i h0, fDiv_i]
      have b1 := Int.emod_nonneg ((r' + 7919 * (k + 1)) * 40692) (show (2147483647 : Int) ≠ 0 by omega)
      have b2 := Int.emod_lt_of_pos ((r' + 7919 * (k + 1)) * 40692) (show (0 : Int) < 2147483647 by omega)
      generalize (r' + 7919 * (k + 1)) * 40692 % 2147483647 = n1 at b1 b2 ⊢
      rw [fMul_i (.inl (small_c (by omega) (by omega)))]
      simp [fMod_i, fDiv_i]
      have d1 := Int.emod_nonneg (n1 * (n1 / 1009 + 69621)) (show (2147483647 : Int) ≠ 0 by omega)
      have d2 := Int.emod_lt_of_pos (n1 * (n1 / 1009 + 69621)) (show (0 : Int) < 2147483647 by omega)
      generalize n1 * (n1 / 1009 + 69621) % 2147483647 = n2 at d1 d2 ⊢
      rw [fMul_i (.inl (small_c (by omega) (by omega)))]
      simp [fMod_i, fDiv_i, fMod_i h0]
      refine ⟨handO cs p' q' r' (k + 1), ⟨_, _, _, _, _, rfl, hh'.p0, hh'.q0, hh'.c0⟩, _, ?_, ?_, rfl, rfl⟩
      · exact Int.emod_nonneg _ (by omega)
      · exact Int.emod_lt_of_pos _ h0
  obtain ⟨o', d, h1, h2, h3, h4⟩ := body
  have hw' : WF (o' :: rest) := by
    obtain ⟨cs', p', q', r', k', rfl, _⟩ := h1
    exact hw.set 0 (noRef_hand _ cs' p' q' r' k')
  exact ⟨o', d, h1, h2, h3, defFin_rt (ex := []) (by rw [List.append_nil]; exact h4) rfl hw' (by rw [List.append_nil]; exact fz_int _ _ _ _)⟩

theorem hand_t (ns : List Int) (hn : ns.length ≤ 63) : ∃ o, HandO o ∧ F_law_hand [.fz (ns.map D.int)] [] = .ok (.ref 0) [o] := by
  have z2 := sizeLine_eq
  refine ⟨handO (ns.map absI) 0 0 (211 + 19 * ((ns.map absI).length : Int)) 0, ⟨_, _, _, _, _, rfl, by omega, by omega, fun c hc => ?_⟩, ?_⟩
  · obtain ⟨i, _, rfl⟩ := List.mem_map.mp hc
    unfold absI
    split <;> omega
  · have cut : cutD (ns.map D.int) none (some 63) = ns.map D.int := by
      unfold cutD HT.sIx
      simp
      rw [List.take_of_length_le]
      simp
      omega
    unfold F_law_hand defRaw
    have body : b_law_hand (startD 3 [.fz (ns.map D.int)]) [] = some (.rt (.ref 0), [handO (ns.map absI) 0 0 (211 + 19 * ((ns.map absI).length : Int)) 0]) := by
      simp only [b_law_hand, startD]
      simp only [qSeq_e, qSet_e]
      rw [sLC_map (dy := none) ns D.int (fun i => D.int (absI i)) (by simp [cut]) (still_none _ _) (by omega) fun i _ => ⟨_, rfl, by
        show _ = Out.ok (D.int (if i < 0 then -i else i)) []
        simp⟩]
      have e : (ns.map fun i => D.int (absI i)) = (ns.map absI).map D.int := by simp
      rw [e]
      simp [fMul_i (i := 19) (.inl (small_c (by omega) (by omega))), sizeLine_eq]
    rw [body]
    rfl
theorem wf_hand {o o' : MO} {rest : Sto} (hw : WF (o :: rest)) (h : HandO o') : WF (o' :: rest) := by
  obtain ⟨cs', p', q', r', k', rfl, _⟩ := h
  exact hw.set 0 (noRef_hand _ cs' p' q' r' k')
/-- a draw as a natural number -/
theorem draw_n {o : MO} {rest : Sto} (hw : WF (o :: rest)) (ho : HandO o) {m : Nat} (h0 : 0 < m) (h1 : m < 1000000) :
    ∃ (o' : MO) (d : Nat), HandO o' ∧ d < m ∧ F_law_draw [.ref 0, .int (m : Int)] (o :: rest) = .ok (.int (d : Int)) (o' :: rest) := by
  obtain ⟨o', d, h2, h3, h4, e⟩ := draw_t hw ho (m := (m : Int)) (by omega) (by omega)
  obtain ⟨d, rfl⟩ : ∃ k : Nat, d = (k : Int) := ⟨d.toNat, by omega⟩
  exact ⟨o', d, h2, by omega, e⟩
theorem law_some_t {o : MO} {rest : Sto} (hw : WF (o :: rest)) (ho : HandO o) (xs : List D) (h0 : xs ≠ []) (hl : xs.length ≤ 1000) (hf : ∀ x ∈ xs, Fz 60 x) : ∃ o' x, HandO o' ∧ x ∈ xs ∧ F_law_some [.ref 0, .lst xs] (o :: rest) = .ok x (o' :: rest) := by
  have l0 : 0 < xs.length := List.length_pos_iff.mpr h0
  obtain ⟨o', d, ho', h1, h2, e⟩ := draw_t hw ho (m := (xs.length : Int)) (by omega) (by omega)
  obtain ⟨k, rfl⟩ : ∃ k : Nat, d = (k : Int) := ⟨d.toNat, by omega⟩
  have hk : k < xs.length := by omega
  refine ⟨o', xs[k], ho', List.getElem_mem hk, ?_⟩
  refine defFin_rt (ex := []) (st' := o' :: rest) (d := xs[k]) ?_ rfl (wf_hand hw ho') (hf _ (List.getElem_mem hk) _ _)
  simp [b_law_some, startD, e, fIx_at (st := o' :: rest) (x := .lst xs) (xs := xs) (i := k) rfl (List.getElem?_eq_getElem hk)]
/-- of a list that stands in the store behind the hand -/
theorem law_some_r {o : MO} {rest : Sto} (hw : WF (o :: rest)) (ho : HandO o) {l : Nat} (xs : List D) (hx : rest[l]? = some (.lst xs)) (h0 : xs ≠ []) (hl : xs.length ≤ 1000) (hf : ∀ x ∈ xs, Fz 60 x) : ∃ o' x, HandO o' ∧ x ∈ xs ∧ F_law_some [.ref 0, .ref (l + 1)] (o :: rest) = .ok x (o' :: rest) := by
  have l0 : 0 < xs.length := List.length_pos_iff.mpr h0
  obtain ⟨o', d, ho', h1, h2, e⟩ := draw_t hw ho (m := (xs.length : Int)) (by omega) (by omega)
  obtain ⟨k, rfl⟩ : ∃ k : Nat, d = (k : Int) := ⟨d.toNat, by omega⟩
  have hk : k < xs.length := by omega
  have g : ∀ o : MO, (o :: rest)[l + 1]? = some (.lst xs) := fun o => by rw [List.getElem?_cons_succ]; exact hx
  refine ⟨o', xs[k], ho', List.getElem_mem hk, ?_⟩
  refine defFin_rt (ex := []) (st' := o' :: rest) (d := xs[k]) ?_ rfl (wf_hand hw ho') (hf _ (List.getElem_mem hk) _ _)
  simp [b_law_some, startD, e, bLen_ref (g o), fIx_at (items_ref (g o')) (List.getElem?_eq_getElem hk)]
end Lw96
namespace Lw96
open PySem PD
variable {st : Sto}
/-! ### rows that stand in the store -/
abbrev rowG (n : Nat) (f : Nat → D) : List D := (List.range n).map f
def rowsG (n : Nat) (F : Nat → Nat → D) : Sto := (List.range n).map fun a => MO.lst (rowG n (F a))
def updG (F : Nat → Nat → D) (i j : Nat) (v : D) : Nat → Nat → D := fun a b => if a = i ∧ b = j then v else F a b
theorem rowsG_len (n : Nat) (F : Nat → Nat → D) : (rowsG n F).length = n := by simp [rowsG]
theorem rowsG_get {n a : Nat} (F : Nat → Nat → D) (st : Sto) (h : a < n) : (st ++ rowsG n F)[st.length + a]? = some (.lst (rowG n (F a))) := by
  rw [List.getElem?_append_right (by omega), Nat.add_sub_cancel_left]
  unfold rowsG
  rw [List.getElem?_map, List.getElem?_range h]
  rfl
theorem rowG_get {n b : Nat} (f : Nat → D) (h : b < n) : (rowG n f)[b]? = some (f b) := by
  rw [List.getElem?_map, List.getElem?_range h]
  rfl
theorem map_range_set {α : Type} {n b : Nat} (f : Nat → α) (v : α) : ((List.range n).map f).set b v = (List.range n).map fun x => if x = b then v else f x := by
  apply List.ext_getElem
  · simp
  · intro i h1 h2
    rw [List.getElem_set]
    simp only [List.getElem_map, List.getElem_range]
    by_cases e : b = i
    · rw [if_pos e, if_pos e.symm]
    · rw [if_neg e, if_neg fun q => e q.symm]
theorem rowsG_set {n a b : Nat} (F : Nat → Nat → D) (v : D) (st : Sto) (h : a < n) : (st ++ rowsG n F).set (st.length + a) (.lst ((rowG n (F a)).set b v)) = st ++ rowsG n (updG F a b v) := by
  rw [List.set_append_right (h := by omega), Nat.add_sub_cancel_left]
  congr 1
  unfold rowsG
  rw [map_range_set]
  refine List.map_congr_left fun x hx => ?_
  by_cases e : x = a
  · subst e
    rw [if_pos rfl]
    unfold rowG
    rw [map_range_set]
    congr 1
    refine List.map_congr_left fun y hy => ?_
    unfold updG
    by_cases e2 : y = b
    · rw [if_pos e2, if_pos ⟨rfl, e2⟩]
    · rw [if_neg e2, if_neg fun q => e2 q.2]
  · rw [if_neg e]
    congr 1
    refine List.map_congr_left fun y hy => ?_
    unfold updG
    rw [if_neg fun q => e q.1]
theorem rowsG_congr {n : Nat} {F G : Nat → Nat → D} (h : ∀ a b, a < n → b < n → F a b = G a b) : rowsG n F = rowsG n G := by
  unfold rowsG
  refine List.map_congr_left fun a ha => ?_
  congr 1
  exact List.map_congr_left fun b hb => h a b (List.mem_range.mp ha) (List.mem_range.mp hb)
theorem wf_append {st ex : Sto} (h : WF st) (he : ∀ o ∈ ex, ∀ n, noRefO n o = true) : WF (st ++ ex) := by
  unfold WF at h ⊢
  rw [List.all_append, List.length_append]
  exact Bool.and_eq_true_iff.mpr ⟨List.all_eq_true.mpr fun x hx => noRefO_mono (by omega) x (List.all_eq_true.mp h x hx), List.all_eq_true.mpr fun o ho => he o ho _⟩
theorem wf_rowsG {st : Sto} (h : WF st) {n : Nat} {F : Nat → Nat → D} (hF : ∀ a b m, noRef m (F a b) = true) : WF (st ++ rowsG n F) := wf_append h fun o ho m => by
  obtain ⟨a, _, rfl⟩ := List.mem_map.mp ho
  exact noRefs_all fun d hd => by
    obtain ⟨b, _, rfl⟩ := List.mem_map.mp hd
    exact hF a b m
theorem lc_alloc {α : Type} {g : TgD} {e : SE} {ρ0 : Ev} {φ : α → D} {F : α → MO} {n : Nat} : ∀ (xs : List α) (i : Nat) (st : Sto), (∀ a ∈ xs, ∀ st, ∃ ρ1, g (φ a) ρ0 = some ρ1 ∧ e ρ1 st = .ok (.ref st.length) (st ++ [F a])) →
    loopLC none n g tYesD e ρ0 i (xs.map φ) st = .ok ((List.range xs.length).map fun k => D.ref (st.length + k)) (st ++ xs.map F)
  | [], i, st, h => by simp [loopLC, finOk]
  | a :: xs, i, st, h => by
    obtain ⟨ρ1, h1, h2⟩ := h a List.mem_cons_self st
    have ih := lc_alloc (g := g) (e := e) (ρ0 := ρ0) (φ := φ) (F := F) (n := n) xs (i + 1) (st ++ [F a]) fun b hb => h b (List.mem_cons_of_mem _ hb)
    rw [List.map_cons, loopLC]
    simp only [fetch, h1, tYesD_e, nx_ok, bind_ok, if_true, h2, ih]
    congr 1
    · rw [List.length_cons, List.range_succ_eq_map, List.map_cons, List.map_map]
      congr 1
      refine List.map_congr_left fun k _ => ?_
      show D.ref _ = D.ref _
      congr 1
      rw [List.length_append, List.length_singleton]
      simp only [Nat.succ_eq_add_one]
      omega
    · rw [List.map_cons, List.append_assoc]
      rfl
theorem sLC_alloc {α : Type} {it : SI} {g : TgD} {e : SE} {vs : List Nat} {ρ : Ev} {st : Sto} (xs : List α) (φ : α → D) (F : α → MO) (hit : it ρ st = .ok (xs.map φ, none) st) (hz : xs.length ≤ sizeLine)
    (h : ∀ a ∈ xs, ∀ st, ∃ ρ1, g (φ a) (wipeD ρ vs) = some ρ1 ∧ e ρ1 st = .ok (.ref st.length) (st ++ [F a])) : sLC false it g tYesD e vs ρ st = .ok (.lst ((List.range xs.length).map fun k => D.ref (st.length + k))) (st ++ xs.map F) := by
  unfold sLC
  rw [hit]
  simp only [bind_ok, List.length_map]
  rw [if_pos hz, lc_alloc xs 0 st h]
  rfl
theorem lc_alloc2 {α : Type} {g : TgD} {e : SE} {ρ0 : Ev} {φ : α → D} {F : α → MO} {n : Nat} {st : Sto} : ∀ (xs : List α) (i : Nat) (ex : Sto), (∀ a ∈ xs, ∀ ex, ∃ ρ1, g (φ a) ρ0 = some ρ1 ∧ e ρ1 (st ++ ex) = .ok (.ref (st ++ ex).length) (st ++ ex ++ [F a])) →
    loopLC none n g tYesD e ρ0 i (xs.map φ) (st ++ ex) = .ok ((List.range xs.length).map fun k => D.ref ((st ++ ex).length + k)) (st ++ ex ++ xs.map F)
  | [], i, ex, h => by simp [loopLC, finOk]
  | a :: xs, i, ex, h => by
    obtain ⟨ρ1, h1, h2⟩ := h a List.mem_cons_self ex
    have ih := lc_alloc2 (g := g) (e := e) (ρ0 := ρ0) (φ := φ) (F := F) (n := n) (st := st) xs (i + 1) (ex ++ [F a]) fun b hb => h b (List.mem_cons_of_mem _ hb)
    rw [← List.append_assoc] at ih
    rw [List.map_cons, loopLC]
    simp only [fetch, h1, tYesD_e, nx_ok, bind_ok, if_true, h2, ih]
    congr 1
    · rw [List.length_cons, List.range_succ_eq_map, List.map_cons, List.map_map]
      congr 1
      refine List.map_congr_left fun k _ => ?_
      show D.ref _ = D.ref _
      congr 1
      rw [List.length_append, List.length_singleton]
      simp only [Nat.succ_eq_add_one]
      omega
    · rw [List.map_cons, List.append_assoc]
      rfl
theorem sLC_alloc2 {α : Type} {it : SI} {g : TgD} {e : SE} {vs : List Nat} {ρ : Ev} {st : Sto} (xs : List α) (φ : α → D) (F : α → MO) (hit : it ρ st = .ok (xs.map φ, none) st) (hz : xs.length ≤ sizeLine)
    (h : ∀ a ∈ xs, ∀ ex, ∃ ρ1, g (φ a) (wipeD ρ vs) = some ρ1 ∧ e ρ1 (st ++ ex) = .ok (.ref (st ++ ex).length) (st ++ ex ++ [F a])) : sLC false it g tYesD e vs ρ st = .ok (.lst ((List.range xs.length).map fun k => D.ref (st.length + k))) (st ++ xs.map F) := by
  unfold sLC
  rw [hit]
  simp only [bind_ok, List.length_map]
  have := lc_alloc2 (n := xs.length) (st := st) xs 0 [] h
  rw [List.append_nil] at this
  rw [if_pos hz, this]
  rfl
/-- the refs of rows that stand from L on -/
abbrev refsL (L n : Nat) : D := .lst ((List.range n).map fun a => D.ref (L + a))
theorem fIx_refs {n a : Nat} {st : Sto} {L : Nat} (h : a < n) : fIx (refsL L n) (.int (a : Int)) st = .ok (.ref (L + a)) st := fIx_rangeL h
theorem fIx_rowG {n a b : Nat} {F : Nat → Nat → D} {st : Sto} (h : a < n) (hb : b < n) : fIx (.ref (st.length + a)) (.int (b : Int)) (st ++ rowsG n F) = .ok (F a b) (st ++ rowsG n F) :=
  fIx_at (items_ref (rowsG_get F st h)) (rowG_get _ hb)
theorem fSetIx_rowG {n a b : Nat} {F : Nat → Nat → D} {st : Sto} {v : D} (h : a < n) (hb : b < n) : fSetIx (.ref (st.length + a)) (.int (b : Int)) v (st ++ rowsG n F) = some (st ++ rowsG n (updG F a b v)) := by
  rw [fSetIx_ref (rowsG_get F st h) (by simpa using hb), rowsG_set F v st h]
/-- the rows, as tuples -/
theorem tup_rowsG {n : Nat} {F : Nat → Nat → D} {st : Sto} {ρ : Ev} {v w : Nat} (hn : n ≤ 1000) (hρ : ρ[v]? = some (some (refsL st.length n))) (hw : w < ρ.length) :
    sLC false (iSeq (sVar v)) (gN w) tYesD (sB bTuple (aCons (sVar w) aNil)) [w] ρ (st ++ rowsG n F) = .ok (.lst ((List.range n).map fun a => D.tup (rowG n (F a)))) (st ++ rowsG n F) := by
  have := sizeLine_eq
  rw [sLC_map (dy := none) (List.range n) (fun a => D.ref (st.length + a)) (fun a => D.tup (rowG n (F a))) (by simp [hρ]) (still_none _ _) (by simp; omega) fun a ha => ⟨_, rfl, by
    have ha := List.mem_range.mp ha
    have e : (ρ.set w (some (D.ref (st.length + a))))[w]? = some (some (D.ref (st.length + a))) := by
      rw [List.getElem?_set_self hw]
    simp [e, bTuple_ref (rowsG_get F st ha)]⟩]
  rfl
theorem range_step {n i : Nat} {x : Nat} {r : List Nat} (h : List.range n = List.range i ++ x :: r) : x = i ∧ i < n ∧ List.range n = List.range (i + 1) ++ r := by
  have hl := congrArg List.length h
  simp at hl
  have hx := congrArg (fun l : List Nat => l[i]?) h
  rw [List.getElem?_append_right (by simp), List.length_range, Nat.sub_self, List.getElem?_cons_zero, List.getElem?_range (by omega)] at hx
  have : x = i := (Option.some.inj hx).symm
  subst this
  refine ⟨rfl, by omega, ?_⟩
  rw [h, List.range_succ, List.append_assoc]
  rfl
theorem range_end {n i : Nat} (h : List.range n = List.range i ++ []) : i = n := by
  have := congrArg List.length h
  simpa using this.symm
theorem fRep_G (n : Nat) (hn : n ≤ 1000) (d : D) (st : Sto) : fRep true (.lst [d]) (.int (n : Int)) st = .ok (.ref st.length) (st ++ [.lst (rowG n fun _ => d)]) := by
  have e : repL [d] n = rowG n fun _ => d := by
    unfold repL rowG
    rw [List.flatten_replicate_singleton]
    apply List.ext_getElem <;> simp
  have z2 := sizeLine_eq
  unfold fRep
  simp only [litems_lst]
  rw [if_pos (by simp; omega), Int.toNat_natCast, e]
  rfl
/-! numbers -/
abbrev intG (f : Nat → Nat → Int) : Nat → Nat → D := fun a b => .int (f a b)
def upd1 (f : Nat → Nat → Int) (i j : Nat) (v : Int) : Nat → Nat → Int := fun a b => if a = i ∧ b = j then v else f a b
theorem updG_int (f : Nat → Nat → Int) (i j : Nat) (v : Int) : updG (intG f) i j (.int v) = intG (upd1 f i j v) := by
  funext a b
  unfold updG intG upd1
  split <;> rfl
theorem noRef_intG (f : Nat → Nat → Int) : ∀ a b m, noRef m (intG f a b) = true := fun _ _ _ => rfl
/-! ### raw tables -/
structure RawF (n : Nat) (top : Int) (f : Nat → Nat → Int) : Prop where
  dg : ∀ a, f a a = 0
  sy : ∀ a b, a < n → b < n → f a b = f b a
  po : ∀ a b, a < n → b < n → a ≠ b → 1 ≤ f a b ∧ f a b ≤ top
structure RawI (i j : Nat) (top : Int) (f : Nat → Nat → Int) : Prop where
  dg : ∀ a, f a a = 0
  sy : ∀ a b, f a b = f b a
  po : ∀ a b, b < a → (a < i ∨ a = i ∧ b < j) → 1 ≤ f a b ∧ f a b ≤ top
theorem RawI.next {i j : Nat} {top v : Int} {f : Nat → Nat → Int} (h : RawI i j top f) (hj : j < i) (h1 : 1 ≤ v) (h2 : v ≤ top) : RawI i (j + 1) top (upd1 (upd1 f i j v) j i v) := by
  refine ⟨fun a => ?_, fun a b => ?_, fun a b hb hab => ?_⟩
  · unfold upd1
    rw [if_neg (by omega), if_neg (by omega)]
    exact h.dg a
  · unfold upd1
    by_cases c1 : a = j ∧ b = i
    · rw [if_pos c1]
      by_cases c2 : b = j ∧ a = i
      · omega
      · rw [if_neg c2, if_pos ⟨c1.2, c1.1⟩]
    · rw [if_neg c1]
      by_cases c2 : a = i ∧ b = j
      · rw [if_pos c2, if_pos ⟨c2.2, c2.1⟩]
      · rw [if_neg c2, if_neg fun q => c2 ⟨q.2, q.1⟩, if_neg fun q => c1 ⟨q.2, q.1⟩]
        exact h.sy a b
  · unfold upd1
    by_cases c1 : a = j ∧ b = i
    · omega
    · rw [if_neg c1]
      by_cases c2 : a = i ∧ b = j
      · rw [if_pos c2]; exact ⟨h1, h2⟩
      · rw [if_neg c2]
        exact h.po a b hb (by omega)
theorem RawI.up {i : Nat} {top : Int} {f : Nat → Nat → Int} (h : RawI i i top f) : RawI (i + 1) 0 top f :=
  ⟨h.dg, h.sy, fun a b hb hab => h.po a b hb (by omega)⟩
theorem RawI.fin {n : Nat} {top : Int} {f : Nat → Nat → Int} (h : RawI n 0 top f) : RawF n top f :=
  ⟨h.dg, fun a b _ _ => h.sy a b, fun a b ha hb hne => by
    by_cases c : b < a
    · exact h.po a b c (by omega)
    · rw [h.sy a b]
      exact h.po b a (by omega) (by omega)⟩
theorem RawF.tab {n : Nat} {top : Int} {f : Nat → Nat → Int} (h : RawF n top f) (n1 : 1 ≤ n) (n7 : n ≤ 7) (ht : top ≤ 1000) : TabP n f where
  n1 := n1
  n7 := n7
  lo := fun i j hi hj => by
    by_cases e : i = j
    · subst e; have := h.dg i; omega
    · have := h.po i j hi hj e; omega
  dg := fun i j hi hj => by
    constructor
    · intro e
      by_cases q : i = j
      · exact q
      · have := h.po i j hi hj q; omega
    · rintro rfl; exact h.dg i
  sy := fun i j hi hj => h.sy i j hi hj
/-! ### the shortest ways -/
/-- through the place m -/
def thr (d : Nat → Nat → Int) (m a b : Nat) : Int := if d a m + d m b < d a b then d a m + d m b else d a b
/-- through the places below m -/
def fw (d : Nat → Nat → Int) : Nat → Nat → Nat → Int
  | 0 => d
  | m + 1 => thr (fw d m) m
theorem thr_le (d : Nat → Nat → Int) (m a b : Nat) : thr d m a b ≤ d a b ∧ thr d m a b ≤ d a m + d m b ∧ (thr d m a b = d a b ∨ thr d m a b = d a m + d m b) := by
  unfold thr
  split
  · exact ⟨by omega, by omega, .inr rfl⟩
  · exact ⟨by omega, by omega, .inl rfl⟩
structure Met (n : Nat) (f : Nat → Nat → Int) : Prop where
  dg : ∀ a, a < n → f a a = 0
  nn : ∀ a b, a < n → b < n → 0 ≤ f a b
theorem Met.thr {n m : Nat} {d : Nat → Nat → Int} (h : Met n d) (hm : m < n) : Met n (thr d m) := by
  refine ⟨fun a ha => ?_, fun a b ha hb => ?_⟩
  · have h1 := h.dg a ha
    have h2 := h.nn a m ha hm
    have h3 := h.nn m a hm ha
    obtain ⟨q1, q2, q3⟩ := thr_le d m a a
    omega
  · have h1 := h.nn a b ha hb
    have h2 := h.nn a m ha hm
    have h3 := h.nn m b hm hb
    obtain ⟨q1, q2, q3⟩ := thr_le d m a b
    omega
theorem Met.fw {n : Nat} {d : Nat → Nat → Int} (h : Met n d) : ∀ m, m ≤ n → Met n (fw d m)
  | 0, _ => h
  | m + 1, hm => (Met.fw h m (by omega)).thr (by omega)
theorem fw_le {n : Nat} {d : Nat → Nat → Int} : ∀ (m a b : Nat), fw d m a b ≤ d a b
  | 0, _, _ => Int.le_refl _
  | m + 1, a, b => Int.le_trans (thr_le (fw d m) m a b).1 (fw_le (n := n) m a b)
theorem fw_sy {n : Nat} {d : Nat → Nat → Int} (h : ∀ a b, a < n → b < n → d a b = d b a) : ∀ m, m ≤ n → ∀ a b, a < n → b < n → fw d m a b = fw d m b a
  | 0, _, a, b, ha, hb => h a b ha hb
  | m + 1, hm, a, b, ha, hb => by
    have ih := fw_sy h m (by omega)
    show thr _ _ _ _ = thr _ _ _ _
    unfold thr
    rw [ih a b ha hb, ih a m ha (by omega), ih m b (by omega) hb, Int.add_comm]
theorem fw_po {n : Nat} {d : Nat → Nat → Int} (hd : Met n d) (h : ∀ a b, a < n → b < n → a ≠ b → 1 ≤ d a b) : ∀ m, m ≤ n → ∀ a b, a < n → b < n → a ≠ b → 1 ≤ fw d m a b
  | 0, _, a, b, ha, hb, e => h a b ha hb e
  | m + 1, hm, a, b, ha, hb, e => by
    have ih := fw_po hd h m (by omega)
    have mt := hd.fw m (by omega)
    have h1 := ih a b ha hb e
    have h2 := mt.nn a m ha (by omega)
    have h3 := mt.nn m b (by omega) hb
    obtain ⟨q1, q2, q3⟩ := thr_le (fw d m) m a b
    show 1 ≤ thr (fw d m) m a b
    rcases q3 with q | q
    · omega
    · by_cases e1 : a = m
      · subst e1
        have := mt.dg a ha
        omega
      · have := ih a m ha (by omega) e1
        omega
theorem fw_tr0 {n : Nat} {d : Nat → Nat → Int} (hd : Met n d) : ∀ m, m ≤ n → ∀ k a b, k < m → a < n → b < n → fw d m a b ≤ fw d m a k + fw d m k b
  | 0, _, k, a, b, hk, _, _ => absurd hk (by omega)
  | m + 1, hm, k, a, b, hk, ha, hb => by
    have ih := fw_tr0 hd m (by omega)
    have mt := hd.fw m (by omega)
    show thr (fw d m) m a b ≤ thr (fw d m) m a k + thr (fw d m) m k b
    obtain ⟨q1, q2, q3⟩ := thr_le (fw d m) m a b
    obtain ⟨r1, r2, r3⟩ := thr_le (fw d m) m a k
    obtain ⟨s1, s2, s3⟩ := thr_le (fw d m) m k b
    have hmn : m < n := by omega
    have hkn : k < n := by omega
    have n1 := mt.nn a m ha hmn
    have n2 := mt.nn m k hmn hkn
    have n3 := mt.nn k m hkn hmn
    have n4 := mt.nn m b hmn hb
    have n5 := mt.dg m hmn
    by_cases e : k = m
    · subst e
      rw [n5] at *
      omega
    · have t1 := ih k a b (by omega) ha hb
      have t2 := ih k m b (by omega) hmn hb
      have t3 := ih k a m (by omega) ha hmn
      omega
theorem fw_tr {n : Nat} {d : Nat → Nat → Int} (hd : Met n d) : Tri n (fw d n) := fun i j k hi hj hk => fw_tr0 hd n (Nat.le_refl _) j i k hj hi hk
theorem fw_id {n : Nat} {d : Nat → Nat → Int} (h : Tri n d) : ∀ m, m ≤ n → ∀ a b, a < n → b < n → fw d m a b = d a b
  | 0, _, a, b, ha, hb => rfl
  | m + 1, hm, a, b, ha, hb => by
    have ih := fw_id h m (by omega)
    show thr (fw d m) m a b = d a b
    have t := h a m b ha (by omega) hb
    unfold thr
    rw [ih a b ha hb, ih a m ha (by omega), ih m b (by omega) hb, if_neg (by omega)]
/-- the greatest below -/
theorem fw_ge {n : Nat} {d g : Nat → Nat → Int} (hg : Tri n g) (h : ∀ a b, a < n → b < n → g a b ≤ d a b) : ∀ m, m ≤ n → ∀ a b, a < n → b < n → g a b ≤ fw d m a b
  | 0, _, a, b, ha, hb => h a b ha hb
  | m + 1, hm, a, b, ha, hb => by
    have ih := fw_ge hg h m (by omega)
    show g a b ≤ thr (fw d m) m a b
    have t := hg a m b ha (by omega) hb
    have i1 := ih a b ha hb
    have i2 := ih a m ha (by omega)
    have i3 := ih m b (by omega) hb
    obtain ⟨q1, q2, q3⟩ := thr_le (fw d m) m a b
    omega
structure Pass (d : Nat → Nat → Int) (n m i j : Nat) (f : Nat → Nat → Int) : Prop where
  at_ : ∀ a b, a < n → b < n → f a b = if a < i ∨ a = i ∧ b < j then thr d m a b else d a b
theorem Pass.im {d f : Nat → Nat → Int} {n m i j : Nat} (hd : Met n d) (hm : m < n) (hi : i < n) (h : Pass d n m i j f) : f i m = d i m := by
  have z := hd.dg m hm
  rw [h.at_ i m hi hm]
  split
  · unfold thr
    rw [z]
    split
    · omega
    · rfl
  · rfl
theorem Pass.mj {d f : Nat → Nat → Int} {n m i j : Nat} (hd : Met n d) (hm : m < n) {b : Nat} (hb : b < n) (h : Pass d n m i j f) : f m b = d m b := by
  have z := hd.dg m hm
  rw [h.at_ m b hm hb]
  split
  · unfold thr
    rw [z]
    split
    · omega
    · rfl
  · rfl
theorem Pass.next {d f : Nat → Nat → Int} {n m i j : Nat} (hd : Met n d) (hm : m < n) (hi : i < n) (hj : j < n) (h : Pass d n m i j f) :
    Pass d n m i (j + 1) (upd1 f i j (if f i m + f m j < f i j then f i m + f m j else f i j)) := by
  have e1 := h.im hd hm hi
  have e2 := h.mj hd hm hj
  have e3 : f i j = d i j := by
    rw [h.at_ i j hi hj, if_neg (by omega)]
  refine ⟨fun a b ha hb => ?_⟩
  unfold upd1
  by_cases c : a = i ∧ b = j
  · obtain ⟨rfl, rfl⟩ := c
    rw [if_pos ⟨rfl, rfl⟩, e1, e2, e3, if_pos (show a < a ∨ a = a ∧ b < b + 1 from .inr ⟨rfl, by omega⟩)]
    rfl
  · rw [if_neg c, h.at_ a b ha hb]
    by_cases c2 : a < i ∨ a = i ∧ b < j
    · rw [if_pos c2, if_pos (by omega)]
    · rw [if_neg c2, if_neg (by omega)]
theorem Pass.up {d f : Nat → Nat → Int} {n m i : Nat} (h : Pass d n m i n f) : Pass d n m (i + 1) 0 f :=
  ⟨fun a b ha hb => by
    rw [h.at_ a b ha hb]
    by_cases c : a < i ∨ a = i ∧ b < n
    · rw [if_pos c, if_pos (by omega)]
    · rw [if_neg c, if_neg (by omega)]⟩
theorem Pass.fin {d f : Nat → Nat → Int} {n m : Nat} (h : Pass d n m n 0 f) : ∀ a b, a < n → b < n → f a b = thr d m a b := fun a b ha hb => by
  rw [h.at_ a b ha hb, if_pos (by omega)]
theorem thr_congr {n : Nat} {d e : Nat → Nat → Int} (h : ∀ a b, a < n → b < n → d a b = e a b) {m : Nat} (hm : m < n) {a b : Nat} (ha : a < n) (hb : b < n) : thr d m a b = thr e m a b := by
  unfold thr
  rw [h a b ha hb, h a m ha hm, h m b hm hb]
/-- rows of numbers, as they are handed in -/
def RowsIn (st : Sto) (n : Nat) (f : Nat → Nat → Int) (x : D) : Prop := ∃ φ : Nat → D, items st x = some ((List.range n).map φ) ∧ dynOf x = none ∧ ∀ a, a < n → ∀ ex, bList true [φ a] (st ++ ex) = .ok (.ref (st ++ ex).length) (st ++ ex ++ [.lst (rowG n (intG f a))])
theorem rowsIn_tab (st : Sto) (n : Nat) (f : Nat → Nat → Int) : RowsIn st n f (tabT n f) := ⟨fun a => rowT n f a, rfl, rfl, fun _ _ _ => rfl⟩
abbrev tabL (n : Nat) (f : Nat → Nat → Int) : D := .lst ((List.range n).map fun a => D.lst (rowG n (intG f a)))
theorem rowsIn_lst (st : Sto) (n : Nat) (f : Nat → Nat → Int) : RowsIn st n f (tabL n f) := ⟨fun a => .lst (rowG n (intG f a)), rfl, rfl, fun _ _ _ => rfl⟩
theorem rowsIn_refs (st : Sto) (n : Nat) (f : Nat → Nat → Int) : RowsIn (st ++ rowsG n (intG f)) n f (refsL st.length n) := ⟨fun a => .ref (st.length + a), rfl, rfl, fun a ha ex => by
  unfold bList
  simp only [items_ref (show ((st ++ rowsG n (intG f)) ++ ex)[st.length + a]? = some (.lst (rowG n (intG f a))) by rw [List.getElem?_append_left (by simp [rowsG_len]; omega)]; exact rowsG_get _ _ ha)]
  rfl⟩
end Lw96
namespace Lw96
open PySem PD
variable {st : Sto}
/-! ### ranges from a on -/
def rng (a b : Nat) : List Nat := (List.range (b - a)).map (a + ·)
theorem mem_rng {a b x : Nat} : x ∈ rng a b ↔ a ≤ x ∧ x < b := by
  unfold rng
  simp only [List.mem_map, List.mem_range]
  constructor
  · rintro ⟨y, h, rfl⟩; omega
  · rintro ⟨h1, h2⟩; exact ⟨x - a, by omega, by omega⟩
theorem rng_len (a b : Nat) : (rng a b).length = b - a := by simp [rng]
theorem iRange2_n {a : SA} {ρ : Ev} {st : Sto} {i n : Nat} (h : a ρ st = .ok [.int (i : Int), .int (n : Int)] st) (hi : i ≤ 1000 := by omega) (hn : n ≤ 1000 := by omega) : iRange2 a ρ st = .ok ((rng i n).map fun i : Nat => D.int (i : Int), none) st := by
  unfold iRange2
  rw [h, bind_ok]
  dsimp only
  rw [if_pos (by omega)]
  have e : ((n : Int) - (i : Int)).toNat = n - i := by omega
  rw [e]
  unfold rangeL rng
  rw [List.map_map]
  congr 2
end Lw96
namespace Lw96
open PySem PD
variable {st : Sto}
theorem rng_step {a n x : Nat} {q r : List Nat} (h : rng a n = q ++ x :: r) : x = a + q.length ∧ x < n := by
  have hl := congrArg List.length h
  rw [rng_len, List.length_append, List.length_cons] at hl
  have hx := congrArg (fun l : List Nat => l[q.length]?) h
  unfold rng at hx
  simp only [List.getElem?_map] at hx
  rw [List.getElem?_append_right (Nat.le_refl _), Nat.sub_self, List.getElem?_cons_zero, List.getElem?_range (by omega)] at hx
  have : a + q.length = x := Option.some.inj hx
  omega
theorem rng_end {a n : Nat} {q : List Nat} (h : rng a n = q ++ []) : a + q.length = a + (n - a) := by
  have := congrArg List.length h
  rw [List.append_nil, rng_len] at this
  omega
theorem closed_t (hw : WF st) {n : Nat} (hn : n ≤ 1000) {f : Nat → Nat → Int} (hf : Met n f) : F_law_closed [tabT n f] st = .ok (tabT n (fw f n)) st := by
  have z2 := sizeLine_eq
  have body : b_law_closed (startD 7 [tabT n f]) st = some (.rt (tabT n (fw f n)), st ++ rowsG n (intG (fw f n))) := by
    have h0 : (startD 7 [tabT n f])[0]? = some (some (tabT n f)) := rfl
    have hl : (startD 7 [tabT n f]).length = 7 := rfl
    generalize startD 7 [tabT n f] = ρ at h0 hl
    unfold b_law_closed
    rw [qSeq_e, qPar_e, aCons_e]
    rw [sLC_alloc2 (List.range n) (fun a => rowT n f a) (fun a => .lst (rowG n (intG f a))) (by simp_arith! [iSeq_e, h0]) (by simp; omega) fun a ha ex => ⟨_, rfl, by
      simp_arith! [hl]
      rfl⟩]
    rw [show ((List.range n).map fun a => MO.lst (rowG n (intG f a))) = rowsG n (intG f) from rfl]
    simp_arith! [h0, List.length_range, hl]
    rw [iRange_n (n := n) (by simp_arith! [hl, List.length_range])]
    simp_arith! []
    generalize hL : loopFor _ _ _ _ _ _ _ _ = R
    obtain ⟨ρ', st', rfl, m, hd, kl, k1, k2, rfl⟩ := for_all_e hL (List.range n) (fun i : Nat => D.int (i : Int)) rfl (by simp) (fun r ρ st' => ∃ m, List.range n = List.range m ++ r ∧ ρ.length = 7 ∧ ρ[1]? = some (some (refsL st.length n)) ∧ ρ[2]? = some (some (.int (n : Int))) ∧ st' = st ++ rowsG n (intG (fw f m))) (fun _ _ _ _ => still_none _ _) ⟨0, by simp, by simp_arith! [hl], by simp_arith! [hl], by simp_arith! [hl], rfl⟩ (by
      rintro m r ρ st' ⟨m', hd, kl, k1, k2, rfl⟩
      obtain ⟨rfl, hm, hd⟩ := range_step hd
      have mt := hf.fw m (by omega)
      refine ⟨_, rfl, ?_⟩
      generalize hM : qFor _ _ _ _ _ = R2
      rw [qFor_e, iRange_n (n := n) (by simp_arith! [kl, k2])] at hM
      simp_arith! [] at hM
      obtain ⟨ρ', st', rfl, i, f2, hd2, hf2, jl, j1, j2, j3, rfl⟩ := for_all_e hM (List.range n) (fun i : Nat => D.int (i : Int)) rfl (by simp) (fun r ρ st' => ∃ i f2, List.range n = List.range i ++ r ∧ Pass (fw f m) n m i 0 f2 ∧ ρ.length = 7 ∧ ρ[1]? = some (some (refsL st.length n)) ∧ ρ[2]? = some (some (.int (n : Int))) ∧ ρ[3]? = some (some (.int (m : Int))) ∧ st' = st ++ rowsG n (intG f2)) (fun _ _ _ _ => still_none _ _) ⟨0, fw f m, by simp, ⟨fun a b ha hb => by rw [if_neg (by omega)]⟩, by simp_arith! [kl], by simp_arith! [k1], by simp_arith! [k2], by simp_arith! [kl], rfl⟩ (by
        rintro i r2 ρ st' ⟨i', f2, hd2, hf2, jl, j1, j2, j3, rfl⟩
        obtain ⟨rfl, hi, hd2⟩ := range_step hd2
        refine ⟨_, rfl, ?_⟩
        generalize hN : qFor _ _ _ _ _ = R3
        rw [qFor_e, iRange_n (n := n) (by simp_arith! [jl, j2])] at hN
        simp_arith! [] at hN
        obtain ⟨ρ', st', rfl, j, f3, hd3, hf3, il, i1, i2, i3, i4, rfl⟩ := for_all_e hN (List.range n) (fun i : Nat => D.int (i : Int)) rfl (by simp) (fun r ρ st' => ∃ j f3, List.range n = List.range j ++ r ∧ Pass (fw f m) n m i j f3 ∧ ρ.length = 7 ∧ ρ[1]? = some (some (refsL st.length n)) ∧ ρ[2]? = some (some (.int (n : Int))) ∧ ρ[3]? = some (some (.int (m : Int))) ∧ ρ[4]? = some (some (.int (i : Int))) ∧ st' = st ++ rowsG n (intG f3)) (fun _ _ _ _ => still_none _ _) ⟨0, f2, by simp, hf2, by simp_arith! [jl], by simp_arith! [j1], by simp_arith! [j2], by simp_arith! [j3], by simp_arith! [jl], rfl⟩ (by
          rintro j r3 ρ st' ⟨j', f3, hd3, hf3, il, i1, i2, i3, i4, rfl⟩
          obtain ⟨rfl, hj, hd3⟩ := range_step hd3
          refine ⟨_, rfl, ρ.set 5 (some (.int (j : Int))), st ++ rowsG n (intG (upd1 f3 i j (if f3 i m + f3 m j < f3 i j then f3 i m + f3 m j else f3 i j))), .inl ?_, j + 1, _, hd3, hf3.next mt hm hi hj, by simp_arith! [il], by simp_arith! [i1], by simp_arith! [i2], by simp_arith! [i3], by simp_arith! [i4], rfl⟩
          simp_arith! [il, i1, i2, i3, i4, fIx_refs hi, fIx_refs hm, fIx_rowG hi hj, fIx_rowG hi hm, fIx_rowG hm hj, fSetIx_rowG hi hj, updG_int])
        have := range_end hd3
        subst this
        exact ⟨_, _, .inl rfl, i + 1, f3, hd2, hf3.up, il, i1, i2, i3, rfl⟩)
      have := range_end hd2
      subst this
      refine ⟨_, _, .inl rfl, m + 1, hd, jl, j1, j2, ?_⟩
      rw [rowsG_congr (F := intG f2) (G := intG (fw f (m + 1))) fun a b ha hb => by
        show D.int _ = D.int _
        rw [hf2.fin a b ha hb]
        rfl])
    have := range_end hd
    subst this
    simp_arith! []
    rw [tup_rowsG (by omega) k1 (by rw [kl]; decide)]
    simp_arith! []
  exact defFin_rt body rfl hw (fz_tabT 58 _ _ _ _)

/-! ### a table from the numbers of its pairs -/
def cnt (n : Nat) : Nat → Nat
  | 0 => 0
  | a + 1 => cnt n a + (n - (a + 1))
theorem cnt_mono (n : Nat) : ∀ (a b : Nat), a ≤ b → cnt n a ≤ cnt n b
  | a, b, h => by
    induction b with
    | zero => rw [show a = 0 by omega]; exact Nat.le_refl _
    | succ b ih =>
      by_cases e : a = b + 1
      · rw [e]; exact Nat.le_refl _
      · have := ih (by omega)
        show cnt n a ≤ cnt n b + (n - (b + 1))
        omega
/-- filled so far: all rows before i, of row i the places before j -/
structure OfP (n : Nat) (g : Nat → Int) (i j : Nat) (f : Nat → Nat → Int) : Prop where
  dg : ∀ a, f a a = 0
  sy : ∀ a b, f a b = f b a
  at_ : ∀ a b, a < b → b < n → (a < i ∨ a = i ∧ b < j) → f a b = g (cnt n a + (b - a - 1))
theorem OfP.next {n i j : Nat} {g : Nat → Int} {f : Nat → Nat → Int} (h : OfP n g i j f) (hj : i < j) : OfP n g i (j + 1) (upd1 (upd1 f i j (g (cnt n i + (j - i - 1)))) j i (g (cnt n i + (j - i - 1)))) := by
  refine ⟨fun a => ?_, fun a b => ?_, fun a b hb hbn hab => ?_⟩
  · unfold upd1
    rw [if_neg (by omega), if_neg (by omega)]
    exact h.dg a
  · unfold upd1
    by_cases c1 : a = j ∧ b = i
    · rw [if_pos c1]
      by_cases c2 : b = j ∧ a = i
      · omega
      · rw [if_neg c2, if_pos ⟨c1.2, c1.1⟩]
    · rw [if_neg c1]
      by_cases c2 : a = i ∧ b = j
      · rw [if_pos c2, if_pos ⟨c2.2, c2.1⟩]
      · rw [if_neg c2, if_neg fun q => c2 ⟨q.2, q.1⟩, if_neg fun q => c1 ⟨q.2, q.1⟩]
        exact h.sy a b
  · unfold upd1
    by_cases c1 : a = j ∧ b = i
    · omega
    · rw [if_neg c1]
      by_cases c2 : a = i ∧ b = j
      · rw [if_pos c2, c2.1, c2.2]
      · rw [if_neg c2]
        exact h.at_ a b hb hbn (by omega)
/-- the numbers stand in x -/
def NumsIn (st : Sto) (x : D) (m : Nat) (g : Nat → Int) : Prop := ∀ k, k < m → ∀ ex, fIx x (.int (k : Int)) (st ++ ex) = .ok (.int (g k)) (st ++ ex)
theorem of_pairs_t (hw : WF st) {n m : Nat} (hn : n ≤ 7) {x : D} {g : Nat → Int} (hx : NumsIn st x m g) (hm : cnt n n ≤ m) :
    ∃ f, OfP n g n 0 f ∧ F_law_of_pairs [.int (n : Int), x] st = .ok (tabT n f) st := by
  have z2 := sizeLine_eq
  have body : ∃ f, OfP n g n 0 f ∧ b_law_of_pairs (startD 8 [.int (n : Int), x]) st = some (.rt (tabT n f), st ++ rowsG n (intG f)) := by
    have h0 : (startD 8 [.int (n : Int), x])[0]? = some (some (.int (n : Int))) := rfl
    have h1 : (startD 8 [.int (n : Int), x])[1]? = some (some x) := rfl
    have hl : (startD 8 [.int (n : Int), x]).length = 8 := rfl
    generalize startD 8 [.int (n : Int), x] = ρ at h0 h1 hl
    unfold b_law_of_pairs
    rw [qSeq_e, qPar_e, aCons_e]
    rw [sLC_alloc (List.range n) (fun i : Nat => D.int (i : Int)) (fun _ => .lst (rowG n fun _ => .int 0)) (iRange_n (by simp_arith! [h0])) (by simp; omega) fun a _ st => ⟨_, rfl, by
      simp_arith! [hl, h0, fRep_G n (by omega)]⟩]
    rw [show ((List.range n).map fun _ => MO.lst (rowG n fun _ => D.int 0)) = rowsG n (intG fun _ _ => 0) from rfl]
    simp_arith! [List.length_range, hl]
    rw [iRange_n (n := n) (by simp_arith! [hl, h0])]
    simp_arith! []
    generalize hL : loopFor _ _ _ _ _ _ _ _ = R
    obtain ⟨ρ', st', rfl, i, f, hd, hf, kl, k0, k1, k2, k3, rfl⟩ := for_all_e hL (List.range n) (fun i : Nat => D.int (i : Int)) rfl (by simp) (fun r ρ st' => ∃ i f, List.range n = List.range i ++ r ∧ OfP n g i 0 f ∧ ρ.length = 8 ∧ ρ[0]? = some (some (.int (n : Int))) ∧ ρ[1]? = some (some x) ∧ ρ[2]? = some (some (refsL st.length n)) ∧ ρ[3]? = some (some (.int (cnt n i : Int))) ∧ st' = st ++ rowsG n (intG f)) (fun _ _ _ _ => still_none _ _) ⟨0, fun _ _ => 0, by simp, ⟨fun _ => rfl, fun _ _ => rfl, fun a b hb hbn hi => by omega⟩, by simp_arith! [hl], by simp_arith! [h0], by simp_arith! [h1], by simp_arith! [hl], by simp_arith! [hl]; rfl, rfl⟩ (by
      rintro y r ρ st' ⟨i, f, hd, hf, kl, k0, k1, k2, k3, rfl⟩
      obtain ⟨rfl, hi, hd⟩ := range_step hd
      refine ⟨_, rfl, ?_⟩
      generalize hM : qFor _ _ _ _ _ = R2
      rw [qFor_e, iRange2_n (i := y + 1) (n := n) (by simp_arith! [kl, k0, Int.natCast_add]; rfl)] at hM
      simp_arith! [] at hM
      obtain ⟨ρ', st', rfl, q, f2, hd2, hf2, jl, j0, j1, j2, j3, j4, rfl⟩ := for_all_e hM (rng (y + 1) n) (fun i : Nat => D.int (i : Int)) rfl (by simp) (fun r ρ st' => ∃ q f, rng (y + 1) n = q ++ r ∧ OfP n g y (y + 1 + q.length) f ∧ ρ.length = 8 ∧ ρ[0]? = some (some (.int (n : Int))) ∧ ρ[1]? = some (some x) ∧ ρ[2]? = some (some (refsL st.length n)) ∧ ρ[3]? = some (some (.int ((cnt n y + q.length : Nat) : Int))) ∧ ρ[4]? = some (some (.int (y : Int))) ∧ st' = st ++ rowsG n (intG f)) (fun _ _ _ _ => still_none _ _) ⟨[], f, rfl, ⟨hf.dg, hf.sy, fun a b hab hbn h => hf.at_ a b hab hbn (by simp at h; omega)⟩, by simp_arith! [kl], by simp_arith! [k0], by simp_arith! [k1], by simp_arith! [k2], by simp_arith! [k3]; rfl, by simp_arith! [kl], rfl⟩ (by
        rintro z r2 ρ st' ⟨q, f2, hd2, hf2, jl, j0, j1, j2, j3, j4, rfl⟩
        obtain ⟨ez, hz⟩ := rng_step hd2
        rw [← ez] at hf2
        have hlen := congrArg List.length hd2
        rw [rng_len, List.length_append, List.length_cons] at hlen
        have cm := cnt_mono n (y + 1) n (by omega)
        have cm2 : cnt n (y + 1) = cnt n y + (n - (y + 1)) := rfl
        have e1 := hx (cnt n y + q.length) (by omega) (rowsG n (intG f2))
        have eix : cnt n y + q.length = cnt n y + (z - y - 1) := by omega
        refine ⟨_, rfl, (ρ.set 5 (some (.int (z : Int)))).set 3 (some (.int ((cnt n y + q.length : Nat) + 1 : Int))), st ++ rowsG n (intG (upd1 (upd1 f2 y z (g (cnt n y + (z - y - 1)))) z y (g (cnt n y + (z - y - 1))))), .inl ?_, q ++ [z], _, by rw [hd2]; simp, by
          have := hf2.next (by omega)
          rw [List.length_append, List.length_singleton, ← Nat.add_assoc, ← ez]
          exact this, by simp_arith! [jl], by simp_arith! [j0], by simp_arith! [j1], by simp_arith! [j2], by simp_arith! [jl]; rw [List.length_append, List.length_singleton]; rfl, by simp_arith! [j4], rfl⟩
        rw [← eix]
        simp_arith! [jl, j0, j1, j2, j3, j4, e1, fIx_refs hi, fIx_refs hz, fSetIx_rowG hi hz, fSetIx_rowG hz hi, updG_int])
      have e := rng_end hd2
      refine ⟨_, _, .inl rfl, y + 1, f2, hd, ⟨hf2.dg, hf2.sy, fun a b hab hbn h => hf2.at_ a b hab hbn (by omega)⟩, jl, j0, j1, j2, ?_, rfl⟩
      rw [j3, show cnt n (y + 1) = cnt n y + q.length from by show cnt n y + (n - (y + 1)) = _; omega])
    have := range_end hd
    subst this
    refine ⟨f, hf, ?_⟩
    simp_arith! []
    rw [tup_rowsG (by omega) k2 (by rw [kl]; decide)]
    simp_arith! []
  obtain ⟨f, h1, h2⟩ := body
  exact ⟨f, h1, defFin_rt h2 rfl hw (fz_tabT 58 _ _ _ _)⟩
theorem numsIn_lst (st : Sto) (ns : List Int) : NumsIn st (.lst (ns.map D.int)) ns.length (fun k => ns.getD k 0) := fun k hk ex => by
  refine fIx_at (x := .lst (ns.map D.int)) rfl ?_
  show _ = some (D.int (ns.getD k 0))
  rw [List.getElem?_map, List.getElem?_eq_getElem hk, List.getD_eq_getElem?_getD, List.getElem?_eq_getElem hk]
  rfl
theorem cnt_sq {n : Nat} (h : n ≤ 7) : cnt n n ≤ n * n := by
  have : (List.range 8).all (fun n => decide (cnt n n ≤ n * n)) = true := by decide
  exact of_decide_eq_true (List.all_eq_true.mp this n (List.mem_range.mpr (by omega)))
theorem cnt_lt {n a b : Nat} (h : n ≤ 7) (hab : a < b) (hb : b < n) : cnt n a + (b - a - 1) < cnt n n := by
  have c1 := cnt_mono n (a + 1) n (by omega)
  have c2 : cnt n (a + 1) = cnt n a + (n - (a + 1)) := rfl
  omega
theorem OfP.raw {n : Nat} {g : Nat → Int} {f : Nat → Nat → Int} (hn : n ≤ 7) (h : OfP n g n 0 f) {top : Int} (hg : ∀ k, k < cnt n n → 1 ≤ g k ∧ g k ≤ top) : RawF n top f where
  dg := h.dg
  sy := fun a b _ _ => h.sy a b
  po := fun a b ha hb hne => by
    by_cases c : a < b
    · rw [h.at_ a b c hb (by omega)]; exact hg _ (cnt_lt hn c hb)
    · rw [h.sy a b, h.at_ b a (by omega) ha (by omega)]; exact hg _ (cnt_lt hn (by omega) ha)
/-- the numbers that a comprehension draws -/
theorem draws_t {o : MO} {rest : Sto} (hw : WF (o :: rest)) (ho : HandO o) {m : Nat} {top : Int} (h0 : 0 < top) (h1 : top < 1000000) {it : SI} {v : Nat} {ρ : Ev} {e : SE} (hit : it ρ (o :: rest) = .ok ((List.range m).map fun i : Nat => D.int (i : Int), none) (o :: rest)) (hm : m ≤ 1000) (he : ∀ x (o : MO), e ((wipeD ρ [v]).set v x) (o :: rest) = (F_law_draw [.ref 0, .int top] (o :: rest)).bind fun d st => fAdd (.int 1) d st) :
    ∃ (o' : MO) (ns : List Int), HandO o' ∧ (∀ i ∈ ns, 1 ≤ i ∧ i ≤ top) ∧ ns.length = m ∧ sLC false it (gN v) tYesD e [v] ρ (o :: rest) = .ok (.lst (ns.map D.int)) (o' :: rest) := by
  have z2 := sizeLine_eq
  obtain ⟨ns, st', e1, ⟨o', ho', rfl⟩, l1, p1⟩ := sLC_inv (st := o :: rest) (st0 := o :: rest) (g := gN v) (e := e) (vs := [v]) (ρ := ρ) (List.range m) (fun i : Nat => D.int (i : Int)) D.int (fun st' => ∃ o, HandO o ∧ st' = o :: rest) (fun _ i => 1 ≤ i ∧ i ≤ top) hit (by simp; omega) ⟨o, ho, rfl⟩ (by
    rintro a ha st' ⟨o2, ho2, rfl⟩
    obtain ⟨o3, d, ho3, d0, d1, ed⟩ := draw_t (wf_hand hw ho2) ho2 h0 (by omega)
    refine ⟨_, rfl, 1 + d, o3 :: rest, ?_, ⟨o3, ho3, rfl⟩, by omega, by omega⟩
    rw [he, ed]
    rfl)
  rw [List.length_range] at l1
  refine ⟨o', ns, ho', fun i hi => ?_, l1, e1⟩
  obtain ⟨k, hk, rfl⟩ := List.mem_iff_getElem.mp hi
  exact p1 ((List.range m)[k]'(by simp; omega), ns[k]) (by
    rw [List.mem_iff_getElem]
    exact ⟨k, by simp; omega, by simp⟩)
theorem any_table_t {o : MO} {rest : Sto} (hw : WF (o :: rest)) (ho : HandO o) {n : Nat} (hn : n ≤ 7) {top : Int} (h0 : 0 < top) (h1 : top < 1000000) :
    ∃ o' f, HandO o' ∧ RawF n top f ∧ F_law_any_table [.ref 0, .int (n : Int), .int top] (o :: rest) = .ok (tabT n f) (o' :: rest) := by
  have z2 := sizeLine_eq
  have nn : n * n ≤ 49 := Nat.mul_le_mul hn hn
  have sm : fMul (.int (n : Int)) (.int (n : Int)) (o :: rest) = .ok (.int ((n * n : Nat) : Int)) (o :: rest) := by
    rw [fMul_i (.inl (small_c (by omega) (by omega))), Int.natCast_mul]
  have body : ∃ o' f, HandO o' ∧ RawF n top f ∧ b_law_any_table (startD 4 [.ref 0, .int (n : Int), .int top]) (o :: rest) = some (.rt (tabT n f), o' :: rest) := by
    have k0 : (startD 4 [.ref 0, .int (n : Int), .int top])[0]? = some (some (.ref 0)) := rfl
    have k1 : (startD 4 [.ref 0, .int (n : Int), .int top])[1]? = some (some (.int (n : Int))) := rfl
    have k2 : (startD 4 [.ref 0, .int (n : Int), .int top])[2]? = some (some (.int top)) := rfl
    have hl : (startD 4 [.ref 0, .int (n : Int), .int top]).length = 4 := rfl
    generalize startD 4 [.ref 0, .int (n : Int), .int top] = ρ at k0 k1 k2 hl
    unfold b_law_any_table
    obtain ⟨o', ns, ho', hns, hlen, e⟩ := draws_t (v := 3) (ρ := ρ) (m := n * n) (it := iRange1 (aCons (s2 fMul (sVar 1) (sVar 1)) aNil)) (e := s2 fAdd (sC (.int 1)) (sCall 2 F_law_draw (aCons (sVar 0) (aCons (sVar 2) aNil)))) hw ho h0 h1 (iRange_n (by simp_arith! [k1, sm])) (by omega) (fun x o => by simp_arith! [k0, k2])
    obtain ⟨f, hf, ef⟩ := of_pairs_t (wf_hand hw ho') (n := n) hn (numsIn_lst (o' :: rest) ns) (by have := cnt_sq hn; omega)
    refine ⟨o', f, ho', hf.raw hn fun k hk => ?_, ?_⟩
    · have hk2 : k < ns.length := by have := cnt_sq hn; omega
      rw [List.getD_eq_getElem?_getD, List.getElem?_eq_getElem hk2]
      exact hns _ (List.getElem_mem hk2)
    · simp only [qRet_e, sCall_e, aCons_e, sVar_e, k1, bind_ok]
      rw [e]
      simp_arith! [k1, ef]
  obtain ⟨o', f, h2, h3, h4⟩ := body
  exact ⟨o', f, h2, h3, defFin_rt (ex := []) (by rw [List.append_nil]; exact h4) rfl (wf_hand hw h2) (by rw [List.append_nil]; exact fz_tabT 58 _ _ _ _)⟩
end Lw96
namespace Lw96
open PySem PD
variable {st : Sto}
/-! ### lots -/
theorem fAdd_lst3 {xs ys : List D} {st : Sto} (h : xs.length + ys.length ≤ 16777216) : fAdd (.lst xs) (.lst ys) st = .ok (.lst (xs ++ ys)) st := by
  have z2 := sizeLine_eq
  unfold fAdd
  simp only [litems_lst]
  rw [if_pos (by omega)]
def keyN (lot : List Nat) : List (List Int) := lot.map fun m : Nat => [1, (m : Int)]
def sortL (l : List (List Nat)) : List (List Nat) := sortZ (l.map keyN) l
theorem iKey_nats (l : List Nat) : iKey (nats l) = some (keyN l) := by
  unfold iKey nats keyN
  simp only [List.map_map]
  exact allSome_map fun m _ => rfl
theorem compat_keyN : ∀ a b : List Nat, compat (keyN a) (keyN b) = true
  | [], _ => by unfold keyN compat; rfl
  | _ :: _, [] => by unfold keyN compat; rfl
  | x :: a, y :: b => by
    have ih := compat_keyN a b
    unfold keyN at ih ⊢
    rw [List.map_cons, List.map_cons, compat, ih]
    rfl
theorem sorted_lots {st : Sto} {x : D} {l : List (List Nat)} (hx : litems st x = some (l.map nats)) (h : l.length < 2 ∨ ∀ y ∈ l, y ≠ []) : bSorted false [x] st = .ok (.lst ((sortL l).map nats)) st := by
  unfold bSorted
  simp only [hx]
  cases l with
  | nil => rfl
  | cons a l =>
    have e1 : allSome (((a :: l).map nats).map iiKey) = none := rfl
    have e2 : allSome (((a :: l).map nats).map iKey) = some ((a :: l).map keyN) := by
      rw [List.map_map]
      exact allSome_map fun m _ => iKey_nats m
    rw [e1]
    simp only [e2]
    rw [if_pos]
    · rw [newL_f, sortZ_map]
      rfl
    · rcases h with h | h
      · exact .inl (by simpa using h)
      · right
        unfold compats
        refine List.all_eq_true.mpr fun k hk => ?_
        obtain ⟨y, hy, rfl⟩ := List.mem_map.mp hk
        refine Bool.and_eq_true_iff.mpr ⟨?_, List.all_eq_true.mpr fun k2 hk2 => ?_⟩
        · have := h y hy
          cases y with
          | nil => exact absurd rfl this
          | cons p q => rfl
        · obtain ⟨z, _, rfl⟩ := List.mem_map.mp hk2
          exact compat_keyN y z
theorem fz_lots (f : Nat) (l : List (List Nat)) : Fz (f + 2) (.lst (l.map nats)) := fz_mapL _ _ _ fun w _ => fz_nats f w
end Lw96
namespace Lw96
open PySem PD
variable {st : Sto}
/-! ### two lists at the store's end -/
section
variable (S : Sto) (A B A' B' : MO)
theorem two_0 : (S ++ [A, B])[S.length]? = some A := by
  rw [List.getElem?_append_right (Nat.le_refl _), Nat.sub_self]
  rfl
theorem two_1 : (S ++ [A, B])[S.length + 1]? = some B := by
  rw [List.getElem?_append_right (by omega), show S.length + 1 - S.length = 1 by omega]
  rfl
theorem two_s0 : (S ++ [A, B]).set S.length A' = S ++ [A', B] := by
  rw [List.set_append_right (h := Nat.le_refl _), Nat.sub_self]
  rfl
theorem two_s1 : (S ++ [A, B]).set (S.length + 1) B' = S ++ [A, B'] := by
  rw [List.set_append_right (h := by omega), show S.length + 1 - S.length = 1 by omega]
  rfl
end
theorem fPopAt_e {l : Nat} {i : Nat} {xs : List D} {d : D} (h : st[l]? = some (.lst xs)) (hi : xs[i]? = some d) (hz : i < 1000000) : fPopAt (.ref l) (.int (i : Int)) st = .ok d (st.set l (.lst (xs.eraseIdx i))) := by
  unfold fPopAt
  have c : (0 : Int) ≤ (i : Int) ∧ (i : Int) < 1000000 := by omega
  simp only [h, if_pos c, Int.toNat_natCast, hi]
/-! ### mixed -/
theorem while_succ (t : ST) (b : SS) (f : Nat) (ρ : Ev) (st : Sto) : loopWhile t b (f + 1) ρ st = (t ρ st).st ρ fun c st => if c = true then (match b ρ st with
      | some (.nx ρ2, st2) => loopWhile t b f ρ2 st2
      | some (.ct ρ2, st2) => loopWhile t b f ρ2 st2
      | some (.bk ρ2, st2) => some (.nx ρ2, st2)
      | r => r) else some (.nx ρ, st) := id rfl
theorem perm_erase {α : Type} : ∀ (l : List α) (i : Nat) (a : α), l[i]? = some a → (a :: l.eraseIdx i).Perm l
  | [], i, a, h => by simp at h
  | x :: l, 0, a, h => by
    simp at h
    subst h
    exact .refl _
  | x :: l, i + 1, a, h => by
    have ih := perm_erase l i a (by simpa using h)
    exact (List.Perm.swap x a _).trans (ih.cons x)
theorem mixed_loop {rest : Sto} {ρ : Ev} {f : Nat} (k0 : ρ[0]? = some (some (.ref 0))) (k2 : ρ[2]? = some (some (.ref (rest.length + 1)))) (k3 : ρ[3]? = some (some (.ref (rest.length + 2)))) : ∀ (m : Nat) (left found : List D) (o : MO) (fuel : Nat), left.length = m → m < fuel → left.length + found.length ≤ 1000 → HandO o → WF (o :: rest) → (∀ d ∈ left ++ found, ∀ n, noRef n d = true) →
    ∃ o' ys, HandO o' ∧ ys.Perm (left ++ found) ∧ loopWhile (tBl (s2 fGt (sB bLen (aCons (sVar 2) aNil)) (sC (.int 0)))) (qExpr (sM fAppend (sVar 3) (sM fPopAt (sVar 2) (sCall 2 F_law_draw (aCons (sVar 0) (aCons (sB bLen (aCons (sVar 2) aNil)) aNil)))))) fuel ρ ((o :: rest) ++ [.lst left, .lst found]) = some (.nx ρ, (o' :: rest) ++ [.lst [], .lst ys])
  | 0, left, found, o, fuel, hm, hf, hs, ho, hw, hx => by
    obtain ⟨fuel, rfl⟩ : ∃ g, fuel = g + 1 := ⟨fuel - 1, by omega⟩
    have e : left = [] := List.length_eq_zero_iff.mp hm
    subst e
    refine ⟨o, found, ho, .refl _, ?_⟩
    have g0 := two_0 (o :: rest) (.lst []) (.lst found)
    rw [List.length_cons] at g0
    rw [while_succ]
    have bl := bLen_ref g0
    simp_arith! [k2, bl]
    rfl
  | m + 1, left, found, o, fuel, hm, hf, hs, ho, hw, hx => by
    have z2 := sizeLine_eq
    obtain ⟨fuel, rfl⟩ : ∃ g, fuel = g + 1 := ⟨fuel - 1, by omega⟩
    have g0 := fun o => two_0 (o :: rest) (.lst left) (.lst found)
    simp only [List.length_cons] at g0
    have wz : WF ((o :: rest) ++ [.lst left, .lst found]) := wf_append hw fun o2 ho2 n => by
      simp only [List.mem_cons, List.not_mem_nil, or_false] at ho2
      rcases ho2 with rfl | rfl
      · exact noRefs_all fun d hd => hx d (List.mem_append_left _ hd) n
      · exact noRefs_all fun d hd => hx d (List.mem_append_right _ hd) n
    have wy : WF (o :: (rest ++ [.lst left, .lst found])) := wz
    obtain ⟨o1, d, ho1, hd, e1⟩ := draw_n (m := left.length) wy ho (by omega) (by omega)
    have e1 : F_law_draw [.ref 0, .int (left.length : Int)] ((o :: rest) ++ [.lst left, .lst found]) = .ok (.int (d : Int)) ((o1 :: rest) ++ [.lst left, .lst found]) := e1
    have hw1 := wf_hand hw ho1
    have ed : left[d]? = some left[d] := List.getElem?_eq_getElem hd
    have po := fPopAt_e (st := (o1 :: rest) ++ [.lst left, .lst found]) (l := rest.length + 1) (g0 o1) ed (by omega)
    have s0 := two_s0 (o1 :: rest) (.lst left) (.lst found) (.lst (left.eraseIdx d))
    rw [List.length_cons] at s0
    rw [s0] at po
    have g1 := two_1 (o1 :: rest) (.lst (left.eraseIdx d)) (.lst found)
    have s1 := two_s1 (o1 :: rest) (.lst (left.eraseIdx d)) (.lst found) (.lst (found ++ [left[d]]))
    rw [List.length_cons] at g1 s1
    have ap := fAppend_ref (st := (o1 :: rest) ++ [.lst (left.eraseIdx d), .lst found]) (l := rest.length + 2) (xs := found) (y := left[d]) g1 (by omega)
    rw [s1] at ap
    have le := List.length_eraseIdx_of_lt hd
    have pe := perm_erase left d left[d] ed
    obtain ⟨o', ys, ho', hp, e⟩ := mixed_loop (f := f) k0 k2 k3 m (left.eraseIdx d) (found ++ [left[d]]) o1 fuel (by omega) (by omega) (by rw [le, List.length_append, List.length_singleton]; omega) ho1 hw1 fun x hx2 n => hx x (by
      rcases List.mem_append.mp hx2 with h | h
      · exact List.mem_append_left _ (List.mem_of_mem_eraseIdx h)
      · rcases List.mem_append.mp h with h | h
        · exact List.mem_append_right _ h
        · rw [List.mem_singleton.mp h]; exact List.mem_append_left _ (List.getElem_mem hd)) n
    refine ⟨o', ys, ho', hp.trans ?_, ?_⟩
    · have p1 : (left.eraseIdx d ++ (found ++ [left[d]])).Perm (left[d] :: (left.eraseIdx d ++ found)) := by
        rw [← List.append_assoc]
        exact List.perm_append_singleton _ _
      exact p1.trans (pe.append_right found)
    · rw [while_succ]
      have bl := fun o => bLen_ref (g0 o)
      have c : decide ((0 : Int) < (left.length : Int)) = true := decide_eq_true (by omega)
      have l1 := litems_ref (st := (o :: rest) ++ [.lst left, .lst found]) (g0 o)
      have g1' := two_1 (o :: rest) (.lst left) (.lst found)
      rw [List.length_cons] at g1'
      have l2 := litems_ref (st := (o :: rest) ++ [.lst left, .lst found]) g1'
      simp_arith! [k0, k2, k3, bl, c, l1, l2, e1, po, ap]
      exact e
theorem mixed_t {o : MO} {rest : Sto} (hw : WF (o :: rest)) (ho : HandO o) (xs : List D) (hl : xs.length ≤ 900) (hx : ∀ d ∈ xs, ∀ n, noRef n d = true) (hf : ∀ d ∈ xs, Fz 59 d) :
    ∃ o' ys, HandO o' ∧ ys.Perm xs ∧ F_law_mixed [.ref 0, .lst xs] (o :: rest) = .ok (.lst ys) (o' :: rest) := by
  have h0 : (startD 4 [.ref 0, .lst xs])[0]? = some (some (.ref 0)) := rfl
  have h1 : (startD 4 [.ref 0, .lst xs])[1]? = some (some (.lst xs)) := rfl
  have h4 : (startD 4 [.ref 0, .lst xs]).length = 4 := rfl
  have body : ∃ o' ys, HandO o' ∧ ys.Perm xs ∧ b_law_mixed (startD 4 [.ref 0, .lst xs]) (o :: rest) = some (.rt (.ref (rest.length + 2)), (o' :: rest) ++ [.lst [], .lst ys]) := by
    generalize startD 4 [.ref 0, .lst xs] = ρ at h0 h1 h4
    obtain ⟨o', ys, ho', hp, e⟩ := mixed_loop (rest := rest) (ρ := (ρ.set 2 (some (.ref (rest.length + 1)))).set 3 (some (.ref (rest.length + 2)))) (f := 0) (by simp_arith! [h0, h4]) (by simp_arith! [h4]) (by simp_arith! [h4]) xs.length xs [] o 1000 rfl (by omega) (by simp; omega) ho hw (by simpa using hx)
    rw [List.append_nil] at hp
    refine ⟨o', ys, ho', hp, ?_⟩
    have bl : bList true [.lst xs] (o :: rest) = .ok (.ref (rest.length + 1)) ((o :: rest) ++ [.lst xs]) := rfl
    have z2 := sizeLine_eq
    have el : ((o :: rest) ++ [MO.lst xs]).length = rest.length + 2 := by simp
    unfold b_law_mixed
    simp_arith! [h1, h4, bl, el]
    rw [show (o :: rest) ++ [MO.lst xs] ++ [MO.lst []] = (o :: rest) ++ [.lst xs, .lst []] by simp]
    show thenS (loopWhile _ _ 1000 _ _) _ = _
    rw [e]
    simp_arith! [h4]
  obtain ⟨o', ys, ho', hp, e⟩ := body
  refine ⟨o', ys, ho', hp, defFin_rt e rfl (wf_hand hw ho') ?_⟩
  have g1 := two_1 (o' :: rest) (.lst []) (.lst ys)
  rw [List.length_cons] at g1
  have hy : ∀ d ∈ ys, Fz 59 d := fun d hd => hf d (hp.mem_iff.mp hd)
  show frzD _ _ (59 + 1) (.ref (rest.length + 2)) = _
  rw [frzD]
  simp only [g1]
  rw [if_neg (by rw [List.length_cons]; omega), allSome_id fun d hd => hy d hd _ _]
  rfl
end Lw96
namespace Lw96
open PySem PD
variable {st : Sto}
theorem iRange_ns {a : SA} {ρ : Ev} {st st' : Sto} {n : Nat} (h : a ρ st = .ok [.int (n : Int)] st') (hn : n ≤ 1000 := by omega) : iRange1 a ρ st = .ok ((List.range n).map fun i : Nat => D.int (i : Int), none) st' := by
  rw [iRange1_e, h, bind_ok]
  dsimp only
  rw [if_pos (by omega)]
  simp only [rangeL_0]
theorem allInt_map {α : Type} (f : α → Int) (l : List α) : allInt (l.map fun a => D.int (f a)) = some (l.map f) := by
  induction l with
  | nil => rfl
  | cons a l ih => rw [List.map_cons, List.map_cons, allInt, ih]; rfl
theorem bSum_map {α : Type} (f : α → Int) (l : List α) (st : Sto) : bSum [.lst (l.map fun a => D.int (f a))] st = .ok (.int (l.map f).sum) st := by
  unfold bSum
  simp only [litems_lst, Option.bind_some, allInt_map]
theorem repL_one (x : D) : ∀ n : Nat, repL [x] n = List.replicate n x
  | 0 => rfl
  | n + 1 => by
    have ih := repL_one x n
    unfold repL at ih ⊢
    rw [List.replicate_succ, List.replicate_succ, List.flatten_cons, ih]
    rfl
theorem nats_snoc (way : List Nat) (x : Nat) : nats (way ++ [x]) = .tup (way.map (fun m : Nat => D.int (m : Int)) ++ [.int (x : Int)]) := by simp [nats]
theorem fAdd_nats {w : List Nat} {x : Nat} {st : Sto} (h : w.length ≤ 1000) : fAdd (nats w) (.tup [.int (x : Int)]) st = .ok (nats (w ++ [x])) st := by
  have z2 := sizeLine_eq
  show (if (w.map fun m : Nat => D.int (m : Int)).length + [D.int (x : Int)].length ≤ sizeLine then Out.ok (D.tup _) st else .bad) = _
  rw [if_pos (by simp; omega), nats_snoc]
theorem pow6 {k : Nat} (h : k ≤ 6) : 2 ^ k ≤ 64 := Nat.pow_le_pow_right (by omega) h
theorem cuts_t (hw : WF st) {n : Nat} (hn : n ≤ 7) : ∃ L : List (List Nat), L.length ≤ 64 ∧ F_law_cuts [.int (n : Int)] st = .ok (.lst (L.map nats)) st := by
  have z2 := sizeLine_eq
  have body : ∃ L : List (List Nat), L.length ≤ 64 ∧ b_law_cuts (startD 4 [.int (n : Int)]) st = some (.rt (.lst (L.map nats)), st) := by
    have h0 : (startD 4 [.int (n : Int)])[0]? = some (some (.int (n : Int))) := rfl
    have hl : (startD 4 [.int (n : Int)]).length = 4 := rfl
    generalize startD 4 [.int (n : Int)] = ρ at h0 hl
    unfold b_law_cuts
    simp_arith! [h0, hl]
    rw [iRange2_n (i := 1) (n := n) (by simp_arith! [h0, hl]; rfl)]
    simp_arith! []
    generalize hL : loopFor _ _ _ _ _ _ _ _ = R
    obtain ⟨ρ', st', rfl, q, M, hd, hM, hq, kl, k1, rfl⟩ := for_all_e hL (rng 1 n) (fun i : Nat => D.int (i : Int)) rfl (by simp) (fun r ρ st' => ∃ (q : List Nat) (M : List (List Nat)), rng 1 n = q ++ r ∧ M.length ≤ 2 ^ q.length ∧ (∀ w ∈ M, w.length ≤ q.length) ∧ ρ.length = 4 ∧ ρ[1]? = some (some (.lst (M.map nats))) ∧ st = st') (fun _ _ _ _ => still_none _ _) ⟨[], [[]], rfl, by simp, by simp, by simp_arith! [hl], by simp_arith! [hl]; rfl, rfl⟩ (by
      rintro x r ρ st' ⟨q, M, hd, hM, hq, kl, k1, rfl⟩
      have hlen := congrArg List.length hd
      rw [rng_len, List.length_append, List.length_cons] at hlen
      have p6 := pow6 (k := q.length) (by omega)
      refine ⟨_, rfl, (ρ.set 2 (some (.int (x : Int)))).set 1 (some (.lst ((M ++ M.map fun w => w ++ [x]).map nats))), st, .inl ?_, q ++ [x], M ++ M.map fun w => w ++ [x], by rw [hd]; simp, by
        rw [List.length_append, List.length_map, List.length_append, List.length_singleton, Nat.pow_succ]
        omega, fun w h => by
        rw [List.length_append, List.length_singleton]
        rcases List.mem_append.mp h with h | h
        · have := hq w h; omega
        · obtain ⟨v, hv, rfl⟩ := List.mem_map.mp h
          have := hq v hv
          rw [List.length_append, List.length_singleton]
          omega, by simp_arith! [kl], by simp_arith! [kl], rfl⟩
      simp_arith! [kl, k1]
      rw [sLC_map (dy := none) M nats (fun w => nats (w ++ [x])) (by simp_arith! [iSeq_e, kl, k1]) (still_none _ _) (by omega) fun w h => ⟨_, rfl, by
        have := hq w h
        simp_arith! [kl, fAdd_nats (w := w) (by omega)]⟩]
      simp_arith! []
      rw [fAdd_lst3 (by simp; omega), List.map_append, List.map_map]
      rfl)
    have hlen := congrArg List.length hd
    rw [rng_len, List.append_nil] at hlen
    have p6 := pow6 (k := q.length) (by omega)
    refine ⟨sortL (M.filter fun w => decide ((0 : Int) < (w.length : Int))), ?_, ?_⟩
    · unfold sortL
      rw [sortZ_length (by simp)]
      have := List.length_filter_le (fun w => decide ((0 : Int) < (w.length : Int))) M
      omega
    · simp_arith! [k1]
      rw [sLC_if (dy := none) M nats (fun w => decide ((0 : Int) < (w.length : Int))) nats (by simp_arith! [iSeq_e, k1]) (still_none _ _) (by omega) fun w _ => ⟨_, rfl, by
        have : bLen [nats w] st = .ok (.int (w.length : Int)) st := by
          show Out.ok (D.int ((w.map fun m : Nat => D.int (m : Int)).length : Int)) st = _
          rw [List.length_map]
        simp_arith! [kl, this], fun _ => by simp_arith! [kl]⟩]
      simp_arith! []
      rw [sorted_lots (l := M.filter fun w => decide ((0 : Int) < (w.length : Int))) rfl (.inr fun w h => by
        have := of_decide_eq_true (List.mem_filter.mp h).2
        intro e
        rw [e] at this
        exact absurd this (by decide))]
      simp_arith! []
  obtain ⟨L, h1, h2⟩ := body
  exact ⟨L, h1, defFin_v hw (fz_lots 58 _) h2⟩
theorem bLen_lots (st : Sto) (L : List (List Nat)) : bLen [.lst (L.map nats)] st = .ok (.int (L.length : Int)) st := by
  show Out.ok (D.int ((L.map nats).length : Int)) st = _
  rw [List.length_map]
theorem fRep_lot (w : List Nat) (k : Nat) (hk : k ≤ 1000) (st : Sto) : fRep false (.lst [nats w]) (.int (k : Int)) st = .ok (.lst ((List.replicate k w).map nats)) st := by
  have z2 := sizeLine_eq
  unfold fRep
  simp only [litems_lst]
  have c : -1000000 ≤ (k : Int) ∧ (k : Int) ≤ 1000000 ∧ [nats w].length * ((k : Int)).toNat ≤ sizeLine := ⟨by omega, by omega, by rw [Int.toNat_natCast, List.length_cons, List.length_nil]; omega⟩
  rw [if_pos c, Int.toNat_natCast, repL_one, newL_f, List.map_replicate]
theorem sum_of_cuts_t {o : MO} {rest : Sto} (hw : WF (o :: rest)) (ho : HandO o) {n : Nat} (hn : n ≤ 7) :
    ∃ (o' : MO) (C : List (List Nat)), HandO o' ∧ C.length ≤ 12 + n ∧ (∀ b, 1 ≤ b → b < n → [b] ∈ C) ∧ F_law_sum_of_cuts [.ref 0, .int (n : Int)] (o :: rest) = .ok (.lst (C.map nats)) (o' :: rest) := by
  have z2 := sizeLine_eq
  have body : ∃ (o' : MO) (C : List (List Nat)), HandO o' ∧ C.length ≤ 12 + n ∧ (∀ b, 1 ≤ b → b < n → [b] ∈ C) ∧ b_law_sum_of_cuts (startD 6 [.ref 0, .int (n : Int)]) (o :: rest) = some (.rt (.lst (C.map nats)), o' :: rest) := by
    have h0 : (startD 6 [.ref 0, .int (n : Int)])[0]? = some (some (.ref 0)) := rfl
    have h1 : (startD 6 [.ref 0, .int (n : Int)])[1]? = some (some (.int (n : Int))) := rfl
    have hl : (startD 6 [.ref 0, .int (n : Int)]).length = 6 := rfl
    generalize startD 6 [.ref 0, .int (n : Int)] = ρ at h0 h1 hl
    obtain ⟨L, hL64, ec⟩ := cuts_t hw hn
    unfold b_law_sum_of_cuts
    simp_arith! [h0, h1, hl, ec]
    obtain ⟨o1, t, ho1, ht, hLt, er⟩ : ∃ (o1 : MO) (t : Nat), HandO o1 ∧ t ≤ 4 ∧ (0 < t → 0 < L.length) ∧ iRange1 (aCons (sIf (tBl (s2 fGt (sB bLen (aCons (sVar 3) aNil)) (sC (.int 0)))) (s2 fAdd (sC (.int 1)) (sCall 2 F_law_draw (aCons (sVar 0) (aCons (sC (.int 4)) aNil)))) (sC (.int 0))) aNil) ((ρ.set 2 (some (.lst []))).set 3 (some (.lst (L.map nats)))) (o :: rest) = .ok ((List.range t).map fun i : Nat => D.int (i : Int), none) (o1 :: rest) := by
      by_cases c : 0 < L.length
      · obtain ⟨o1, d, ho1, hd, e1⟩ := draw_n hw ho (m := 4) (by omega) (by omega)
        have e1 : F_law_draw [.ref 0, .int 4] (o :: rest) = .ok (.int (d : Int)) (o1 :: rest) := e1
        refine ⟨o1, 1 + d, ho1, by omega, fun _ => c, iRange_ns ?_⟩
        have c2 : (0 : Int) < (L.length : Int) := by omega
        simp_arith! [h0, hl, bLen_lots, e1, c2]
        rfl
      · refine ⟨o, 0, ho, by omega, fun h => absurd h (by omega), iRange_ns (n := 0) ?_⟩
        have c2 : ¬ (0 : Int) < (L.length : Int) := by omega
        simp_arith! [h0, hl, bLen_lots, c2]
        rfl
    rw [er]
    simp_arith! []
    generalize hG : loopFor _ _ _ _ _ _ _ _ = R
    obtain ⟨ρ', st', rfl, q, C, o2, hd, hC, ho2, kl, k0, k1, k2, k3, rfl⟩ := for_all_e hG (List.range t) (fun i : Nat => D.int (i : Int)) rfl (by simp) (fun r ρ st' => ∃ (q : Nat) (C : List (List Nat)) (o2 : MO), q + r.length = t ∧ C.length ≤ 3 * q ∧ HandO o2 ∧ ρ.length = 6 ∧ ρ[0]? = some (some (.ref 0)) ∧ ρ[1]? = some (some (.int (n : Int))) ∧ ρ[2]? = some (some (.lst (C.map nats))) ∧ ρ[3]? = some (some (.lst (L.map nats))) ∧ st' = o2 :: rest) (fun _ _ _ _ => still_none _ _) ⟨0, [], o1, by simp, by simp, ho1, by simp_arith! [hl], by simp_arith! [h0], by simp_arith! [h1], by simp_arith! [hl]; rfl, by simp_arith! [hl], rfl⟩ (by
      rintro x r ρ st' ⟨q, C, o2, hd, hC, ho2, kl, k0, k1, k2, k3, rfl⟩
      rw [List.length_cons] at hd
      have hL := hLt (by omega)
      obtain ⟨o3, y, ho3, hy, e3⟩ := law_some_t (wf_hand hw ho2) ho2 (L.map nats) (by intro e; rw [List.map_eq_nil_iff] at e; rw [e] at hL; exact absurd hL (by simp)) (by simp; omega) fun d hd => by
        obtain ⟨w, _, rfl⟩ := List.mem_map.mp hd
        exact fz_nats _ _
      obtain ⟨w, hwL, rfl⟩ := List.mem_map.mp hy
      obtain ⟨o4, d, ho4, hd4, e4⟩ := draw_n (wf_hand hw ho3) ho3 (m := 3) (by omega) (by omega)
      have e4 : F_law_draw [.ref 0, .int 3] (o3 :: rest) = .ok (.int (d : Int)) (o4 :: rest) := e4
      refine ⟨_, rfl, (ρ.set 4 (some (.int (x : Int)))).set 2 (some (.lst ((C ++ List.replicate (1 + d) w).map nats))), o4 :: rest, .inl ?_, q + 1, C ++ List.replicate (1 + d) w, o4, by omega, by
        rw [List.length_append, List.length_replicate]
        omega, ho4, by simp_arith! [kl], by simp_arith! [k0], by simp_arith! [k1], by simp_arith! [kl], by simp_arith! [k3], rfl⟩
      have fr := fRep_lot w (1 + d) (by omega) (o4 :: rest)
      rw [show ((1 + d : Nat) : Int) = 1 + (d : Int) by omega] at fr
      simp_arith! [kl, k0, k1, k2, k3, e3, e4, fr]
      rw [fAdd_lst3 (by simp; omega), List.map_append]
      rfl)
    have hq : q = t := by simpa using hd
    refine ⟨o2, C ++ (rng 1 n).map fun b => [b], ho2, ?_, fun b h1 h2 => List.mem_append_right _ (List.mem_map.mpr ⟨b, mem_rng.mpr ⟨h1, h2⟩, rfl⟩), ?_⟩
    · rw [List.length_append, List.length_map, rng_len]
      omega
    · simp_arith! [k2]
      rw [sLC_map (dy := none) (rng 1 n) (fun i : Nat => D.int (i : Int)) (fun b => nats [b]) (iRange2_n (i := 1) (n := n) (by simp_arith! [k1, kl]; rfl)) (still_none _ _) (by rw [rng_len]; omega) fun b _ => ⟨_, rfl, by
        simp_arith! [kl]
        rfl⟩]
      simp_arith! []
      rw [fAdd_lst3 (by rw [List.length_map, List.length_map, rng_len]; omega), List.map_append, List.map_map]
      rfl
  obtain ⟨o', C, h1, h2, h3, h4⟩ := body
  exact ⟨o', C, h1, h2, h3, defFin_rt (ex := []) (by rw [List.append_nil]; exact h4) rfl (wf_hand hw h1) (by rw [List.append_nil]; exact fz_lots 58 _ _ _)⟩
end Lw96
namespace Lw96
open PySem PD
variable {st : Sto}
def cutN (c : List Nat) (i j : Nat) : Int := if (decide (i ∈ c)) != (decide (j ∈ c)) then 1 else 0
def cutS (C : List (List Nat)) (i j : Nat) : Int := (C.map fun c => cutN c i j).sum
theorem cutN_s (c : List Nat) (i j : Nat) : cutN c i j = cutN c j i := by
  unfold cutN
  cases decide (i ∈ c) <;> cases decide (j ∈ c) <;> rfl
theorem cutN_d (c : List Nat) (i : Nat) : cutN c i i = 0 := by
  unfold cutN
  cases decide (i ∈ c) <;> rfl
theorem cutN_b (c : List Nat) (i j : Nat) : 0 ≤ cutN c i j ∧ cutN c i j ≤ 1 := by
  unfold cutN
  split <;> omega
theorem cutN_t (c : List Nat) (i j k : Nat) : cutN c i k ≤ cutN c i j + cutN c j k := by
  unfold cutN
  cases decide (i ∈ c) <;> cases decide (j ∈ c) <;> cases decide (k ∈ c) <;> decide
theorem cutS_cons (c : List Nat) (C : List (List Nat)) (i j : Nat) : cutS (c :: C) i j = cutN c i j + cutS C i j := by
  unfold cutS
  rw [List.map_cons, List.sum_cons]
theorem cutS_s : ∀ (C : List (List Nat)) (i j : Nat), cutS C i j = cutS C j i
  | [], _, _ => rfl
  | c :: C, i, j => by rw [cutS_cons, cutS_cons, cutN_s, cutS_s C]
theorem cutS_d : ∀ (C : List (List Nat)) (i : Nat), cutS C i i = 0
  | [], _ => rfl
  | c :: C, i => by rw [cutS_cons, cutN_d, cutS_d C]; rfl
theorem cutS_b : ∀ (C : List (List Nat)) (i j : Nat), 0 ≤ cutS C i j ∧ cutS C i j ≤ (C.length : Int)
  | [], _, _ => ⟨Int.le_refl 0, Int.le_refl 0⟩
  | c :: C, i, j => by
    have h1 := cutN_b c i j
    have h2 := cutS_b C i j
    rw [cutS_cons, List.length_cons]
    omega
theorem cutS_t : ∀ (C : List (List Nat)) (i j k : Nat), cutS C i k ≤ cutS C i j + cutS C j k
  | [], _, _, _ => by show (0 : Int) ≤ 0 + 0; omega
  | c :: C, i, j, k => by
    have h1 := cutN_t c i j k
    have h2 := cutS_t C i j k
    rw [cutS_cons, cutS_cons, cutS_cons]
    omega
theorem cutS_m : ∀ (C : List (List Nat)) (c : List Nat) (i j : Nat), c ∈ C → cutN c i j ≤ cutS C i j
  | d :: C, c, i, j, h => by
    have h1 := cutN_b d i j
    have h2 := cutS_b C i j
    rw [cutS_cons]
    rcases List.mem_cons.mp h with rfl | h
    · omega
    · have := cutS_m C c i j h
      omega
theorem cutS_po {n : Nat} {C : List (List Nat)} (hs : ∀ b, 1 ≤ b → b < n → [b] ∈ C) {a b : Nat} (hab : a < b) (hb : b < n) : 1 ≤ cutS C a b := by
  have h := cutS_m C [b] a b (hs b (by omega) hb)
  have e : cutN [b] a b = 1 := by
    unfold cutN
    have h1 : decide (a ∈ [b]) = false := decide_eq_false (by simp; omega)
    have h2 : decide (b ∈ [b]) = true := decide_eq_true (by simp)
    rw [h1, h2]
    rfl
  omega
def cutRow (n : Nat) (C : List (List Nat)) (i : Nat) : List Int := (rng (i + 1) n).map fun j => cutS C i j
def cutNums (n : Nat) (C : List (List Nat)) : Nat → List Int
  | 0 => []
  | i + 1 => cutNums n C i ++ cutRow n C i
theorem cutRow_len (n : Nat) (C : List (List Nat)) (i : Nat) : (cutRow n C i).length = n - (i + 1) := by
  unfold cutRow
  rw [List.length_map, rng_len]
theorem cutNums_len (n : Nat) (C : List (List Nat)) : ∀ i, (cutNums n C i).length = cnt n i
  | 0 => rfl
  | i + 1 => by
    show (cutNums n C i ++ cutRow n C i).length = cnt n i + (n - (i + 1))
    rw [List.length_append, cutNums_len n C i, cutRow_len]
theorem cutNums_get (n : Nat) (C : List (List Nat)) : ∀ (i a b : Nat), a < i → a < b → b < n → (cutNums n C i)[cnt n a + (b - a - 1)]? = some (cutS C a b)
  | i + 1, a, b, ha, hab, hb => by
    show (cutNums n C i ++ cutRow n C i)[cnt n a + (b - a - 1)]? = _
    have hl := cutNums_len n C i
    by_cases c : a < i
    · have c1 := cnt_mono n (a + 1) i (by omega)
      have c2 : cnt n (a + 1) = cnt n a + (n - (a + 1)) := rfl
      rw [List.getElem?_append_left (by omega)]
      exact cutNums_get n C i a b c hab hb
    · have : a = i := by omega
      subst this
      rw [List.getElem?_append_right (by omega), hl, show cnt n a + (b - a - 1) - cnt n a = b - a - 1 by omega]
      unfold cutRow rng
      rw [List.map_map, List.getElem?_map, List.getElem?_range (by omega)]
      show some (cutS C a (a + 1 + (b - a - 1))) = _
      rw [show a + 1 + (b - a - 1) = b by omega]
theorem parts_t (hw : WF st) (c : List Nat) (i j : Nat) : F_law_parts [nats c, .int (i : Int), .int (j : Int)] st = .ok (.int (cutN c i j)) st := defFin_v hw (fz_int _ _) (by
  have k0 : (startD 3 [nats c, .int (i : Int), .int (j : Int)])[0]? = some (some (nats c)) := rfl
  have k1 : (startD 3 [nats c, .int (i : Int), .int (j : Int)])[1]? = some (some (.int (i : Int))) := rfl
  have k2 : (startD 3 [nats c, .int (i : Int), .int (j : Int)])[2]? = some (some (.int (j : Int))) := rfl
  generalize startD 3 [nats c, .int (i : Int), .int (j : Int)] = ρ at k0 k1 k2
  unfold b_law_parts
  simp_arith! [k0, k1, k2, fIn_nats]
  unfold cutN
  cases decide (i ∈ c) <;> cases decide (j ∈ c) <;> rfl)
theorem table_of_t (hw : WF st) {n : Nat} (n1 : 1 ≤ n) (hn : n ≤ 7) {C : List (List Nat)} (hC : C.length ≤ 100) (hs : ∀ b, 1 ≤ b → b < n → [b] ∈ C) :
    ∃ f, TabP n f ∧ Tri n f ∧ F_law_table_of [.int (n : Int), .lst (C.map nats)] st = .ok (tabT n f) st := by
  have z2 := sizeLine_eq
  have cq := cnt_sq hn
  have nn : n * n ≤ 49 := Nat.mul_le_mul hn hn
  have body : ∃ f, TabP n f ∧ Tri n f ∧ ∃ ex, b_law_table_of (startD 6 [.int (n : Int), .lst (C.map nats)]) st = some (.rt (tabT n f), st ++ ex) := by
    have h0 : (startD 6 [.int (n : Int), .lst (C.map nats)])[0]? = some (some (.int (n : Int))) := rfl
    have h1 : (startD 6 [.int (n : Int), .lst (C.map nats)])[1]? = some (some (.lst (C.map nats))) := rfl
    have hl : (startD 6 [.int (n : Int), .lst (C.map nats)]).length = 6 := rfl
    generalize startD 6 [.int (n : Int), .lst (C.map nats)] = ρ at h0 h1 hl
    unfold b_law_table_of
    simp_arith! [h0, h1, hl]
    rw [iRange_n (n := n) (by simp_arith! [hl, h0])]
    simp_arith! []
    generalize hL : loopFor _ _ _ _ _ _ _ _ = R
    obtain ⟨ρ', st', rfl, i, hd, kl, k0, k1, k2, rfl⟩ := for_all_e hL (List.range n) (fun i : Nat => D.int (i : Int)) rfl (by simp) (fun r ρ st' => ∃ i, List.range n = List.range i ++ r ∧ ρ.length = 6 ∧ ρ[0]? = some (some (.int (n : Int))) ∧ ρ[1]? = some (some (.lst (C.map nats))) ∧ ρ[2]? = some (some (.ref st.length)) ∧ st' = st ++ [.lst ((cutNums n C i).map D.int)]) (fun _ _ _ _ => still_none _ _) ⟨0, by simp, by simp_arith! [hl], by simp_arith! [h0], by simp_arith! [h1], by simp_arith! [hl], rfl⟩ (by
      rintro y r ρ st' ⟨i, hd, kl, k0, k1, k2, rfl⟩
      obtain ⟨rfl, hi, hd⟩ := range_step hd
      refine ⟨_, rfl, ρ.set 3 (some (.int (y : Int))), st ++ [.lst ((cutNums n C (y + 1)).map D.int)], .inl ?_, y + 1, hd, by simp_arith! [kl], by simp_arith! [k0], by simp_arith! [k1], by simp_arith! [k2], rfl⟩
      have g1 := sto_get1 st (.lst ((cutNums n C y).map D.int))
      have wf1 : WF (st ++ [.lst ((cutNums n C y).map D.int)]) := wf_append hw fun o ho m => by
        rw [List.mem_singleton.mp ho]
        exact noRefs_all fun d hd => by
          obtain ⟨i, _, rfl⟩ := List.mem_map.mp hd
          rfl
      simp_arith! [kl, k2, litems_ref g1]
      rw [sLC_map (dy := none) (rng (y + 1) n) (fun i : Nat => D.int (i : Int)) (fun j => D.int (cutS C y j)) (iRange2_n (i := y + 1) (n := n) (by simp_arith! [kl, k0, Int.natCast_add]; rfl)) (still_none _ _) (by rw [rng_len]; omega) fun j hj => ⟨_, rfl, by
        simp_arith! [kl]
        rw [sLC_map (dy := none) C nats (fun c => D.int (cutN c y j)) (by simp_arith! [iSeq_e, kl, k1]) (still_none _ _) (by omega) fun c _ => ⟨_, rfl, by
          simp_arith! [kl, parts_t wf1]⟩]
        simp_arith! [bSum_map]
        rfl⟩]
      simp_arith! []
      rw [fExtend_ref g1 (by rfl) (by
        have := cutNums_len n C y
        have := cnt_mono n y n (by omega)
        rw [List.length_map, List.length_map, rng_len, cutNums_len]
        omega), sto_set1]
      simp_arith! []
      congr 4
      show _ = MO.lst ((cutNums n C y ++ cutRow n C y).map D.int)
      rw [List.map_append]
      unfold cutRow
      rw [List.map_map]
      rfl)
    have := range_end hd
    subst this
    have g1 := sto_get1 st (.lst ((cutNums i C i).map D.int))
    have wf1 : WF (st ++ [.lst ((cutNums i C i).map D.int)]) := wf_append hw fun o ho m => by
      rw [List.mem_singleton.mp ho]
      exact noRefs_all fun d hd => by
        obtain ⟨i, _, rfl⟩ := List.mem_map.mp hd
        rfl
    obtain ⟨f, hf, ef⟩ := of_pairs_t (x := .ref st.length) wf1 (n := i) (m := cnt i i) (g := fun k => (cutNums i C i).getD k 0) hn (fun k hk ex => by
      have hk2 : k < (cutNums i C i).length := by rw [cutNums_len]; exact hk
      refine fIx_at (xs := (cutNums i C i).map D.int) (items_ref ?_) ?_
      · rw [List.append_assoc, List.getElem?_append_right (Nat.le_refl _), Nat.sub_self]
        rfl
      · rw [List.getElem?_map, List.getElem?_eq_getElem hk2]
        show _ = some (D.int ((cutNums i C i).getD k 0))
        rw [List.getD_eq_getElem?_getD, List.getElem?_eq_getElem hk2]
        rfl) (Nat.le_refl _)
    have fe : ∀ a b, a < i → b < i → f a b = cutS C a b := by
      have up : ∀ a b, a < b → b < i → f a b = cutS C a b := fun a b hab hb => by
        rw [hf.at_ a b hab hb (by omega)]
        show (cutNums i C i).getD _ 0 = _
        rw [List.getD_eq_getElem?_getD, cutNums_get i C i a b (by omega) hab hb]
        rfl
      intro a b ha hb
      rcases Nat.lt_trichotomy a b with c | c | c
      · exact up a b c hb
      · subst c; rw [hf.dg, cutS_d]
      · rw [hf.sy, cutS_s]; exact up b a c ha
    refine ⟨f, RawF.tab (top := 100) ⟨hf.dg, fun a b _ _ => hf.sy a b, fun a b ha hb hab => ?_⟩ n1 hn (by omega), fun a b c ha hb hc => by
      rw [fe a c ha hc, fe a b ha hb, fe b c hb hc]
      exact cutS_t C a b c, [.lst ((cutNums i C i).map D.int)], ?_⟩
    · have up := cutS_b C a b
      have lo : 1 ≤ cutS C a b := by
        rcases Nat.lt_or_gt_of_ne hab with c | c
        · exact cutS_po hs c hb
        · rw [cutS_s]; exact cutS_po hs c ha
      rw [fe a b ha hb]
      omega
    · simp_arith! [k0, k2, ef]
  obtain ⟨f, h1, h2, ex, h3⟩ := body
  exact ⟨f, h1, h2, defFin_rt h3 rfl hw (fz_tabT 58 _ _ _ _)⟩
end Lw96
namespace Lw96
open PySem PD
variable {st : Sto}
theorem raw_closed {n : Nat} {top : Int} {f : Nat → Nat → Int} (h : RawF n top f) (n1 : 1 ≤ n) (n7 : n ≤ 7) (ht : top ≤ 1000) : Met n f ∧ TabP n (fw f n) ∧ Tri n (fw f n) ∧ ∀ a b, a < n → b < n → fw f n a b ≤ f a b := by
  have m : Met n f := ⟨fun a _ => h.dg a, fun a b ha hb => by
    by_cases e : a = b
    · subst e; rw [h.dg]; exact Int.le_refl _
    · have := h.po a b ha hb e; omega⟩
  have m2 := m.fw n (Nat.le_refl _)
  have po := fw_po m (fun a b ha hb hab => (h.po a b ha hb hab).1) n (Nat.le_refl _)
  refine ⟨m, ⟨n1, n7, fun i j hi hj => ⟨m2.nn i j hi hj, ?_⟩, fun i j hi hj => ⟨fun e => ?_, fun e => by rw [e]; exact m2.dg j hj⟩, fw_sy h.sy n (Nat.le_refl _)⟩, fw_tr m, fun a b _ _ => fw_le (n := n) n a b⟩
  · have l := fw_le (n := n) (d := f) n i j
    by_cases e : i = j
    · subst e; rw [m2.dg i hi]; omega
    · have := h.po i j hi hj e; omega
  · by_cases q : i = j
    · exact q
    · have := po i j hi hj q; omega
theorem cut_to (xs : List D) (n : Nat) : cutD xs none (some (n : Int)) = xs.take n := by
  unfold cutD HT.sIx
  simp
  rw [if_neg (by omega)]
  omega
def unD : D → Nat
  | .int i => i.toNat
  | _ => 0
theorem perm_nats {ys : List D} {xs : List Nat} (h : ys.Perm (xs.map fun i : Nat => D.int (i : Int))) : ∃ zs : List Nat, zs.Perm xs ∧ ys = zs.map fun i : Nat => D.int (i : Int) := by
  refine ⟨ys.map unD, ?_, ?_⟩
  · have := h.map unD
    rw [List.map_map] at this
    have e : (unD ∘ fun i : Nat => D.int (i : Int)) = id := by
      funext i
      show ((i : Int)).toNat = i
      omega
    rw [e, List.map_id] at this
    exact this
  · rw [List.map_map]
    refine (List.map_id ys).symm.trans (List.map_congr_left fun d hd => ?_)
    obtain ⟨i, _, rfl⟩ := List.mem_map.mp (h.mem_iff.mp hd)
    show D.int (i : Int) = D.int (((i : Int).toNat : Nat) : Int)
    rw [Int.toNat_natCast]
theorem take_range (zs : List Nat) {n : Nat} (h : n ≤ zs.length) : (zs.map fun i : Nat => D.int (i : Int)).take n = (List.range n).map fun k => D.int ((zs.getD k 0 : Nat) : Int) := by
  refine List.ext_getElem? fun k => ?_
  by_cases c : k < n
  · rw [List.getElem?_take_of_lt c, List.getElem?_map, List.getElem?_map, List.getElem?_range c, List.getElem?_eq_getElem (by omega), Option.map_some, Option.map_some, List.getD_eq_getElem?_getD, List.getElem?_eq_getElem (by omega)]
    rfl
  · rw [List.getElem?_eq_none (by simp; omega), List.getElem?_eq_none (by simp; omega)]
theorem getD_inj {zs : List Nat} (h : zs.Nodup) {i j : Nat} (hi : i < zs.length) (hj : j < zs.length) (e : zs.getD i 0 = zs.getD j 0) : i = j := by
  rw [List.getD_eq_getElem?_getD, List.getD_eq_getElem?_getD, List.getElem?_eq_getElem hi, List.getElem?_eq_getElem hj] at e
  have pw := List.pairwise_iff_getElem.mp h
  rcases Nat.lt_trichotomy i j with c | c | c
  · exact absurd e (pw i j hi hj c)
  · exact c
  · exact absurd e.symm (pw j i hj hi c)
def offF (zs : List Nat) (i j : Nat) : Int := absI ((zs.getD i 0 : Nat) - (zs.getD j 0 : Nat) : Int)
theorem off_tab {zs : List Nat} {n : Nat} (h : zs.Nodup) (hl : n ≤ zs.length) (hb : ∀ k, zs.getD k 0 ≤ 1000) (n1 : 1 ≤ n) (n7 : n ≤ 7) : TabP n (offF zs) ∧ Tri n (offF zs) := by
  refine ⟨⟨n1, n7, fun i j hi hj => ?_, fun i j hi hj => ⟨fun e => ?_, fun e => ?_⟩, fun i j hi hj => ?_⟩, fun i j k hi hj hk => ?_⟩
  · have h1 := hb i
    have h2 := hb j
    unfold offF absI
    split <;> omega
  · refine getD_inj h (by omega) (by omega) ?_
    unfold offF absI at e
    split at e <;> omega
  · subst e
    unfold offF absI
    split <;> omega
  · unfold offF absI
    split <;> split <;> omega
  · unfold offF absI
    split <;> split <;> split <;> omega
/-- what a drawing of a table gives -/
def DrawsT (F : List D → Sto → Out D) (ds : List D) (o : MO) (rest : Sto) (m : Nat) : Prop := ∃ (o' : MO) (n : Nat) (f : Nat → Nat → Int), HandO o' ∧ TabP n f ∧ Tri n f ∧ n ≤ m ∧ F ds (o :: rest) = .ok (tabT n f) (o' :: rest)
theorem any_closed_t {o : MO} {rest : Sto} (hw : WF (o :: rest)) (ho : HandO o) {n : Nat} (n1 : 1 ≤ n) (hn : n ≤ 7) {top : Int} (h0 : 0 < top) (h1 : top ≤ 1000) :
    ∃ (o' : MO) (f : Nat → Nat → Int) (g : Nat → Nat → Int), HandO o' ∧ TabP n g ∧ Tri n g ∧ F_law_any_table [.ref 0, .int (n : Int), .int top] (o :: rest) = .ok (tabT n f) (o' :: rest) ∧ F_law_closed [tabT n f] (o' :: rest) = .ok (tabT n g) (o' :: rest) := by
  obtain ⟨o', f, ho', hf, e⟩ := any_table_t hw ho hn h0 (by omega)
  obtain ⟨m, h2, h3, _⟩ := raw_closed hf n1 hn h1
  exact ⟨o', f, fw f n, ho', h2, h3, e, closed_t (wf_hand hw ho') (by omega) m⟩
theorem law_table_t {o : MO} {rest : Sto} (hw : WF (o :: rest)) (ho : HandO o) {m : Nat} (m1 : 1 ≤ m) (m7 : m ≤ 7) : DrawsT F_law_table [.ref 0, .int (m : Int)] o rest m := by
  have z2 := sizeLine_eq
  have body : ∃ (o' : MO) (n : Nat) (f : Nat → Nat → Int), HandO o' ∧ TabP n f ∧ Tri n f ∧ n ≤ m ∧ b_law_table (startD 8 [.ref 0, .int (m : Int)]) (o :: rest) = some (.rt (tabT n f), o' :: rest) := by
    have h0 : (startD 8 [.ref 0, .int (m : Int)])[0]? = some (some (.ref 0)) := rfl
    have h1 : (startD 8 [.ref 0, .int (m : Int)])[1]? = some (some (.int (m : Int))) := rfl
    have hl : (startD 8 [.ref 0, .int (m : Int)]).length = 8 := rfl
    generalize startD 8 [.ref 0, .int (m : Int)] = ρ at h0 h1 hl
    obtain ⟨o1, d, ho1, hd, e1⟩ := draw_n hw ho (m := m) (by omega) (by omega)
    obtain ⟨o2, k, ho2, hk, e2⟩ := draw_n (wf_hand hw ho1) ho1 (m := 5) (by omega) (by omega)
    have e2 : F_law_draw [.ref 0, .int 5] (o1 :: rest) = .ok (.int (k : Int)) (o2 :: rest) := e2
    have hw2 := wf_hand hw ho2
    unfold b_law_table
    simp_arith! [h0, h1, hl, e1, e2]
    rw [show (1 : Int) + (d : Int) = ((1 + d : Nat) : Int) by omega]
    generalize hn : 1 + d = n
    by_cases k0 : k = 0
    · have c0 : ((k : Nat) : Int) = 0 := by omega
      obtain ⟨o3, ys, ho3, hp, e3⟩ := mixed_t hw2 ho2 ((List.range 12).map fun i : Nat => D.int (i : Int)) (by simp) (fun d hd n => by
        obtain ⟨i, _, rfl⟩ := List.mem_map.mp hd
        rfl) fun d hd => by
        obtain ⟨i, _, rfl⟩ := List.mem_map.mp hd
        exact fz_int _ _
      obtain ⟨zs, hz, rfl⟩ := perm_nats hp
      have zl : zs.length = 12 := by rw [hz.length_eq, List.length_range]
      have zb : ∀ k, zs.getD k 0 ≤ 1000 := fun k => by
        rw [List.getD_eq_getElem?_getD]
        cases e : zs[k]? with
        | none => simp
        | some v =>
          have := List.mem_range.mp (hz.mem_iff.mp (List.mem_of_getElem? e))
          show v ≤ 1000
          omega
      have t := off_tab (zs := zs) (n := n) ((hz.nodup_iff).mpr List.nodup_range) (by omega) zb (by omega) (by omega)
      refine ⟨o3, n, offF zs, ho3, t.1, t.2, by omega, ?_⟩
      have c12 : (0 : Int) ≤ 12 ∧ (12 : Int) ≤ ((16777216 : Nat) : Int) := by omega
      have e12 : rangeL 0 (Int.toNat 12) = (List.range 12).map fun i : Nat => D.int (i : Int) := rangeL_0 12
      simp_arith! [c0, h0, hl, if_pos c12, e12, e3, cut_to, take_range zs (show n ≤ zs.length by omega)]
      rw [sLC_map (dy := none) (List.range n) (fun k => D.int ((zs.getD k 0 : Nat) : Int)) (fun i => rowT n (offF zs) i) (by simp_arith! [iSeq_e, hl]) (still_none _ _) (by simp; omega) fun i hi => ⟨_, rfl, by
        simp_arith! [hl]
        rw [sLC_map (dy := none) (List.range n) (fun k => D.int ((zs.getD k 0 : Nat) : Int)) (fun j => D.int (offF zs i j)) (by simp_arith! [iSeq_e, hl]) (still_none _ _) (by simp; omega) fun j hj => ⟨_, rfl, by
          simp_arith! [hl]
          rfl⟩]
        simp_arith! []⟩]
      simp_arith! []
    · have c0 : ¬ ((k : Nat) : Int) = 0 := by omega
      by_cases k1 : k = 1
      · have c1 : ((k : Nat) : Int) = 1 := by omega
        obtain ⟨o3, C, ho3, hC, hs, e3⟩ := sum_of_cuts_t hw2 ho2 (n := n) (by omega)
        obtain ⟨f, t1, t2, e4⟩ := table_of_t (wf_hand hw2 ho3) (n := n) (by omega) (by omega) (C := C) (by omega) hs
        refine ⟨o3, n, f, ho3, t1, t2, by omega, ?_⟩
        have c10 : ¬ ((1 : Int) = 0) := by omega
        simp_arith! [c1, c10, h0, hl, e3, e4]
      · have c1 : ¬ ((k : Nat) : Int) = 1 := by omega
        by_cases k2 : k = 2
        · have c2 : ((k : Nat) : Int) = 2 := by omega
          have c20 : ¬ ((2 : Int) = 0) := by omega
          have c21 : ¬ ((2 : Int) = 1) := by omega
          have nn : n * n ≤ 49 := Nat.mul_le_mul (show n ≤ 7 by omega) (show n ≤ 7 by omega)
          have sm : fMul (.int (n : Int)) (.int (n : Int)) (o2 :: rest) = .ok (.int ((n * n : Nat) : Int)) (o2 :: rest) := by
            rw [fMul_i (.inl (small_c (by omega) (by omega))), Int.natCast_mul]
          simp_arith! [c2, c20, c21, h0, hl]
          obtain ⟨o3, ns, ho3, hns, hlen, e⟩ := draws_t (v := 7) (ρ := (ρ.set 2 (some (.int (n : Int)))).set 3 (some (.int 2))) (m := n * n) (top := 2) (it := iRange1 (aCons (s2 fMul (sVar 2) (sVar 2)) aNil)) (e := s2 fAdd (sC (.int 1)) (sCall 2 F_law_draw (aCons (sVar 0) (aCons (sC (.int 2)) aNil)))) hw2 ho2 (by omega) (by omega) (iRange_n (by simp_arith! [hl, sm])) (by omega) (fun x o => by simp_arith! [h0, hl])
          obtain ⟨f, hf, ef⟩ := of_pairs_t (wf_hand hw2 ho3) (n := n) (by omega) (numsIn_lst (o3 :: rest) ns) (by have := cnt_sq (show n ≤ 7 by omega); omega)
          have raw : RawF n 2 f := hf.raw (by omega) fun k hk => by
            have hk2 : k < ns.length := by have := cnt_sq (show n ≤ 7 by omega); omega
            rw [List.getD_eq_getElem?_getD, List.getElem?_eq_getElem hk2]
            exact hns _ (List.getElem_mem hk2)
          refine ⟨o3, n, f, ho3, raw.tab (by omega) (by omega) (by omega), fun a b c ha hb hc => ?_, by omega, ?_⟩
          · by_cases ab : a = b
            · subst ab; rw [raw.dg]; omega
            · by_cases bc : b = c
              · subst bc; rw [raw.dg]; omega
              · have p1 := raw.po a b ha hb ab
                have p2 := raw.po b c hb hc bc
                by_cases ac : a = c
                · subst ac; rw [raw.dg]; omega
                · have := raw.po a c ha hc ac; omega
          · rw [e]
            simp_arith! [ef]
        · have c2 : ¬ ((k : Nat) : Int) = 2 := by omega
          obtain ⟨o3, x, ho3, hx, e3⟩ := law_some_t hw2 ho2 [.int 3, .int 6, .int 12] (by simp) (by simp) (fun x hx => by
            simp only [List.mem_cons, List.not_mem_nil, or_false] at hx
            rcases hx with rfl | rfl | rfl <;> exact fz_int _ _)
          obtain ⟨top, rfl, t0, t1⟩ : ∃ top : Int, x = .int top ∧ 0 < top ∧ top ≤ 1000 := by
            simp only [List.mem_cons, List.not_mem_nil, or_false] at hx
            rcases hx with rfl | rfl | rfl
            · exact ⟨3, rfl, by omega, by omega⟩
            · exact ⟨6, rfl, by omega, by omega⟩
            · exact ⟨12, rfl, by omega, by omega⟩
          obtain ⟨o4, f, g, ho4, p1, p2, e4, e5⟩ := any_closed_t (wf_hand hw2 ho3) ho3 (n := n) (by omega) (by omega) t0 t1
          refine ⟨o4, n, g, ho4, p1, p2, by omega, ?_⟩
          simp_arith! [c0, c1, c2, h0, hl, e3, e4, e5]
  obtain ⟨o', n, f, h1, h2, h3, h4, h5⟩ := body
  exact ⟨o', n, f, h1, h2, h3, h4, defFin_rt (ex := []) (by rw [List.append_nil]; exact h5) rfl (wf_hand hw h1) (by rw [List.append_nil]; exact fz_tabT 58 _ _ _ _)⟩
end Lw96
namespace Lw96
open PySem PD
variable {st : Sto}
def posN : List Nat → Nat → Nat
  | [], _ => 0
  | z :: zs, k => if z = k then 0 else posN zs k + 1
theorem posN_spec : ∀ (zs : List Nat) (k : Nat), k ∈ zs → posN zs k < zs.length ∧ zs.getD (posN zs k) 0 = k
  | z :: zs, k, h => by
    unfold posN
    by_cases e : z = k
    · subst e
      rw [if_pos rfl]
      exact ⟨by rw [List.length_cons]; omega, rfl⟩
    · rw [if_neg e]
      obtain ⟨h1, h2⟩ := posN_spec zs k ((List.mem_cons.mp h).resolve_left fun q => e q.symm)
      exact ⟨by rw [List.length_cons]; omega, h2⟩
theorem firstIx_pos : ∀ (zs : List Nat) (k i : Nat), k ∈ zs → firstIx (.int (k : Int)) i (zs.map fun z : Nat => PyData.int (z : Int)) = some (i + posN zs k)
  | z :: zs, k, i, h => by
    rw [List.map_cons, firstIx, eqv_int]
    unfold posN
    by_cases e : z = k
    · subst e
      rw [if_pos rfl, if_pos (decide_eq_true rfl)]
      rfl
    · rw [if_neg e, if_neg (by rw [decide_eq_false (by omega)]; decide), firstIx_pos zs k (i + 1) ((List.mem_cons.mp h).resolve_left fun q => e q.symm)]
      congr 1
      omega
theorem fIndex_nats {zs : List Nat} {k : Nat} (h : k ∈ zs) (st : Sto) : fIndexD (.lst (zs.map fun z : Nat => D.int (z : Int))) (.int (k : Int)) st = .ok (.int ((posN zs k : Nat) : Int)) st := by
  unfold fIndexD
  have e : toPys st 59 (zs.map fun z : Nat => D.int (z : Int)) = some (zs.map fun z : Nat => PyData.int (z : Int)) := by
    unfold toPys
    rw [List.map_map]
    exact allSome_map fun m _ => toPy_int _ _ _
  simp only [litems_lst, toPy_int, e, firstIx_pos zs k 0 h, Nat.zero_add]
theorem renamed_t (hw : WF st) {n : Nat} {f : Nat → Nat → Int} {zs : List Nat} (v : TabP n f) (tr : Tri n f) (hz : zs.Perm (List.range n)) :
    ∃ g, TabP n g ∧ Tri n g ∧ F_law_renamed [tabT n f, .lst (zs.map fun z : Nat => D.int (z : Int))] st = .ok (tabT n g) st := by
  have z2 := sizeLine_eq
  have n7 := v.n7
  have zl : zs.length = n := by rw [hz.length_eq, List.length_range]
  have hm : ∀ k, k < n → k ∈ zs := fun k hk => hz.mem_iff.mpr (List.mem_range.mpr hk)
  have pb : ∀ k, k < n → posN zs k < n := fun k hk => by
    have := (posN_spec zs k (hm k hk)).1
    omega
  have inj : ∀ i j, i < n → j < n → posN zs i = posN zs j → i = j := fun i j hi hj e => by
    have h1 := (posN_spec zs i (hm i hi)).2
    have h2 := (posN_spec zs j (hm j hj)).2
    rw [e, h2] at h1
    exact h1.symm
  refine ⟨fun i j => f (posN zs i) (posN zs j), ⟨v.n1, v.n7, fun i j hi hj => v.lo _ _ (pb i hi) (pb j hj), fun i j hi hj => ?_, fun i j hi hj => v.sy _ _ (pb i hi) (pb j hj)⟩, fun i j k hi hj hk => tr _ _ _ (pb i hi) (pb j hj) (pb k hk), ?_⟩
  · rw [v.dg _ _ (pb i hi) (pb j hj)]
    exact ⟨inj i j hi hj, fun e => by rw [e]⟩
  · refine defFin_v hw (fz_tabT 58 _ _) ?_
    have h0 : (startD 7 [tabT n f, .lst (zs.map fun z : Nat => D.int (z : Int))])[0]? = some (some (tabT n f)) := rfl
    have h1 : (startD 7 [tabT n f, .lst (zs.map fun z : Nat => D.int (z : Int))])[1]? = some (some (.lst (zs.map fun z : Nat => D.int (z : Int)))) := rfl
    have hl : (startD 7 [tabT n f, .lst (zs.map fun z : Nat => D.int (z : Int))]).length = 7 := rfl
    generalize startD 7 [tabT n f, .lst (zs.map fun z : Nat => D.int (z : Int))] = ρ at h0 h1 hl
    have bl : bLen [tabT n f] st = .ok (.int (n : Int)) st := by
      show Out.ok (D.int (((List.range n).map _).length : Int)) st = _
      rw [List.length_map, List.length_range]
    unfold b_law_renamed
    simp_arith! [h0, h1, hl, bl]
    rw [sLC_map (dy := none) (List.range n) (fun i : Nat => D.int (i : Int)) (fun p => D.int ((posN zs p : Nat) : Int)) (iRange_n (by simp_arith! [hl])) (still_none _ _) (by simp; omega) fun p hp => ⟨_, rfl, by
      simp_arith! [hl, h1, fIndex_nats (hm p (List.mem_range.mp hp))]⟩]
    simp_arith! []
    rw [sLC_map (dy := none) (List.range n) (fun i : Nat => D.int (i : Int)) (fun i => rowT n (fun i j => f (posN zs i) (posN zs j)) i) (iRange_n (by simp_arith! [hl])) (still_none _ _) (by simp; omega) fun i hi => ⟨_, rfl, by
      have hi := List.mem_range.mp hi
      simp_arith! [hl]
      rw [sLC_map (dy := none) (List.range n) (fun i : Nat => D.int (i : Int)) (fun j => D.int (f (posN zs i) (posN zs j))) (iRange_n (by simp_arith! [hl])) (still_none _ _) (by simp; omega) fun j hj => ⟨_, rfl, by
        have hj := List.mem_range.mp hj
        have t1 : fIx (tabT n f) (.int ((posN zs i : Nat) : Int)) st = .ok (rowT n f (posN zs i)) st := fIx_range (pb i hi)
        have t2 : fIx (rowT n f (posN zs i)) (.int ((posN zs j : Nat) : Int)) st = .ok (.int (f (posN zs i) (posN zs j))) st := fIx_range (pb j hj)
        simp_arith! [hl, h0, fIx_rangeL (φ := fun p => D.int ((posN zs p : Nat) : Int)) hi, fIx_rangeL (φ := fun p => D.int ((posN zs p : Nat) : Int)) hj, t1, t2]⟩]
      simp_arith! []⟩]
    simp_arith! []
/-! ### rows that rise -/
structure Gp (n gap i : Nat) (f : Nat → Nat → Int) : Prop where
  sy : ∀ a b, f a b = f b a
  nn : ∀ a b, 0 ≤ f a b
  up : ∀ a b, a ≤ b → f a b ≤ 4 * ((b : Int) - (a : Int))
  po : ∀ a b, a < b → b < n → (b < a + gap ∨ b = a + gap ∧ a < i) → 1 ≤ f a b
theorem Gp.init (n : Nat) : Gp n 1 0 (fun _ _ => 0) := ⟨fun _ _ => rfl, fun _ _ => Int.le_refl 0, fun a b h => by show (0 : Int) ≤ _; omega, fun a b h1 h2 h => by omega⟩
theorem Gp.next {n gap i : Nat} {f : Nat → Nat → Int} {v : Int} (h : Gp n gap i f) (hg : 1 ≤ gap) (h1 : 1 ≤ v) (h2 : v ≤ 4 * (gap : Int)) : Gp n gap (i + 1) (upd1 (upd1 f i (i + gap) v) (i + gap) i v) := by
  refine ⟨fun a b => ?_, fun a b => ?_, fun a b hab => ?_, fun a b hab hb hc => ?_⟩
  · unfold upd1
    by_cases c1 : a = i + gap ∧ b = i
    · rw [if_pos c1, if_neg (by omega), if_pos ⟨c1.2, c1.1⟩]
    · rw [if_neg c1]
      by_cases c2 : a = i ∧ b = i + gap
      · rw [if_pos c2, if_pos ⟨c2.2, c2.1⟩]
      · rw [if_neg c2, if_neg fun q => c2 ⟨q.2, q.1⟩, if_neg fun q => c1 ⟨q.2, q.1⟩]
        exact h.sy a b
  · unfold upd1
    have := h.nn a b
    split
    · omega
    · split <;> omega
  · unfold upd1
    have := h.up a b hab
    split
    · omega
    · split <;> omega
  · unfold upd1
    split
    · omega
    · split
      · omega
      · exact h.po a b hab hb (by omega)
theorem Gp.rise {n gap : Nat} {f : Nat → Nat → Int} (h : Gp n gap (n - gap) f) : Gp n (gap + 1) 0 f := ⟨h.sy, h.nn, h.up, fun a b h1 h2 h3 => h.po a b h1 h2 (by omega)⟩
theorem Gp.raw {n : Nat} {f : Nat → Nat → Int} (h : Gp n n 0 f) (hn : n ≤ 7) : RawF n 28 f := by
  refine ⟨fun a => ?_, fun a b _ _ => h.sy a b, fun a b ha hb hab => ?_⟩
  · have h1 := h.up a a (Nat.le_refl _)
    have h2 := h.nn a a
    omega
  · have key : ∀ a b, a < b → b < n → 1 ≤ f a b ∧ f a b ≤ 28 := fun a b h1 h2 => ⟨h.po a b h1 h2 (by omega), by
      have := h.up a b (by omega)
      omega⟩
    rcases Nat.lt_or_gt_of_ne hab with c | c
    · exact key a b c hb
    · rw [h.sy]; exact key b a c ha
theorem RawF.put {n : Nat} {top v : Int} {f : Nat → Nat → Int} (h : RawF n top f) {a b : Nat} (hab : a ≠ b) (h1 : 1 ≤ v) (h2 : v ≤ top) : RawF n top (upd1 (upd1 f a b v) b a v) := by
  refine ⟨fun x => ?_, fun x y hx hy => ?_, fun x y hx hy hxy => ?_⟩
  · unfold upd1
    rw [if_neg (by omega), if_neg (by omega)]
    exact h.dg x
  · unfold upd1
    by_cases c1 : x = b ∧ y = a
    · rw [if_pos c1, if_neg (by omega), if_pos ⟨c1.2, c1.1⟩]
    · rw [if_neg c1]
      by_cases c2 : x = a ∧ y = b
      · rw [if_pos c2, if_pos ⟨c2.2, c2.1⟩]
      · rw [if_neg c2, if_neg fun q => c2 ⟨q.2, q.1⟩, if_neg fun q => c1 ⟨q.2, q.1⟩]
        exact h.sy x y hx hy
  · unfold upd1
    split
    · omega
    · split
      · omega
      · exact h.po x y hx hy hxy
end Lw96
namespace Lw96
open PySem PD
variable {st : Sto}
theorem noRef_nat1 (n : Nat) : ∀ d, (∃ i : Int, d = D.int i) → noRef n d = true := by
  rintro d ⟨i, rfl⟩
  rfl
theorem noRef_rowT (m n : Nat) (f : Nat → Nat → Int) (a : Nat) : noRef m (rowT n f a) = true := noRefs_all fun d hd => by
  obtain ⟨i, _, rfl⟩ := List.mem_map.mp hd
  rfl
theorem mixed_n {o : MO} {rest : Sto} (hw : WF (o :: rest)) (ho : HandO o) (n : Nat) (hn : n ≤ 100) :
    ∃ (o' : MO) (zs : List Nat), HandO o' ∧ zs.Perm (List.range n) ∧ F_law_mixed [.ref 0, .lst ((List.range n).map fun i : Nat => D.int (i : Int))] (o :: rest) = .ok (.lst (zs.map fun i : Nat => D.int (i : Int))) (o' :: rest) := by
  obtain ⟨o3, ys, ho3, hp, e3⟩ := mixed_t hw ho ((List.range n).map fun i : Nat => D.int (i : Int)) (by simp; omega) (fun d hd n => by
    obtain ⟨i, _, rfl⟩ := List.mem_map.mp hd
    rfl) fun d hd => by
    obtain ⟨i, _, rfl⟩ := List.mem_map.mp hd
    exact fz_int _ _
  obtain ⟨zs, hz, rfl⟩ := perm_nats hp
  exact ⟨o3, zs, ho3, hz, e3⟩
theorem some_int {o : MO} {rest : Sto} (hw : WF (o :: rest)) (ho : HandO o) (xs : List Int) (h0 : xs ≠ []) (hl : xs.length ≤ 1000) : ∃ (o' : MO) (i : Int), HandO o' ∧ i ∈ xs ∧ F_law_some [.ref 0, .lst (xs.map D.int)] (o :: rest) = .ok (.int i) (o' :: rest) := by
  obtain ⟨o', x, ho', hx, e⟩ := law_some_t hw ho (xs.map D.int) (by simpa using h0) (by simpa using hl) fun d hd => by
    obtain ⟨i, _, rfl⟩ := List.mem_map.mp hd
    exact fz_int _ _
  obtain ⟨i, hi, rfl⟩ := List.mem_map.mp hx
  exact ⟨o', i, ho', hi, e⟩
theorem bMax1_lst {st : Sto} {x : D} {ns : List Int} (hx : litems st x = some (ns.map D.int)) (h : ns ≠ []) : bMax1 [x] st = .ok (.int (maxL ns)) st := by
  unfold bMax1
  have e : allInt (ns.map D.int) = some ns := by
    have := allInt_map (fun i : Int => i) ns
    rw [List.map_id'] at this
    exact this
  simp only [hx, Option.bind_some, e]
  rw [if_neg]
  cases ns with
  | nil => exact absurd rfl h
  | cons a l => simp
/-- the loops that lay the rows: rows, gap, i, near are the slots 3 to 6 -/
abbrev riseB : SS := qFor (iRange2 (aCons (sC (.int 1)) (aCons (sVar 2) aNil))) (gN 4)
    (qFor (iRange1 (aCons (s2 fSub (sVar 2) (sVar 4)) aNil)) (gN 5)
    (qSeq (qSet 6 (sLst false (aCons (s2 fIx (s2 fIx (sVar 3) (sVar 5)) (s2 fSub (s2 fAdd (sVar 5) (sVar 4)) (sC (.int 1)))) (aCons (s2 fIx (s2 fIx (sVar 3) (s2 fAdd (sVar 5) (sC (.int 1)))) (s2 fAdd (sVar 5) (sVar 4))) (aCons (sC (.int 1)) aNil)))))
    (qSeq (qSetIx (s2 fIx (sVar 3) (sVar 5)) (s2 fAdd (sVar 5) (sVar 4)) (s2 fAdd (sB bMax1 (aCons (sVar 6) aNil)) (sCall 2 F_law_some (aCons (sVar 0) (aCons (sLst false (aCons (sC (.int 0)) (aCons (sC (.int 0)) (aCons (sC (.int 1)) (aCons (sC (.int 3)) aNil))))) aNil)))))
    (qSetIx (s2 fIx (sVar 3) (s2 fAdd (sVar 5) (sVar 4))) (sVar 5) (s2 fIx (s2 fIx (sVar 3) (sVar 5)) (s2 fAdd (sVar 5) (sVar 4)))))))
theorem rise_t {o : MO} {rest : Sto} (hw : WF (o :: rest)) (ho : HandO o) {n : Nat} (n1 : 1 ≤ n) (hn : n ≤ 7) {ρ : Ev} (hl : ρ.length = 12) (h0 : ρ[0]? = some (some (.ref 0))) (h2 : ρ[2]? = some (some (.int (n : Int)))) (h3 : ρ[3]? = some (some (refsL (rest.length + 1) n))) :
    ∃ (o' : MO) (f : Nat → Nat → Int) (ρ' : Ev), HandO o' ∧ RawF n 28 f ∧ ρ'.length = 12 ∧ ρ'[0]? = some (some (.ref 0)) ∧ ρ'[2]? = some (some (.int (n : Int))) ∧ ρ'[3]? = some (some (refsL (rest.length + 1) n)) ∧
      riseB ρ (o :: (rest ++ rowsG n (intG fun _ _ => 0))) = some (.nx ρ', o' :: (rest ++ rowsG n (intG f))) := by
  have z2 := sizeLine_eq
  unfold riseB
  rw [qFor_e, iRange2_n (i := 1) (n := n) (by simp_arith! [h2]; rfl)]
  simp_arith! []
  generalize hL : loopFor _ _ _ _ _ _ _ _ = R
  obtain ⟨ρ', st', rfl, q, o1, f, hd, ho1, hf, kl, k0, k2, k3, rfl⟩ := for_all_e hL (rng 1 n) (fun i : Nat => D.int (i : Int)) rfl (by simp) (fun r ρ st' => ∃ (q : List Nat) (o1 : MO) (f : Nat → Nat → Int), rng 1 n = q ++ r ∧ HandO o1 ∧ Gp n (1 + q.length) 0 f ∧ ρ.length = 12 ∧ ρ[0]? = some (some (.ref 0)) ∧ ρ[2]? = some (some (.int (n : Int))) ∧ ρ[3]? = some (some (refsL (rest.length + 1) n)) ∧ st' = o1 :: (rest ++ rowsG n (intG f))) (fun _ _ _ _ => still_none _ _) ⟨[], o, fun _ _ => 0, rfl, ho, Gp.init n, hl, h0, h2, h3, rfl⟩ (by
    rintro x r ρ st' ⟨q, o1, f, hd, ho1, hf, kl, k0, k2, k3, rfl⟩
    obtain ⟨ex, hx⟩ := rng_step hd
    rw [← ex] at hf
    refine ⟨_, rfl, ?_⟩
    generalize hM : qFor _ _ _ _ _ = R2
    have en : (n : Int) - (x : Int) = ((n - x : Nat) : Int) := by omega
    rw [qFor_e, iRange_n (n := n - x) (by simp_arith! [kl, k2, en])] at hM
    simp_arith! [] at hM
    obtain ⟨ρ', st', rfl, i, o2, g, hd2, ho2, hg, jl, j0, j2, j3, j4, rfl⟩ := for_all_e hM (List.range (n - x)) (fun i : Nat => D.int (i : Int)) rfl (by simp) (fun r ρ st' => ∃ (i : Nat) (o2 : MO) (g : Nat → Nat → Int), List.range (n - x) = List.range i ++ r ∧ HandO o2 ∧ Gp n x i g ∧ ρ.length = 12 ∧ ρ[0]? = some (some (.ref 0)) ∧ ρ[2]? = some (some (.int (n : Int))) ∧ ρ[3]? = some (some (refsL (rest.length + 1) n)) ∧ ρ[4]? = some (some (.int (x : Int))) ∧ st' = o2 :: (rest ++ rowsG n (intG g))) (fun _ _ _ _ => still_none _ _) ⟨0, o1, f, by simp, ho1, hf, by simp_arith! [kl], by simp_arith! [k0], by simp_arith! [k2], by simp_arith! [k3], by simp_arith! [kl], rfl⟩ (by
      rintro y r2 ρ st' ⟨i, o2, g, hd2, ho2, hg, jl, j0, j2, j3, j4, rfl⟩
      obtain ⟨rfl, hi, hd2⟩ := range_step hd2
      have wo2 := wf_hand hw ho2
      obtain ⟨o3, w, ho3, hwm, e3⟩ := some_int (rest := rest ++ rowsG n (intG g)) (wf_rowsG wo2 (noRef_intG g)) ho2 [0, 0, 1, 3] (by simp) (by simp)
      have e3 : F_law_some [.ref 0, .lst [.int 0, .int 0, .int 1, .int 3]] (o2 :: (rest ++ rowsG n (intG g))) = .ok (.int w) (o3 :: (rest ++ rowsG n (intG g))) := e3
      have w03 : 0 ≤ w ∧ w ≤ 3 := by
        simp only [List.mem_cons, List.not_mem_nil, or_false] at hwm
        omega
      have c1 : ∀ (o : MO) (a : Nat) (f : Nat → Nat → Int), a < n → ∀ b, b < n → fIx (.ref (rest.length + 1 + a)) (.int (b : Int)) (o :: (rest ++ rowsG n (intG f))) = .ok (.int (f a b)) (o :: (rest ++ rowsG n (intG f))) := fun o a f ha b hb => fIx_rowG (st := o :: rest) (F := intG f) ha hb
      have c2 : ∀ (o : MO) (a : Nat) (f : Nat → Nat → Int) (v : Int), a < n → ∀ b, b < n → fSetIx (.ref (rest.length + 1 + a)) (.int (b : Int)) (.int v) (o :: (rest ++ rowsG n (intG f))) = some (o :: (rest ++ rowsG n (intG (upd1 f a b v)))) := fun o a f v ha b hb => by
        have := fSetIx_rowG (st := o :: rest) (F := intG f) (v := .int v) ha hb
        rw [updG_int] at this
        exact this
      have x1 : 1 ≤ x := by omega
      have a1 : y < n := by omega
      have a2 : y + 1 < n := by omega
      have a3 : y + x < n := by omega
      have a4 : y + x - 1 < n := by omega
      have i1 : ((y : Nat) : Int) + (x : Int) = ((y + x : Nat) : Int) := by omega
      have i2 : ((y + x : Nat) : Int) - 1 = ((y + x - 1 : Nat) : Int) := by omega
      have i3 : ((y : Nat) : Int) + 1 = ((y + 1 : Nat) : Int) := by omega
      obtain ⟨m1, m2⟩ := maxL_spec (l := [g y (y + x - 1), g (y + 1) (y + x), 1]) (by simp)
      have m0 := m2 1 (by simp)
      have mx := bMax1_lst (st := o2 :: (rest ++ rowsG n (intG g))) (x := .lst [.int (g y (y + x - 1)), .int (g (y + 1) (y + x)), .int 1]) (ns := [g y (y + x - 1), g (y + 1) (y + x), 1]) rfl (by simp)
      generalize maxL [g y (y + x - 1), g (y + 1) (y + x), 1] = mm at m1 m0 mx
      have u1 := hg.up y (y + x - 1) (by omega)
      have u2 := hg.up (y + 1) (y + x) (by omega)
      have mb : mm ≤ 4 * (x : Int) - 3 := by
        simp only [List.mem_cons, List.not_mem_nil, or_false] at m1
        omega
      have e1 : upd1 g y (y + x) (mm + w) y (y + x) = mm + w := by simp [upd1]
      refine ⟨_, rfl, (ρ.set 5 (some (.int (y : Int)))).set 6 (some (.lst [.int (g y (y + x - 1)), .int (g (y + 1) (y + x)), .int 1])), o3 :: (rest ++ rowsG n (intG (upd1 (upd1 g y (y + x) (mm + w)) (y + x) y (mm + w)))), .inl ?_, y + 1, o3, _, hd2, ho3, hg.next x1 (by omega) (by omega), by simp_arith! [jl], by simp_arith! [j0], by simp_arith! [j2], by simp_arith! [j3], by simp_arith! [j4], rfl⟩
      simp_arith! [jl, j0, j2, j3, j4, i1, i2, i3, fIx_refs a1, fIx_refs a2, fIx_refs a3, c1 _ y _ a1 _ a4, c1 _ (y + 1) _ a2 _ a3, mx, e3, c2 _ y _ _ a1 _ a3, c1 _ y _ a1 _ a3, e1, c2 _ (y + x) _ _ a3 _ a1])
    have := range_end hd2
    subst this
    refine ⟨_, _, .inl rfl, q ++ [x], o2, g, by rw [hd]; simp, ho2, ?_, jl, j0, j2, j3, rfl⟩
    have := hg.rise
    rw [List.length_append, List.length_singleton, show 1 + (q.length + 1) = x + 1 by omega]
    exact this)
  have hlen := congrArg List.length hd
  rw [rng_len, List.append_nil] at hlen
  rw [show 1 + q.length = n by omega] at hf
  exact ⟨o1, f, ρ', ho1, hf.raw hn, kl, k0, k2, k3, rfl⟩
end Lw96
namespace Lw96
open PySem PD
variable {st : Sto}
theorem rowS_get {o : MO} {rest ex : Sto} {n a : Nat} (f : Nat → Nat → Int) (h : a < n) : (o :: (rest ++ rowsG n (intG f) ++ ex))[rest.length + 1 + a]? = some (.lst (rowG n (intG f a))) := by
  have := rowsG_get (n := n) (intG f) (o :: rest) h
  rw [show o :: (rest ++ rowsG n (intG f) ++ ex) = ((o :: rest) ++ rowsG n (intG f)) ++ ex from rfl, List.getElem?_append_left (by rw [List.length_append, rowsG_len, List.length_cons]; omega)]
  exact this
theorem fIx_rowS {o : MO} {rest ex : Sto} {n a b : Nat} (f : Nat → Nat → Int) (h : a < n) (hb : b < n) : fIx (.ref (rest.length + 1 + a)) (.int (b : Int)) (o :: (rest ++ rowsG n (intG f) ++ ex)) = .ok (.int (f a b)) (o :: (rest ++ rowsG n (intG f) ++ ex)) :=
  fIx_at (items_ref (rowS_get f h)) (rowG_get (intG f a) hb)
def highF (f : Nat → Nat → Int) (h : Int) (a b : Nat) : Int := f a b + h * (if a ≠ b then 1 else 0)
theorem RawF.high {n : Nat} {top h : Int} {f : Nat → Nat → Int} (r : RawF n top f) (h0 : 0 ≤ h) : RawF n (top + h) (highF f h) := by
  refine ⟨fun a => ?_, fun a b ha hb => ?_, fun a b ha hb hab => ?_⟩
  · unfold highF
    rw [if_neg (by simp), r.dg]
    omega
  · unfold highF
    rw [r.sy a b ha hb]
    by_cases e : a = b
    · subst e; rfl
    · rw [if_pos e, if_pos fun q => e q.symm]
  · have := r.po a b ha hb hab
    unfold highF
    rw [if_pos hab]
    omega
theorem drawn_table_t {o : MO} {rest : Sto} (hw : WF (o :: rest)) (ho : HandO o) {m : Nat} (m1 : 1 ≤ m) (m7 : m ≤ 7) : DrawsT F_law_drawn_table [.ref 0, .int (m : Int)] o rest m := by
  have z2 := sizeLine_eq
  have body : ∃ (o' : MO) (n : Nat) (f : Nat → Nat → Int) (ex : Sto), HandO o' ∧ TabP n f ∧ Tri n f ∧ n ≤ m ∧ b_law_drawn_table (startD 12 [.ref 0, .int (m : Int)]) (o :: rest) = some (.rt (tabT n f), (o' :: rest) ++ ex) := by
    have h0 : (startD 12 [.ref 0, .int (m : Int)])[0]? = some (some (.ref 0)) := rfl
    have h1 : (startD 12 [.ref 0, .int (m : Int)])[1]? = some (some (.int (m : Int))) := rfl
    have hl : (startD 12 [.ref 0, .int (m : Int)]).length = 12 := rfl
    generalize startD 12 [.ref 0, .int (m : Int)] = ρ at h0 h1 hl
    obtain ⟨o1, d1, ho1, hd1, e1⟩ := draw_n hw ho (m := 3) (by omega) (by omega)
    have e1 : F_law_draw [.ref 0, .int 3] (o :: rest) = .ok (.int (d1 : Int)) (o1 :: rest) := e1
    have hw1 := wf_hand hw ho1
    unfold b_law_drawn_table
    by_cases c1 : d1 = 0
    · have c1 : ((d1 : Nat) : Int) = 0 := by omega
      obtain ⟨o2, d, ho2, hd, e2⟩ := draw_n hw1 ho1 (m := m) (by omega) (by omega)
      obtain ⟨o3, top, ho3, htop, e3⟩ := some_int (wf_hand hw1 ho2) ho2 [2, 4, 30] (by simp) (by simp)
      have e3 : F_law_some [.ref 0, .lst [.int 2, .int 4, .int 30]] (o2 :: rest) = .ok (.int top) (o3 :: rest) := e3
      have ht : 0 < top ∧ top ≤ 1000 := by
        simp only [List.mem_cons, List.not_mem_nil, or_false] at htop
        omega
      obtain ⟨o4, f, g, ho4, p1, p2, e4, e5⟩ := any_closed_t (wf_hand hw1 ho3) ho3 (n := 1 + d) (by omega) (by omega) ht.1 ht.2
      have ed : (1 : Int) + (d : Int) = ((1 + d : Nat) : Int) := by omega
      refine ⟨o4, 1 + d, g, [], ho4, p1, p2, by omega, ?_⟩
      simp_arith! [h0, h1, hl, e1, c1, e2, ed, e3, e4, e5]
      rw [List.append_nil]
    · have c1 : ¬ ((d1 : Nat) : Int) = 0 := by omega
      obtain ⟨o2, d2, ho2, hd2, e2⟩ := draw_n hw1 ho1 (m := 2) (by omega) (by omega)
      have e2 : F_law_draw [.ref 0, .int 2] (o1 :: rest) = .ok (.int (d2 : Int)) (o2 :: rest) := e2
      have hw2 := wf_hand hw ho2
      by_cases c2 : d2 = 0
      · have c2 : ((d2 : Nat) : Int) = 0 := by omega
        obtain ⟨o3, n, f, ho3, p1, p2, p3, e3⟩ := law_table_t hw2 ho2 m1 m7
        refine ⟨o3, n, f, [], ho3, p1, p2, p3, ?_⟩
        simp_arith! [h0, h1, hl, e1, c1, e2, c2, e3]
        rw [List.append_nil]
      · have c2 : ¬ ((d2 : Nat) : Int) = 0 := by omega
        obtain ⟨o3, d, ho3, hd, e3⟩ := draw_n hw2 ho2 (m := m) (by omega) (by omega)
        have hw3 := wf_hand hw ho3
        have ed : (1 : Int) + (d : Int) = ((1 + d : Nat) : Int) := by omega
        generalize hn : 1 + d = n at ed
        have nm : n ≤ m := by omega
        rw [qSeq_e]
        have st1 : qIf (tBl (s2 fEq (sCall 2 F_law_draw (aCons (sVar 0) (aCons (sC (.int 3)) aNil))) (sC (.int 0)))) (qRet (sCall 1 F_law_closed (aCons (sCall 3 F_law_any_table (aCons (sVar 0) (aCons (s2 fAdd (sC (.int 1)) (sCall 2 F_law_draw (aCons (sVar 0) (aCons (sVar 1) aNil)))) (aCons (sCall 2 F_law_some (aCons (sVar 0) (aCons (sLst false (aCons (sC (.int 2)) (aCons (sC (.int 4)) (aCons (sC (.int 30)) aNil)))) aNil))) aNil)))) aNil))) qNext ρ (o :: rest) = some (.nx ρ, o1 :: rest) := by
          simp_arith! [h0, e1, c1]
        rw [st1, then_nx, qSeq_e]
        have st2 : qIf (tBl (s2 fEq (sCall 2 F_law_draw (aCons (sVar 0) (aCons (sC (.int 2)) aNil))) (sC (.int 0)))) (qRet (sCall 2 F_law_table (aCons (sVar 0) (aCons (sVar 1) aNil)))) qNext ρ (o1 :: rest) = some (.nx ρ, o2 :: rest) := by
          simp_arith! [h0, e2, c2]
        rw [st2, then_nx, qSeq_e]
        have st3 : qSet 2 (s2 fAdd (sC (.int 1)) (sCall 2 F_law_draw (aCons (sVar 0) (aCons (sVar 1) aNil)))) ρ (o2 :: rest) = some (.nx (ρ.set 2 (some (.int (n : Int)))), o3 :: rest) := by
          simp_arith! [h0, h1, e3, ed]
        rw [st3, then_nx, qSeq_e, qSet_e]
        rw [sLC_alloc (List.range n) (fun i : Nat => D.int (i : Int)) (fun _ => .lst (rowG n fun _ => .int 0)) (iRange_n (by simp_arith! [hl])) (by simp; omega) fun a _ st => ⟨_, rfl, by
          simp_arith! [hl, fRep_G n (by omega)]⟩]
        rw [show ((List.range n).map fun _ => MO.lst (rowG n fun _ => D.int 0)) = rowsG n (intG fun _ _ => 0) from rfl]
        have hRL : (o3 :: rest).length = rest.length + 1 := rfl
        rw [hRL, List.length_range, st_ok, then_nx, qSeq_e]
        rw [show (o3 :: rest) ++ rowsG n (intG fun _ _ => 0) = o3 :: (rest ++ rowsG n (intG fun _ _ => 0)) from rfl]
        obtain ⟨o4, f4, ρ4, ho4, hf4, kl, k0, k2, k3, e4⟩ := rise_t hw3 ho3 (n := n) (ρ := (ρ.set 2 (some (.int (n : Int)))).set 3 (some (refsL (rest.length + 1) n))) (by omega) (by omega) (by simp_arith! [hl]) (by simp_arith! [h0]) (by simp_arith! [hl]) (by simp_arith! [hl])
        unfold riseB at e4
        rw [e4, then_nx, qSeq_e]
        clear st1 st2 st3 e4
        have c1 : ∀ (o : MO) (a : Nat) (f : Nat → Nat → Int), a < n → ∀ b, b < n → fIx (.ref (rest.length + 1 + a)) (.int (b : Int)) (o :: (rest ++ rowsG n (intG f))) = .ok (.int (f a b)) (o :: (rest ++ rowsG n (intG f))) := fun o a f ha b hb => fIx_rowG (st := o :: rest) (F := intG f) ha hb
        have c2 : ∀ (o : MO) (a : Nat) (f : Nat → Nat → Int) (v : Int), a < n → ∀ b, b < n → fSetIx (.ref (rest.length + 1 + a)) (.int (b : Int)) (.int v) (o :: (rest ++ rowsG n (intG f))) = some (o :: (rest ++ rowsG n (intG (upd1 f a b v)))) := fun o a f v ha b hb => by
          have := fSetIx_rowG (st := o :: rest) (F := intG f) (v := .int v) ha hb
          rw [updG_int] at this
          exact this
        have wfr : ∀ (o : MO) (f : Nat → Nat → Int), HandO o → WF (o :: (rest ++ rowsG n (intG f))) := fun o f ho => wf_rowsG (wf_hand hw ho) (noRef_intG f)
        have rgn : ∀ st, ((if (0 : Int) ≤ (n : Int) ∧ (n : Int) ≤ ((16777216 : Nat) : Int) then Out.ok (D.lst (rangeL 0 (Int.toNat (n : Int)))) st else Out.bad) : Out D) = .ok (.lst ((List.range n).map fun i : Nat => D.int (i : Int))) st := fun st => by
          rw [if_pos (by omega), rangeL_0]
        -- one place more
        obtain ⟨o6, f6, ρ6, ho6, hf6, l6, q0, q2, q3, e6⟩ : ∃ (o6 : MO) (f6 : Nat → Nat → Int) (ρ6 : Ev), HandO o6 ∧ RawF n 28 f6 ∧ ρ6.length = 12 ∧ ρ6[0]? = some (some (.ref 0)) ∧ ρ6[2]? = some (some (.int (n : Int))) ∧ ρ6[3]? = some (some (refsL (rest.length + 1) n)) ∧
            qIf (tAndD (tBl (s2 fEq (sCall 2 F_law_draw (aCons (sVar 0) (aCons (sC (.int 4)) aNil))) (sC (.int 0)))) (tBl (s2 fGt (sVar 2) (sC (.int 2))))) (qSeq (qAsg (gT2L (gN 5) (gN 7)) (sSlice false (sCall 2 F_law_mixed (aCons (sVar 0) (aCons (sListR1 false (sVar 2)) aNil))) oNone (oInt (sC (.int 2)))))
    (qSeq (qSetIx (s2 fIx (sVar 3) (sVar 5)) (sVar 7) (s2 fAdd (sC (.int 1)) (sCall 2 F_law_draw (aCons (sVar 0) (aCons (sC (.int 6)) aNil)))))
    (qSetIx (s2 fIx (sVar 3) (sVar 7)) (sVar 5) (s2 fIx (s2 fIx (sVar 3) (sVar 5)) (sVar 7))))) qNext ρ4 (o4 :: (rest ++ rowsG n (intG f4))) = some (.nx ρ6, o6 :: (rest ++ rowsG n (intG f6))) := by
          obtain ⟨o5, d5, ho5, hd5, e5⟩ := draw_n (wfr o4 f4 ho4) ho4 (m := 4) (by omega) (by omega)
          have e5 : F_law_draw [.ref 0, .int 4] (o4 :: (rest ++ rowsG n (intG f4))) = .ok (.int (d5 : Int)) (o5 :: (rest ++ rowsG n (intG f4))) := e5
          by_cases c5 : d5 = 0
          · have c5 : ((d5 : Nat) : Int) = 0 := by omega
            by_cases c3 : 2 < n
            · have c3' : decide ((2 : Int) < (n : Int)) = true := decide_eq_true (by omega)
              obtain ⟨o7, zs, ho7, hz, e7⟩ := mixed_n (wfr o5 f4 ho5) ho5 n (by omega)
              have zl : zs.length = n := by rw [hz.length_eq, List.length_range]
              have nd : zs.Nodup := (hz.nodup_iff).mpr List.nodup_range
              obtain ⟨a, b, r, rfl⟩ : ∃ a b r, zs = a :: b :: r := by
                cases zs with
                | nil => simp at zl; omega
                | cons a zs => cases zs with
                  | nil => simp at zl; omega
                  | cons b r => exact ⟨a, b, r, rfl⟩
              have ha : a < n := List.mem_range.mp (hz.mem_iff.mp (by simp))
              have hb : b < n := List.mem_range.mp (hz.mem_iff.mp (by simp))
              have hab : a ≠ b := fun e => by
                subst e
                simp at nd
              obtain ⟨o8, d8, ho8, hd8, e8⟩ := draw_n (wfr o7 f4 ho7) ho7 (m := 6) (by omega) (by omega)
              have e8 : F_law_draw [.ref 0, .int 6] (o7 :: (rest ++ rowsG n (intG f4))) = .ok (.int (d8 : Int)) (o8 :: (rest ++ rowsG n (intG f4))) := e8
              have ct : cutD (((a :: b :: r) : List Nat).map fun i : Nat => D.int (i : Int)) none (some 2) = [.int (a : Int), .int (b : Int)] := cut_to _ 2
              have eu : upd1 f4 a b (1 + (d8 : Int)) a b = 1 + (d8 : Int) := by simp [upd1]
              refine ⟨o8, upd1 (upd1 f4 a b (1 + (d8 : Int))) b a (1 + (d8 : Int)), (ρ4.set 5 (some (.int (a : Int)))).set 7 (some (.int (b : Int))), ho8, hf4.put hab (by omega) (by omega), by simp_arith! [kl], by simp_arith! [k0], by simp_arith! [k2], by simp_arith! [k3], ?_⟩
              simp_arith! [k0, k2, k3, kl, e5, c5, c3', rgn, e7, ct, gT2L_e, e8, fIx_refs ha, fIx_refs hb, c2 _ a _ _ ha _ hb, c1 _ a _ ha _ hb, eu, c2 _ b _ _ hb _ ha]
            · have c3' : decide ((2 : Int) < (n : Int)) = false := decide_eq_false (by omega)
              refine ⟨o5, f4, ρ4, ho5, hf4, kl, k0, k2, k3, ?_⟩
              simp_arith! [k0, k2, e5, c5, c3']
          · have c5 : ¬ ((d5 : Nat) : Int) = 0 := by omega
            refine ⟨o5, f4, ρ4, ho5, hf4, kl, k0, k2, k3, ?_⟩
            simp_arith! [k0, k2, e5, c5]
        rw [e6, then_nx, qSeq_e]
        clear e6
        have a1 : 1 ≤ n := by omega
        -- how high
        obtain ⟨o7, hi, ho7, hi0, hi1, e7⟩ : ∃ (o7 : MO) (hi : Int), HandO o7 ∧ 0 ≤ hi ∧ hi ≤ 28 ∧ sIf (tBl (s2 fEq (sCall 2 F_law_draw (aCons (sVar 0) (aCons (sC (.int 2)) aNil))) (sC (.int 0)))) (sB bMax1 (aCons (sLC false (iSeq (sVar 3)) (gN 11) tYesD (sB bMax1 (aCons (sVar 11) aNil)) [11]) aNil)) (sC (.int 0)) ρ6 (o6 :: (rest ++ rowsG n (intG f6))) = .ok (.int hi) (o7 :: (rest ++ rowsG n (intG f6))) := by
          obtain ⟨o5, d5, ho5, hd5, e5⟩ := draw_n (wfr o6 f6 ho6) ho6 (m := 2) (by omega) (by omega)
          have e5 : F_law_draw [.ref 0, .int 2] (o6 :: (rest ++ rowsG n (intG f6))) = .ok (.int (d5 : Int)) (o5 :: (rest ++ rowsG n (intG f6))) := e5
          by_cases c5 : d5 = 0
          · have c5 : ((d5 : Nat) : Int) = 0 := by omega
            have nr : ∀ a, ((List.range n).map fun b => f6 a b) ≠ [] := fun a e => by
              have := congrArg List.length e
              rw [List.length_map, List.length_range, List.length_nil] at this
              omega
            have nr2 : ((List.range n).map fun a => maxL ((List.range n).map fun b => f6 a b)) ≠ [] := fun e => by
              have := congrArg List.length e
              rw [List.length_map, List.length_range, List.length_nil] at this
              omega
            have bnd : ∀ a, a < n → 0 ≤ maxL ((List.range n).map fun b => f6 a b) ∧ maxL ((List.range n).map fun b => f6 a b) ≤ 28 := fun a ha => by
              obtain ⟨s1, s2⟩ := maxL_spec (nr a)
              obtain ⟨b, hb, eb⟩ := List.mem_map.mp s1
              have hb := List.mem_range.mp hb
              rw [← eb]
              by_cases e : a = b
              · subst e; rw [hf6.dg]; omega
              · have := hf6.po a b ha hb e; omega
            obtain ⟨s1, s2⟩ := maxL_spec nr2
            obtain ⟨a, ha, ea⟩ := List.mem_map.mp s1
            have ha := bnd a (List.mem_range.mp ha)
            refine ⟨o5, maxL ((List.range n).map fun a => maxL ((List.range n).map fun b => f6 a b)), ho5, by omega, by omega, ?_⟩
            simp_arith! [q0, q3, e5, c5]
            rw [sLC_map (dy := none) (List.range n) (fun a => D.ref (rest.length + 1 + a)) (fun a => D.int (maxL ((List.range n).map fun b => f6 a b))) (by simp_arith! [iSeq_e, q3]) (still_none _ _) (by simp; omega) fun a ha => ⟨_, rfl, by
              have ha := List.mem_range.mp ha
              have g := rowS_get (o := o5) (rest := rest) (ex := []) (n := n) f6 ha
              rw [List.append_nil] at g
              simp_arith! [l6]
              exact bMax1_lst (by rw [litems_ref g, List.map_map]; rfl) (nr a)⟩]
            simp_arith! []
            exact bMax1_lst (by rw [litems_lst, List.map_map]; rfl) nr2
          · have c5 : ¬ ((d5 : Nat) : Int) = 0 := by omega
            refine ⟨o5, 0, ho5, by omega, by omega, ?_⟩
            simp_arith! [q0, q3, e5, c5]
        rw [qSet_e, e7, st_ok, then_nx, qSeq_e]
        clear e7
        have hf7 := hf6.high hi0
        have wln : (o7 :: (rest ++ rowsG n (intG f6))).length = rest.length + 1 + n := by
          rw [List.length_cons, List.length_append, rowsG_len]
          omega
        have wA : qSet 9 (sLst true aNil) (ρ6.set 8 (some (.int hi))) (o7 :: (rest ++ rowsG n (intG f6))) = some (.nx ((ρ6.set 8 (some (.int hi))).set 9 (some (.ref (rest.length + 1 + n)))), o7 :: (rest ++ rowsG n (intG f6) ++ [.lst []])) := by
          simp_arith! []
          rw [show (rest ++ rowsG n (intG f6)).length + 1 = rest.length + 1 + n from wln]
          rfl
        rw [wA, then_nx, qSeq_e, qFor_e, iRange_n (n := n) (by simp_arith! [q2])]
        simp_arith! []
        generalize hG : loopFor _ _ _ _ _ _ _ _ = R
        obtain ⟨ρ', st', rfl, i, hdi, jl, j0, j2, j3, j8, j9, rfl⟩ := for_all_e hG (List.range n) (fun i : Nat => D.int (i : Int)) rfl (by simp) (fun r ρ st' => ∃ i, List.range n = List.range i ++ r ∧ ρ.length = 12 ∧ ρ[0]? = some (some (.ref 0)) ∧ ρ[2]? = some (some (.int (n : Int))) ∧ ρ[3]? = some (some (refsL (rest.length + 1) n)) ∧ ρ[8]? = some (some (.int hi)) ∧ ρ[9]? = some (some (.ref (rest.length + 1 + n))) ∧ st' = o7 :: (rest ++ rowsG n (intG f6) ++ [.lst ((List.range i).map fun a => rowT n (highF f6 hi) a)])) (fun _ _ _ _ => still_none _ _) ⟨0, by simp, by simp_arith! [l6], by simp_arith! [q0], by simp_arith! [q2], by simp_arith! [q3], by simp_arith! [l6], by simp_arith! [l6], rfl⟩ (by
          rintro y r ρ st' ⟨i, hdi, jl, j0, j2, j3, j8, j9, rfl⟩
          obtain ⟨rfl, hy, hdi⟩ := range_step hdi
          have g9 : (o7 :: (rest ++ rowsG n (intG f6) ++ [.lst ((List.range y).map fun a => rowT n (highF f6 hi) a)]))[rest.length + 1 + n]? = some (.lst ((List.range y).map fun a => rowT n (highF f6 hi) a)) := by
            rw [← wln]
            exact sto_get1 (o7 :: (rest ++ rowsG n (intG f6))) _
          have s9 : (o7 :: (rest ++ rowsG n (intG f6) ++ [.lst ((List.range y).map fun a => rowT n (highF f6 hi) a)])).set (rest.length + 1 + n) (.lst ((List.range y).map (fun a => rowT n (highF f6 hi) a) ++ [rowT n (highF f6 hi) y])) = o7 :: (rest ++ rowsG n (intG f6) ++ [.lst ((List.range (y + 1)).map fun a => rowT n (highF f6 hi) a)]) := by
            rw [← wln, List.range_succ, List.map_append]
            exact sto_set1 (o7 :: (rest ++ rowsG n (intG f6))) _ _
          refine ⟨_, rfl, ρ.set 5 (some (.int (y : Int))), _, .inl ?_, y + 1, hdi, by simp_arith! [jl], by simp_arith! [j0], by simp_arith! [j2], by simp_arith! [j3], by simp_arith! [j8], by simp_arith! [j9], rfl⟩
          simp_arith! [jl, j9, litems_ref g9]
          rw [sLC_map (dy := none) (List.range n) (fun i : Nat => D.int (i : Int)) (fun b => D.int (highF f6 hi y b)) (iRange_n (by simp_arith! [j2])) (still_none _ _) (by simp; omega) fun b hb => ⟨_, rfl, by
            have hb := List.mem_range.mp hb
            have ne : bInt [D.bl (!decide ((y : Int) = (b : Int)))] (o7 :: (rest ++ rowsG n (intG f6) ++ [.lst ((List.range y).map fun a => rowT n (highF f6 hi) a)])) = .ok (.int (if y ≠ b then 1 else 0)) (o7 :: (rest ++ rowsG n (intG f6) ++ [.lst ((List.range y).map fun a => rowT n (highF f6 hi) a)])) := by
              by_cases e : y = b
              · subst e
                rw [if_neg (by simp), decide_eq_true rfl]
                rfl
              · rw [if_pos e, decide_eq_false (by omega)]
                rfl
            have mu : fMul (.int hi) (.int (if y ≠ b then 1 else 0)) (o7 :: (rest ++ rowsG n (intG f6) ++ [.lst ((List.range y).map fun a => rowT n (highF f6 hi) a)])) = .ok (.int (hi * if y ≠ b then 1 else 0)) (o7 :: (rest ++ rowsG n (intG f6) ++ [.lst ((List.range y).map fun a => rowT n (highF f6 hi) a)])) := fMul_i (.inl (small_c (by omega) (by omega)))
            generalize hz : (if y ≠ b then (1 : Int) else 0) = z at ne mu
            simp_arith! [jl, j3, j8, fIx_refs hy, fIx_rowS f6 hy hb, ne, mu]
            unfold highF
            rw [hz]⟩]
          simp_arith! []
          rw [show (D.tup ((List.range n).map fun b => D.int (highF f6 hi y b))) = rowT n (highF f6 hi) y from rfl, fAppend_ref g9 (by simp; omega), s9]
          simp_arith! [])
        have := range_end hdi
        subst this
        have wfw : ∀ o, HandO o → WF (o :: (rest ++ rowsG i (intG f6) ++ [.lst ((List.range i).map fun a => rowT i (highF f6 hi) a)])) := fun o ho => wf_append (wfr o f6 ho) fun o ho m => by
          rw [List.mem_singleton.mp ho]
          exact noRefs_all fun d hd => by
            obtain ⟨a, _, rfl⟩ := List.mem_map.mp hd
            exact noRef_rowT _ _ _ _
        have g9 : (o7 :: (rest ++ rowsG i (intG f6) ++ [.lst ((List.range i).map fun a => rowT i (highF f6 hi) a)]))[rest.length + 1 + i]? = some (.lst ((List.range i).map fun a => rowT i (highF f6 hi) a)) := by
          rw [← wln]
          exact sto_get1 (o7 :: (rest ++ rowsG i (intG f6))) _
        obtain ⟨mt, t1, t2, _⟩ := raw_closed hf7 a1 (by omega) (by omega)
        have ec := closed_t (wfw o7 ho7) (n := i) (by omega) mt
        obtain ⟨o8, zs, ho8, hz, e8⟩ := mixed_n (wfw o7 ho7) ho7 i (by omega)
        obtain ⟨g, p1, p2, e9⟩ := renamed_t (wfw o8 ho8) t1 t2 hz
        refine ⟨o8, i, g, rowsG i (intG f6) ++ [.lst ((List.range i).map fun a => rowT i (highF f6 hi) a)], ho8, p1, p2, nm, ?_⟩
        have bt : bTuple [.ref (rest.length + 1 + i)] (o7 :: (rest ++ rowsG i (intG f6) ++ [.lst ((List.range i).map fun a => rowT i (highF f6 hi) a)])) = .ok (tabT i (highF f6 hi)) (o7 :: (rest ++ rowsG i (intG f6) ++ [.lst ((List.range i).map fun a => rowT i (highF f6 hi) a)])) := bTuple_ref g9
        simp_arith! [j0, j2, j9, bt, ec, rgn, e8, e9]
        rw [List.append_assoc]
        rfl
  obtain ⟨o', n, f, ex, h1, h2, h3, h4, h5⟩ := body
  exact ⟨o', n, f, h1, h2, h3, h4, defFin_rt h5 rfl (wf_hand hw h1) (fz_tabT 58 _ _ _ _)⟩
end Lw96
namespace Lw96
open PySem PD
variable {st : Sto}
/-! ### all rows -/
def stepR (n : Nat) (w : List Nat) : List (List Nat) := ((List.range n).filter fun x => !decide (x ∈ w)).map fun x => w ++ [x]
def permsR (n : Nat) : Nat → List (List Nat)
  | 0 => [[]]
  | k + 1 => (permsR n k).flatMap (stepR n)
theorem permsR_ok (n : Nat) : ∀ (k : Nat) (w : List Nat), w ∈ permsR n k → w.length = k ∧ w.Nodup ∧ ∀ x ∈ w, x < n
  | 0, w, h => by
    rw [List.mem_singleton.mp h]
    exact ⟨rfl, List.nodup_nil, fun x h => by simp at h⟩
  | k + 1, w, h => by
    obtain ⟨v, hv, h⟩ := List.mem_flatMap.mp h
    obtain ⟨x, hx, rfl⟩ := List.mem_map.mp h
    obtain ⟨h1, h2⟩ := List.mem_filter.mp hx
    obtain ⟨i1, i2, i3⟩ := permsR_ok n k v hv
    have nx : x ∉ v := fun q => by
      rw [decide_eq_true q] at h2
      exact absurd h2 (by decide)
    refine ⟨by rw [List.length_append, i1]; rfl, List.nodup_append.mpr ⟨i2, by simp, fun a ha b hb => ?_⟩, fun y hy => ?_⟩
    · rw [List.mem_singleton.mp hb]
      intro e
      exact nx (e ▸ ha)
    · rcases List.mem_append.mp hy with q | q
      · exact i3 y q
      · rw [List.mem_singleton.mp q]; exact List.mem_range.mp h1
theorem permsR_len {n k : Nat} (hn : n ≤ 5) (hk : k ≤ n) : 0 < (permsR n k).length ∧ (permsR n k).length ≤ 120 := by
  have : (List.range 6).all (fun n => (List.range (n + 1)).all fun k => decide (0 < (permsR n k).length) && decide ((permsR n k).length ≤ 120)) = true := by decide +kernel
  have h := List.all_eq_true.mp (List.all_eq_true.mp this n (List.mem_range.mpr (by omega))) k (List.mem_range.mpr (by omega))
  obtain ⟨h1, h2⟩ := Bool.and_eq_true_iff.mp h
  exact ⟨of_decide_eq_true h1, of_decide_eq_true h2⟩
theorem fNotIn_natsR (st : Sto) (m : Nat) (l : List Nat) : fNotIn (.int (m : Int)) (nats l) st = .ok (.bl (!decide (m ∈ l))) st := fNotIn_nats st m l
theorem law_rows_t (hw : WF st) {n : Nat} (hn : n ≤ 5) : F_law_rows [.int (n : Int)] st = .ok (.lst ((permsR n n).map nats)) st := by
  have z2 := sizeLine_eq
  have body : ∃ ex, b_law_rows (startD 6 [.int (n : Int)]) st = some (.rt (if n = 0 then .lst [nats []] else .ref (st.length + (n - 1))), st ++ ex) ∧ ex.length = n ∧ (0 < n → ex[n - 1]? = some (.lst ((permsR n n).map nats))) := by
    have h0 : (startD 6 [.int (n : Int)])[0]? = some (some (.int (n : Int))) := rfl
    have hl : (startD 6 [.int (n : Int)]).length = 6 := rfl
    generalize startD 6 [.int (n : Int)] = ρ at h0 hl
    unfold b_law_rows
    simp_arith! [hl]
    rw [iRange_n (n := n) (by simp_arith! [h0, hl])]
    simp_arith! []
    generalize hL : loopFor _ _ _ _ _ _ _ _ = R
    obtain ⟨ρ', st', rfl, i, ex, hd, kl, k0, hex, hx, k1, rfl⟩ := for_all_e hL (List.range n) (fun i : Nat => D.int (i : Int)) rfl (by simp) (fun r ρ st' => ∃ (i : Nat) (ex : Sto), List.range n = List.range i ++ r ∧ ρ.length = 6 ∧ ρ[0]? = some (some (.int (n : Int))) ∧ ex.length = i ∧ (0 < i → ex[i - 1]? = some (.lst ((permsR n i).map nats))) ∧ ρ[1]? = some (some (if i = 0 then .lst [nats []] else .ref (st.length + (i - 1)))) ∧ st' = st ++ ex) (fun _ _ _ _ => still_none _ _) ⟨0, [], by simp, by simp_arith! [hl], by simp_arith! [h0], rfl, fun h => absurd h (by omega), by simp_arith! [hl]; rfl, by simp⟩ (by
      rintro y r ρ st' ⟨i, ex, hd, kl, k0, hex, hx, k1, rfl⟩
      obtain ⟨rfl, hi, hd⟩ := range_step hd
      have pl := permsR_len hn (show y ≤ n by omega)
      have pl2 := permsR_len hn (show y + 1 ≤ n by omega)
      refine ⟨_, rfl, ?_⟩
      -- the rows so far
      have src : ∃ (x : D) (dy : Dy), ρ[1]? = some (some x) ∧ items (st ++ ex ++ [.lst []]) x = some ((permsR n y).map nats) ∧ dynOf x = dy ∧ ∀ xs, Still dy ((permsR n y).map nats) (st ++ ex ++ [.lst xs]) := by
        by_cases c : y = 0
        · subst c
          rw [if_pos rfl] at k1
          exact ⟨_, none, k1, rfl, rfl, fun _ => still_none _ _⟩
        · rw [if_neg c] at k1
          have g : ∀ xs, (st ++ ex ++ [MO.lst xs])[st.length + (y - 1)]? = some (.lst ((permsR n y).map nats)) := fun xs => by
            rw [List.append_assoc, List.getElem?_append_right (by omega), show st.length + (y - 1) - st.length = y - 1 by omega, List.getElem?_append_left (by omega)]
            exact hx (by omega)
          exact ⟨_, some (.inl (st.length + (y - 1))), k1, items_ref (g []), rfl, fun xs => still_some (g xs)⟩
      obtain ⟨x, dy, k1', xi, xd, xs_⟩ := src
      have el : (st ++ ex).length = st.length + y := by rw [List.length_append, hex]
      have fin : ∃ ρ2, (qSeq (qSet 3 (sLst true aNil))
    (qSeq (qFor (iSeq (sVar 1)) (gN 4)
    (qExpr (sM fExtend (sVar 3) (sLC false (iRange1 (aCons (sVar 0) aNil)) (gN 5) (tBl (s2 fNotIn (sVar 5) (sVar 4))) (s2 fAdd (sVar 4) (sTup (aCons (sVar 5) aNil))) [5]))))
    (qSet 1 (sVar 3)))) (ρ.set 2 (some (.int (y : Int)))) (st ++ ex) = some (.nx ρ2, st ++ ex ++ [.lst ((permsR n (y + 1)).map nats)]) ∧ ρ2.length = 6 ∧ ρ2[0]? = some (some (.int (n : Int))) ∧ ρ2[1]? = some (some (.ref (st.length + y))) := by
        simp_arith! [k1', iSeq_e, xi, xd, el]
        generalize hM : loopFor _ _ _ _ _ _ _ _ = R2
        obtain ⟨ρ', st', rfl, q, hd2, jl, j0, j3, rfl⟩ := for_all_e hM (permsR n y) nats rfl (by simp) (fun r ρ st' => ∃ q, permsR n y = q ++ r ∧ ρ.length = 6 ∧ ρ[0]? = some (some (.int (n : Int))) ∧ ρ[3]? = some (some (.ref (st.length + y))) ∧ st' = st ++ ex ++ [.lst ((q.flatMap (stepR n)).map nats)]) (fun r ρ st' h => by
          obtain ⟨q, _, _, _, _, rfl⟩ := h
          exact xs_ _) ⟨[], rfl, by simp_arith! [kl], by simp_arith! [k0], by simp_arith! [kl], rfl⟩ (by
          rintro w r2 ρ st' ⟨q, hd2, jl, j0, j3, rfl⟩
          have hwm : w ∈ permsR n y := by rw [hd2]; simp
          have wl := (permsR_ok n y w hwm).1
          have g3 : (st ++ ex ++ [MO.lst ((q.flatMap (stepR n)).map nats)])[st.length + y]? = some (.lst ((q.flatMap (stepR n)).map nats)) := by
            rw [← el]
            exact sto_get1 _ _
          have s3 : ∀ o, (st ++ ex ++ [MO.lst ((q.flatMap (stepR n)).map nats)]).set (st.length + y) o = st ++ ex ++ [o] := fun o => by
            rw [← el]
            exact sto_set1 _ _ _
          have szs : (q.flatMap (stepR n)).length + (stepR n w).length ≤ 120 := by
            have h := pl2.2
            have e : permsR n (y + 1) = q.flatMap (stepR n) ++ (stepR n w ++ r2.flatMap (stepR n)) := by
              show (permsR n y).flatMap (stepR n) = _
              rw [hd2, List.flatMap_append, List.flatMap_cons]
            rw [e, List.length_append, List.length_append] at h
            omega
          refine ⟨_, rfl, ρ.set 4 (some (nats w)), st ++ ex ++ [.lst (((q ++ [w]).flatMap (stepR n)).map nats)], .inl ?_, q ++ [w], by rw [hd2]; simp, by simp_arith! [jl], by simp_arith! [j0], by simp_arith! [j3], rfl⟩
          simp_arith! [jl, j3, litems_ref g3]
          rw [sLC_if (dy := none) (List.range n) (fun i : Nat => D.int (i : Int)) (fun x => !decide (x ∈ w)) (fun x => nats (w ++ [x])) (iRange_n (by simp_arith! [j0, jl])) (still_none _ _) (by simp; omega) fun x _ => ⟨_, rfl, by
            simp_arith! [jl, fNotIn_natsR], fun _ => by
            simp_arith! [jl, fAdd_nats (w := w) (by omega)]⟩]
          simp_arith! []
          have em : (((List.range n).filter fun x => !decide (x ∈ w)).map fun x => nats (w ++ [x])) = (stepR n w).map nats := by
            unfold stepR
            rw [List.map_map]
            rfl
          rw [em, fExtend_ref g3 (ys := (stepR n w).map nats) rfl (by rw [List.length_map, List.length_map]; omega), s3, List.flatMap_append, List.map_append, List.flatMap_cons, List.flatMap_nil, List.append_nil]
          simp_arith! [])
        rw [List.append_nil] at hd2
        subst hd2
        exact ⟨ρ'.set 1 (some (.ref (st.length + y))), by simp_arith! [j3]; rfl, by simp_arith! [jl], by simp_arith! [j0], by simp_arith! [jl]⟩
      obtain ⟨ρ2, e2, l2, m0, m1⟩ := fin
      refine ⟨ρ2, _, .inl e2, y + 1, ex ++ [.lst ((permsR n (y + 1)).map nats)], hd, l2, m0, by rw [List.length_append, hex]; rfl, fun _ => by
        rw [show y + 1 - 1 = ex.length by omega]
        exact sto_get1 _ _, by rw [m1, if_neg (by omega)]; rfl, by rw [List.append_assoc]⟩)
    have := range_end hd
    subst this
    exact ⟨ex, by simp_arith! [k1], hex, hx⟩
  obtain ⟨ex, e, h1, h2⟩ := body
  refine defFin_rt e rfl hw ?_
  have hf : ∀ d ∈ (permsR n n).map nats, Fz 59 d := fun d hd => by
    obtain ⟨w, _, rfl⟩ := List.mem_map.mp hd
    exact fz_nats _ _
  by_cases c : n = 0
  · subst c
    rw [if_pos rfl]
    exact fz_lst (f := 59) hf _ _
  · rw [if_neg c]
    show frzD _ _ (59 + 1) (.ref (st.length + (n - 1))) = _
    have g : (st ++ ex)[st.length + (n - 1)]? = some (.lst ((permsR n n).map nats)) := by
      rw [List.getElem?_append_right (by omega), show st.length + (n - 1) - st.length = n - 1 by omega]
      exact h2 (by omega)
    rw [frzD]
    simp only [g]
    rw [if_neg (by omega), allSome_id fun d hd => hf d hd _ _]
    rfl
theorem all_rows_t (hw : WF st) {n : Nat} (hn : n ≤ 5) : F_all_rows [.int (n : Int)] st = .ok (.lst ((permsR n n).map nats)) st := law_rows_t hw hn
end Lw96
namespace Lw96
open PySem PD
variable {st : Sto}
/-- a table of numbers that stands in the store's head or nowhere in it -/
structure TabIn (st : Sto) (n : Nat) (f : Nat → Nat → Int) (x : D) (φ : Nat → D) : Prop where
  r : ∀ i, i < n → ∀ ex, fIx x (.int (i : Int)) (st ++ ex) = .ok (φ i) (st ++ ex)
  c : ∀ i j, i < n → j < n → ∀ ex, fIx (φ i) (.int (j : Int)) (st ++ ex) = .ok (.int (f i j)) (st ++ ex)
theorem tabIn_T (st : Sto) (n : Nat) (f : Nat → Nat → Int) : TabIn st n f (tabT n f) (rowT n f) := ⟨fun i hi ex => fIx_range hi, fun i j hi hj ex => fIx_range hj⟩
theorem tabIn_refs (st : Sto) (n : Nat) (f : Nat → Nat → Int) : TabIn (st ++ rowsG n (intG f)) n f (refsL st.length n) (fun a => .ref (st.length + a)) := ⟨fun i hi ex => fIx_refs hi, fun i j hi hj ex =>
  fIx_at (items_ref (show ((st ++ rowsG n (intG f)) ++ ex)[st.length + i]? = some (.lst (rowG n (intG f i))) by rw [List.getElem?_append_left (by rw [List.length_append, rowsG_len]; omega)]; exact rowsG_get _ _ hi)) (rowG_get (intG f i) hj)⟩
def atR (f : Nat → Nat → Int) (r : List Nat) (a b : Nat) : Int := f (r.getD a 0) (r.getD b 0)
def badT (g : Nat → Nat → Int) (a b c : Nat) : Bool := decide (g a c < g a b) || decide (g a c < g b c)
def fallsB (g : Nat → Nat → Int) (n a b : Nat) : List (Nat × Nat × Nat) := ((rng (b + 1) n).filter fun c => badT g a b c).map fun c => (a, b, c)
def fallsA (g : Nat → Nat → Int) (n a : Nat) : List (Nat × Nat × Nat) := (rng (a + 1) n).flatMap (fallsB g n a)
def fallsG (g : Nat → Nat → Int) (n : Nat) : List (Nat × Nat × Nat) := (List.range n).flatMap (fallsA g n)
def tri3 (p : Nat × Nat × Nat) : D := .tup [.int (p.1 : Int), .int (p.2.1 : Int), .int (p.2.2 : Int)]
theorem fz_tri3 (p : Nat × Nat × Nat) : Fz 59 (tri3 p) := fz_tup fun d hd => by
  simp only [List.mem_cons, List.not_mem_nil, or_false] at hd
  rcases hd with rfl | rfl | rfl <;> exact fz_int _ _
theorem fallsG_nil {g : Nat → Nat → Int} {n : Nat} : fallsG g n = [] ↔ ∀ a b c, a < b → b < c → c < n → g a b ≤ g a c ∧ g b c ≤ g a c := by
  unfold fallsG
  rw [List.flatMap_eq_nil_iff]
  constructor
  · intro h a b c hab hbc hc
    have h1 := List.flatMap_eq_nil_iff.mp (h a (List.mem_range.mpr (by omega))) b (mem_rng.mpr ⟨by omega, by omega⟩)
    have h2 := List.filter_eq_nil_iff.mp (List.map_eq_nil_iff.mp h1) c (mem_rng.mpr ⟨by omega, hc⟩)
    unfold badT at h2
    simp only [Bool.or_eq_true, decide_eq_true_eq, not_or] at h2
    omega
  · intro h a ha
    refine List.flatMap_eq_nil_iff.mpr fun b hb => List.map_eq_nil_iff.mpr (List.filter_eq_nil_iff.mpr fun c hc => ?_)
    have hb := mem_rng.mp hb
    have hc := mem_rng.mp hc
    have := h a b c (by omega) (by omega) hc.2
    unfold badT
    simp only [Bool.or_eq_true, decide_eq_true_eq, not_or]
    omega
theorem fIx_nats {r : List Nat} {a : Nat} (h : a < r.length) (st : Sto) : fIx (nats r) (.int (a : Int)) st = .ok (.int ((r.getD a 0 : Nat) : Int)) st := fIx_tup (by
  rw [List.getElem?_map, List.getElem?_eq_getElem h, List.getD_eq_getElem?_getD, List.getElem?_eq_getElem h]
  rfl)
theorem getD_lt {r : List Nat} {n a : Nat} (hb : ∀ y ∈ r, y < n) (h : a < r.length) : r.getD a 0 < n := by
  rw [List.getD_eq_getElem?_getD, List.getElem?_eq_getElem h]
  exact hb _ (List.getElem_mem h)
theorem fin_l {n : Nat} {b : SS} {ds : List D} {st : Sto} {xs : List D} (hw : WF st) (hx : ∀ x ∈ xs, Fz 59 x) (h : b (startD n ds) st = some (.rt (.ref st.length), st ++ [.lst xs])) : defFin n b ds st = .ok (.lst xs) st :=
  defFin_rt (ex := [.lst xs]) h rfl hw (by
    rw [frzD]
    simp only [Nat.lt_irrefl, if_false, sto_get1]
    rw [allSome_id fun d hd => hx d hd _ _]
    rfl)
theorem law_falls_t (hw : WF st) {n : Nat} (hn : n ≤ 7) {f : Nat → Nat → Int} {x : D} {φ : Nat → D} (t : TabIn st n f x φ) {r : List Nat} (hr : r.length = n) (hb : ∀ y ∈ r, y < n) :
    F_law_falls [x, nats r] st = .ok (.lst ((fallsG (atR f r) n).map tri3)) st := by
  have z2 := sizeLine_eq
  have rb : ∀ a, a < n → r.getD a 0 < n := fun a ha => getD_lt hb (by omega)
  have ri : ∀ a st, a < n → fIx (nats r) (.int (a : Int)) st = .ok (.int ((r.getD a 0 : Nat) : Int)) st := fun a st ha => fIx_nats (by omega) st
  have bl : ∀ st, bLen [nats r] st = .ok (.int (n : Int)) st := fun st => by
    show Out.ok (D.int ((r.map fun m : Nat => D.int (m : Int)).length : Int)) st = _
    rw [List.length_map, hr]
  have body : b_law_falls (startD 9 [x, nats r]) st = some (.rt (.ref st.length), st ++ [.lst ((fallsG (atR f r) n).map tri3)]) := by
    have h0 : (startD 9 [x, nats r])[0]? = some (some x) := rfl
    have h1 : (startD 9 [x, nats r])[1]? = some (some (nats r)) := rfl
    have hl : (startD 9 [x, nats r]).length = 9 := rfl
    generalize startD 9 [x, nats r] = ρ at h0 h1 hl
    unfold b_law_falls
    simp_arith! [hl]
    rw [iRange_n (n := n) (by simp_arith! [h1, hl, bl])]
    simp_arith! []
    generalize hL : loopFor _ _ _ _ _ _ _ _ = R
    obtain ⟨ρ', st', rfl, q, T, hd, hT, hs, kl, k0, k1, k2, rfl⟩ := for_all_e hL (List.range n) (fun i : Nat => D.int (i : Int)) rfl (by simp) (fun rr ρ st' => ∃ (q : List Nat) (T : List (Nat × Nat × Nat)), List.range n = q ++ rr ∧ T = q.flatMap (fallsA (atR f r) n) ∧ T.length ≤ 49 * q.length ∧ ρ.length = 9 ∧ ρ[0]? = some (some x) ∧ ρ[1]? = some (some (nats r)) ∧ ρ[2]? = some (some (.ref st.length)) ∧ st' = st ++ [.lst (T.map tri3)]) (fun _ _ _ _ => still_none _ _) ⟨[], [], rfl, rfl, by simp, by simp_arith! [hl], by simp_arith! [h0], by simp_arith! [h1], by simp_arith! [hl], rfl⟩ (by
      rintro a rr ρ st' ⟨q, T, hd, hT, hs, kl, k0, k1, k2, rfl⟩
      have ha : a < n := List.mem_range.mp (by rw [hd]; simp)
      have ql : q.length < n := by
        have := congrArg List.length hd
        rw [List.length_range, List.length_append, List.length_cons] at this
        omega
      refine ⟨_, rfl, ?_⟩
      generalize hM : qFor _ _ _ _ _ = R2
      rw [qFor_e, iRange2_n (i := a + 1) (n := n) (by simp_arith! [kl, k1, bl, Int.natCast_add]; rfl)] at hM
      simp_arith! [] at hM
      obtain ⟨ρ', st', rfl, q2, T2, hd2, hT2, hs2, jl, j0, j1, j2, j3, rfl⟩ := for_all_e hM (rng (a + 1) n) (fun i : Nat => D.int (i : Int)) rfl (by simp) (fun rr ρ st' => ∃ (q2 : List Nat) (T2 : List (Nat × Nat × Nat)), rng (a + 1) n = q2 ++ rr ∧ T2 = T ++ q2.flatMap (fallsB (atR f r) n a) ∧ T2.length ≤ 49 * q.length + 7 * q2.length ∧ ρ.length = 9 ∧ ρ[0]? = some (some x) ∧ ρ[1]? = some (some (nats r)) ∧ ρ[2]? = some (some (.ref st.length)) ∧ ρ[3]? = some (some (.int (a : Int))) ∧ st' = st ++ [.lst (T2.map tri3)]) (fun _ _ _ _ => still_none _ _) ⟨[], T, rfl, by simp, by simpa using hs, by simp_arith! [kl], by simp_arith! [k0], by simp_arith! [k1], by simp_arith! [k2], by simp_arith! [kl], rfl⟩ (by
        rintro b rr2 ρ st' ⟨q2, T2, hd2, hT2, hs2, jl, j0, j1, j2, j3, rfl⟩
        have hbn : a + 1 ≤ b ∧ b < n := mem_rng.mp (by rw [hd2]; simp)
        have q2l : q2.length < n := by
          have := congrArg List.length hd2
          rw [rng_len, List.length_append, List.length_cons] at this
          omega
        refine ⟨_, rfl, ?_⟩
        generalize hN : qFor _ _ _ _ _ = R3
        rw [qFor_e, iRange2_n (i := b + 1) (n := n) (by simp_arith! [jl, j1, bl, Int.natCast_add]; rfl)] at hN
        simp_arith! [] at hN
        obtain ⟨ρ', st', rfl, q3, T3, hd3, hT3, hs3, il, i0, i1, i2, i3, i4, rfl⟩ := for_all_e hN (rng (b + 1) n) (fun i : Nat => D.int (i : Int)) rfl (by simp) (fun rr ρ st' => ∃ (q3 : List Nat) (T3 : List (Nat × Nat × Nat)), rng (b + 1) n = q3 ++ rr ∧ T3 = T2 ++ (q3.filter fun c => badT (atR f r) a b c).map (fun c => (a, b, c)) ∧ T3.length ≤ 49 * q.length + 7 * q2.length + q3.length ∧ ρ.length = 9 ∧ ρ[0]? = some (some x) ∧ ρ[1]? = some (some (nats r)) ∧ ρ[2]? = some (some (.ref st.length)) ∧ ρ[3]? = some (some (.int (a : Int))) ∧ ρ[4]? = some (some (.int (b : Int))) ∧ st' = st ++ [.lst (T3.map tri3)]) (fun _ _ _ _ => still_none _ _) ⟨[], T2, rfl, by simp, by simpa using hs2, by simp_arith! [jl], by simp_arith! [j0], by simp_arith! [j1], by simp_arith! [j2], by simp_arith! [j3], by simp_arith! [jl], rfl⟩ (by
          rintro c rr3 ρ st' ⟨q3, T3, hd3, hT3, hs3, il, i0, i1, i2, i3, i4, rfl⟩
          have hcn : b + 1 ≤ c ∧ c < n := mem_rng.mp (by rw [hd3]; simp)
          have q3l : q3.length < n := by
            have := congrArg List.length hd3
            rw [rng_len, List.length_append, List.length_cons] at this
            omega
          have g2 := sto_get1 st (.lst (T3.map tri3))
          have xb := rb b (by omega)
          have xa := rb a ha
          have xc := rb c hcn.2
          have ta := t.r _ xa [.lst (T3.map tri3)]
          have tb := t.r _ xb [.lst (T3.map tri3)]
          have tab := t.c _ _ xa xb [.lst (T3.map tri3)]
          have tac := t.c _ _ xa xc [.lst (T3.map tri3)]
          have tbc := t.c _ _ xb xc [.lst (T3.map tri3)]
          have fa : fAppend (.ref st.length) (tri3 (a, b, c)) (st ++ [.lst (T3.map tri3)]) = .ok .non (st ++ [.lst ((T3 ++ [(a, b, c)]).map tri3)]) := by
            rw [fAppend_ref g2 (by rw [List.length_map]; omega), sto_set1, List.map_append]
            rfl
          have fa : fAppend (.ref st.length) (.tup [.int (a : Int), .int (b : Int), .int (c : Int)]) (st ++ [.lst (T3.map tri3)]) = .ok .non (st ++ [.lst ((T3 ++ [(a, b, c)]).map tri3)]) := fa
          by_cases c1 : badT (atR f r) a b c = true
          · refine ⟨_, rfl, (((((ρ.set 5 (some (.int (c : Int)))).set 6 (some (.int ((r.getD a 0 : Nat) : Int)))).set 7 (some (.int ((r.getD b 0 : Nat) : Int)))).set 8 (some (.int ((r.getD c 0 : Nat) : Int))))), st ++ [.lst ((T3 ++ [(a, b, c)]).map tri3)], .inl ?_, q3 ++ [c], T3 ++ [(a, b, c)], by rw [hd3]; simp, by
              rw [hT3, List.filter_append, List.map_append, List.append_assoc]
              congr 1
              rw [List.filter_cons_of_pos c1]
              rfl, by
              rw [List.length_append, List.length_append]
              simp only [List.length_singleton]
              omega, by simp_arith! [il], by simp_arith! [i0], by simp_arith! [i1], by simp_arith! [i2], by simp_arith! [i3], by simp_arith! [i4], rfl⟩
            unfold badT atR at c1
            by_cases d1 : f (r.getD a 0) (r.getD c 0) < f (r.getD a 0) (r.getD b 0)
            · have d1 := decide_eq_true d1
              simp_arith! [qPar3_e, il, i0, i1, i2, i3, i4, ri a _ ha, ri b _ (show b < n by omega), ri c _ hcn.2, ta, tb, tab, tac, tbc, d1, litems_ref g2, fa]
            · have d1 := decide_eq_false d1
              have d2 : decide (f (r.getD a 0) (r.getD c 0) < f (r.getD b 0) (r.getD c 0)) = true := by
                rw [d1, Bool.false_or] at c1
                exact c1
              simp_arith! [qPar3_e, il, i0, i1, i2, i3, i4, ri a _ ha, ri b _ (show b < n by omega), ri c _ hcn.2, ta, tb, tab, tac, tbc, d1, d2, litems_ref g2, fa]
          · refine ⟨_, rfl, (((((ρ.set 5 (some (.int (c : Int)))).set 6 (some (.int ((r.getD a 0 : Nat) : Int)))).set 7 (some (.int ((r.getD b 0 : Nat) : Int)))).set 8 (some (.int ((r.getD c 0 : Nat) : Int))))), st ++ [.lst (T3.map tri3)], .inl ?_, q3 ++ [c], T3, by rw [hd3]; simp, by
              rw [hT3, List.filter_append, List.filter_cons_of_neg c1]
              simp, by
              rw [List.length_append]
              omega, by simp_arith! [il], by simp_arith! [i0], by simp_arith! [i1], by simp_arith! [i2], by simp_arith! [i3], by simp_arith! [i4], rfl⟩
            unfold badT atR at c1
            have d1 : decide (f (r.getD a 0) (r.getD c 0) < f (r.getD a 0) (r.getD b 0)) = false := by
              cases h : decide (f (r.getD a 0) (r.getD c 0) < f (r.getD a 0) (r.getD b 0)) with
              | false => rfl
              | true => rw [h] at c1; exact absurd rfl c1
            have d2 : decide (f (r.getD a 0) (r.getD c 0) < f (r.getD b 0) (r.getD c 0)) = false := by
              cases h : decide (f (r.getD a 0) (r.getD c 0) < f (r.getD b 0) (r.getD c 0)) with
              | false => rfl
              | true => rw [h, Bool.or_true] at c1; exact absurd rfl c1
            simp_arith! [qPar3_e, il, i0, i1, i2, i3, i4, ri a _ ha, ri b _ (show b < n by omega), ri c _ hcn.2, ta, tb, tab, tac, tbc, d1, d2])
        rw [List.append_nil] at hd3
        have l3 := congrArg List.length hd3
        rw [rng_len] at l3
        refine ⟨_, _, .inl rfl, q2 ++ [b], T3, by rw [hd2]; simp, ?_, by
          rw [List.length_append, List.length_singleton]
          omega, il, i0, i1, i2, i3, rfl⟩
        rw [hT3, hT2, List.flatMap_append, List.append_assoc, ← hd3]
        simp [fallsB])
      rw [List.append_nil] at hd2
      have l2 := congrArg List.length hd2
      rw [rng_len] at l2
      refine ⟨_, _, .inl rfl, q ++ [a], T2, by rw [hd]; simp, ?_, by
        rw [List.length_append, List.length_singleton]
        omega, jl, j0, j1, j2, rfl⟩
      rw [hT2, hT, List.flatMap_append, ← hd2]
      simp [fallsA])
    rw [List.append_nil] at hd
    simp_arith! [k2]
    rw [hT, ← hd]
    rfl
  exact fin_l hw (fun d hd => by
    obtain ⟨p, _, rfl⟩ := List.mem_map.mp hd
    exact fz_tri3 p) body
theorem falls_of_t (hw : WF st) {n : Nat} (hn : n ≤ 7) {f : Nat → Nat → Int} {x : D} {φ : Nat → D} (t : TabIn st n f x φ) {r : List Nat} (hr : r.length = n) (hb : ∀ y ∈ r, y < n) :
    F_falls_of [x, nats r] st = .ok (.lst ((fallsG (atR f r) n).map tri3)) st := by
  have z2 := sizeLine_eq
  have rb : ∀ a, a < n → r.getD a 0 < n := fun a ha => getD_lt hb (by omega)
  have ri : ∀ a st, a < n → fIx (nats r) (.int (a : Int)) st = .ok (.int ((r.getD a 0 : Nat) : Int)) st := fun a st ha => fIx_nats (by omega) st
  have bl : ∀ st, bLen [nats r] st = .ok (.int (n : Int)) st := fun st => by
    show Out.ok (D.int ((r.map fun m : Nat => D.int (m : Int)).length : Int)) st = _
    rw [List.length_map, hr]
  have body : b_falls_of (startD 7 [x, nats r]) st = some (.rt (.ref st.length), st ++ [.lst ((fallsG (atR f r) n).map tri3)]) := by
    have h0 : (startD 7 [x, nats r])[0]? = some (some x) := rfl
    have h1 : (startD 7 [x, nats r])[1]? = some (some (nats r)) := rfl
    have hl : (startD 7 [x, nats r]).length = 7 := rfl
    generalize startD 7 [x, nats r] = ρ at h0 h1 hl
    unfold b_falls_of
    simp_arith! [hl]
    rw [iRange_n (n := n) (by simp_arith! [h1, hl, bl])]
    simp_arith! []
    generalize hL : loopFor _ _ _ _ _ _ _ _ = R
    obtain ⟨ρ', st', rfl, q, T, hd, hT, hs, kl, k0, k1, k2, rfl⟩ := for_all_e hL (List.range n) (fun i : Nat => D.int (i : Int)) rfl (by simp) (fun rr ρ st' => ∃ (q : List Nat) (T : List (Nat × Nat × Nat)), List.range n = q ++ rr ∧ T = q.flatMap (fallsA (atR f r) n) ∧ T.length ≤ 49 * q.length ∧ ρ.length = 7 ∧ ρ[0]? = some (some x) ∧ ρ[1]? = some (some (nats r)) ∧ ρ[2]? = some (some (.ref st.length)) ∧ st' = st ++ [.lst (T.map tri3)]) (fun _ _ _ _ => still_none _ _) ⟨[], [], rfl, rfl, by simp, by simp_arith! [hl], by simp_arith! [h0], by simp_arith! [h1], by simp_arith! [hl], rfl⟩ (by
      rintro a rr ρ st' ⟨q, T, hd, hT, hs, kl, k0, k1, k2, rfl⟩
      have ha : a < n := List.mem_range.mp (by rw [hd]; simp)
      have ql : q.length < n := by
        have := congrArg List.length hd
        rw [List.length_range, List.length_append, List.length_cons] at this
        omega
      refine ⟨_, rfl, ?_⟩
      generalize hM : qFor _ _ _ _ _ = R2
      rw [qFor_e, iRange2_n (i := a + 1) (n := n) (by simp_arith! [kl, k1, bl, Int.natCast_add]; rfl)] at hM
      simp_arith! [] at hM
      obtain ⟨ρ', st', rfl, q2, T2, hd2, hT2, hs2, jl, j0, j1, j2, j3, rfl⟩ := for_all_e hM (rng (a + 1) n) (fun i : Nat => D.int (i : Int)) rfl (by simp) (fun rr ρ st' => ∃ (q2 : List Nat) (T2 : List (Nat × Nat × Nat)), rng (a + 1) n = q2 ++ rr ∧ T2 = T ++ q2.flatMap (fallsB (atR f r) n a) ∧ T2.length ≤ 49 * q.length + 7 * q2.length ∧ ρ.length = 7 ∧ ρ[0]? = some (some x) ∧ ρ[1]? = some (some (nats r)) ∧ ρ[2]? = some (some (.ref st.length)) ∧ ρ[3]? = some (some (.int (a : Int))) ∧ st' = st ++ [.lst (T2.map tri3)]) (fun _ _ _ _ => still_none _ _) ⟨[], T, rfl, by simp, by simpa using hs, by simp_arith! [kl], by simp_arith! [k0], by simp_arith! [k1], by simp_arith! [k2], by simp_arith! [kl], rfl⟩ (by
        rintro b rr2 ρ st' ⟨q2, T2, hd2, hT2, hs2, jl, j0, j1, j2, j3, rfl⟩
        have hbn : a + 1 ≤ b ∧ b < n := mem_rng.mp (by rw [hd2]; simp)
        have q2l : q2.length < n := by
          have := congrArg List.length hd2
          rw [rng_len, List.length_append, List.length_cons] at this
          omega
        refine ⟨_, rfl, ?_⟩
        generalize hN : qFor _ _ _ _ _ = R3
        rw [qFor_e, iRange2_n (i := b + 1) (n := n) (by simp_arith! [jl, j1, bl, Int.natCast_add]; rfl)] at hN
        simp_arith! [] at hN
        obtain ⟨ρ', st', rfl, q3, T3, hd3, hT3, hs3, il, i0, i1, i2, i3, i4, rfl⟩ := for_all_e hN (rng (b + 1) n) (fun i : Nat => D.int (i : Int)) rfl (by simp) (fun rr ρ st' => ∃ (q3 : List Nat) (T3 : List (Nat × Nat × Nat)), rng (b + 1) n = q3 ++ rr ∧ T3 = T2 ++ (q3.filter fun c => badT (atR f r) a b c).map (fun c => (a, b, c)) ∧ T3.length ≤ 49 * q.length + 7 * q2.length + q3.length ∧ ρ.length = 7 ∧ ρ[0]? = some (some x) ∧ ρ[1]? = some (some (nats r)) ∧ ρ[2]? = some (some (.ref st.length)) ∧ ρ[3]? = some (some (.int (a : Int))) ∧ ρ[4]? = some (some (.int (b : Int))) ∧ st' = st ++ [.lst (T3.map tri3)]) (fun _ _ _ _ => still_none _ _) ⟨[], T2, rfl, by simp, by simpa using hs2, by simp_arith! [jl], by simp_arith! [j0], by simp_arith! [j1], by simp_arith! [j2], by simp_arith! [j3], by simp_arith! [jl], rfl⟩ (by
          rintro c rr3 ρ st' ⟨q3, T3, hd3, hT3, hs3, il, i0, i1, i2, i3, i4, rfl⟩
          have hcn : b + 1 ≤ c ∧ c < n := mem_rng.mp (by rw [hd3]; simp)
          have q3l : q3.length < n := by
            have := congrArg List.length hd3
            rw [rng_len, List.length_append, List.length_cons] at this
            omega
          have g2 := sto_get1 st (.lst (T3.map tri3))
          have xb := rb b (by omega)
          have xa := rb a ha
          have xc := rb c hcn.2
          have ta := t.r _ xa [.lst (T3.map tri3)]
          have tb := t.r _ xb [.lst (T3.map tri3)]
          have tab := t.c _ _ xa xb [.lst (T3.map tri3)]
          have tac := t.c _ _ xa xc [.lst (T3.map tri3)]
          have tbc := t.c _ _ xb xc [.lst (T3.map tri3)]
          have fa : fAppend (.ref st.length) (tri3 (a, b, c)) (st ++ [.lst (T3.map tri3)]) = .ok .non (st ++ [.lst ((T3 ++ [(a, b, c)]).map tri3)]) := by
            rw [fAppend_ref g2 (by rw [List.length_map]; omega), sto_set1, List.map_append]
            rfl
          have fa : fAppend (.ref st.length) (.tup [.int (a : Int), .int (b : Int), .int (c : Int)]) (st ++ [.lst (T3.map tri3)]) = .ok .non (st ++ [.lst ((T3 ++ [(a, b, c)]).map tri3)]) := fa
          by_cases c1 : badT (atR f r) a b c = true
          · refine ⟨_, rfl, ((ρ.set 5 (some (.int (c : Int)))).set 6 (some (.int (f (r.getD a 0) (r.getD c 0))))), st ++ [.lst ((T3 ++ [(a, b, c)]).map tri3)], .inl ?_, q3 ++ [c], T3 ++ [(a, b, c)], by rw [hd3]; simp, by
              rw [hT3, List.filter_append, List.map_append, List.append_assoc]
              congr 1
              rw [List.filter_cons_of_pos c1]
              rfl, by
              rw [List.length_append, List.length_append]
              simp only [List.length_singleton]
              omega, by simp_arith! [il], by simp_arith! [i0], by simp_arith! [i1], by simp_arith! [i2], by simp_arith! [i3], by simp_arith! [i4], rfl⟩
            unfold badT atR at c1
            by_cases d1 : f (r.getD a 0) (r.getD c 0) < f (r.getD a 0) (r.getD b 0)
            · have d1 := decide_eq_true d1
              simp_arith! [il, i0, i1, i2, i3, i4, ri a _ ha, ri b _ (show b < n by omega), ri c _ hcn.2, ta, tb, tab, tac, tbc, d1, litems_ref g2, fa]
            · have d1 := decide_eq_false d1
              have d2 : decide (f (r.getD a 0) (r.getD c 0) < f (r.getD b 0) (r.getD c 0)) = true := by
                rw [d1, Bool.false_or] at c1
                exact c1
              simp_arith! [il, i0, i1, i2, i3, i4, ri a _ ha, ri b _ (show b < n by omega), ri c _ hcn.2, ta, tb, tab, tac, tbc, d1, d2, litems_ref g2, fa]
          · refine ⟨_, rfl, ((ρ.set 5 (some (.int (c : Int)))).set 6 (some (.int (f (r.getD a 0) (r.getD c 0))))), st ++ [.lst (T3.map tri3)], .inl ?_, q3 ++ [c], T3, by rw [hd3]; simp, by
              rw [hT3, List.filter_append, List.filter_cons_of_neg c1]
              simp, by
              rw [List.length_append]
              omega, by simp_arith! [il], by simp_arith! [i0], by simp_arith! [i1], by simp_arith! [i2], by simp_arith! [i3], by simp_arith! [i4], rfl⟩
            unfold badT atR at c1
            have d1 : decide (f (r.getD a 0) (r.getD c 0) < f (r.getD a 0) (r.getD b 0)) = false := by
              cases h : decide (f (r.getD a 0) (r.getD c 0) < f (r.getD a 0) (r.getD b 0)) with
              | false => rfl
              | true => rw [h] at c1; exact absurd rfl c1
            have d2 : decide (f (r.getD a 0) (r.getD c 0) < f (r.getD b 0) (r.getD c 0)) = false := by
              cases h : decide (f (r.getD a 0) (r.getD c 0) < f (r.getD b 0) (r.getD c 0)) with
              | false => rfl
              | true => rw [h, Bool.or_true] at c1; exact absurd rfl c1
            simp_arith! [il, i0, i1, i2, i3, i4, ri a _ ha, ri b _ (show b < n by omega), ri c _ hcn.2, ta, tb, tab, tac, tbc, d1, d2])
        rw [List.append_nil] at hd3
        have l3 := congrArg List.length hd3
        rw [rng_len] at l3
        refine ⟨_, _, .inl rfl, q2 ++ [b], T3, by rw [hd2]; simp, ?_, by
          rw [List.length_append, List.length_singleton]
          omega, il, i0, i1, i2, i3, rfl⟩
        rw [hT3, hT2, List.flatMap_append, List.append_assoc, ← hd3]
        simp [fallsB])
      rw [List.append_nil] at hd2
      have l2 := congrArg List.length hd2
      rw [rng_len] at l2
      refine ⟨_, _, .inl rfl, q ++ [a], T2, by rw [hd]; simp, ?_, by
        rw [List.length_append, List.length_singleton]
        omega, jl, j0, j1, j2, rfl⟩
      rw [hT2, hT, List.flatMap_append, ← hd2]
      simp [fallsA])
    rw [List.append_nil] at hd
    simp_arith! [k2]
    rw [hT, ← hd]
    rfl
  exact fin_l hw (fun d hd => by
    obtain ⟨p, _, rfl⟩ := List.mem_map.mp hd
    exact fz_tri3 p) body
end Lw96
namespace Lw96
open PySem PD
variable {st : Sto}
/-! ### the nearest one -/
def max3 (i j k : Int) : Int := max i (max j k)
def nr (g : Nat → Nat → Int) : Nat → Nat → Int
  | 0, _ => 0
  | 1, a => g a (a + 1)
  | k + 2, a => max3 (g a (a + (k + 2))) (nr g (k + 1) a) (nr g (k + 1) (a + 1))
theorem nr_ge {g : Nat → Nat → Int} {n : Nat} (h0 : ∀ x y, x < n → y < n → 0 ≤ g x y) (hd : ∀ x, x < n → g x x = 0) : ∀ (k a x y : Nat), 1 ≤ k → a + k < n → a ≤ x → x ≤ y → y ≤ a + k → g x y ≤ nr g k a
  | 1, a, x, y, _, hn, h1, h2, h3 => by
    have p := h0 a (a + 1) (by omega) (by omega)
    show g x y ≤ g a (a + 1)
    by_cases c : x = y
    · subst c
      rw [hd x (by omega)]
      exact p
    · have e1 : x = a := by omega
      have e2 : y = a + 1 := by omega
      rw [e1, e2]
      exact Int.le_refl _
  | k + 2, a, x, y, _, hn, h1, h2, h3 => by
    show g x y ≤ max3 _ _ _
    unfold max3
    by_cases c1 : y ≤ a + (k + 1)
    · have := nr_ge h0 hd (k + 1) a x y (by omega) (by omega) h1 h2 c1
      omega
    · by_cases c2 : a + 1 ≤ x
      · have := nr_ge h0 hd (k + 1) (a + 1) x y (by omega) (by omega) c2 h2 (by omega)
        omega
      · have e1 : x = a := by omega
        have e2 : y = a + (k + 2) := by omega
        rw [e1, e2]
        omega
theorem nr_mem (g : Nat → Nat → Int) : ∀ (k a : Nat), 1 ≤ k → ∃ x y, a ≤ x ∧ x < y ∧ y ≤ a + k ∧ nr g k a = g x y
  | 1, a, _ => ⟨a, a + 1, by omega, by omega, by omega, rfl⟩
  | k + 2, a, _ => by
    have e : nr g (k + 2) a = max3 (g a (a + (k + 2))) (nr g (k + 1) a) (nr g (k + 1) (a + 1)) := rfl
    obtain ⟨x, y, h1, h2, h3, h4⟩ := nr_mem g (k + 1) a (by omega)
    obtain ⟨x', y', h1', h2', h3', h4'⟩ := nr_mem g (k + 1) (a + 1) (by omega)
    unfold max3 at e
    by_cases c1 : nr g (k + 2) a = g a (a + (k + 2))
    · exact ⟨a, a + (k + 2), by omega, by omega, by omega, c1⟩
    · by_cases c2 : nr g (k + 2) a = nr g (k + 1) a
      · exact ⟨x, y, h1, h2, by omega, by rw [c2, h4]⟩
      · exact ⟨x', y', by omega, h2', by omega, by rw [← h4']; omega⟩
def dq (g : Nat → Nat → Int) (x y : Nat) : Int := if x < y then nr g (y - x) x else if y < x then nr g (x - y) y else 0
theorem dq_lt {g : Nat → Nat → Int} {x y : Nat} (h : x < y) : dq g x y = nr g (y - x) x := if_pos h
theorem dq_gt {g : Nat → Nat → Int} {x y : Nat} (h : y < x) : dq g x y = nr g (x - y) y := by
  unfold dq
  rw [if_neg (by omega), if_pos h]
theorem dq_eq (g : Nat → Nat → Int) (x : Nat) : dq g x x = 0 := by
  unfold dq
  rw [if_neg (by omega), if_neg (by omega)]
theorem dq_sy (g : Nat → Nat → Int) (x y : Nat) : dq g x y = dq g y x := by
  unfold dq
  by_cases c : x < y
  · rw [if_pos c, if_neg (by omega), if_pos c]
  · by_cases c2 : y < x
    · rw [if_neg c, if_pos c2, if_pos c2]
    · rw [if_neg c, if_neg c2, if_neg c2, if_neg c]
/-- a row of all n places -/
structure RowP (n : Nat) (r : List Nat) : Prop where
  pm : r.Perm (List.range n)
theorem RowP.len {n : Nat} {r : List Nat} (h : RowP n r) : r.length = n := by rw [h.pm.length_eq, List.length_range]
theorem RowP.lt {n : Nat} {r : List Nat} (h : RowP n r) : ∀ y ∈ r, y < n := fun y hy => List.mem_range.mp (h.pm.mem_iff.mp hy)
theorem RowP.mem {n : Nat} {r : List Nat} (h : RowP n r) {i : Nat} (hi : i < n) : i ∈ r := h.pm.mem_iff.mpr (List.mem_range.mpr hi)
theorem RowP.at {n : Nat} {r : List Nat} (h : RowP n r) {a : Nat} (ha : a < n) : r.getD a 0 < n := getD_lt h.lt (by rw [h.len]; exact ha)
theorem RowP.inj {n : Nat} {r : List Nat} (h : RowP n r) {a b : Nat} (ha : a < n) (hb : b < n) (e : r.getD a 0 = r.getD b 0) : a = b := getD_inj ((h.pm.nodup_iff).mpr List.nodup_range) (by rw [h.len]; exact ha) (by rw [h.len]; exact hb) e
theorem RowP.pos {n : Nat} {r : List Nat} (h : RowP n r) {i : Nat} (hi : i < n) : posN r i < n ∧ r.getD (posN r i) 0 = i := by
  have := posN_spec r i (h.mem hi)
  rw [h.len] at this
  exact this
theorem RowP.posAt {n : Nat} {r : List Nat} (h : RowP n r) {a : Nat} (ha : a < n) : posN r (r.getD a 0) = a := by
  have := h.pos (h.at ha)
  exact h.inj this.1 ha this.2
theorem rows_ok {n : Nat} (hn : n ≤ 5) {w : List Nat} (hw : w ∈ permsR n n) : RowP n w := by
  have : (List.range 6).all (fun n => (permsR n n).all fun w => w.isPerm (List.range n)) = true := by decide +kernel
  exact ⟨List.isPerm_iff.mp (List.all_eq_true.mp (List.all_eq_true.mp this n (List.mem_range.mpr (by omega))) w hw)⟩
theorem RowP.rev {n : Nat} {r : List Nat} (h : RowP n r) : RowP n r.reverse := ⟨(List.reverse_perm r).trans h.pm⟩
def dueF (f : Nat → Nat → Int) (r : List Nat) (i j : Nat) : Int := dq (atR f r) (posN r i) (posN r j)
/-- laid so far: the places of P -/
def Dz (n : Nat) (r : List Nat) (g : Nat → Nat → Int) (P : Nat → Nat → Prop) (F : Nat → Nat → Int) : Prop := ∀ x y, x < n → y < n → (P x y → F (r.getD x 0) (r.getD y 0) = dq g x y) ∧ (¬ P x y → F (r.getD x 0) (r.getD y 0) = 0)
theorem Dz.put {n : Nat} {r : List Nat} {g : Nat → Nat → Int} {P P' : Nat → Nat → Prop} {F : Nat → Nat → Int} (hr : RowP n r) (h : Dz n r g P F) {a b : Nat} (hab : a < b) (hb : b < n) {v : Int} (hv : v = nr g (b - a) a)
    (hP : ∀ x y, x < n → y < n → (P' x y ↔ P x y ∨ (x = a ∧ y = b) ∨ (x = b ∧ y = a))) : Dz n r g P' (upd1 (upd1 F (r.getD a 0) (r.getD b 0) v) (r.getD b 0) (r.getD a 0) v) := fun x y hx hy => by
  have ha : a < n := by omega
  have key : upd1 (upd1 F (r.getD a 0) (r.getD b 0) v) (r.getD b 0) (r.getD a 0) v (r.getD x 0) (r.getD y 0) = if x = b ∧ y = a then v else if x = a ∧ y = b then v else F (r.getD x 0) (r.getD y 0) := by
    unfold upd1
    by_cases c1 : x = b ∧ y = a
    · rw [if_pos c1, if_pos ⟨by rw [c1.1], by rw [c1.2]⟩]
    · rw [if_neg c1, if_neg fun q => c1 ⟨hr.inj hx hb q.1, hr.inj hy ha q.2⟩]
      by_cases c2 : x = a ∧ y = b
      · rw [if_pos c2, if_pos ⟨by rw [c2.1], by rw [c2.2]⟩]
      · rw [if_neg c2, if_neg fun q => c2 ⟨hr.inj hx ha q.1, hr.inj hy hb q.2⟩]
  rw [key]
  have p := hP x y hx hy
  have q := h x y hx hy
  by_cases c1 : x = b ∧ y = a
  · rw [if_pos c1]
    refine ⟨fun _ => ?_, fun z => absurd (p.mpr (.inr (.inr c1))) z⟩
    rw [c1.1, c1.2, dq_gt hab, hv]
  · rw [if_neg c1]
    by_cases c2 : x = a ∧ y = b
    · rw [if_pos c2]
      refine ⟨fun _ => ?_, fun z => absurd (p.mpr (.inr (.inl c2))) z⟩
      rw [c2.1, c2.2, dq_lt hab, hv]
    · rw [if_neg c2]
      exact ⟨fun z => q.1 ((p.mp z).resolve_right fun w => w.elim c2 c1), fun z => q.2 fun w => z (p.mpr (.inl w))⟩
theorem Dz.congr {n : Nat} {r : List Nat} {g : Nat → Nat → Int} {P P' : Nat → Nat → Prop} {F : Nat → Nat → Int} (h : Dz n r g P F) (hP : ∀ x y, x < n → y < n → (P' x y ↔ P x y)) : Dz n r g P' F := fun x y hx hy => by
  have q := h x y hx hy
  have p := hP x y hx hy
  exact ⟨fun z => q.1 (p.mp z), fun z => q.2 fun w => z (p.mpr w)⟩
theorem Dz.init {n : Nat} {r : List Nat} {g : Nat → Nat → Int} {P : Nat → Nat → Prop} (hP : ∀ x y, x < n → y < n → ¬ P x y) : Dz n r g P (fun _ _ => 0) := fun x y hx hy => ⟨fun z => absurd z (hP x y hx hy), fun _ => rfl⟩
theorem Dz.fin {n : Nat} {r : List Nat} {f : Nat → Nat → Int} {P : Nat → Nat → Prop} {F : Nat → Nat → Int} (hr : RowP n r) (h : Dz n r (atR f r) P F) (hP : ∀ x y, x < n → y < n → x ≠ y → P x y) : ∀ i j, i < n → j < n → F i j = dueF f r i j := fun i j hi hj => by
  obtain ⟨pi, ei⟩ := hr.pos hi
  obtain ⟨pj, ej⟩ := hr.pos hj
  obtain ⟨q1, q2⟩ := h _ _ pi pj
  rw [ei, ej] at q1 q2
  unfold dueF
  by_cases c : P (posN r i) (posN r j)
  · exact q1 c
  · rw [q2 c]
    have e : posN r i = posN r j := Decidable.byContradiction fun z => c (hP _ _ pi pj z)
    rw [e, dq_eq]
def Praise (w a x y : Nat) : Prop := (x < y ∧ (y < x + w ∨ y = x + w ∧ x < a)) ∨ (y < x ∧ (x < y + w ∨ x = y + w ∧ y < a))
def Pnear (a b x y : Nat) : Prop := (x < y ∧ (x < a ∨ x = a ∧ y < b)) ∨ (y < x ∧ (y < a ∨ y = a ∧ x < b))
end Lw96
namespace Lw96
open PySem PD
variable {st : Sto}
theorem mid_get (st : Sto) (A : MO) (X : Sto) : (st ++ A :: X)[st.length]? = some A := by
  rw [List.getElem?_append_right (Nat.le_refl _), Nat.sub_self]
  rfl
theorem mid_set (st : Sto) (A B : MO) (X : Sto) : (st ++ A :: X).set st.length B = st ++ B :: X := by
  rw [List.set_append_right (h := Nat.le_refl _), Nat.sub_self]
  rfl
theorem bMax3_i (i j k : Int) (st : Sto) : bMax3 [.int i, .int j, .int k] st = .ok (.int (max3 i j k)) st := by
  show Out.ok (D.int (if (if i < j then j else i) < k then k else (if i < j then j else i))) st = _
  have : (if (if i < j then j else i) < k then k else (if i < j then j else i)) = max3 i j k := by
    unfold max3
    split <;> split <;> omega
  rw [this]
theorem bLen_T (st : Sto) (n : Nat) (f : Nat → Nat → Int) : bLen [tabT n f] st = .ok (.int (n : Int)) st := by
  show Out.ok (D.int (((List.range n).map _).length : Int)) st = _
  rw [List.length_map, List.length_range]
abbrev zrow (n : Nat) : MO := .lst (rowG n fun _ => .int 0)
theorem raised_t (hw : WF st) {n : Nat} (n7 : n ≤ 7) (f : Nat → Nat → Int) {r : List Nat} (hr : RowP n r) : F_raised_table [tabT n f, nats r] st = .ok (tabT n (dueF f r)) st := by
  have z2 := sizeLine_eq
  have ri : ∀ a st, a < n → fIx (nats r) (.int (a : Int)) st = .ok (.int ((r.getD a 0 : Nat) : Int)) st := fun a st ha => fIx_nats (by rw [hr.len]; exact ha) st
  have t1 : ∀ i st, i < n → fIx (tabT n f) (.int (i : Int)) st = .ok (rowT n f i) st := fun i st hi => fIx_range hi
  have t2 : ∀ i j st, j < n → fIx (rowT n f i) (.int (j : Int)) st = .ok (.int (f i j)) st := fun i j st hj => fIx_range hj
  have body : ∃ ex, b_raised_table (startD 11 [tabT n f, nats r]) st = some (.rt (tabT n (dueF f r)), st ++ ex) := by
    have h0 : (startD 11 [tabT n f, nats r])[0]? = some (some (tabT n f)) := rfl
    have h1 : (startD 11 [tabT n f, nats r])[1]? = some (some (nats r)) := rfl
    have hl : (startD 11 [tabT n f, nats r]).length = 11 := rfl
    generalize startD 11 [tabT n f, nats r] = ρ at h0 h1 hl
    unfold b_raised_table
    simp_arith! [h0, hl, List.length_range]
    rw [iRange_n (n := n) (by simp_arith! [hl])]
    simp_arith! []
    generalize hL : loopFor _ _ _ _ _ _ _ _ = R
    obtain ⟨ρ', st', rfl, i, hd, kl, k0, k1, k2, k3, rfl⟩ := for_all_e hL (List.range n) (fun i : Nat => D.int (i : Int)) rfl (by simp) (fun rr ρ st' => ∃ i, List.range n = List.range i ++ rr ∧ ρ.length = 11 ∧ ρ[0]? = some (some (tabT n f)) ∧ ρ[1]? = some (some (nats r)) ∧ ρ[2]? = some (some (.int (n : Int))) ∧ ρ[3]? = some (some (.ref st.length)) ∧ st' = st ++ .lst ((List.range i).map fun a => D.ref (st.length + 1 + a)) :: List.replicate i (zrow n)) (fun _ _ _ _ => still_none _ _) ⟨0, by simp, by simp_arith! [hl], by simp_arith! [h0], by simp_arith! [h1], by simp_arith! [hl], by simp_arith! [hl], rfl⟩ (by
      rintro y rr ρ st' ⟨i, hd, kl, k0, k1, k2, k3, rfl⟩
      obtain ⟨rfl, hi, hd⟩ := range_step hd
      refine ⟨_, rfl, ρ.set 4 (some (.int (y : Int))), _, .inl ?_, y + 1, hd, by simp_arith! [kl], by simp_arith! [k0], by simp_arith! [k1], by simp_arith! [k2], by simp_arith! [k3], rfl⟩
      have g3 := mid_get st (.lst ((List.range y).map fun a => D.ref (st.length + 1 + a))) (List.replicate y (zrow n))
      have g4 := mid_get st (.lst ((List.range y).map fun a => D.ref (st.length + 1 + a))) (List.replicate y (zrow n) ++ [zrow n])
      have ln : (st ++ MO.lst ((List.range y).map fun a => D.ref (st.length + 1 + a)) :: List.replicate y (zrow n)).length = st.length + 1 + y := by
        rw [List.length_append, List.length_cons, List.length_replicate]
        omega
      have fr := fRep_G n (by omega) (.int 0) (st ++ MO.lst ((List.range y).map fun a => D.ref (st.length + 1 + a)) :: List.replicate y (zrow n))
      rw [ln] at fr
      have ea : st ++ MO.lst ((List.range y).map fun a => D.ref (st.length + 1 + a)) :: List.replicate y (zrow n) ++ [zrow n] = st ++ MO.lst ((List.range y).map fun a => D.ref (st.length + 1 + a)) :: (List.replicate y (zrow n) ++ [zrow n]) := by
        rw [List.append_assoc]
        rfl
      rw [ea] at fr
      have fa := fAppend_ref (y := .ref (st.length + 1 + y)) g4 (by rw [List.length_map, List.length_range]; omega)
      rw [mid_set] at fa
      simp_arith! [kl, k2, k3, litems_ref g3, fr, fa]
      rw [List.range_succ, List.map_append, ← List.replicate_succ']
      rfl)
    have := range_end hd
    subst this
    have ez : st ++ MO.lst ((List.range i).map fun a => D.ref (st.length + 1 + a)) :: List.replicate i (zrow i) = (st ++ [MO.lst ((List.range i).map fun a => D.ref (st.length + 1 + a))]) ++ rowsG i (intG fun _ _ => 0) := by
      rw [List.append_assoc]
      congr 1
      show _ :: List.replicate i (zrow i) = _ :: (List.range i).map fun _ => zrow i
      rw [List.map_const', List.length_range]
    rw [ez]
    generalize hS : st ++ [MO.lst ((List.range i).map fun a => D.ref (st.length + 1 + a))] = S
    have Sl : S.length = st.length + 1 := by rw [← hS, List.length_append]; rfl
    have gS : ∀ F, (S ++ rowsG i (intG F))[st.length]? = some (.lst ((List.range i).map fun a => D.ref (st.length + 1 + a))) := fun F => by
      rw [← hS, List.append_assoc]
      exact mid_get _ _ _
    have ix : ∀ a F, a < i → fIx (.ref st.length) (.int (a : Int)) (S ++ rowsG i (intG F)) = .ok (.ref (S.length + a)) (S ++ rowsG i (intG F)) := fun a F ha => fIx_at (items_ref (gS F)) (by rw [List.getElem?_map, List.getElem?_range ha, Sl]; rfl)
    have c1 : ∀ (a : Nat) (f : Nat → Nat → Int), a < i → ∀ b, b < i → fIx (.ref (S.length + a)) (.int (b : Int)) (S ++ rowsG i (intG f)) = .ok (.int (f a b)) (S ++ rowsG i (intG f)) := fun a f ha b hb => fIx_rowG (F := intG f) ha hb
    have c2 : ∀ (a : Nat) (f : Nat → Nat → Int) (v : Int), a < i → ∀ b, b < i → fSetIx (.ref (S.length + a)) (.int (b : Int)) (.int v) (S ++ rowsG i (intG f)) = some (S ++ rowsG i (intG (upd1 f a b v))) := fun a f v ha b hb => by
      have := fSetIx_rowG (st := S) (F := intG f) (v := .int v) ha hb
      rw [updG_int] at this
      exact this
    rw [then_nx, qSeq_e, qFor_e, iRange2_n (i := 1) (n := i) (by simp_arith! [k2]; rfl)]
    simp_arith! []
    generalize hM : loopFor _ _ _ _ _ _ _ _ = R2
    obtain ⟨ρ', st', rfl, q, F, hd2, hF, jl, j0, j1, j2, j3, rfl⟩ := for_all_e hM (rng 1 i) (fun i : Nat => D.int (i : Int)) rfl (by simp) (fun rr ρ st' => ∃ (q : List Nat) (F : Nat → Nat → Int), rng 1 i = q ++ rr ∧ Dz i r (atR f r) (Praise (1 + q.length) 0) F ∧ ρ.length = 11 ∧ ρ[0]? = some (some (tabT i f)) ∧ ρ[1]? = some (some (nats r)) ∧ ρ[2]? = some (some (.int (i : Int))) ∧ ρ[3]? = some (some (.ref st.length)) ∧ st' = S ++ rowsG i (intG F)) (fun _ _ _ _ => still_none _ _) ⟨[], fun _ _ => 0, rfl, Dz.init fun x y _ _ => by unfold Praise; simp only [List.length_nil]; omega, kl, k0, k1, k2, k3, rfl⟩ (by
      rintro w rr ρ st' ⟨q, F, hd2, hF, jl, j0, j1, j2, j3, rfl⟩
      obtain ⟨ew, hwi⟩ := rng_step hd2
      rw [← ew] at hF
      have w1 : 1 ≤ w := by omega
      refine ⟨_, rfl, ?_⟩
      generalize hN : qFor _ _ _ _ _ = R3
      have en : (i : Int) - (w : Int) = ((i - w : Nat) : Int) := by omega
      rw [qFor_e, iRange_n (n := i - w) (by simp_arith! [jl, j2, en])] at hN
      simp_arith! [] at hN
      obtain ⟨ρ', st', rfl, a, F, hd3, hF, il, i0, i1, i2, i3, i5, rfl⟩ := for_all_e hN (List.range (i - w)) (fun i : Nat => D.int (i : Int)) rfl (by simp) (fun rr ρ st' => ∃ (a : Nat) (F : Nat → Nat → Int), List.range (i - w) = List.range a ++ rr ∧ Dz i r (atR f r) (Praise w a) F ∧ ρ.length = 11 ∧ ρ[0]? = some (some (tabT i f)) ∧ ρ[1]? = some (some (nats r)) ∧ ρ[2]? = some (some (.int (i : Int))) ∧ ρ[3]? = some (some (.ref st.length)) ∧ ρ[5]? = some (some (.int (w : Int))) ∧ st' = S ++ rowsG i (intG F)) (fun _ _ _ _ => still_none _ _) ⟨0, F, by simp, hF, by simp_arith! [jl], by simp_arith! [j0], by simp_arith! [j1], by simp_arith! [j2], by simp_arith! [j3], by simp_arith! [jl], rfl⟩ (by
        rintro y rr2 ρ st' ⟨a, F, hd3, hF, il, i0, i1, i2, i3, i5, rfl⟩
        obtain ⟨rfl, ha, hd3⟩ := range_step hd3
        have p1 : y < i := by omega
        have p2 : y + w < i := by omega
        have p3 : y + w - 1 < i := by omega
        have p4 : y + 1 < i := by omega
        have r1 := hr.at p1
        have r2 := hr.at p2
        have r3 := hr.at p3
        have r4 := hr.at p4
        have x1 : ((y : Nat) : Int) + (w : Int) = ((y + w : Nat) : Int) := by omega
        have x2 : ((y + w : Nat) : Int) - 1 = ((y + w - 1 : Nat) : Int) := by omega
        have x3 : ((y : Nat) : Int) + 1 = ((y + 1 : Nat) : Int) := by omega
        have put := hF.put (P' := Praise w (y + 1)) hr (a := y) (b := y + w) (v := nr (atR f r) w y) (by omega) p2 (by rw [show y + w - y = w by omega]) (fun u v hu hv => by unfold Praise; omega)
        have mid : ∃ ρ2, (qSeq (qSet 9 (s2 fIx (s2 fIx (sVar 0) (sVar 7)) (sVar 8)))
    (qSeq (qIf (tBl (s2 fGt (sVar 5) (sC (.int 1)))) (qSet 9 (sB bMax3 (aCons (sVar 9) (aCons (s2 fIx (s2 fIx (sVar 3) (sVar 7)) (s2 fIx (sVar 1) (s2 fSub (s2 fAdd (sVar 6) (sVar 5)) (sC (.int 1))))) (aCons (s2 fIx (s2 fIx (sVar 3) (s2 fIx (sVar 1) (s2 fAdd (sVar 6) (sC (.int 1))))) (sVar 8)) aNil))))) qNext)
    (qSeq (qSetIx (s2 fIx (sVar 3) (sVar 7)) (sVar 8) (sVar 9))
    (qSetIx (s2 fIx (sVar 3) (sVar 8)) (sVar 7) (sVar 9))))) (((ρ.set 6 (some (.int (y : Int)))).set 7 (some (.int ((r.getD y 0 : Nat) : Int)))).set 8 (some (.int ((r.getD (y + w) 0 : Nat) : Int)))) (S ++ rowsG i (intG F)) = some (.nx ρ2, S ++ rowsG i (intG (upd1 (upd1 F (r.getD y 0) (r.getD (y + w) 0) (nr (atR f r) w y)) (r.getD (y + w) 0) (r.getD y 0) (nr (atR f r) w y)))) ∧ ρ2.length = 11 ∧ ρ2[0]? = some (some (tabT i f)) ∧ ρ2[1]? = some (some (nats r)) ∧ ρ2[2]? = some (some (.int (i : Int))) ∧ ρ2[3]? = some (some (.ref st.length)) ∧ ρ2[5]? = some (some (.int (w : Int))) := by
          by_cases cw : w = 1
          · have d1 : decide ((1 : Int) < (w : Int)) = false := decide_eq_false (by omega)
            have e : nr (atR f r) w y = f (r.getD y 0) (r.getD (y + w) 0) := by rw [cw]; rfl
            rw [e]
            exact ⟨_, by simp_arith! [il, i0, i1, i3, i5, t1 _ _ r1, t2 _ _ _ r2, d1, ix _ _ r1, ix _ _ r2, c2 _ _ _ r1 _ r2, c2 _ _ _ r2 _ r1]; rfl, by simp_arith! [il], by simp_arith! [i0], by simp_arith! [i1], by simp_arith! [i2], by simp_arith! [i3], by simp_arith! [i5]⟩
          · have d1 : decide ((1 : Int) < (w : Int)) = true := decide_eq_true (by omega)
            obtain ⟨k, rfl⟩ : ∃ k, w = k + 2 := ⟨w - 2, by omega⟩
            have f1 : F (r.getD y 0) (r.getD (y + (k + 2) - 1) 0) = nr (atR f r) (k + 1) y := by
              rw [(hF y (y + (k + 2) - 1) p1 p3).1 (by unfold Praise; omega), dq_lt (by omega), show y + (k + 2) - 1 - y = k + 1 by omega]
            have f2 : F (r.getD (y + 1) 0) (r.getD (y + (k + 2)) 0) = nr (atR f r) (k + 1) (y + 1) := by
              rw [(hF (y + 1) (y + (k + 2)) p4 p2).1 (by unfold Praise; omega), dq_lt (by omega), show y + (k + 2) - (y + 1) = k + 1 by omega]
            have e : nr (atR f r) (k + 2) y = max3 (f (r.getD y 0) (r.getD (y + (k + 2)) 0)) (F (r.getD y 0) (r.getD (y + (k + 2) - 1) 0)) (F (r.getD (y + 1) 0) (r.getD (y + (k + 2)) 0)) := by rw [f1, f2]; rfl
            rw [e]
            exact ⟨_, by simp_arith! [il, i0, i1, i3, i5, t1 _ _ r1, t2 _ _ _ r2, d1, x1, x2, x3, ri _ _ p3, ri _ _ p4, ix _ _ r1, ix _ _ r2, ix _ _ r4, c1 _ _ r1 _ r3, c1 _ _ r4 _ r2, bMax3_i, c2 _ _ _ r1 _ r2, c2 _ _ _ r2 _ r1]; rfl, by simp_arith! [il], by simp_arith! [i0], by simp_arith! [i1], by simp_arith! [i2], by simp_arith! [i3], by simp_arith! [i5]⟩
        obtain ⟨ρ2, e2, l2, m0, m1, m2, m3, m5⟩ := mid
        refine ⟨_, rfl, ρ2, _, .inl ?_, y + 1, _, hd3, put, l2, m0, m1, m2, m3, m5, rfl⟩
        rw [qSeq_e]
        have st1 : qPar 7 8 (aCons (s2 fIx (sVar 1) (sVar 6)) (aCons (s2 fIx (sVar 1) (s2 fAdd (sVar 6) (sVar 5))) aNil)) (ρ.set 6 (some (.int (y : Int)))) (S ++ rowsG i (intG F)) = some (.nx (((ρ.set 6 (some (.int (y : Int)))).set 7 (some (.int ((r.getD y 0 : Nat) : Int)))).set 8 (some (.int ((r.getD (y + w) 0 : Nat) : Int)))), S ++ rowsG i (intG F)) := by
          simp_arith! [il, i1, i5, x1, ri _ _ p1, ri _ _ p2]
        rw [st1, then_nx]
        exact e2)
      have := range_end hd3
      subst this
      refine ⟨_, _, .inl rfl, q ++ [w], F, by rw [hd2]; simp, ?_, il, i0, i1, i2, i3, rfl⟩
      refine hF.congr fun u v hu hv => ?_
      rw [List.length_append, List.length_singleton]
      unfold Praise
      omega)
    have hlen := congrArg List.length hd2
    rw [rng_len, List.append_nil] at hlen
    have fin := hF.fin hr fun u v hu hv huv => by unfold Praise; omega
    refine ⟨[MO.lst ((List.range i).map fun a => D.ref (st.length + 1 + a))] ++ rowsG i (intG F), ?_⟩
    rw [← List.append_assoc, hS]
    simp_arith! []
    rw [sLC_map (dy := some (.inl st.length)) (List.range i) (fun a => D.ref (st.length + 1 + a)) (fun a => rowT i F a) (by simp_arith! [iSeq_e, j3, items_ref (gS F)]) (still_some (gS F)) (by simp; omega) fun a ha => ⟨_, rfl, by
      have ha := List.mem_range.mp ha
      have g := rowsG_get (intG F) S ha
      rw [Sl] at g
      simp_arith! [jl]
      rw [bTuple_ref g]⟩]
    simp_arith! []
    exact congrArg (fun x => some (Fl.rt x, S ++ rowsG i (intG F))) (tabT_congr fin)
  obtain ⟨ex, e⟩ := body
  exact defFin_rt e rfl hw (fz_tabT 58 _ _ _ _)
end Lw96
namespace Lw96
open PySem PD
variable {st : Sto}
def innerX (g : Nat → Nat → Int) (b x : Nat) : List Int := (rng x (b + 1)).map fun y => g x y
def innerL (g : Nat → Nat → Int) (a b : Nat) : List Int := (rng a (b + 1)).flatMap (innerX g b)
theorem inner_max {g : Nat → Nat → Int} {n a b : Nat} (h0 : ∀ x y, x < n → y < n → 0 ≤ g x y) (hd : ∀ x, x < n → g x x = 0) (hab : a < b) (hb : b < n) : innerL g a b ≠ [] ∧ maxL (innerL g a b) = nr g (b - a) a := by
  obtain ⟨x, y, h1, h2, h3, h4⟩ := nr_mem g (b - a) a (by omega)
  have m : nr g (b - a) a ∈ innerL g a b := List.mem_flatMap.mpr ⟨x, mem_rng.mpr ⟨h1, by omega⟩, List.mem_map.mpr ⟨y, mem_rng.mpr ⟨by omega, by omega⟩, h4.symm⟩⟩
  have ne : innerL g a b ≠ [] := fun e => by rw [e] at m; simp at m
  obtain ⟨s1, s2⟩ := maxL_spec ne
  refine ⟨ne, Int.le_antisymm ?_ (s2 _ m)⟩
  obtain ⟨u, hu, hv⟩ := List.mem_flatMap.mp s1
  obtain ⟨v, hv, e⟩ := List.mem_map.mp hv
  have hu := mem_rng.mp hu
  have hv := mem_rng.mp hv
  rw [← e]
  exact nr_ge h0 hd (b - a) a u v (by omega) (by omega) hu.1 hv.1 (by omega)
theorem rowE_get {n a : Nat} (F : Nat → Nat → D) (st ex : Sto) (h : a < n) : (st ++ rowsG n F ++ ex)[st.length + a]? = some (.lst (rowG n (F a))) := by
  rw [List.getElem?_append_left (by rw [List.length_append, rowsG_len]; omega)]
  exact rowsG_get F st h
theorem fIx_rowE {n a b : Nat} {F : Nat → Nat → D} {st ex : Sto} (h : a < n) (hb : b < n) : fIx (.ref (st.length + a)) (.int (b : Int)) (st ++ rowsG n F ++ ex) = .ok (F a b) (st ++ rowsG n F ++ ex) := fIx_at (items_ref (rowE_get F st ex h)) (rowG_get (F a) hb)
theorem fSetIx_rowE {n a b : Nat} {F : Nat → Nat → D} {st ex : Sto} {v : D} (h : a < n) (hb : b < n) : fSetIx (.ref (st.length + a)) (.int (b : Int)) v (st ++ rowsG n F ++ ex) = some (st ++ rowsG n (updG F a b v) ++ ex) := by
  rw [fSetIx_ref (rowE_get F st ex h) (by simp [rowG]; omega), List.set_append_left _ _ (by rw [List.length_append, rowsG_len]; omega), rowsG_set F v st h]
theorem tup_rowsE {n : Nat} {F : Nat → Nat → D} {st ex : Sto} {ρ : Ev} {v w : Nat} (hn : n ≤ 1000) (hρ : ρ[v]? = some (some (refsL st.length n))) (hw : w < ρ.length) :
    sLC false (iSeq (sVar v)) (gN w) tYesD (sB bTuple (aCons (sVar w) aNil)) [w] ρ (st ++ rowsG n F ++ ex) = .ok (.lst ((List.range n).map fun a => .tup (rowG n (F a)))) (st ++ rowsG n F ++ ex) := by
  have z2 := sizeLine_eq
  rw [sLC_map (dy := none) (List.range n) (fun a => D.ref (st.length + a)) (fun a => .tup (rowG n (F a))) (by simp_arith! [iSeq_e, hρ]) (still_none _ _) (by simp; omega) fun a ha => ⟨_, rfl, by
    have ha := List.mem_range.mp ha
    simp only [sB_e, aCons_e, aNil_e, sVar_e]
    rw [List.getElem?_set_self (by simpa using hw)]
    simp only [bind_ok, bTuple_ref (rowE_get F st ex ha)]⟩]
  rfl
theorem law_nearest_t (hw : WF st) {n : Nat} (n7 : n ≤ 7) {f : Nat → Nat → Int} (v : TabP n f) {r : List Nat} (hr : RowP n r) : F_law_nearest [tabT n f, nats r] st = .ok (tabT n (dueF f r)) st := by
  have z2 := sizeLine_eq
  have h0' : ∀ x y, x < n → y < n → 0 ≤ atR f r x y := fun x y hx hy => (v.lo _ _ (hr.at hx) (hr.at hy)).1
  have hd' : ∀ x, x < n → atR f r x x = 0 := fun x hx => (v.dg _ _ (hr.at hx) (hr.at hx)).mpr rfl
  have ri : ∀ a st, a < n → fIx (nats r) (.int (a : Int)) st = .ok (.int ((r.getD a 0 : Nat) : Int)) st := fun a st ha => fIx_nats (by rw [hr.len]; exact ha) st
  have t1 : ∀ i st, i < n → fIx (tabT n f) (.int (i : Int)) st = .ok (rowT n f i) st := fun i st hi => fIx_range hi
  have t2 : ∀ i j st, j < n → fIx (rowT n f i) (.int (j : Int)) st = .ok (.int (f i j)) st := fun i j st hj => fIx_range hj
  have bl : ∀ st, bLen [nats r] st = .ok (.int (n : Int)) st := fun st => by
    show Out.ok (D.int ((r.map fun m : Nat => D.int (m : Int)).length : Int)) st = _
    rw [List.length_map, hr.len]
  have body : ∃ ex, b_law_nearest (startD 11 [tabT n f, nats r]) st = some (.rt (tabT n (dueF f r)), st ++ ex) := by
    have h0 : (startD 11 [tabT n f, nats r])[0]? = some (some (tabT n f)) := rfl
    have h1 : (startD 11 [tabT n f, nats r])[1]? = some (some (nats r)) := rfl
    have hl : (startD 11 [tabT n f, nats r]).length = 11 := rfl
    generalize startD 11 [tabT n f, nats r] = ρ at h0 h1 hl
    unfold b_law_nearest
    have st1 : qSet 2 (sB bLen (aCons (sVar 1) aNil)) ρ st = some (.nx (ρ.set 2 (some (.int (n : Int)))), st) := by simp_arith! [h1, bl]
    rw [qSeq_e, st1, then_nx, qSeq_e, qSet_e]
    rw [sLC_alloc (List.range n) (fun i : Nat => D.int (i : Int)) (fun _ => .lst (rowG n fun _ => .int 0)) (iRange_n (by simp_arith! [hl])) (by simp; omega) fun a _ st => ⟨_, rfl, by
      simp_arith! [hl, fRep_G n (by omega)]⟩]
    rw [show ((List.range n).map fun _ => MO.lst (rowG n fun _ => D.int 0)) = rowsG n (intG fun _ _ => 0) from rfl]
    rw [st_ok, then_nx, List.length_range, qSeq_e, qFor_e, iRange_n (n := n) (by simp_arith! [hl])]
    simp_arith! []
    generalize hL : loopFor _ _ _ _ _ _ _ _ = R
    obtain ⟨ρ', st', rfl, a, F, ex, hd, hF, kl, k0, k1, k2, k3, rfl⟩ := for_all_e hL (List.range n) (fun i : Nat => D.int (i : Int)) rfl (by simp) (fun rr ρ st' => ∃ (a : Nat) (F : Nat → Nat → Int) (ex : Sto), List.range n = List.range a ++ rr ∧ Dz n r (atR f r) (Pnear a 0) F ∧ ρ.length = 11 ∧ ρ[0]? = some (some (tabT n f)) ∧ ρ[1]? = some (some (nats r)) ∧ ρ[2]? = some (some (.int (n : Int))) ∧ ρ[3]? = some (some (refsL st.length n)) ∧ st' = st ++ rowsG n (intG F) ++ ex) (fun _ _ _ _ => still_none _ _) ⟨0, fun _ _ => 0, [], by simp, Dz.init fun x y _ _ => by unfold Pnear; omega, by simp_arith! [hl], by simp_arith! [h0], by simp_arith! [h1], by simp_arith! [hl], by simp_arith! [hl], by simp⟩ (by
      rintro y rr ρ st' ⟨a, F, ex, hd, hF, kl, k0, k1, k2, k3, rfl⟩
      obtain ⟨rfl, ha, hd⟩ := range_step hd
      refine ⟨_, rfl, ?_⟩
      generalize hM : qFor _ _ _ _ _ = R2
      rw [qFor_e, iRange2_n (i := y + 1) (n := n) (by simp_arith! [kl, k2, Int.natCast_add]; rfl)] at hM
      simp_arith! [] at hM
      obtain ⟨ρ', st', rfl, q, F, ex, hd2, hF, jl, j0, j1, j2, j3, j4, rfl⟩ := for_all_e hM (rng (y + 1) n) (fun i : Nat => D.int (i : Int)) rfl (by simp) (fun rr ρ st' => ∃ (q : List Nat) (F : Nat → Nat → Int) (ex : Sto), rng (y + 1) n = q ++ rr ∧ Dz n r (atR f r) (Pnear y (y + 1 + q.length)) F ∧ ρ.length = 11 ∧ ρ[0]? = some (some (tabT n f)) ∧ ρ[1]? = some (some (nats r)) ∧ ρ[2]? = some (some (.int (n : Int))) ∧ ρ[3]? = some (some (refsL st.length n)) ∧ ρ[4]? = some (some (.int (y : Int))) ∧ st' = st ++ rowsG n (intG F) ++ ex) (fun _ _ _ _ => still_none _ _) ⟨[], F, ex, rfl, hF.congr fun u v _ _ => by
        simp only [List.length_nil]
        unfold Pnear
        omega, by simp_arith! [kl], by simp_arith! [k0], by simp_arith! [k1], by simp_arith! [k2], by simp_arith! [k3], by simp_arith! [kl], rfl⟩ (by
        rintro b rr2 ρ st' ⟨q, F, ex, hd2, hF, jl, j0, j1, j2, j3, j4, rfl⟩
        obtain ⟨eb, hb⟩ := rng_step hd2
        have hab : y < b := by omega
        obtain ⟨ine, imx⟩ := inner_max h0' hd' hab hb
        have put := hF.put (P' := Pnear y (b + 1)) hr hab hb (v := nr (atR f r) (b - y) y) rfl (fun u v hu hv => by unfold Pnear; omega)
        have r1 := hr.at (show y < n by omega)
        have r2 := hr.at hb
        have base : (st ++ rowsG n (intG F) ++ ex).length = st.length + n + ex.length := by
          rw [List.length_append, List.length_append, rowsG_len]
        refine ⟨_, rfl, ?_⟩
        rw [qSeq_e]
        have e1 : qSet 6 (sLst true aNil) (ρ.set 5 (some (.int (b : Int)))) (st ++ rowsG n (intG F) ++ ex) = some (.nx ((ρ.set 5 (some (.int (b : Int)))).set 6 (some (.ref (st.length + n + ex.length)))), st ++ rowsG n (intG F) ++ ex ++ [.lst []]) := by
          simp_arith! []
          rw [base]
        rw [e1, then_nx, qSeq_e, qFor_e, iRange2_n (i := y) (n := b + 1) (by simp_arith! [jl, j4, Int.natCast_add]; rfl)]
        simp_arith! []
        generalize hN : loopFor _ _ _ _ _ _ _ _ = R3
        have gI : ∀ xs, (st ++ rowsG n (intG F) ++ ex ++ [MO.lst xs])[st.length + n + ex.length]? = some (.lst xs) := fun xs => by
          rw [← base]
          exact sto_get1 _ _
        have sI : ∀ xs o, (st ++ rowsG n (intG F) ++ ex ++ [MO.lst xs]).set (st.length + n + ex.length) o = st ++ rowsG n (intG F) ++ ex ++ [o] := fun xs o => by
          rw [← base]
          exact sto_set1 _ _ _
        obtain ⟨ρ', st', rfl, q3, hd3, hq3, il, i0, i1, i2, i3, i4, i5, i6, rfl⟩ := for_all_e hN (rng y (b + 1)) (fun i : Nat => D.int (i : Int)) rfl (by simp) (fun rr ρ st' => ∃ (q3 : List Nat), rng y (b + 1) = q3 ++ rr ∧ (q3.flatMap (innerX (atR f r) b)).length ≤ 8 * q3.length ∧ ρ.length = 11 ∧ ρ[0]? = some (some (tabT n f)) ∧ ρ[1]? = some (some (nats r)) ∧ ρ[2]? = some (some (.int (n : Int))) ∧ ρ[3]? = some (some (refsL st.length n)) ∧ ρ[4]? = some (some (.int (y : Int))) ∧ ρ[5]? = some (some (.int (b : Int))) ∧ ρ[6]? = some (some (.ref (st.length + n + ex.length))) ∧ st' = st ++ rowsG n (intG F) ++ ex ++ [.lst ((q3.flatMap (innerX (atR f r) b)).map D.int)]) (fun _ _ _ _ => still_none _ _) ⟨[], rfl, by simp, by simp_arith! [jl], by simp_arith! [j0], by simp_arith! [j1], by simp_arith! [j2], by simp_arith! [j3], by simp_arith! [j4], by simp_arith! [jl], by simp_arith! [jl], rfl⟩ (by
          rintro x rr3 ρ st' ⟨q3, hd3, hq3, il, i0, i1, i2, i3, i4, i5, i6, rfl⟩
          have hx : y ≤ x ∧ x < b + 1 := mem_rng.mp (by rw [hd3]; simp)
          have q3l : q3.length ≤ 8 := by
            have := congrArg List.length hd3
            rw [rng_len, List.length_append, List.length_cons] at this
            omega
          have ixl : (innerX (atR f r) b x).length ≤ 8 := by
            unfold innerX
            rw [List.length_map, rng_len]
            omega
          have rx := hr.at (show x < n by omega)
          have ef : (q3 ++ [x]).flatMap (innerX (atR f r) b) = q3.flatMap (innerX (atR f r) b) ++ innerX (atR f r) b x := by
            rw [List.flatMap_append]
            simp
          refine ⟨_, rfl, ρ.set 7 (some (.int (x : Int))), st ++ rowsG n (intG F) ++ ex ++ [.lst (((q3 ++ [x]).flatMap (innerX (atR f r) b)).map D.int)], .inl ?_, q3 ++ [x], by rw [hd3]; simp, by
            rw [ef, List.length_append, List.length_append, List.length_singleton]
            omega, by simp_arith! [il], by simp_arith! [i0], by simp_arith! [i1], by simp_arith! [i2], by simp_arith! [i3], by simp_arith! [i4], by simp_arith! [i5], by simp_arith! [i6], rfl⟩
          simp_arith! [il, i6, litems_ref (gI _)]
          rw [sLC_map (dy := none) (rng x (b + 1)) (fun i : Nat => D.int (i : Int)) (fun z => D.int (atR f r x z)) (iRange2_n (i := x) (n := b + 1) (by simp_arith! [il, i5, Int.natCast_add]; rfl)) (still_none _ _) (by rw [rng_len]; omega) fun z hz => ⟨_, rfl, by
            have hz := mem_rng.mp hz
            have rz := hr.at (show z < n by omega)
            simp_arith! [il, i0, i1, ri _ _ (show x < n by omega), ri _ _ (show z < n by omega), t1 _ _ rx, t2 _ _ _ rz]
            rfl⟩]
          simp_arith! []
          rw [fExtend_ref (gI _) (ys := (innerX (atR f r) b x).map D.int) (by
            unfold innerX
            rw [List.map_map]
            rfl) (by rw [List.length_map, List.length_map]; omega), sI, ef, List.map_append]
          simp_arith! [])
        rw [List.append_nil] at hd3
        have bm := bMax1_lst (st := st ++ rowsG n (intG F) ++ ex ++ [.lst ((q3.flatMap (innerX (atR f r) b)).map D.int)]) (litems_ref (gI _)) (by rw [← hd3]; exact ine)
        rw [← hd3, show maxL ((rng y (b + 1)).flatMap (innerX (atR f r) b)) = nr (atR f r) (b - y) y from imx] at bm
        rw [← hd3]
        generalize hW : (ex ++ [MO.lst (((rng y (b + 1)).flatMap (innerX (atR f r) b)).map D.int)]) = W
        have bm2 : ∀ G, bMax1 [.ref (st.length + n + ex.length)] (st ++ rowsG n (intG G) ++ W) = .ok (.int (nr (atR f r) (b - y) y)) (st ++ rowsG n (intG G) ++ W) := fun G => by
          refine (bMax1_lst (ns := innerL (atR f r) y b) (litems_ref ?_) ine).trans (by rw [imx])
          rw [← hW, ← List.append_assoc, show st.length + n + ex.length = (st ++ rowsG n (intG G) ++ ex).length by rw [List.length_append, List.length_append, rowsG_len]]
          exact sto_get1 _ _
        rw [List.append_assoc (st ++ rowsG n (intG F)), hW]
        have c2 : ∀ (a : Nat) (G : Nat → Nat → Int) (v : Int), a < n → ∀ b, b < n → fSetIx (.ref (st.length + a)) (.int (b : Int)) (.int v) (st ++ rowsG n (intG G) ++ W) = some (st ++ rowsG n (intG (upd1 G a b v)) ++ W) := fun a G v ha b hb => by
          have := fSetIx_rowE (st := st) (ex := W) (F := intG G) (v := .int v) ha hb
          rw [updG_int] at this
          exact this
        refine ⟨_, _, .inl ?_, q ++ [b], upd1 (upd1 F (r.getD y 0) (r.getD b 0) (nr (atR f r) (b - y) y)) (r.getD b 0) (r.getD y 0) (nr (atR f r) (b - y) y), W, by rw [hd2]; simp, ?_, il, i0, i1, i2, i3, i4, rfl⟩
        · simp_arith! [i1, i3, i4, i5, i6, bm2, ri _ _ (show y < n by omega), ri _ _ hb, fIx_refs r1, fIx_refs r2, c2 _ _ _ r1 _ r2, c2 _ _ _ r2 _ r1]
        · rw [List.length_append, List.length_singleton, ← Nat.add_assoc, ← eb]
          exact put)
      have hlen := congrArg List.length hd2
      rw [rng_len, List.append_nil] at hlen
      exact ⟨_, _, .inl rfl, y + 1, F, ex, hd, hF.congr fun u v hu hv => by
        unfold Pnear
        omega, jl, j0, j1, j2, j3, rfl⟩)
    have := range_end hd
    subst this
    have fin := hF.fin hr fun u v hu hv huv => by unfold Pnear; omega
    refine ⟨rowsG a (intG F) ++ ex, ?_⟩
    rw [← List.append_assoc]
    simp_arith! []
    rw [tup_rowsE (by omega) k3 (by rw [kl]; decide)]
    simp_arith! []
    exact congrArg (fun x => some (Fl.rt x, st ++ rowsG a (intG F) ++ ex)) (tabT_congr fin)
  obtain ⟨ex, e⟩ := body
  exact defFin_rt e rfl hw (fz_tabT 58 _ _ _ _)
end Lw96
namespace Lw96
open PySem PD
variable {st : Sto}
/-! ### data: equality and repr -/
def sameT (n : Nat) (f g : Nat → Nat → Int) : Bool := (List.range n).all fun i => (List.range n).all fun j => decide (f i j = g i j)
theorem sameT_iff {n : Nat} {f g : Nat → Nat → Int} : sameT n f g = true ↔ ∀ i j, i < n → j < n → f i j = g i j := by
  unfold sameT
  simp only [List.all_eq_true, List.mem_range, decide_eq_true_eq]
  exact ⟨fun h i j hi hj => h i hi j hj, fun h i hi j hj => h i j hi hj⟩
theorem toPy_map {α : Type} (st : Sto) (n : Nat) (l : List α) (φ : α → D) (ψ : α → PyData) (h : ∀ a ∈ l, toPy st n (φ a) = some (ψ a)) : toPy st (n + 1) (.tup (l.map φ)) = some (.tuple (l.map ψ)) := by
  rw [toPy]
  simp only [List.map_map]
  rw [allSome_map (f := toPy st n ∘ φ) (g := ψ) h]
  rfl
theorem toPy_mapL {α : Type} (st : Sto) (n : Nat) (l : List α) (φ : α → D) (ψ : α → PyData) (h : ∀ a ∈ l, toPy st n (φ a) = some (ψ a)) : toPy st (n + 1) (.lst (l.map φ)) = some (.list (l.map ψ)) := by
  rw [toPy]
  simp only [List.map_map]
  rw [allSome_map (f := toPy st n ∘ φ) (g := ψ) h]
  try rfl
theorem eqvAll_map {α : Type} (φ ψ : α → PyData) : ∀ l : List α, PyData.eqvAll (l.map φ) (l.map ψ) = l.all fun a => PyData.eqv (φ a) (ψ a)
  | [] => rfl
  | a :: l => by rw [List.map_cons, List.map_cons, PyData.eqvAll, eqvAll_map φ ψ l, List.all_cons]
abbrev tabP (n : Nat) (f : Nat → Nat → Int) : PyData := .tuple ((List.range n).map fun i => .tuple ((List.range n).map fun j => .int (f i j)))
theorem toPy_tabT (st : Sto) (k n : Nat) (f : Nat → Nat → Int) : toPy st (k + 2) (tabT n f) = some (tabP n f) := toPy_map st (k + 1) _ _ _ fun i _ => toPy_map st k _ _ _ fun j _ => toPy_int st k _
theorem eqv_tabP (n : Nat) (f g : Nat → Nat → Int) : PyData.eqv (tabP n f) (tabP n g) = sameT n f g := by
  unfold sameT tabP
  rw [PyData.eqv, eqvAll_map]
  congr 1
  funext i
  rw [PyData.eqv, eqvAll_map]
  simp only [eqv_int]
theorem fEq_tab (st : Sto) (n : Nat) (f g : Nat → Nat → Int) : fEq (tabT n f) (tabT n g) st = .ok (.bl (sameT n f g)) st := by
  unfold fEq
  rw [toPy_tabT st 58, toPy_tabT st 58, ]
  simp only [eqv_tabP]
theorem eqvAll_ints : ∀ (a b : List Int), PyData.eqvAll (a.map PyData.int) (b.map PyData.int) = decide (a = b)
  | [], [] => rfl
  | [], _ :: _ => rfl
  | _ :: _, [] => rfl
  | x :: a, y :: b => by
    rw [List.map_cons, List.map_cons, PyData.eqvAll, eqv_int, eqvAll_ints a b, ← Bool.decide_and]
    exact decide_eq_decide.mpr (by rw [List.cons.injEq])
theorem fEq_ints (st : Sto) (a b : List Int) : fEq (.lst (a.map D.int)) (.lst (b.map D.int)) st = .ok (.bl (decide (a = b))) st := by
  unfold fEq
  rw [toPy_mapL st 59 a D.int PyData.int fun i _ => toPy_int _ _ _, toPy_mapL st 59 b D.int PyData.int fun i _ => toPy_int _ _ _]
  simp only [PyData.eqv, eqvAll_ints]
/-- data that is short enough to be shown -/
structure Sm (W : Nat) (p : PyData) : Prop where
  cl : p.canLay0 = true
  sh : p.intsShort 13 = true
  we : p.weight ≤ W
  ok : p.showable = true
theorem sm_int {i : Int} (h0 : 0 ≤ i) (h1 : i ≤ 1000) : Sm 20 (.int i) := by
  have : (List.range 1001).all (fun n => (PyData.int (n : Int)).canLay0 && (PyData.int (n : Int)).intsShort 13 && decide ((PyData.int (n : Int)).weight ≤ 20) && (PyData.int (n : Int)).showable) = true := by decide +kernel
  obtain ⟨n, rfl⟩ : ∃ n : Nat, i = (n : Int) := ⟨i.toNat, by omega⟩
  have h := List.all_eq_true.mp this n (List.mem_range.mpr (by omega))
  simp only [Bool.and_eq_true, decide_eq_true_eq] at h
  exact ⟨h.1.1.1, h.1.1.2, h.1.2, h.2⟩
theorem sm_all {W : Nat} : ∀ {xs : List PyData}, (∀ x ∈ xs, Sm W x) → PyData.canLayAll0 xs = true ∧ PyData.intsShortAll 13 xs = true ∧ PyData.weightAll xs ≤ xs.length * (W + 1) ∧ PyData.showableAll xs = true
  | [], _ => ⟨by simp only [PyData.canLayAll0], by simp only [PyData.intsShortAll], by simp only [PyData.weightAll]; omega, by simp only [PyData.showableAll]⟩
  | x :: xs, h => by
    have a := h x List.mem_cons_self
    obtain ⟨b1, b2, b3, b4⟩ := sm_all fun y hy => h y (List.mem_cons_of_mem _ hy)
    have c := a.we
    refine ⟨?_, ?_, ?_, ?_⟩
    · simp only [PyData.canLayAll0, a.cl, b1, Bool.and_self]
    · simp only [PyData.intsShortAll, a.sh, b2, Bool.and_self]
    · simp only [PyData.weightAll]
      rw [List.length_cons, Nat.succ_mul]
      omega
    · simp only [PyData.showableAll, a.ok, b4, Bool.and_self]
theorem sm_tuple {W V : Nat} {xs : List PyData} (h : ∀ x ∈ xs, Sm W x) (hv : xs.length * (W + 1) ≤ V) : Sm V (.tuple xs) := by
  obtain ⟨b1, b2, b3, b4⟩ := sm_all h
  exact ⟨by simp only [PyData.canLay0, b1], by simp only [PyData.intsShort, b2], by simp only [PyData.weight]; omega, by simp only [PyData.showable, b4]⟩
theorem sm_list {W V : Nat} {xs : List PyData} (h : ∀ x ∈ xs, Sm W x) (hv : xs.length * (W + 1) ≤ V) : Sm V (.list xs) := by
  obtain ⟨b1, b2, b3, b4⟩ := sm_all h
  exact ⟨by simp only [PyData.canLay0, b1], by simp only [PyData.intsShort, b2], by simp only [PyData.weight]; omega, by simp only [PyData.showable, b4]⟩
theorem Sm.up {W V : Nat} {p : PyData} (h : Sm W p) (hv : W ≤ V) : Sm V p := ⟨h.cl, h.sh, Nat.le_trans h.we hv, h.ok⟩
theorem bRepr_sm {st : Sto} {x : D} {p : PyData} {W : Nat} (e : toPy st 60 x = some p) (h : Sm W p) (hW : W ≤ 1000000) : bRepr [x] st = .ok (.str p.shown) st := by
  have z2 := sizeLine_eq
  have s := PyData.shown_le 13 (by decide) p (PyData.leavesShort_of_canLay0 13 p h.cl h.sh)
  have w := h.we
  have l : p.shown.length ≤ sizeLine := by omega
  unfold bRepr
  simp only [e]
  rw [if_pos ⟨h.ok, l⟩]
theorem sm_tab {n : Nat} {f : Nat → Nat → Int} (n7 : n ≤ 7) (h : ∀ i j, i < n → j < n → 0 ≤ f i j ∧ f i j ≤ 1000) : Sm 1200 (tabP n f) := by
  refine sm_tuple (W := 150) (fun x hx => ?_) ?_
  · obtain ⟨i, hi, rfl⟩ := List.mem_map.mp hx
    refine sm_tuple (W := 20) (fun y hy => ?_) ?_
    · obtain ⟨j, hj, rfl⟩ := List.mem_map.mp hy
      have := h i j (List.mem_range.mp hi) (List.mem_range.mp hj)
      exact sm_int this.1 this.2
    · rw [List.length_map, List.length_range]
      omega
  · rw [List.length_map, List.length_range]
    omega
abbrev natsP (r : List Nat) : PyData := .tuple (r.map fun m : Nat => .int (m : Int))
theorem toPy_nats (st : Sto) (k : Nat) (r : List Nat) : toPy st (k + 1) (nats r) = some (natsP r) := toPy_map st k _ _ _ fun m _ => toPy_int st k _
theorem sm_nats {r : List Nat} (hl : r.length ≤ 7) (h : ∀ m ∈ r, m ≤ 1000) : Sm 150 (natsP r) := by
  refine sm_tuple (W := 20) (fun y hy => ?_) ?_
  · obtain ⟨m, hm, rfl⟩ := List.mem_map.mp hy
    have := h m hm
    exact sm_int (by omega) (by omega)
  · rw [List.length_map]
    omega
/-- the same data on both sides -/
theorem law_is_t (hw : WF st) {x : D} {p : PyData} {W : Nat} (e : toPy st 60 x = some p) (h : Sm W p) (hW : W ≤ 1000000) : F_law_is [x, x] st = .ok (.bl true) st := defFin_v hw (fz_bl _ _) (by
  have h0 : (startD 2 [x, x])[0]? = some (some x) := rfl
  have h1 : (startD 2 [x, x])[1]? = some (some x) := rfl
  generalize startD 2 [x, x] = ρ at h0 h1
  have r := bRepr_sm e h hW
  have q : ∀ y : Str, fEqS (.str y) (.str y) st = .ok (.bl true) st := fun y => by
    unfold fEqS
    simp
  unfold b_law_is
  simp_arith! [h0, h1, r, q])
/-! ### is_row -/
theorem sortedT_ints (st : Sto) (ns : List Int) : bSortedT [.tup (ns.map D.int)] st = .ok (.lst ((sortZ (ns.map fun i => [[(1 : Int), i]]) ns).map D.int)) st := by
  unfold bSortedT
  have e : allInt (ns.map D.int) = some ns := by
    have := allInt_map (fun i : Int => i) ns
    rw [List.map_id'] at this
    exact this
  simp only [e]
theorem nats_ints (r : List Nat) : nats r = .tup ((r.map fun m : Nat => (m : Int)).map D.int) := by
  unfold nats
  rw [List.map_map]
  rfl
theorem is_row_ints (hw : WF st) {n : Nat} (hn : n ≤ 7) {ns : List Int} (hl : ns.length = n) : F_is_row [.int (n : Int), .tup (ns.map D.int)] st = .ok (.bl (decide (ns.Perm ((List.range n).map fun i : Nat => (i : Int))))) st := defFin_v hw (fz_bl _ _) (by
  have z2 := sizeLine_eq
  have h0 : (startD 3 [.int (n : Int), .tup (ns.map D.int)])[0]? = some (some (.int (n : Int))) := rfl
  have h1 : (startD 3 [.int (n : Int), .tup (ns.map D.int)])[1]? = some (some (.tup (ns.map D.int))) := rfl
  have h2 : (startD 3 [.int (n : Int), .tup (ns.map D.int)]).length = 3 := rfl
  generalize startD 3 [.int (n : Int), .tup (ns.map D.int)] = ρ at h0 h1 h2
  have sz := is_sized_t hw (ns.map D.int) (n : Int) (n : Int)
  rw [List.length_map, hl, decide_eq_true (show (n : Int) ≤ n ∧ (n : Int) ≤ n from ⟨Int.le_refl _, Int.le_refl _⟩)] at sz
  have al : sLC false (iSeq (sVar 1)) (gN 2) tYesD (sCall 1 F_is_integer (aCons (sVar 2) aNil)) [2] ρ st = .ok (.lst (ns.map fun _ => D.bl true)) st := by
    rw [sLC_map (dy := none) ns D.int (fun _ => D.bl true) (by simp_arith! [iSeq_e, h1]) (still_none _ _) (by omega) fun i _ => ⟨_, rfl, by
      simp_arith! [h2, is_integer_i hw]⟩]
    rfl
  have ba : bAll [.lst (ns.map fun _ => D.bl true)] st = .ok (.bl true) st := by
    rw [bAll_map (fun _ => true) ns st]
    simp
  have rg : ((if (0 : Int) ≤ (n : Int) ∧ (n : Int) ≤ ((16777216 : Nat) : Int) then Out.ok (D.lst (rangeL 0 (Int.toNat (n : Int)))) st else Out.bad) : Out D) = .ok (.lst (((List.range n).map fun i : Nat => (i : Int)).map D.int)) st := by
    rw [if_pos (by omega), rangeL_0, List.map_map]
    rfl
  unfold b_is_row
  simp_arith! [h0, h1, sz, al, ba, sortedT_ints, rg, fEq_ints]
  congr 4
  refine decide_eq_decide.mpr ?_
  have sp := sortZ_perm (ks := ns.map fun i => [[(1 : Int), i]]) (xs := ns) (by rw [List.length_map])
  constructor
  · intro e
    rw [e] at sp
    exact sp.symm
  · intro e
    refine (sortZ_ints ns _ e.symm ?_).symm
    exact List.pairwise_map.mpr ((List.pairwise_lt_range (n := n)).imp fun h => by omega))
theorem is_row_t (hw : WF st) {n : Nat} (hn : n ≤ 7) {r : List Nat} (hr : RowP n r) : F_is_row [.int (n : Int), nats r] st = .ok (.bl true) st := by
  rw [nats_ints, is_row_ints hw hn (by rw [List.length_map]; exact hr.len), decide_eq_true (hr.pm.map _)]
theorem check_sound_t (hw : WF st) {n : Nat} {f : Nat → Nat → Int} (v : TabP n f) (tr : Tri n f) : F_check_sound [tabT n f] st = .ok .non st := defFin_n (ρ := startD 1 [tabT n f]) hw (by
  have h0 : (startD 1 [tabT n f])[0]? = some (some (tabT n f)) := rfl
  generalize startD 1 [tabT n f] = ρ at h0
  have s := short_triple_T hw f v.n7
  rw [(shortT_none v).mpr tr] at s
  have s : F_short_triple [tabT n f] st = .ok .non st := s
  unfold b_check_sound
  simp_arith! [h0, check_table_T hw v, s])
theorem check_row_t (hw : WF st) {n : Nat} {f : Nat → Nat → Int} (v : TabP n f) (tr : Tri n f) {r : List Nat} (hr : RowP n r) : F_check_row [tabT n f, nats r] st = .ok .non st := defFin_n (ρ := startD 2 [tabT n f, nats r]) hw (by
  have h0 : (startD 2 [tabT n f, nats r])[0]? = some (some (tabT n f)) := rfl
  have h1 : (startD 2 [tabT n f, nats r])[1]? = some (some (nats r)) := rfl
  generalize startD 2 [tabT n f, nats r] = ρ at h0 h1
  unfold b_check_row
  simp_arith! [h0, h1, check_sound_t hw v tr, List.length_range, is_row_t hw v.n7 hr])
/-! ### how far raised -/
def offN (n : Nat) (f : Nat → Nat → Int) (r : List Nat) : Int := maxL ((List.range n).map fun i => maxL ((List.range n).map fun j => dueF f r i j - f i j))
theorem raised_by_t (hw : WF st) {n : Nat} {f : Nat → Nat → Int} (v : TabP n f) {r : List Nat} (hr : RowP n r) : F_raised_by [tabT n f, nats r] st = .ok (.int (offN n f r)) st := defFin_v hw (fz_int _ _) (by
  have z2 := sizeLine_eq
  have n1 := v.n1
  have n7 := v.n7
  have h0 : (startD 7 [tabT n f, nats r])[0]? = some (some (tabT n f)) := rfl
  have h1 : (startD 7 [tabT n f, nats r])[1]? = some (some (nats r)) := rfl
  have h2 : (startD 7 [tabT n f, nats r]).length = 7 := rfl
  generalize startD 7 [tabT n f, nats r] = ρ at h0 h1 h2
  have ne : ∀ F : Nat → Int, (List.range n).map F ≠ [] := fun F e => by
    have := congrArg List.length e
    rw [List.length_map, List.length_range, List.length_nil] at this
    omega
  unfold b_raised_by
  simp_arith! [h0, h1, h2, raised_t hw n7 f hr]
  rw [sLC_map (dy := none) (List.range n) (fun i : Nat => D.tpl [rowT n (dueF f r) i, rowT n f i]) (fun i => D.int (maxL ((List.range n).map fun j => dueF f r i j - f i j))) (by simp_arith! [iZip_e, h0, h2, zip_range, List.length_range]) (still_none _ _) (by simp; omega) fun i hi => ⟨_, rfl, by
    simp_arith! [h2]
    rw [sLC_map (dy := none) (List.range n) (fun j : Nat => D.tpl [.int (dueF f r i j), .int (f i j)]) (fun j => D.int (dueF f r i j - f i j)) (by simp_arith! [iZip_e, h2, zip_range, List.length_range]) (still_none _ _) (by simp; omega) fun j hj => ⟨_, rfl, by
      simp_arith! [h2]⟩]
    simp_arith! []
    exact bMax1_lst (by rw [litems_lst, List.map_map]; rfl) (ne _)⟩]
  simp_arith! []
  rw [bMax1_lst (ns := (List.range n).map fun i => maxL ((List.range n).map fun j => dueF f r i j - f i j)) (by rw [litems_lst, List.map_map]; rfl) (ne _)]
  rfl)
theorem law_off_by_t (hw : WF st) {n : Nat} {f : Nat → Nat → Int} (v : TabP n f) {r : List Nat} (hr : RowP n r) : F_law_off_by [tabT n f, nats r] st = .ok (.int (offN n f r)) st := defFin_v hw (fz_int _ _) (by
  have z2 := sizeLine_eq
  have n1 := v.n1
  have n7 := v.n7
  have h0 : (startD 7 [tabT n f, nats r])[0]? = some (some (tabT n f)) := rfl
  have h1 : (startD 7 [tabT n f, nats r])[1]? = some (some (nats r)) := rfl
  have h2 : (startD 7 [tabT n f, nats r]).length = 7 := rfl
  generalize startD 7 [tabT n f, nats r] = ρ at h0 h1 h2
  have ne : ∀ F : Nat → Int, (List.range n).map F ≠ [] := fun F e => by
    have := congrArg List.length e
    rw [List.length_map, List.length_range, List.length_nil] at this
    omega
  unfold b_law_off_by
  simp_arith! [h0, h1, h2, law_nearest_t hw n7 v hr]
  rw [sLC_map (dy := none) (List.range n) (fun i : Nat => D.tpl [rowT n (dueF f r) i, rowT n f i]) (fun i => D.int (maxL ((List.range n).map fun j => dueF f r i j - f i j))) (by simp_arith! [iZip_e, h0, h2, zip_range, List.length_range]) (still_none _ _) (by simp; omega) fun i hi => ⟨_, rfl, by
    simp_arith! [h2]
    rw [sLC_map (dy := none) (List.range n) (fun j : Nat => D.tpl [.int (dueF f r i j), .int (f i j)]) (fun j => D.int (dueF f r i j - f i j)) (by simp_arith! [iZip_e, h2, zip_range, List.length_range]) (still_none _ _) (by simp; omega) fun j hj => ⟨_, rfl, by
      simp_arith! [h2]⟩]
    simp_arith! []
    exact bMax1_lst (by rw [litems_lst, List.map_map]; rfl) (ne _)⟩]
  simp_arith! []
  rw [bMax1_lst (ns := (List.range n).map fun i => maxL ((List.range n).map fun j => dueF f r i j - f i j)) (by rw [litems_lst, List.map_map]; rfl) (ne _)]
  rfl)
theorem nearest_rising_t (hw : WF st) {n : Nat} {f : Nat → Nat → Int} (v : TabP n f) (tr : Tri n f) {r : List Nat} (hr : RowP n r) : F_nearest_rising [tabT n f, nats r] st = .ok (tabT n (dueF f r)) st := defFin_v hw (fz_tabT 58 _ _) (by
  have h0 : (startD 2 [tabT n f, nats r])[0]? = some (some (tabT n f)) := rfl
  have h1 : (startD 2 [tabT n f, nats r])[1]? = some (some (nats r)) := rfl
  generalize startD 2 [tabT n f, nats r] = ρ at h0 h1
  unfold b_nearest_rising
  simp_arith! [h0, h1, check_row_t hw v tr hr, raised_t hw v.n7 f hr])
theorem over_by_t (hw : WF st) {n : Nat} {f : Nat → Nat → Int} (v : TabP n f) (tr : Tri n f) {r : List Nat} (hr : RowP n r) : F_over_by [tabT n f, nats r] st = .ok (.int (offN n f r)) st := defFin_v hw (fz_int _ _) (by
  have h0 : (startD 2 [tabT n f, nats r])[0]? = some (some (tabT n f)) := rfl
  have h1 : (startD 2 [tabT n f, nats r])[1]? = some (some (nats r)) := rfl
  generalize startD 2 [tabT n f, nats r] = ρ at h0 h1
  unfold b_over_by
  simp_arith! [h0, h1, check_row_t hw v tr hr, raised_by_t hw v hr])
theorem falls_of_T (hw : WF st) {n : Nat} {f : Nat → Nat → Int} (n7 : n ≤ 7) {r : List Nat} (hr : RowP n r) : F_falls_of [tabT n f, nats r] st = .ok (.lst ((fallsG (atR f r) n).map tri3)) st := falls_of_t hw n7 (tabIn_T st n f) hr.len hr.lt
theorem law_falls_T (hw : WF st) {n : Nat} {f : Nat → Nat → Int} (n7 : n ≤ 7) {r : List Nat} (hr : RowP n r) : F_law_falls [tabT n f, nats r] st = .ok (.lst ((fallsG (atR f r) n).map tri3)) st := law_falls_t hw n7 (tabIn_T st n f) hr.len hr.lt
def fallsN (n : Nat) (f : Nat → Nat → Int) (r : List Nat) : Int := ((fallsG (atR f r) n).length : Int)
theorem falls_T (hw : WF st) {n : Nat} {f : Nat → Nat → Int} (v : TabP n f) (tr : Tri n f) {r : List Nat} (hr : RowP n r) : F_falls [tabT n f, nats r] st = .ok (.int (fallsN n f r)) st := defFin_v hw (fz_int _ _) (by
  have h0 : (startD 2 [tabT n f, nats r])[0]? = some (some (tabT n f)) := rfl
  have h1 : (startD 2 [tabT n f, nats r])[1]? = some (some (nats r)) := rfl
  generalize startD 2 [tabT n f, nats r] = ρ at h0 h1
  unfold b_falls
  simp_arith! [h0, h1, check_row_t hw v tr hr, falls_of_T hw v.n7 hr]
  rfl)
theorem does_rise_T (hw : WF st) {n : Nat} {f : Nat → Nat → Int} (v : TabP n f) (tr : Tri n f) {r : List Nat} (hr : RowP n r) : F_does_rise [tabT n f, nats r] st = .ok (.bl (decide (fallsN n f r = 0))) st := defFin_v hw (fz_bl _ _) (by
  have h0 : (startD 2 [tabT n f, nats r])[0]? = some (some (tabT n f)) := rfl
  have h1 : (startD 2 [tabT n f, nats r])[1]? = some (some (nats r)) := rfl
  generalize startD 2 [tabT n f, nats r] = ρ at h0 h1
  unfold b_does_rise
  simp_arith! [h0, h1, check_row_t hw v tr hr, falls_of_T hw v.n7 hr]
  rfl)
end Lw96
namespace Lw96
open PySem PD
open PySem.W (alike dataLt)
variable {st : Sto}
/-! ### min of pairs of a number and a row -/
theorem bestP_map {α β : Type} (f : PyData → PyData → Bool) (P : α → PyData) (φ : α → β) : ∀ (l : List α) (a : α), bestP f (P a, φ a) ((l.map P).zip (l.map φ)) = (P (l.foldl (fun a y => if f (P y) (P a) then y else a) a), φ (l.foldl (fun a y => if f (P y) (P a) then y else a) a))
  | [], a => rfl
  | b :: l, a => by
    have ih := bestP_map f P φ l (if f (P b) (P a) then b else a)
    unfold bestP at ih ⊢
    rw [List.map_cons, List.map_cons, List.zip_cons_cons, List.foldl_cons, List.foldl_cons, ← ih]
    congr 1
    dsimp only
    split <;> rfl
theorem bMinP_map {α : Type} (P : α → PyData) (φ : α → D) (a : α) (l : List α) {x : D} {st : Sto} (hx : litems st x = some ((a :: l).map φ)) (h1 : ∀ y ∈ a :: l, toPy st 59 (φ y) = some (P y)) (h2 : ∀ y ∈ a :: l, ∀ z ∈ a :: l, alike (P y) (P z) = true) (h3 : ∀ y ∈ a :: l, P y ≠ .none) :
    bMinP [x] st = .ok (φ (l.foldl (fun a y => if dataLt (P y) (P a) then y else a) a)) st := by
  unfold bMinP bBestP
  have e : toPys st 59 ((a :: l).map φ) = some ((a :: l).map P) := by
    unfold toPys
    rw [List.map_map]
    exact allSome_map fun y hy => h1 y hy
  simp only [hx, List.map_cons] at e ⊢
  simp only [e]
  rw [if_pos]
  · have := bestP_map (fun y a => dataLt y a) P φ l a
    rw [this]
  · unfold alikeB
    rw [Bool.and_eq_true]
    refine ⟨List.all_eq_true.mpr fun p hp => List.all_eq_true.mpr fun q hq => ?_, List.all_eq_true.mpr fun p hp => ?_⟩
    · obtain ⟨y, hy, rfl⟩ := List.mem_map.mp (show p ∈ (a :: l).map P from hp)
      obtain ⟨z, hz, rfl⟩ := List.mem_map.mp (show q ∈ (a :: l).map P from hq)
      exact h2 y hy z hz
    · obtain ⟨y, hy, rfl⟩ := List.mem_map.mp (show p ∈ (a :: l).map P from hp)
      have := h3 y hy
      cases h : P y <;> first | rfl | exact absurd h this
theorem alike_intsD : ∀ xs ys : List Int, PySem.W.alikeAll (xs.map PyData.int) (ys.map PyData.int) = true
  | [], _ => by rw [List.map_nil, PySem.W.alikeAll]
  | _ :: _, [] => by rw [List.map_nil, List.map_cons, PySem.W.alikeAll]
  | x :: xs, y :: ys => by
    rw [List.map_cons, List.map_cons, PySem.W.alikeAll, alike_intsD xs ys]
    simp [alike]
theorem alike_tupI (xs ys : List Int) : alike (.tuple (xs.map PyData.int)) (.tuple (ys.map PyData.int)) = true := by
  rw [alike]
  exact alike_intsD xs ys
theorem dataLt_tupI (xs ys : List Int) : dataLt (.tuple (xs.map PyData.int)) (.tuple (ys.map PyData.int)) = decide (xs < ys) := (PySem.W.dataLt_tuple _ _).trans (PySem.W.dataLt_ints xs ys)
theorem eqv_tupI (l m : List Int) : PyData.eqv (.tuple (l.map PyData.int)) (.tuple (m.map PyData.int)) = decide (l = m) := by
  rw [PyData.eqv]
  exact eqvAll_ints l m
theorem dataLt_pI (i j : Int) (xs ys : List Int) : dataLt (.tuple [.int i, .tuple (xs.map PyData.int)]) (.tuple [.int j, .tuple (ys.map PyData.int)]) = if i = j then (if xs = ys then false else decide (xs < ys)) else decide (i < j) := by
  rw [PySem.W.dataLt_pair (by simp [alike]) (alike_tupI xs ys), eqv_int, eqv_tupI, dataLt_tupI, PySem.W.dataLt_int]
  by_cases h : i = j <;> by_cases h2 : xs = ys <;> simp [h, h2]
theorem alike_pI (i j : Int) (xs ys : List Int) : alike (.tuple [.int i, .tuple (xs.map PyData.int)]) (.tuple [.int j, .tuple (ys.map PyData.int)]) = true := by
  have h := alike_tupI xs ys
  simp only [alike, PySem.W.alikeAll] at h ⊢
  simp [h]
def intsN (r : List Nat) : List Int := r.map fun m : Nat => (m : Int)
def ltR (c : List Nat → Int) (y a : List Nat) : Bool := if c y = c a then (if intsN y = intsN a then false else decide (intsN y < intsN a)) else decide (c y < c a)
def bestR (c : List Nat → Int) (a : List Nat) (l : List (List Nat)) : List Nat := l.foldl (fun a y => if ltR c y a then y else a) a
def bestA (c : List Nat → Int) (l : List (List Nat)) : List Nat := match l with
  | [] => []
  | a :: l => bestR c a l
def pairC (c : List Nat → Int) (w : List Nat) : D := .tup [.int (c w), nats w]
def pairP (c : List Nat → Int) (w : List Nat) : PyData := .tuple [.int (c w), .tuple ((intsN w).map PyData.int)]
theorem toPy_pairC (st : Sto) (k : Nat) (c : List Nat → Int) (w : List Nat) : toPy st (k + 2) (pairC c w) = some (pairP c w) := by
  have e : toPy st (k + 1) (nats w) = some (.tuple ((intsN w).map PyData.int)) := by
    rw [toPy_nats]
    unfold intsN natsP
    rw [List.map_map]
    rfl
  unfold pairC pairP
  rw [toPy]
  simp only [List.map_cons, List.map_nil, toPy_int, e, allSome]
  rfl
theorem bMin_rows (st : Sto) (c : List Nat → Int) {L : List (List Nat)} (hL : L ≠ []) : bMinP [.lst (L.map (pairC c))] st = .ok (pairC c (bestA c L)) st := by
  cases L with
  | nil => exact absurd rfl hL
  | cons a l =>
    rw [bMinP_map (pairP c) (pairC c) a l rfl (fun y _ => toPy_pairC st 57 c y) (fun y _ z _ => alike_pI _ _ _ _) (fun y _ e => by cases e)]
    have e : (fun a y => if dataLt (pairP c y) (pairP c a) then y else a) = fun a y => if ltR c y a then y else a := by
      funext a y
      unfold pairP ltR
      rw [dataLt_pI]
    rw [e]
    rfl
theorem bestR_spec (c : List Nat → Int) : ∀ (l : List (List Nat)) (a : List Nat), (bestR c a l = a ∨ bestR c a l ∈ l) ∧ c (bestR c a l) ≤ c a ∧ ∀ y ∈ l, c (bestR c a l) ≤ c y
  | [], a => ⟨.inl rfl, Int.le_refl _, fun y hy => absurd hy (by simp)⟩
  | b :: l, a => by
    have e : bestR c a (b :: l) = bestR c (if ltR c b a then b else a) l := rfl
    obtain ⟨h1, h2, h3⟩ := bestR_spec c l (if ltR c b a then b else a)
    rw [e]
    have key : c (if ltR c b a then b else a) ≤ c a ∧ c (if ltR c b a then b else a) ≤ c b := by
      have t : (ltR c b a = true → c b ≤ c a) ∧ (ltR c b a = false → c a ≤ c b) := by
        unfold ltR
        by_cases q : c b = c a
        · exact ⟨fun _ => by omega, fun _ => by omega⟩
        · rw [if_neg q]
          exact ⟨fun z => by have := of_decide_eq_true z; omega, fun z => by have := of_decide_eq_false z; omega⟩
      by_cases q : ltR c b a = true
      · rw [if_pos q]
        have := t.1 q
        omega
      · rw [if_neg q]
        have := t.2 (by simpa using q)
        omega
    refine ⟨?_, by omega, fun y hy => ?_⟩
    · rcases h1 with h1 | h1
      · rw [h1]
        by_cases q : ltR c b a = true
        · rw [if_pos q]; exact .inr (by simp)
        · rw [if_neg q]; exact .inl rfl
      · exact .inr (List.mem_cons_of_mem _ h1)
    · rcases List.mem_cons.mp hy with rfl | hy
      · omega
      · exact h3 y hy
theorem bestA_spec (c : List Nat → Int) {L : List (List Nat)} (hL : L ≠ []) : bestA c L ∈ L ∧ ∀ y ∈ L, c (bestA c L) ≤ c y := by
  cases L with
  | nil => exact absurd rfl hL
  | cons a l =>
    obtain ⟨h1, h2, h3⟩ := bestR_spec c l a
    refine ⟨?_, fun y hy => ?_⟩
    · rcases h1 with h1 | h1
      · show bestR c a l ∈ _
        rw [h1]; simp
      · exact List.mem_cons_of_mem _ h1
    · rcases List.mem_cons.mp hy with rfl | hy
      · exact h2
      · exact h3 y hy
theorem fz_pairC (c : List Nat → Int) (w : List Nat) : Fz 60 (pairC c w) := fz_tup fun d hd => by
  simp only [List.mem_cons, List.not_mem_nil, or_false] at hd
  rcases hd with rfl | rfl
  · exact fz_int _ _
  · exact fz_nats _ _
theorem rows_ne {n : Nat} (hn : n ≤ 5) : permsR n n ≠ [] := fun e => by
  have := (permsR_len hn (Nat.le_refl n)).1
  rw [e] at this
  exact absurd this (by decide)
theorem fewest_falls_T (hw : WF st) {n : Nat} (n5 : n ≤ 5) {f : Nat → Nat → Int} (v : TabP n f) (tr : Tri n f) : F_fewest_falls [tabT n f] st = .ok (pairC (fallsN n f) (bestA (fallsN n f) (permsR n n))) st := defFin_v hw (fz_pairC _ _) (by
  have z2 := sizeLine_eq
  have pl := permsR_len n5 (Nat.le_refl n)
  have h0 : (startD 2 [tabT n f])[0]? = some (some (tabT n f)) := rfl
  have h2 : (startD 2 [tabT n f]).length = 2 := rfl
  generalize startD 2 [tabT n f] = ρ at h0 h2
  unfold b_fewest_falls
  simp_arith! [h0, check_sound_t hw v tr]
  rw [sLC_map (dy := none) (permsR n n) nats (pairC (fallsN n f)) (by simp_arith! [iSeq_e, h0, List.length_range, all_rows_t hw n5]) (still_none _ _) (by omega) fun w hm => ⟨_, rfl, by
    simp_arith! [h0, h2, falls_of_T hw v.n7 (rows_ok n5 hm)]
    rfl⟩]
  simp_arith! []
  rw [bMin_rows st (fallsN n f) (rows_ne n5)]
  rfl)
theorem least_over_T (hw : WF st) {n : Nat} (n5 : n ≤ 5) {f : Nat → Nat → Int} (v : TabP n f) (tr : Tri n f) : F_least_over [tabT n f] st = .ok (pairC (offN n f) (bestA (offN n f) (permsR n n))) st := defFin_v hw (fz_pairC _ _) (by
  have z2 := sizeLine_eq
  have pl := permsR_len n5 (Nat.le_refl n)
  have h0 : (startD 2 [tabT n f])[0]? = some (some (tabT n f)) := rfl
  have h2 : (startD 2 [tabT n f]).length = 2 := rfl
  generalize startD 2 [tabT n f] = ρ at h0 h2
  unfold b_least_over
  simp_arith! [h0, check_sound_t hw v tr]
  rw [sLC_map (dy := none) (permsR n n) nats (pairC (offN n f)) (by simp_arith! [iSeq_e, h0, List.length_range, all_rows_t hw n5]) (still_none _ _) (by omega) fun w hm => ⟨_, rfl, by
    simp_arith! [h0, h2, raised_by_t hw v (rows_ok n5 hm)]
    rfl⟩]
  simp_arith! []
  rw [bMin_rows st (offN n f) (rows_ne n5)]
  rfl)
/-! ### the mathematics of rising -/
section
variable {n : Nat} {f : Nat → Nat → Int} (v : TabP n f) {r : List Nat} (hr : RowP n r)
include v hr
theorem at_nn (x y : Nat) (hx : x < n) (hy : y < n) : 0 ≤ atR f r x y := (v.lo _ _ (hr.at hx) (hr.at hy)).1
theorem at_dg (x : Nat) (hx : x < n) : atR f r x x = 0 := (v.dg _ _ (hr.at hx) (hr.at hx)).mpr rfl
theorem at_sy (x y : Nat) (hx : x < n) (hy : y < n) : atR f r x y = atR f r y x := v.sy _ _ (hr.at hx) (hr.at hy)
theorem at_due (x y : Nat) (hx : x < n) (hy : y < n) : atR (dueF f r) r x y = dq (atR f r) x y := by
  unfold atR dueF
  rw [hr.posAt hx, hr.posAt hy]
  rfl
/-- between two places nothing is greater -/
theorem dq_top {a b x y : Nat} (hab : a < b) (hb : b < n) (h1 : a ≤ x) (h2 : x ≤ y) (h3 : y ≤ b) : atR f r x y ≤ dq (atR f r) a b := by
  rw [dq_lt hab]
  exact nr_ge (at_nn v hr) (at_dg v hr) (b - a) a x y (by omega) (by omega) h1 h2 (by omega)
theorem dq_in {a b : Nat} (hab : a < b) : ∃ x y, a ≤ x ∧ x < y ∧ y ≤ b ∧ dq (atR f r) a b = atR f r x y := by
  rw [dq_lt hab]
  obtain ⟨x, y, h1, h2, h3, h4⟩ := nr_mem (atR f r) (b - a) a (by omega)
  exact ⟨x, y, h1, h2, by omega, h4⟩
theorem dq_mono {a b c d : Nat} (hcd : c < d) (h1 : a ≤ c) (h2 : d ≤ b) (hb : b < n) : dq (atR f r) c d ≤ dq (atR f r) a b := by
  obtain ⟨x, y, q1, q2, q3, q4⟩ := dq_in v hr hcd
  rw [q4]
  exact dq_top v hr (by omega) hb (by omega) (by omega) (by omega)
theorem due_rises : fallsG (atR (dueF f r) r) n = [] := fallsG_nil.mpr fun a b c hab hbc hc => by
  rw [at_due v hr a b (by omega) (by omega), at_due v hr b c (by omega) hc, at_due v hr a c (by omega) hc]
  exact ⟨dq_mono v hr hab (Nat.le_refl _) (by omega) hc, dq_mono v hr hbc (by omega) (Nat.le_refl _) hc⟩
theorem due_ge {i j : Nat} (hi : i < n) (hj : j < n) : f i j ≤ dueF f r i j := by
  obtain ⟨pi, ei⟩ := hr.pos hi
  obtain ⟨pj, ej⟩ := hr.pos hj
  have e : f i j = atR f r (posN r i) (posN r j) := by unfold atR; rw [ei, ej]
  unfold dueF
  rcases Nat.lt_trichotomy (posN r i) (posN r j) with c | c | c
  · rw [e]
    exact dq_top v hr c pj (Nat.le_refl _) (Nat.le_of_lt c) (Nat.le_refl _)
  · rw [e, c, dq_eq, at_dg v hr _ pj]
    exact Int.le_refl _
  · rw [e, at_sy v hr _ _ pi pj, dq_sy]
    exact dq_top v hr c pi (Nat.le_refl _) (Nat.le_of_lt c) (Nat.le_refl _)
theorem due_same : sameT n (dueF f r) f = true ↔ fallsN n f r = 0 := by
  have fn : fallsN n f r = 0 ↔ fallsG (atR f r) n = [] := by
    unfold fallsN
    rw [← List.length_eq_zero_iff]
    omega
  rw [fn, sameT_iff]
  constructor
  · intro e
    refine fallsG_nil.mpr fun a b c hab hbc hc => ?_
    have d := fallsG_nil.mp (due_rises v hr) a b c hab hbc hc
    unfold atR at d ⊢
    rw [e _ _ (hr.at (show a < n by omega)) (hr.at (show b < n by omega)), e _ _ (hr.at (show a < n by omega)) (hr.at hc), e _ _ (hr.at (show b < n by omega)) (hr.at hc)] at d
    exact d
  · intro h
    have h := fallsG_nil.mp h
    -- within a row that rises the greatest between a and b is theirs
    have top : ∀ a b x y, a < b → b < n → a ≤ x → x < y → y ≤ b → atR f r x y ≤ atR f r a b := fun a b x y hab hb h1 h2 h3 => by
      have s1 : atR f r x y ≤ atR f r a y := by
        by_cases c : a = x
        · rw [c]; exact Int.le_refl _
        · exact (h a x y (by omega) h2 (by omega)).2
      have s2 : atR f r a y ≤ atR f r a b := by
        by_cases c : y = b
        · rw [c]; exact Int.le_refl _
        · exact (h a y b (by omega) (by omega) hb).1
      omega
    have key : ∀ a b, a < b → b < n → dq (atR f r) a b = atR f r a b := fun a b hab hb => by
      obtain ⟨x, y, q1, q2, q3, q4⟩ := dq_in v hr hab
      have t1 := top a b x y hab hb q1 q2 q3
      have t2 := dq_top v hr hab hb (Nat.le_refl a) (Nat.le_of_lt hab) (Nat.le_refl b)
      omega
    intro i j hi hj
    obtain ⟨pi, ei⟩ := hr.pos hi
    obtain ⟨pj, ej⟩ := hr.pos hj
    have e : f i j = atR f r (posN r i) (posN r j) := by unfold atR; rw [ei, ej]
    unfold dueF
    rw [e]
    rcases Nat.lt_trichotomy (posN r i) (posN r j) with c | c | c
    · exact key _ _ c pj
    · rw [c, dq_eq, at_dg v hr _ pj]
    · rw [dq_sy, at_sy v hr _ _ pi pj]; exact key _ _ c pi
theorem off_zero : 0 ≤ offN n f r ∧ offN n f r ≤ 1000 ∧ (offN n f r = 0 ↔ fallsN n f r = 0) := by
  have n1 := v.n1
  have ne : ∀ F : Nat → Int, (List.range n).map F ≠ [] := fun F e => by
    have := congrArg List.length e
    rw [List.length_map, List.length_range, List.length_nil] at this
    omega
  have rowS : ∀ i, i < n → 0 ≤ maxL ((List.range n).map fun j => dueF f r i j - f i j) ∧ maxL ((List.range n).map fun j => dueF f r i j - f i j) ≤ 1000 ∧ ∀ j, j < n → dueF f r i j - f i j ≤ maxL ((List.range n).map fun j => dueF f r i j - f i j) := fun i hi => by
    obtain ⟨s1, s2⟩ := maxL_spec (ne fun j => dueF f r i j - f i j)
    have t : ∀ j, j < n → dueF f r i j - f i j ≤ maxL ((List.range n).map fun j => dueF f r i j - f i j) := fun j hj => s2 _ (List.mem_map.mpr ⟨j, List.mem_range.mpr hj, rfl⟩)
    obtain ⟨j, hj, e⟩ := List.mem_map.mp s1
    have hj := List.mem_range.mp hj
    have g := due_ge v hr hi hj
    have lo := v.lo i j hi hj
    have up : dueF f r i j ≤ 1000 := by
      obtain ⟨pi, ei⟩ := hr.pos hi
      obtain ⟨pj, ej⟩ := hr.pos hj
      have inn : ∀ a b, a < b → b < n → dq (atR f r) a b ≤ 1000 := fun a b hab hb => by
        obtain ⟨x, y, q1, q2, q3, q4⟩ := dq_in v hr hab
        rw [q4]
        exact (v.lo _ _ (hr.at (show x < n by omega)) (hr.at (show y < n by omega))).2
      unfold dueF
      rcases Nat.lt_trichotomy (posN r i) (posN r j) with c | c | c
      · exact inn _ _ c pj
      · rw [c, dq_eq]; omega
      · rw [dq_sy]; exact inn _ _ c pi
    exact ⟨by rw [← e]; omega, by rw [← e]; omega, t⟩
  obtain ⟨s1, s2⟩ := maxL_spec (ne fun i => maxL ((List.range n).map fun j => dueF f r i j - f i j))
  obtain ⟨i, hi, e⟩ := List.mem_map.mp s1
  have hi := List.mem_range.mp hi
  have bi := rowS i hi
  have off : offN n f r = maxL ((List.range n).map fun j => dueF f r i j - f i j) := e.symm
  refine ⟨by rw [off]; exact bi.1, by rw [off]; exact bi.2.1, ?_⟩
  rw [← due_same v hr, sameT_iff]
  constructor
  · intro z i' j' hi' hj'
    have u1 : maxL ((List.range n).map fun j => dueF f r i' j - f i' j) ≤ offN n f r := s2 _ (List.mem_map.mpr ⟨i', List.mem_range.mpr hi', rfl⟩)
    have u2 := (rowS i' hi').2.2 j' hj'
    have u3 := due_ge v hr hi' hj'
    omega
  · intro z
    obtain ⟨t1, t2⟩ := maxL_spec (ne fun j => dueF f r i j - f i j)
    obtain ⟨j, hj, e2⟩ := List.mem_map.mp t1
    have := z i j hi (List.mem_range.mp hj)
    rw [off, ← e2]
    omega
end
end Lw96
namespace Lw96
open PySem PD
variable {st : Sto}
section
variable {n : Nat} {f : Nat → Nat → Int} (v : TabP n f) {r : List Nat} (hr : RowP n r)
include v hr
theorem due_b {i j : Nat} (hi : i < n) (hj : j < n) : 0 ≤ dueF f r i j ∧ dueF f r i j ≤ 1000 := by
  have lo := v.lo i j hi hj
  have g := due_ge v hr hi hj
  obtain ⟨pi, ei⟩ := hr.pos hi
  obtain ⟨pj, ej⟩ := hr.pos hj
  have inn : ∀ a b, a < b → b < n → dq (atR f r) a b ≤ 1000 := fun a b hab hb => by
    obtain ⟨x, y, q1, q2, q3, q4⟩ := dq_in v hr hab
    rw [q4]
    exact (v.lo _ _ (hr.at (show x < n by omega)) (hr.at (show y < n by omega))).2
  refine ⟨by omega, ?_⟩
  unfold dueF
  rcases Nat.lt_trichotomy (posN r i) (posN r j) with c | c | c
  · exact inn _ _ c pj
  · rw [c, dq_eq]; omega
  · rw [dq_sy]; exact inn _ _ c pi
theorem rev_at {x : Nat} (hx : x < n) : r.reverse.getD x 0 = r.getD (n - 1 - x) 0 := by
  have hl := hr.len
  rw [List.getD_eq_getElem?_getD, List.getD_eq_getElem?_getD, List.getElem?_reverse (by omega), hl]
theorem rev_pos {i : Nat} (hi : i < n) : posN r.reverse i = n - 1 - posN r i := by
  obtain ⟨p1, e1⟩ := hr.rev.pos hi
  obtain ⟨p2, e2⟩ := hr.pos hi
  refine hr.rev.inj p1 (by omega) ?_
  rw [e1, rev_at v hr (show n - 1 - posN r i < n by omega), show n - 1 - (n - 1 - posN r i) = posN r i by omega, e2]
theorem rev_dq {a b : Nat} (hab : a < b) (hb : b < n) : dq (atR f r.reverse) (n - 1 - b) (n - 1 - a) = dq (atR f r) a b := by
  have at_ : ∀ x y, x < n → y < n → atR f r.reverse x y = atR f r (n - 1 - y) (n - 1 - x) := fun x y hx hy => by
    rw [at_sy v hr _ _ (show n - 1 - y < n by omega) (show n - 1 - x < n by omega)]
    unfold atR
    rw [rev_at v hr hx, rev_at v hr hy]
  refine Int.le_antisymm ?_ ?_
  · obtain ⟨x, y, q1, q2, q3, q4⟩ := dq_in v hr.rev (show n - 1 - b < n - 1 - a by omega)
    rw [q4, at_ x y (by omega) (by omega)]
    exact dq_top v hr hab hb (by omega) (by omega) (by omega)
  · obtain ⟨x, y, q1, q2, q3, q4⟩ := dq_in v hr hab
    have e := at_ (n - 1 - y) (n - 1 - x) (by omega) (by omega)
    rw [show n - 1 - (n - 1 - x) = x by omega, show n - 1 - (n - 1 - y) = y by omega] at e
    rw [q4, ← e]
    exact dq_top v hr.rev (by omega) (by omega) (by omega) (by omega) (by omega)
theorem rev_due {i j : Nat} (hi : i < n) (hj : j < n) : dueF f r.reverse i j = dueF f r i j := by
  obtain ⟨pi, ei⟩ := hr.pos hi
  obtain ⟨pj, ej⟩ := hr.pos hj
  unfold dueF
  rw [rev_pos v hr hi, rev_pos v hr hj]
  rcases Nat.lt_trichotomy (posN r i) (posN r j) with c | c | c
  · rw [dq_sy]; exact rev_dq v hr c pj
  · rw [c, dq_eq, dq_eq]
  · rw [dq_sy (atR f r)]; exact rev_dq v hr c pi
/-- lessened above the table it does not rise -/
theorem less_falls {i j : Nat} (hi : i < n) (hj : j < n) (h : f i j < dueF f r i j) : fallsG (atR (upd1 (upd1 (dueF f r) i j (dueF f r i j - 1)) j i (dueF f r i j - 1)) r) n ≠ [] := by
  -- by positions a < b
  have key : ∀ a b, a < b → b < n → ∀ F : Nat → Nat → Int, atR f r a b < dq (atR f r) a b → (atR F r a b = dq (atR f r) a b - 1) → (∀ x y, x < n → y < n → ¬ (x = a ∧ y = b) → ¬ (x = b ∧ y = a) → atR F r x y = dq (atR f r) x y) → fallsG (atR F r) n ≠ [] := fun a b hab hb F hlt he ho nil => by
    have nil := fallsG_nil.mp nil
    have hk : a + 2 ≤ b := by
      rcases Nat.lt_or_ge (a + 1) b with c | c
      · omega
      · have e : b = a + 1 := by omega
        subst e
        rw [dq_lt hab, show a + 1 - a = 1 by omega] at hlt
        exact absurd hlt (Int.lt_irrefl _)
    obtain ⟨k, rfl⟩ : ∃ k, b = a + (k + 2) := ⟨b - a - 2, by omega⟩
    have e : dq (atR f r) a (a + (k + 2)) = max3 (atR f r a (a + (k + 2))) (nr (atR f r) (k + 1) a) (nr (atR f r) (k + 1) (a + 1)) := by
      rw [dq_lt hab, show a + (k + 2) - a = k + 2 by omega]
      rfl
    have d1 : dq (atR f r) a (a + (k + 1)) = nr (atR f r) (k + 1) a := by rw [dq_lt (by omega), show a + (k + 1) - a = k + 1 by omega]
    have d2 : dq (atR f r) (a + 1) (a + (k + 2)) = nr (atR f r) (k + 1) (a + 1) := by rw [dq_lt (by omega), show a + (k + 2) - (a + 1) = k + 1 by omega]
    have t1 := (nil a (a + (k + 1)) (a + (k + 2)) (by omega) (by omega) hb).1
    have t2 := (nil a (a + 1) (a + (k + 2)) (by omega) (by omega) hb).2
    rw [he, ho a (a + (k + 1)) (by omega) (by omega) (by omega) (by omega), d1] at t1
    rw [he, ho (a + 1) (a + (k + 2)) (by omega) (by omega) (by omega) (by omega), d2] at t2
    unfold max3 at e
    omega
  obtain ⟨pi, ei⟩ := hr.pos hi
  obtain ⟨pj, ej⟩ := hr.pos hj
  have en : f i j = atR f r (posN r i) (posN r j) := by unfold atR; rw [ei, ej]
  have ed : dueF f r i j = dq (atR f r) (posN r i) (posN r j) := rfl
  have val : ∀ w x y, x < n → y < n → atR (upd1 (upd1 (dueF f r) i j w) j i w) r x y = if x = posN r j ∧ y = posN r i then w else if x = posN r i ∧ y = posN r j then w else dq (atR f r) x y := fun w x y hx hy => by
    unfold atR upd1
    by_cases c1 : x = posN r j ∧ y = posN r i
    · rw [if_pos c1, if_pos ⟨by rw [c1.1, ej], by rw [c1.2, ei]⟩]
    · rw [if_neg c1, if_neg fun q => c1 ⟨hr.inj hx pj (q.1.trans ej.symm), hr.inj hy pi (q.2.trans ei.symm)⟩]
      by_cases c2 : x = posN r i ∧ y = posN r j
      · rw [if_pos c2, if_pos ⟨by rw [c2.1, ei], by rw [c2.2, ej]⟩]
      · rw [if_neg c2, if_neg fun q => c2 ⟨hr.inj hx pi (q.1.trans ei.symm), hr.inj hy pj (q.2.trans ej.symm)⟩]
        exact at_due v hr x y hx hy
  rcases Nat.lt_trichotomy (posN r i) (posN r j) with c | c | c
  · refine key _ _ c pj _ (by rw [← en, ← ed]; exact h) ?_ fun x y hx hy h1 h2 => ?_
    · rw [val _ _ _ pi pj, if_neg (by omega), if_pos ⟨rfl, rfl⟩, ed]
    · rw [val _ _ _ hx hy, if_neg (by omega), if_neg (by omega)]
  · rw [ed, en, c, dq_eq, at_dg v hr _ pj] at h
    exact absurd h (Int.lt_irrefl _)
  · refine key _ _ c pi _ (by rw [at_sy v hr _ _ pj pi, ← en, dq_sy, ← ed]; exact h) ?_ fun x y hx hy h1 h2 => ?_
    · rw [val _ _ _ pj pi, if_pos ⟨rfl, rfl⟩, ed, dq_sy]
    · rw [val _ _ _ hx hy, if_neg (by omega), if_neg (by omega)]
end
end Lw96
namespace Lw96
open PySem PD
variable {st : Sto}
theorem flat_len {α β : Type} {F : α → List β} {B : Nat} : ∀ {l : List α}, (∀ a ∈ l, (F a).length ≤ B) → (l.flatMap F).length ≤ l.length * B
  | [], _ => by simp
  | a :: l, h => by
    have h1 := h a List.mem_cons_self
    have h2 := flat_len (l := l) fun b hb => h b (List.mem_cons_of_mem _ hb)
    rw [List.flatMap_cons, List.length_append, List.length_cons, Nat.succ_mul]
    omega
theorem falls_b {n : Nat} (n7 : n ≤ 7) (f : Nat → Nat → Int) (r : List Nat) : 0 ≤ fallsN n f r ∧ fallsN n f r ≤ 1000 := by
  have h3 : ∀ a b, (fallsB (atR f r) n a b).length ≤ 7 := fun a b => by
    unfold fallsB
    rw [List.length_map]
    have := List.length_filter_le (fun c => badT (atR f r) a b c) (rng (b + 1) n)
    rw [rng_len] at this
    omega
  have h2 : ∀ a, (fallsA (atR f r) n a).length ≤ 49 := fun a => by
    have := flat_len (l := rng (a + 1) n) (F := fallsB (atR f r) n a) (B := 7) fun b _ => h3 a b
    rw [rng_len] at this
    unfold fallsA
    have m : (n - (a + 1)) * 7 ≤ 7 * 7 := Nat.mul_le_mul (by omega) (Nat.le_refl 7)
    omega
  have h1 := flat_len (l := List.range n) (F := fallsA (atR f r) n) (B := 49) fun a _ => h2 a
  rw [List.length_range] at h1
  have m : n * 49 ≤ 7 * 49 := Nat.mul_le_mul n7 (Nat.le_refl 49)
  unfold fallsN fallsG
  omega
abbrev pairN (p : Nat × Nat) : D := .tup [.int (p.1 : Int), .int (p.2 : Int)]
theorem told_is (hw : WF st) {n : Nat} {f : Nat → Nat → Int} (v : TabP n f) {r : List Nat} (hr : RowP n r) : F_law_is [.lst [tabT n (dueF f r), tabT n (dueF f r), .int (offN n f r), .int (fallsN n f r)], .lst [tabT n (dueF f r), tabT n (dueF f r), .int (offN n f r), .int (fallsN n f r)]] st = .ok (.bl true) st := by
  have o := off_zero v hr
  have fb := falls_b v.n7 f r
  have t := sm_tab (n := n) (f := dueF f r) v.n7 fun i j hi hj => due_b v hr hi hj
  refine law_is_t hw (p := .list [tabP n (dueF f r), tabP n (dueF f r), .int (offN n f r), .int (fallsN n f r)]) (W := 10000) ?_ ?_ (by omega)
  · rw [toPy]
    simp only [List.map_cons, List.map_nil, toPy_int, toPy_tabT st 57, allSome]
    rfl
  · refine sm_list (W := 1200) (fun x hx => ?_) (by simp)
    simp only [List.mem_cons, List.not_mem_nil, or_false] at hx
    rcases hx with rfl | rfl | rfl | rfl
    · exact t
    · exact t
    · exact (sm_int o.1 o.2.1).up (by omega)
    · exact (sm_int fb.1 fb.2).up (by omega)
theorem law_row_right_t {o : MO} {rest : Sto} (hw : WF (o :: rest)) (ho : HandO o) {n : Nat} {f : Nat → Nat → Int} (v : TabP n f) (tr : Tri n f) {r : List Nat} (hr : RowP n r) :
    ∃ o', HandO o' ∧ F_law_row_right [.ref 0, tabT n f, nats r] (o :: rest) = .ok (.bl true) (o' :: rest) := by
  have z2 := sizeLine_eq
  have n7 := v.n7
  have body : ∃ (o' : MO) (ex : Sto), HandO o' ∧ b_law_row_right (startD 10 [.ref 0, tabT n f, nats r]) (o :: rest) = some (.rt (.bl true), (o' :: rest) ++ ex) := by
    have h0 : (startD 10 [.ref 0, tabT n f, nats r])[0]? = some (some (.ref 0)) := rfl
    have h1 : (startD 10 [.ref 0, tabT n f, nats r])[1]? = some (some (tabT n f)) := rfl
    have h2 : (startD 10 [.ref 0, tabT n f, nats r])[2]? = some (some (nats r)) := rfl
    have hl : (startD 10 [.ref 0, tabT n f, nats r]).length = 10 := rfl
    generalize startD 10 [.ref 0, tabT n f, nats r] = ρ at h0 h1 h2 hl
    have rv : ∀ ρ : Ev, ρ[2]? = some (some (nats r)) → sRevT (sVar 2) ρ (o :: rest) = .ok (nats r.reverse) (o :: rest) := fun ρ h => by
      rw [sRevT_e, sVar_e, h]
      show Out.ok (D.tup (r.map fun m : Nat => D.int (m : Int)).reverse) (o :: rest) = _
      rw [← List.map_reverse]
    have nr2 := nearest_rising_t hw v tr hr.rev
    rw [tabT_congr (g := dueF f r) fun i j hi hj => rev_due v hr hi hj] at nr2
    have fl : (((fallsG (atR f r) n).length : Nat) : Int) = fallsN n f r := rfl
    have dr := law_falls_T (st := o :: rest) hw (f := dueF f r) n7 hr
    rw [due_rises v hr] at dr
    unfold b_law_row_right
    rw [qSeq_e]
    have s1 : qSet 3 (sCall 2 F_law_nearest (aCons (sVar 1) (aCons (sVar 2) aNil))) ρ (o :: rest) = some (.nx (ρ.set 3 (some (tabT n (dueF f r)))), o :: rest) := by simp_arith! [h1, h2, law_nearest_t hw n7 v hr]
    rw [s1, then_nx, qSeq_e]
    generalize hρ : ρ.set 3 (some (tabT n (dueF f r))) = ρ1
    have k0 : ρ1[0]? = some (some (.ref 0)) := by rw [← hρ]; simp_arith! [h0]
    have k1 : ρ1[1]? = some (some (tabT n f)) := by rw [← hρ]; simp_arith! [h1]
    have k2 : ρ1[2]? = some (some (nats r)) := by rw [← hρ]; simp_arith! [h2]
    have k3 : ρ1[3]? = some (some (tabT n (dueF f r))) := by rw [← hρ]; simp_arith! [hl]
    have kl : ρ1.length = 10 := by rw [← hρ]; simp_arith! [hl]
    clear hρ s1 h0 h1 h2 hl ρ
    have s2 : qSet 4 (sLst false (aCons (sCall 2 F_nearest_rising (aCons (sVar 1) (aCons (sVar 2) aNil))) (aCons (sCall 2 F_nearest_rising (aCons (sVar 1) (aCons (sRevT (sVar 2)) aNil))) (aCons (sCall 2 F_over_by (aCons (sVar 1) (aCons (sVar 2) aNil))) (aCons (sCall 2 F_falls (aCons (sVar 1) (aCons (sVar 2) aNil))) aNil))))) ρ1 (o :: rest) = some (.nx (ρ1.set 4 (some (.lst [tabT n (dueF f r), tabT n (dueF f r), .int (offN n f r), .int (fallsN n f r)]))), o :: rest) := by
      simp_arith! [k1, k2, rv ρ1 k2, nearest_rising_t hw v tr hr, nr2, over_by_t hw v tr hr, falls_T hw v tr hr]
    rw [s2, then_nx, qSeq_e]
    have s3 : qIf (tNotD (tTru (sCall 2 F_law_is (aCons (sVar 4) (aCons (sLst false (aCons (sVar 3) (aCons (sVar 3) (aCons (sCall 2 F_law_off_by (aCons (sVar 1) (aCons (sVar 2) aNil))) (aCons (sB bLen (aCons (sCall 2 F_law_falls (aCons (sVar 1) (aCons (sVar 2) aNil))) aNil)) aNil))))) aNil))))) (qRet (sC (.bl false))) qNext (ρ1.set 4 (some (.lst [tabT n (dueF f r), tabT n (dueF f r), .int (offN n f r), .int (fallsN n f r)]))) (o :: rest) = some (.nx (ρ1.set 4 (some (.lst [tabT n (dueF f r), tabT n (dueF f r), .int (offN n f r), .int (fallsN n f r)]))), o :: rest) := by
      simp_arith! [k1, k2, k3, kl, law_off_by_t hw v hr, law_falls_T hw n7 hr, fl, told_is hw v hr]
    rw [s3, then_nx, qSeq_e]
    have sd : sameT n (dueF f r) f = decide (fallsN n f r = 0) := by
      have d := due_same v hr
      by_cases c : fallsN n f r = 0
      · rw [decide_eq_true c]; exact d.mpr c
      · rw [decide_eq_false c]
        cases h : sameT n (dueF f r) f with
        | false => rfl
        | true => exact absurd (d.mp h) c
    have ib : ∀ b : Bool, fIsBl (.bl b) (.bl true) (o :: rest) = .ok (.bl b) (o :: rest) := fun b => by cases b <;> rfl
    have nb : ∀ b : Bool, fNe (.bl b) (.bl b) (o :: rest) = .ok (.bl false) (o :: rest) := fun b => by cases b <;> simp
    generalize hρ : ρ1.set 4 (some (.lst [tabT n (dueF f r), tabT n (dueF f r), .int (offN n f r), .int (fallsN n f r)])) = ρ2
    have m0 : ρ2[0]? = some (some (.ref 0)) := by rw [← hρ]; simp_arith! [k0]
    have m1 : ρ2[1]? = some (some (tabT n f)) := by rw [← hρ]; simp_arith! [k1]
    have m2 : ρ2[2]? = some (some (nats r)) := by rw [← hρ]; simp_arith! [k2]
    have m3 : ρ2[3]? = some (some (tabT n (dueF f r))) := by rw [← hρ]; simp_arith! [k3]
    have ml : ρ2.length = 10 := by rw [← hρ]; simp_arith! [kl]
    clear hρ s2 s3
    have s4 : qIf (tOrD (tBl (s2 fGt (sB bLen (aCons (sCall 2 F_law_falls (aCons (sVar 3) (aCons (sVar 2) aNil))) aNil)) (sC (.int 0)))) (tBl (s2 fNe (s2 fEq (sVar 3) (sVar 1)) (s2 fIsBl (sCall 2 F_does_rise (aCons (sVar 1) (aCons (sVar 2) aNil))) (sC (.bl true)))))) (qRet (sC (.bl false))) qNext ρ2 (o :: rest) = some (.nx ρ2, o :: rest) := by
      have dr' : F_law_falls [tabT n (dueF f r), nats r] (o :: rest) = .ok (.lst []) (o :: rest) := dr
      have c00 : decide ((0 : Int) < ((0 : Nat) : Int)) = false := by decide
      simp_arith! [dr', c00, m1, m2, m3, fEq_tab, sd, does_rise_T hw v tr hr, ib, nb]
    rw [s4, then_nx, qSeq_e]
    clear s4
    have s5 : qSet 5 (sLst true aNil) ρ2 (o :: rest) = some (.nx (ρ2.set 5 (some (.ref (rest.length + 1)))), o :: (rest ++ [.lst []])) := by
      simp_arith! []
      rfl
    rw [s5, then_nx, qSeq_e, qFor_e, iRange_n (n := n) (by simp_arith! [m1, List.length_range])]
    simp_arith! []
    generalize hL : loopFor _ _ _ _ _ _ _ _ = R
    obtain ⟨ρ', st', rfl, q, H, hd, hH, hs, jl, j0, j1, j2, j3, j5, rfl⟩ := for_all_e hL (List.range n) (fun i : Nat => D.int (i : Int)) rfl (by simp) (fun rr ρ st' => ∃ (q : List Nat) (H : List (Nat × Nat)), List.range n = q ++ rr ∧ (∀ p ∈ H, p.2 < p.1 ∧ p.1 < n ∧ f p.1 p.2 < dueF f r p.1 p.2) ∧ H.length ≤ 7 * q.length ∧ ρ.length = 10 ∧ ρ[0]? = some (some (.ref 0)) ∧ ρ[1]? = some (some (tabT n f)) ∧ ρ[2]? = some (some (nats r)) ∧ ρ[3]? = some (some (tabT n (dueF f r))) ∧ ρ[5]? = some (some (.ref (rest.length + 1))) ∧ st' = o :: (rest ++ [.lst (H.map pairN)])) (fun _ _ _ _ => still_none _ _) ⟨[], [], rfl, fun p hp => absurd hp (by simp), by simp, by simp_arith! [ml], by simp_arith! [m0], by simp_arith! [m1], by simp_arith! [m2], by simp_arith! [m3], by simp_arith! [ml], rfl⟩ (by
      rintro y rr ρ st' ⟨q, H, hd, hH, hs, jl, j0, j1, j2, j3, j5, rfl⟩
      have hy : y < n := List.mem_range.mp (by rw [hd]; simp)
      have ql : q.length < n := by
        have := congrArg List.length hd
        rw [List.length_range, List.length_append, List.length_cons] at this
        omega
      have g5 : (o :: (rest ++ [MO.lst (H.map pairN)]))[rest.length + 1]? = some (.lst (H.map pairN)) := sto_get1 (o :: rest) _
      have s5 : ∀ X, (o :: (rest ++ [MO.lst (H.map pairN)])).set (rest.length + 1) X = o :: (rest ++ [X]) := fun X => sto_set1 (o :: rest) _ X
      have nl : (((List.range y).filter fun z => decide (f y z < dueF f r y z)).map fun z => (y, z)).length ≤ 7 := by
        rw [List.length_map]
        have := List.length_filter_le (fun z => decide (f y z < dueF f r y z)) (List.range y)
        rw [List.length_range] at this
        omega
      refine ⟨_, rfl, ρ.set 6 (some (.int (y : Int))), o :: (rest ++ [.lst ((H ++ ((List.range y).filter fun z => decide (f y z < dueF f r y z)).map fun z => (y, z)).map pairN)]), .inl ?_, q ++ [y], H ++ ((List.range y).filter fun z => decide (f y z < dueF f r y z)).map fun z => (y, z), by rw [hd]; simp, fun p hp => ?_, by
        rw [List.length_append, List.length_append, List.length_singleton]
        omega, by simp_arith! [jl], by simp_arith! [j0], by simp_arith! [j1], by simp_arith! [j2], by simp_arith! [j3], by simp_arith! [j5], rfl⟩
      · simp_arith! [jl, j5, litems_ref g5]
        rw [sLC_if (dy := none) (List.range y) (fun i : Nat => D.int (i : Int)) (fun z => decide (f y z < dueF f r y z)) (fun z => pairN (y, z)) (iRange_n (by simp_arith! [jl])) (still_none _ _) (by simp; omega) fun z hz => ⟨_, rfl, by
          have hz : z < n := by
            have := List.mem_range.mp hz
            omega
          have t1 : ∀ (g : Nat → Nat → Int) st, fIx (tabT n g) (.int (y : Int)) st = .ok (rowT n g y) st := fun g st => fIx_range hy
          have t2 : ∀ (g : Nat → Nat → Int) st, fIx (rowT n g y) (.int (z : Int)) st = .ok (.int (g y z)) st := fun g st => fIx_range hz
          simp_arith! [jl, j1, j3, t1, t2], fun _ => by
          simp_arith! [jl]⟩]
        simp_arith! []
        rw [fExtend_ref g5 (ys := (((List.range y).filter fun z => decide (f y z < dueF f r y z)).map fun z => (y, z)).map pairN) (by
          rw [litems_lst, List.map_map]
          rfl) (by rw [List.length_map, List.length_map]; omega), s5, ← List.map_append]
        simp_arith! []
      · rcases List.mem_append.mp hp with hp | hp
        · exact hH p hp
        · obtain ⟨z, hz, rfl⟩ := List.mem_map.mp hp
          obtain ⟨hz1, hz2⟩ := List.mem_filter.mp hz
          exact ⟨List.mem_range.mp hz1, hy, of_decide_eq_true hz2⟩)
    have hql : q.length = n := by
      have := congrArg List.length hd
      rw [List.length_range, List.append_nil] at this
      exact this.symm
    have g5 : ∀ o, (o :: (rest ++ [MO.lst (H.map pairN)]))[rest.length + 1]? = some (.lst (H.map pairN)) := fun o => sto_get1 (o :: rest) _
    have bl : ∀ o, bLen [.ref (rest.length + 1)] (o :: (rest ++ [MO.lst (H.map pairN)])) = .ok (.int (H.length : Int)) (o :: (rest ++ [MO.lst (H.map pairN)])) := fun o => by rw [bLen_ref (g5 o), List.length_map]
    by_cases c : H = []
    · have c0 : ((H.length : Nat) : Int) = 0 := by rw [c]; rfl
      refine ⟨o, [.lst (H.map pairN)], ho, ?_⟩
      simp_arith! [j5, bl, c0]
      rfl
    · have c0 : ¬ ((H.length : Nat) : Int) = 0 := by
        have := List.length_pos_iff.mpr c
        omega
      have hwH : ∀ o, HandO o → WF (o :: (rest ++ [.lst (H.map pairN)])) := fun o ho => wf_append (wf_hand hw ho) fun x hx m => by
        rw [List.mem_singleton.mp hx]
        exact noRefs_all fun d hd => by
          obtain ⟨p, _, rfl⟩ := List.mem_map.mp hd
          rfl
      obtain ⟨o2, x, ho2, hx, e2⟩ := law_some_r (hwH o ho) ho (l := rest.length) (H.map pairN) (sto_get1 rest _) (by simpa using c) (by rw [List.length_map]; omega) fun d hd => by
        obtain ⟨p, _, rfl⟩ := List.mem_map.mp hd
        exact fz_tup fun d hd => by
          simp only [List.mem_cons, List.not_mem_nil, or_false] at hd
          rcases hd with rfl | rfl <;> exact fz_int _ _
      obtain ⟨p, hp, rfl⟩ := List.mem_map.mp hx
      obtain ⟨p1, p2, p3⟩ := hH p hp
      have p4 : p.2 < n := by omega
      have hw2 := hwH o2 ho2
      generalize hS : o2 :: (rest ++ [MO.lst (H.map pairN)]) = S at e2 hw2
      have fn := less_falls v hr p2 p4 p3
      generalize hF : upd1 (upd1 (dueF f r) p.1 p.2 (dueF f r p.1 p.2 - 1)) p.2 p.1 (dueF f r p.1 p.2 - 1) = F at fn
      refine ⟨o2, [.lst (H.map pairN)] ++ rowsG n (intG F), ho2, ?_⟩
      simp_arith! [j5, bl, c0, j0, jl, e2]
      rw [sLC_alloc (List.range n) (fun i => rowT n (dueF f r) i) (fun i => .lst (rowG n (intG (dueF f r) i))) (by simp_arith! [iSeq_e, j3]) (by simp; omega) fun a ha st => ⟨_, rfl, by
        simp_arith! [jl]
        rfl⟩]
      rw [show ((List.range n).map fun i => MO.lst (rowG n (intG (dueF f r) i))) = rowsG n (intG (dueF f r)) from rfl]
      have c1 : ∀ (a : Nat) (G : Nat → Nat → Int), a < n → ∀ b, b < n → fIx (.ref (S.length + a)) (.int (b : Int)) (S ++ rowsG n (intG G)) = .ok (.int (G a b)) (S ++ rowsG n (intG G)) := fun a G ha b hb => fIx_rowG (F := intG G) ha hb
      have c2 : ∀ (a : Nat) (G : Nat → Nat → Int) (w : Int), a < n → ∀ b, b < n → fSetIx (.ref (S.length + a)) (.int (b : Int)) (.int w) (S ++ rowsG n (intG G)) = some (S ++ rowsG n (intG (upd1 G a b w))) := fun a G w ha b hb => by
        have := fSetIx_rowG (st := S) (F := intG G) (v := .int w) ha hb
        rw [updG_int] at this
        exact this
      have eu : upd1 (dueF f r) p.1 p.2 (dueF f r p.1 p.2 - 1) p.1 p.2 = dueF f r p.1 p.2 - 1 := by simp [upd1]
      have lf := law_falls_t (wf_rowsG hw2 (noRef_intG F)) n7 (tabIn_refs S n F) hr.len hr.lt
      have bg : decide ((0 : Int) < (((fallsG (atR F r) n).length : Nat) : Int)) = true := decide_eq_true (by
        have := List.length_pos_iff.mpr fn
        omega)
      simp_arith! [jl, j0, j2, List.length_range, fIx_refs p2, fIx_refs p4, c1 _ _ p2 _ p4, c2 _ _ _ p2 _ p4, c2 _ _ _ p4 _ p2, eu, hF, lf, bg]
      rw [← hS]
      simp
  obtain ⟨o', ex, h1, h2⟩ := body
  exact ⟨o', h1, defFin_rt h2 rfl (wf_hand hw h1) (fz_bl _ _ _ _)⟩
end Lw96
namespace Lw96
open PySem PD
variable {st : Sto}
theorem sm_pair {c : List Nat → Int} {w : List Nat} (h0 : 0 ≤ c w) (h1 : c w ≤ 1000) (hl : w.length ≤ 7) (hb : ∀ m ∈ w, m ≤ 1000) : Sm 400 (pairP c w) := by
  have s := sm_nats hl hb
  have e : natsP w = .tuple ((intsN w).map PyData.int) := by
    unfold natsP intsN
    rw [List.map_map]
    rfl
  rw [e] at s
  refine sm_tuple (W := 150) (fun x hx => ?_) (by simp)
  simp only [List.mem_cons, List.not_mem_nil, or_false] at hx
  rcases hx with rfl | rfl
  · exact (sm_int h0 h1).up (by omega)
  · exact s
theorem pairs_is (hw : WF st) {n : Nat} (n5 : n ≤ 5) {f : Nat → Nat → Int} (v : TabP n f) : F_law_is [.lst [pairC (fallsN n f) (bestA (fallsN n f) (permsR n n)), pairC (offN n f) (bestA (offN n f) (permsR n n))], .lst [pairC (fallsN n f) (bestA (fallsN n f) (permsR n n)), pairC (offN n f) (bestA (offN n f) (permsR n n))]] st = .ok (.bl true) st := by
  have b1 := rows_ok n5 (bestA_spec (fallsN n f) (rows_ne n5)).1
  have b2 := rows_ok n5 (bestA_spec (offN n f) (rows_ne n5)).1
  have f1 := falls_b v.n7 f (bestA (fallsN n f) (permsR n n))
  have f2 := off_zero v b2
  refine law_is_t hw (p := .list [pairP (fallsN n f) (bestA (fallsN n f) (permsR n n)), pairP (offN n f) (bestA (offN n f) (permsR n n))]) (W := 10000) ?_ ?_ (by omega)
  · rw [toPy]
    simp only [List.map_cons, List.map_nil, toPy_pairC st 57, allSome]
    rfl
  · refine sm_list (W := 400) (fun x hx => ?_) (by simp)
    simp only [List.mem_cons, List.not_mem_nil, or_false] at hx
    rcases hx with rfl | rfl
    · exact sm_pair f1.1 f1.2 (by rw [b1.len]; omega) fun m hm => by have := b1.lt m hm; omega
    · exact sm_pair f2.1 f2.2.1 (by rw [b2.len]; omega) fun m hm => by have := b2.lt m hm; omega
theorem law_case_right_t {o : MO} {rest : Sto} (hw : WF (o :: rest)) (ho : HandO o) {n : Nat} (n5 : n ≤ 5) {f : Nat → Nat → Int} (v : TabP n f) (tr : Tri n f) :
    ∃ o', HandO o' ∧ F_law_case_right [.ref 0, tabT n f] (o :: rest) = .ok (.bl true) (o' :: rest) := by
  have z2 := sizeLine_eq
  have pl := permsR_len n5 (Nat.le_refl n)
  have ne := rows_ne n5
  have body : ∃ o', HandO o' ∧ b_law_case_right (startD 8 [.ref 0, tabT n f]) (o :: rest) = some (.rt (.bl true), o' :: rest) := by
    have h0 : (startD 8 [.ref 0, tabT n f])[0]? = some (some (.ref 0)) := rfl
    have h1 : (startD 8 [.ref 0, tabT n f])[1]? = some (some (tabT n f)) := rfl
    have hl : (startD 8 [.ref 0, tabT n f]).length = 8 := rfl
    generalize startD 8 [.ref 0, tabT n f] = ρ at h0 h1 hl
    unfold b_law_case_right
    rw [qSeq_e]
    have s1 : qSet 2 (sCall 1 F_law_rows (aCons (sB bLen (aCons (sVar 1) aNil)) aNil)) ρ (o :: rest) = some (.nx (ρ.set 2 (some (.lst ((permsR n n).map nats)))), o :: rest) := by simp_arith! [h1, List.length_range, law_rows_t hw n5]
    rw [s1, then_nx, qSeq_e]
    generalize hρ : ρ.set 2 (some (.lst ((permsR n n).map nats))) = ρ1
    have k0 : ρ1[0]? = some (some (.ref 0)) := by rw [← hρ]; simp_arith! [h0]
    have k1 : ρ1[1]? = some (some (tabT n f)) := by rw [← hρ]; simp_arith! [h1]
    have k2 : ρ1[2]? = some (some (.lst ((permsR n n).map nats))) := by rw [← hρ]; simp_arith! [hl]
    have kl : ρ1.length = 8 := by rw [← hρ]; simp_arith! [hl]
    clear hρ s1 h0 h1 hl ρ
    have s2 : qSet 3 (sB bMinP (aCons (sLC false (iSeq (sVar 2)) (gN 6) tYesD (sTup (aCons (sB bLen (aCons (sCall 2 F_law_falls (aCons (sVar 1) (aCons (sVar 6) aNil))) aNil)) (aCons (sVar 6) aNil))) [6]) aNil)) ρ1 (o :: rest) = some (.nx (ρ1.set 3 (some (pairC (fallsN n f) (bestA (fallsN n f) (permsR n n))))), o :: rest) := by
      simp_arith! []
      rw [sLC_map (dy := none) (permsR n n) nats (pairC (fallsN n f)) (by simp_arith! [iSeq_e, k2]) (still_none _ _) (by omega) fun w hm => ⟨_, rfl, by
        simp_arith! [k1, kl, law_falls_T hw v.n7 (rows_ok n5 hm)]
        rfl⟩]
      simp_arith! []
      rw [bMin_rows _ (fallsN n f) ne]
      rfl
    rw [s2, then_nx, qSeq_e]
    generalize hρ : ρ1.set 3 (some (pairC (fallsN n f) (bestA (fallsN n f) (permsR n n)))) = ρ2
    have m0 : ρ2[0]? = some (some (.ref 0)) := by rw [← hρ]; simp_arith! [k0]
    have m1 : ρ2[1]? = some (some (tabT n f)) := by rw [← hρ]; simp_arith! [k1]
    have m2 : ρ2[2]? = some (some (.lst ((permsR n n).map nats))) := by rw [← hρ]; simp_arith! [k2]
    have m3 : ρ2[3]? = some (some (pairC (fallsN n f) (bestA (fallsN n f) (permsR n n)))) := by rw [← hρ]; simp_arith! [kl]
    have ml : ρ2.length = 8 := by rw [← hρ]; simp_arith! [kl]
    clear hρ s2 k0 k1 k2 kl ρ1
    have s3 : qSet 4 (sB bMinP (aCons (sLC false (iSeq (sVar 2)) (gN 6) tYesD (sTup (aCons (sCall 2 F_law_off_by (aCons (sVar 1) (aCons (sVar 6) aNil))) (aCons (sVar 6) aNil))) [6]) aNil)) ρ2 (o :: rest) = some (.nx (ρ2.set 4 (some (pairC (offN n f) (bestA (offN n f) (permsR n n))))), o :: rest) := by
      simp_arith! []
      rw [sLC_map (dy := none) (permsR n n) nats (pairC (offN n f)) (by simp_arith! [iSeq_e, m2]) (still_none _ _) (by omega) fun w hm => ⟨_, rfl, by
        simp_arith! [m1, ml, law_off_by_t hw v (rows_ok n5 hm)]
        rfl⟩]
      simp_arith! []
      rw [bMin_rows _ (offN n f) ne]
      rfl
    rw [s3, then_nx, qSeq_e]
    generalize hρ : ρ2.set 4 (some (pairC (offN n f) (bestA (offN n f) (permsR n n)))) = ρ3
    have q0 : ρ3[0]? = some (some (.ref 0)) := by rw [← hρ]; simp_arith! [m0]
    have q1 : ρ3[1]? = some (some (tabT n f)) := by rw [← hρ]; simp_arith! [m1]
    have q2 : ρ3[2]? = some (some (.lst ((permsR n n).map nats))) := by rw [← hρ]; simp_arith! [m2]
    have q3 : ρ3[3]? = some (some (pairC (fallsN n f) (bestA (fallsN n f) (permsR n n)))) := by rw [← hρ]; simp_arith! [m3]
    have q4 : ρ3[4]? = some (some (pairC (offN n f) (bestA (offN n f) (permsR n n)))) := by rw [← hρ]; simp_arith! [ml]
    have ql : ρ3.length = 8 := by rw [← hρ]; simp_arith! [ml]
    clear hρ s3 m0 m1 m2 m3 ml ρ2
    obtain ⟨a1, a2⟩ := bestA_spec (fallsN n f) ne
    obtain ⟨b1, b2⟩ := bestA_spec (offN n f) ne
    have pc0 : ∀ (c : List Nat → Int) (w : List Nat) (st : Sto), fIx (pairC c w) (.int 0) st = .ok (.int (c w)) st := fun c w st => fIx_tup (i := 0) rfl
    have pc1 : ∀ (c : List Nat → Int) (w : List Nat) (st : Sto), fIx (pairC c w) (.int 1) st = .ok (nats w) st := fun c w st => fIx_tup (i := 1) rfl
    have same0 : decide (fallsN n f (bestA (fallsN n f) (permsR n n)) = 0) = decide (offN n f (bestA (offN n f) (permsR n n)) = 0) := by
      have oa := off_zero v (rows_ok n5 a1)
      have ob := off_zero v (rows_ok n5 b1)
      have fb := falls_b v.n7 f (bestA (fallsN n f) (permsR n n))
      have l1 := a2 _ b1
      have l2 := b2 _ a1
      refine decide_eq_decide.mpr ⟨fun z => ?_, fun z => ?_⟩
      · have := oa.2.2.mpr z
        omega
      · have := ob.2.2.mp z
        omega
    have nb : ∀ b : Bool, fNe (.bl b) (.bl b) (o :: rest) = .ok (.bl false) (o :: rest) := fun b => by cases b <;> simp
    have s4 : qIf (tOrD (tNotD (tTru (sCall 2 F_law_is (aCons (sLst false (aCons (sCall 1 F_fewest_falls (aCons (sVar 1) aNil)) (aCons (sCall 1 F_least_over (aCons (sVar 1) aNil)) aNil))) (aCons (sLst false (aCons (sVar 3) (aCons (sVar 4) aNil))) aNil))))) (tBl (s2 fNe (s2 fEq (s2 fIx (sVar 3) (sC (.int 0))) (sC (.int 0))) (s2 fEq (s2 fIx (sVar 4) (sC (.int 0))) (sC (.int 0)))))) (qRet (sC (.bl false))) qNext ρ3 (o :: rest) = some (.nx ρ3, o :: rest) := by
      simp_arith! [q1, q3, q4, fewest_falls_T hw n5 v tr, least_over_T hw n5 v tr, pairs_is hw n5 v, pc0, same0, nb]
    rw [s4, then_nx, qSeq_e]
    clear s4
    -- the rows that are looked at
    obtain ⟨ws, st1, ew, ⟨o1, ho1, rfl⟩, wl, wp⟩ := sLC_inv (st := o :: rest) (st0 := o :: rest) (g := gN 7) (e := sCall 2 F_law_some (aCons (sVar 0) (aCons (sVar 2) aNil))) (vs := [7]) (ρ := ρ3) (it := iRange1 (aCons (sC (.int 3)) aNil)) (List.range 3) (fun i : Nat => D.int (i : Int)) nats (fun st' => ∃ o, HandO o ∧ st' = o :: rest) (fun _ w => w ∈ permsR n n) (iRange_n (n := 3) (by simp_arith! []; rfl)) (by simp; omega) ⟨o, ho, rfl⟩ (by
      rintro a ha st' ⟨o2, ho2, rfl⟩
      obtain ⟨o3, x, ho3, hx, e3⟩ := law_some_t (wf_hand hw ho2) ho2 ((permsR n n).map nats) (by simpa using ne) (by rw [List.length_map]; omega) fun d hd => by
        obtain ⟨w, _, rfl⟩ := List.mem_map.mp hd
        exact fz_nats _ _
      obtain ⟨w, hwm, rfl⟩ := List.mem_map.mp hx
      exact ⟨_, rfl, w, o3 :: rest, by simp_arith! [q0, q2, ql, e3], ⟨o3, ho3, rfl⟩, hwm⟩)
    have wm : ∀ w ∈ ws, w ∈ permsR n n := fun w hm => by
      obtain ⟨k, hk, rfl⟩ := List.mem_iff_getElem.mp hm
      rw [List.length_range] at wl
      exact wp ((List.range 3)[k]'(by simp; omega), ws[k]) (by
        rw [List.mem_iff_getElem]
        exact ⟨k, by simp; omega, by simp⟩)
    rw [List.length_range] at wl
    have all5 : ∀ w ∈ bestA (fallsN n f) (permsR n n) :: bestA (offN n f) (permsR n n) :: ws, w ∈ permsR n n := fun w hm => by
      rcases List.mem_cons.mp hm with rfl | hm
      · exact a1
      · rcases List.mem_cons.mp hm with rfl | hm
        · exact b1
        · exact wm w hm
    have fa := fAdd_lst3 (xs := [nats (bestA (fallsN n f) (permsR n n)), nats (bestA (offN n f) (permsR n n))]) (ys := ws.map nats) (st := o1 :: rest) (by rw [List.length_map]; simp; omega)
    have s5 : qSet 5 (s2 fAdd (sLst false (aCons (s2 fIx (sVar 3) (sC (.int 1))) (aCons (s2 fIx (sVar 4) (sC (.int 1))) aNil))) (sLC false (iRange1 (aCons (sC (.int 3)) aNil)) (gN 7) tYesD (sCall 2 F_law_some (aCons (sVar 0) (aCons (sVar 2) aNil))) [7])) ρ3 (o :: rest) = some (.nx (ρ3.set 5 (some (.lst ((bestA (fallsN n f) (permsR n n) :: bestA (offN n f) (permsR n n) :: ws).map nats)))), o1 :: rest) := by
      rw [qSet_e, s2_e]
      simp_arith! [q3, q4, pc1]
      rw [ew]
      simp_arith! [fa]
      rfl
    rw [s5, then_nx]
    clear s5 ew fa
    obtain ⟨bs, st2, eb, ⟨o2, ho2, rfl⟩, bl, bp⟩ := sLC_inv (st := o1 :: rest) (st0 := o1 :: rest) (g := gN 6) (e := sCall 3 F_law_row_right (aCons (sVar 0) (aCons (sVar 1) (aCons (sVar 6) aNil)))) (vs := [6]) (ρ := ρ3.set 5 (some (.lst ((bestA (fallsN n f) (permsR n n) :: bestA (offN n f) (permsR n n) :: ws).map nats)))) (it := iSeq (sVar 5)) (bestA (fallsN n f) (permsR n n) :: bestA (offN n f) (permsR n n) :: ws) nats (fun _ : Unit => D.bl true) (fun st' => ∃ o, HandO o ∧ st' = o :: rest) (fun _ _ => True) (by simp_arith! [iSeq_e, ql]) (by simp; omega) ⟨o1, ho1, rfl⟩ (by
      rintro w hm st' ⟨o3, ho3, rfl⟩
      obtain ⟨o4, ho4, e4⟩ := law_row_right_t (wf_hand hw ho3) ho3 v tr (rows_ok n5 (all5 w hm))
      exact ⟨_, rfl, (), o4 :: rest, by simp_arith! [q0, q1, ql, e4], ⟨o4, ho4, rfl⟩, True.intro⟩)
    refine ⟨o2, ho2, ?_⟩
    rw [qRet_e, sB_e, aCons_e, eb]
    have ba := bAll_map (fun _ : Unit => true) bs (o2 :: rest)
    rw [all_true] at ba
    simp_arith! [ba]
  obtain ⟨o', h1, h2⟩ := body
  exact ⟨o', h1, defFin_rt (ex := []) (by rw [List.append_nil]; exact h2) rfl (wf_hand hw h1) (fz_bl _ _ _ _)⟩
end Lw96
namespace Lw96
open PySem PD
variable {st : Sto}
/-! ### what is no table, what is no row -/
def BadT (x : D) : Prop := ∀ st, WF st → F_is_table [x] st = .ok (.bl false) st
def BadR (n : Nat) (x : D) : Prop := ∀ st, WF st → F_is_row [.int (n : Int), x] st = .ok (.bl false) st
theorem bad_nt {x : D} (h : ntD x = true) : BadT x := fun st hw => is_table_nt hw h
theorem bad_size {xs : List D} (h : ¬ (1 ≤ xs.length ∧ xs.length ≤ 7)) : BadT (.tup xs) := fun st hw => defFin_v hw (fz_bl _ _) (by
  have h0 : (startD 5 [.tup xs])[0]? = some (some (.tup xs)) := rfl
  generalize startD 5 [.tup xs] = ρ at h0
  have e : decide ((1 : Int) ≤ (xs.length : Int) ∧ (xs.length : Int) ≤ 7) = false := decide_eq_false (by omega)
  unfold b_is_table
  simp_arith! [h0, is_sized_t hw, e])
theorem bad_row1 {r : D} (h : ∀ st, WF st → F_is_sized [r, .int 1, .int 1] st = .ok (.bl false) st) : BadT (.tup [r]) := fun st hw => defFin_v hw (fz_bl _ _) (by
  have z2 := sizeLine_eq
  have h0 : (startD 5 [.tup [r]])[0]? = some (some (.tup [r])) := rfl
  have hl : (startD 5 [.tup [r]]).length = 5 := rfl
  generalize startD 5 [.tup [r]] = ρ at h0 hl
  have s1 : F_is_sized [.tup [r], .int 1, .int 7] st = .ok (.bl true) st := is_sized_t hw [r] 1 7
  have hh := h st hw
  unfold b_is_table
  simp_arith! [h0, s1]
  rw [sLC_map (dy := none) (g := gN 2) [r] (fun d => d) (fun _ => D.bl false) (by simp_arith! [iSeq_e, h0]; rfl) (still_none _ _) (by simp; omega) fun d hd => ⟨_, rfl, by
    rw [List.mem_singleton.mp hd]
    have e : ((([r] : List D).length : Nat) : Int) = 1 := rfl
    simp_arith! [h0, hl]
    exact hh⟩]
  have ba : bAll [.lst (([r] : List D).map fun _ => D.bl false)] st = .ok (.bl false) st := bAll_map (fun _ : D => false) [r] st
  simp_arith! [ba])
def wiD : D → Bool
  | .int i => decide (0 ≤ i ∧ i ≤ 1000)
  | _ => false
theorem within_wi (hw : WF st) {d : D} (h : (∃ i, d = .int i) ∨ niD d = true) : F_is_within [d, .int 0, .int 1000] st = .ok (.bl (wiD d)) st := by
  rcases h with ⟨i, rfl⟩ | h
  · exact is_within_i hw i 0 1000
  · rw [is_within_ni hw h]
    cases d <;> simp [niD] at h <;> rfl
theorem loop_rt {L : Nat} {g : TgD} {b : SS} {i : Nat} {d v : D} {ds : List D} {ρ ρ1 : Ev} {st st' : Sto} (hg : g d ρ = some ρ1) (hb : b ρ1 st = some (.rt v, st')) : loopFor none L g b i (d :: ds) ρ st = some (.rt v, st') := by
  rw [loopFor]
  simp only [fetch, hg, hb]
theorem bad_first {r0 : List D} {rs : List (List D)} (hn : rs.length + 1 ≤ 7) (hs : ∀ r ∈ r0 :: rs, r.length = rs.length + 1) (hd : ∀ d ∈ r0, (∃ i, d = .int i) ∨ niD d = true) (hb : r0.all wiD = false) : BadT (.tup ((r0 :: rs).map D.tup)) := fun st hw => defFin_v hw (fz_bl _ _) (by
  have z2 := sizeLine_eq
  have h0 : (startD 5 [.tup ((r0 :: rs).map D.tup)])[0]? = some (some (.tup ((r0 :: rs).map D.tup))) := rfl
  have hl : (startD 5 [.tup ((r0 :: rs).map D.tup)]).length = 5 := rfl
  generalize hX : (r0 :: rs).map D.tup = X at h0 hl
  have xl : X.length = rs.length + 1 := by rw [← hX, List.length_map]; rfl
  generalize startD 5 [.tup X] = ρ at h0 hl
  have e : decide ((1 : Int) ≤ (X.length : Int) ∧ (X.length : Int) ≤ 7) = true := decide_eq_true (by omega)
  have ba := fun s => bAll_map (fun _ : List D => true) (r0 :: rs) s
  simp only [all_true] at ba
  unfold b_is_table
  simp_arith! [h0, is_sized_t hw, e]
  rw [sLC_map (dy := none) (r0 :: rs) D.tup (fun _ => D.bl true) (by simp_arith! [iSeq_e, h0, hX]) (still_none _ _) (by simp; omega) fun r hr => ⟨_, rfl, by
    have e2 : decide ((X.length : Int) ≤ (r.length : Int) ∧ (r.length : Int) ≤ (X.length : Int)) = true := decide_eq_true (by have := hs r hr; omega)
    simp_arith! [h0, hl, is_sized_t hw, e2]⟩]
  simp_arith! [ba, h0, iEnum_e]
  generalize hL : loopFor _ _ _ _ _ _ _ _ = R
  have en : enumFromD 0 X = .tpl [.int 0, .tup r0] :: enumFromD 1 (rs.map D.tup) := by
    rw [← hX]
    rfl
  rw [en] at hL
  have r := loop_rt (L := (D.tpl [.int 0, .tup r0] :: enumFromD 1 (rs.map D.tup)).length) (g := gT2 (gN 1) (gN 2)) (i := 0) (ds := enumFromD 1 (rs.map D.tup)) (ρ := ρ) (ρ1 := (ρ.set 1 (some (.int 0))).set 2 (some (.tup r0))) (st := st) (v := .bl false) (st' := st) (d := .tpl [.int 0, .tup r0]) rfl (b := (qSeq (qIf (tNotD (tTru (sB bAll (aCons (sLC false (iSeq (sVar 2)) (gN 3) tYesD (sCall 3 F_is_within (aCons (sVar 3) (aCons (sC (.int 0)) (aCons (sC (.int 1000)) aNil)))) [3]) aNil)))) (qRet (sC (.bl false))) qNext)
    (qIf (tTru (sB bAny (aCons (sLC false (iEnum (aCons (sVar 2) aNil)) (gT2 (gN 4) (gN 3)) tYesD (s2 fNe (s2 fEq (sVar 3) (sC (.int 0))) (s2 fEq (sVar 1) (sVar 4))) [4, 3]) aNil))) (qRet (sC (.bl false))) qNext))) (by
    have b2 := bAll_map wiD r0 st
    rw [hb] at b2
    rw [qSeq_e, qIf_e, tNotD_e, tTru_e, sB_e, aCons_e]
    rw [sLC_map (dy := none) (g := gN 3) r0 (fun d => d) (fun d => D.bl (wiD d)) (by simp_arith! [iSeq_e, hl]; rw [List.map_id']) (still_none _ _) (by have := hs r0 (by simp); omega) fun d hd' => ⟨_, rfl, by
      simp_arith! [hl, within_wi hw (hd d hd')]⟩]
    simp_arith! [b2])
  rw [r] at hL
  rw [← hL]
  rfl)
def isI : D → Bool
  | .int _ => true
  | _ => false
theorem integer_isI (hw : WF st) {d : D} (h : (∃ i, d = .int i) ∨ niD d = true) : F_is_integer [d] st = .ok (.bl (isI d)) st := by
  rcases h with ⟨i, rfl⟩ | h
  · exact is_integer_i hw i
  · rw [is_integer_ni hw h]
    cases d <;> simp [niD] at h <;> rfl
theorem badR_nt {n : Nat} {x : D} (h : ntD x = true) : BadR n x := fun st hw => defFin_v hw (fz_bl _ _) (by
  have h0 : (startD 3 [.int (n : Int), x])[0]? = some (some (.int (n : Int))) := rfl
  have h1 : (startD 3 [.int (n : Int), x])[1]? = some (some x) := rfl
  generalize startD 3 [.int (n : Int), x] = ρ at h0 h1
  unfold b_is_row
  simp_arith! [h0, h1, is_sized_nt hw h])
theorem badR_len {n : Nat} {xs : List D} (h : xs.length ≠ n) : BadR n (.tup xs) := fun st hw => defFin_v hw (fz_bl _ _) (by
  have h0 : (startD 3 [.int (n : Int), .tup xs])[0]? = some (some (.int (n : Int))) := rfl
  have h1 : (startD 3 [.int (n : Int), .tup xs])[1]? = some (some (.tup xs)) := rfl
  generalize startD 3 [.int (n : Int), .tup xs] = ρ at h0 h1
  have e : decide ((n : Int) ≤ (xs.length : Int) ∧ (xs.length : Int) ≤ (n : Int)) = false := decide_eq_false (by omega)
  unfold b_is_row
  simp_arith! [h0, h1, is_sized_t hw, e])
theorem badR_ni {n : Nat} (hn : n ≤ 7) {xs : List D} (hd : ∀ d ∈ xs, (∃ i, d = .int i) ∨ niD d = true) (hb : xs.all isI = false) : BadR n (.tup xs) := fun st hw => by
  by_cases hl : xs.length = n
  · refine defFin_v hw (fz_bl _ _) ?_
    have z2 := sizeLine_eq
    have h0 : (startD 3 [.int (n : Int), .tup xs])[0]? = some (some (.int (n : Int))) := rfl
    have h1 : (startD 3 [.int (n : Int), .tup xs])[1]? = some (some (.tup xs)) := rfl
    have h2 : (startD 3 [.int (n : Int), .tup xs]).length = 3 := rfl
    generalize startD 3 [.int (n : Int), .tup xs] = ρ at h0 h1 h2
    have e : decide ((n : Int) ≤ (xs.length : Int) ∧ (xs.length : Int) ≤ (n : Int)) = true := decide_eq_true (by omega)
    have b2 := bAll_map isI xs st
    rw [hb] at b2
    unfold b_is_row
    simp_arith! [h0, h1, is_sized_t hw, e]
    rw [sLC_map (dy := none) (g := gN 2) xs (fun d => d) (fun d => D.bl (isI d)) (by simp_arith! [iSeq_e, h1]; rw [List.map_id']) (still_none _ _) (by omega) fun d hd' => ⟨_, rfl, by
      simp_arith! [h2, integer_isI hw (hd d hd')]⟩]
    simp_arith! [b2]
  · exact badR_len hl st hw
theorem badR_np {n : Nat} (hn : n ≤ 7) {ns : List Int} (hl : ns.length = n) (h : ∃ i ∈ ns, i < 0 ∨ (n : Int) ≤ i) : BadR n (.tup (ns.map D.int)) := fun st hw => by
  rw [is_row_ints hw hn hl, decide_eq_false fun p => ?_]
  obtain ⟨i, hi, hb⟩ := h
  obtain ⟨k, hk, rfl⟩ := List.mem_map.mp (p.mem_iff.mp hi)
  have := List.mem_range.mp hk
  omega
theorem then_ex (n : Str) (fs : List (Str × D)) (ρ : Ev) (st : Sto) (b : SS) : thenS (some (.ex n fs ρ, st)) b = some (.ex n fs ρ, st) := rfl
theorem check_bad (hw : WF st) {x : D} (h : BadT x) : F_check_table [x] st = .exc "NoTable" [] st := defFin_ex (ρ := startD 1 [x]) hw (by
  have h0 : (startD 1 [x])[0]? = some (some x) := rfl
  generalize startD 1 [x] = ρ at h0
  unfold b_check_table
  simp_arith! [h0, h st hw]
  rfl)
theorem sound_bad (hw : WF st) {x : D} (h : BadT x) : F_check_sound [x] st = .exc "NoTable" [] st := defFin_ex (ρ := startD 1 [x]) hw (by
  have h0 : (startD 1 [x])[0]? = some (some x) := rfl
  generalize startD 1 [x] = ρ at h0
  unfold b_check_sound
  simp_arith! [h0, check_bad hw h, then_ex])
theorem row_badT (hw : WF st) {x y : D} (h : BadT x) : F_check_row [x, y] st = .exc "NoTable" [] st := defFin_ex (ρ := startD 2 [x, y]) hw (by
  have h0 : (startD 2 [x, y])[0]? = some (some x) := rfl
  generalize startD 2 [x, y] = ρ at h0
  unfold b_check_row
  simp_arith! [h0, sound_bad hw h, then_ex])
theorem row_badR (hw : WF st) {n : Nat} {f : Nat → Nat → Int} (v : TabP n f) (tr : Tri n f) {y : D} (h : BadR n y) : F_check_row [tabT n f, y] st = .exc "NoRow" [] st := defFin_ex (ρ := startD 2 [tabT n f, y]) hw (by
  have h0 : (startD 2 [tabT n f, y])[0]? = some (some (tabT n f)) := rfl
  have h1 : (startD 2 [tabT n f, y])[1]? = some (some y) := rfl
  generalize startD 2 [tabT n f, y] = ρ at h0 h1
  unfold b_check_row
  simp_arith! [h0, h1, check_sound_t hw v tr, List.length_range, h st hw]
  rfl)
theorem ref_nearest (hw : WF st) {x y : D} {k : Str} (h : F_check_row [x, y] st = .exc k [] st) : F_nearest_rising [x, y] st = .exc k [] st := defFin_ex (ρ := startD 2 [x, y]) hw (by
  have h0 : (startD 2 [x, y])[0]? = some (some x) := rfl
  have h1 : (startD 2 [x, y])[1]? = some (some y) := rfl
  generalize startD 2 [x, y] = ρ at h0 h1
  unfold b_nearest_rising
  simp_arith! [h0, h1, h, then_ex])
theorem ref_over (hw : WF st) {x y : D} {k : Str} (h : F_check_row [x, y] st = .exc k [] st) : F_over_by [x, y] st = .exc k [] st := defFin_ex (ρ := startD 2 [x, y]) hw (by
  have h0 : (startD 2 [x, y])[0]? = some (some x) := rfl
  have h1 : (startD 2 [x, y])[1]? = some (some y) := rfl
  generalize startD 2 [x, y] = ρ at h0 h1
  unfold b_over_by
  simp_arith! [h0, h1, h, then_ex])
theorem ref_falls (hw : WF st) {x y : D} {k : Str} (h : F_check_row [x, y] st = .exc k [] st) : F_falls [x, y] st = .exc k [] st := defFin_ex (ρ := startD 2 [x, y]) hw (by
  have h0 : (startD 2 [x, y])[0]? = some (some x) := rfl
  have h1 : (startD 2 [x, y])[1]? = some (some y) := rfl
  generalize startD 2 [x, y] = ρ at h0 h1
  unfold b_falls
  simp_arith! [h0, h1, h, then_ex])
/-! the words -/
theorem ca_1 : ca_law_word "NoTable" = some true ∧ ca_law_word "NoRow" = some true := by decide +kernel
theorem sub_1 : sub_law_word "NoTable" "NoTable" = true ∧ sub_law_word "NoTable" "NoRow" = false ∧ sub_law_word "NoTable" "ValueError" = true := by decide +kernel
theorem sub_2 : sub_law_word "NoRow" "NoTable" = false ∧ sub_law_word "NoRow" "NoRow" = true ∧ sub_law_word "NoRow" "ValueError" = true := by decide +kernel
theorem lam_table {fb : SE} {ρ : Ev} (h : fb ρ st = .exc "NoTable" [] st) : sLam F_law_word fb ρ st = .ok (.str "table") st := by
  simp [sLam, F_law_word, b_law_word, qTryAs, qExprW, noneEv, h, ca_1, res_law_word, h_law_word, sub_1, cleanS, sIsE, sizeLine_eq, fCountB, allBl, fIndexD, toPys, allSome, firstIx, eqv_bl, fIx, ixD, endRaw, List.replicate]
theorem lam_row {fb : SE} {ρ : Ev} (h : fb ρ st = .exc "NoRow" [] st) : sLam F_law_word fb ρ st = .ok (.str "row") st := by
  simp [sLam, F_law_word, b_law_word, qTryAs, qExprW, noneEv, h, ca_1, res_law_word, h_law_word, sub_2, cleanS, sIsE, sizeLine_eq, fCountB, allBl, fIndexD, toPys, allSome, firstIx, eqv_bl, fIx, ixD, endRaw, List.replicate]
theorem callV_f {tab : FnTab} {n i : Nat} {x : Str} {F : List D → Sto → Out D} {as : SA} {ρ : Ev} {xs : List D} (h : ρ[i]? = some (some (.fn x))) (hf : tab.find? (fun p => p.1 == x) = some (x, n, F)) (ha : as ρ st = .ok xs st) (hl : xs.length = n) : sCallV tab n i as ρ st = F xs st := by
  unfold sCallV
  simp only [h, hf, if_true, ha, bind_ok, hl]
end Lw96
namespace Lw96
open PySem PD
variable {st : Sto}
/-! ### what is no table -/
theorem is_table_G (hw : WF st) {n : Nat} {f : Nat → Nat → Int} (n1 : 1 ≤ n) (n7 : n ≤ 7) (lo : ∀ i j, i < n → j < n → 0 ≤ f i j ∧ f i j ≤ 1000) (h : (∃ i j, i < n ∧ j < n ∧ decide (f i j = 0) ≠ decide (i = j)) ∨ ((∀ i j, i < n → j < n → (f i j = 0 ↔ i = j)) ∧ ∃ i j, i < n ∧ j < i ∧ f i j ≠ f j i)) : F_is_table [tabT n f] st = .ok (.bl false) st := defFin_v hw (fz_bl _ _) (by
  have z2 := sizeLine_eq
  have h0 : (startD 5 [tabT n f])[0]? = some (some (tabT n f)) := rfl
  have hl : (startD 5 [tabT n f]).length = 5 := rfl
  generalize startD 5 [tabT n f] = ρ at h0 hl
  unfold b_is_table
  simp_arith! [h0, is_sized_t hw, List.length_range, decide_eq_true (show (1 : Int) ≤ n ∧ (n : Int) ≤ 7 by omega)]
  rw [sLC_map (dy := none) (List.range n) (fun i => rowT n f i) (fun _ => D.bl true) (by simp_arith! [iSeq_e, h0]) (still_none _ _) (by simp; omega) fun i hi => ⟨_, rfl, by
    simp_arith! [h0, hl, is_sized_t hw, List.length_range, Int.le_refl]⟩]
  have ba := fun s => bAll_map (fun _ : Nat => true) (List.range n) s
  simp only [all_true] at ba
  simp_arith! [ba, h0, iEnum_e, enum_range, List.length_range]
  generalize hL : loopFor _ _ _ _ _ _ _ _ = R
  have q := for_some_e hL (List.range n) (fun i : Nat => D.tpl [.int (i : Int), rowT n f i]) rfl (by simp) (still_none _ _) (fun ρ => ρ[0]? = some (some (tabT n f)) ∧ ρ.length = 5) (fun i => if ((List.range n).any fun j => !decide (decide (f i j = 0) = decide ((i : Int) = (j : Int)))) = true then some (.bl false) else none) ⟨h0, hl⟩ (by
    rintro i hi ρ ⟨h0, hl⟩
    have hi := List.mem_range.mp hi
    refine ⟨_, rfl, ?_⟩
    have bn := fun s => bAny_map (fun j : Nat => !decide (decide (f i j = 0) = decide ((i : Int) = (j : Int)))) (List.range n) s
    simp_arith! [hl]
    rw [sLC_map (dy := none) (List.range n) (fun j => D.int (f i j)) (fun _ => D.bl true) (by simp_arith! [iSeq_e, hl]) (still_none _ _) (by simp; omega) fun j hj => ⟨_, rfl, by
      have hj := List.mem_range.mp hj
      simp_arith! [hl, is_within_i hw, decide_eq_true (lo i j hi hj)]⟩]
    simp_arith! [ba, hl]
    rw [sLC_map (dy := none) (List.range n) (fun j : Nat => D.tpl [.int (j : Int), .int (f i j)]) (fun j => D.bl (!decide (decide (f i j = 0) = decide ((i : Int) = (j : Int))))) (by simp_arith! [iEnum_e, hl, enum_range]) (still_none _ _) (by simp; omega) fun j hj => ⟨_, rfl, by simp_arith! [hl]⟩]
    simp_arith! [bn, hl]
    generalize ((List.range n).any fun j => !decide (decide (f i j = 0) = decide ((i : Int) = (j : Int)))) = b
    cases b with
    | true => exact .inl ⟨_, rfl, by simp_arith! []⟩
    | false => exact .inr ⟨rfl, (ρ.set 1 (some (.int (i : Int)))).set 2 (some (rowT n f i)), .inl (by simp_arith! []), by simp_arith! [h0, hl]⟩)
  rcases q with ⟨d, hc, rfl⟩ | ⟨hc, ρ', rfl, k0, kl⟩
  · obtain ⟨i, _, hi⟩ := List.exists_of_findSome?_eq_some hc
    split at hi
    · cases hi; simp_arith! []
    · cases hi
  · rw [List.findSome?_eq_none_iff] at hc
    have dg : ∀ i j, i < n → j < n → decide (f i j = 0) = decide (i = j) := fun i j hi hj => by
      have := hc i (List.mem_range.mpr hi)
      split at this
      · cases this
      · rename_i h
        rw [Bool.not_eq_true, List.any_eq_false] at h
        have := h j (List.mem_range.mpr hj)
        simp only [Bool.not_eq_true, Bool.not_eq_false', decide_eq_true_eq] at this
        rw [this]
        exact decide_eq_decide.mpr (by omega)
    rcases h with ⟨i, j, hi, hj, h⟩ | ⟨_, i0, j0, hi0, hj0, h⟩
    · exact absurd (dg i j hi hj) h
    · clear hL
      simp_arith! []
      rw [sLC_map (dy := none) (List.range n) (fun i : Nat => D.tpl [.int (i : Int), rowT n f i]) (fun i => D.bl ((List.range i).all fun j => decide (f i j = f j i))) (by simp_arith! [iEnum_e, k0, enum_range]) (still_none _ _) (by simp; omega) fun i hi => ⟨_, rfl, by
        have hi := List.mem_range.mp hi
        simp_arith! [kl, k0]
        rw [sLC_map (dy := none) (List.range i) (fun j : Nat => D.int (j : Int)) (fun j => D.bl (decide (f i j = f j i))) (iRange_n (by simp_arith! [kl, k0])) (still_none _ _) (by simp; omega) fun j hj => ⟨_, rfl, by
          have hj := List.mem_range.mp hj
          have hjn : j < n := by omega
          simp_arith! [kl, k0, fIx_range hjn, fIx_range hi]⟩]
        have ba := bAll_map (fun j : Nat => decide (f i j = f j i)) (List.range i) st
        simp_arith! [ba]⟩]
      have ba := bAll_map (fun i : Nat => (List.range i).all fun j => decide (f i j = f j i)) (List.range n) st
      have ef : ((List.range n).all fun i : Nat => (List.range i).all fun j => decide (f i j = f j i)) = false := by
        rw [List.all_eq_false]
        refine ⟨i0, List.mem_range.mpr hi0, ?_⟩
        rw [Bool.not_eq_true, List.all_eq_false]
        exact ⟨j0, List.mem_range.mpr hj0, by simpa using h⟩
      rw [ef] at ba
      simp_arith! [ba])
end Lw96
namespace Lw96
open PySem PD
variable {st : Sto}
def gA : Nat → Nat → Int := fun i j => if i = j then 0 else if i = 0 then 1 else 2
def gB : Nat → Nat → Int := fun _ _ => 1
def gC : Nat → Nat → Int := fun _ _ => 0
def g8 : Nat → Nat → Int := fun i j => if i ≠ j then 1 else 0
def badTs : List D := [.non, .tup [], tabT 2 gA, tabT 1 gB, .lst [.tup [.int 0]], tabT 2 gC, .tup [.tup [.int 0, .int 1]], .tup [.lst [.int 0]], .tup [.tup [.int 0, .int (-1)], .tup [.int (-1), .int 0]], .str "0", .tup [.tup [.int 0, .int 1001], .tup [.int 1001, .int 0]], .tup [.tup [.int 0, .bl true], .tup [.bl true, .int 0]], .tup [.tup [.int 0, .non], .tup [.non, .int 0]], .tup [.tup [.bl false]], .dk [] [], tabT 8 g8, .int 5]
theorem badTs_ok {x : D} (h : x ∈ badTs) : BadT x := by
  unfold badTs at h
  simp only [List.mem_cons, List.not_mem_nil, or_false] at h
  have two : ∀ a b c d : D, ((∃ i, a = .int i) ∨ niD a = true) → ((∃ i, b = .int i) ∨ niD b = true) → [a, b].all wiD = false → BadT (.tup [.tup [a, b], .tup [c, d]]) := fun a b c d ha hb hw => bad_first (r0 := [a, b]) (rs := [[c, d]]) (by simp) (by simp) (by simp [ha, hb]) hw
  rcases h with rfl | rfl | rfl | rfl | rfl | rfl | rfl | rfl | rfl | rfl | rfl | rfl | rfl | rfl | rfl | rfl | rfl
  · exact bad_nt rfl
  · exact bad_size (by simp)
  · intro st hw
    refine is_table_G (n := 2) (f := gA) hw (by omega) (by omega) (fun i j _ _ => by unfold gA; split; omega; split <;> omega) (.inr ⟨fun i j hi hj => ?_, 1, 0, by omega, by omega, by decide⟩)
    unfold gA
    split
    · rename_i e; exact ⟨fun _ => e, fun _ => rfl⟩
    · rename_i e; split <;> exact ⟨fun h => absurd h (by omega), fun h => absurd h e⟩
  · intro st hw
    exact is_table_G (n := 1) (f := gB) hw (by omega) (by omega) (fun i j _ _ => by unfold gB; omega) (.inl ⟨0, 0, by omega, by omega, by decide⟩)
  · exact bad_nt rfl
  · intro st hw
    exact is_table_G (n := 2) (f := gC) hw (by omega) (by omega) (fun i j _ _ => by unfold gC; omega) (.inl ⟨0, 1, by omega, by omega, by decide⟩)
  · exact bad_row1 fun st hw => is_sized_t hw [.int 0, .int 1] 1 1
  · exact bad_row1 fun st hw => is_sized_nt hw rfl 1 1
  · exact two _ _ _ _ (.inl ⟨_, rfl⟩) (.inl ⟨_, rfl⟩) (by decide)
  · exact bad_nt rfl
  · exact two _ _ _ _ (.inl ⟨_, rfl⟩) (.inl ⟨_, rfl⟩) (by decide)
  · exact two _ _ _ _ (.inl ⟨_, rfl⟩) (.inr rfl) (by decide)
  · exact two _ _ _ _ (.inl ⟨_, rfl⟩) (.inr rfl) (by decide)
  · exact bad_first (r0 := [.bl false]) (rs := []) (by simp) (by simp) (by simp [niD]) (by decide)
  · exact bad_nt rfl
  · exact bad_size (by simp)
  · exact bad_nt rfl
theorem fz_ints (f : Nat) (l : List D) (h : ∀ d ∈ l, ∀ g, Fz g d) : Fz (f + 1) (.tup l) := fz_tup fun d hd => h d hd f
theorem badTs_fz {x : D} (h : x ∈ badTs) : Fz 60 x := by
  unfold badTs at h
  simp only [List.mem_cons, List.not_mem_nil, or_false] at h
  have fi : ∀ (i : Int) g, Fz g (.int i) := fun i g => fz_int g i
  have two : ∀ a b c d : D, (∀ g, Fz g a) → (∀ g, Fz g b) → (∀ g, Fz g c) → (∀ g, Fz g d) → Fz 60 (.tup [.tup [a, b], .tup [c, d]]) := fun a b c d ha hb hc hd => fz_tup fun y hy => by
    simp only [List.mem_cons, List.not_mem_nil, or_false] at hy
    rcases hy with rfl | rfl <;> exact fz_ints 58 _ fun z hz => by
      simp only [List.mem_cons, List.not_mem_nil, or_false] at hz
      rcases hz with rfl | rfl <;> assumption
  rcases h with rfl | rfl | rfl | rfl | rfl | rfl | rfl | rfl | rfl | rfl | rfl | rfl | rfl | rfl | rfl | rfl | rfl
  · exact fz_non _
  · exact fz_tup fun d hd => by cases hd
  · exact fz_tabT 58 _ _
  · exact fz_tabT 58 _ _
  · exact fz_lst fun d hd => by
      rw [List.mem_singleton.mp hd]
      exact fz_tup (f := 58) fun e he => by rw [List.mem_singleton.mp he]; exact fz_int _ _
  · exact fz_tabT 58 _ _
  · exact fz_tup fun d hd => by
      rw [List.mem_singleton.mp hd]
      exact fz_ints 58 _ fun z hz => by
        simp only [List.mem_cons, List.not_mem_nil, or_false] at hz
        rcases hz with rfl | rfl <;> exact fi _
  · exact fz_tup fun d hd => by
      rw [List.mem_singleton.mp hd]
      exact fz_lst (f := 58) fun e he => by rw [List.mem_singleton.mp he]; exact fz_int _ _
  · exact two _ _ _ _ (fi _) (fi _) (fi _) (fi _)
  · exact fz_str _ _
  · exact two _ _ _ _ (fi _) (fi _) (fi _) (fi _)
  · exact two _ _ _ _ (fi _) (fun g => fz_bl g _) (fun g => fz_bl g _) (fi _)
  · exact two _ _ _ _ (fi _) (fun g => fz_non g) (fun g => fz_non g) (fi _)
  · exact fz_tup fun d hd => by
      rw [List.mem_singleton.mp hd]
      exact fz_tup (f := 58) fun e he => by rw [List.mem_singleton.mp he]; exact fz_bl _ _
  · exact fun st n => rfl
  · exact fz_tabT 58 _ _
  · exact fz_int _ _
theorem law_no_table_t {o : MO} {rest : Sto} (hw : WF (o :: rest)) (ho : HandO o) : ∃ o' x, HandO o' ∧ BadT x ∧ F_law_no_table [.ref 0] (o :: rest) = .ok x (o' :: rest) := by
  have z2 := sizeLine_eq
  obtain ⟨o', x, ho', hx, e⟩ := law_some_t hw ho badTs (by simp [badTs]) (by simp [badTs]) fun x hx => badTs_fz hx
  refine ⟨o', x, ho', badTs_ok hx, defFin_rt (ex := []) (st' := o' :: rest) ?_ rfl (wf_hand hw ho') (badTs_fz hx _ _)⟩
  rw [List.append_nil]
  have h0 : (startD 4 [.ref 0])[0]? = some (some (.ref 0)) := rfl
  have hl : (startD 4 [.ref 0]).length = 4 := rfl
  generalize startD 4 [.ref 0] = ρ at h0 hl
  unfold b_law_no_table
  rw [qSeq_e]
  generalize hQ : qSeq (qSet 1 (s2 fAdd _ _)) _ = Q
  simp_arith! []
  subst hQ
  generalize hB : [D.non, D.tup [], _, _, _, _, _, _, _, _] = B1
  rw [qSeq_e]
  generalize hQ : qRet _ = Q
  simp_arith! [hl]
  subst hQ
  have bl : B1.length = 10 := by rw [← hB]; rfl
  rw [fAdd_lst3 (by rw [bl]; simp)]
  simp_arith! [hl, h0]
  rw [sLC_map (dy := none) (List.range 8) (fun i : Nat => D.int (i : Int)) (fun i => rowT 8 g8 i) (iRange_n (n := 8) (by simp_arith! []; rfl)) (still_none _ _) (by simp; omega) fun i hi => ⟨_, rfl, by
    simp_arith! []
    rw [sLC_map (dy := none) (List.range 8) (fun i : Nat => D.int (i : Int)) (fun j => D.int (g8 i j)) (iRange_n (n := 8) (by simp_arith! []; rfl)) (still_none _ _) (by simp; omega) fun j hj => ⟨_, rfl, by
      have ne : ∀ st, bInt [D.bl (!decide ((j : Int) = (i : Int)))] st = .ok (.int (g8 i j)) st := fun st => by
        unfold g8
        by_cases e : i = j
        · subst e
          rw [if_neg (by simp), decide_eq_true rfl]
          rfl
        · rw [if_pos e, decide_eq_false (by omega)]
          rfl
      simp_arith! [hl, ne]⟩]
    simp_arith! []⟩]
  simp_arith! [hl]
  rw [fAdd_lst3 (by simp [bl]), ← hB]
  simp_arith! [h0]
  exact congrArg (fun o => Out.st o _ _) e
/-! ### no row -/
theorem cut_m1 (xs : List D) : cutD xs none (some (-1)) = xs.take (xs.length - 1) := by
  unfold cutD HT.sIx
  simp
  omega
theorem fAdd_tup {xs ys : List D} {st : Sto} (h : xs.length + ys.length ≤ 16777216) : fAdd (.tup xs) (.tup ys) st = .ok (.tup (xs ++ ys)) st := by
  have z2 := sizeLine_eq
  unfold fAdd
  dsimp only
  rw [if_pos (by omega)]
def intsR (n : Nat) : List Int := (List.range n).map fun i : Nat => (i : Int)
def rowD (n : Nat) : List D := (intsR n).map D.int
theorem rowD_len (n : Nat) : (rowD n).length = n := by simp [rowD, intsR]
def badRs (n : Nat) (s : Str) : List D := [.non, .lst (rowD n), .tup (rowD n ++ [.int (n : Int)]), .tup (rowD (n - 1)), .tup (rowD (n - 1) ++ [.int (-1)]), .tup (rowD (n - 1) ++ [.int (n : Int)]), .dk [] [], .str "0", .tup (rowD (n - 1) ++ [.non]), .tup (rowD (n - 1) ++ [.str s]), .tup [.tup (rowD n)], .int 0, .tup (rowD n ++ rowD n), .tup (rowD (n - 1) ++ [.bl true])]
theorem badRs_ok {n : Nat} (n1 : 1 ≤ n) (n7 : n ≤ 7) {s : Str} {x : D} (h : x ∈ badRs n s) : BadR n x := by
  unfold badRs at h
  simp only [List.mem_cons, List.not_mem_nil, or_false] at h
  have ri : ∀ m, ∀ d ∈ rowD m, (∃ i, d = .int i) ∨ niD d = true := fun m d hd => by
    obtain ⟨i, _, rfl⟩ := List.mem_map.mp hd
    exact .inl ⟨i, rfl⟩
  have ni : ∀ y, niD y = true → isI y = false → BadR n (.tup (rowD (n - 1) ++ [y])) := fun y hy hi => badR_ni n7 (fun d hd => by
    rcases List.mem_append.mp hd with hd | hd
    · exact ri _ d hd
    · rw [List.mem_singleton.mp hd]; exact .inr hy) (by
    rw [List.all_append]
    simp [hi])
  have np : ∀ i : Int, (i < 0 ∨ (n : Int) ≤ i) → BadR n (.tup (rowD (n - 1) ++ [.int i])) := fun i hi => by
    have e : rowD (n - 1) ++ [D.int i] = (intsR (n - 1) ++ [i]).map D.int := by rw [List.map_append]; rfl
    rw [e]
    exact badR_np n7 (by simp [intsR]; omega) ⟨i, by simp, hi⟩
  have ln : ∀ m, (rowD m).length = m := rowD_len
  rcases h with rfl | rfl | rfl | rfl | rfl | rfl | rfl | rfl | rfl | rfl | rfl | rfl | rfl | rfl
  · exact badR_nt rfl
  · exact badR_nt rfl
  · exact badR_len (by rw [List.length_append, ln]; simp)
  · exact badR_len (by rw [ln]; omega)
  · exact np _ (.inl (by omega))
  · exact np _ (.inr (Int.le_refl _))
  · exact badR_nt rfl
  · exact badR_nt rfl
  · exact ni _ rfl rfl
  · exact ni _ rfl rfl
  · exact badR_ni n7 (fun d hd => by rw [List.mem_singleton.mp hd]; exact .inr rfl) rfl
  · exact badR_nt rfl
  · exact badR_len (by rw [List.length_append, ln]; omega)
  · exact ni _ rfl rfl
theorem badRs_fz {n : Nat} {s : Str} {x : D} (h : x ∈ badRs n s) : Fz 60 x := by
  unfold badRs at h
  simp only [List.mem_cons, List.not_mem_nil, or_false] at h
  have ri : ∀ m, ∀ d ∈ rowD m, ∀ g, Fz g d := fun m d hd g => by
    obtain ⟨i, _, rfl⟩ := List.mem_map.mp hd
    exact fz_int _ _
  have one : ∀ m y, (∀ g, Fz g y) → Fz 60 (.tup (rowD m ++ [y])) := fun m y hy => fz_ints 59 _ fun d hd => by
    rcases List.mem_append.mp hd with hd | hd
    · exact ri _ d hd
    · rw [List.mem_singleton.mp hd]; exact hy
  rcases h with rfl | rfl | rfl | rfl | rfl | rfl | rfl | rfl | rfl | rfl | rfl | rfl | rfl | rfl
  · exact fz_non _
  · exact fz_lst fun d hd => ri _ d hd _
  · exact one _ _ fun g => fz_int g _
  · exact fz_ints 59 _ (ri _)
  · exact one _ _ fun g => fz_int g _
  · exact one _ _ fun g => fz_int g _
  · exact fun st n => rfl
  · exact fz_str _ _
  · exact one _ _ fun g => fz_non g
  · exact one _ _ fun g => fz_str g _
  · exact fz_tup fun d hd => by rw [List.mem_singleton.mp hd]; exact fz_ints 58 _ (ri _)
  · exact fz_int _ _
  · exact fz_ints 59 _ fun d hd => by rcases List.mem_append.mp hd with hd | hd <;> exact ri _ d hd
  · exact one _ _ fun g => fz_bl g _
theorem law_no_row_t {o : MO} {rest : Sto} (hw : WF (o :: rest)) (ho : HandO o) {n : Nat} (n1 : 1 ≤ n) (n7 : n ≤ 7) : ∃ o' x, HandO o' ∧ BadR n x ∧ F_law_no_row [.ref 0, .int (n : Int)] (o :: rest) = .ok x (o' :: rest) := by
  have z2 := sizeLine_eq
  obtain ⟨s, es⟩ : ∃ s : Str, ∀ st, bStr [.int ((n : Int) - 1)] st = .ok (.str s) st := ⟨_, fun st => by
    unfold bStr
    dsimp only
    rw [if_pos (by omega)]⟩
  obtain ⟨o', x, ho', hx, e⟩ := law_some_t hw ho (badRs n s) (by simp [badRs]) (by simp [badRs]) fun x hx => badRs_fz hx
  refine ⟨o', x, ho', badRs_ok n1 n7 hx, defFin_rt (ex := []) (st' := o' :: rest) ?_ rfl (wf_hand hw ho') (badRs_fz hx _ _)⟩
  rw [List.append_nil]
  have h0 : (startD 4 [.ref 0, .int (n : Int)])[0]? = some (some (.ref 0)) := rfl
  have h1 : (startD 4 [.ref 0, .int (n : Int)])[1]? = some (some (.int (n : Int))) := rfl
  have hl : (startD 4 [.ref 0, .int (n : Int)]).length = 4 := rfl
  generalize startD 4 [.ref 0, .int (n : Int)] = ρ at h0 h1 hl
  have rg : ∀ st, ((if (0 : Int) ≤ (n : Int) ∧ (n : Int) ≤ ((16777216 : Nat) : Int) then Out.ok (D.tup (rangeL 0 (Int.toNat (n : Int)))) st else Out.bad) : Out D) = .ok (.tup (rowD n)) st := fun st => by
    rw [if_pos (by omega), rangeL_0]
    unfold rowD intsR
    rw [List.map_map]
    rfl
  have cu : cutD (rowD n) none (some (-1)) = rowD (n - 1) := by
    rw [cut_m1, rowD_len]
    unfold rowD intsR
    rw [← List.map_take, ← List.map_take, List.take_range, show min (n - 1) n = n - 1 by omega]
  have bl : ∀ xs st, bList false [.tup xs] st = .ok (.lst xs) st := fun _ _ => rfl
  have f1 : ∀ m, m ≤ 7 → ∀ y st, fAdd (.tup (rowD m)) (.tup [y]) st = .ok (.tup (rowD m ++ [y])) st := fun m hm y st => fAdd_tup (by rw [rowD_len]; simp; omega)
  have f1n := f1 n n7
  have f1m := f1 (n - 1) (by omega)
  have f2 : ∀ st, fAdd (.tup (rowD n)) (.tup (rowD n)) st = .ok (.tup (rowD n ++ rowD n)) st := fun st => fAdd_tup (by rw [rowD_len]; omega)
  have hB : badRs n s = [.non, .lst (rowD n), .tup (rowD n ++ [.int (n : Int)]), .tup (rowD (n - 1)), .tup (rowD (n - 1) ++ [.int (-1)]), .tup (rowD (n - 1) ++ [.int (n : Int)]), .dk [] [], .str "0", .tup (rowD (n - 1) ++ [.non]), .tup (rowD (n - 1) ++ [.str s]), .tup [.tup (rowD n)], .int 0, .tup (rowD n ++ rowD n), .tup (rowD (n - 1) ++ [.bl true])] := rfl
  rw [hB] at e
  clear hB hx f1
  generalize rowD n = R at rg cu f1n f2 e
  generalize rowD (n - 1) = R1 at cu f1m e
  unfold b_law_no_row
  simp_arith! [h0, h1, hl, sTupR1_e, rg, cu, bl, f1n, f1m, f2, es, fAdd_lst3, List.cons_append, List.nil_append, e]
end Lw96
namespace Lw96
open PySem PD
variable {st : Sto}
theorem toPy_wordsR {l : Nat} (ws : List Str) (h : ws.all (fun w => PyData.canLay0 (.str w)) = true) (hs : st[l]? = some (.lst (ws.map D.str))) : toPy st 60 (.ref l) = some (.list (ws.map PyData.str)) := by
  show toPy st (59 + 1) (.ref l) = _
  rw [toPy]
  simp only [hs, List.map_map]
  rw [allSome_map (f := toPy st 59 ∘ D.str) (g := PyData.str) fun w hw => by
    have := List.all_eq_true.mp h w hw
    show atomPy (.str w) = _
    unfold atomPy
    dsimp only
    rw [if_pos this]]
  rfl
abbrev wordsK (k : Nat) : List Str := (List.replicate k (["table", "row"] : List Str)).flatten
theorem law_refused_right_t {o : MO} {rest : Sto} (hw : WF (o :: rest)) (ho : HandO o) {n : Nat} {f : Nat → Nat → Int} (v : TabP n f) (tr : Tri n f) : ∃ o', HandO o' ∧ F_law_refused_right [.ref 0, tabT n f] (o :: rest) = .ok (.bl true) (o' :: rest) := by
  have z2 := sizeLine_eq
  have body : ∃ (o' : MO) (ex : Sto), HandO o' ∧ b_law_refused_right (startD 6 [.ref 0, tabT n f]) (o :: rest) = some (.rt (.bl true), (o' :: rest) ++ ex) := by
    have h0 : (startD 6 [.ref 0, tabT n f])[0]? = some (some (.ref 0)) := rfl
    have h1 : (startD 6 [.ref 0, tabT n f])[1]? = some (some (tabT n f)) := rfl
    have hl : (startD 6 [.ref 0, tabT n f]).length = 6 := rfl
    generalize startD 6 [.ref 0, tabT n f] = ρ at h0 h1 hl
    obtain ⟨o1, x1, ho1, bad, e1⟩ := law_no_table_t hw ho
    obtain ⟨o2, x2, ho2, odd, e2⟩ := law_no_row_t (wf_hand hw ho1) ho1 v.n1 v.n7
    have hw2 := wf_hand hw ho2
    unfold b_law_refused_right
    rw [qSeq_e]
    have s1 : qAsg (gT2 (gN 2) (gN 3)) (sTup (aCons (sCall 1 F_law_no_table (aCons (sVar 0) aNil)) (aCons (sCall 2 F_law_no_row (aCons (sVar 0) (aCons (sB bLen (aCons (sVar 1) aNil)) aNil))) aNil))) ρ (o :: rest) = some (.nx ((ρ.set 2 (some x1)).set 3 (some x2)), o2 :: rest) := by
      simp_arith! [h0, h1, e1, List.length_range, e2]
    have s2 : qSet 4 (sLst true aNil) ((ρ.set 2 (some x1)).set 3 (some x2)) (o2 :: rest) = some (.nx (((ρ.set 2 (some x1)).set 3 (some x2)).set 4 (some (.ref (rest.length + 1)))), o2 :: (rest ++ [.lst []])) := by
      simp_arith! []
      rfl
    rw [s1, then_nx, qSeq_e, s2, then_nx]
    simp_arith! [iSeq_e]
    generalize hL : loopFor _ _ _ _ _ _ _ _ = R
    obtain ⟨ρ', st', rfl, q, hd, jl, j1, j2, j3, j4, rfl⟩ := for_all_e hL (["nearest_rising", "over_by", "falls"] : List Str) D.fn rfl (by simp) (fun rr ρ st' => ∃ q : List Str, (["nearest_rising", "over_by", "falls"] : List Str) = q ++ rr ∧ ρ.length = 6 ∧ ρ[1]? = some (some (tabT n f)) ∧ ρ[2]? = some (some x1) ∧ ρ[3]? = some (some x2) ∧ ρ[4]? = some (some (.ref (rest.length + 1))) ∧ st' = o2 :: (rest ++ [.lst ((wordsK q.length).map D.str)])) (fun _ _ _ _ => still_none _ _) ⟨[], rfl, by simp_arith! [hl], by simp_arith! [h1], by simp_arith! [hl], by simp_arith! [hl], by simp_arith! [hl], rfl⟩ (by
      rintro x rr ρ st' ⟨q, hd, jl, j1, j2, j3, j4, rfl⟩
      have hx : x ∈ (["nearest_rising", "over_by", "falls"] : List Str) := by rw [hd]; simp
      have ql : q.length ≤ 3 := by
        have := congrArg List.length hd
        rw [List.length_append] at this
        simp at this
        omega
      have wk : (wordsK q.length).length ≤ 6 := by
        unfold wordsK
        rw [List.length_flatten, List.map_replicate]
        simp
        omega
      have wfT : ∀ ws : List Str, WF (o2 :: (rest ++ [.lst (ws.map D.str)])) := fun ws => wf_append (wf_hand hw ho2) fun y hy m => by
        rw [List.mem_singleton.mp hy]
        exact noRefs_all fun d hd => by
          obtain ⟨w, _, rfl⟩ := List.mem_map.mp hd
          rfl
      have g4 : ∀ ws : List Str, (o2 :: (rest ++ [MO.lst (ws.map D.str)]))[rest.length + 1]? = some (.lst (ws.map D.str)) := fun ws => sto_get1 (o2 :: rest) _
      have fA : ∀ (ws : List Str) (w : Str), ws.length ≤ 10 → fAppend (.ref (rest.length + 1)) (.str w) (o2 :: (rest ++ [.lst (ws.map D.str)])) = .ok .non (o2 :: (rest ++ [.lst ((ws ++ [w]).map D.str)])) := fun ws w hl => by
        rw [fAppend_ref (g4 ws) (by rw [List.length_map]; omega)]
        have := sto_set1 (o2 :: rest) (MO.lst (ws.map D.str)) (MO.lst (ws.map D.str ++ [D.str w]))
        rw [List.map_append]
        exact congrArg (Out.ok D.non) this
      have k2 : ∀ (ws : List Str) (y1 y2 : D) (k : Str) (ρ : Ev) (i1 i2 : Nat), ρ[5]? = some (some (.fn x)) → ρ[i1]? = some (some y1) → ρ[i2]? = some (some y2) → F_check_row [y1, y2] (o2 :: (rest ++ [.lst (ws.map D.str)])) = .exc k [] (o2 :: (rest ++ [.lst (ws.map D.str)])) → sCallV [("nearest_rising", 2, F_nearest_rising), ("over_by", 2, F_over_by), ("falls", 2, F_falls)] 2 5 (aCons (sVar i1) (aCons (sVar i2) aNil)) ρ (o2 :: (rest ++ [.lst (ws.map D.str)])) = .exc k [] (o2 :: (rest ++ [.lst (ws.map D.str)])) := fun ws y1 y2 k ρ i1 i2 a b c hc => by
        have as : aCons (sVar i1) (aCons (sVar i2) aNil) ρ (o2 :: (rest ++ [.lst (ws.map D.str)])) = .ok [y1, y2] (o2 :: (rest ++ [.lst (ws.map D.str)])) := by simp_arith! [b, c]
        simp only [List.mem_cons, List.not_mem_nil, or_false] at hx
        rcases hx with rfl | rfl | rfl
        · exact (callV_f (x := "nearest_rising") a rfl as rfl).trans (ref_nearest (wfT ws) hc)
        · exact (callV_f (x := "over_by") a rfl as rfl).trans (ref_over (wfT ws) hc)
        · exact (callV_f (x := "falls") a rfl as rfl).trans (ref_falls (wfT ws) hc)
      have l1 := fun ws => lam_table (k2 ws x1 x2 "NoTable" (ρ.set 5 (some (.fn x))) 2 3 (by simp_arith! [jl]) (by simp_arith! [j2]) (by simp_arith! [j3]) (row_badT (wfT ws) bad))
      have l2 := fun ws => lam_row (k2 ws (tabT n f) x2 "NoRow" (ρ.set 5 (some (.fn x))) 1 3 (by simp_arith! [jl]) (by simp_arith! [j1]) (by simp_arith! [j3]) (row_badR (wfT ws) v tr odd))
      refine ⟨_, rfl, ρ.set 5 (some (.fn x)), _, .inl ?_, q ++ [x], by rw [hd]; simp, by simp_arith! [jl], by simp_arith! [j1], by simp_arith! [j2], by simp_arith! [j3], by simp_arith! [j4], rfl⟩
      simp_arith! [j4, litems_ref (g4 _), l1, fA _ _ (show (wordsK q.length).length ≤ 10 by omega), l2, fA (wordsK q.length ++ (["table"] : List Str)) "row" (by rw [List.length_append]; simp; omega)]
      rw [List.length_append, List.length_singleton]
      congr 6
      unfold wordsK
      rw [List.replicate_succ', List.flatten_append]
      simp)
    have hq : q.length = 3 := by
      have := congrArg List.length hd
      rw [List.append_nil] at this
      exact this.symm
    rw [hq]
    refine ⟨o2, [.lst ((wordsK 3).map D.str)], ho2, ?_⟩
    have g4 : (o2 :: (rest ++ [MO.lst ((wordsK 3).map D.str)]))[rest.length + 1]? = some (.lst ((wordsK 3).map D.str)) := sto_get1 (o2 :: rest) _
    have fr : ∀ st, fRep false (.lst [.str "table", .str "row"]) (.int 3) st = .ok (.lst ((wordsK 3).map D.str)) st := fun st => by
      unfold fRep
      simp only [litems_lst]
      rw [if_pos (by refine ⟨by omega, by omega, ?_⟩; simp; omega), newL_f]
      rfl
    have eq : fEq (.ref (rest.length + 1)) (.lst ((wordsK 3).map D.str)) (o2 :: (rest ++ [.lst ((wordsK 3).map D.str)])) = .ok (.bl true) (o2 :: (rest ++ [.lst ((wordsK 3).map D.str)])) := by
      have c : (wordsK 3).all (fun w => PyData.canLay0 (.str w)) = true := by decide +kernel
      unfold fEq
      rw [toPy_wordsR (wordsK 3) c g4, toPy_mapL _ 59 (wordsK 3) D.str PyData.str fun w hw => by
        have := List.all_eq_true.mp c w hw
        show atomPy (.str w) = _
        unfold atomPy
        dsimp only
        rw [if_pos this]]
      have e : PyData.eqv (.list ((wordsK 3).map PyData.str)) (.list ((wordsK 3).map PyData.str)) = true := by decide +kernel
      simp only [e]
    simp_arith! [j4, fr, eq]
    rfl
  obtain ⟨o', ex, h1, h2⟩ := body
  exact ⟨o', h1, defFin_rt h2 rfl (wf_hand hw h1) (fz_bl _ _ _ _)⟩
/-! ### the fixed table -/
def f0 (i j : Nat) : Int := if i = j then 0 else if i + j = 1 then 2 else 1
def fD (i j : Nat) : Int := if i = j then 0 else if i + j = 3 then 1 else 2
theorem f0_tab : TabP 3 f0 := by
  have h : (List.range 3).all (fun i => (List.range 3).all fun j => decide (0 ≤ f0 i j ∧ f0 i j ≤ 1000 ∧ (f0 i j = 0 ↔ i = j) ∧ f0 i j = f0 j i)) = true := by decide +kernel
  have g : ∀ i j, i < 3 → j < 3 → 0 ≤ f0 i j ∧ f0 i j ≤ 1000 ∧ (f0 i j = 0 ↔ i = j) ∧ f0 i j = f0 j i := fun i j hi hj => of_decide_eq_true (List.all_eq_true.mp (List.all_eq_true.mp h i (List.mem_range.mpr hi)) j (List.mem_range.mpr hj))
  exact ⟨by omega, by omega, fun i j hi hj => ⟨(g i j hi hj).1, (g i j hi hj).2.1⟩, fun i j hi hj => (g i j hi hj).2.2.1, fun i j hi hj => (g i j hi hj).2.2.2⟩
theorem f0_tri : Tri 3 f0 := fun i j k hi hj hk => by
  have h : (List.range 3).all (fun i => (List.range 3).all fun j => (List.range 3).all fun k => decide (f0 i k ≤ f0 i j + f0 j k)) = true := by decide +kernel
  exact of_decide_eq_true (List.all_eq_true.mp (List.all_eq_true.mp (List.all_eq_true.mp h i (List.mem_range.mpr hi)) j (List.mem_range.mpr hj)) k (List.mem_range.mpr hk))
theorem r012 : RowP 3 [0, 1, 2] := ⟨by decide⟩
theorem due012 : tabT 3 (dueF f0 [0, 1, 2]) = tabT 3 fD := by
  have h : (List.range 3).all (fun i => (List.range 3).all fun j => decide (dueF f0 [0, 1, 2] i j = fD i j)) = true := by decide +kernel
  exact tabT_congr fun i j hi hj => of_decide_eq_true (List.all_eq_true.mp (List.all_eq_true.mp h i (List.mem_range.mpr hi)) j (List.mem_range.mpr hj))
theorem off012 : offN 3 f0 [0, 1, 2] = 1 := by decide +kernel
theorem best1 : bestA (offN 3 f0) (permsR 3 3) = [0, 2, 1] ∧ offN 3 f0 [0, 2, 1] = 0 := by decide +kernel
theorem best2 : bestA (fallsN 3 f0) (permsR 3 3) = [0, 2, 1] ∧ fallsN 3 f0 [0, 2, 1] = 0 := by decide +kernel
def cz : List Nat → Int := fun _ => 0
theorem pair1 : pairC (offN 3 f0) (bestA (offN 3 f0) (permsR 3 3)) = pairC cz [0, 2, 1] := by
  rw [best1.1]
  unfold pairC
  rw [best1.2]
  rfl
theorem pair2 : pairC (fallsN 3 f0) (bestA (fallsN 3 f0) (permsR 3 3)) = pairC cz [0, 2, 1] := by
  rw [best2.1]
  unfold pairC
  rw [best2.2]
  rfl
theorem last_is (hw : WF st) : F_law_is [.lst [tabT 3 fD, .int 1, pairC cz [0, 2, 1], pairC cz [0, 2, 1]], .lst [tabT 3 fD, .int 1, pairC cz [0, 2, 1], pairC cz [0, 2, 1]]] st = .ok (.bl true) st := by
  refine law_is_t hw (p := .list [tabP 3 fD, .int 1, pairP cz [0, 2, 1], pairP cz [0, 2, 1]]) (W := 10000) ?_ ?_ (by omega)
  · rw [toPy]
    simp only [List.map_cons, List.map_nil, toPy_int, toPy_tabT st 57, toPy_pairC st 57, allSome]
    rfl
  · have t := sm_tab (n := 3) (f := fD) (by omega) fun i j _ _ => by
      unfold fD
      split
      · omega
      · split <;> omega
    have p : Sm 400 (pairP cz [0, 2, 1]) := sm_pair (c := cz) (w := [0, 2, 1]) (by decide) (by decide) (by decide) (by decide)
    refine sm_list (W := 1200) (fun x hx => ?_) (by simp)
    simp only [List.mem_cons, List.not_mem_nil, or_false] at hx
    rcases hx with rfl | rfl | rfl | rfl
    · exact t
    · exact (sm_int (by omega) (by omega)).up (by omega)
    · exact p.up (by omega)
    · exact p.up (by omega)
theorem law_plain (ns : List Int) (hn : ns.length ≤ 63) : ∃ st', F_law [.fz (ns.map D.int)] [] = .ok (.bl true) st' := by
  have z2 := sizeLine_eq
  obtain ⟨o, ho, eh⟩ := hand_t ns hn
  have body : ∃ ex, b_law (startD 5 [.fz (ns.map D.int)]) [] = some (.rt (.bl true), [] ++ ex) := by
    have h0 : (startD 5 [.fz (ns.map D.int)])[0]? = some (some (.fz (ns.map D.int))) := rfl
    have hl : (startD 5 [.fz (ns.map D.int)]).length = 5 := rfl
    generalize startD 5 [.fz (ns.map D.int)] = ρ at h0 hl
    have hw0 : WF [o] := by
      obtain ⟨cs, p, q, r, k, rfl, _⟩ := ho
      exact WF.app WF.nil (noRef_hand _ cs p q r k)
    unfold b_law
    rw [qSeq_e]
    have s1 : qSet 1 (sCall 1 F_law_hand (aCons (sVar 0) aNil)) ρ [] = some (.nx (ρ.set 1 (some (.ref 0))), [o]) := by simp_arith! [h0, eh]
    rw [s1, then_nx, qSeq_e, qFor_e, iRange_n (n := 2) (by simp_arith! []; rfl)]
    simp_arith! []
    generalize hL : loopFor _ _ _ _ _ _ _ _ = R
    obtain ⟨ρ', st', rfl, o1, ho1, jl, j1, rfl⟩ := for_all_e hL (List.range 2) (fun i : Nat => D.int (i : Int)) rfl (by simp) (fun _ ρ st' => ∃ o, HandO o ∧ ρ.length = 5 ∧ ρ[1]? = some (some (.ref 0)) ∧ st' = [o]) (fun _ _ _ _ => still_none _ _) ⟨o, ho, by simp_arith! [hl], by simp_arith! [hl], rfl⟩ (by
      rintro x rr ρ st' ⟨o2, ho2, jl, j1, rfl⟩
      have hw2 : WF (o2 :: ([] : Sto)) := wf_hand hw0 ho2
      obtain ⟨o3, n, f, ho3, v, tr, n5, e3⟩ := drawn_table_t hw2 ho2 (m := 5) (by omega) (by omega)
      have e3 : F_law_drawn_table [.ref 0, .int 5] [o2] = .ok (tabT n f) [o3] := e3
      obtain ⟨o4, ho4, e4⟩ := law_case_right_t (wf_hand hw2 ho3) ho3 n5 v tr
      obtain ⟨o5, ho5, e5⟩ := law_refused_right_t (wf_hand hw2 ho4) ho4 v tr
      exact ⟨_, rfl, (ρ.set 2 (some (.int (x : Int)))).set 3 (some (tabT n f)), [o5], .inl (by simp_arith! [jl, j1, e3, e4, e5]), o5, ho5, by simp_arith! [jl], by simp_arith! [j1], rfl⟩)
    have hw1 : WF [o1] := wf_hand hw0 ho1
    have nr := nearest_rising_t hw1 f0_tab f0_tri r012
    have ob := over_by_t hw1 f0_tab f0_tri r012
    have lo := least_over_T hw1 (by omega) f0_tab f0_tri
    have ff := fewest_falls_T hw1 (by omega) f0_tab f0_tri
    rw [due012] at nr
    rw [off012] at ob
    rw [pair1] at lo
    rw [pair2] at ff
    have nr : F_nearest_rising [.tup [.tup [.int 0, .int 2, .int 1], .tup [.int 2, .int 0, .int 1], .tup [.int 1, .int 1, .int 0]], .tup [.int 0, .int 1, .int 2]] [o1] = .ok (tabT 3 fD) [o1] := nr
    have ob : F_over_by [.tup [.tup [.int 0, .int 2, .int 1], .tup [.int 2, .int 0, .int 1], .tup [.int 1, .int 1, .int 0]], .tup [.int 0, .int 1, .int 2]] [o1] = .ok (.int 1) [o1] := ob
    have lo : F_least_over [.tup [.tup [.int 0, .int 2, .int 1], .tup [.int 2, .int 0, .int 1], .tup [.int 1, .int 1, .int 0]]] [o1] = .ok (pairC cz [0, 2, 1]) [o1] := lo
    have ff : F_fewest_falls [.tup [.tup [.int 0, .int 2, .int 1], .tup [.int 2, .int 0, .int 1], .tup [.int 1, .int 1, .int 0]]] [o1] = .ok (pairC cz [0, 2, 1]) [o1] := ff
    have li := last_is hw1
    have li : F_law_is [.lst [tabT 3 fD, .int 1, pairC cz [0, 2, 1], pairC cz [0, 2, 1]], .lst [.tup [.tup [.int 0, .int 2, .int 2], .tup [.int 2, .int 0, .int 1], .tup [.int 2, .int 1, .int 0]], .int 1, .tup [.int 0, .tup [.int 0, .int 2, .int 1]], .tup [.int 0, .tup [.int 0, .int 2, .int 1]]]] [o1] = .ok (.bl true) [o1] := li
    exact ⟨[o1], by simp_arith! [jl, nr, ob, lo, ff, li]; rfl⟩
  obtain ⟨ex, h⟩ := body
  exact ⟨[], defFin_rt h rfl WF.nil (fz_bl _ _ _ _)⟩
end Lw96
namespace Lw96
open PySem PySem.Spec PyProof.Rows L2 PD
def topS (i : Nat) : Stmt := PySem.Challenge.pw_farhouse_k96_whole_rows_that_nearly_rise.main.body.getD i (.Pass ⟨0, 0, 0, 0⟩)
abbrev s_is_integer : Stmt := topS 1
abbrev s_is_within : Stmt := topS 2
abbrev s_is_sized : Stmt := topS 3
abbrev s_is_table : Stmt := topS 12
abbrev s_check_table : Stmt := topS 13
abbrev s_short_triple : Stmt := topS 14
abbrev s_check_sound : Stmt := topS 15
abbrev s_falls_of : Stmt := topS 19
abbrev s_all_rows : Stmt := topS 22
abbrev s_fewest_falls : Stmt := topS 23
abbrev s_is_row : Stmt := topS 17
abbrev s_check_row : Stmt := topS 18
abbrev s_raised_table : Stmt := topS 24
abbrev s_nearest_rising : Stmt := topS 25
abbrev s_raised_by : Stmt := topS 26
abbrev s_over_by : Stmt := topS 27
abbrev s_least_over : Stmt := topS 28
abbrev s_law_hand : Stmt := topS 30
abbrev s_law_is : Stmt := topS 34
abbrev s_law_draw : Stmt := topS 31
abbrev s_law_some : Stmt := topS 32
abbrev s_law_mixed : Stmt := topS 33
abbrev s_law_closed : Stmt := topS 35
abbrev s_law_of_pairs : Stmt := topS 36
abbrev s_law_any_table : Stmt := topS 37
abbrev s_law_cuts : Stmt := topS 38
abbrev s_law_sum_of_cuts : Stmt := topS 40
abbrev s_law_parts : Stmt := topS 39
abbrev s_law_table_of : Stmt := topS 41
abbrev s_law_table : Stmt := topS 42
abbrev s_law_renamed : Stmt := topS 43
abbrev s_law_drawn_table : Stmt := topS 47
abbrev s_law_rows : Stmt := topS 45
abbrev s_law_falls : Stmt := topS 46
abbrev s_law_nearest : Stmt := topS 49
abbrev s_law_off_by : Stmt := topS 50
abbrev s_does_rise : Stmt := topS 20
abbrev s_falls : Stmt := topS 21
abbrev s_law_row_right : Stmt := topS 51
abbrev s_law_case_right : Stmt := topS 52
abbrev s_law_no_table : Stmt := topS 44
abbrev s_law_no_row : Stmt := topS 48
abbrev s_law_word : Stmt := topS 53
abbrev s_law_refused_right : Stmt := topS 54
abbrev s_law : Stmt := topS 55
theorem sc_is_integer : FnScope ["thing"] ["thing"] (defScope s_is_integer) := ⟨rfl, rfl, rfl, by decide +kernel, rfl, by decide +kernel, by decide +kernel⟩
theorem sc_is_within : FnScope ["thing", "low", "high"] ["thing", "low", "high"] (defScope s_is_within) := ⟨rfl, rfl, rfl, by decide +kernel, rfl, by decide +kernel, by decide +kernel⟩
theorem sc_is_sized : FnScope ["thing", "low", "high"] ["thing", "low", "high"] (defScope s_is_sized) := ⟨rfl, rfl, rfl, by decide +kernel, rfl, by decide +kernel, by decide +kernel⟩
theorem sc_is_table : FnScope ["thing", "i", "row", "one", "j"] ["thing"] (defScope s_is_table) := ⟨rfl, rfl, rfl, by decide +kernel, rfl, by decide +kernel, by decide +kernel⟩
theorem sc_check_table : FnScope ["thing"] ["thing"] (defScope s_check_table) := ⟨rfl, rfl, rfl, by decide +kernel, rfl, by decide +kernel, by decide +kernel⟩
theorem sc_short_triple : FnScope ["table", "places", "i", "j", "k"] ["table"] (defScope s_short_triple) := ⟨rfl, rfl, rfl, by decide +kernel, rfl, by decide +kernel, by decide +kernel⟩
theorem sc_check_sound : FnScope ["table"] ["table"] (defScope s_check_sound) := ⟨rfl, rfl, rfl, by decide +kernel, rfl, by decide +kernel, by decide +kernel⟩
theorem sc_falls_of : FnScope ["table", "row", "found", "a", "b", "c", "far"] ["table", "row"] (defScope s_falls_of) := ⟨rfl, rfl, rfl, by decide +kernel, rfl, by decide +kernel, by decide +kernel⟩
theorem sc_all_rows : FnScope ["n", "found", "turn", "longer", "row", "place"] ["n"] (defScope s_all_rows) := ⟨rfl, rfl, rfl, by decide +kernel, rfl, by decide +kernel, by decide +kernel⟩
theorem sc_fewest_falls : FnScope ["table", "row"] ["table"] (defScope s_fewest_falls) := ⟨rfl, rfl, rfl, by decide +kernel, rfl, by decide +kernel, by decide +kernel⟩
theorem sc_is_row : FnScope ["n", "thing", "one"] ["n", "thing"] (defScope s_is_row) := ⟨rfl, rfl, rfl, by decide +kernel, rfl, by decide +kernel, by decide +kernel⟩
theorem sc_check_row : FnScope ["table", "row"] ["table", "row"] (defScope s_check_row) := ⟨rfl, rfl, rfl, by decide +kernel, rfl, by decide +kernel, by decide +kernel⟩
theorem sc_raised_table : FnScope ["table", "row", "n", "found", "place", "width", "a", "i", "j", "most", "line"] ["table", "row"] (defScope s_raised_table) := ⟨rfl, rfl, rfl, by decide +kernel, rfl, by decide +kernel, by decide +kernel⟩
theorem sc_nearest_rising : FnScope ["table", "row"] ["table", "row"] (defScope s_nearest_rising) := ⟨rfl, rfl, rfl, by decide +kernel, rfl, by decide +kernel, by decide +kernel⟩
theorem sc_raised_by : FnScope ["table", "row", "other", "line", "old", "one", "two"] ["table", "row"] (defScope s_raised_by) := ⟨rfl, rfl, rfl, by decide +kernel, rfl, by decide +kernel, by decide +kernel⟩
theorem sc_over_by : FnScope ["table", "row"] ["table", "row"] (defScope s_over_by) := ⟨rfl, rfl, rfl, by decide +kernel, rfl, by decide +kernel, by decide +kernel⟩
theorem sc_least_over : FnScope ["table", "row"] ["table"] (defScope s_least_over) := ⟨rfl, rfl, rfl, by decide +kernel, rfl, by decide +kernel, by decide +kernel⟩
theorem sc_law_hand : FnScope ["script", "cells", "cell"] ["script"] (defScope s_law_hand) := ⟨rfl, rfl, rfl, by decide +kernel, rfl, by decide +kernel, by decide +kernel⟩
theorem sc_law_is : FnScope ["said", "due"] ["said", "due"] (defScope s_law_is) := ⟨rfl, rfl, rfl, by decide +kernel, rfl, by decide +kernel, by decide +kernel⟩
theorem sc_law_draw : FnScope ["hand", "many", "cell", "digit", "number"] ["hand", "many"] (defScope s_law_draw) := ⟨rfl, rfl, rfl, by decide +kernel, rfl, by decide +kernel, by decide +kernel⟩
theorem sc_law_some : FnScope ["hand", "things"] ["hand", "things"] (defScope s_law_some) := ⟨rfl, rfl, rfl, by decide +kernel, rfl, by decide +kernel, by decide +kernel⟩
theorem sc_law_mixed : FnScope ["hand", "things", "left", "found"] ["hand", "things"] (defScope s_law_mixed) := ⟨rfl, rfl, rfl, by decide +kernel, rfl, by decide +kernel, by decide +kernel⟩
theorem sc_law_closed : FnScope ["rows", "found", "many", "j", "i", "k", "row"] ["rows"] (defScope s_law_closed) := ⟨rfl, rfl, rfl, by decide +kernel, rfl, by decide +kernel, by decide +kernel⟩
theorem sc_law_of_pairs : FnScope ["many", "numbers", "found", "at", "i", "j", "place", "row"] ["many", "numbers"] (defScope s_law_of_pairs) := ⟨rfl, rfl, rfl, by decide +kernel, rfl, by decide +kernel, by decide +kernel⟩
theorem sc_law_any_table : FnScope ["hand", "many", "high", "pair"] ["hand", "many", "high"] (defScope s_law_any_table) := ⟨rfl, rfl, rfl, by decide +kernel, rfl, by decide +kernel, by decide +kernel⟩
theorem sc_law_cuts : FnScope ["many", "found", "place", "lot"] ["many"] (defScope s_law_cuts) := ⟨rfl, rfl, rfl, by decide +kernel, rfl, by decide +kernel, by decide +kernel⟩
theorem sc_law_sum_of_cuts : FnScope ["hand", "many", "found", "every", "turn", "place"] ["hand", "many"] (defScope s_law_sum_of_cuts) := ⟨rfl, rfl, rfl, by decide +kernel, rfl, by decide +kernel, by decide +kernel⟩
theorem sc_law_parts : FnScope ["cut", "i", "j"] ["cut", "i", "j"] (defScope s_law_parts) := ⟨rfl, rfl, rfl, by decide +kernel, rfl, by decide +kernel, by decide +kernel⟩
theorem sc_law_table_of : FnScope ["many", "cuts", "numbers", "i", "j", "cut"] ["many", "cuts"] (defScope s_law_table_of) := ⟨rfl, rfl, rfl, by decide +kernel, rfl, by decide +kernel, by decide +kernel⟩
theorem sc_law_table : FnScope ["hand", "most", "many", "kind", "spots", "one", "other", "pair"] ["hand", "most"] (defScope s_law_table) := ⟨rfl, rfl, rfl, by decide +kernel, rfl, by decide +kernel, by decide +kernel⟩
theorem sc_law_renamed : FnScope ["table", "names", "many", "back", "place", "i", "j"] ["table", "names"] (defScope s_law_renamed) := ⟨rfl, rfl, rfl, by decide +kernel, rfl, by decide +kernel, by decide +kernel⟩
theorem sc_law_drawn_table : FnScope ["hand", "most", "many", "rows", "gap", "i", "near", "j", "high", "wide", "place", "row"] ["hand", "most"] (defScope s_law_drawn_table) := ⟨rfl, rfl, rfl, by decide +kernel, rfl, by decide +kernel, by decide +kernel⟩
theorem sc_law_rows : FnScope ["many", "found", "turn", "longer", "row", "place"] ["many"] (defScope s_law_rows) := ⟨rfl, rfl, rfl, by decide +kernel, rfl, by decide +kernel, by decide +kernel⟩
theorem sc_law_falls : FnScope ["table", "row", "found", "a", "b", "c", "i", "j", "k"] ["table", "row"] (defScope s_law_falls) := ⟨rfl, rfl, rfl, by decide +kernel, rfl, by decide +kernel, by decide +kernel⟩
theorem sc_law_nearest : FnScope ["table", "row", "many", "rows", "a", "b", "inner", "x", "place", "y", "line"] ["table", "row"] (defScope s_law_nearest) := ⟨rfl, rfl, rfl, by decide +kernel, rfl, by decide +kernel, by decide +kernel⟩
theorem sc_law_off_by : FnScope ["table", "row", "near", "line", "plain", "one", "other"] ["table", "row"] (defScope s_law_off_by) := ⟨rfl, rfl, rfl, by decide +kernel, rfl, by decide +kernel, by decide +kernel⟩
theorem sc_does_rise : FnScope ["table", "row"] ["table", "row"] (defScope s_does_rise) := ⟨rfl, rfl, rfl, by decide +kernel, rfl, by decide +kernel, by decide +kernel⟩
theorem sc_falls : FnScope ["table", "row"] ["table", "row"] (defScope s_falls) := ⟨rfl, rfl, rfl, by decide +kernel, rfl, by decide +kernel, by decide +kernel⟩
theorem sc_law_row_right : FnScope ["hand", "table", "row", "due", "told", "higher", "i", "j", "rows", "line"] ["hand", "table", "row"] (defScope s_law_row_right) := ⟨rfl, rfl, rfl, by decide +kernel, rfl, by decide +kernel, by decide +kernel⟩
theorem sc_law_case_right : FnScope ["hand", "table", "every", "least", "over", "some", "row", "turn"] ["hand", "table"] (defScope s_law_case_right) := ⟨rfl, rfl, rfl, by decide +kernel, rfl, by decide +kernel, by decide +kernel⟩
theorem sc_law_no_table : FnScope ["hand", "some", "j", "i"] ["hand"] (defScope s_law_no_table) := ⟨rfl, rfl, rfl, by decide +kernel, rfl, by decide +kernel, by decide +kernel⟩
theorem sc_law_no_row : FnScope ["hand", "many", "row", "some"] ["hand", "many"] (defScope s_law_no_row) := ⟨rfl, rfl, rfl, by decide +kernel, rfl, by decide +kernel, by decide +kernel⟩
theorem sc_law_word : FnScope ["call", "error", "flags"] ["call"] (defScope s_law_word) := ⟨rfl, rfl, rfl, by decide +kernel, rfl, by decide +kernel, by decide +kernel⟩
theorem sc_law_refused_right : FnScope ["hand", "table", "bad", "odd", "told", "call"] ["hand", "table"] (defScope s_law_refused_right) := ⟨rfl, rfl, rfl, by decide +kernel, rfl, by decide +kernel, by decide +kernel⟩
theorem sc_law : FnScope ["script", "hand", "go", "table", "told"] ["script"] (defScope s_law) := ⟨rfl, rfl, rfl, by decide +kernel, rfl, by decide +kernel, by decide +kernel⟩
structure Tx (K : PySem.W.Frag) (mg : Str → Option Value) where
  a_is_integer : Addr
  d_is_integer : FuncData
  F_is_integer : Fun K "is_integer" "is_integer" s_is_integer a_is_integer d_is_integer
  b_is_integer : Binds K d_is_integer ["thing"] []
  m_is_integer : mg "is_integer" = some (.ref a_is_integer)
  a_is_within : Addr
  d_is_within : FuncData
  F_is_within : Fun K "is_within" "is_within" s_is_within a_is_within d_is_within
  b_is_within : Binds K d_is_within ["thing", "low", "high"] []
  m_is_within : mg "is_within" = some (.ref a_is_within)
  a_is_sized : Addr
  d_is_sized : FuncData
  F_is_sized : Fun K "is_sized" "is_sized" s_is_sized a_is_sized d_is_sized
  b_is_sized : Binds K d_is_sized ["thing", "low", "high"] []
  m_is_sized : mg "is_sized" = some (.ref a_is_sized)
  a_is_table : Addr
  d_is_table : FuncData
  F_is_table : Fun K "is_table" "is_table" s_is_table a_is_table d_is_table
  b_is_table : Binds K d_is_table ["thing"] []
  m_is_table : mg "is_table" = some (.ref a_is_table)
  a_check_table : Addr
  d_check_table : FuncData
  F_check_table : Fun K "check_table" "check_table" s_check_table a_check_table d_check_table
  b_check_table : Binds K d_check_table ["thing"] []
  m_check_table : mg "check_table" = some (.ref a_check_table)
  a_short_triple : Addr
  d_short_triple : FuncData
  F_short_triple : Fun K "short_triple" "short_triple" s_short_triple a_short_triple d_short_triple
  b_short_triple : Binds K d_short_triple ["table"] []
  m_short_triple : mg "short_triple" = some (.ref a_short_triple)
  a_check_sound : Addr
  d_check_sound : FuncData
  F_check_sound : Fun K "check_sound" "check_sound" s_check_sound a_check_sound d_check_sound
  b_check_sound : Binds K d_check_sound ["table"] []
  m_check_sound : mg "check_sound" = some (.ref a_check_sound)
  a_falls_of : Addr
  d_falls_of : FuncData
  F_falls_of : Fun K "falls_of" "falls_of" s_falls_of a_falls_of d_falls_of
  b_falls_of : Binds K d_falls_of ["table", "row"] []
  m_falls_of : mg "falls_of" = some (.ref a_falls_of)
  a_all_rows : Addr
  d_all_rows : FuncData
  F_all_rows : Fun K "all_rows" "all_rows" s_all_rows a_all_rows d_all_rows
  b_all_rows : Binds K d_all_rows ["n"] []
  m_all_rows : mg "all_rows" = some (.ref a_all_rows)
  a_fewest_falls : Addr
  d_fewest_falls : FuncData
  F_fewest_falls : Fun K "fewest_falls" "fewest_falls" s_fewest_falls a_fewest_falls d_fewest_falls
  b_fewest_falls : Binds K d_fewest_falls ["table"] []
  m_fewest_falls : mg "fewest_falls" = some (.ref a_fewest_falls)
  a_is_row : Addr
  d_is_row : FuncData
  F_is_row : Fun K "is_row" "is_row" s_is_row a_is_row d_is_row
  b_is_row : Binds K d_is_row ["n", "thing"] []
  m_is_row : mg "is_row" = some (.ref a_is_row)
  a_check_row : Addr
  d_check_row : FuncData
  F_check_row : Fun K "check_row" "check_row" s_check_row a_check_row d_check_row
  b_check_row : Binds K d_check_row ["table", "row"] []
  m_check_row : mg "check_row" = some (.ref a_check_row)
  a_raised_table : Addr
  d_raised_table : FuncData
  F_raised_table : Fun K "raised_table" "raised_table" s_raised_table a_raised_table d_raised_table
  b_raised_table : Binds K d_raised_table ["table", "row"] []
  m_raised_table : mg "raised_table" = some (.ref a_raised_table)
  a_nearest_rising : Addr
  d_nearest_rising : FuncData
  F_nearest_rising : Fun K "nearest_rising" "nearest_rising" s_nearest_rising a_nearest_rising d_nearest_rising
  b_nearest_rising : Binds K d_nearest_rising ["table", "row"] []
  m_nearest_rising : mg "nearest_rising" = some (.ref a_nearest_rising)
  a_raised_by : Addr
  d_raised_by : FuncData
  F_raised_by : Fun K "raised_by" "raised_by" s_raised_by a_raised_by d_raised_by
  b_raised_by : Binds K d_raised_by ["table", "row"] []
  m_raised_by : mg "raised_by" = some (.ref a_raised_by)
  a_over_by : Addr
  d_over_by : FuncData
  F_over_by : Fun K "over_by" "over_by" s_over_by a_over_by d_over_by
  b_over_by : Binds K d_over_by ["table", "row"] []
  m_over_by : mg "over_by" = some (.ref a_over_by)
  a_least_over : Addr
  d_least_over : FuncData
  F_least_over : Fun K "least_over" "least_over" s_least_over a_least_over d_least_over
  b_least_over : Binds K d_least_over ["table"] []
  m_least_over : mg "least_over" = some (.ref a_least_over)
  a_law_hand : Addr
  d_law_hand : FuncData
  F_law_hand : Fun K "_law_hand" "_law_hand" s_law_hand a_law_hand d_law_hand
  b_law_hand : Binds K d_law_hand ["script"] []
  m_law_hand : mg "_law_hand" = some (.ref a_law_hand)
  a_law_is : Addr
  d_law_is : FuncData
  F_law_is : Fun K "_law_is" "_law_is" s_law_is a_law_is d_law_is
  b_law_is : Binds K d_law_is ["said", "due"] []
  m_law_is : mg "_law_is" = some (.ref a_law_is)
  a_law_draw : Addr
  d_law_draw : FuncData
  F_law_draw : Fun K "_law_draw" "_law_draw" s_law_draw a_law_draw d_law_draw
  b_law_draw : Binds K d_law_draw ["hand", "many"] []
  m_law_draw : mg "_law_draw" = some (.ref a_law_draw)
  a_law_some : Addr
  d_law_some : FuncData
  F_law_some : Fun K "_law_some" "_law_some" s_law_some a_law_some d_law_some
  b_law_some : Binds K d_law_some ["hand", "things"] []
  m_law_some : mg "_law_some" = some (.ref a_law_some)
  a_law_mixed : Addr
  d_law_mixed : FuncData
  F_law_mixed : Fun K "_law_mixed" "_law_mixed" s_law_mixed a_law_mixed d_law_mixed
  b_law_mixed : Binds K d_law_mixed ["hand", "things"] []
  m_law_mixed : mg "_law_mixed" = some (.ref a_law_mixed)
  a_law_closed : Addr
  d_law_closed : FuncData
  F_law_closed : Fun K "_law_closed" "_law_closed" s_law_closed a_law_closed d_law_closed
  b_law_closed : Binds K d_law_closed ["rows"] []
  m_law_closed : mg "_law_closed" = some (.ref a_law_closed)
  a_law_of_pairs : Addr
  d_law_of_pairs : FuncData
  F_law_of_pairs : Fun K "_law_of_pairs" "_law_of_pairs" s_law_of_pairs a_law_of_pairs d_law_of_pairs
  b_law_of_pairs : Binds K d_law_of_pairs ["many", "numbers"] []
  m_law_of_pairs : mg "_law_of_pairs" = some (.ref a_law_of_pairs)
  a_law_any_table : Addr
  d_law_any_table : FuncData
  F_law_any_table : Fun K "_law_any_table" "_law_any_table" s_law_any_table a_law_any_table d_law_any_table
  b_law_any_table : Binds K d_law_any_table ["hand", "many", "high"] []
  m_law_any_table : mg "_law_any_table" = some (.ref a_law_any_table)
  a_law_cuts : Addr
  d_law_cuts : FuncData
  F_law_cuts : Fun K "_law_cuts" "_law_cuts" s_law_cuts a_law_cuts d_law_cuts
  b_law_cuts : Binds K d_law_cuts ["many"] []
  m_law_cuts : mg "_law_cuts" = some (.ref a_law_cuts)
  a_law_sum_of_cuts : Addr
  d_law_sum_of_cuts : FuncData
  F_law_sum_of_cuts : Fun K "_law_sum_of_cuts" "_law_sum_of_cuts" s_law_sum_of_cuts a_law_sum_of_cuts d_law_sum_of_cuts
  b_law_sum_of_cuts : Binds K d_law_sum_of_cuts ["hand", "many"] []
  m_law_sum_of_cuts : mg "_law_sum_of_cuts" = some (.ref a_law_sum_of_cuts)
  a_law_parts : Addr
  d_law_parts : FuncData
  F_law_parts : Fun K "_law_parts" "_law_parts" s_law_parts a_law_parts d_law_parts
  b_law_parts : Binds K d_law_parts ["cut", "i", "j"] []
  m_law_parts : mg "_law_parts" = some (.ref a_law_parts)
  a_law_table_of : Addr
  d_law_table_of : FuncData
  F_law_table_of : Fun K "_law_table_of" "_law_table_of" s_law_table_of a_law_table_of d_law_table_of
  b_law_table_of : Binds K d_law_table_of ["many", "cuts"] []
  m_law_table_of : mg "_law_table_of" = some (.ref a_law_table_of)
  a_law_table : Addr
  d_law_table : FuncData
  F_law_table : Fun K "_law_table" "_law_table" s_law_table a_law_table d_law_table
  b_law_table : Binds K d_law_table ["hand", "most"] []
  m_law_table : mg "_law_table" = some (.ref a_law_table)
  a_law_renamed : Addr
  d_law_renamed : FuncData
  F_law_renamed : Fun K "_law_renamed" "_law_renamed" s_law_renamed a_law_renamed d_law_renamed
  b_law_renamed : Binds K d_law_renamed ["table", "names"] []
  m_law_renamed : mg "_law_renamed" = some (.ref a_law_renamed)
  a_law_drawn_table : Addr
  d_law_drawn_table : FuncData
  F_law_drawn_table : Fun K "_law_drawn_table" "_law_drawn_table" s_law_drawn_table a_law_drawn_table d_law_drawn_table
  b_law_drawn_table : Binds K d_law_drawn_table ["hand", "most"] []
  m_law_drawn_table : mg "_law_drawn_table" = some (.ref a_law_drawn_table)
  a_law_rows : Addr
  d_law_rows : FuncData
  F_law_rows : Fun K "_law_rows" "_law_rows" s_law_rows a_law_rows d_law_rows
  b_law_rows : Binds K d_law_rows ["many"] []
  m_law_rows : mg "_law_rows" = some (.ref a_law_rows)
  a_law_falls : Addr
  d_law_falls : FuncData
  F_law_falls : Fun K "_law_falls" "_law_falls" s_law_falls a_law_falls d_law_falls
  b_law_falls : Binds K d_law_falls ["table", "row"] []
  m_law_falls : mg "_law_falls" = some (.ref a_law_falls)
  a_law_nearest : Addr
  d_law_nearest : FuncData
  F_law_nearest : Fun K "_law_nearest" "_law_nearest" s_law_nearest a_law_nearest d_law_nearest
  b_law_nearest : Binds K d_law_nearest ["table", "row"] []
  m_law_nearest : mg "_law_nearest" = some (.ref a_law_nearest)
  a_law_off_by : Addr
  d_law_off_by : FuncData
  F_law_off_by : Fun K "_law_off_by" "_law_off_by" s_law_off_by a_law_off_by d_law_off_by
  b_law_off_by : Binds K d_law_off_by ["table", "row"] []
  m_law_off_by : mg "_law_off_by" = some (.ref a_law_off_by)
  a_does_rise : Addr
  d_does_rise : FuncData
  F_does_rise : Fun K "does_rise" "does_rise" s_does_rise a_does_rise d_does_rise
  b_does_rise : Binds K d_does_rise ["table", "row"] []
  m_does_rise : mg "does_rise" = some (.ref a_does_rise)
  a_falls : Addr
  d_falls : FuncData
  F_falls : Fun K "falls" "falls" s_falls a_falls d_falls
  b_falls : Binds K d_falls ["table", "row"] []
  m_falls : mg "falls" = some (.ref a_falls)
  a_law_row_right : Addr
  d_law_row_right : FuncData
  F_law_row_right : Fun K "_law_row_right" "_law_row_right" s_law_row_right a_law_row_right d_law_row_right
  b_law_row_right : Binds K d_law_row_right ["hand", "table", "row"] []
  m_law_row_right : mg "_law_row_right" = some (.ref a_law_row_right)
  a_law_case_right : Addr
  d_law_case_right : FuncData
  F_law_case_right : Fun K "_law_case_right" "_law_case_right" s_law_case_right a_law_case_right d_law_case_right
  b_law_case_right : Binds K d_law_case_right ["hand", "table"] []
  m_law_case_right : mg "_law_case_right" = some (.ref a_law_case_right)
  a_law_no_table : Addr
  d_law_no_table : FuncData
  F_law_no_table : Fun K "_law_no_table" "_law_no_table" s_law_no_table a_law_no_table d_law_no_table
  b_law_no_table : Binds K d_law_no_table ["hand"] []
  m_law_no_table : mg "_law_no_table" = some (.ref a_law_no_table)
  a_law_no_row : Addr
  d_law_no_row : FuncData
  F_law_no_row : Fun K "_law_no_row" "_law_no_row" s_law_no_row a_law_no_row d_law_no_row
  b_law_no_row : Binds K d_law_no_row ["hand", "many"] []
  m_law_no_row : mg "_law_no_row" = some (.ref a_law_no_row)
  a_law_word : Addr
  d_law_word : FuncData
  F_law_word : Fun K "_law_word" "_law_word" s_law_word a_law_word d_law_word
  b_law_word : Binds K d_law_word ["call"] []
  m_law_word : mg "_law_word" = some (.ref a_law_word)
  a_law_refused_right : Addr
  d_law_refused_right : FuncData
  F_law_refused_right : Fun K "_law_refused_right" "_law_refused_right" s_law_refused_right a_law_refused_right d_law_refused_right
  b_law_refused_right : Binds K d_law_refused_right ["hand", "table"] []
  m_law_refused_right : mg "_law_refused_right" = some (.ref a_law_refused_right)
  a_law : Addr
  d_law : FuncData
  F_law : Fun K "law" "law" s_law a_law d_law
  b_law : Binds K d_law ["script"] []
  m_law : mg "law" = some (.ref a_law)
  n_falls : PySem.W.nsIn K mainGlobals "falls" = some (some (.ref a_falls))
  n_nearest_rising : PySem.W.nsIn K mainGlobals "nearest_rising" = some (some (.ref a_nearest_rising))
  n_over_by : PySem.W.nsIn K mainGlobals "over_by" = some (some (.ref a_over_by))
  z_ValueError : mg "ValueError" = none
  z_abs : mg "abs" = none
  z_all : mg "all" = none
  z_any : mg "any" = none
  z_bool : mg "bool" = none
  z_enumerate : mg "enumerate" = none
  z_int : mg "int" = none
  z_isinstance : mg "isinstance" = none
  z_len : mg "len" = none
  z_list : mg "list" = none
  z_max : mg "max" = none
  z_min : mg "min" = none
  z_range : mg "range" = none
  z_repr : mg "repr" = none
  z_sorted : mg "sorted" = none
  z_str : mg "str" = none
  z_sum : mg "sum" = none
  z_tuple : mg "tuple" = none
  z_zip : mg "zip" = none
  e_FarError : Addr
  e_NoRow : Addr
  e_NoTable : Addr
  e_Unsound : Addr
  g_FarError : mg "FarError" = some (.ref e_FarError)
  g_NoRow : mg "NoRow" = some (.ref e_NoRow)
  g_NoTable : mg "NoTable" = some (.ref e_NoTable)
  o_NoRow : OwnE K mg "NoRow" e_NoRow
  c_NoRow : ExcC K e_NoRow
  x_NoRow : PySem.W.exmOne K (.ref e_NoRow) (.ref e_FarError) = some true
  k_NoRow_NoRow : PySem.W.kitOne K (.ref e_NoRow) (.ref e_NoRow) = some true
  k_NoRow_NoTable : PySem.W.kitOne K (.ref e_NoRow) (.ref e_NoTable) = some false
  k_NoRow_ValueError : PySem.W.kitOne K (.ref e_NoRow) (.type "ValueError") = some true
  o_NoTable : OwnE K mg "NoTable" e_NoTable
  c_NoTable : ExcC K e_NoTable
  x_NoTable : PySem.W.exmOne K (.ref e_NoTable) (.ref e_FarError) = some true
  k_NoTable_NoRow : PySem.W.kitOne K (.ref e_NoTable) (.ref e_NoRow) = some false
  k_NoTable_NoTable : PySem.W.kitOne K (.ref e_NoTable) (.ref e_NoTable) = some true
  k_NoTable_ValueError : PySem.W.kitOne K (.ref e_NoTable) (.type "ValueError") = some true
  o_Unsound : OwnE K mg "Unsound" e_Unsound
  c_Unsound : ExcC K e_Unsound
  x_Unsound : PySem.W.exmOne K (.ref e_Unsound) (.ref e_FarError) = some true
  k_Unsound_NoRow : PySem.W.kitOne K (.ref e_Unsound) (.ref e_NoRow) = some false
  k_Unsound_NoTable : PySem.W.kitOne K (.ref e_Unsound) (.ref e_NoTable) = some false
  k_Unsound_ValueError : PySem.W.kitOne K (.ref e_Unsound) (.type "ValueError") = some true
  c_MOST_FAR : ∃ t, mg "MOST_FAR" = some (.int 1000 t)
  c_MOST_PLACES : ∃ t, mg "MOST_PLACES" = some (.int 7 t)
def suiteOf (st : Stmt) : List Stmt := ((defBody st).filterMap fun s => match s with | .Try _ hs _ _ _ => (match hs with | .ExceptHandler _ _ b _ :: _ => some b | _ => none) | _ => none).headD []
theorem hu100 {A : Around} {k : Nat} (hr : Room k A) : A.units + 100 < cLine := by have := hr.un; omega
theorem hu65 {A : Around} {k : Nat} (hr : Room k A) : A.units + 65 < cLine := by have := hr.un; omega
section
variable {P : Program} {w : World} {K : PySem.W.Frag} {mg : Str → Option Value} {base : Heap} {T : List (Addr × Str)}
theorem ok_is_integer (t : Tx K mg) : FnOk P w K mg base (L2.CX P w) 1 t.a_is_integer t.d_is_integer ["thing"] (spD ⟨K, T, mg⟩ 1 F_is_integer) :=
  def_fin (k := 0) t.F_is_integer sc_is_integer fun cdv A outer s H E hr =>
    (qs_one (ps_retD (pe_andD (pd_isI (t := .int) rfl t.z_isinstance rfl t.z_int (by decide +kernel) (pvD 0)) (pe_oneD (pe_notD (pd_isI (t := .bool) rfl t.z_isinstance rfl t.z_bool (by decide +kernel) (pvD 0)))))))
theorem ok_is_within (t : Tx K mg) : FnOk P w K mg base (L2.CX P w) 2 t.a_is_within t.d_is_within ["thing", "low", "high"] (spD ⟨K, T, mg⟩ 3 F_is_within) :=
  def_fin (k := 1) t.F_is_within sc_is_within fun cdv A outer s H E hr =>
    (qs_one (ps_retD (pe_andD (pd_call (ok_is_integer t) (takes_of rfl rfl rfl rfl) (hr.mono (by decide)) rfl t.m_is_integer t.F_is_integer.kp t.b_is_integer (pa_consD (pvD 0) pa_nilD)) (pe_oneD (pe_chainD op_le op_le does_cmp does_cmp (pvD 1) (pvD 0) (pvD 2))))))
theorem ok_is_sized (t : Tx K mg) : FnOk P w K mg base (L2.CX P w) 1 t.a_is_sized t.d_is_sized ["thing", "low", "high"] (spD ⟨K, T, mg⟩ 3 F_is_sized) :=
  def_fin (k := 0) t.F_is_sized sc_is_sized fun cdv A outer s H E hr =>
    (qs_one (ps_retD (pe_andD (pd_isI (t := .tuple) rfl t.z_isinstance rfl t.z_tuple (by decide +kernel) (pvD 0)) (pe_oneD (pe_chainD op_le op_le does_cmp does_cmp (pvD 1) (pd_callB call_len_seq does_len rfl t.z_len boot_len (pa_consD (pvD 0) pa_nilD)) (pvD 2))))))
theorem ok_is_table (t : Tx K mg) : FnOk P w K mg base (L2.CX P w) 3 t.a_is_table t.d_is_table ["thing"] (spD ⟨K, T, mg⟩ 1 F_is_table) :=
  def_fin (k := 2) t.F_is_table sc_is_table fun cdv A outer s H E hr =>
    (qs_cons (ps_ifD (pt_pw (pw_orD (pt_notD (pt_tru (pd_call (ok_is_sized t) (takes_of rfl rfl rfl rfl) (hr.mono (by decide)) rfl t.m_is_sized t.F_is_sized.kp t.b_is_sized (pa_consD (pvD 0) (pa_consD pd_int (pa_consD (pd_gint rfl t.c_MOST_PLACES) pa_nilD)))))) (pw_orD1 (pt_notD (pt_tru (pd_callB (cr_all rfl) does_all rfl t.z_all boot_all (pa_consD (pd_lc (own := [("row", 2)]) false rfl sc_is_table.nd (pi_seqD (pvD 0)) (blkOk_by (N := ["thing", "i", "row", "one", "j"]) (sc := (defScope s_is_table)) (own := [("row", 2)]) (by decide +kernel)) (tg_name _ 2) (by decide) (fun _ _ _ _ _ => (pg_name (i := 2) sc_is_table.nd rfl (by first | exact .inl rfl | exact .inr rfl))) (fun _ _ _ _ _ => pts_nilD) (fun _ _ _ _ _ => (pd_call (ok_is_sized t) takes0 (hr.mono (by decide)) rfl t.m_is_sized t.F_is_sized.kp t.b_is_sized (pa_consD (pvD 2) (pa_consD (pd_callB call_len_seq does_len rfl t.z_len boot_len (pa_consD (pvD 0) pa_nilD)) (pa_consD (pd_callB call_len_seq does_len rfl t.z_len boot_len (pa_consD (pvD 0) pa_nilD)) pa_nilD)))))) pa_nilD))))))) (qs_one (ps_retD pd_bl)) qs_nil)
    (qs_cons (ps_forD (passes_of rfl) rfl (tg_two (tg_name _ 1) (tg_name _ 2)) (pi_enumD rfl t.z_enumerate (pa_consD (pvD 0) pa_nilD)) (pg_tup rfl (pgs_cons (pg_name (i := 1) sc_is_table.nd rfl (by first | exact .inl rfl | exact .inr rfl)) (pgs_cons (pg_name (i := 2) sc_is_table.nd rfl (by first | exact .inl rfl | exact .inr rfl)) pgs_nil)))
    (qs_cons (ps_ifD (pt_notD (pt_tru (pd_callB (cr_all rfl) does_all rfl t.z_all boot_all (pa_consD (pd_lc (own := [("one", 3)]) false rfl sc_is_table.nd (pi_seqD (pvD 2)) (blkOk_by (N := ["thing", "i", "row", "one", "j"]) (sc := (defScope s_is_table)) (own := [("one", 3)]) (by decide +kernel)) (tg_name _ 3) (by decide) (fun _ _ _ _ _ => (pg_name (i := 3) sc_is_table.nd rfl (by first | exact .inl rfl | exact .inr rfl))) (fun _ _ _ _ _ => pts_nilD) (fun _ _ _ _ _ => (pd_call (ok_is_within t) takes0 (hr.mono (by decide)) rfl t.m_is_within t.F_is_within.kp t.b_is_within (pa_consD (pvD 3) (pa_consD pd_int (pa_consD (pd_gint rfl t.c_MOST_FAR) pa_nilD)))))) pa_nilD)))) (qs_one (ps_retD pd_bl)) qs_nil)
    (qs_one (ps_ifD (pt_tru (pd_callB (cr_any rfl) does_any rfl t.z_any boot_any (pa_consD (pd_lc (own := [("j", 4), ("one", 3)]) false rfl sc_is_table.nd (pi_enumD rfl t.z_enumerate (pa_consD (pvD 2) pa_nilD)) (blkOk_by (N := ["thing", "i", "row", "one", "j"]) (sc := (defScope s_is_table)) (own := [("j", 4), ("one", 3)]) (by decide +kernel)) (tg_two (tg_name _ 4) (tg_name _ 3)) (by decide) (fun _ _ _ _ _ => (pg_tup rfl (pgs_cons (pg_name (i := 4) sc_is_table.nd rfl (by first | exact .inl rfl | exact .inr rfl)) (pgs_cons (pg_name (i := 3) sc_is_table.nd rfl (by first | exact .inl rfl | exact .inr rfl)) pgs_nil)))) (fun _ _ _ _ _ => pts_nilD) (fun _ _ _ _ _ => (pd_cmp (op_neD hr.units) does_ne (pd_cmp (op_eqD hr.units) does_eq (pvD 3) pd_int (nomark _)) (pd_cmp (op_eqD hr.units) does_eq (pvD 1) (pvD 4) (nomark _)) (nomark _)))) pa_nilD))) (qs_one (ps_retD pd_bl)) qs_nil))))
    (qs_one (ps_retD (pd_callB (cr_all rfl) does_all rfl t.z_all boot_all (pa_consD (pd_lc (own := [("i", 1), ("row", 2)]) false rfl sc_is_table.nd (pi_enumD rfl t.z_enumerate (pa_consD (pvD 0) pa_nilD)) (blkOk_by (N := ["thing", "i", "row", "one", "j"]) (sc := (defScope s_is_table)) (own := [("i", 1), ("row", 2)]) (by decide +kernel)) (tg_two (tg_name _ 1) (tg_name _ 2)) (by decide) (fun _ _ _ _ _ => (pg_tup rfl (pgs_cons (pg_name (i := 1) sc_is_table.nd rfl (by first | exact .inl rfl | exact .inr rfl)) (pgs_cons (pg_name (i := 2) sc_is_table.nd rfl (by first | exact .inl rfl | exact .inr rfl)) pgs_nil)))) (fun _ _ _ _ _ => pts_nilD) (fun _ _ _ _ _ => (pd_callB (cr_all rfl) does_all rfl t.z_all boot_all (pa_consD (pd_lcN (own := [("j", 4)]) false rfl sc_is_table.nd (pi_rangeD1 rfl t.z_range (pa_consD (pvD 1) pa_nilD)) (blkOk_by (N := ["thing", "i", "row", "one", "j"]) (own := [("j", 4)]) (by decide +kernel)) (tg_name _ 4) (by decide) (fun _ _ _ _ _ => (pg_name (i := 4) sc_is_table.nd rfl (by first | exact .inl rfl | exact .inr rfl))) (fun _ _ _ _ _ => pts_nilD) (fun _ _ _ _ _ => (pd_cmp (op_eqD hr.units) does_eq (pd_ix (pvD 2) (pvD 4)) (pd_ix (pd_ix (pvD 0) (pvD 4)) (pvD 1)) (nomark _)))) pa_nilD)))) pa_nilD))))))
theorem ok_check_table (t : Tx K mg) : FnOk P w K mg base (L2.CX P w) 4 t.a_check_table t.d_check_table ["thing"] (spD ⟨K, T, mg⟩ 1 F_check_table) :=
  def_fin (k := 3) t.F_check_table sc_check_table fun cdv A outer s H E hr =>
    (qs_one (ps_ifD (pt_notD (pt_tru (pd_call (ok_is_table t) (takes_of rfl rfl rfl rfl) (hr.mono (by decide)) rfl t.m_is_table t.F_is_table.kp t.b_is_table (pa_consD (pvD 0) pa_nilD)))) (qs_one (ps_raiseD t.o_NoTable rfl (takes_of rfl rfl rfl rfl) rfl)) qs_nil))
theorem ok_short_triple (t : Tx K mg) : FnOk P w K mg base (L2.CX P w) 1 t.a_short_triple t.d_short_triple ["table"] (spD ⟨K, T, mg⟩ 1 F_short_triple) :=
  def_fin (k := 0) t.F_short_triple sc_short_triple fun cdv A outer s H E hr =>
    (qs_cons (ps_setD (i := 1) sc_short_triple.nd rfl (by first | exact .inl rfl | exact .inr rfl) (pd_listR1 false rfl rfl t.z_list rfl t.z_range (pd_callB call_len_seq does_len rfl t.z_len boot_len (pa_consD (pvD 0) pa_nilD))))
    (qs_cons (ps_forD (passes_of rfl) rfl (tg_name _ 2) (pi_seqD (pvD 1)) (pg_name (i := 2) sc_short_triple.nd rfl (by first | exact .inl rfl | exact .inr rfl))
    (qs_one (ps_forD (passes_of rfl) rfl (tg_name _ 3) (pi_seqD (pvD 1)) (pg_name (i := 3) sc_short_triple.nd rfl (by first | exact .inl rfl | exact .inr rfl))
    (qs_one (ps_forD (passes_of rfl) rfl (tg_name _ 4) (pi_seqD (pvD 1)) (pg_name (i := 4) sc_short_triple.nd rfl (by first | exact .inl rfl | exact .inr rfl))
    (qs_one (ps_ifD (pt_pw (pw_andD (pt_cmpD (or_notIn (hu65 hr)) does_notIn (pvD 3) (pd_tup (pa_consD (pvD 2) (pa_consD (pvD 4) pa_nilD))) (by with_unfolding_all rfl)) (pw_andD (pt_cmpD op_lt does_cmp (pvD 2) (pvD 4) (nomark _)) (pw_andD1 (pt_cmpD op_gt does_cmp (pd_ix (pd_ix (pvD 0) (pvD 2)) (pvD 4)) (pd_add (pd_ix (pd_ix (pvD 0) (pvD 2)) (pvD 3)) (pd_ix (pd_ix (pvD 0) (pvD 3)) (pvD 4))) (nomark _)))))) (qs_one (ps_retD (pd_tup (pa_consD (pvD 2) (pa_consD (pvD 3) (pa_consD (pvD 4) pa_nilD)))))) qs_nil)))))))
    (qs_one (ps_retD pd_non))))
theorem ok_check_sound (t : Tx K mg) : FnOk P w K mg base (L2.CX P w) 5 t.a_check_sound t.d_check_sound ["table"] (spD ⟨K, T, mg⟩ 1 F_check_sound) :=
  def_fin (k := 4) t.F_check_sound sc_check_sound fun cdv A outer s H E hr =>
    (qs_cons (ps_exprD (pd_call (ok_check_table t) (takes_of rfl rfl rfl rfl) (hr.mono (by decide)) rfl t.m_check_table t.F_check_table.kp t.b_check_table (pa_consD (pvD 0) pa_nilD)))
    (qs_one (ps_ifD (pt_cmpD op_notN does_notN (pd_call (ok_short_triple t) (takes_of rfl rfl rfl rfl) (hr.mono (by decide)) rfl t.m_short_triple t.F_short_triple.kp t.b_short_triple (pa_consD (pvD 0) pa_nilD)) pd_non (nomark _)) (qs_one (ps_raiseD t.o_Unsound rfl (takes_of rfl rfl rfl rfl) rfl)) qs_nil)))
theorem ok_falls_of (t : Tx K mg) : FnOk P w K mg base (L2.CX P w) 1 t.a_falls_of t.d_falls_of ["table", "row"] (spD ⟨K, T, mg⟩ 2 F_falls_of) :=
  def_fin (k := 0) t.F_falls_of sc_falls_of fun cdv A outer s H E hr =>
    (qs_cons (ps_setD (i := 2) sc_falls_of.nd rfl (by first | exact .inl rfl | exact .inr rfl) (pd_lst true pa_nilD))
    (qs_cons (ps_forD (passes_of rfl) rfl (tg_name _ 3) (pi_rangeD1 rfl t.z_range (pa_consD (pd_callB call_len_seq does_len rfl t.z_len boot_len (pa_consD (pvD 1) pa_nilD)) pa_nilD)) (pg_name (i := 3) sc_falls_of.nd rfl (by first | exact .inl rfl | exact .inr rfl))
    (qs_one (ps_forD (passes_of rfl) rfl (tg_name _ 4) (pi_rangeD2 rfl t.z_range (pa_consD (pd_add (pvD 3) pd_int) (pa_consD (pd_callB call_len_seq does_len rfl t.z_len boot_len (pa_consD (pvD 1) pa_nilD)) pa_nilD))) (pg_name (i := 4) sc_falls_of.nd rfl (by first | exact .inl rfl | exact .inr rfl))
    (qs_one (ps_forD (passes_of rfl) rfl (tg_name _ 5) (pi_rangeD2 rfl t.z_range (pa_consD (pd_add (pvD 4) pd_int) (pa_consD (pd_callB call_len_seq does_len rfl t.z_len boot_len (pa_consD (pvD 1) pa_nilD)) pa_nilD))) (pg_name (i := 5) sc_falls_of.nd rfl (by first | exact .inl rfl | exact .inr rfl))
    (qs_cons (ps_setD (i := 6) sc_falls_of.nd rfl (by first | exact .inl rfl | exact .inr rfl) (pd_ix (pd_ix (pvD 0) (pd_ix (pvD 1) (pvD 3))) (pd_ix (pvD 1) (pvD 5))))
    (qs_one (ps_ifD (pt_pw (pw_orD (pt_cmpD op_lt does_cmp (pvD 6) (pd_ix (pd_ix (pvD 0) (pd_ix (pvD 1) (pvD 3))) (pd_ix (pvD 1) (pvD 4))) (nomark _)) (pw_orD1 (pt_cmpD op_lt does_cmp (pvD 6) (pd_ix (pd_ix (pvD 0) (pd_ix (pvD 1) (pvD 4))) (pd_ix (pvD 1) (pvD 5))) (nomark _))))) (qs_one (ps_exprD (pd_append (pvD 2) (pd_tup (pa_consD (pvD 3) (pa_consD (pvD 4) (pa_consD (pvD 5) pa_nilD))))))) qs_nil))))))))
    (qs_one (ps_retD (pvD 2)))))
theorem ok_all_rows (t : Tx K mg) : FnOk P w K mg base (L2.CX P w) 1 t.a_all_rows t.d_all_rows ["n"] (spD ⟨K, T, mg⟩ 1 F_all_rows) :=
  def_fin (k := 0) t.F_all_rows sc_all_rows fun cdv A outer s H E hr =>
    (qs_cons (ps_setD (i := 1) sc_all_rows.nd rfl (by first | exact .inl rfl | exact .inr rfl) (pd_lst false (pa_consD (pd_tup pa_nilD) pa_nilD)))
    (qs_cons (ps_forD (passes_of rfl) rfl (tg_name _ 2) (pi_rangeD1 rfl t.z_range (pa_consD (pvD 0) pa_nilD)) (pg_name (i := 2) sc_all_rows.nd rfl (by first | exact .inl rfl | exact .inr rfl))
    (qs_cons (ps_setD (i := 3) sc_all_rows.nd rfl (by first | exact .inl rfl | exact .inr rfl) (pd_lst true pa_nilD))
    (qs_cons (ps_forD (passes_of rfl) rfl (tg_name _ 4) (pi_seqD (pvD 1)) (pg_name (i := 4) sc_all_rows.nd rfl (by first | exact .inl rfl | exact .inr rfl))
    (qs_one (ps_exprD (pd_extend (pvD 3) (pd_lc (own := [("place", 5)]) false rfl sc_all_rows.nd (pi_rangeD1 rfl t.z_range (pa_consD (pvD 0) pa_nilD)) (blkOk_by (N := ["n", "found", "turn", "longer", "row", "place"]) (sc := (defScope s_all_rows)) (own := [("place", 5)]) (by decide +kernel)) (tg_name _ 5) (by decide) (fun _ _ _ _ _ => (pg_name (i := 5) sc_all_rows.nd rfl (by first | exact .inl rfl | exact .inr rfl))) (fun _ _ _ _ _ => (pts_oneD (pt_cmpD (or_notIn (hu65 hr)) does_notIn (pvD 5) (pvD 4) (by with_unfolding_all rfl)))) (fun _ _ _ _ _ => (pd_add (pvD 4) (pd_tup (pa_consD (pvD 5) pa_nilD)))))))))
    (qs_one (ps_setD (i := 1) sc_all_rows.nd rfl (by first | exact .inl rfl | exact .inr rfl) (pvD 3))))))
    (qs_one (ps_retD (pvD 1)))))
theorem ok_fewest_falls (t : Tx K mg) : FnOk P w K mg base (L2.CX P w) 6 t.a_fewest_falls t.d_fewest_falls ["table"] (spD ⟨K, T, mg⟩ 1 F_fewest_falls) :=
  def_fin (k := 5) t.F_fewest_falls sc_fewest_falls fun cdv A outer s H E hr =>
    (qs_cons (ps_exprD (pd_call (ok_check_sound t) (takes_of rfl rfl rfl rfl) (hr.mono (by decide)) rfl t.m_check_sound t.F_check_sound.kp t.b_check_sound (pa_consD (pvD 0) pa_nilD)))
    (qs_one (ps_retD (pd_callB (cr_minP rfl (hu65 hr)) (does_bestP _) rfl t.z_min boot_min (pa_consD (pd_lc (own := [("row", 1)]) false rfl sc_fewest_falls.nd (pi_seqD (pd_call (ok_all_rows t) (takes_of rfl rfl rfl rfl) (hr.mono (by decide)) rfl t.m_all_rows t.F_all_rows.kp t.b_all_rows (pa_consD (pd_callB call_len_seq does_len rfl t.z_len boot_len (pa_consD (pvD 0) pa_nilD)) pa_nilD))) (blkOk_by (N := ["table", "row"]) (sc := (defScope s_fewest_falls)) (own := [("row", 1)]) (by decide +kernel)) (tg_name _ 1) (by decide) (fun _ _ _ _ _ => (pg_name (i := 1) sc_fewest_falls.nd rfl (by first | exact .inl rfl | exact .inr rfl))) (fun _ _ _ _ _ => pts_nilD) (fun _ _ _ _ _ => (pd_tup (pa_consD (pd_callB call_len_seq does_len rfl t.z_len boot_len (pa_consD (pd_call (ok_falls_of t) takes0 (hr.mono (by decide)) rfl t.m_falls_of t.F_falls_of.kp t.b_falls_of (pa_consD (pvD 0) (pa_consD (pvD 1) pa_nilD))) pa_nilD)) (pa_consD (pvD 1) pa_nilD))))) pa_nilD)))))
theorem ok_is_row (t : Tx K mg) : FnOk P w K mg base (L2.CX P w) 2 t.a_is_row t.d_is_row ["n", "thing"] (spD ⟨K, T, mg⟩ 2 F_is_row) :=
  def_fin (k := 1) t.F_is_row sc_is_row fun cdv A outer s H E hr =>
    (qs_cons (ps_ifD (pt_pw (pw_orD (pt_notD (pt_tru (pd_call (ok_is_sized t) (takes_of rfl rfl rfl rfl) (hr.mono (by decide)) rfl t.m_is_sized t.F_is_sized.kp t.b_is_sized (pa_consD (pvD 1) (pa_consD (pvD 0) (pa_consD (pvD 0) pa_nilD)))))) (pw_orD1 (pt_notD (pt_tru (pd_callB (cr_all rfl) does_all rfl t.z_all boot_all (pa_consD (pd_lc (own := [("one", 2)]) false rfl sc_is_row.nd (pi_seqD (pvD 1)) (blkOk_by (N := ["n", "thing", "one"]) (sc := (defScope s_is_row)) (own := [("one", 2)]) (by decide +kernel)) (tg_name _ 2) (by decide) (fun _ _ _ _ _ => (pg_name (i := 2) sc_is_row.nd rfl (by first | exact .inl rfl | exact .inr rfl))) (fun _ _ _ _ _ => pts_nilD) (fun _ _ _ _ _ => (pd_call (ok_is_integer t) takes0 (hr.mono (by decide)) rfl t.m_is_integer t.F_is_integer.kp t.b_is_integer (pa_consD (pvD 2) pa_nilD)))) pa_nilD))))))) (qs_one (ps_retD pd_bl)) qs_nil)
    (qs_one (ps_retD (pd_cmp (op_eqD hr.units) does_eq (pd_callB cr_sortT does_sortT rfl t.z_sorted boot_sorted (pa_consD (pvD 1) pa_nilD)) (pd_listR1 false rfl rfl t.z_list rfl t.z_range (pvD 0)) (nomark _)))))
theorem ok_check_row (t : Tx K mg) : FnOk P w K mg base (L2.CX P w) 6 t.a_check_row t.d_check_row ["table", "row"] (spD ⟨K, T, mg⟩ 2 F_check_row) :=
  def_fin (k := 5) t.F_check_row sc_check_row fun cdv A outer s H E hr =>
    (qs_cons (ps_exprD (pd_call (ok_check_sound t) (takes_of rfl rfl rfl rfl) (hr.mono (by decide)) rfl t.m_check_sound t.F_check_sound.kp t.b_check_sound (pa_consD (pvD 0) pa_nilD)))
    (qs_one (ps_ifD (pt_notD (pt_tru (pd_call (ok_is_row t) (takes_of rfl rfl rfl rfl) (hr.mono (by decide)) rfl t.m_is_row t.F_is_row.kp t.b_is_row (pa_consD (pd_callB call_len_seq does_len rfl t.z_len boot_len (pa_consD (pvD 0) pa_nilD)) (pa_consD (pvD 1) pa_nilD))))) (qs_one (ps_raiseD t.o_NoRow rfl (takes_of rfl rfl rfl rfl) rfl)) qs_nil)))
theorem ok_raised_table (t : Tx K mg) : FnOk P w K mg base (L2.CX P w) 1 t.a_raised_table t.d_raised_table ["table", "row"] (spD ⟨K, T, mg⟩ 2 F_raised_table) :=
  def_fin (k := 0) t.F_raised_table sc_raised_table fun cdv A outer s H E hr =>
    (qs_cons (ps_setD (i := 2) sc_raised_table.nd rfl (by first | exact .inl rfl | exact .inr rfl) (pd_callB call_len_seq does_len rfl t.z_len boot_len (pa_consD (pvD 0) pa_nilD)))
    (qs_cons (ps_setD (i := 3) sc_raised_table.nd rfl (by first | exact .inl rfl | exact .inr rfl) (pd_lst true pa_nilD))
    (qs_cons (ps_forD (passes_of rfl) rfl (tg_name _ 4) (pi_rangeD1 rfl t.z_range (pa_consD (pvD 2) pa_nilD)) (pg_name (i := 4) sc_raised_table.nd rfl (by first | exact .inl rfl | exact .inr rfl))
    (qs_one (ps_exprD (pd_append (pvD 3) (pd_rep true (pd_lst false (pa_consD pd_int pa_nilD)) (pvD 2))))))
    (qs_cons (ps_forD (passes_of rfl) rfl (tg_name _ 5) (pi_rangeD2 rfl t.z_range (pa_consD pd_int (pa_consD (pvD 2) pa_nilD))) (pg_name (i := 5) sc_raised_table.nd rfl (by first | exact .inl rfl | exact .inr rfl))
    (qs_one (ps_forD (passes_of rfl) rfl (tg_name _ 6) (pi_rangeD1 rfl t.z_range (pa_consD (pd_sub (pvD 2) (pvD 5)) pa_nilD)) (pg_name (i := 6) sc_raised_table.nd rfl (by first | exact .inl rfl | exact .inr rfl))
    (qs_cons (ps_parD (i := 7) (j := 8) rfl sc_raised_table.nd rfl rfl (by decide) rfl rfl (pa_consD (pd_ix (pvD 1) (pvD 6)) (pa_consD (pd_ix (pvD 1) (pd_add (pvD 6) (pvD 5))) pa_nilD)) rfl)
    (qs_cons (ps_setD (i := 9) sc_raised_table.nd rfl (by first | exact .inl rfl | exact .inr rfl) (pd_ix (pd_ix (pvD 0) (pvD 7)) (pvD 8)))
    (qs_cons (ps_ifD (pt_cmpD op_gt does_cmp (pvD 5) pd_int (nomark _)) (qs_one (ps_setD (i := 9) sc_raised_table.nd rfl (by first | exact .inl rfl | exact .inr rfl) (pd_callB (call_max3Nu rfl) does_max3 rfl t.z_max boot_max (pa_consD (pvD 9) (pa_consD (pd_ix (pd_ix (pvD 3) (pvD 7)) (pd_ix (pvD 1) (pd_sub (pd_add (pvD 6) (pvD 5)) pd_int))) (pa_consD (pd_ix (pd_ix (pvD 3) (pd_ix (pvD 1) (pd_add (pvD 6) pd_int))) (pvD 8)) pa_nilD)))))) qs_nil)
    (qs_cons (ps_setIxD (pd_ix (pvD 3) (pvD 7)) (pvD 8) (pvD 9))
    (qs_one (ps_setIxD (pd_ix (pvD 3) (pvD 8)) (pvD 7) (pvD 9))))))))))
    (qs_one (ps_retD (pd_callT call_tuple_ofN does_tuple rfl t.z_tuple boot_tuple (pa_consD (pd_lc (own := [("line", 10)]) false rfl sc_raised_table.nd (pi_seqD (pvD 3)) (blkOk_by (N := ["table", "row", "n", "found", "place", "width", "a", "i", "j", "most", "line"]) (sc := (defScope s_raised_table)) (own := [("line", 10)]) (by decide +kernel)) (tg_name _ 10) (by decide) (fun _ _ _ _ _ => (pg_name (i := 10) sc_raised_table.nd rfl (by first | exact .inl rfl | exact .inr rfl))) (fun _ _ _ _ _ => pts_nilD) (fun _ _ _ _ _ => (pd_callT call_tuple_ofN does_tuple rfl t.z_tuple boot_tuple (pa_consD (pvD 10) pa_nilD)))) pa_nilD))))))))
theorem ok_nearest_rising (t : Tx K mg) : FnOk P w K mg base (L2.CX P w) 7 t.a_nearest_rising t.d_nearest_rising ["table", "row"] (spD ⟨K, T, mg⟩ 2 F_nearest_rising) :=
  def_fin (k := 6) t.F_nearest_rising sc_nearest_rising fun cdv A outer s H E hr =>
    (qs_cons (ps_exprD (pd_call (ok_check_row t) (takes_of rfl rfl rfl rfl) (hr.mono (by decide)) rfl t.m_check_row t.F_check_row.kp t.b_check_row (pa_consD (pvD 0) (pa_consD (pvD 1) pa_nilD))))
    (qs_one (ps_retD (pd_call (ok_raised_table t) (takes_of rfl rfl rfl rfl) (hr.mono (by decide)) rfl t.m_raised_table t.F_raised_table.kp t.b_raised_table (pa_consD (pvD 0) (pa_consD (pvD 1) pa_nilD))))))
theorem ok_raised_by (t : Tx K mg) : FnOk P w K mg base (L2.CX P w) 2 t.a_raised_by t.d_raised_by ["table", "row"] (spD ⟨K, T, mg⟩ 2 F_raised_by) :=
  def_fin (k := 1) t.F_raised_by sc_raised_by fun cdv A outer s H E hr =>
    (qs_cons (ps_setD (i := 2) sc_raised_by.nd rfl (by first | exact .inl rfl | exact .inr rfl) (pd_call (ok_raised_table t) (takes_of rfl rfl rfl rfl) (hr.mono (by decide)) rfl t.m_raised_table t.F_raised_table.kp t.b_raised_table (pa_consD (pvD 0) (pa_consD (pvD 1) pa_nilD))))
    (qs_one (ps_retD (pd_callB (cr_max rfl) does_max1 rfl t.z_max boot_max (pa_consD (pd_lc (own := [("line", 3), ("old", 4)]) false rfl sc_raised_by.nd (pi_zipD rfl t.z_zip (pa_consD (pvD 2) (pa_consD (pvD 0) pa_nilD))) (blkOk_by (N := ["table", "row", "other", "line", "old", "one", "two"]) (sc := (defScope s_raised_by)) (own := [("line", 3), ("old", 4)]) (by decide +kernel)) (tg_two (tg_name _ 3) (tg_name _ 4)) (by decide) (fun _ _ _ _ _ => (pg_tup rfl (pgs_cons (pg_name (i := 3) sc_raised_by.nd rfl (by first | exact .inl rfl | exact .inr rfl)) (pgs_cons (pg_name (i := 4) sc_raised_by.nd rfl (by first | exact .inl rfl | exact .inr rfl)) pgs_nil)))) (fun _ _ _ _ _ => pts_nilD) (fun _ _ _ _ _ => (pd_callB (cr_max rfl) does_max1 rfl t.z_max boot_max (pa_consD (pd_lcN (own := [("one", 5), ("two", 6)]) false rfl sc_raised_by.nd (pi_zipD rfl t.z_zip (pa_consD (pvD 3) (pa_consD (pvD 4) pa_nilD))) (blkOk_by (N := ["table", "row", "other", "line", "old", "one", "two"]) (own := [("one", 5), ("two", 6)]) (by decide +kernel)) (tg_two (tg_name _ 5) (tg_name _ 6)) (by decide) (fun _ _ _ _ _ => (pg_tup rfl (pgs_cons (pg_name (i := 5) sc_raised_by.nd rfl (by first | exact .inl rfl | exact .inr rfl)) (pgs_cons (pg_name (i := 6) sc_raised_by.nd rfl (by first | exact .inl rfl | exact .inr rfl)) pgs_nil)))) (fun _ _ _ _ _ => pts_nilD) (fun _ _ _ _ _ => (pd_sub (pvD 5) (pvD 6)))) pa_nilD)))) pa_nilD)))))
theorem ok_over_by (t : Tx K mg) : FnOk P w K mg base (L2.CX P w) 7 t.a_over_by t.d_over_by ["table", "row"] (spD ⟨K, T, mg⟩ 2 F_over_by) :=
  def_fin (k := 6) t.F_over_by sc_over_by fun cdv A outer s H E hr =>
    (qs_cons (ps_exprD (pd_call (ok_check_row t) (takes_of rfl rfl rfl rfl) (hr.mono (by decide)) rfl t.m_check_row t.F_check_row.kp t.b_check_row (pa_consD (pvD 0) (pa_consD (pvD 1) pa_nilD))))
    (qs_one (ps_retD (pd_call (ok_raised_by t) (takes_of rfl rfl rfl rfl) (hr.mono (by decide)) rfl t.m_raised_by t.F_raised_by.kp t.b_raised_by (pa_consD (pvD 0) (pa_consD (pvD 1) pa_nilD))))))
theorem ok_least_over (t : Tx K mg) : FnOk P w K mg base (L2.CX P w) 6 t.a_least_over t.d_least_over ["table"] (spD ⟨K, T, mg⟩ 1 F_least_over) :=
  def_fin (k := 5) t.F_least_over sc_least_over fun cdv A outer s H E hr =>
    (qs_cons (ps_exprD (pd_call (ok_check_sound t) (takes_of rfl rfl rfl rfl) (hr.mono (by decide)) rfl t.m_check_sound t.F_check_sound.kp t.b_check_sound (pa_consD (pvD 0) pa_nilD)))
    (qs_one (ps_retD (pd_callB (cr_minP rfl (hu65 hr)) (does_bestP _) rfl t.z_min boot_min (pa_consD (pd_lc (own := [("row", 1)]) false rfl sc_least_over.nd (pi_seqD (pd_call (ok_all_rows t) (takes_of rfl rfl rfl rfl) (hr.mono (by decide)) rfl t.m_all_rows t.F_all_rows.kp t.b_all_rows (pa_consD (pd_callB call_len_seq does_len rfl t.z_len boot_len (pa_consD (pvD 0) pa_nilD)) pa_nilD))) (blkOk_by (N := ["table", "row"]) (sc := (defScope s_least_over)) (own := [("row", 1)]) (by decide +kernel)) (tg_name _ 1) (by decide) (fun _ _ _ _ _ => (pg_name (i := 1) sc_least_over.nd rfl (by first | exact .inl rfl | exact .inr rfl))) (fun _ _ _ _ _ => pts_nilD) (fun _ _ _ _ _ => (pd_tup (pa_consD (pd_call (ok_raised_by t) takes0 (hr.mono (by decide)) rfl t.m_raised_by t.F_raised_by.kp t.b_raised_by (pa_consD (pvD 0) (pa_consD (pvD 1) pa_nilD))) (pa_consD (pvD 1) pa_nilD))))) pa_nilD)))))
theorem ok_law_hand (t : Tx K mg) : FnOk P w K mg base (L2.CX P w) 1 t.a_law_hand t.d_law_hand ["script"] (spD ⟨K, T, mg⟩ 1 F_law_hand) :=
  def_raw (k := 0) t.F_law_hand sc_law_hand fun cdv A outer s H E hr =>
    (qs_cons (ps_setLcD (own := [("cell", 2)]) (i := 1) false rfl sc_law_hand.nd rfl rfl (sw_true rfl rfl rfl (by decide +kernel)) (pi_seqD (pd_slice false (pvD 0) po_noneD (po_someD pd_int))) (blkOk_by (N := ["script", "cells", "cell"]) (sc := (defScope s_law_hand)) (own := [("cell", 2)]) (by decide +kernel)) (tg_name _ 2) (by decide) (fun _ _ _ _ _ => (pg_name (i := 2) sc_law_hand.nd rfl (by first | exact .inl rfl | exact .inr rfl))) (fun _ _ _ _ _ => pts_nilD) (fun _ _ _ _ _ => (pd_callB call_abs does_abs rfl t.z_abs boot_abs (pa_consD (pd_callT call_int1 does_int rfl t.z_int boot_int (pa_consD (pvD 2) pa_nilD)) pa_nilD))))
    (qs_one (ps_retD (pd_lst true (pa_consD (pvD 1) (pa_consD pd_int (pa_consD pd_int (pa_consD (pd_add pd_int (pd_mul pd_int (pd_callB call_len_seq does_len rfl t.z_len boot_len (pa_consD (pvD 1) pa_nilD)))) (pa_consD pd_int pa_nilD)))))))))
theorem ok_law_is (t : Tx K mg) : FnG P w K mg base (L2.CX P w) 1 t.a_law_is t.d_law_is ["said", "due"] (spD ⟨K, T, mg⟩ 2 F_law_is) :=
  def_finG (k := 0) t.F_law_is sc_law_is fun cdv hcode A outer s H E hr hgd =>
    (qs_one (ps_retD (pd_cmp op_eq does_eqS (pd_callB (cr_repr hgd (hu65 hr)) does_repr rfl t.z_repr boot_repr (pa_consD (pvD 0) pa_nilD)) (pd_callB (cr_repr hgd (hu65 hr)) does_repr rfl t.z_repr boot_repr (pa_consD (pvD 1) pa_nilD)) (nomark _))))
theorem ok_law_draw (t : Tx K mg) : FnOk P w K mg base (L2.CX P w) 1 t.a_law_draw t.d_law_draw ["hand", "many"] (spD ⟨K, T, mg⟩ 2 F_law_draw) :=
  def_fin (k := 0) t.F_law_draw sc_law_draw fun cdv A outer s H E hr =>
    (qs_cons (ps_ifD (pt_pw (pw_andD (pt_cmpD (op_eqD hr.units) does_eq (pd_ix (pvD 0) pd_int) pd_int (nomark _)) (pw_andD1 (pt_cmpD op_lt does_cmp (pd_ix (pvD 0) pd_int) (pd_callB call_len_seq does_len rfl t.z_len boot_len (pa_consD (pd_ix (pvD 0) pd_int) pa_nilD)) (nomark _))))) (qs_cons (ps_setD (i := 2) sc_law_draw.nd rfl (by first | exact .inl rfl | exact .inr rfl) (pd_ix (pd_ix (pvD 0) pd_int) (pd_ix (pvD 0) pd_int)))
    (qs_cons (ps_setIxD (pvD 0) pd_int (pd_add (pd_ix (pvD 0) pd_int) pd_int))
    (qs_cons (ps_setIxD (pvD 0) pd_int (pd_mod (pd_callT call_int1 does_int rfl t.z_int boot_int (pa_consD (pd_add (pd_add (pd_mul (pd_ix (pvD 0) pd_int) pd_int) (pd_mul (pvD 2) pd_int)) pd_int) pa_nilD)) pd_int))
    (qs_one (ps_ifD (pt_cmpD op_ge does_cmp (pvD 2) (pd_pow pd_int pd_int) (nomark _)) (qs_one (ps_setIxD (pvD 0) pd_int (pvD 2))) qs_nil))))) qs_nil)
    (qs_cons (ps_ifD (pt_cmpD op_gt does_cmp (pd_ix (pvD 0) pd_int) pd_int (nomark _)) (qs_cons (ps_setD (i := 3) sc_law_draw.nd rfl (by first | exact .inl rfl | exact .inr rfl) (pd_mod (pd_callT call_int1 does_int rfl t.z_int boot_int (pa_consD (pd_ix (pvD 0) pd_int) pa_nilD)) (pvD 1)))
    (qs_cons (ps_setIxD (pvD 0) pd_int (pd_div (pd_ix (pvD 0) pd_int) (pvD 1)))
    (qs_one (ps_retD (pvD 3))))) qs_nil)
    (qs_cons (ps_setIxD (pvD 0) pd_int (pd_add (pd_ix (pvD 0) pd_int) pd_int))
    (qs_cons (ps_setD (i := 4) sc_law_draw.nd rfl (by first | exact .inl rfl | exact .inr rfl) (pd_mod (pd_callT call_int1 does_int rfl t.z_int boot_int (pa_consD (pd_mul (pd_callT call_int1 does_int rfl t.z_int boot_int (pa_consD (pd_add (pd_ix (pvD 0) pd_int) (pd_mul pd_int (pd_ix (pvD 0) pd_int))) pa_nilD)) pd_int) pa_nilD)) pd_int))
    (qs_cons (ps_setD (i := 4) sc_law_draw.nd rfl (by first | exact .inl rfl | exact .inr rfl) (pd_mod (pd_callT call_int1 does_int rfl t.z_int boot_int (pa_consD (pd_mul (pvD 4) (pd_add (pd_div (pvD 4) pd_int) pd_int)) pa_nilD)) pd_int))
    (qs_cons (ps_setD (i := 4) sc_law_draw.nd rfl (by first | exact .inl rfl | exact .inr rfl) (pd_mod (pd_callT call_int1 does_int rfl t.z_int boot_int (pa_consD (pd_mul (pvD 4) (pd_add (pd_div (pvD 4) pd_int) pd_int)) pa_nilD)) pd_int))
    (qs_one (ps_retD (pd_mod (pd_callT call_int1 does_int rfl t.z_int boot_int (pa_consD (pd_div (pvD 4) pd_int) pa_nilD)) (pvD 1))))))))))
theorem ok_law_some (t : Tx K mg) : FnOk P w K mg base (L2.CX P w) 2 t.a_law_some t.d_law_some ["hand", "things"] (spD ⟨K, T, mg⟩ 2 F_law_some) :=
  def_fin (k := 1) t.F_law_some sc_law_some fun cdv A outer s H E hr =>
    (qs_one (ps_retD (pd_ix (pvD 1) (pd_call (ok_law_draw t) (takes_of rfl rfl rfl rfl) (hr.mono (by decide)) rfl t.m_law_draw t.F_law_draw.kp t.b_law_draw (pa_consD (pvD 0) (pa_consD (pd_callB call_len_seq does_len rfl t.z_len boot_len (pa_consD (pvD 1) pa_nilD)) pa_nilD))))))
theorem ok_law_mixed (t : Tx K mg) : FnOk P w K mg base (L2.CX P w) 2 t.a_law_mixed t.d_law_mixed ["hand", "things"] (spD ⟨K, T, mg⟩ 2 F_law_mixed) :=
  def_fin (k := 1) t.F_law_mixed sc_law_mixed fun cdv A outer s H E hr =>
    (qs_cons (ps_parD (i := 2) (j := 3) rfl sc_law_mixed.nd rfl rfl (by decide) rfl rfl (pa_consD (pd_callT call_list_of (does_list true) rfl t.z_list boot_list (pa_consD (pvD 1) pa_nilD)) (pa_consD (pd_lst true pa_nilD) pa_nilD)) rfl)
    (qs_cons (ps_whileD (passes_of rfl) (pt_cmpD op_gt does_cmp (pd_callB call_len_seq does_len rfl t.z_len boot_len (pa_consD (pvD 2) pa_nilD)) pd_int (nomark _))
    (qs_one (ps_exprD (pd_append (pvD 3) (pd_popAt (pvD 2) (pd_call (ok_law_draw t) (takes_of rfl rfl rfl rfl) (hr.mono (by decide)) rfl t.m_law_draw t.F_law_draw.kp t.b_law_draw (pa_consD (pvD 0) (pa_consD (pd_callB call_len_seq does_len rfl t.z_len boot_len (pa_consD (pvD 2) pa_nilD)) pa_nilD))))))))
    (qs_one (ps_retD (pvD 3)))))
theorem ok_law_closed (t : Tx K mg) : FnOk P w K mg base (L2.CX P w) 1 t.a_law_closed t.d_law_closed ["rows"] (spD ⟨K, T, mg⟩ 1 F_law_closed) :=
  def_fin (k := 0) t.F_law_closed sc_law_closed fun cdv A outer s H E hr =>
    (qs_cons (ps_parD (i := 1) (j := 2) rfl sc_law_closed.nd rfl rfl (by decide) rfl rfl (pa_consD (pd_lc (own := [("row", 6)]) false rfl sc_law_closed.nd (pi_seqD (pvD 0)) (blkOk_by (N := ["rows", "found", "many", "j", "i", "k", "row"]) (sc := (defScope s_law_closed)) (own := [("row", 6)]) (by decide +kernel)) (tg_name _ 6) (by decide) (fun _ _ _ _ _ => (pg_name (i := 6) sc_law_closed.nd rfl (by first | exact .inl rfl | exact .inr rfl))) (fun _ _ _ _ _ => pts_nilD) (fun _ _ _ _ _ => (pd_callT call_list_of (does_list true) rfl t.z_list boot_list (pa_consD (pvD 6) pa_nilD)))) (pa_consD (pd_callB call_len_seq does_len rfl t.z_len boot_len (pa_consD (pvD 0) pa_nilD)) pa_nilD)) rfl)
    (qs_cons (ps_forD (passes_of rfl) rfl (tg_name _ 3) (pi_rangeD1 rfl t.z_range (pa_consD (pvD 2) pa_nilD)) (pg_name (i := 3) sc_law_closed.nd rfl (by first | exact .inl rfl | exact .inr rfl))
    (qs_one (ps_forD (passes_of rfl) rfl (tg_name _ 4) (pi_rangeD1 rfl t.z_range (pa_consD (pvD 2) pa_nilD)) (pg_name (i := 4) sc_law_closed.nd rfl (by first | exact .inl rfl | exact .inr rfl))
    (qs_one (ps_forD (passes_of rfl) rfl (tg_name _ 5) (pi_rangeD1 rfl t.z_range (pa_consD (pvD 2) pa_nilD)) (pg_name (i := 5) sc_law_closed.nd rfl (by first | exact .inl rfl | exact .inr rfl))
    (qs_one (ps_setIxD (pd_ix (pvD 1) (pvD 4)) (pvD 5) (pd_callB (call_min2 rfl) does_min2 rfl t.z_min boot_min (pa_consD (pd_ix (pd_ix (pvD 1) (pvD 4)) (pvD 5)) (pa_consD (pd_add (pd_ix (pd_ix (pvD 1) (pvD 4)) (pvD 3)) (pd_ix (pd_ix (pvD 1) (pvD 3)) (pvD 5))) pa_nilD))))))))))
    (qs_one (ps_retD (pd_callT call_tuple_ofN does_tuple rfl t.z_tuple boot_tuple (pa_consD (pd_lc (own := [("row", 6)]) false rfl sc_law_closed.nd (pi_seqD (pvD 1)) (blkOk_by (N := ["rows", "found", "many", "j", "i", "k", "row"]) (sc := (defScope s_law_closed)) (own := [("row", 6)]) (by decide +kernel)) (tg_name _ 6) (by decide) (fun _ _ _ _ _ => (pg_name (i := 6) sc_law_closed.nd rfl (by first | exact .inl rfl | exact .inr rfl))) (fun _ _ _ _ _ => pts_nilD) (fun _ _ _ _ _ => (pd_callT call_tuple_ofN does_tuple rfl t.z_tuple boot_tuple (pa_consD (pvD 6) pa_nilD)))) pa_nilD))))))
theorem ok_law_of_pairs (t : Tx K mg) : FnOk P w K mg base (L2.CX P w) 1 t.a_law_of_pairs t.d_law_of_pairs ["many", "numbers"] (spD ⟨K, T, mg⟩ 2 F_law_of_pairs) :=
  def_fin (k := 0) t.F_law_of_pairs sc_law_of_pairs fun cdv A outer s H E hr =>
    (qs_cons (ps_parD (i := 2) (j := 3) rfl sc_law_of_pairs.nd rfl rfl (by decide) rfl rfl (pa_consD (pd_lc (own := [("place", 6)]) false rfl sc_law_of_pairs.nd (pi_rangeD1 rfl t.z_range (pa_consD (pvD 0) pa_nilD)) (blkOk_by (N := ["many", "numbers", "found", "at", "i", "j", "place", "row"]) (sc := (defScope s_law_of_pairs)) (own := [("place", 6)]) (by decide +kernel)) (tg_name _ 6) (by decide) (fun _ _ _ _ _ => (pg_name (i := 6) sc_law_of_pairs.nd rfl (by first | exact .inl rfl | exact .inr rfl))) (fun _ _ _ _ _ => pts_nilD) (fun _ _ _ _ _ => (pd_rep true (pd_lst false (pa_consD pd_int pa_nilD)) (pvD 0)))) (pa_consD pd_int pa_nilD)) rfl)
    (qs_cons (ps_forD (passes_of rfl) rfl (tg_name _ 4) (pi_rangeD1 rfl t.z_range (pa_consD (pvD 0) pa_nilD)) (pg_name (i := 4) sc_law_of_pairs.nd rfl (by first | exact .inl rfl | exact .inr rfl))
    (qs_one (ps_forD (passes_of rfl) rfl (tg_name _ 5) (pi_rangeD2 rfl t.z_range (pa_consD (pd_add (pvD 4) pd_int) (pa_consD (pvD 0) pa_nilD))) (pg_name (i := 5) sc_law_of_pairs.nd rfl (by first | exact .inl rfl | exact .inr rfl))
    (qs_cons (ps_asgS (u_two u_sub u_sub) (pd_tup (pa_consD (pd_ix (pvD 1) (pvD 3)) (pa_consD (pd_ix (pvD 1) (pvD 3)) pa_nilD))) (pg_tup rfl (pgs_cons (pg_subD (pd_ix (pvD 2) (pvD 4)) (pvD 5)) (pgs_cons (pg_subD (pd_ix (pvD 2) (pvD 5)) (pvD 4)) pgs_nil))))
    (qs_one (ps_setD (i := 3) sc_law_of_pairs.nd rfl (by first | exact .inl rfl | exact .inr rfl) (pd_add (pvD 3) pd_int)))))))
    (qs_one (ps_retD (pd_callT call_tuple_ofN does_tuple rfl t.z_tuple boot_tuple (pa_consD (pd_lc (own := [("row", 7)]) false rfl sc_law_of_pairs.nd (pi_seqD (pvD 2)) (blkOk_by (N := ["many", "numbers", "found", "at", "i", "j", "place", "row"]) (sc := (defScope s_law_of_pairs)) (own := [("row", 7)]) (by decide +kernel)) (tg_name _ 7) (by decide) (fun _ _ _ _ _ => (pg_name (i := 7) sc_law_of_pairs.nd rfl (by first | exact .inl rfl | exact .inr rfl))) (fun _ _ _ _ _ => pts_nilD) (fun _ _ _ _ _ => (pd_callT call_tuple_ofN does_tuple rfl t.z_tuple boot_tuple (pa_consD (pvD 7) pa_nilD)))) pa_nilD))))))
theorem ok_law_any_table (t : Tx K mg) : FnOk P w K mg base (L2.CX P w) 2 t.a_law_any_table t.d_law_any_table ["hand", "many", "high"] (spD ⟨K, T, mg⟩ 3 F_law_any_table) :=
  def_fin (k := 1) t.F_law_any_table sc_law_any_table fun cdv A outer s H E hr =>
    (qs_one (ps_retD (pd_call (ok_law_of_pairs t) (takes_of rfl rfl rfl rfl) (hr.mono (by decide)) rfl t.m_law_of_pairs t.F_law_of_pairs.kp t.b_law_of_pairs (pa_consD (pvD 1) (pa_consD (pd_lc (own := [("pair", 3)]) false rfl sc_law_any_table.nd (pi_rangeD1 rfl t.z_range (pa_consD (pd_mul (pvD 1) (pvD 1)) pa_nilD)) (blkOk_by (N := ["hand", "many", "high", "pair"]) (sc := (defScope s_law_any_table)) (own := [("pair", 3)]) (by decide +kernel)) (tg_name _ 3) (by decide) (fun _ _ _ _ _ => (pg_name (i := 3) sc_law_any_table.nd rfl (by first | exact .inl rfl | exact .inr rfl))) (fun _ _ _ _ _ => pts_nilD) (fun _ _ _ _ _ => (pd_add pd_int (pd_call (ok_law_draw t) takes0 (hr.mono (by decide)) rfl t.m_law_draw t.F_law_draw.kp t.b_law_draw (pa_consD (pvD 0) (pa_consD (pvD 2) pa_nilD)))))) pa_nilD)))))
theorem ok_law_cuts (t : Tx K mg) : FnOk P w K mg base (L2.CX P w) 1 t.a_law_cuts t.d_law_cuts ["many"] (spD ⟨K, T, mg⟩ 1 F_law_cuts) :=
  def_fin (k := 0) t.F_law_cuts sc_law_cuts fun cdv A outer s H E hr =>
    (qs_cons (ps_setD (i := 1) sc_law_cuts.nd rfl (by first | exact .inl rfl | exact .inr rfl) (pd_lst false (pa_consD (pd_tup pa_nilD) pa_nilD)))
    (qs_cons (ps_forD (passes_of rfl) rfl (tg_name _ 2) (pi_rangeD2 rfl t.z_range (pa_consD pd_int (pa_consD (pvD 0) pa_nilD))) (pg_name (i := 2) sc_law_cuts.nd rfl (by first | exact .inl rfl | exact .inr rfl))
    (qs_one (ps_setD (i := 1) sc_law_cuts.nd rfl (by first | exact .inl rfl | exact .inr rfl) (pd_add (pvD 1) (pd_lc (own := [("lot", 3)]) false rfl sc_law_cuts.nd (pi_seqD (pvD 1)) (blkOk_by (N := ["many", "found", "place", "lot"]) (sc := (defScope s_law_cuts)) (own := [("lot", 3)]) (by decide +kernel)) (tg_name _ 3) (by decide) (fun _ _ _ _ _ => (pg_name (i := 3) sc_law_cuts.nd rfl (by first | exact .inl rfl | exact .inr rfl))) (fun _ _ _ _ _ => pts_nilD) (fun _ _ _ _ _ => (pd_add (pvD 3) (pd_tup (pa_consD (pvD 2) pa_nilD)))))))))
    (qs_one (ps_retD (pd_callB (cr_sortedD (hu65 hr)) (does_sorted false) rfl t.z_sorted boot_sorted (pa_consD (pd_lc (own := [("lot", 3)]) false rfl sc_law_cuts.nd (pi_seqD (pvD 1)) (blkOk_by (N := ["many", "found", "place", "lot"]) (sc := (defScope s_law_cuts)) (own := [("lot", 3)]) (by decide +kernel)) (tg_name _ 3) (by decide) (fun _ _ _ _ _ => (pg_name (i := 3) sc_law_cuts.nd rfl (by first | exact .inl rfl | exact .inr rfl))) (fun _ _ _ _ _ => (pts_oneD (pt_cmpD op_gt does_cmp (pd_callB call_len_seq does_len rfl t.z_len boot_len (pa_consD (pvD 3) pa_nilD)) pd_int (nomark _)))) (fun _ _ _ _ _ => (pvD 3))) pa_nilD))))))
theorem ok_law_sum_of_cuts (t : Tx K mg) : FnOk P w K mg base (L2.CX P w) 3 t.a_law_sum_of_cuts t.d_law_sum_of_cuts ["hand", "many"] (spD ⟨K, T, mg⟩ 2 F_law_sum_of_cuts) :=
  def_fin (k := 2) t.F_law_sum_of_cuts sc_law_sum_of_cuts fun cdv A outer s H E hr =>
    (qs_cons (ps_parD (i := 2) (j := 3) rfl sc_law_sum_of_cuts.nd rfl rfl (by decide) rfl rfl (pa_consD (pd_lst false pa_nilD) (pa_consD (pd_call (ok_law_cuts t) (takes_of rfl rfl rfl rfl) (hr.mono (by decide)) rfl t.m_law_cuts t.F_law_cuts.kp t.b_law_cuts (pa_consD (pvD 1) pa_nilD)) pa_nilD)) rfl)
    (qs_cons (ps_forD (passes_of rfl) rfl (tg_name _ 4) (pi_rangeD1 rfl t.z_range (pa_consD (pe_ifD (pt_cmpD op_gt does_cmp (pd_callB call_len_seq does_len rfl t.z_len boot_len (pa_consD (pvD 3) pa_nilD)) pd_int (nomark _)) (pd_add pd_int (pd_call (ok_law_draw t) (takes_of rfl rfl rfl rfl) (hr.mono (by decide)) rfl t.m_law_draw t.F_law_draw.kp t.b_law_draw (pa_consD (pvD 0) (pa_consD pd_int pa_nilD)))) pd_int) pa_nilD)) (pg_name (i := 4) sc_law_sum_of_cuts.nd rfl (by first | exact .inl rfl | exact .inr rfl))
    (qs_one (ps_setD (i := 2) sc_law_sum_of_cuts.nd rfl (by first | exact .inl rfl | exact .inr rfl) (pd_add (pvD 2) (pd_rep false (pd_lst false (pa_consD (pd_call (ok_law_some t) (takes_of rfl rfl rfl rfl) (hr.mono (by decide)) rfl t.m_law_some t.F_law_some.kp t.b_law_some (pa_consD (pvD 0) (pa_consD (pvD 3) pa_nilD))) pa_nilD)) (pd_add pd_int (pd_call (ok_law_draw t) (takes_of rfl rfl rfl rfl) (hr.mono (by decide)) rfl t.m_law_draw t.F_law_draw.kp t.b_law_draw (pa_consD (pvD 0) (pa_consD pd_int pa_nilD)))))))))
    (qs_one (ps_retD (pd_add (pvD 2) (pd_lc (own := [("place", 5)]) false rfl sc_law_sum_of_cuts.nd (pi_rangeD2 rfl t.z_range (pa_consD pd_int (pa_consD (pvD 1) pa_nilD))) (blkOk_by (N := ["hand", "many", "found", "every", "turn", "place"]) (sc := (defScope s_law_sum_of_cuts)) (own := [("place", 5)]) (by decide +kernel)) (tg_name _ 5) (by decide) (fun _ _ _ _ _ => (pg_name (i := 5) sc_law_sum_of_cuts.nd rfl (by first | exact .inl rfl | exact .inr rfl))) (fun _ _ _ _ _ => pts_nilD) (fun _ _ _ _ _ => (pd_tup (pa_consD (pvD 5) pa_nilD)))))))))
theorem ok_law_parts (t : Tx K mg) : FnOk P w K mg base (L2.CX P w) 1 t.a_law_parts t.d_law_parts ["cut", "i", "j"] (spD ⟨K, T, mg⟩ 3 F_law_parts) :=
  def_fin (k := 0) t.F_law_parts sc_law_parts fun cdv A outer s H E hr =>
    (qs_one (ps_retD (pd_callT call_int1 does_int rfl t.z_int boot_int (pa_consD (pd_cmp (op_neD hr.units) does_ne (pd_cmp (or_in (hu65 hr)) does_in (pvD 1) (pvD 0) (by with_unfolding_all rfl)) (pd_cmp (or_in (hu65 hr)) does_in (pvD 2) (pvD 0) (by with_unfolding_all rfl)) (nomark _)) pa_nilD))))
theorem ok_law_table_of (t : Tx K mg) : FnOk P w K mg base (L2.CX P w) 2 t.a_law_table_of t.d_law_table_of ["many", "cuts"] (spD ⟨K, T, mg⟩ 2 F_law_table_of) :=
  def_fin (k := 1) t.F_law_table_of sc_law_table_of fun cdv A outer s H E hr =>
    (qs_cons (ps_setD (i := 2) sc_law_table_of.nd rfl (by first | exact .inl rfl | exact .inr rfl) (pd_lst true pa_nilD))
    (qs_cons (ps_forD (passes_of rfl) rfl (tg_name _ 3) (pi_rangeD1 rfl t.z_range (pa_consD (pvD 0) pa_nilD)) (pg_name (i := 3) sc_law_table_of.nd rfl (by first | exact .inl rfl | exact .inr rfl))
    (qs_one (ps_exprD (pd_extend (pvD 2) (pd_lc (own := [("j", 4)]) false rfl sc_law_table_of.nd (pi_rangeD2 rfl t.z_range (pa_consD (pd_add (pvD 3) pd_int) (pa_consD (pvD 0) pa_nilD))) (blkOk_by (N := ["many", "cuts", "numbers", "i", "j", "cut"]) (sc := (defScope s_law_table_of)) (own := [("j", 4)]) (by decide +kernel)) (tg_name _ 4) (by decide) (fun _ _ _ _ _ => (pg_name (i := 4) sc_law_table_of.nd rfl (by first | exact .inl rfl | exact .inr rfl))) (fun _ _ _ _ _ => pts_nilD) (fun _ _ _ _ _ => (pd_callB (cr_sum rfl) does_sum rfl t.z_sum boot_sum (pa_consD (pd_lcN (own := [("cut", 5)]) false rfl sc_law_table_of.nd (pi_seqD (pvD 1)) (blkOk_by (N := ["many", "cuts", "numbers", "i", "j", "cut"]) (own := [("cut", 5)]) (by decide +kernel)) (tg_name _ 5) (by decide) (fun _ _ _ _ _ => (pg_name (i := 5) sc_law_table_of.nd rfl (by first | exact .inl rfl | exact .inr rfl))) (fun _ _ _ _ _ => pts_nilD) (fun _ _ _ _ _ => (pd_call (ok_law_parts t) takes0 (hr.mono (by decide)) rfl t.m_law_parts t.F_law_parts.kp t.b_law_parts (pa_consD (pvD 5) (pa_consD (pvD 3) (pa_consD (pvD 4) pa_nilD)))))) pa_nilD))))))))
    (qs_one (ps_retD (pd_call (ok_law_of_pairs t) (takes_of rfl rfl rfl rfl) (hr.mono (by decide)) rfl t.m_law_of_pairs t.F_law_of_pairs.kp t.b_law_of_pairs (pa_consD (pvD 0) (pa_consD (pvD 2) pa_nilD)))))))
theorem ok_law_table (t : Tx K mg) : FnOk P w K mg base (L2.CX P w) 4 t.a_law_table t.d_law_table ["hand", "most"] (spD ⟨K, T, mg⟩ 2 F_law_table) :=
  def_fin (k := 3) t.F_law_table sc_law_table fun cdv A outer s H E hr =>
    (qs_cons (ps_parD (i := 2) (j := 3) rfl sc_law_table.nd rfl rfl (by decide) rfl rfl (pa_consD (pd_add pd_int (pd_call (ok_law_draw t) (takes_of rfl rfl rfl rfl) (hr.mono (by decide)) rfl t.m_law_draw t.F_law_draw.kp t.b_law_draw (pa_consD (pvD 0) (pa_consD (pvD 1) pa_nilD)))) (pa_consD (pd_call (ok_law_draw t) (takes_of rfl rfl rfl rfl) (hr.mono (by decide)) rfl t.m_law_draw t.F_law_draw.kp t.b_law_draw (pa_consD (pvD 0) (pa_consD pd_int pa_nilD))) pa_nilD)) rfl)
    (qs_cons (ps_ifD (pt_cmpD (op_eqD hr.units) does_eq (pvD 3) pd_int (nomark _)) (qs_cons (ps_setD (i := 4) sc_law_table.nd rfl (by first | exact .inl rfl | exact .inr rfl) (pd_slice false (pd_call (ok_law_mixed t) (takes_of rfl rfl rfl rfl) (hr.mono (by decide)) rfl t.m_law_mixed t.F_law_mixed.kp t.b_law_mixed (pa_consD (pvD 0) (pa_consD (pd_listR1 false rfl rfl t.z_list rfl t.z_range pd_int) pa_nilD))) po_noneD (po_someD (pvD 2))))
    (qs_one (ps_retD (pd_callT call_tuple_ofN does_tuple rfl t.z_tuple boot_tuple (pa_consD (pd_lc (own := [("one", 5)]) false rfl sc_law_table.nd (pi_seqD (pvD 4)) (blkOk_by (N := ["hand", "most", "many", "kind", "spots", "one", "other", "pair"]) (sc := (defScope s_law_table)) (own := [("one", 5)]) (by decide +kernel)) (tg_name _ 5) (by decide) (fun _ _ _ _ _ => (pg_name (i := 5) sc_law_table.nd rfl (by first | exact .inl rfl | exact .inr rfl))) (fun _ _ _ _ _ => pts_nilD) (fun _ _ _ _ _ => (pd_callT call_tuple_ofN does_tuple rfl t.z_tuple boot_tuple (pa_consD (pd_lcN (own := [("other", 6)]) false rfl sc_law_table.nd (pi_seqD (pvD 4)) (blkOk_by (N := ["hand", "most", "many", "kind", "spots", "one", "other", "pair"]) (own := [("other", 6)]) (by decide +kernel)) (tg_name _ 6) (by decide) (fun _ _ _ _ _ => (pg_name (i := 6) sc_law_table.nd rfl (by first | exact .inl rfl | exact .inr rfl))) (fun _ _ _ _ _ => pts_nilD) (fun _ _ _ _ _ => (pd_callB call_abs does_abs rfl t.z_abs boot_abs (pa_consD (pd_sub (pvD 5) (pvD 6)) pa_nilD)))) pa_nilD)))) pa_nilD))))) qs_nil)
    (qs_cons (ps_ifD (pt_cmpD (op_eqD hr.units) does_eq (pvD 3) pd_int (nomark _)) (qs_one (ps_retD (pd_call (ok_law_table_of t) (takes_of rfl rfl rfl rfl) (hr.mono (by decide)) rfl t.m_law_table_of t.F_law_table_of.kp t.b_law_table_of (pa_consD (pvD 2) (pa_consD (pd_call (ok_law_sum_of_cuts t) (takes_of rfl rfl rfl rfl) (hr.mono (by decide)) rfl t.m_law_sum_of_cuts t.F_law_sum_of_cuts.kp t.b_law_sum_of_cuts (pa_consD (pvD 0) (pa_consD (pvD 2) pa_nilD))) pa_nilD))))) qs_nil)
    (qs_cons (ps_ifD (pt_cmpD (op_eqD hr.units) does_eq (pvD 3) pd_int (nomark _)) (qs_one (ps_retD (pd_call (ok_law_of_pairs t) (takes_of rfl rfl rfl rfl) (hr.mono (by decide)) rfl t.m_law_of_pairs t.F_law_of_pairs.kp t.b_law_of_pairs (pa_consD (pvD 2) (pa_consD (pd_lc (own := [("pair", 7)]) false rfl sc_law_table.nd (pi_rangeD1 rfl t.z_range (pa_consD (pd_mul (pvD 2) (pvD 2)) pa_nilD)) (blkOk_by (N := ["hand", "most", "many", "kind", "spots", "one", "other", "pair"]) (sc := (defScope s_law_table)) (own := [("pair", 7)]) (by decide +kernel)) (tg_name _ 7) (by decide) (fun _ _ _ _ _ => (pg_name (i := 7) sc_law_table.nd rfl (by first | exact .inl rfl | exact .inr rfl))) (fun _ _ _ _ _ => pts_nilD) (fun _ _ _ _ _ => (pd_add pd_int (pd_call (ok_law_draw t) takes0 (hr.mono (by decide)) rfl t.m_law_draw t.F_law_draw.kp t.b_law_draw (pa_consD (pvD 0) (pa_consD pd_int pa_nilD)))))) pa_nilD))))) qs_nil)
    (qs_one (ps_retD (pd_call (ok_law_closed t) (takes_of rfl rfl rfl rfl) (hr.mono (by decide)) rfl t.m_law_closed t.F_law_closed.kp t.b_law_closed (pa_consD (pd_call (ok_law_any_table t) (takes_of rfl rfl rfl rfl) (hr.mono (by decide)) rfl t.m_law_any_table t.F_law_any_table.kp t.b_law_any_table (pa_consD (pvD 0) (pa_consD (pvD 2) (pa_consD (pd_call (ok_law_some t) (takes_of rfl rfl rfl rfl) (hr.mono (by decide)) rfl t.m_law_some t.F_law_some.kp t.b_law_some (pa_consD (pvD 0) (pa_consD (pd_lst false (pa_consD pd_int (pa_consD pd_int (pa_consD pd_int pa_nilD)))) pa_nilD))) pa_nilD)))) pa_nilD))))))))
theorem ok_law_renamed (t : Tx K mg) : FnOk P w K mg base (L2.CX P w) 1 t.a_law_renamed t.d_law_renamed ["table", "names"] (spD ⟨K, T, mg⟩ 2 F_law_renamed) :=
  def_fin (k := 0) t.F_law_renamed sc_law_renamed fun cdv A outer s H E hr =>
    (qs_cons (ps_setD (i := 2) sc_law_renamed.nd rfl (by first | exact .inl rfl | exact .inr rfl) (pd_callB call_len_seq does_len rfl t.z_len boot_len (pa_consD (pvD 0) pa_nilD)))
    (qs_cons (ps_setD (i := 3) sc_law_renamed.nd rfl (by first | exact .inl rfl | exact .inr rfl) (pd_lc (own := [("place", 4)]) false rfl sc_law_renamed.nd (pi_rangeD1 rfl t.z_range (pa_consD (pvD 2) pa_nilD)) (blkOk_by (N := ["table", "names", "many", "back", "place", "i", "j"]) (sc := (defScope s_law_renamed)) (own := [("place", 4)]) (by decide +kernel)) (tg_name _ 4) (by decide) (fun _ _ _ _ _ => (pg_name (i := 4) sc_law_renamed.nd rfl (by first | exact .inl rfl | exact .inr rfl))) (fun _ _ _ _ _ => pts_nilD) (fun _ _ _ _ _ => (pd_index (hu65 hr) (pvD 1) (pvD 4)))))
    (qs_one (ps_retD (pd_callT call_tuple_ofN does_tuple rfl t.z_tuple boot_tuple (pa_consD (pd_lc (own := [("i", 5)]) false rfl sc_law_renamed.nd (pi_rangeD1 rfl t.z_range (pa_consD (pvD 2) pa_nilD)) (blkOk_by (N := ["table", "names", "many", "back", "place", "i", "j"]) (sc := (defScope s_law_renamed)) (own := [("i", 5)]) (by decide +kernel)) (tg_name _ 5) (by decide) (fun _ _ _ _ _ => (pg_name (i := 5) sc_law_renamed.nd rfl (by first | exact .inl rfl | exact .inr rfl))) (fun _ _ _ _ _ => pts_nilD) (fun _ _ _ _ _ => (pd_callT call_tuple_ofN does_tuple rfl t.z_tuple boot_tuple (pa_consD (pd_lcN (own := [("j", 6)]) false rfl sc_law_renamed.nd (pi_rangeD1 rfl t.z_range (pa_consD (pvD 2) pa_nilD)) (blkOk_by (N := ["table", "names", "many", "back", "place", "i", "j"]) (own := [("j", 6)]) (by decide +kernel)) (tg_name _ 6) (by decide) (fun _ _ _ _ _ => (pg_name (i := 6) sc_law_renamed.nd rfl (by first | exact .inl rfl | exact .inr rfl))) (fun _ _ _ _ _ => pts_nilD) (fun _ _ _ _ _ => (pd_ix (pd_ix (pvD 0) (pd_ix (pvD 3) (pvD 5))) (pd_ix (pvD 3) (pvD 6))))) pa_nilD)))) pa_nilD))))))
theorem ok_law_drawn_table (t : Tx K mg) : FnOk P w K mg base (L2.CX P w) 5 t.a_law_drawn_table t.d_law_drawn_table ["hand", "most"] (spD ⟨K, T, mg⟩ 2 F_law_drawn_table) :=
  def_fin (k := 4) t.F_law_drawn_table sc_law_drawn_table fun cdv A outer s H E hr =>
    (qs_cons (ps_ifD (pt_cmpD (op_eqD hr.units) does_eq (pd_call (ok_law_draw t) (takes_of rfl rfl rfl rfl) (hr.mono (by decide)) rfl t.m_law_draw t.F_law_draw.kp t.b_law_draw (pa_consD (pvD 0) (pa_consD pd_int pa_nilD))) pd_int (nomark _)) (qs_one (ps_retD (pd_call (ok_law_closed t) (takes_of rfl rfl rfl rfl) (hr.mono (by decide)) rfl t.m_law_closed t.F_law_closed.kp t.b_law_closed (pa_consD (pd_call (ok_law_any_table t) (takes_of rfl rfl rfl rfl) (hr.mono (by decide)) rfl t.m_law_any_table t.F_law_any_table.kp t.b_law_any_table (pa_consD (pvD 0) (pa_consD (pd_add pd_int (pd_call (ok_law_draw t) (takes_of rfl rfl rfl rfl) (hr.mono (by decide)) rfl t.m_law_draw t.F_law_draw.kp t.b_law_draw (pa_consD (pvD 0) (pa_consD (pvD 1) pa_nilD)))) (pa_consD (pd_call (ok_law_some t) (takes_of rfl rfl rfl rfl) (hr.mono (by decide)) rfl t.m_law_some t.F_law_some.kp t.b_law_some (pa_consD (pvD 0) (pa_consD (pd_lst false (pa_consD pd_int (pa_consD pd_int (pa_consD pd_int pa_nilD)))) pa_nilD))) pa_nilD)))) pa_nilD)))) qs_nil)
    (qs_cons (ps_ifD (pt_cmpD (op_eqD hr.units) does_eq (pd_call (ok_law_draw t) (takes_of rfl rfl rfl rfl) (hr.mono (by decide)) rfl t.m_law_draw t.F_law_draw.kp t.b_law_draw (pa_consD (pvD 0) (pa_consD pd_int pa_nilD))) pd_int (nomark _)) (qs_one (ps_retD (pd_call (ok_law_table t) (takes_of rfl rfl rfl rfl) (hr.mono (by decide)) rfl t.m_law_table t.F_law_table.kp t.b_law_table (pa_consD (pvD 0) (pa_consD (pvD 1) pa_nilD))))) qs_nil)
    (qs_cons (ps_setD (i := 2) sc_law_drawn_table.nd rfl (by first | exact .inl rfl | exact .inr rfl) (pd_add pd_int (pd_call (ok_law_draw t) (takes_of rfl rfl rfl rfl) (hr.mono (by decide)) rfl t.m_law_draw t.F_law_draw.kp t.b_law_draw (pa_consD (pvD 0) (pa_consD (pvD 1) pa_nilD)))))
    (qs_cons (ps_setD (i := 3) sc_law_drawn_table.nd rfl (by first | exact .inl rfl | exact .inr rfl) (pd_lc (own := [("place", 10)]) false rfl sc_law_drawn_table.nd (pi_rangeD1 rfl t.z_range (pa_consD (pvD 2) pa_nilD)) (blkOk_by (N := ["hand", "most", "many", "rows", "gap", "i", "near", "j", "high", "wide", "place", "row"]) (sc := (defScope s_law_drawn_table)) (own := [("place", 10)]) (by decide +kernel)) (tg_name _ 10) (by decide) (fun _ _ _ _ _ => (pg_name (i := 10) sc_law_drawn_table.nd rfl (by first | exact .inl rfl | exact .inr rfl))) (fun _ _ _ _ _ => pts_nilD) (fun _ _ _ _ _ => (pd_rep true (pd_lst false (pa_consD pd_int pa_nilD)) (pvD 2)))))
    (qs_cons (ps_forD (passes_of rfl) rfl (tg_name _ 4) (pi_rangeD2 rfl t.z_range (pa_consD pd_int (pa_consD (pvD 2) pa_nilD))) (pg_name (i := 4) sc_law_drawn_table.nd rfl (by first | exact .inl rfl | exact .inr rfl))
    (qs_one (ps_forD (passes_of rfl) rfl (tg_name _ 5) (pi_rangeD1 rfl t.z_range (pa_consD (pd_sub (pvD 2) (pvD 4)) pa_nilD)) (pg_name (i := 5) sc_law_drawn_table.nd rfl (by first | exact .inl rfl | exact .inr rfl))
    (qs_cons (ps_setD (i := 6) sc_law_drawn_table.nd rfl (by first | exact .inl rfl | exact .inr rfl) (pd_lst false (pa_consD (pd_ix (pd_ix (pvD 3) (pvD 5)) (pd_sub (pd_add (pvD 5) (pvD 4)) pd_int)) (pa_consD (pd_ix (pd_ix (pvD 3) (pd_add (pvD 5) pd_int)) (pd_add (pvD 5) (pvD 4))) (pa_consD pd_int pa_nilD)))))
    (qs_cons (ps_setIxD (pd_ix (pvD 3) (pvD 5)) (pd_add (pvD 5) (pvD 4)) (pd_add (pd_callB (cr_max rfl) does_max1 rfl t.z_max boot_max (pa_consD (pvD 6) pa_nilD)) (pd_call (ok_law_some t) (takes_of rfl rfl rfl rfl) (hr.mono (by decide)) rfl t.m_law_some t.F_law_some.kp t.b_law_some (pa_consD (pvD 0) (pa_consD (pd_lst false (pa_consD pd_int (pa_consD pd_int (pa_consD pd_int (pa_consD pd_int pa_nilD))))) pa_nilD)))))
    (qs_one (ps_setIxD (pd_ix (pvD 3) (pd_add (pvD 5) (pvD 4))) (pvD 5) (pd_ix (pd_ix (pvD 3) (pvD 5)) (pd_add (pvD 5) (pvD 4))))))))))
    (qs_cons (ps_ifD (pt_pw (pw_andD (pt_cmpD (op_eqD hr.units) does_eq (pd_call (ok_law_draw t) (takes_of rfl rfl rfl rfl) (hr.mono (by decide)) rfl t.m_law_draw t.F_law_draw.kp t.b_law_draw (pa_consD (pvD 0) (pa_consD pd_int pa_nilD))) pd_int (nomark _)) (pw_andD1 (pt_cmpD op_gt does_cmp (pvD 2) pd_int (nomark _))))) (qs_cons (ps_asgD (tg_twoL (tg_name _ 5) (tg_name _ 7)) (pd_slice false (pd_call (ok_law_mixed t) (takes_of rfl rfl rfl rfl) (hr.mono (by decide)) rfl t.m_law_mixed t.F_law_mixed.kp t.b_law_mixed (pa_consD (pvD 0) (pa_consD (pd_listR1 false rfl rfl t.z_list rfl t.z_range (pvD 2)) pa_nilD))) po_noneD (po_someD pd_int)) (pg_lst rfl (pgs_cons (pg_name (i := 5) sc_law_drawn_table.nd rfl (by first | exact .inl rfl | exact .inr rfl)) (pgs_cons (pg_name (i := 7) sc_law_drawn_table.nd rfl (by first | exact .inl rfl | exact .inr rfl)) pgs_nil))))
    (qs_cons (ps_setIxD (pd_ix (pvD 3) (pvD 5)) (pvD 7) (pd_add pd_int (pd_call (ok_law_draw t) (takes_of rfl rfl rfl rfl) (hr.mono (by decide)) rfl t.m_law_draw t.F_law_draw.kp t.b_law_draw (pa_consD (pvD 0) (pa_consD pd_int pa_nilD)))))
    (qs_one (ps_setIxD (pd_ix (pvD 3) (pvD 7)) (pvD 5) (pd_ix (pd_ix (pvD 3) (pvD 5)) (pvD 7)))))) qs_nil)
    (qs_cons (ps_setD (i := 8) sc_law_drawn_table.nd rfl (by first | exact .inl rfl | exact .inr rfl) (pe_ifD (pt_cmpD (op_eqD hr.units) does_eq (pd_call (ok_law_draw t) (takes_of rfl rfl rfl rfl) (hr.mono (by decide)) rfl t.m_law_draw t.F_law_draw.kp t.b_law_draw (pa_consD (pvD 0) (pa_consD pd_int pa_nilD))) pd_int (nomark _)) (pd_callB (cr_max rfl) does_max1 rfl t.z_max boot_max (pa_consD (pd_lc (own := [("row", 11)]) false rfl sc_law_drawn_table.nd (pi_seqD (pvD 3)) (blkOk_by (N := ["hand", "most", "many", "rows", "gap", "i", "near", "j", "high", "wide", "place", "row"]) (sc := (defScope s_law_drawn_table)) (own := [("row", 11)]) (by decide +kernel)) (tg_name _ 11) (by decide) (fun _ _ _ _ _ => (pg_name (i := 11) sc_law_drawn_table.nd rfl (by first | exact .inl rfl | exact .inr rfl))) (fun _ _ _ _ _ => pts_nilD) (fun _ _ _ _ _ => (pd_callB (cr_max rfl) does_max1 rfl t.z_max boot_max (pa_consD (pvD 11) pa_nilD)))) pa_nilD)) pd_int))
    (qs_cons (ps_setD (i := 9) sc_law_drawn_table.nd rfl (by first | exact .inl rfl | exact .inr rfl) (pd_lst true pa_nilD))
    (qs_cons (ps_forD (passes_of rfl) rfl (tg_name _ 5) (pi_rangeD1 rfl t.z_range (pa_consD (pvD 2) pa_nilD)) (pg_name (i := 5) sc_law_drawn_table.nd rfl (by first | exact .inl rfl | exact .inr rfl))
    (qs_one (ps_exprD (pd_append (pvD 9) (pd_callT call_tuple_ofN does_tuple rfl t.z_tuple boot_tuple (pa_consD (pd_lc (own := [("j", 7)]) false rfl sc_law_drawn_table.nd (pi_rangeD1 rfl t.z_range (pa_consD (pvD 2) pa_nilD)) (blkOk_by (N := ["hand", "most", "many", "rows", "gap", "i", "near", "j", "high", "wide", "place", "row"]) (sc := (defScope s_law_drawn_table)) (own := [("j", 7)]) (by decide +kernel)) (tg_name _ 7) (by decide) (fun _ _ _ _ _ => (pg_name (i := 7) sc_law_drawn_table.nd rfl (by first | exact .inl rfl | exact .inr rfl))) (fun _ _ _ _ _ => pts_nilD) (fun _ _ _ _ _ => (pd_add (pd_ix (pd_ix (pvD 3) (pvD 5)) (pvD 7)) (pd_mul (pvD 8) (pd_callT call_int1 does_int rfl t.z_int boot_int (pa_consD (pd_cmp (op_neD hr.units) does_ne (pvD 5) (pvD 7) (nomark _)) pa_nilD)))))) pa_nilD))))))
    (qs_one (ps_retD (pd_call (ok_law_renamed t) (takes_of rfl rfl rfl rfl) (hr.mono (by decide)) rfl t.m_law_renamed t.F_law_renamed.kp t.b_law_renamed (pa_consD (pd_call (ok_law_closed t) (takes_of rfl rfl rfl rfl) (hr.mono (by decide)) rfl t.m_law_closed t.F_law_closed.kp t.b_law_closed (pa_consD (pd_callT call_tuple_ofN does_tuple rfl t.z_tuple boot_tuple (pa_consD (pvD 9) pa_nilD)) pa_nilD)) (pa_consD (pd_call (ok_law_mixed t) (takes_of rfl rfl rfl rfl) (hr.mono (by decide)) rfl t.m_law_mixed t.F_law_mixed.kp t.b_law_mixed (pa_consD (pvD 0) (pa_consD (pd_listR1 false rfl rfl t.z_list rfl t.z_range (pvD 2)) pa_nilD))) pa_nilD))))))))))))))
theorem ok_law_rows (t : Tx K mg) : FnOk P w K mg base (L2.CX P w) 1 t.a_law_rows t.d_law_rows ["many"] (spD ⟨K, T, mg⟩ 1 F_law_rows) :=
  def_fin (k := 0) t.F_law_rows sc_law_rows fun cdv A outer s H E hr =>
    (qs_cons (ps_setD (i := 1) sc_law_rows.nd rfl (by first | exact .inl rfl | exact .inr rfl) (pd_lst false (pa_consD (pd_tup pa_nilD) pa_nilD)))
    (qs_cons (ps_forD (passes_of rfl) rfl (tg_name _ 2) (pi_rangeD1 rfl t.z_range (pa_consD (pvD 0) pa_nilD)) (pg_name (i := 2) sc_law_rows.nd rfl (by first | exact .inl rfl | exact .inr rfl))
    (qs_cons (ps_setD (i := 3) sc_law_rows.nd rfl (by first | exact .inl rfl | exact .inr rfl) (pd_lst true pa_nilD))
    (qs_cons (ps_forD (passes_of rfl) rfl (tg_name _ 4) (pi_seqD (pvD 1)) (pg_name (i := 4) sc_law_rows.nd rfl (by first | exact .inl rfl | exact .inr rfl))
    (qs_one (ps_exprD (pd_extend (pvD 3) (pd_lc (own := [("place", 5)]) false rfl sc_law_rows.nd (pi_rangeD1 rfl t.z_range (pa_consD (pvD 0) pa_nilD)) (blkOk_by (N := ["many", "found", "turn", "longer", "row", "place"]) (sc := (defScope s_law_rows)) (own := [("place", 5)]) (by decide +kernel)) (tg_name _ 5) (by decide) (fun _ _ _ _ _ => (pg_name (i := 5) sc_law_rows.nd rfl (by first | exact .inl rfl | exact .inr rfl))) (fun _ _ _ _ _ => (pts_oneD (pt_cmpD (or_notIn (hu65 hr)) does_notIn (pvD 5) (pvD 4) (by with_unfolding_all rfl)))) (fun _ _ _ _ _ => (pd_add (pvD 4) (pd_tup (pa_consD (pvD 5) pa_nilD)))))))))
    (qs_one (ps_setD (i := 1) sc_law_rows.nd rfl (by first | exact .inl rfl | exact .inr rfl) (pvD 3))))))
    (qs_one (ps_retD (pvD 1)))))
theorem ok_law_falls (t : Tx K mg) : FnOk P w K mg base (L2.CX P w) 1 t.a_law_falls t.d_law_falls ["table", "row"] (spD ⟨K, T, mg⟩ 2 F_law_falls) :=
  def_fin (k := 0) t.F_law_falls sc_law_falls fun cdv A outer s H E hr =>
    (qs_cons (ps_setD (i := 2) sc_law_falls.nd rfl (by first | exact .inl rfl | exact .inr rfl) (pd_lst true pa_nilD))
    (qs_cons (ps_forD (passes_of rfl) rfl (tg_name _ 3) (pi_rangeD1 rfl t.z_range (pa_consD (pd_callB call_len_seq does_len rfl t.z_len boot_len (pa_consD (pvD 1) pa_nilD)) pa_nilD)) (pg_name (i := 3) sc_law_falls.nd rfl (by first | exact .inl rfl | exact .inr rfl))
    (qs_one (ps_forD (passes_of rfl) rfl (tg_name _ 4) (pi_rangeD2 rfl t.z_range (pa_consD (pd_add (pvD 3) pd_int) (pa_consD (pd_callB call_len_seq does_len rfl t.z_len boot_len (pa_consD (pvD 1) pa_nilD)) pa_nilD))) (pg_name (i := 4) sc_law_falls.nd rfl (by first | exact .inl rfl | exact .inr rfl))
    (qs_one (ps_forD (passes_of rfl) rfl (tg_name _ 5) (pi_rangeD2 rfl t.z_range (pa_consD (pd_add (pvD 4) pd_int) (pa_consD (pd_callB call_len_seq does_len rfl t.z_len boot_len (pa_consD (pvD 1) pa_nilD)) pa_nilD))) (pg_name (i := 5) sc_law_falls.nd rfl (by first | exact .inl rfl | exact .inr rfl))
    (qs_cons (ps_par3D (i := 6) (j := 7) (l := 8) rfl sc_law_falls.nd rfl rfl rfl (by decide) (by decide) (by decide) rfl rfl rfl (pa_consD (pd_ix (pvD 1) (pvD 3)) (pa_consD (pd_ix (pvD 1) (pvD 4)) (pa_consD (pd_ix (pvD 1) (pvD 5)) pa_nilD))) rfl)
    (qs_one (ps_ifD (pt_pw (pw_orD (pt_cmpD op_lt does_cmp (pd_ix (pd_ix (pvD 0) (pvD 6)) (pvD 8)) (pd_ix (pd_ix (pvD 0) (pvD 6)) (pvD 7)) (nomark _)) (pw_orD1 (pt_cmpD op_lt does_cmp (pd_ix (pd_ix (pvD 0) (pvD 6)) (pvD 8)) (pd_ix (pd_ix (pvD 0) (pvD 7)) (pvD 8)) (nomark _))))) (qs_one (ps_exprD (pd_append (pvD 2) (pd_tup (pa_consD (pvD 3) (pa_consD (pvD 4) (pa_consD (pvD 5) pa_nilD))))))) qs_nil))))))))
    (qs_one (ps_retD (pvD 2)))))
theorem ok_law_nearest (t : Tx K mg) : FnOk P w K mg base (L2.CX P w) 1 t.a_law_nearest t.d_law_nearest ["table", "row"] (spD ⟨K, T, mg⟩ 2 F_law_nearest) :=
  def_fin (k := 0) t.F_law_nearest sc_law_nearest fun cdv A outer s H E hr =>
    (qs_cons (ps_setD (i := 2) sc_law_nearest.nd rfl (by first | exact .inl rfl | exact .inr rfl) (pd_callB call_len_seq does_len rfl t.z_len boot_len (pa_consD (pvD 1) pa_nilD)))
    (qs_cons (ps_setLcD (own := [("place", 8)]) (i := 3) false rfl sc_law_nearest.nd rfl rfl (sw_true rfl rfl rfl (by decide +kernel)) (pi_rangeD1 rfl t.z_range (pa_consD (pvD 2) pa_nilD)) (blkOk_by (N := ["table", "row", "many", "rows", "a", "b", "inner", "x", "place", "y", "line"]) (sc := (defScope s_law_nearest)) (own := [("place", 8)]) (by decide +kernel)) (tg_name _ 8) (by decide) (fun _ _ _ _ _ => (pg_name (i := 8) sc_law_nearest.nd rfl (by first | exact .inl rfl | exact .inr rfl))) (fun _ _ _ _ _ => pts_nilD) (fun _ _ _ _ _ => (pd_rep true (pd_lst false (pa_consD pd_int pa_nilD)) (pvD 2))))
    (qs_cons (ps_forD (passes_of rfl) rfl (tg_name _ 4) (pi_rangeD1 rfl t.z_range (pa_consD (pvD 2) pa_nilD)) (pg_name (i := 4) sc_law_nearest.nd rfl (by first | exact .inl rfl | exact .inr rfl))
    (qs_one (ps_forD (passes_of rfl) rfl (tg_name _ 5) (pi_rangeD2 rfl t.z_range (pa_consD (pd_add (pvD 4) pd_int) (pa_consD (pvD 2) pa_nilD))) (pg_name (i := 5) sc_law_nearest.nd rfl (by first | exact .inl rfl | exact .inr rfl))
    (qs_cons (ps_setD (i := 6) sc_law_nearest.nd rfl (by first | exact .inl rfl | exact .inr rfl) (pd_lst true pa_nilD))
    (qs_cons (ps_forD (passes_of rfl) rfl (tg_name _ 7) (pi_rangeD2 rfl t.z_range (pa_consD (pvD 4) (pa_consD (pd_add (pvD 5) pd_int) pa_nilD))) (pg_name (i := 7) sc_law_nearest.nd rfl (by first | exact .inl rfl | exact .inr rfl))
    (qs_one (ps_exprD (pd_extend (pvD 6) (pd_lc (own := [("y", 9)]) false rfl sc_law_nearest.nd (pi_rangeD2 rfl t.z_range (pa_consD (pvD 7) (pa_consD (pd_add (pvD 5) pd_int) pa_nilD))) (blkOk_by (N := ["table", "row", "many", "rows", "a", "b", "inner", "x", "place", "y", "line"]) (sc := (defScope s_law_nearest)) (own := [("y", 9)]) (by decide +kernel)) (tg_name _ 9) (by decide) (fun _ _ _ _ _ => (pg_name (i := 9) sc_law_nearest.nd rfl (by first | exact .inl rfl | exact .inr rfl))) (fun _ _ _ _ _ => pts_nilD) (fun _ _ _ _ _ => (pd_ix (pd_ix (pvD 0) (pd_ix (pvD 1) (pvD 7))) (pd_ix (pvD 1) (pvD 9)))))))))
    (qs_cons (ps_setIxD (pd_ix (pvD 3) (pd_ix (pvD 1) (pvD 4))) (pd_ix (pvD 1) (pvD 5)) (pd_callB (cr_max rfl) does_max1 rfl t.z_max boot_max (pa_consD (pvD 6) pa_nilD)))
    (qs_one (ps_setIxD (pd_ix (pvD 3) (pd_ix (pvD 1) (pvD 5))) (pd_ix (pvD 1) (pvD 4)) (pd_callB (cr_max rfl) does_max1 rfl t.z_max boot_max (pa_consD (pvD 6) pa_nilD))))))))))
    (qs_one (ps_retD (pd_callT call_tuple_ofN does_tuple rfl t.z_tuple boot_tuple (pa_consD (pd_lc (own := [("line", 10)]) false rfl sc_law_nearest.nd (pi_seqD (pvD 3)) (blkOk_by (N := ["table", "row", "many", "rows", "a", "b", "inner", "x", "place", "y", "line"]) (sc := (defScope s_law_nearest)) (own := [("line", 10)]) (by decide +kernel)) (tg_name _ 10) (by decide) (fun _ _ _ _ _ => (pg_name (i := 10) sc_law_nearest.nd rfl (by first | exact .inl rfl | exact .inr rfl))) (fun _ _ _ _ _ => pts_nilD) (fun _ _ _ _ _ => (pd_callT call_tuple_ofN does_tuple rfl t.z_tuple boot_tuple (pa_consD (pvD 10) pa_nilD)))) pa_nilD)))))))
theorem ok_law_off_by (t : Tx K mg) : FnOk P w K mg base (L2.CX P w) 2 t.a_law_off_by t.d_law_off_by ["table", "row"] (spD ⟨K, T, mg⟩ 2 F_law_off_by) :=
  def_fin (k := 1) t.F_law_off_by sc_law_off_by fun cdv A outer s H E hr =>
    (qs_cons (ps_setD (i := 2) sc_law_off_by.nd rfl (by first | exact .inl rfl | exact .inr rfl) (pd_call (ok_law_nearest t) (takes_of rfl rfl rfl rfl) (hr.mono (by decide)) rfl t.m_law_nearest t.F_law_nearest.kp t.b_law_nearest (pa_consD (pvD 0) (pa_consD (pvD 1) pa_nilD))))
    (qs_one (ps_retD (pd_callB (cr_max rfl) does_max1 rfl t.z_max boot_max (pa_consD (pd_lc (own := [("line", 3), ("plain", 4)]) false rfl sc_law_off_by.nd (pi_zipD rfl t.z_zip (pa_consD (pvD 2) (pa_consD (pvD 0) pa_nilD))) (blkOk_by (N := ["table", "row", "near", "line", "plain", "one", "other"]) (sc := (defScope s_law_off_by)) (own := [("line", 3), ("plain", 4)]) (by decide +kernel)) (tg_two (tg_name _ 3) (tg_name _ 4)) (by decide) (fun _ _ _ _ _ => (pg_tup rfl (pgs_cons (pg_name (i := 3) sc_law_off_by.nd rfl (by first | exact .inl rfl | exact .inr rfl)) (pgs_cons (pg_name (i := 4) sc_law_off_by.nd rfl (by first | exact .inl rfl | exact .inr rfl)) pgs_nil)))) (fun _ _ _ _ _ => pts_nilD) (fun _ _ _ _ _ => (pd_callB (cr_max rfl) does_max1 rfl t.z_max boot_max (pa_consD (pd_lcN (own := [("one", 5), ("other", 6)]) false rfl sc_law_off_by.nd (pi_zipD rfl t.z_zip (pa_consD (pvD 3) (pa_consD (pvD 4) pa_nilD))) (blkOk_by (N := ["table", "row", "near", "line", "plain", "one", "other"]) (own := [("one", 5), ("other", 6)]) (by decide +kernel)) (tg_two (tg_name _ 5) (tg_name _ 6)) (by decide) (fun _ _ _ _ _ => (pg_tup rfl (pgs_cons (pg_name (i := 5) sc_law_off_by.nd rfl (by first | exact .inl rfl | exact .inr rfl)) (pgs_cons (pg_name (i := 6) sc_law_off_by.nd rfl (by first | exact .inl rfl | exact .inr rfl)) pgs_nil)))) (fun _ _ _ _ _ => pts_nilD) (fun _ _ _ _ _ => (pd_sub (pvD 5) (pvD 6)))) pa_nilD)))) pa_nilD)))))
theorem ok_does_rise (t : Tx K mg) : FnOk P w K mg base (L2.CX P w) 7 t.a_does_rise t.d_does_rise ["table", "row"] (spD ⟨K, T, mg⟩ 2 F_does_rise) :=
  def_fin (k := 6) t.F_does_rise sc_does_rise fun cdv A outer s H E hr =>
    (qs_cons (ps_exprD (pd_call (ok_check_row t) (takes_of rfl rfl rfl rfl) (hr.mono (by decide)) rfl t.m_check_row t.F_check_row.kp t.b_check_row (pa_consD (pvD 0) (pa_consD (pvD 1) pa_nilD))))
    (qs_one (ps_retD (pd_cmp (op_eqD hr.units) does_eq (pd_callB call_len_seq does_len rfl t.z_len boot_len (pa_consD (pd_call (ok_falls_of t) (takes_of rfl rfl rfl rfl) (hr.mono (by decide)) rfl t.m_falls_of t.F_falls_of.kp t.b_falls_of (pa_consD (pvD 0) (pa_consD (pvD 1) pa_nilD))) pa_nilD)) pd_int (nomark _)))))
theorem ok_falls (t : Tx K mg) : FnOk P w K mg base (L2.CX P w) 7 t.a_falls t.d_falls ["table", "row"] (spD ⟨K, T, mg⟩ 2 F_falls) :=
  def_fin (k := 6) t.F_falls sc_falls fun cdv A outer s H E hr =>
    (qs_cons (ps_exprD (pd_call (ok_check_row t) (takes_of rfl rfl rfl rfl) (hr.mono (by decide)) rfl t.m_check_row t.F_check_row.kp t.b_check_row (pa_consD (pvD 0) (pa_consD (pvD 1) pa_nilD))))
    (qs_one (ps_retD (pd_callB call_len_seq does_len rfl t.z_len boot_len (pa_consD (pd_call (ok_falls_of t) (takes_of rfl rfl rfl rfl) (hr.mono (by decide)) rfl t.m_falls_of t.F_falls_of.kp t.b_falls_of (pa_consD (pvD 0) (pa_consD (pvD 1) pa_nilD))) pa_nilD)))))
theorem ok_law_row_right (t : Tx K mg) : FnG P w K mg base (L2.CX P w) 8 t.a_law_row_right t.d_law_row_right ["hand", "table", "row"] (spD ⟨K, T, mg⟩ 3 F_law_row_right) :=
  def_finG (k := 7) t.F_law_row_right sc_law_row_right fun cdv hcode A outer s H E hr hgd =>
    (qs_cons (ps_setD (i := 3) sc_law_row_right.nd rfl (by first | exact .inl rfl | exact .inr rfl) (pd_call (ok_law_nearest t) (takes_of rfl rfl rfl rfl) (hr.mono (by decide)) rfl t.m_law_nearest t.F_law_nearest.kp t.b_law_nearest (pa_consD (pvD 1) (pa_consD (pvD 2) pa_nilD))))
    (qs_cons (ps_setD (i := 4) sc_law_row_right.nd rfl (by first | exact .inl rfl | exact .inr rfl) (pd_lst false (pa_consD (pd_call (ok_nearest_rising t) (takes_of rfl rfl rfl rfl) (hr.mono (by decide)) rfl t.m_nearest_rising t.F_nearest_rising.kp t.b_nearest_rising (pa_consD (pvD 1) (pa_consD (pvD 2) pa_nilD))) (pa_consD (pd_call (ok_nearest_rising t) (takes_of rfl rfl rfl rfl) (hr.mono (by decide)) rfl t.m_nearest_rising t.F_nearest_rising.kp t.b_nearest_rising (pa_consD (pvD 1) (pa_consD (pd_revT (pvD 2)) pa_nilD))) (pa_consD (pd_call (ok_over_by t) (takes_of rfl rfl rfl rfl) (hr.mono (by decide)) rfl t.m_over_by t.F_over_by.kp t.b_over_by (pa_consD (pvD 1) (pa_consD (pvD 2) pa_nilD))) (pa_consD (pd_call (ok_falls t) (takes_of rfl rfl rfl rfl) (hr.mono (by decide)) rfl t.m_falls t.F_falls.kp t.b_falls (pa_consD (pvD 1) (pa_consD (pvD 2) pa_nilD))) pa_nilD))))))
    (qs_cons (ps_ifD (pt_notD (pt_tru (pd_callG (ok_law_is t) (takes_of rfl rfl rfl rfl) (hr.mono (by decide)) hgd rfl t.m_law_is t.F_law_is.kp t.b_law_is (pa_consD (pvD 4) (pa_consD (pd_lst false (pa_consD (pvD 3) (pa_consD (pvD 3) (pa_consD (pd_call (ok_law_off_by t) (takes_of rfl rfl rfl rfl) (hr.mono (by decide)) rfl t.m_law_off_by t.F_law_off_by.kp t.b_law_off_by (pa_consD (pvD 1) (pa_consD (pvD 2) pa_nilD))) (pa_consD (pd_callB call_len_seq does_len rfl t.z_len boot_len (pa_consD (pd_call (ok_law_falls t) (takes_of rfl rfl rfl rfl) (hr.mono (by decide)) rfl t.m_law_falls t.F_law_falls.kp t.b_law_falls (pa_consD (pvD 1) (pa_consD (pvD 2) pa_nilD))) pa_nilD)) pa_nilD))))) pa_nilD))))) (qs_one (ps_retD pd_bl)) qs_nil)
    (qs_cons (ps_ifD (pt_pw (pw_orD (pt_cmpD op_gt does_cmp (pd_callB call_len_seq does_len rfl t.z_len boot_len (pa_consD (pd_call (ok_law_falls t) (takes_of rfl rfl rfl rfl) (hr.mono (by decide)) rfl t.m_law_falls t.F_law_falls.kp t.b_law_falls (pa_consD (pvD 3) (pa_consD (pvD 2) pa_nilD))) pa_nilD)) pd_int (nomark _)) (pw_orD1 (pt_cmpD (op_neD hr.units) does_ne (pd_cmp (op_eqD hr.units) does_eq (pvD 3) (pvD 1) (nomark _)) (pd_cmp op_is_bl does_isBl (pd_call (ok_does_rise t) (takes_of rfl rfl rfl rfl) (hr.mono (by decide)) rfl t.m_does_rise t.F_does_rise.kp t.b_does_rise (pa_consD (pvD 1) (pa_consD (pvD 2) pa_nilD))) pd_bl (nomark _)) (nomark _))))) (qs_one (ps_retD pd_bl)) qs_nil)
    (qs_cons (ps_setD (i := 5) sc_law_row_right.nd rfl (by first | exact .inl rfl | exact .inr rfl) (pd_lst true pa_nilD))
    (qs_cons (ps_forD (passes_of rfl) rfl (tg_name _ 6) (pi_rangeD1 rfl t.z_range (pa_consD (pd_callB call_len_seq does_len rfl t.z_len boot_len (pa_consD (pvD 1) pa_nilD)) pa_nilD)) (pg_name (i := 6) sc_law_row_right.nd rfl (by first | exact .inl rfl | exact .inr rfl))
    (qs_one (ps_exprD (pd_extend (pvD 5) (pd_lc (own := [("j", 7)]) false rfl sc_law_row_right.nd (pi_rangeD1 rfl t.z_range (pa_consD (pvD 6) pa_nilD)) (blkOk_by (N := ["hand", "table", "row", "due", "told", "higher", "i", "j", "rows", "line"]) (sc := (defScope s_law_row_right)) (own := [("j", 7)]) (by decide +kernel)) (tg_name _ 7) (by decide) (fun _ _ _ _ _ => (pg_name (i := 7) sc_law_row_right.nd rfl (by first | exact .inl rfl | exact .inr rfl))) (fun _ _ _ _ _ => (pts_oneD (pt_cmpD op_gt does_cmp (pd_ix (pd_ix (pvD 3) (pvD 6)) (pvD 7)) (pd_ix (pd_ix (pvD 1) (pvD 6)) (pvD 7)) (nomark _)))) (fun _ _ _ _ _ => (pd_tup (pa_consD (pvD 6) (pa_consD (pvD 7) pa_nilD)))))))))
    (qs_cons (ps_ifD (pt_cmpD (op_eqD hr.units) does_eq (pd_callB call_len_seq does_len rfl t.z_len boot_len (pa_consD (pvD 5) pa_nilD)) pd_int (nomark _)) (qs_one (ps_retD pd_bl)) qs_nil)
    (qs_cons (ps_asgD (tg_two (tg_name _ 6) (tg_name _ 7)) (pd_call (ok_law_some t) (takes_of rfl rfl rfl rfl) (hr.mono (by decide)) rfl t.m_law_some t.F_law_some.kp t.b_law_some (pa_consD (pvD 0) (pa_consD (pvD 5) pa_nilD))) (pg_tup rfl (pgs_cons (pg_name (i := 6) sc_law_row_right.nd rfl (by first | exact .inl rfl | exact .inr rfl)) (pgs_cons (pg_name (i := 7) sc_law_row_right.nd rfl (by first | exact .inl rfl | exact .inr rfl)) pgs_nil))))
    (qs_cons (ps_setLcD (own := [("line", 9)]) (i := 8) false rfl sc_law_row_right.nd rfl rfl (sw_true rfl rfl rfl (by decide +kernel)) (pi_seqD (pvD 3)) (blkOk_by (N := ["hand", "table", "row", "due", "told", "higher", "i", "j", "rows", "line"]) (sc := (defScope s_law_row_right)) (own := [("line", 9)]) (by decide +kernel)) (tg_name _ 9) (by decide) (fun _ _ _ _ _ => (pg_name (i := 9) sc_law_row_right.nd rfl (by first | exact .inl rfl | exact .inr rfl))) (fun _ _ _ _ _ => pts_nilD) (fun _ _ _ _ _ => (pd_callT call_list_of (does_list true) rfl t.z_list boot_list (pa_consD (pvD 9) pa_nilD))))
    (qs_cons (ps_setIxD (pd_ix (pvD 8) (pvD 6)) (pvD 7) (pd_sub (pd_ix (pd_ix (pvD 8) (pvD 6)) (pvD 7)) pd_int))
    (qs_cons (ps_setIxD (pd_ix (pvD 8) (pvD 7)) (pvD 6) (pd_ix (pd_ix (pvD 8) (pvD 6)) (pvD 7)))
    (qs_one (ps_retD (pd_cmp op_gt does_cmp (pd_callB call_len_seq does_len rfl t.z_len boot_len (pa_consD (pd_call (ok_law_falls t) (takes_of rfl rfl rfl rfl) (hr.mono (by decide)) rfl t.m_law_falls t.F_law_falls.kp t.b_law_falls (pa_consD (pvD 8) (pa_consD (pvD 2) pa_nilD))) pa_nilD)) pd_int (nomark _)))))))))))))))
theorem ok_law_case_right (t : Tx K mg) : FnG P w K mg base (L2.CX P w) 9 t.a_law_case_right t.d_law_case_right ["hand", "table"] (spD ⟨K, T, mg⟩ 2 F_law_case_right) :=
  def_finG (k := 8) t.F_law_case_right sc_law_case_right fun cdv hcode A outer s H E hr hgd =>
    (qs_cons (ps_setD (i := 2) sc_law_case_right.nd rfl (by first | exact .inl rfl | exact .inr rfl) (pd_call (ok_law_rows t) (takes_of rfl rfl rfl rfl) (hr.mono (by decide)) rfl t.m_law_rows t.F_law_rows.kp t.b_law_rows (pa_consD (pd_callB call_len_seq does_len rfl t.z_len boot_len (pa_consD (pvD 1) pa_nilD)) pa_nilD)))
    (qs_cons (ps_setD (i := 3) sc_law_case_right.nd rfl (by first | exact .inl rfl | exact .inr rfl) (pd_callB (cr_minP rfl (hu65 hr)) (does_bestP _) rfl t.z_min boot_min (pa_consD (pd_lc (own := [("row", 6)]) false rfl sc_law_case_right.nd (pi_seqD (pvD 2)) (blkOk_by (N := ["hand", "table", "every", "least", "over", "some", "row", "turn"]) (sc := (defScope s_law_case_right)) (own := [("row", 6)]) (by decide +kernel)) (tg_name _ 6) (by decide) (fun _ _ _ _ _ => (pg_name (i := 6) sc_law_case_right.nd rfl (by first | exact .inl rfl | exact .inr rfl))) (fun _ _ _ _ _ => pts_nilD) (fun _ _ _ _ _ => (pd_tup (pa_consD (pd_callB call_len_seq does_len rfl t.z_len boot_len (pa_consD (pd_call (ok_law_falls t) takes0 (hr.mono (by decide)) rfl t.m_law_falls t.F_law_falls.kp t.b_law_falls (pa_consD (pvD 1) (pa_consD (pvD 6) pa_nilD))) pa_nilD)) (pa_consD (pvD 6) pa_nilD))))) pa_nilD)))
    (qs_cons (ps_setD (i := 4) sc_law_case_right.nd rfl (by first | exact .inl rfl | exact .inr rfl) (pd_callB (cr_minP rfl (hu65 hr)) (does_bestP _) rfl t.z_min boot_min (pa_consD (pd_lc (own := [("row", 6)]) false rfl sc_law_case_right.nd (pi_seqD (pvD 2)) (blkOk_by (N := ["hand", "table", "every", "least", "over", "some", "row", "turn"]) (sc := (defScope s_law_case_right)) (own := [("row", 6)]) (by decide +kernel)) (tg_name _ 6) (by decide) (fun _ _ _ _ _ => (pg_name (i := 6) sc_law_case_right.nd rfl (by first | exact .inl rfl | exact .inr rfl))) (fun _ _ _ _ _ => pts_nilD) (fun _ _ _ _ _ => (pd_tup (pa_consD (pd_call (ok_law_off_by t) takes0 (hr.mono (by decide)) rfl t.m_law_off_by t.F_law_off_by.kp t.b_law_off_by (pa_consD (pvD 1) (pa_consD (pvD 6) pa_nilD))) (pa_consD (pvD 6) pa_nilD))))) pa_nilD)))
    (qs_cons (ps_ifD (pt_pw (pw_orD (pt_notD (pt_tru (pd_callG (ok_law_is t) (takes_of rfl rfl rfl rfl) (hr.mono (by decide)) hgd rfl t.m_law_is t.F_law_is.kp t.b_law_is (pa_consD (pd_lst false (pa_consD (pd_call (ok_fewest_falls t) (takes_of rfl rfl rfl rfl) (hr.mono (by decide)) rfl t.m_fewest_falls t.F_fewest_falls.kp t.b_fewest_falls (pa_consD (pvD 1) pa_nilD)) (pa_consD (pd_call (ok_least_over t) (takes_of rfl rfl rfl rfl) (hr.mono (by decide)) rfl t.m_least_over t.F_least_over.kp t.b_least_over (pa_consD (pvD 1) pa_nilD)) pa_nilD))) (pa_consD (pd_lst false (pa_consD (pvD 3) (pa_consD (pvD 4) pa_nilD))) pa_nilD))))) (pw_orD1 (pt_cmpD (op_neD hr.units) does_ne (pd_cmp (op_eqD hr.units) does_eq (pd_ix (pvD 3) pd_int) pd_int (nomark _)) (pd_cmp (op_eqD hr.units) does_eq (pd_ix (pvD 4) pd_int) pd_int (nomark _)) (nomark _))))) (qs_one (ps_retD pd_bl)) qs_nil)
    (qs_cons (ps_setD (i := 5) sc_law_case_right.nd rfl (by first | exact .inl rfl | exact .inr rfl) (pd_add (pd_lst false (pa_consD (pd_ix (pvD 3) pd_int) (pa_consD (pd_ix (pvD 4) pd_int) pa_nilD))) (pd_lc (own := [("turn", 7)]) false rfl sc_law_case_right.nd (pi_rangeD1 rfl t.z_range (pa_consD pd_int pa_nilD)) (blkOk_by (N := ["hand", "table", "every", "least", "over", "some", "row", "turn"]) (sc := (defScope s_law_case_right)) (own := [("turn", 7)]) (by decide +kernel)) (tg_name _ 7) (by decide) (fun _ _ _ _ _ => (pg_name (i := 7) sc_law_case_right.nd rfl (by first | exact .inl rfl | exact .inr rfl))) (fun _ _ _ _ _ => pts_nilD) (fun _ _ _ _ _ => (pd_call (ok_law_some t) takes0 (hr.mono (by decide)) rfl t.m_law_some t.F_law_some.kp t.b_law_some (pa_consD (pvD 0) (pa_consD (pvD 2) pa_nilD)))))))
    (qs_one (ps_retD (pd_callB (cr_all rfl) does_all rfl t.z_all boot_all (pa_consD (pd_lc (own := [("row", 6)]) false rfl sc_law_case_right.nd (pi_seqD (pvD 5)) (blkOk_by (N := ["hand", "table", "every", "least", "over", "some", "row", "turn"]) (sc := (defScope s_law_case_right)) (own := [("row", 6)]) (by decide +kernel)) (tg_name _ 6) (by decide) (fun _ _ _ _ _ => (pg_name (i := 6) sc_law_case_right.nd rfl (by first | exact .inl rfl | exact .inr rfl))) (fun _ _ _ _ _ => pts_nilD) (fun _ _ _ _ _ => (pd_callG (ok_law_row_right t) takes0 (hr.mono (by decide)) hgd rfl t.m_law_row_right t.F_law_row_right.kp t.b_law_row_right (pa_consD (pvD 0) (pa_consD (pvD 1) (pa_consD (pvD 6) pa_nilD)))))) pa_nilD)))))))))
theorem ok_law_no_table (t : Tx K mg) : FnOk P w K mg base (L2.CX P w) 3 t.a_law_no_table t.d_law_no_table ["hand"] (spD ⟨K, T, mg⟩ 1 F_law_no_table) :=
  def_fin (k := 2) t.F_law_no_table sc_law_no_table fun cdv A outer s H E hr =>
    (qs_cons (ps_setD (i := 1) sc_law_no_table.nd rfl (by first | exact .inl rfl | exact .inr rfl) (pd_lst false (pa_consD pd_non (pa_consD (pd_tup pa_nilD) (pa_consD (pd_tup (pa_consD (pd_tup (pa_consD pd_int (pa_consD pd_int pa_nilD))) (pa_consD (pd_tup (pa_consD pd_int (pa_consD pd_int pa_nilD))) pa_nilD))) (pa_consD (pd_tup (pa_consD (pd_tup (pa_consD pd_int pa_nilD)) pa_nilD)) (pa_consD (pd_lst false (pa_consD (pd_tup (pa_consD pd_int pa_nilD)) pa_nilD)) (pa_consD (pd_tup (pa_consD (pd_tup (pa_consD pd_int (pa_consD pd_int pa_nilD))) (pa_consD (pd_tup (pa_consD pd_int (pa_consD pd_int pa_nilD))) pa_nilD))) (pa_consD (pd_tup (pa_consD (pd_tup (pa_consD pd_int (pa_consD pd_int pa_nilD))) pa_nilD)) (pa_consD (pd_tup (pa_consD (pd_lst false (pa_consD pd_int pa_nilD)) pa_nilD)) (pa_consD (pd_tup (pa_consD (pd_tup (pa_consD pd_int (pa_consD (pd_neg pd_int) pa_nilD))) (pa_consD (pd_tup (pa_consD (pd_neg pd_int) (pa_consD pd_int pa_nilD))) pa_nilD))) (pa_consD pd_str pa_nilD))))))))))))
    (qs_cons (ps_setD (i := 1) sc_law_no_table.nd rfl (by first | exact .inl rfl | exact .inr rfl) (pd_add (pvD 1) (pd_lst false (pa_consD (pd_tup (pa_consD (pd_tup (pa_consD pd_int (pa_consD pd_int pa_nilD))) (pa_consD (pd_tup (pa_consD pd_int (pa_consD pd_int pa_nilD))) pa_nilD))) (pa_consD (pd_tup (pa_consD (pd_tup (pa_consD pd_int (pa_consD pd_bl pa_nilD))) (pa_consD (pd_tup (pa_consD pd_bl (pa_consD pd_int pa_nilD))) pa_nilD))) (pa_consD (pd_tup (pa_consD (pd_tup (pa_consD pd_int (pa_consD pd_non pa_nilD))) (pa_consD (pd_tup (pa_consD pd_non (pa_consD pd_int pa_nilD))) pa_nilD))) (pa_consD (pd_tup (pa_consD (pd_tup (pa_consD pd_bl pa_nilD)) pa_nilD)) (pa_consD pd_dict0 pa_nilD))))))))
    (qs_one (ps_retD (pd_call (ok_law_some t) (takes_of rfl rfl rfl rfl) (hr.mono (by decide)) rfl t.m_law_some t.F_law_some.kp t.b_law_some (pa_consD (pvD 0) (pa_consD (pd_add (pvD 1) (pd_lst false (pa_consD (pd_callT call_tuple_ofN does_tuple rfl t.z_tuple boot_tuple (pa_consD (pd_lc (own := [("j", 2)]) false rfl sc_law_no_table.nd (pi_rangeD1 rfl t.z_range (pa_consD pd_int pa_nilD)) (blkOk_by (N := ["hand", "some", "j", "i"]) (sc := (defScope s_law_no_table)) (own := [("j", 2)]) (by decide +kernel)) (tg_name _ 2) (by decide) (fun _ _ _ _ _ => (pg_name (i := 2) sc_law_no_table.nd rfl (by first | exact .inl rfl | exact .inr rfl))) (fun _ _ _ _ _ => pts_nilD) (fun _ _ _ _ _ => (pd_callT call_tuple_ofN does_tuple rfl t.z_tuple boot_tuple (pa_consD (pd_lcN (own := [("i", 3)]) false rfl sc_law_no_table.nd (pi_rangeD1 rfl t.z_range (pa_consD pd_int pa_nilD)) (blkOk_by (N := ["hand", "some", "j", "i"]) (own := [("i", 3)]) (by decide +kernel)) (tg_name _ 3) (by decide) (fun _ _ _ _ _ => (pg_name (i := 3) sc_law_no_table.nd rfl (by first | exact .inl rfl | exact .inr rfl))) (fun _ _ _ _ _ => pts_nilD) (fun _ _ _ _ _ => (pd_callT call_int1 does_int rfl t.z_int boot_int (pa_consD (pd_cmp (op_neD hr.units) does_ne (pvD 3) (pvD 2) (nomark _)) pa_nilD)))) pa_nilD)))) pa_nilD)) (pa_consD pd_int pa_nilD)))) pa_nilD)))))))
theorem ok_law_no_row (t : Tx K mg) : FnOk P w K mg base (L2.CX P w) 3 t.a_law_no_row t.d_law_no_row ["hand", "many"] (spD ⟨K, T, mg⟩ 2 F_law_no_row) :=
  def_fin (k := 2) t.F_law_no_row sc_law_no_row fun cdv A outer s H E hr =>
    (qs_cons (ps_setD (i := 2) sc_law_no_row.nd rfl (by first | exact .inl rfl | exact .inr rfl) (pd_tupR1 rfl rfl t.z_tuple rfl t.z_range (pvD 1)))
    (qs_cons (ps_setD (i := 3) sc_law_no_row.nd rfl (by first | exact .inl rfl | exact .inr rfl) (pd_lst false (pa_consD pd_non (pa_consD (pd_callT call_list_of (does_list false) rfl t.z_list boot_list (pa_consD (pvD 2) pa_nilD)) (pa_consD (pd_add (pvD 2) (pd_tup (pa_consD (pvD 1) pa_nilD))) (pa_consD (pd_slice false (pvD 2) po_noneD (po_someD (pd_neg pd_int))) (pa_consD (pd_add (pd_slice false (pvD 2) po_noneD (po_someD (pd_neg pd_int))) (pd_tup (pa_consD (pd_neg pd_int) pa_nilD))) (pa_consD (pd_add (pd_slice false (pvD 2) po_noneD (po_someD (pd_neg pd_int))) (pd_tup (pa_consD (pvD 1) pa_nilD))) (pa_consD pd_dict0 (pa_consD pd_str pa_nilD))))))))))
    (qs_cons (ps_setD (i := 3) sc_law_no_row.nd rfl (by first | exact .inl rfl | exact .inr rfl) (pd_add (pvD 3) (pd_lst false (pa_consD (pd_add (pd_slice false (pvD 2) po_noneD (po_someD (pd_neg pd_int))) (pd_tup (pa_consD pd_non pa_nilD))) (pa_consD (pd_add (pd_slice false (pvD 2) po_noneD (po_someD (pd_neg pd_int))) (pd_tup (pa_consD (pd_callT call_str_int does_str rfl t.z_str boot_str (pa_consD (pd_sub (pvD 1) pd_int) pa_nilD)) pa_nilD))) (pa_consD (pd_tup (pa_consD (pvD 2) pa_nilD)) (pa_consD pd_int (pa_consD (pd_add (pvD 2) (pvD 2)) pa_nilD))))))))
    (qs_one (ps_retD (pd_call (ok_law_some t) (takes_of rfl rfl rfl rfl) (hr.mono (by decide)) rfl t.m_law_some t.F_law_some.kp t.b_law_some (pa_consD (pvD 0) (pa_consD (pd_add (pvD 3) (pd_lst false (pa_consD (pd_add (pd_slice false (pvD 2) po_noneD (po_someD (pd_neg pd_int))) (pd_tup (pa_consD pd_bl pa_nilD))) pa_nilD))) pa_nilD))))))))
theorem hand_law_word {X : Cx} {T : List (Addr × Str)} (t : Tx X.K X.mg) (hu : X.A.units + 100 < cLine) {n : Str} {D a : Addr} {dx : Option Addr} {oe : Obj} {pn : List (Addr × Obj)} (ec : ExcC X.K D) (hz : Zc (.ref D) dx oe) (hf : ∃ vs, oe.data = .fields vs) (k_NoRow : PySem.W.kitOne X.K (.ref D) (.ref t.e_NoRow) = some (sub_law_word n "NoRow")) (k_NoTable : PySem.W.kitOne X.K (.ref D) (.ref t.e_NoTable) = some (sub_law_word n "NoTable")) (k_ValueError : PySem.W.kitOne X.K (.ref D) (.type "ValueError") = some (sub_law_word n "ValueError")) {g : Addr} {cdg : Value} {s : Shared} {H : Hp} :
    PSs ((cxOf C8.CX0 X.prog X.w X.K X.mg X.base ["call", "error", "flags"] "_law_word" (defScope s_law_word) g cdg X.A X.stack s H C8.E0).nox.suite a ((a, oe) :: pn)) (suiteOf s_law_word) (tDS (zX X T) W0 (h_law_word n a dx)) :=
  (qs_cons (ps_setD (i := 2) sc_law_word.nd rfl (by first | exact .inl rfl | exact .inr rfl) (pd_lst false (pa_consD (pd_isE ec hz hf k_NoTable rfl (by first | exact Or.inl rfl | exact Or.inr (Or.inl rfl) | exact Or.inr (Or.inr rfl)) rfl t.z_isinstance rfl t.g_NoTable) (pa_consD (pd_isE ec hz hf k_NoRow rfl (by first | exact Or.inl rfl | exact Or.inr (Or.inl rfl) | exact Or.inr (Or.inr rfl)) rfl t.z_isinstance rfl t.g_NoRow) pa_nilD))))
    (qs_cons (ps_ifD (pt_pw (pw_orD (pt_cmpD (op_neD (Nat.lt_of_succ_lt (hu_suite hu))) does_ne (pd_countB (pvD 2) pd_bl) pd_int (nomark _)) (pw_orD1 (pt_notD (pt_tru (pd_isEB (C := "ValueError") ec hz hf k_ValueError rfl (by first | exact Or.inl rfl | exact Or.inr (Or.inl rfl) | exact Or.inr (Or.inr rfl)) rfl t.z_isinstance rfl t.z_ValueError (by first | rfl | decide +kernel))))))) (qs_one (ps_retD pd_str)) qs_nil)
    (qs_one (ps_retD (pe_ifD (pt_tru (pd_ix (pvD 2) pd_int)) pd_str pd_str)))))
theorem hct_law_word {X : Cx} {T : List (Addr × Str)} (t : Tx X.K X.mg) (n : Str) (b : Bool) (h : ca_law_word n = some b) : PySem.W.exmOne X.K (clsV (zX X T) n) (.ref t.e_FarError) = some b := by
  unfold ca_law_word at h
  split at h
  · rename_i e; subst e; cases h
    rw [clsV_own (z := zX X T) t.o_NoRow.g]; exact t.x_NoRow
  · skip
    split at h
    · rename_i e; subst e; cases h
      rw [clsV_own (z := zX X T) t.o_NoTable.g]; exact t.x_NoTable
    · skip
      split at h
      · rename_i e; subst e; cases h
        rw [clsV_own (z := zX X T) t.o_Unsound.g]; exact t.x_Unsound
      · skip
        cases h
theorem hres_law_word (n : Str) (fs : List (Str × D)) (a : Addr) (d : Option Addr) (ρ : Ev) (st : Sto) (hd : fs = [] ∧ d = none ∨ fs ≠ [] ∧ d ≠ none) (hl : ρ.length = 3) : cleanS 1 (h_law_word n a d (ρ.set 1 (some (excD a d fs))) st) = res_law_word n fs ρ st := by
  match ρ, hl with
  | [r0, r1, r2], _ =>
    rcases hd with ⟨rfl, rfl⟩ | ⟨hn, hd⟩
    · simp only [res_law_word, h_law_word, excD]
      generalize sub_law_word n "NoRow" = b0
      generalize sub_law_word n "NoTable" = b1
      generalize sub_law_word n "ValueError" = b2
      cases b0 <;> cases b1 <;> cases b2 <;> simp [sIsE, sizeLine_eq, fCountB, allBl, fIndexD, toPys, allSome, firstIx, eqv_bl, fIx, ixD, cleanS]
    cases d with
    | none => exact absurd rfl hd
    | some d =>
    cases fs with
    | nil => exact absurd rfl hn
    | cons p fs =>
    simp only [res_law_word, h_law_word, excD]
    generalize sub_law_word n "NoRow" = b0
    generalize sub_law_word n "NoTable" = b1
    generalize sub_law_word n "ValueError" = b2
    cases b0 <;> cases b1 <;> cases b2 <;> simp [sIsE, sizeLine_eq, fCountB, allBl, fIndexD, toPys, allSome, firstIx, eqv_bl, fIx, ixD, cleanS]
theorem hsu_law_word {X : Cx} {T : List (Addr × Str)} (t : Tx X.K X.mg) (hu : X.A.units + 100 < cLine) {g : Addr} {cdg : Value} {s : Shared} {H : Hp} (n : Str) (a : Addr) (dx : Option Addr) (oe : Obj) (pn : List (Addr × Obj)) (h : ca_law_word n = some true) (hz : Zc (clsV (zX X T) n) dx oe) (hf : ∃ vs, oe.data = .fields vs) :
    PSs ((cxOf C8.CX0 X.prog X.w X.K X.mg X.base ["call", "error", "flags"] "_law_word" (defScope s_law_word) g cdg X.A X.stack s H C8.E0).nox.suite a ((a, oe) :: pn)) (suiteOf s_law_word) (tDS (zX X T) W0 (h_law_word n a dx)) := by
  unfold ca_law_word at h
  split at h
  · rename_i e; subst e; cases h
    rw [clsV_own (z := zX X T) t.o_NoRow.g] at hz
    exact hand_law_word t hu t.c_NoRow hz hf (by rw [show sub_law_word "NoRow" "NoRow" = true from by decide +kernel]; exact t.k_NoRow_NoRow) (by rw [show sub_law_word "NoRow" "NoTable" = false from by decide +kernel]; exact t.k_NoRow_NoTable) (by rw [show sub_law_word "NoRow" "ValueError" = true from by decide +kernel]; exact t.k_NoRow_ValueError)
  · skip
    split at h
    · rename_i e; subst e; cases h
      rw [clsV_own (z := zX X T) t.o_NoTable.g] at hz
      exact hand_law_word t hu t.c_NoTable hz hf (by rw [show sub_law_word "NoTable" "NoRow" = false from by decide +kernel]; exact t.k_NoTable_NoRow) (by rw [show sub_law_word "NoTable" "NoTable" = true from by decide +kernel]; exact t.k_NoTable_NoTable) (by rw [show sub_law_word "NoTable" "ValueError" = true from by decide +kernel]; exact t.k_NoTable_ValueError)
    · skip
      split at h
      · rename_i e; subst e; cases h
        rw [clsV_own (z := zX X T) t.o_Unsound.g] at hz
        exact hand_law_word t hu t.c_Unsound hz hf (by rw [show sub_law_word "Unsound" "NoRow" = false from by decide +kernel]; exact t.k_Unsound_NoRow) (by rw [show sub_law_word "Unsound" "NoTable" = false from by decide +kernel]; exact t.k_Unsound_NoTable) (by rw [show sub_law_word "Unsound" "ValueError" = true from by decide +kernel]; exact t.k_Unsound_ValueError)
      · skip
        cases h
theorem gv_law_word {X : Cx} {T : List (Addr × Str)} (t : Tx X.K X.mg) (hu : X.A.units + 100 < cLine) (q : Str) (cdv : Value) : LamX.GivesTo X ["call", "error", "flags"] "_law_word" (defScope s_law_word) t.a_law_word cdv (defBody s_law_word) "call" q (TTw (zX X T) F_law_word) :=
  gives_of (by decide) fun f c' s H g0 O tl acts hact =>
    (qsR_cons (ps_tryAsR (i := 1) (m := 3) rfl rfl sc_law_word.nd rfl rfl ⟨rfl, by decide, .inl t.g_FarError⟩ takes0 (hct_law_word (T := T) t) (fun W pn xe tk _ => pss_one (ps_actR acts tk (fun W E tk2 hW => hact W pn xe E _ _ tk2 hW))) h_law_word (hsu_law_word t hu) (fun n fs a d ρ st _ hd hl => hres_law_word n fs a d ρ st hd hl)) (qs_one (ps_retD pd_str)))
theorem ok_law_refused_right (t : Tx K mg) {c_law_refused_right P_law_refused_right : Addr} (tb_law_refused_right : LamX.TabB base mg c_law_refused_right P_law_refused_right) (hc_law_refused_right : t.d_law_refused_right.code = .ref c_law_refused_right) (hmT_law_refused_right : (P_law_refused_right, ("_law_refused_right.<locals>.<lambda>" : Str)) ∈ T) (huT_law_refused_right : ∀ p ∈ T, p.1 = P_law_refused_right → p.2 = ("_law_refused_right.<locals>.<lambda>" : Str)) : FnOk P w K mg base (L2.CX P w) 12 t.a_law_refused_right t.d_law_refused_right ["hand", "table"] (spD ⟨K, T, mg⟩ 2 F_law_refused_right) :=
  def_finC (k := 11) t.F_law_refused_right sc_law_refused_right fun cdv hcode A outer s H E hr => by
    have hcode := hcode.symm.trans hc_law_refused_right
    subst hcode
    have hcode : (Value.ref c_law_refused_right) = .ref c_law_refused_right := rfl
    have gv_law_wordX := fun (q : Str) (cdv : Value) => gv_law_word (X := cxOf (L2.CX P w) P w K mg base ["hand", "table", "bad", "odd", "told", "call"] "_law_refused_right" (defScope s_law_refused_right) t.a_law_refused_right (.ref c_law_refused_right) A outer s H E) (T := T) t (hu100 hr) q cdv
    exact (qs_cons (ps_asgD (tg_two (tg_name _ 2) (tg_name _ 3)) (pd_tup (pa_consD (pd_call (ok_law_no_table t) (takes_of rfl rfl rfl rfl) (hr.mono (by decide)) rfl t.m_law_no_table t.F_law_no_table.kp t.b_law_no_table (pa_consD (pvD 0) pa_nilD)) (pa_consD (pd_call (ok_law_no_row t) (takes_of rfl rfl rfl rfl) (hr.mono (by decide)) rfl t.m_law_no_row t.F_law_no_row.kp t.b_law_no_row (pa_consD (pvD 0) (pa_consD (pd_callB call_len_seq does_len rfl t.z_len boot_len (pa_consD (pvD 1) pa_nilD)) pa_nilD))) pa_nilD))) (pg_tup rfl (pgs_cons (pg_name (i := 2) sc_law_refused_right.nd rfl (by first | exact .inl rfl | exact .inr rfl)) (pgs_cons (pg_name (i := 3) sc_law_refused_right.nd rfl (by first | exact .inl rfl | exact .inr rfl)) pgs_nil))))
    (qs_cons (ps_setD (i := 4) sc_law_refused_right.nd rfl (by first | exact .inl rfl | exact .inr rfl) (pd_lst true pa_nilD))
    (qs_cons (ps_forD (passes_of rfl) rfl (tg_name _ 5) (pi_seqD (pd_tup (pa_consD (pd_gfn rfl ⟨_, t.m_nearest_rising, t.n_nearest_rising⟩) (pa_consD (pd_gfn rfl ⟨_, t.m_over_by, t.n_over_by⟩) (pa_consD (pd_gfn rfl ⟨_, t.m_falls, t.n_falls⟩) pa_nilD))))) (pg_name (i := 5) sc_law_refused_right.nd rfl (by first | exact .inl rfl | exact .inr rfl))
    (qs_cons (ps_exprD (pd_append (pvD 4) (pd_lamF (k := 9) t.F_law_word t.b_law_word sc_law_word t.m_law_word (fun cdv => gv_law_wordX _ cdv) rfl rfl (Or.inl rfl) tb_law_refused_right hcode hmT_law_refused_right huT_law_refused_right (hr.mono (by decide)) (LamX.lamS_by (sc := (defScope s_law_refused_right)) (by decide +kernel)) (fun A outer s H E f c' hr => (pd_callV (k := 7) (tabOk_cons (ok_nearest_rising t) (by decide) t.n_nearest_rising t.F_nearest_rising.kp t.b_nearest_rising (tabOk_cons (ok_over_by t) (by decide) t.n_over_by t.F_over_by.kp t.b_over_by (tabOk_cons (ok_falls t) (by decide) t.n_falls t.F_falls.kp t.b_falls tabOk_nil))) (takes_of rfl rfl rfl rfl) (hr.mono (by decide)) rfl (by first | exact .inl rfl | exact .inr (.inl rfl) | exact .inr (.inr rfl)) (pa_consD (pvD 2) (pa_consD (pvD 3) pa_nilD)))))))
    (qs_one (ps_exprD (pd_append (pvD 4) (pd_lamF (k := 9) t.F_law_word t.b_law_word sc_law_word t.m_law_word (fun cdv => gv_law_wordX _ cdv) rfl rfl (Or.inl rfl) tb_law_refused_right hcode hmT_law_refused_right huT_law_refused_right (hr.mono (by decide)) (LamX.lamS_by (sc := (defScope s_law_refused_right)) (by decide +kernel)) (fun A outer s H E f c' hr => (pd_callV (k := 7) (tabOk_cons (ok_nearest_rising t) (by decide) t.n_nearest_rising t.F_nearest_rising.kp t.b_nearest_rising (tabOk_cons (ok_over_by t) (by decide) t.n_over_by t.F_over_by.kp t.b_over_by (tabOk_cons (ok_falls t) (by decide) t.n_falls t.F_falls.kp t.b_falls tabOk_nil))) (takes_of rfl rfl rfl rfl) (hr.mono (by decide)) rfl (by first | exact .inl rfl | exact .inr (.inl rfl) | exact .inr (.inr rfl)) (pa_consD (pvD 1) (pa_consD (pvD 3) pa_nilD))))))))))
    (qs_one (ps_retD (pd_cmp (op_eqD hr.units) does_eq (pvD 4) (pd_rep false (pd_lst false (pa_consD pd_str (pa_consD pd_str pa_nilD))) pd_int) (nomark _)))))))
theorem ok_law (t : Tx K mg) {c_law_refused_right P_law_refused_right : Addr} (tb_law_refused_right : LamX.TabB base mg c_law_refused_right P_law_refused_right) (hc_law_refused_right : t.d_law_refused_right.code = .ref c_law_refused_right) (hmT_law_refused_right : (P_law_refused_right, ("_law_refused_right.<locals>.<lambda>" : Str)) ∈ T) (huT_law_refused_right : ∀ p ∈ T, p.1 = P_law_refused_right → p.2 = ("_law_refused_right.<locals>.<lambda>" : Str)) : FnG P w K mg base (L2.CX P w) 13 t.a_law t.d_law ["script"] (spD ⟨K, T, mg⟩ 1 F_law) :=
  def_finG (k := 12) t.F_law sc_law fun cdv hcode A outer s H E hr hgd =>
    (qs_cons (ps_setD (i := 1) sc_law.nd rfl (by first | exact .inl rfl | exact .inr rfl) (pd_call (ok_law_hand t) (takes_of rfl rfl rfl rfl) (hr.mono (by decide)) rfl t.m_law_hand t.F_law_hand.kp t.b_law_hand (pa_consD (pvD 0) pa_nilD)))
    (qs_cons (ps_forD (passes_of rfl) rfl (tg_name _ 2) (pi_rangeD1 rfl t.z_range (pa_consD pd_int pa_nilD)) (pg_name (i := 2) sc_law.nd rfl (by first | exact .inl rfl | exact .inr rfl))
    (qs_cons (ps_setD (i := 3) sc_law.nd rfl (by first | exact .inl rfl | exact .inr rfl) (pd_call (ok_law_drawn_table t) (takes_of rfl rfl rfl rfl) (hr.mono (by decide)) rfl t.m_law_drawn_table t.F_law_drawn_table.kp t.b_law_drawn_table (pa_consD (pvD 1) (pa_consD pd_int pa_nilD))))
    (qs_one (ps_ifD (pt_pw (pw_orD (pt_notD (pt_tru (pd_callG (ok_law_case_right t) (takes_of rfl rfl rfl rfl) (hr.mono (by decide)) hgd rfl t.m_law_case_right t.F_law_case_right.kp t.b_law_case_right (pa_consD (pvD 1) (pa_consD (pvD 3) pa_nilD))))) (pw_orD1 (pt_notD (pt_tru (pd_call (ok_law_refused_right t tb_law_refused_right hc_law_refused_right hmT_law_refused_right huT_law_refused_right) (takes_of rfl rfl rfl rfl) (hr.mono (by decide)) rfl t.m_law_refused_right t.F_law_refused_right.kp t.b_law_refused_right (pa_consD (pvD 1) (pa_consD (pvD 3) pa_nilD)))))))) (qs_one (ps_retD pd_bl)) qs_nil))))
    (qs_cons (ps_setD (i := 3) sc_law.nd rfl (by first | exact .inl rfl | exact .inr rfl) (pd_tup (pa_consD (pd_tup (pa_consD pd_int (pa_consD pd_int (pa_consD pd_int pa_nilD)))) (pa_consD (pd_tup (pa_consD pd_int (pa_consD pd_int (pa_consD pd_int pa_nilD)))) (pa_consD (pd_tup (pa_consD pd_int (pa_consD pd_int (pa_consD pd_int pa_nilD)))) pa_nilD)))))
    (qs_cons (ps_setD (i := 4) sc_law.nd rfl (by first | exact .inl rfl | exact .inr rfl) (pd_lst false (pa_consD (pd_call (ok_nearest_rising t) (takes_of rfl rfl rfl rfl) (hr.mono (by decide)) rfl t.m_nearest_rising t.F_nearest_rising.kp t.b_nearest_rising (pa_consD (pvD 3) (pa_consD (pd_tup (pa_consD pd_int (pa_consD pd_int (pa_consD pd_int pa_nilD)))) pa_nilD))) (pa_consD (pd_call (ok_over_by t) (takes_of rfl rfl rfl rfl) (hr.mono (by decide)) rfl t.m_over_by t.F_over_by.kp t.b_over_by (pa_consD (pvD 3) (pa_consD (pd_tup (pa_consD pd_int (pa_consD pd_int (pa_consD pd_int pa_nilD)))) pa_nilD))) (pa_consD (pd_call (ok_least_over t) (takes_of rfl rfl rfl rfl) (hr.mono (by decide)) rfl t.m_least_over t.F_least_over.kp t.b_least_over (pa_consD (pvD 3) pa_nilD)) (pa_consD (pd_call (ok_fewest_falls t) (takes_of rfl rfl rfl rfl) (hr.mono (by decide)) rfl t.m_fewest_falls t.F_fewest_falls.kp t.b_fewest_falls (pa_consD (pvD 3) pa_nilD)) pa_nilD))))))
    (qs_one (ps_retD (pd_callG (ok_law_is t) (takes_of rfl rfl rfl rfl) (hr.mono (by decide)) hgd rfl t.m_law_is t.F_law_is.kp t.b_law_is (pa_consD (pvD 4) (pa_consD (pd_lst false (pa_consD (pd_tup (pa_consD (pd_tup (pa_consD pd_int (pa_consD pd_int (pa_consD pd_int pa_nilD)))) (pa_consD (pd_tup (pa_consD pd_int (pa_consD pd_int (pa_consD pd_int pa_nilD)))) (pa_consD (pd_tup (pa_consD pd_int (pa_consD pd_int (pa_consD pd_int pa_nilD)))) pa_nilD)))) (pa_consD pd_int (pa_consD (pd_tup (pa_consD pd_int (pa_consD (pd_tup (pa_consD pd_int (pa_consD pd_int (pa_consD pd_int pa_nilD)))) pa_nilD))) (pa_consD (pd_tup (pa_consD pd_int (pa_consD (pd_tup (pa_consD pd_int (pa_consD pd_int (pa_consD pd_int pa_nilD)))) pa_nilD))) pa_nilD))))) pa_nilD)))))))))
end
end Lw96
namespace Lw96
open PySem PySem.Spec PyProof.Rows L2 PD
theorem all_mk {w : World} {K : PySem.W.Frag} {h : Heap} {mg : Str → Option Value} {fa : Addr} (X : K.In h) (G : h.Ns mainGlobals mg) (hfa : mg "law" = some (.ref fa)) (own : ∀ (y : Str) (fy : Addr), ((recsOf PySem.Challenge.rw_farhouse_k96_whole_rows_that_nearly_rise.prog).any fun e => e.name == y) = true → mg y = some (.ref fy) → LamX.OwnTab K fy h)
    {cL_law_refused_right Pt_law_refused_right : Addr} {eL_law_refused_right : Value} {ddL_law_refused_right : Option Addr} {vsL_law_refused_right : Array Value} {slL_law_refused_right : Array (Option Value)}
    {f_is_integer : Addr} {od_is_integer an_is_integer : Option Addr} {sl_is_integer : Array (Option Value)} {oc_is_integer kV_is_integer dc_is_integer pm_is_integer cd_is_integer ct_is_integer : Value}
    {f_is_within : Addr} {od_is_within an_is_within : Option Addr} {sl_is_within : Array (Option Value)} {oc_is_within kV_is_within dc_is_within pm_is_within cd_is_within ct_is_within : Value}
    {f_is_sized : Addr} {od_is_sized an_is_sized : Option Addr} {sl_is_sized : Array (Option Value)} {oc_is_sized kV_is_sized dc_is_sized pm_is_sized cd_is_sized ct_is_sized : Value}
    {f_is_table : Addr} {od_is_table an_is_table : Option Addr} {sl_is_table : Array (Option Value)} {oc_is_table kV_is_table dc_is_table pm_is_table cd_is_table ct_is_table : Value}
    {f_check_table : Addr} {od_check_table an_check_table : Option Addr} {sl_check_table : Array (Option Value)} {oc_check_table kV_check_table dc_check_table pm_check_table cd_check_table ct_check_table : Value}
    {f_short_triple : Addr} {od_short_triple an_short_triple : Option Addr} {sl_short_triple : Array (Option Value)} {oc_short_triple kV_short_triple dc_short_triple pm_short_triple cd_short_triple ct_short_triple : Value}
    {f_check_sound : Addr} {od_check_sound an_check_sound : Option Addr} {sl_check_sound : Array (Option Value)} {oc_check_sound kV_check_sound dc_check_sound pm_check_sound cd_check_sound ct_check_sound : Value}
    {f_falls_of : Addr} {od_falls_of an_falls_of : Option Addr} {sl_falls_of : Array (Option Value)} {oc_falls_of kV_falls_of dc_falls_of pm_falls_of cd_falls_of ct_falls_of : Value}
    {f_all_rows : Addr} {od_all_rows an_all_rows : Option Addr} {sl_all_rows : Array (Option Value)} {oc_all_rows kV_all_rows dc_all_rows pm_all_rows cd_all_rows ct_all_rows : Value}
    {f_fewest_falls : Addr} {od_fewest_falls an_fewest_falls : Option Addr} {sl_fewest_falls : Array (Option Value)} {oc_fewest_falls kV_fewest_falls dc_fewest_falls pm_fewest_falls cd_fewest_falls ct_fewest_falls : Value}
    {f_is_row : Addr} {od_is_row an_is_row : Option Addr} {sl_is_row : Array (Option Value)} {oc_is_row kV_is_row dc_is_row pm_is_row cd_is_row ct_is_row : Value}
    {f_check_row : Addr} {od_check_row an_check_row : Option Addr} {sl_check_row : Array (Option Value)} {oc_check_row kV_check_row dc_check_row pm_check_row cd_check_row ct_check_row : Value}
    {f_raised_table : Addr} {od_raised_table an_raised_table : Option Addr} {sl_raised_table : Array (Option Value)} {oc_raised_table kV_raised_table dc_raised_table pm_raised_table cd_raised_table ct_raised_table : Value}
    {f_nearest_rising : Addr} {od_nearest_rising an_nearest_rising : Option Addr} {sl_nearest_rising : Array (Option Value)} {oc_nearest_rising kV_nearest_rising dc_nearest_rising pm_nearest_rising cd_nearest_rising ct_nearest_rising : Value}
    {f_raised_by : Addr} {od_raised_by an_raised_by : Option Addr} {sl_raised_by : Array (Option Value)} {oc_raised_by kV_raised_by dc_raised_by pm_raised_by cd_raised_by ct_raised_by : Value}
    {f_over_by : Addr} {od_over_by an_over_by : Option Addr} {sl_over_by : Array (Option Value)} {oc_over_by kV_over_by dc_over_by pm_over_by cd_over_by ct_over_by : Value}
    {f_least_over : Addr} {od_least_over an_least_over : Option Addr} {sl_least_over : Array (Option Value)} {oc_least_over kV_least_over dc_least_over pm_least_over cd_least_over ct_least_over : Value}
    {f_law_hand : Addr} {od_law_hand an_law_hand : Option Addr} {sl_law_hand : Array (Option Value)} {oc_law_hand kV_law_hand dc_law_hand pm_law_hand cd_law_hand ct_law_hand : Value}
    {f_law_is : Addr} {od_law_is an_law_is : Option Addr} {sl_law_is : Array (Option Value)} {oc_law_is kV_law_is dc_law_is pm_law_is cd_law_is ct_law_is : Value}
    {f_law_draw : Addr} {od_law_draw an_law_draw : Option Addr} {sl_law_draw : Array (Option Value)} {oc_law_draw kV_law_draw dc_law_draw pm_law_draw cd_law_draw ct_law_draw : Value}
    {f_law_some : Addr} {od_law_some an_law_some : Option Addr} {sl_law_some : Array (Option Value)} {oc_law_some kV_law_some dc_law_some pm_law_some cd_law_some ct_law_some : Value}
    {f_law_mixed : Addr} {od_law_mixed an_law_mixed : Option Addr} {sl_law_mixed : Array (Option Value)} {oc_law_mixed kV_law_mixed dc_law_mixed pm_law_mixed cd_law_mixed ct_law_mixed : Value}
    {f_law_closed : Addr} {od_law_closed an_law_closed : Option Addr} {sl_law_closed : Array (Option Value)} {oc_law_closed kV_law_closed dc_law_closed pm_law_closed cd_law_closed ct_law_closed : Value}
    {f_law_of_pairs : Addr} {od_law_of_pairs an_law_of_pairs : Option Addr} {sl_law_of_pairs : Array (Option Value)} {oc_law_of_pairs kV_law_of_pairs dc_law_of_pairs pm_law_of_pairs cd_law_of_pairs ct_law_of_pairs : Value}
    {f_law_any_table : Addr} {od_law_any_table an_law_any_table : Option Addr} {sl_law_any_table : Array (Option Value)} {oc_law_any_table kV_law_any_table dc_law_any_table pm_law_any_table cd_law_any_table ct_law_any_table : Value}
    {f_law_cuts : Addr} {od_law_cuts an_law_cuts : Option Addr} {sl_law_cuts : Array (Option Value)} {oc_law_cuts kV_law_cuts dc_law_cuts pm_law_cuts cd_law_cuts ct_law_cuts : Value}
    {f_law_sum_of_cuts : Addr} {od_law_sum_of_cuts an_law_sum_of_cuts : Option Addr} {sl_law_sum_of_cuts : Array (Option Value)} {oc_law_sum_of_cuts kV_law_sum_of_cuts dc_law_sum_of_cuts pm_law_sum_of_cuts cd_law_sum_of_cuts ct_law_sum_of_cuts : Value}
    {f_law_parts : Addr} {od_law_parts an_law_parts : Option Addr} {sl_law_parts : Array (Option Value)} {oc_law_parts kV_law_parts dc_law_parts pm_law_parts cd_law_parts ct_law_parts : Value}
    {f_law_table_of : Addr} {od_law_table_of an_law_table_of : Option Addr} {sl_law_table_of : Array (Option Value)} {oc_law_table_of kV_law_table_of dc_law_table_of pm_law_table_of cd_law_table_of ct_law_table_of : Value}
    {f_law_table : Addr} {od_law_table an_law_table : Option Addr} {sl_law_table : Array (Option Value)} {oc_law_table kV_law_table dc_law_table pm_law_table cd_law_table ct_law_table : Value}
    {f_law_renamed : Addr} {od_law_renamed an_law_renamed : Option Addr} {sl_law_renamed : Array (Option Value)} {oc_law_renamed kV_law_renamed dc_law_renamed pm_law_renamed cd_law_renamed ct_law_renamed : Value}
    {f_law_drawn_table : Addr} {od_law_drawn_table an_law_drawn_table : Option Addr} {sl_law_drawn_table : Array (Option Value)} {oc_law_drawn_table kV_law_drawn_table dc_law_drawn_table pm_law_drawn_table cd_law_drawn_table ct_law_drawn_table : Value}
    {f_law_rows : Addr} {od_law_rows an_law_rows : Option Addr} {sl_law_rows : Array (Option Value)} {oc_law_rows kV_law_rows dc_law_rows pm_law_rows cd_law_rows ct_law_rows : Value}
    {f_law_falls : Addr} {od_law_falls an_law_falls : Option Addr} {sl_law_falls : Array (Option Value)} {oc_law_falls kV_law_falls dc_law_falls pm_law_falls cd_law_falls ct_law_falls : Value}
    {f_law_nearest : Addr} {od_law_nearest an_law_nearest : Option Addr} {sl_law_nearest : Array (Option Value)} {oc_law_nearest kV_law_nearest dc_law_nearest pm_law_nearest cd_law_nearest ct_law_nearest : Value}
    {f_law_off_by : Addr} {od_law_off_by an_law_off_by : Option Addr} {sl_law_off_by : Array (Option Value)} {oc_law_off_by kV_law_off_by dc_law_off_by pm_law_off_by cd_law_off_by ct_law_off_by : Value}
    {f_does_rise : Addr} {od_does_rise an_does_rise : Option Addr} {sl_does_rise : Array (Option Value)} {oc_does_rise kV_does_rise dc_does_rise pm_does_rise cd_does_rise ct_does_rise : Value}
    {f_falls : Addr} {od_falls an_falls : Option Addr} {sl_falls : Array (Option Value)} {oc_falls kV_falls dc_falls pm_falls cd_falls ct_falls : Value}
    {f_law_row_right : Addr} {od_law_row_right an_law_row_right : Option Addr} {sl_law_row_right : Array (Option Value)} {oc_law_row_right kV_law_row_right dc_law_row_right pm_law_row_right cd_law_row_right ct_law_row_right : Value}
    {f_law_case_right : Addr} {od_law_case_right an_law_case_right : Option Addr} {sl_law_case_right : Array (Option Value)} {oc_law_case_right kV_law_case_right dc_law_case_right pm_law_case_right cd_law_case_right ct_law_case_right : Value}
    {f_law_no_table : Addr} {od_law_no_table an_law_no_table : Option Addr} {sl_law_no_table : Array (Option Value)} {oc_law_no_table kV_law_no_table dc_law_no_table pm_law_no_table cd_law_no_table ct_law_no_table : Value}
    {f_law_no_row : Addr} {od_law_no_row an_law_no_row : Option Addr} {sl_law_no_row : Array (Option Value)} {oc_law_no_row kV_law_no_row dc_law_no_row pm_law_no_row cd_law_no_row ct_law_no_row : Value}
    {f_law_word : Addr} {od_law_word an_law_word : Option Addr} {sl_law_word : Array (Option Value)} {oc_law_word kV_law_word dc_law_word pm_law_word cd_law_word ct_law_word : Value}
    {f_law_refused_right : Addr} {od_law_refused_right an_law_refused_right : Option Addr} {sl_law_refused_right : Array (Option Value)} {oc_law_refused_right kV_law_refused_right dc_law_refused_right pm_law_refused_right ct_law_refused_right : Value}
    {f_law : Addr} {od_law an_law : Option Addr} {sl_law : Array (Option Value)} {oc_law kV_law dc_law pm_law cd_law ct_law : Value}
    {tk_MOST_FAR : Tok}
    {tk_MOST_PLACES : Tok}
    {e_FarError : Addr}
    {e_NoRow : Addr}
    {e_NoTable : Addr}
    {e_Unsound : Addr}
    (a_is_integer : PySem.W.nsIn K mainGlobals "is_integer" = some (some (.ref f_is_integer))) (l_is_integer : K.lookup f_is_integer = some ⟨oc_is_integer, od_is_integer, .func (PySem.W.fnOf "is_integer" "is_integer" (defArgs s_is_integer) (defBody s_is_integer) (defScope s_is_integer) .none kV_is_integer dc_is_integer pm_is_integer an_is_integer cd_is_integer ct_is_integer), sl_is_integer⟩) (c_is_integer : PySem.W.codeIn K cd_is_integer "is_integer" = true) (k_is_integer : PySem.W.keepIn K (.ref f_is_integer) = true)
    (a_is_within : PySem.W.nsIn K mainGlobals "is_within" = some (some (.ref f_is_within))) (l_is_within : K.lookup f_is_within = some ⟨oc_is_within, od_is_within, .func (PySem.W.fnOf "is_within" "is_within" (defArgs s_is_within) (defBody s_is_within) (defScope s_is_within) .none kV_is_within dc_is_within pm_is_within an_is_within cd_is_within ct_is_within), sl_is_within⟩) (c_is_within : PySem.W.codeIn K cd_is_within "is_within" = true) (k_is_within : PySem.W.keepIn K (.ref f_is_within) = true)
    (a_is_sized : PySem.W.nsIn K mainGlobals "is_sized" = some (some (.ref f_is_sized))) (l_is_sized : K.lookup f_is_sized = some ⟨oc_is_sized, od_is_sized, .func (PySem.W.fnOf "is_sized" "is_sized" (defArgs s_is_sized) (defBody s_is_sized) (defScope s_is_sized) .none kV_is_sized dc_is_sized pm_is_sized an_is_sized cd_is_sized ct_is_sized), sl_is_sized⟩) (c_is_sized : PySem.W.codeIn K cd_is_sized "is_sized" = true) (k_is_sized : PySem.W.keepIn K (.ref f_is_sized) = true)
    (a_is_table : PySem.W.nsIn K mainGlobals "is_table" = some (some (.ref f_is_table))) (l_is_table : K.lookup f_is_table = some ⟨oc_is_table, od_is_table, .func (PySem.W.fnOf "is_table" "is_table" (defArgs s_is_table) (defBody s_is_table) (defScope s_is_table) .none kV_is_table dc_is_table pm_is_table an_is_table cd_is_table ct_is_table), sl_is_table⟩) (c_is_table : PySem.W.codeIn K cd_is_table "is_table" = true) (k_is_table : PySem.W.keepIn K (.ref f_is_table) = true)
    (a_check_table : PySem.W.nsIn K mainGlobals "check_table" = some (some (.ref f_check_table))) (l_check_table : K.lookup f_check_table = some ⟨oc_check_table, od_check_table, .func (PySem.W.fnOf "check_table" "check_table" (defArgs s_check_table) (defBody s_check_table) (defScope s_check_table) .none kV_check_table dc_check_table pm_check_table an_check_table cd_check_table ct_check_table), sl_check_table⟩) (c_check_table : PySem.W.codeIn K cd_check_table "check_table" = true) (k_check_table : PySem.W.keepIn K (.ref f_check_table) = true)
    (a_short_triple : PySem.W.nsIn K mainGlobals "short_triple" = some (some (.ref f_short_triple))) (l_short_triple : K.lookup f_short_triple = some ⟨oc_short_triple, od_short_triple, .func (PySem.W.fnOf "short_triple" "short_triple" (defArgs s_short_triple) (defBody s_short_triple) (defScope s_short_triple) .none kV_short_triple dc_short_triple pm_short_triple an_short_triple cd_short_triple ct_short_triple), sl_short_triple⟩) (c_short_triple : PySem.W.codeIn K cd_short_triple "short_triple" = true) (k_short_triple : PySem.W.keepIn K (.ref f_short_triple) = true)
    (a_check_sound : PySem.W.nsIn K mainGlobals "check_sound" = some (some (.ref f_check_sound))) (l_check_sound : K.lookup f_check_sound = some ⟨oc_check_sound, od_check_sound, .func (PySem.W.fnOf "check_sound" "check_sound" (defArgs s_check_sound) (defBody s_check_sound) (defScope s_check_sound) .none kV_check_sound dc_check_sound pm_check_sound an_check_sound cd_check_sound ct_check_sound), sl_check_sound⟩) (c_check_sound : PySem.W.codeIn K cd_check_sound "check_sound" = true) (k_check_sound : PySem.W.keepIn K (.ref f_check_sound) = true)
    (a_falls_of : PySem.W.nsIn K mainGlobals "falls_of" = some (some (.ref f_falls_of))) (l_falls_of : K.lookup f_falls_of = some ⟨oc_falls_of, od_falls_of, .func (PySem.W.fnOf "falls_of" "falls_of" (defArgs s_falls_of) (defBody s_falls_of) (defScope s_falls_of) .none kV_falls_of dc_falls_of pm_falls_of an_falls_of cd_falls_of ct_falls_of), sl_falls_of⟩) (c_falls_of : PySem.W.codeIn K cd_falls_of "falls_of" = true) (k_falls_of : PySem.W.keepIn K (.ref f_falls_of) = true)
    (a_all_rows : PySem.W.nsIn K mainGlobals "all_rows" = some (some (.ref f_all_rows))) (l_all_rows : K.lookup f_all_rows = some ⟨oc_all_rows, od_all_rows, .func (PySem.W.fnOf "all_rows" "all_rows" (defArgs s_all_rows) (defBody s_all_rows) (defScope s_all_rows) .none kV_all_rows dc_all_rows pm_all_rows an_all_rows cd_all_rows ct_all_rows), sl_all_rows⟩) (c_all_rows : PySem.W.codeIn K cd_all_rows "all_rows" = true) (k_all_rows : PySem.W.keepIn K (.ref f_all_rows) = true)
    (a_fewest_falls : PySem.W.nsIn K mainGlobals "fewest_falls" = some (some (.ref f_fewest_falls))) (l_fewest_falls : K.lookup f_fewest_falls = some ⟨oc_fewest_falls, od_fewest_falls, .func (PySem.W.fnOf "fewest_falls" "fewest_falls" (defArgs s_fewest_falls) (defBody s_fewest_falls) (defScope s_fewest_falls) .none kV_fewest_falls dc_fewest_falls pm_fewest_falls an_fewest_falls cd_fewest_falls ct_fewest_falls), sl_fewest_falls⟩) (c_fewest_falls : PySem.W.codeIn K cd_fewest_falls "fewest_falls" = true) (k_fewest_falls : PySem.W.keepIn K (.ref f_fewest_falls) = true)
    (a_is_row : PySem.W.nsIn K mainGlobals "is_row" = some (some (.ref f_is_row))) (l_is_row : K.lookup f_is_row = some ⟨oc_is_row, od_is_row, .func (PySem.W.fnOf "is_row" "is_row" (defArgs s_is_row) (defBody s_is_row) (defScope s_is_row) .none kV_is_row dc_is_row pm_is_row an_is_row cd_is_row ct_is_row), sl_is_row⟩) (c_is_row : PySem.W.codeIn K cd_is_row "is_row" = true) (k_is_row : PySem.W.keepIn K (.ref f_is_row) = true)
    (a_check_row : PySem.W.nsIn K mainGlobals "check_row" = some (some (.ref f_check_row))) (l_check_row : K.lookup f_check_row = some ⟨oc_check_row, od_check_row, .func (PySem.W.fnOf "check_row" "check_row" (defArgs s_check_row) (defBody s_check_row) (defScope s_check_row) .none kV_check_row dc_check_row pm_check_row an_check_row cd_check_row ct_check_row), sl_check_row⟩) (c_check_row : PySem.W.codeIn K cd_check_row "check_row" = true) (k_check_row : PySem.W.keepIn K (.ref f_check_row) = true)
    (a_raised_table : PySem.W.nsIn K mainGlobals "raised_table" = some (some (.ref f_raised_table))) (l_raised_table : K.lookup f_raised_table = some ⟨oc_raised_table, od_raised_table, .func (PySem.W.fnOf "raised_table" "raised_table" (defArgs s_raised_table) (defBody s_raised_table) (defScope s_raised_table) .none kV_raised_table dc_raised_table pm_raised_table an_raised_table cd_raised_table ct_raised_table), sl_raised_table⟩) (c_raised_table : PySem.W.codeIn K cd_raised_table "raised_table" = true) (k_raised_table : PySem.W.keepIn K (.ref f_raised_table) = true)
    (a_nearest_rising : PySem.W.nsIn K mainGlobals "nearest_rising" = some (some (.ref f_nearest_rising))) (l_nearest_rising : K.lookup f_nearest_rising = some ⟨oc_nearest_rising, od_nearest_rising, .func (PySem.W.fnOf "nearest_rising" "nearest_rising" (defArgs s_nearest_rising) (defBody s_nearest_rising) (defScope s_nearest_rising) .none kV_nearest_rising dc_nearest_rising pm_nearest_rising an_nearest_rising cd_nearest_rising ct_nearest_rising), sl_nearest_rising⟩) (c_nearest_rising : PySem.W.codeIn K cd_nearest_rising "nearest_rising" = true) (k_nearest_rising : PySem.W.keepIn K (.ref f_nearest_rising) = true)
    (a_raised_by : PySem.W.nsIn K mainGlobals "raised_by" = some (some (.ref f_raised_by))) (l_raised_by : K.lookup f_raised_by = some ⟨oc_raised_by, od_raised_by, .func (PySem.W.fnOf "raised_by" "raised_by" (defArgs s_raised_by) (defBody s_raised_by) (defScope s_raised_by) .none kV_raised_by dc_raised_by pm_raised_by an_raised_by cd_raised_by ct_raised_by), sl_raised_by⟩) (c_raised_by : PySem.W.codeIn K cd_raised_by "raised_by" = true) (k_raised_by : PySem.W.keepIn K (.ref f_raised_by) = true)
    (a_over_by : PySem.W.nsIn K mainGlobals "over_by" = some (some (.ref f_over_by))) (l_over_by : K.lookup f_over_by = some ⟨oc_over_by, od_over_by, .func (PySem.W.fnOf "over_by" "over_by" (defArgs s_over_by) (defBody s_over_by) (defScope s_over_by) .none kV_over_by dc_over_by pm_over_by an_over_by cd_over_by ct_over_by), sl_over_by⟩) (c_over_by : PySem.W.codeIn K cd_over_by "over_by" = true) (k_over_by : PySem.W.keepIn K (.ref f_over_by) = true)
    (a_least_over : PySem.W.nsIn K mainGlobals "least_over" = some (some (.ref f_least_over))) (l_least_over : K.lookup f_least_over = some ⟨oc_least_over, od_least_over, .func (PySem.W.fnOf "least_over" "least_over" (defArgs s_least_over) (defBody s_least_over) (defScope s_least_over) .none kV_least_over dc_least_over pm_least_over an_least_over cd_least_over ct_least_over), sl_least_over⟩) (c_least_over : PySem.W.codeIn K cd_least_over "least_over" = true) (k_least_over : PySem.W.keepIn K (.ref f_least_over) = true)
    (a_law_hand : PySem.W.nsIn K mainGlobals "_law_hand" = some (some (.ref f_law_hand))) (l_law_hand : K.lookup f_law_hand = some ⟨oc_law_hand, od_law_hand, .func (PySem.W.fnOf "_law_hand" "_law_hand" (defArgs s_law_hand) (defBody s_law_hand) (defScope s_law_hand) .none kV_law_hand dc_law_hand pm_law_hand an_law_hand cd_law_hand ct_law_hand), sl_law_hand⟩) (c_law_hand : PySem.W.codeIn K cd_law_hand "_law_hand" = true) (k_law_hand : PySem.W.keepIn K (.ref f_law_hand) = true)
    (a_law_is : PySem.W.nsIn K mainGlobals "_law_is" = some (some (.ref f_law_is))) (l_law_is : K.lookup f_law_is = some ⟨oc_law_is, od_law_is, .func (PySem.W.fnOf "_law_is" "_law_is" (defArgs s_law_is) (defBody s_law_is) (defScope s_law_is) .none kV_law_is dc_law_is pm_law_is an_law_is cd_law_is ct_law_is), sl_law_is⟩) (c_law_is : PySem.W.codeIn K cd_law_is "_law_is" = true) (k_law_is : PySem.W.keepIn K (.ref f_law_is) = true)
    (a_law_draw : PySem.W.nsIn K mainGlobals "_law_draw" = some (some (.ref f_law_draw))) (l_law_draw : K.lookup f_law_draw = some ⟨oc_law_draw, od_law_draw, .func (PySem.W.fnOf "_law_draw" "_law_draw" (defArgs s_law_draw) (defBody s_law_draw) (defScope s_law_draw) .none kV_law_draw dc_law_draw pm_law_draw an_law_draw cd_law_draw ct_law_draw), sl_law_draw⟩) (c_law_draw : PySem.W.codeIn K cd_law_draw "_law_draw" = true) (k_law_draw : PySem.W.keepIn K (.ref f_law_draw) = true)
    (a_law_some : PySem.W.nsIn K mainGlobals "_law_some" = some (some (.ref f_law_some))) (l_law_some : K.lookup f_law_some = some ⟨oc_law_some, od_law_some, .func (PySem.W.fnOf "_law_some" "_law_some" (defArgs s_law_some) (defBody s_law_some) (defScope s_law_some) .none kV_law_some dc_law_some pm_law_some an_law_some cd_law_some ct_law_some), sl_law_some⟩) (c_law_some : PySem.W.codeIn K cd_law_some "_law_some" = true) (k_law_some : PySem.W.keepIn K (.ref f_law_some) = true)
    (a_law_mixed : PySem.W.nsIn K mainGlobals "_law_mixed" = some (some (.ref f_law_mixed))) (l_law_mixed : K.lookup f_law_mixed = some ⟨oc_law_mixed, od_law_mixed, .func (PySem.W.fnOf "_law_mixed" "_law_mixed" (defArgs s_law_mixed) (defBody s_law_mixed) (defScope s_law_mixed) .none kV_law_mixed dc_law_mixed pm_law_mixed an_law_mixed cd_law_mixed ct_law_mixed), sl_law_mixed⟩) (c_law_mixed : PySem.W.codeIn K cd_law_mixed "_law_mixed" = true) (k_law_mixed : PySem.W.keepIn K (.ref f_law_mixed) = true)
    (a_law_closed : PySem.W.nsIn K mainGlobals "_law_closed" = some (some (.ref f_law_closed))) (l_law_closed : K.lookup f_law_closed = some ⟨oc_law_closed, od_law_closed, .func (PySem.W.fnOf "_law_closed" "_law_closed" (defArgs s_law_closed) (defBody s_law_closed) (defScope s_law_closed) .none kV_law_closed dc_law_closed pm_law_closed an_law_closed cd_law_closed ct_law_closed), sl_law_closed⟩) (c_law_closed : PySem.W.codeIn K cd_law_closed "_law_closed" = true) (k_law_closed : PySem.W.keepIn K (.ref f_law_closed) = true)
    (a_law_of_pairs : PySem.W.nsIn K mainGlobals "_law_of_pairs" = some (some (.ref f_law_of_pairs))) (l_law_of_pairs : K.lookup f_law_of_pairs = some ⟨oc_law_of_pairs, od_law_of_pairs, .func (PySem.W.fnOf "_law_of_pairs" "_law_of_pairs" (defArgs s_law_of_pairs) (defBody s_law_of_pairs) (defScope s_law_of_pairs) .none kV_law_of_pairs dc_law_of_pairs pm_law_of_pairs an_law_of_pairs cd_law_of_pairs ct_law_of_pairs), sl_law_of_pairs⟩) (c_law_of_pairs : PySem.W.codeIn K cd_law_of_pairs "_law_of_pairs" = true) (k_law_of_pairs : PySem.W.keepIn K (.ref f_law_of_pairs) = true)
    (a_law_any_table : PySem.W.nsIn K mainGlobals "_law_any_table" = some (some (.ref f_law_any_table))) (l_law_any_table : K.lookup f_law_any_table = some ⟨oc_law_any_table, od_law_any_table, .func (PySem.W.fnOf "_law_any_table" "_law_any_table" (defArgs s_law_any_table) (defBody s_law_any_table) (defScope s_law_any_table) .none kV_law_any_table dc_law_any_table pm_law_any_table an_law_any_table cd_law_any_table ct_law_any_table), sl_law_any_table⟩) (c_law_any_table : PySem.W.codeIn K cd_law_any_table "_law_any_table" = true) (k_law_any_table : PySem.W.keepIn K (.ref f_law_any_table) = true)
    (a_law_cuts : PySem.W.nsIn K mainGlobals "_law_cuts" = some (some (.ref f_law_cuts))) (l_law_cuts : K.lookup f_law_cuts = some ⟨oc_law_cuts, od_law_cuts, .func (PySem.W.fnOf "_law_cuts" "_law_cuts" (defArgs s_law_cuts) (defBody s_law_cuts) (defScope s_law_cuts) .none kV_law_cuts dc_law_cuts pm_law_cuts an_law_cuts cd_law_cuts ct_law_cuts), sl_law_cuts⟩) (c_law_cuts : PySem.W.codeIn K cd_law_cuts "_law_cuts" = true) (k_law_cuts : PySem.W.keepIn K (.ref f_law_cuts) = true)
    (a_law_sum_of_cuts : PySem.W.nsIn K mainGlobals "_law_sum_of_cuts" = some (some (.ref f_law_sum_of_cuts))) (l_law_sum_of_cuts : K.lookup f_law_sum_of_cuts = some ⟨oc_law_sum_of_cuts, od_law_sum_of_cuts, .func (PySem.W.fnOf "_law_sum_of_cuts" "_law_sum_of_cuts" (defArgs s_law_sum_of_cuts) (defBody s_law_sum_of_cuts) (defScope s_law_sum_of_cuts) .none kV_law_sum_of_cuts dc_law_sum_of_cuts pm_law_sum_of_cuts an_law_sum_of_cuts cd_law_sum_of_cuts ct_law_sum_of_cuts), sl_law_sum_of_cuts⟩) (c_law_sum_of_cuts : PySem.W.codeIn K cd_law_sum_of_cuts "_law_sum_of_cuts" = true) (k_law_sum_of_cuts : PySem.W.keepIn K (.ref f_law_sum_of_cuts) = true)
    (a_law_parts : PySem.W.nsIn K mainGlobals "_law_parts" = some (some (.ref f_law_parts))) (l_law_parts : K.lookup f_law_parts = some ⟨oc_law_parts, od_law_parts, .func (PySem.W.fnOf "_law_parts" "_law_parts" (defArgs s_law_parts) (defBody s_law_parts) (defScope s_law_parts) .none kV_law_parts dc_law_parts pm_law_parts an_law_parts cd_law_parts ct_law_parts), sl_law_parts⟩) (c_law_parts : PySem.W.codeIn K cd_law_parts "_law_parts" = true) (k_law_parts : PySem.W.keepIn K (.ref f_law_parts) = true)
    (a_law_table_of : PySem.W.nsIn K mainGlobals "_law_table_of" = some (some (.ref f_law_table_of))) (l_law_table_of : K.lookup f_law_table_of = some ⟨oc_law_table_of, od_law_table_of, .func (PySem.W.fnOf "_law_table_of" "_law_table_of" (defArgs s_law_table_of) (defBody s_law_table_of) (defScope s_law_table_of) .none kV_law_table_of dc_law_table_of pm_law_table_of an_law_table_of cd_law_table_of ct_law_table_of), sl_law_table_of⟩) (c_law_table_of : PySem.W.codeIn K cd_law_table_of "_law_table_of" = true) (k_law_table_of : PySem.W.keepIn K (.ref f_law_table_of) = true)
    (a_law_table : PySem.W.nsIn K mainGlobals "_law_table" = some (some (.ref f_law_table))) (l_law_table : K.lookup f_law_table = some ⟨oc_law_table, od_law_table, .func (PySem.W.fnOf "_law_table" "_law_table" (defArgs s_law_table) (defBody s_law_table) (defScope s_law_table) .none kV_law_table dc_law_table pm_law_table an_law_table cd_law_table ct_law_table), sl_law_table⟩) (c_law_table : PySem.W.codeIn K cd_law_table "_law_table" = true) (k_law_table : PySem.W.keepIn K (.ref f_law_table) = true)
    (a_law_renamed : PySem.W.nsIn K mainGlobals "_law_renamed" = some (some (.ref f_law_renamed))) (l_law_renamed : K.lookup f_law_renamed = some ⟨oc_law_renamed, od_law_renamed, .func (PySem.W.fnOf "_law_renamed" "_law_renamed" (defArgs s_law_renamed) (defBody s_law_renamed) (defScope s_law_renamed) .none kV_law_renamed dc_law_renamed pm_law_renamed an_law_renamed cd_law_renamed ct_law_renamed), sl_law_renamed⟩) (c_law_renamed : PySem.W.codeIn K cd_law_renamed "_law_renamed" = true) (k_law_renamed : PySem.W.keepIn K (.ref f_law_renamed) = true)
    (a_law_drawn_table : PySem.W.nsIn K mainGlobals "_law_drawn_table" = some (some (.ref f_law_drawn_table))) (l_law_drawn_table : K.lookup f_law_drawn_table = some ⟨oc_law_drawn_table, od_law_drawn_table, .func (PySem.W.fnOf "_law_drawn_table" "_law_drawn_table" (defArgs s_law_drawn_table) (defBody s_law_drawn_table) (defScope s_law_drawn_table) .none kV_law_drawn_table dc_law_drawn_table pm_law_drawn_table an_law_drawn_table cd_law_drawn_table ct_law_drawn_table), sl_law_drawn_table⟩) (c_law_drawn_table : PySem.W.codeIn K cd_law_drawn_table "_law_drawn_table" = true) (k_law_drawn_table : PySem.W.keepIn K (.ref f_law_drawn_table) = true)
    (a_law_rows : PySem.W.nsIn K mainGlobals "_law_rows" = some (some (.ref f_law_rows))) (l_law_rows : K.lookup f_law_rows = some ⟨oc_law_rows, od_law_rows, .func (PySem.W.fnOf "_law_rows" "_law_rows" (defArgs s_law_rows) (defBody s_law_rows) (defScope s_law_rows) .none kV_law_rows dc_law_rows pm_law_rows an_law_rows cd_law_rows ct_law_rows), sl_law_rows⟩) (c_law_rows : PySem.W.codeIn K cd_law_rows "_law_rows" = true) (k_law_rows : PySem.W.keepIn K (.ref f_law_rows) = true)
    (a_law_falls : PySem.W.nsIn K mainGlobals "_law_falls" = some (some (.ref f_law_falls))) (l_law_falls : K.lookup f_law_falls = some ⟨oc_law_falls, od_law_falls, .func (PySem.W.fnOf "_law_falls" "_law_falls" (defArgs s_law_falls) (defBody s_law_falls) (defScope s_law_falls) .none kV_law_falls dc_law_falls pm_law_falls an_law_falls cd_law_falls ct_law_falls), sl_law_falls⟩) (c_law_falls : PySem.W.codeIn K cd_law_falls "_law_falls" = true) (k_law_falls : PySem.W.keepIn K (.ref f_law_falls) = true)
    (a_law_nearest : PySem.W.nsIn K mainGlobals "_law_nearest" = some (some (.ref f_law_nearest))) (l_law_nearest : K.lookup f_law_nearest = some ⟨oc_law_nearest, od_law_nearest, .func (PySem.W.fnOf "_law_nearest" "_law_nearest" (defArgs s_law_nearest) (defBody s_law_nearest) (defScope s_law_nearest) .none kV_law_nearest dc_law_nearest pm_law_nearest an_law_nearest cd_law_nearest ct_law_nearest), sl_law_nearest⟩) (c_law_nearest : PySem.W.codeIn K cd_law_nearest "_law_nearest" = true) (k_law_nearest : PySem.W.keepIn K (.ref f_law_nearest) = true)
    (a_law_off_by : PySem.W.nsIn K mainGlobals "_law_off_by" = some (some (.ref f_law_off_by))) (l_law_off_by : K.lookup f_law_off_by = some ⟨oc_law_off_by, od_law_off_by, .func (PySem.W.fnOf "_law_off_by" "_law_off_by" (defArgs s_law_off_by) (defBody s_law_off_by) (defScope s_law_off_by) .none kV_law_off_by dc_law_off_by pm_law_off_by an_law_off_by cd_law_off_by ct_law_off_by), sl_law_off_by⟩) (c_law_off_by : PySem.W.codeIn K cd_law_off_by "_law_off_by" = true) (k_law_off_by : PySem.W.keepIn K (.ref f_law_off_by) = true)
    (a_does_rise : PySem.W.nsIn K mainGlobals "does_rise" = some (some (.ref f_does_rise))) (l_does_rise : K.lookup f_does_rise = some ⟨oc_does_rise, od_does_rise, .func (PySem.W.fnOf "does_rise" "does_rise" (defArgs s_does_rise) (defBody s_does_rise) (defScope s_does_rise) .none kV_does_rise dc_does_rise pm_does_rise an_does_rise cd_does_rise ct_does_rise), sl_does_rise⟩) (c_does_rise : PySem.W.codeIn K cd_does_rise "does_rise" = true) (k_does_rise : PySem.W.keepIn K (.ref f_does_rise) = true)
    (a_falls : PySem.W.nsIn K mainGlobals "falls" = some (some (.ref f_falls))) (l_falls : K.lookup f_falls = some ⟨oc_falls, od_falls, .func (PySem.W.fnOf "falls" "falls" (defArgs s_falls) (defBody s_falls) (defScope s_falls) .none kV_falls dc_falls pm_falls an_falls cd_falls ct_falls), sl_falls⟩) (c_falls : PySem.W.codeIn K cd_falls "falls" = true) (k_falls : PySem.W.keepIn K (.ref f_falls) = true)
    (a_law_row_right : PySem.W.nsIn K mainGlobals "_law_row_right" = some (some (.ref f_law_row_right))) (l_law_row_right : K.lookup f_law_row_right = some ⟨oc_law_row_right, od_law_row_right, .func (PySem.W.fnOf "_law_row_right" "_law_row_right" (defArgs s_law_row_right) (defBody s_law_row_right) (defScope s_law_row_right) .none kV_law_row_right dc_law_row_right pm_law_row_right an_law_row_right cd_law_row_right ct_law_row_right), sl_law_row_right⟩) (c_law_row_right : PySem.W.codeIn K cd_law_row_right "_law_row_right" = true) (k_law_row_right : PySem.W.keepIn K (.ref f_law_row_right) = true)
    (a_law_case_right : PySem.W.nsIn K mainGlobals "_law_case_right" = some (some (.ref f_law_case_right))) (l_law_case_right : K.lookup f_law_case_right = some ⟨oc_law_case_right, od_law_case_right, .func (PySem.W.fnOf "_law_case_right" "_law_case_right" (defArgs s_law_case_right) (defBody s_law_case_right) (defScope s_law_case_right) .none kV_law_case_right dc_law_case_right pm_law_case_right an_law_case_right cd_law_case_right ct_law_case_right), sl_law_case_right⟩) (c_law_case_right : PySem.W.codeIn K cd_law_case_right "_law_case_right" = true) (k_law_case_right : PySem.W.keepIn K (.ref f_law_case_right) = true)
    (a_law_no_table : PySem.W.nsIn K mainGlobals "_law_no_table" = some (some (.ref f_law_no_table))) (l_law_no_table : K.lookup f_law_no_table = some ⟨oc_law_no_table, od_law_no_table, .func (PySem.W.fnOf "_law_no_table" "_law_no_table" (defArgs s_law_no_table) (defBody s_law_no_table) (defScope s_law_no_table) .none kV_law_no_table dc_law_no_table pm_law_no_table an_law_no_table cd_law_no_table ct_law_no_table), sl_law_no_table⟩) (c_law_no_table : PySem.W.codeIn K cd_law_no_table "_law_no_table" = true) (k_law_no_table : PySem.W.keepIn K (.ref f_law_no_table) = true)
    (a_law_no_row : PySem.W.nsIn K mainGlobals "_law_no_row" = some (some (.ref f_law_no_row))) (l_law_no_row : K.lookup f_law_no_row = some ⟨oc_law_no_row, od_law_no_row, .func (PySem.W.fnOf "_law_no_row" "_law_no_row" (defArgs s_law_no_row) (defBody s_law_no_row) (defScope s_law_no_row) .none kV_law_no_row dc_law_no_row pm_law_no_row an_law_no_row cd_law_no_row ct_law_no_row), sl_law_no_row⟩) (c_law_no_row : PySem.W.codeIn K cd_law_no_row "_law_no_row" = true) (k_law_no_row : PySem.W.keepIn K (.ref f_law_no_row) = true)
    (a_law_word : PySem.W.nsIn K mainGlobals "_law_word" = some (some (.ref f_law_word))) (l_law_word : K.lookup f_law_word = some ⟨oc_law_word, od_law_word, .func (PySem.W.fnOf "_law_word" "_law_word" (defArgs s_law_word) (defBody s_law_word) (defScope s_law_word) .none kV_law_word dc_law_word pm_law_word an_law_word cd_law_word ct_law_word), sl_law_word⟩) (c_law_word : PySem.W.codeIn K cd_law_word "_law_word" = true) (k_law_word : PySem.W.keepIn K (.ref f_law_word) = true)
    (a_law_refused_right : PySem.W.nsIn K mainGlobals "_law_refused_right" = some (some (.ref f_law_refused_right))) (l_law_refused_right : K.lookup f_law_refused_right = some ⟨oc_law_refused_right, od_law_refused_right, .func (PySem.W.fnOf "_law_refused_right" "_law_refused_right" (defArgs s_law_refused_right) (defBody s_law_refused_right) (defScope s_law_refused_right) .none kV_law_refused_right dc_law_refused_right pm_law_refused_right an_law_refused_right (.ref cL_law_refused_right) ct_law_refused_right), sl_law_refused_right⟩) (c_law_refused_right : PySem.W.codeIn K (.ref cL_law_refused_right) "_law_refused_right" = true) (k_law_refused_right : PySem.W.keepIn K (.ref f_law_refused_right) = true)
    (a_law : PySem.W.nsIn K mainGlobals "law" = some (some (.ref f_law))) (l_law : K.lookup f_law = some ⟨oc_law, od_law, .func (PySem.W.fnOf "law" "law" (defArgs s_law) (defBody s_law) (defScope s_law) .none kV_law dc_law pm_law an_law cd_law ct_law), sl_law⟩) (c_law : PySem.W.codeIn K cd_law "law" = true) (k_law : PySem.W.keepIn K (.ref f_law) = true)
    (lL_law_refused_right : K.lookup cL_law_refused_right = some ⟨eL_law_refused_right, ddL_law_refused_right, .fields vsL_law_refused_right, slL_law_refused_right⟩) (vL_law_refused_right : vsL_law_refused_right[11]? = some (.ref Pt_law_refused_right)) (nL_law_refused_right : K.lookup Pt_law_refused_right = none) (hL_law_refused_right : PySem.W.codeHdIn K cL_law_refused_right Pt_law_refused_right = true)
    (z_ValueError : PySem.W.nsIn K mainGlobals "ValueError" = some none)
    (z_abs : PySem.W.nsIn K mainGlobals "abs" = some none)
    (z_all : PySem.W.nsIn K mainGlobals "all" = some none)
    (z_any : PySem.W.nsIn K mainGlobals "any" = some none)
    (z_bool : PySem.W.nsIn K mainGlobals "bool" = some none)
    (z_enumerate : PySem.W.nsIn K mainGlobals "enumerate" = some none)
    (z_int : PySem.W.nsIn K mainGlobals "int" = some none)
    (z_isinstance : PySem.W.nsIn K mainGlobals "isinstance" = some none)
    (z_len : PySem.W.nsIn K mainGlobals "len" = some none)
    (z_list : PySem.W.nsIn K mainGlobals "list" = some none)
    (z_max : PySem.W.nsIn K mainGlobals "max" = some none)
    (z_min : PySem.W.nsIn K mainGlobals "min" = some none)
    (z_range : PySem.W.nsIn K mainGlobals "range" = some none)
    (z_repr : PySem.W.nsIn K mainGlobals "repr" = some none)
    (z_sorted : PySem.W.nsIn K mainGlobals "sorted" = some none)
    (z_str : PySem.W.nsIn K mainGlobals "str" = some none)
    (z_sum : PySem.W.nsIn K mainGlobals "sum" = some none)
    (z_tuple : PySem.W.nsIn K mainGlobals "tuple" = some none)
    (z_zip : PySem.W.nsIn K mainGlobals "zip" = some none)
    (c_MOST_FAR : PySem.W.nsIn K mainGlobals "MOST_FAR" = some (some (.int 1000 tk_MOST_FAR)))
    (c_MOST_PLACES : PySem.W.nsIn K mainGlobals "MOST_PLACES" = some (some (.int 7 tk_MOST_PLACES)))
    (g_FarError : PySem.W.nsIn K mainGlobals "FarError" = some (some (.ref e_FarError)))
    (g_NoRow : PySem.W.nsIn K mainGlobals "NoRow" = some (some (.ref e_NoRow)))
    (g_NoTable : PySem.W.nsIn K mainGlobals "NoTable" = some (some (.ref e_NoTable)))
    (g_Unsound : PySem.W.nsIn K mainGlobals "Unsound" = some (some (.ref e_Unsound)))
    (o1_NoRow : PySem.W.keepIn K (.ref e_NoRow) = true) (o2_NoRow : PySem.W.excIn K e_NoRow [.type "ValueError", .type "Exception", .type "BaseException", .type "object"] "ValueError.__new__" = true) (o3_NoRow : PySem.W.subIn K (.ref e_NoRow) (.type "BaseException") = some true) (o4_NoRow : PySem.W.typeIn K (.ref e_NoRow) = some (.type "type"))
    (q1_NoRow : PySem.W.findIn K (.ref e_NoRow) "__getattribute__" = some (some (.builtin "BaseException.__getattribute__"))) (q2_NoRow : PySem.W.findIn K (.ref e_NoRow) "__getattr__" = some none) (q4_NoRow : PySem.W.hasDictIn K e_NoRow = true) (q5_NoRow : PySem.W.findIn K (.ref e_NoRow) "__class__" = some (some (.builtin "object.__class__"))) (q6_NoRow : PySem.W.specialIn K (.builtin "object.__class__") "__get__" = some (some (.builtin "getset_descriptor.__get__"))) (q7_NoRow : PySem.W.takesIn K (.builtin "object.__class__") = some true) (q8_NoRow : PySem.W.mroIn K e_NoRow (.type "object") = some true) (x_NoRow : PySem.W.exmOne K (.ref e_NoRow) (.ref e_FarError) = some true)
    (k_NoRow_NoRow : PySem.W.kitOne K (.ref e_NoRow) (.ref e_NoRow) = some true)
    (k_NoRow_NoTable : PySem.W.kitOne K (.ref e_NoRow) (.ref e_NoTable) = some false)
    (k_NoRow_ValueError : PySem.W.kitOne K (.ref e_NoRow) (.type "ValueError") = some true)
    (o1_NoTable : PySem.W.keepIn K (.ref e_NoTable) = true) (o2_NoTable : PySem.W.excIn K e_NoTable [.type "ValueError", .type "Exception", .type "BaseException", .type "object"] "ValueError.__new__" = true) (o3_NoTable : PySem.W.subIn K (.ref e_NoTable) (.type "BaseException") = some true) (o4_NoTable : PySem.W.typeIn K (.ref e_NoTable) = some (.type "type"))
    (q1_NoTable : PySem.W.findIn K (.ref e_NoTable) "__getattribute__" = some (some (.builtin "BaseException.__getattribute__"))) (q2_NoTable : PySem.W.findIn K (.ref e_NoTable) "__getattr__" = some none) (q4_NoTable : PySem.W.hasDictIn K e_NoTable = true) (q5_NoTable : PySem.W.findIn K (.ref e_NoTable) "__class__" = some (some (.builtin "object.__class__"))) (q6_NoTable : PySem.W.specialIn K (.builtin "object.__class__") "__get__" = some (some (.builtin "getset_descriptor.__get__"))) (q7_NoTable : PySem.W.takesIn K (.builtin "object.__class__") = some true) (q8_NoTable : PySem.W.mroIn K e_NoTable (.type "object") = some true) (x_NoTable : PySem.W.exmOne K (.ref e_NoTable) (.ref e_FarError) = some true)
    (k_NoTable_NoRow : PySem.W.kitOne K (.ref e_NoTable) (.ref e_NoRow) = some false)
    (k_NoTable_NoTable : PySem.W.kitOne K (.ref e_NoTable) (.ref e_NoTable) = some true)
    (k_NoTable_ValueError : PySem.W.kitOne K (.ref e_NoTable) (.type "ValueError") = some true)
    (o1_Unsound : PySem.W.keepIn K (.ref e_Unsound) = true) (o2_Unsound : PySem.W.excIn K e_Unsound [.type "ValueError", .type "Exception", .type "BaseException", .type "object"] "ValueError.__new__" = true) (o3_Unsound : PySem.W.subIn K (.ref e_Unsound) (.type "BaseException") = some true) (o4_Unsound : PySem.W.typeIn K (.ref e_Unsound) = some (.type "type"))
    (q1_Unsound : PySem.W.findIn K (.ref e_Unsound) "__getattribute__" = some (some (.builtin "BaseException.__getattribute__"))) (q2_Unsound : PySem.W.findIn K (.ref e_Unsound) "__getattr__" = some none) (q4_Unsound : PySem.W.hasDictIn K e_Unsound = true) (q5_Unsound : PySem.W.findIn K (.ref e_Unsound) "__class__" = some (some (.builtin "object.__class__"))) (q6_Unsound : PySem.W.specialIn K (.builtin "object.__class__") "__get__" = some (some (.builtin "getset_descriptor.__get__"))) (q7_Unsound : PySem.W.takesIn K (.builtin "object.__class__") = some true) (q8_Unsound : PySem.W.mroIn K e_Unsound (.type "object") = some true) (x_Unsound : PySem.W.exmOne K (.ref e_Unsound) (.ref e_FarError) = some true)
    (k_Unsound_NoRow : PySem.W.kitOne K (.ref e_Unsound) (.ref e_NoRow) = some false)
    (k_Unsound_NoTable : PySem.W.kitOne K (.ref e_Unsound) (.ref e_NoTable) = some false)
    (k_Unsound_ValueError : PySem.W.kitOne K (.ref e_Unsound) (.type "ValueError") = some true) :
    LawAtG PySem.Challenge.rw_farhouse_k96_whole_rows_that_nearly_rise w K (L2.CX PySem.Challenge.rw_farhouse_k96_whole_rows_that_nearly_rise.prog w) 13 63 "script" mg fa h := by
  have e := hfa.symm.trans (PySem.W.mg_of X G a_law)
  cases e
  let t : Tx K mg := {
    a_is_integer := f_is_integer, d_is_integer := _, F_is_integer := fun_mk (st := s_is_integer) l_is_integer c_is_integer k_is_integer, b_is_integer := (fun_mk (st := s_is_integer) l_is_integer c_is_integer k_is_integer).binds (ps := ["thing"]) (fun _ _ _ _ _ _ us hl => match us, hl with | [_], _ => rfl), m_is_integer := PySem.W.mg_of X G a_is_integer,
    a_is_within := f_is_within, d_is_within := _, F_is_within := fun_mk (st := s_is_within) l_is_within c_is_within k_is_within, b_is_within := (fun_mk (st := s_is_within) l_is_within c_is_within k_is_within).binds (ps := ["thing", "low", "high"]) (fun _ _ _ _ _ _ us hl => match us, hl with | [_, _, _], _ => rfl), m_is_within := PySem.W.mg_of X G a_is_within,
    a_is_sized := f_is_sized, d_is_sized := _, F_is_sized := fun_mk (st := s_is_sized) l_is_sized c_is_sized k_is_sized, b_is_sized := (fun_mk (st := s_is_sized) l_is_sized c_is_sized k_is_sized).binds (ps := ["thing", "low", "high"]) (fun _ _ _ _ _ _ us hl => match us, hl with | [_, _, _], _ => rfl), m_is_sized := PySem.W.mg_of X G a_is_sized,
    a_is_table := f_is_table, d_is_table := _, F_is_table := fun_mk (st := s_is_table) l_is_table c_is_table k_is_table, b_is_table := (fun_mk (st := s_is_table) l_is_table c_is_table k_is_table).binds (ps := ["thing"]) (fun _ _ _ _ _ _ us hl => match us, hl with | [_], _ => rfl), m_is_table := PySem.W.mg_of X G a_is_table,
    a_check_table := f_check_table, d_check_table := _, F_check_table := fun_mk (st := s_check_table) l_check_table c_check_table k_check_table, b_check_table := (fun_mk (st := s_check_table) l_check_table c_check_table k_check_table).binds (ps := ["thing"]) (fun _ _ _ _ _ _ us hl => match us, hl with | [_], _ => rfl), m_check_table := PySem.W.mg_of X G a_check_table,
    a_short_triple := f_short_triple, d_short_triple := _, F_short_triple := fun_mk (st := s_short_triple) l_short_triple c_short_triple k_short_triple, b_short_triple := (fun_mk (st := s_short_triple) l_short_triple c_short_triple k_short_triple).binds (ps := ["table"]) (fun _ _ _ _ _ _ us hl => match us, hl with | [_], _ => rfl), m_short_triple := PySem.W.mg_of X G a_short_triple,
    a_check_sound := f_check_sound, d_check_sound := _, F_check_sound := fun_mk (st := s_check_sound) l_check_sound c_check_sound k_check_sound, b_check_sound := (fun_mk (st := s_check_sound) l_check_sound c_check_sound k_check_sound).binds (ps := ["table"]) (fun _ _ _ _ _ _ us hl => match us, hl with | [_], _ => rfl), m_check_sound := PySem.W.mg_of X G a_check_sound,
    a_falls_of := f_falls_of, d_falls_of := _, F_falls_of := fun_mk (st := s_falls_of) l_falls_of c_falls_of k_falls_of, b_falls_of := (fun_mk (st := s_falls_of) l_falls_of c_falls_of k_falls_of).binds (ps := ["table", "row"]) (fun _ _ _ _ _ _ us hl => match us, hl with | [_, _], _ => rfl), m_falls_of := PySem.W.mg_of X G a_falls_of,
    a_all_rows := f_all_rows, d_all_rows := _, F_all_rows := fun_mk (st := s_all_rows) l_all_rows c_all_rows k_all_rows, b_all_rows := (fun_mk (st := s_all_rows) l_all_rows c_all_rows k_all_rows).binds (ps := ["n"]) (fun _ _ _ _ _ _ us hl => match us, hl with | [_], _ => rfl), m_all_rows := PySem.W.mg_of X G a_all_rows,
    a_fewest_falls := f_fewest_falls, d_fewest_falls := _, F_fewest_falls := fun_mk (st := s_fewest_falls) l_fewest_falls c_fewest_falls k_fewest_falls, b_fewest_falls := (fun_mk (st := s_fewest_falls) l_fewest_falls c_fewest_falls k_fewest_falls).binds (ps := ["table"]) (fun _ _ _ _ _ _ us hl => match us, hl with | [_], _ => rfl), m_fewest_falls := PySem.W.mg_of X G a_fewest_falls,
    a_is_row := f_is_row, d_is_row := _, F_is_row := fun_mk (st := s_is_row) l_is_row c_is_row k_is_row, b_is_row := (fun_mk (st := s_is_row) l_is_row c_is_row k_is_row).binds (ps := ["n", "thing"]) (fun _ _ _ _ _ _ us hl => match us, hl with | [_, _], _ => rfl), m_is_row := PySem.W.mg_of X G a_is_row,
    a_check_row := f_check_row, d_check_row := _, F_check_row := fun_mk (st := s_check_row) l_check_row c_check_row k_check_row, b_check_row := (fun_mk (st := s_check_row) l_check_row c_check_row k_check_row).binds (ps := ["table", "row"]) (fun _ _ _ _ _ _ us hl => match us, hl with | [_, _], _ => rfl), m_check_row := PySem.W.mg_of X G a_check_row,
    a_raised_table := f_raised_table, d_raised_table := _, F_raised_table := fun_mk (st := s_raised_table) l_raised_table c_raised_table k_raised_table, b_raised_table := (fun_mk (st := s_raised_table) l_raised_table c_raised_table k_raised_table).binds (ps := ["table", "row"]) (fun _ _ _ _ _ _ us hl => match us, hl with | [_, _], _ => rfl), m_raised_table := PySem.W.mg_of X G a_raised_table,
    a_nearest_rising := f_nearest_rising, d_nearest_rising := _, F_nearest_rising := fun_mk (st := s_nearest_rising) l_nearest_rising c_nearest_rising k_nearest_rising, b_nearest_rising := (fun_mk (st := s_nearest_rising) l_nearest_rising c_nearest_rising k_nearest_rising).binds (ps := ["table", "row"]) (fun _ _ _ _ _ _ us hl => match us, hl with | [_, _], _ => rfl), m_nearest_rising := PySem.W.mg_of X G a_nearest_rising,
    a_raised_by := f_raised_by, d_raised_by := _, F_raised_by := fun_mk (st := s_raised_by) l_raised_by c_raised_by k_raised_by, b_raised_by := (fun_mk (st := s_raised_by) l_raised_by c_raised_by k_raised_by).binds (ps := ["table", "row"]) (fun _ _ _ _ _ _ us hl => match us, hl with | [_, _], _ => rfl), m_raised_by := PySem.W.mg_of X G a_raised_by,
    a_over_by := f_over_by, d_over_by := _, F_over_by := fun_mk (st := s_over_by) l_over_by c_over_by k_over_by, b_over_by := (fun_mk (st := s_over_by) l_over_by c_over_by k_over_by).binds (ps := ["table", "row"]) (fun _ _ _ _ _ _ us hl => match us, hl with | [_, _], _ => rfl), m_over_by := PySem.W.mg_of X G a_over_by,
    a_least_over := f_least_over, d_least_over := _, F_least_over := fun_mk (st := s_least_over) l_least_over c_least_over k_least_over, b_least_over := (fun_mk (st := s_least_over) l_least_over c_least_over k_least_over).binds (ps := ["table"]) (fun _ _ _ _ _ _ us hl => match us, hl with | [_], _ => rfl), m_least_over := PySem.W.mg_of X G a_least_over,
    a_law_hand := f_law_hand, d_law_hand := _, F_law_hand := fun_mk (st := s_law_hand) l_law_hand c_law_hand k_law_hand, b_law_hand := (fun_mk (st := s_law_hand) l_law_hand c_law_hand k_law_hand).binds (ps := ["script"]) (fun _ _ _ _ _ _ us hl => match us, hl with | [_], _ => rfl), m_law_hand := PySem.W.mg_of X G a_law_hand,
    a_law_is := f_law_is, d_law_is := _, F_law_is := fun_mk (st := s_law_is) l_law_is c_law_is k_law_is, b_law_is := (fun_mk (st := s_law_is) l_law_is c_law_is k_law_is).binds (ps := ["said", "due"]) (fun _ _ _ _ _ _ us hl => match us, hl with | [_, _], _ => rfl), m_law_is := PySem.W.mg_of X G a_law_is,
    a_law_draw := f_law_draw, d_law_draw := _, F_law_draw := fun_mk (st := s_law_draw) l_law_draw c_law_draw k_law_draw, b_law_draw := (fun_mk (st := s_law_draw) l_law_draw c_law_draw k_law_draw).binds (ps := ["hand", "many"]) (fun _ _ _ _ _ _ us hl => match us, hl with | [_, _], _ => rfl), m_law_draw := PySem.W.mg_of X G a_law_draw,
    a_law_some := f_law_some, d_law_some := _, F_law_some := fun_mk (st := s_law_some) l_law_some c_law_some k_law_some, b_law_some := (fun_mk (st := s_law_some) l_law_some c_law_some k_law_some).binds (ps := ["hand", "things"]) (fun _ _ _ _ _ _ us hl => match us, hl with | [_, _], _ => rfl), m_law_some := PySem.W.mg_of X G a_law_some,
    a_law_mixed := f_law_mixed, d_law_mixed := _, F_law_mixed := fun_mk (st := s_law_mixed) l_law_mixed c_law_mixed k_law_mixed, b_law_mixed := (fun_mk (st := s_law_mixed) l_law_mixed c_law_mixed k_law_mixed).binds (ps := ["hand", "things"]) (fun _ _ _ _ _ _ us hl => match us, hl with | [_, _], _ => rfl), m_law_mixed := PySem.W.mg_of X G a_law_mixed,
    a_law_closed := f_law_closed, d_law_closed := _, F_law_closed := fun_mk (st := s_law_closed) l_law_closed c_law_closed k_law_closed, b_law_closed := (fun_mk (st := s_law_closed) l_law_closed c_law_closed k_law_closed).binds (ps := ["rows"]) (fun _ _ _ _ _ _ us hl => match us, hl with | [_], _ => rfl), m_law_closed := PySem.W.mg_of X G a_law_closed,
    a_law_of_pairs := f_law_of_pairs, d_law_of_pairs := _, F_law_of_pairs := fun_mk (st := s_law_of_pairs) l_law_of_pairs c_law_of_pairs k_law_of_pairs, b_law_of_pairs := (fun_mk (st := s_law_of_pairs) l_law_of_pairs c_law_of_pairs k_law_of_pairs).binds (ps := ["many", "numbers"]) (fun _ _ _ _ _ _ us hl => match us, hl with | [_, _], _ => rfl), m_law_of_pairs := PySem.W.mg_of X G a_law_of_pairs,
    a_law_any_table := f_law_any_table, d_law_any_table := _, F_law_any_table := fun_mk (st := s_law_any_table) l_law_any_table c_law_any_table k_law_any_table, b_law_any_table := (fun_mk (st := s_law_any_table) l_law_any_table c_law_any_table k_law_any_table).binds (ps := ["hand", "many", "high"]) (fun _ _ _ _ _ _ us hl => match us, hl with | [_, _, _], _ => rfl), m_law_any_table := PySem.W.mg_of X G a_law_any_table,
    a_law_cuts := f_law_cuts, d_law_cuts := _, F_law_cuts := fun_mk (st := s_law_cuts) l_law_cuts c_law_cuts k_law_cuts, b_law_cuts := (fun_mk (st := s_law_cuts) l_law_cuts c_law_cuts k_law_cuts).binds (ps := ["many"]) (fun _ _ _ _ _ _ us hl => match us, hl with | [_], _ => rfl), m_law_cuts := PySem.W.mg_of X G a_law_cuts,
    a_law_sum_of_cuts := f_law_sum_of_cuts, d_law_sum_of_cuts := _, F_law_sum_of_cuts := fun_mk (st := s_law_sum_of_cuts) l_law_sum_of_cuts c_law_sum_of_cuts k_law_sum_of_cuts, b_law_sum_of_cuts := (fun_mk (st := s_law_sum_of_cuts) l_law_sum_of_cuts c_law_sum_of_cuts k_law_sum_of_cuts).binds (ps := ["hand", "many"]) (fun _ _ _ _ _ _ us hl => match us, hl with | [_, _], _ => rfl), m_law_sum_of_cuts := PySem.W.mg_of X G a_law_sum_of_cuts,
    a_law_parts := f_law_parts, d_law_parts := _, F_law_parts := fun_mk (st := s_law_parts) l_law_parts c_law_parts k_law_parts, b_law_parts := (fun_mk (st := s_law_parts) l_law_parts c_law_parts k_law_parts).binds (ps := ["cut", "i", "j"]) (fun _ _ _ _ _ _ us hl => match us, hl with | [_, _, _], _ => rfl), m_law_parts := PySem.W.mg_of X G a_law_parts,
    a_law_table_of := f_law_table_of, d_law_table_of := _, F_law_table_of := fun_mk (st := s_law_table_of) l_law_table_of c_law_table_of k_law_table_of, b_law_table_of := (fun_mk (st := s_law_table_of) l_law_table_of c_law_table_of k_law_table_of).binds (ps := ["many", "cuts"]) (fun _ _ _ _ _ _ us hl => match us, hl with | [_, _], _ => rfl), m_law_table_of := PySem.W.mg_of X G a_law_table_of,
    a_law_table := f_law_table, d_law_table := _, F_law_table := fun_mk (st := s_law_table) l_law_table c_law_table k_law_table, b_law_table := (fun_mk (st := s_law_table) l_law_table c_law_table k_law_table).binds (ps := ["hand", "most"]) (fun _ _ _ _ _ _ us hl => match us, hl with | [_, _], _ => rfl), m_law_table := PySem.W.mg_of X G a_law_table,
    a_law_renamed := f_law_renamed, d_law_renamed := _, F_law_renamed := fun_mk (st := s_law_renamed) l_law_renamed c_law_renamed k_law_renamed, b_law_renamed := (fun_mk (st := s_law_renamed) l_law_renamed c_law_renamed k_law_renamed).binds (ps := ["table", "names"]) (fun _ _ _ _ _ _ us hl => match us, hl with | [_, _], _ => rfl), m_law_renamed := PySem.W.mg_of X G a_law_renamed,
    a_law_drawn_table := f_law_drawn_table, d_law_drawn_table := _, F_law_drawn_table := fun_mk (st := s_law_drawn_table) l_law_drawn_table c_law_drawn_table k_law_drawn_table, b_law_drawn_table := (fun_mk (st := s_law_drawn_table) l_law_drawn_table c_law_drawn_table k_law_drawn_table).binds (ps := ["hand", "most"]) (fun _ _ _ _ _ _ us hl => match us, hl with | [_, _], _ => rfl), m_law_drawn_table := PySem.W.mg_of X G a_law_drawn_table,
    a_law_rows := f_law_rows, d_law_rows := _, F_law_rows := fun_mk (st := s_law_rows) l_law_rows c_law_rows k_law_rows, b_law_rows := (fun_mk (st := s_law_rows) l_law_rows c_law_rows k_law_rows).binds (ps := ["many"]) (fun _ _ _ _ _ _ us hl => match us, hl with | [_], _ => rfl), m_law_rows := PySem.W.mg_of X G a_law_rows,
    a_law_falls := f_law_falls, d_law_falls := _, F_law_falls := fun_mk (st := s_law_falls) l_law_falls c_law_falls k_law_falls, b_law_falls := (fun_mk (st := s_law_falls) l_law_falls c_law_falls k_law_falls).binds (ps := ["table", "row"]) (fun _ _ _ _ _ _ us hl => match us, hl with | [_, _], _ => rfl), m_law_falls := PySem.W.mg_of X G a_law_falls,
    a_law_nearest := f_law_nearest, d_law_nearest := _, F_law_nearest := fun_mk (st := s_law_nearest) l_law_nearest c_law_nearest k_law_nearest, b_law_nearest := (fun_mk (st := s_law_nearest) l_law_nearest c_law_nearest k_law_nearest).binds (ps := ["table", "row"]) (fun _ _ _ _ _ _ us hl => match us, hl with | [_, _], _ => rfl), m_law_nearest := PySem.W.mg_of X G a_law_nearest,
    a_law_off_by := f_law_off_by, d_law_off_by := _, F_law_off_by := fun_mk (st := s_law_off_by) l_law_off_by c_law_off_by k_law_off_by, b_law_off_by := (fun_mk (st := s_law_off_by) l_law_off_by c_law_off_by k_law_off_by).binds (ps := ["table", "row"]) (fun _ _ _ _ _ _ us hl => match us, hl with | [_, _], _ => rfl), m_law_off_by := PySem.W.mg_of X G a_law_off_by,
    a_does_rise := f_does_rise, d_does_rise := _, F_does_rise := fun_mk (st := s_does_rise) l_does_rise c_does_rise k_does_rise, b_does_rise := (fun_mk (st := s_does_rise) l_does_rise c_does_rise k_does_rise).binds (ps := ["table", "row"]) (fun _ _ _ _ _ _ us hl => match us, hl with | [_, _], _ => rfl), m_does_rise := PySem.W.mg_of X G a_does_rise,
    a_falls := f_falls, d_falls := _, F_falls := fun_mk (st := s_falls) l_falls c_falls k_falls, b_falls := (fun_mk (st := s_falls) l_falls c_falls k_falls).binds (ps := ["table", "row"]) (fun _ _ _ _ _ _ us hl => match us, hl with | [_, _], _ => rfl), m_falls := PySem.W.mg_of X G a_falls,
    a_law_row_right := f_law_row_right, d_law_row_right := _, F_law_row_right := fun_mk (st := s_law_row_right) l_law_row_right c_law_row_right k_law_row_right, b_law_row_right := (fun_mk (st := s_law_row_right) l_law_row_right c_law_row_right k_law_row_right).binds (ps := ["hand", "table", "row"]) (fun _ _ _ _ _ _ us hl => match us, hl with | [_, _, _], _ => rfl), m_law_row_right := PySem.W.mg_of X G a_law_row_right,
    a_law_case_right := f_law_case_right, d_law_case_right := _, F_law_case_right := fun_mk (st := s_law_case_right) l_law_case_right c_law_case_right k_law_case_right, b_law_case_right := (fun_mk (st := s_law_case_right) l_law_case_right c_law_case_right k_law_case_right).binds (ps := ["hand", "table"]) (fun _ _ _ _ _ _ us hl => match us, hl with | [_, _], _ => rfl), m_law_case_right := PySem.W.mg_of X G a_law_case_right,
    a_law_no_table := f_law_no_table, d_law_no_table := _, F_law_no_table := fun_mk (st := s_law_no_table) l_law_no_table c_law_no_table k_law_no_table, b_law_no_table := (fun_mk (st := s_law_no_table) l_law_no_table c_law_no_table k_law_no_table).binds (ps := ["hand"]) (fun _ _ _ _ _ _ us hl => match us, hl with | [_], _ => rfl), m_law_no_table := PySem.W.mg_of X G a_law_no_table,
    a_law_no_row := f_law_no_row, d_law_no_row := _, F_law_no_row := fun_mk (st := s_law_no_row) l_law_no_row c_law_no_row k_law_no_row, b_law_no_row := (fun_mk (st := s_law_no_row) l_law_no_row c_law_no_row k_law_no_row).binds (ps := ["hand", "many"]) (fun _ _ _ _ _ _ us hl => match us, hl with | [_, _], _ => rfl), m_law_no_row := PySem.W.mg_of X G a_law_no_row,
    a_law_word := f_law_word, d_law_word := _, F_law_word := fun_mk (st := s_law_word) l_law_word c_law_word k_law_word, b_law_word := (fun_mk (st := s_law_word) l_law_word c_law_word k_law_word).binds (ps := ["call"]) (fun _ _ _ _ _ _ us hl => match us, hl with | [_], _ => rfl), m_law_word := PySem.W.mg_of X G a_law_word,
    a_law_refused_right := f_law_refused_right, d_law_refused_right := _, F_law_refused_right := fun_mk (st := s_law_refused_right) l_law_refused_right c_law_refused_right k_law_refused_right, b_law_refused_right := (fun_mk (st := s_law_refused_right) l_law_refused_right c_law_refused_right k_law_refused_right).binds (ps := ["hand", "table"]) (fun _ _ _ _ _ _ us hl => match us, hl with | [_, _], _ => rfl), m_law_refused_right := PySem.W.mg_of X G a_law_refused_right,
    a_law := fa, d_law := _, F_law := fun_mk (st := s_law) l_law c_law k_law, b_law := (fun_mk (st := s_law) l_law c_law k_law).binds (ps := ["script"]) (fun _ _ _ _ _ _ us hl => match us, hl with | [_], _ => rfl), m_law := PySem.W.mg_of X G a_law,
    n_falls := a_falls,
    n_nearest_rising := a_nearest_rising,
    n_over_by := a_over_by,
    z_ValueError := PySem.W.mg_none_of X G z_ValueError,
    z_abs := PySem.W.mg_none_of X G z_abs,
    z_all := PySem.W.mg_none_of X G z_all,
    z_any := PySem.W.mg_none_of X G z_any,
    z_bool := PySem.W.mg_none_of X G z_bool,
    z_enumerate := PySem.W.mg_none_of X G z_enumerate,
    z_int := PySem.W.mg_none_of X G z_int,
    z_isinstance := PySem.W.mg_none_of X G z_isinstance,
    z_len := PySem.W.mg_none_of X G z_len,
    z_list := PySem.W.mg_none_of X G z_list,
    z_max := PySem.W.mg_none_of X G z_max,
    z_min := PySem.W.mg_none_of X G z_min,
    z_range := PySem.W.mg_none_of X G z_range,
    z_repr := PySem.W.mg_none_of X G z_repr,
    z_sorted := PySem.W.mg_none_of X G z_sorted,
    z_str := PySem.W.mg_none_of X G z_str,
    z_sum := PySem.W.mg_none_of X G z_sum,
    z_tuple := PySem.W.mg_none_of X G z_tuple,
    z_zip := PySem.W.mg_none_of X G z_zip,
    c_MOST_FAR := ⟨tk_MOST_FAR, PySem.W.mg_of X G c_MOST_FAR⟩,
    c_MOST_PLACES := ⟨tk_MOST_PLACES, PySem.W.mg_of X G c_MOST_PLACES⟩,
    e_FarError := e_FarError,
    e_NoRow := e_NoRow,
    e_NoTable := e_NoTable,
    e_Unsound := e_Unsound,
    g_FarError := PySem.W.mg_of X G g_FarError,
    g_NoRow := PySem.W.mg_of X G g_NoRow,
    g_NoTable := PySem.W.mg_of X G g_NoTable,
    o_NoRow := ⟨PySem.W.mg_of X G g_NoRow, o1_NoRow, o2_NoRow, o3_NoRow, o4_NoRow⟩,
    c_NoRow := ⟨q1_NoRow, q2_NoRow, o3_NoRow, q4_NoRow, q5_NoRow, q6_NoRow, q7_NoRow, q8_NoRow⟩, x_NoRow := x_NoRow,
    k_NoRow_NoRow := k_NoRow_NoRow,
    k_NoRow_NoTable := k_NoRow_NoTable,
    k_NoRow_ValueError := k_NoRow_ValueError,
    o_NoTable := ⟨PySem.W.mg_of X G g_NoTable, o1_NoTable, o2_NoTable, o3_NoTable, o4_NoTable⟩,
    c_NoTable := ⟨q1_NoTable, q2_NoTable, o3_NoTable, q4_NoTable, q5_NoTable, q6_NoTable, q7_NoTable, q8_NoTable⟩, x_NoTable := x_NoTable,
    k_NoTable_NoRow := k_NoTable_NoRow,
    k_NoTable_NoTable := k_NoTable_NoTable,
    k_NoTable_ValueError := k_NoTable_ValueError,
    o_Unsound := ⟨PySem.W.mg_of X G g_Unsound, o1_Unsound, o2_Unsound, o3_Unsound, o4_Unsound⟩,
    c_Unsound := ⟨q1_Unsound, q2_Unsound, o3_Unsound, q4_Unsound, q5_Unsound, q6_Unsound, q7_Unsound, q8_Unsound⟩, x_Unsound := x_Unsound,
    k_Unsound_NoRow := k_Unsound_NoRow,
    k_Unsound_NoTable := k_Unsound_NoTable,
    k_Unsound_ValueError := k_Unsound_ValueError }
  have hu : (∀ p ∈ ([(Pt_law_refused_right, "_law_refused_right.<locals>.<lambda>")] : List (Addr × Str)), p.1 = Pt_law_refused_right → p.2 = ("_law_refused_right.<locals>.<lambda>" : Str)) := by
    skip <;> (intro p hp e; simp only [List.mem_cons, List.not_mem_nil, or_false] at hp; rcases hp with rfl <;> simp_all)
  refine ⟨t.d_law, [(cL_law_refused_right, Pt_law_refused_right)], spD ⟨K, [(Pt_law_refused_right, "_law_refused_right.<locals>.<lambda>")], mg⟩ 1 F_law, List.forall_mem_cons.mpr ⟨own "_law_refused_right" _ (by decide +kernel) t.m_law_refused_right _ _ _ _ _ _ _ _ l_law_refused_right rfl rfl lL_law_refused_right vL_law_refused_right, fun _ h => by simp at h⟩, List.forall_mem_cons.mpr ⟨nL_law_refused_right, fun _ h => by simp at h⟩, List.forall_mem_cons.mpr ⟨PySem.W.codeHd_of_K X hL_law_refused_right, fun _ h => by simp at h⟩, fun s v => .of_eq rfl, fun H a ns hl hP hS => law_spTs law_plain hl (List.forall_mem_cons.mpr ⟨hP _ List.mem_cons_self, fun _ h => by simp at h⟩) hS, fun base _ _ tb => ok_law (T := [(Pt_law_refused_right, "_law_refused_right.<locals>.<lambda>")]) t (tb _ List.mem_cons_self) rfl List.mem_cons_self (hu)⟩
end Lw96
open PySem PySem.W PyProof.Rows
set_option maxHeartbeats 0 in
theorem PySem.Challenge.cw_farhouse_k96_whole_rows_that_nearly_rise_holds : PySem.Challenge.rw_farhouse_k96_whole_rows_that_nearly_rise.Holds := by
  w_on; o_law; k_head; (case hw => w_witness2)
  k_fill
  refine PD.walk_ofAllG (l := PySem.Challenge.rw_farhouse_k96_whole_rows_that_nearly_rise) (n := 63) (k := 13) (CX := fun w => L2.CX PySem.Challenge.rw_farhouse_k96_whole_rows_that_nearly_rise.prog w) (x := "script") rfl (by decide) rfl ⟨rfl, by decide, by decide⟩ (fun w h Y => PySem.W.km_in_of Y) ?F (fun _ _ _ _ _ h => PD.noCX h)
  case F =>
    intro w mg fa h Y KX G hmg own
    refine' Lw96.all_mk KX G hmg own ?a_is_integer ?l_is_integer ?c_is_integer ?k_is_integer ?a_is_within ?l_is_within ?c_is_within ?k_is_within ?a_is_sized ?l_is_sized ?c_is_sized ?k_is_sized ?a_is_table ?l_is_table ?c_is_table ?k_is_table ?a_check_table ?l_check_table ?c_check_table ?k_check_table ?a_short_triple ?l_short_triple ?c_short_triple ?k_short_triple ?a_check_sound ?l_check_sound ?c_check_sound ?k_check_sound ?a_falls_of ?l_falls_of ?c_falls_of ?k_falls_of ?a_all_rows ?l_all_rows ?c_all_rows ?k_all_rows ?a_fewest_falls ?l_fewest_falls ?c_fewest_falls ?k_fewest_falls ?a_is_row ?l_is_row ?c_is_row ?k_is_row ?a_check_row ?l_check_row ?c_check_row ?k_check_row ?a_raised_table ?l_raised_table ?c_raised_table ?k_raised_table ?a_nearest_rising ?l_nearest_rising ?c_nearest_rising ?k_nearest_rising ?a_raised_by ?l_raised_by ?c_raised_by ?k_raised_by ?a_over_by ?l_over_by ?c_over_by ?k_over_by ?a_least_over ?l_least_over ?c_least_over ?k_least_over ?a_law_hand ?l_law_hand ?c_law_hand ?k_law_hand ?a_law_is ?l_law_is ?c_law_is ?k_law_is ?a_law_draw ?l_law_draw ?c_law_draw ?k_law_draw ?a_law_some ?l_law_some ?c_law_some ?k_law_some ?a_law_mixed ?l_law_mixed ?c_law_mixed ?k_law_mixed ?a_law_closed ?l_law_closed ?c_law_closed ?k_law_closed ?a_law_of_pairs ?l_law_of_pairs ?c_law_of_pairs ?k_law_of_pairs ?a_law_any_table ?l_law_any_table ?c_law_any_table ?k_law_any_table ?a_law_cuts ?l_law_cuts ?c_law_cuts ?k_law_cuts ?a_law_sum_of_cuts ?l_law_sum_of_cuts ?c_law_sum_of_cuts ?k_law_sum_of_cuts ?a_law_parts ?l_law_parts ?c_law_parts ?k_law_parts ?a_law_table_of ?l_law_table_of ?c_law_table_of ?k_law_table_of ?a_law_table ?l_law_table ?c_law_table ?k_law_table ?a_law_renamed ?l_law_renamed ?c_law_renamed ?k_law_renamed ?a_law_drawn_table ?l_law_drawn_table ?c_law_drawn_table ?k_law_drawn_table ?a_law_rows ?l_law_rows ?c_law_rows ?k_law_rows ?a_law_falls ?l_law_falls ?c_law_falls ?k_law_falls ?a_law_nearest ?l_law_nearest ?c_law_nearest ?k_law_nearest ?a_law_off_by ?l_law_off_by ?c_law_off_by ?k_law_off_by ?a_does_rise ?l_does_rise ?c_does_rise ?k_does_rise ?a_falls ?l_falls ?c_falls ?k_falls ?a_law_row_right ?l_law_row_right ?c_law_row_right ?k_law_row_right ?a_law_case_right ?l_law_case_right ?c_law_case_right ?k_law_case_right ?a_law_no_table ?l_law_no_table ?c_law_no_table ?k_law_no_table ?a_law_no_row ?l_law_no_row ?c_law_no_row ?k_law_no_row ?a_law_word ?l_law_word ?c_law_word ?k_law_word ?a_law_refused_right ?l_law_refused_right ?c_law_refused_right ?k_law_refused_right ?a_law ?l_law ?c_law ?k_law ?lL_law_refused_right ?vL_law_refused_right ?nL_law_refused_right ?hL_law_refused_right ?z_ValueError ?z_abs ?z_all ?z_any ?z_bool ?z_enumerate ?z_int ?z_isinstance ?z_len ?z_list ?z_max ?z_min ?z_range ?z_repr ?z_sorted ?z_str ?z_sum ?z_tuple ?z_zip ?c_MOST_FAR ?c_MOST_PLACES ?g_FarError ?g_NoRow ?g_NoTable ?g_Unsound ?o1_NoRow ?o2_NoRow ?o3_NoRow ?o4_NoRow ?q1_NoRow ?q2_NoRow ?q4_NoRow ?q5_NoRow ?q6_NoRow ?q7_NoRow ?q8_NoRow ?x_NoRow ?k_NoRow_NoRow ?k_NoRow_NoTable ?k_NoRow_ValueError ?o1_NoTable ?o2_NoTable ?o3_NoTable ?o4_NoTable ?q1_NoTable ?q2_NoTable ?q4_NoTable ?q5_NoTable ?q6_NoTable ?q7_NoTable ?q8_NoTable ?x_NoTable ?k_NoTable_NoRow ?k_NoTable_NoTable ?k_NoTable_ValueError ?o1_Unsound ?o2_Unsound ?o3_Unsound ?o4_Unsound ?q1_Unsound ?q2_Unsound ?q4_Unsound ?q5_Unsound ?q6_Unsound ?q7_Unsound ?q8_Unsound ?x_Unsound ?k_Unsound_NoRow ?k_Unsound_NoTable ?k_Unsound_ValueError
    (case a_is_integer => k_is)
    (case l_is_integer => k_is)
    (case c_is_integer => k_is)
    (case k_is_integer => k_is)
    (case a_is_within => k_is)
    (case l_is_within => k_is)
    (case c_is_within => k_is)
    (case k_is_within => k_is)
    (case a_is_sized => k_is)
    (case l_is_sized => k_is)
    (case c_is_sized => k_is)
    (case k_is_sized => k_is)
    (case a_is_table => k_is)
    (case l_is_table => k_is)
    (case c_is_table => k_is)
    (case k_is_table => k_is)
    (case a_check_table => k_is)
    (case l_check_table => k_is)
    (case c_check_table => k_is)
    (case k_check_table => k_is)
    (case a_short_triple => k_is)
    (case l_short_triple => k_is)
    (case c_short_triple => k_is)
    (case k_short_triple => k_is)
    (case a_check_sound => k_is)
    (case l_check_sound => k_is)
    (case c_check_sound => k_is)
    (case k_check_sound => k_is)
    (case a_falls_of => k_is)
    (case l_falls_of => k_is)
    (case c_falls_of => k_is)
    (case k_falls_of => k_is)
    (case a_all_rows => k_is)
    (case l_all_rows => k_is)
    (case c_all_rows => k_is)
    (case k_all_rows => k_is)
    (case a_fewest_falls => k_is)
    (case l_fewest_falls => k_is)
    (case c_fewest_falls => k_is)
    (case k_fewest_falls => k_is)
    (case a_is_row => k_is)
    (case l_is_row => k_is)
    (case c_is_row => k_is)
    (case k_is_row => k_is)
    (case a_check_row => k_is)
    (case l_check_row => k_is)
    (case c_check_row => k_is)
    (case k_check_row => k_is)
    (case a_raised_table => k_is)
    (case l_raised_table => k_is)
    (case c_raised_table => k_is)
    (case k_raised_table => k_is)
    (case a_nearest_rising => k_is)
    (case l_nearest_rising => k_is)
    (case c_nearest_rising => k_is)
    (case k_nearest_rising => k_is)
    (case a_raised_by => k_is)
    (case l_raised_by => k_is)
    (case c_raised_by => k_is)
    (case k_raised_by => k_is)
    (case a_over_by => k_is)
    (case l_over_by => k_is)
    (case c_over_by => k_is)
    (case k_over_by => k_is)
    (case a_least_over => k_is)
    (case l_least_over => k_is)
    (case c_least_over => k_is)
    (case k_least_over => k_is)
    (case a_law_hand => k_is)
    (case l_law_hand => k_is)
    (case c_law_hand => k_is)
    (case k_law_hand => k_is)
    (case a_law_is => k_is)
    (case l_law_is => k_is)
    (case c_law_is => k_is)
    (case k_law_is => k_is)
    (case a_law_draw => k_is)
    (case l_law_draw => k_is)
    (case c_law_draw => k_is)
    (case k_law_draw => k_is)
    (case a_law_some => k_is)
    (case l_law_some => k_is)
    (case c_law_some => k_is)
    (case k_law_some => k_is)
    (case a_law_mixed => k_is)
    (case l_law_mixed => k_is)
    (case c_law_mixed => k_is)
    (case k_law_mixed => k_is)
    (case a_law_closed => k_is)
    (case l_law_closed => k_is)
    (case c_law_closed => k_is)
    (case k_law_closed => k_is)
    (case a_law_of_pairs => k_is)
    (case l_law_of_pairs => k_is)
    (case c_law_of_pairs => k_is)
    (case k_law_of_pairs => k_is)
    (case a_law_any_table => k_is)
    (case l_law_any_table => k_is)
    (case c_law_any_table => k_is)
    (case k_law_any_table => k_is)
    (case a_law_cuts => k_is)
    (case l_law_cuts => k_is)
    (case c_law_cuts => k_is)
    (case k_law_cuts => k_is)
    (case a_law_sum_of_cuts => k_is)
    (case l_law_sum_of_cuts => k_is)
    (case c_law_sum_of_cuts => k_is)
    (case k_law_sum_of_cuts => k_is)
    (case a_law_parts => k_is)
    (case l_law_parts => k_is)
    (case c_law_parts => k_is)
    (case k_law_parts => k_is)
    (case a_law_table_of => k_is)
    (case l_law_table_of => k_is)
    (case c_law_table_of => k_is)
    (case k_law_table_of => k_is)
    (case a_law_table => k_is)
    (case l_law_table => k_is)
    (case c_law_table => k_is)
    (case k_law_table => k_is)
    (case a_law_renamed => k_is)
    (case l_law_renamed => k_is)
    (case c_law_renamed => k_is)
    (case k_law_renamed => k_is)
    (case a_law_drawn_table => k_is)
    (case l_law_drawn_table => k_is)
    (case c_law_drawn_table => k_is)
    (case k_law_drawn_table => k_is)
    (case a_law_rows => k_is)
    (case l_law_rows => k_is)
    (case c_law_rows => k_is)
    (case k_law_rows => k_is)
    (case a_law_falls => k_is)
    (case l_law_falls => k_is)
    (case c_law_falls => k_is)
    (case k_law_falls => k_is)
    (case a_law_nearest => k_is)
    (case l_law_nearest => k_is)
    (case c_law_nearest => k_is)
    (case k_law_nearest => k_is)
    (case a_law_off_by => k_is)
    (case l_law_off_by => k_is)
    (case c_law_off_by => k_is)
    (case k_law_off_by => k_is)
    (case a_does_rise => k_is)
    (case l_does_rise => k_is)
    (case c_does_rise => k_is)
    (case k_does_rise => k_is)
    (case a_falls => k_is)
    (case l_falls => k_is)
    (case c_falls => k_is)
    (case k_falls => k_is)
    (case a_law_row_right => k_is)
    (case l_law_row_right => k_is)
    (case c_law_row_right => k_is)
    (case k_law_row_right => k_is)
    (case a_law_case_right => k_is)
    (case l_law_case_right => k_is)
    (case c_law_case_right => k_is)
    (case k_law_case_right => k_is)
    (case a_law_no_table => k_is)
    (case l_law_no_table => k_is)
    (case c_law_no_table => k_is)
    (case k_law_no_table => k_is)
    (case a_law_no_row => k_is)
    (case l_law_no_row => k_is)
    (case c_law_no_row => k_is)
    (case k_law_no_row => k_is)
    (case a_law_word => k_is)
    (case l_law_word => k_is)
    (case c_law_word => k_is)
    (case k_law_word => k_is)
    (case a_law_refused_right => k_is)
    (case l_law_refused_right => k_is)
    (case c_law_refused_right => k_is)
    (case k_law_refused_right => k_is)
    (case a_law => k_is)
    (case l_law => k_is)
    (case c_law => k_is)
    (case k_law => k_is)
    (case lL_law_refused_right => k_is)
    (case vL_law_refused_right => rfl)
    (case nL_law_refused_right => kernel_rfl)
    (case hL_law_refused_right => kernel_rfl)
    (case z_ValueError => k_is)
    (case z_abs => k_is)
    (case z_all => k_is)
    (case z_any => k_is)
    (case z_bool => k_is)
    (case z_enumerate => k_is)
    (case z_int => k_is)
    (case z_isinstance => k_is)
    (case z_len => k_is)
    (case z_list => k_is)
    (case z_max => k_is)
    (case z_min => k_is)
    (case z_range => k_is)
    (case z_repr => k_is)
    (case z_sorted => k_is)
    (case z_str => k_is)
    (case z_sum => k_is)
    (case z_tuple => k_is)
    (case z_zip => k_is)
    (case c_MOST_FAR => k_is)
    (case c_MOST_PLACES => k_is)
    (case g_FarError => k_is)
    (case g_NoRow => k_is)
    (case g_NoTable => k_is)
    (case g_Unsound => k_is)
    (case o1_NoRow => k_is)
    (case o2_NoRow => kernel_rfl)
    (case o3_NoRow => k_is)
    (case o4_NoRow => k_is)
    (case q1_NoRow => k_is)
    (case q2_NoRow => k_is)
    (case q4_NoRow => k_is)
    (case q5_NoRow => k_is)
    (case q6_NoRow => k_is)
    (case q7_NoRow => k_is)
    (case q8_NoRow => k_is)
    (case x_NoRow => kernel_rfl)
    (case k_NoRow_NoRow => kernel_rfl)
    (case k_NoRow_NoTable => kernel_rfl)
    (case k_NoRow_ValueError => kernel_rfl)
    (case o1_NoTable => k_is)
    (case o2_NoTable => kernel_rfl)
    (case o3_NoTable => k_is)
    (case o4_NoTable => k_is)
    (case q1_NoTable => k_is)
    (case q2_NoTable => k_is)
    (case q4_NoTable => k_is)
    (case q5_NoTable => k_is)
    (case q6_NoTable => k_is)
    (case q7_NoTable => k_is)
    (case q8_NoTable => k_is)
    (case x_NoTable => kernel_rfl)
    (case k_NoTable_NoRow => kernel_rfl)
    (case k_NoTable_NoTable => kernel_rfl)
    (case k_NoTable_ValueError => kernel_rfl)
    (case o1_Unsound => k_is)
    (case o2_Unsound => kernel_rfl)
    (case o3_Unsound => k_is)
    (case o4_Unsound => k_is)
    (case q1_Unsound => k_is)
    (case q2_Unsound => k_is)
    (case q4_Unsound => k_is)
    (case q5_Unsound => k_is)
    (case q6_Unsound => k_is)
    (case q7_Unsound => k_is)
    (case q8_Unsound => k_is)
    (case x_Unsound => kernel_rfl)
    (case k_Unsound_NoRow => kernel_rfl)
    (case k_Unsound_NoTable => kernel_rfl)
    (case k_Unsound_ValueError => kernel_rfl)

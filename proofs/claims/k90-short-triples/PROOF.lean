import PyProof.Rows.All
import Wide.All
import OpenK.AllK
import Wide.FinOn
import PySem.Challenge.RW_farhouse_k90_whole_short_triples_and_ref
import HandS.ForMost
import HandS.ForExc
import HandS.ExcOwn
import HandS.Lambda
import HandS.TupAny
import HandS.TupMul
import HandS.Zip
import HandS.Deep
import HandS.IsInst
import HandS.Walk
import HandS.Conv
import HandS.Style
import HandS.Sort
import KE.GoesEnum
import HandS.SortInts
import HandS.TupLe
import HandS.WordsDict
import HandS.ExcIs
import HandS.ExcField
import HandS.SetFor
import HandS.ExcInit
import KE.DataMinMax
import KE.SortData
import HandS.Flow
import HandS.WideBits
import HandS.CallLocal
import HandS.Ends
import HandS.EndOwn
import HandS.NestedK
import PyProof.ReprRoads
import HandS.RaiseMore
import HandS.EndTab
import HandS.Flt
import HandS.Words
set_option Elab.async false
set_option linter.all false
set_option maxRecDepth 100000
set_option maxHeartbeats 3900000
/-! PDSem: data by value (D), a store of what may change (Sto), and what each piece of Python does with them, as plain functions. -/
namespace PD
open PySem PySem.Spec PyProof.Rows L2

inductive D where
  | non | bl (b : Bool) | int (i : Int) | str (x : Str)
  | tup (xs : List D) | lst (xs : List D)
  /-- a pair that zip or enumerate made -/
  | tpl (xs : List D)
  /-- a list that is only read: the script, a list of the top -/
  | fz (xs : List D)
  | ref (l : Nat)
  | dk (ks : List Key) (xs : List D)
  | raw (v : V)
  /-- a def of the module, by its name -/
  | fn (x : Str)
  /-- a caught exception that has fields: at a, its dict at dd -/
  | xc (a dd : Addr) (ks : List Str) (xs : List D)

/-- what stands in the store -/
inductive MO where
  | lst (xs : List D) | dk (ks : List Key) (xs : List D) | gone

abbrev Sto := List MO
abbrev Ev := List (Option D)

inductive Out (α : Type) where
  | ok (a : α) (st : Sto) | exc (n : Str) (fs : List (Str × D)) (st : Sto) | bad

def Out.bind {α β : Type} (o : Out α) (f : α → Sto → Out β) : Out β := match o with
  | .ok a st => f a st | .exc n fs st => .exc n fs st | .bad => .bad
@[simp] theorem bind_ok {α β : Type} (a : α) (st : Sto) (f : α → Sto → Out β) : (Out.ok a st).bind f = f a st := id rfl
@[simp] theorem bind_bad {α β : Type} (f : α → Sto → Out β) : (Out.bad).bind f = .bad := id rfl
@[simp] theorem bind_exc {α β : Type} (n : Str) (fs : List (Str × D)) (st : Sto) (f : α → Sto → Out β) : (Out.exc n fs st).bind f = .exc n fs st := id rfl

abbrev SE := Ev → Sto → Out D
abbrev ST := Ev → Sto → Out Bool
abbrev SA := Ev → Sto → Out (List D)
/-- what is walked: the items, and the list of the store that is walked (inl) or enumerated (inr), if they may change -/
abbrev Dy := Option (Nat ⊕ Nat)
abbrev SI := Ev → Sto → Out (List D × Dy)
abbrev TgD := D → Ev → Option Ev

inductive Fl where
  | nx (ρ : Ev) | rt (d : D) | bk (ρ : Ev) | ct (ρ : Ev) | ex (n : Str) (fs : List (Str × D)) (ρ : Ev)
abbrev SS := Ev → Sto → Option (Fl × Sto)

/-! ### looking -/
/-- the items of a list or tuple -/
def items (st : Sto) : D → Option (List D)
  | .tup xs => some xs
  | .lst xs => some xs
  | .fz xs => some xs
  | .ref l => match st[l]? with | some (.lst xs) => some xs | _ => none
  | _ => none
/-- a list's items -/
def litems (st : Sto) : D → Option (List D)
  | .lst xs => some xs
  | .ref l => match st[l]? with | some (.lst xs) => some xs | _ => none
  | _ => none
def allSome {α : Type} : List (Option α) → Option (List α)
  | [] => some []
  | some x :: r => (allSome r).map (x :: ·)
  | none :: _ => none
def atomPy : D → Option PyData
  | .non => some .none
  | .bl b => some (.bool b)
  | .int i => some (.int i)
  | .str x => if PyData.canLay0 (.str x) then some (.str x) else none
  | _ => none
/-- a thing as plain data -/
def toPy (st : Sto) : Nat → D → Option PyData
  | 0, d => atomPy d
  | n + 1, d => match d with
    | .tup xs => (allSome (xs.map (toPy st n))).map .tuple
    | .lst xs => (allSome (xs.map (toPy st n))).map .list
    | .ref l => match st[l]? with | some (.lst xs) => (allSome (xs.map (toPy st n))).map .list | _ => none
    | d => atomPy d
def toPys (st : Sto) (n : Nat) (xs : List D) : Option (List PyData) := allSome (xs.map (toPy st n))
/-- one item of a sequence, by an index that may count from the end -/
def ixD (n : Nat) (i : Int) : Option Nat := if 0 ≤ i then (if i < n then some i.toNat else none) else if 0 ≤ i + n then some (i + n).toNat else none

/-- a new list: by value (nobody changes it), or laid into the store (m) -/
def newL (m : Bool) (xs : List D) (st : Sto) : Out D := if m = true then .ok (.ref st.length) (st ++ [.lst xs]) else .ok (.lst xs) st
@[simp] theorem newL_f (xs : List D) (st : Sto) : newL false xs st = .ok (.lst xs) st := id rfl
@[simp] theorem newL_t (xs : List D) (st : Sto) : newL true xs st = .ok (.ref st.length) (st ++ [.lst xs]) := id rfl
/-- no exception comes out of a comprehension -/
def Out.nx {α : Type} : Out α → Out α
  | .exc _ _ _ => .bad
  | o => o
@[simp] theorem nx_ok {α : Type} (a : α) (st : Sto) : (Out.ok a st).nx = .ok a st := id rfl
@[simp] theorem nx_bad {α : Type} : (Out.bad : Out α).nx = .bad := id rfl
@[simp] theorem nx_exc {α : Type} (n : Str) (fs : List (Str × D)) (st : Sto) : (Out.exc n fs st : Out α).nx = .bad := id rfl

/-! ### expressions -/
def sVar (i : Nat) : SE := fun ρ st => match ρ[i]? with | some (some d) => .ok d st | _ => .bad
def sC (d : D) : SE := fun _ st => .ok d st
def s2 (f : D → D → Sto → Out D) (a b : SE) : SE := fun ρ st => (a ρ st).bind fun x st => (b ρ st).bind fun y st => f x y st
def s1 (f : D → Sto → Out D) (a : SE) : SE := fun ρ st => (a ρ st).bind fun x st => f x st
def small (i : Int) : Bool := decide (-(2 ^ 64) < i) && decide (i < 2 ^ 64)
def fAdd (x y : D) (st : Sto) : Out D := match x, y with
  | .int i, .int j => .ok (.int (i + j)) st
  | .str x, .str y => if x.length + y.length ≤ sizeLine then .ok (.str (x ++ y)) st else .bad
  | .tup xs, .tup ys => if xs.length + ys.length ≤ sizeLine then .ok (.tup (xs ++ ys)) st else .bad
  | x, y => match litems st x, litems st y with
    | some xs, some ys => if xs.length + ys.length ≤ sizeLine then .ok (.lst (xs ++ ys)) st else .bad
    | _, _ => .bad
def fSub (x y : D) (st : Sto) : Out D := match x, y with
  | .int i, .int j => .ok (.int (i - j)) st
  | _, _ => .bad
def fMul (x y : D) (st : Sto) : Out D := match x, y with
  | .int i, .int j => if small i || small j then .ok (.int (i * j)) st else .bad
  | _, _ => .bad
def fDiv (x y : D) (st : Sto) : Out D := match x, y with
  | .int i, .int j => if 0 < j ∧ j < 1073741824 then .ok (.int (i / j)) st else .bad
  | _, _ => .bad
def fMod (x y : D) (st : Sto) : Out D := match x, y with
  | .int i, .int j => if 0 < j then .ok (.int (i % j)) st else .bad
  | _, _ => .bad
def fPow (x y : D) (st : Sto) : Out D := match x, y with
  | .int i, .int j => if 0 ≤ j ∧ j ≤ 1000000 ∧ i.natAbs ≤ 1000000 then .ok (.int (i ^ j.toNat)) st else .bad
  | _, _ => .bad
def fNeg (x : D) (st : Sto) : Out D := match x with
  | .int i => .ok (.int (-i)) st
  | _ => .bad
/-- [..] * n, the list new -/
def repL (xs : List D) (k : Nat) : List D := (List.replicate k xs).flatten
def fRep (m : Bool) (x y : D) (st : Sto) : Out D := match litems st x, y with
  | some xs, .int k => if -1000000 ≤ k ∧ k ≤ 1000000 ∧ xs.length * k.toNat ≤ sizeLine then newL m (repL xs k.toNat) st else .bad
  | _, _ => .bad
def fCmp (p : Int → Int → Bool) (x y : D) (st : Sto) : Out D := match x, y with
  | .int i, .int j => .ok (.bl (p i j)) st
  | _, _ => .bad
def fLt := fCmp fun i j => decide (i < j)
def fLe := fCmp fun i j => decide (i ≤ j)
def fGt := fCmp fun i j => decide (j < i)
def fGe := fCmp fun i j => decide (j ≤ i)
def fEq (x y : D) (st : Sto) : Out D := match toPy st 60 x, toPy st 60 y with
  | some p, some q => .ok (.bl (PyData.eqv p q)) st
  | _, _ => .bad
def fNe (x y : D) (st : Sto) : Out D := match toPy st 60 x, toPy st 60 y with
  | some p, some q => .ok (.bl (!PyData.eqv p q)) st
  | _, _ => .bad
def isNonD : D → Bool
  | .non => true
  | _ => false
def rawD : D → Bool
  | .raw _ => true
  | .xc _ _ _ _ => true
  | _ => false
def fIsN (x : D) (st : Sto) : Out D := if rawD x then .bad else .ok (.bl (isNonD x)) st
def fNotN (x : D) (st : Sto) : Out D := if rawD x then .bad else .ok (.bl (!isNonD x)) st
def fIsB (b : Bool) (x : D) (st : Sto) : Out D := match x with
  | .bl c => .ok (.bl (decide (c = b))) st
  | _ => .bad
def flatD : D → Bool
  | .non => true | .bl _ => true | .int _ => true | .str _ => true
  | _ => false
def inPy (p : PyData) (ps : List PyData) : Bool := ps.any fun z => PyData.eqv z p
/-- x in ys (flat things in a list or tuple; data in a list) -/
def fIn0 (x y : D) (st : Sto) : Out Bool := match toPy st 60 x with
  | some p => (match y with
    | .tup ys => if flatD x && ys.all flatD then (match toPys st 59 ys with | some ps => .ok (inPy p ps) st | none => .bad) else .bad
    | y => match litems st y with
      | some ys => (match toPys st 59 ys with | some ps => .ok (inPy p ps) st | none => .bad)
      | none => .bad)
  | none => .bad
def fIn (x y : D) (st : Sto) : Out D := (fIn0 x y st).bind fun b st => .ok (.bl b) st
def fNotIn (x y : D) (st : Sto) : Out D := (fIn0 x y st).bind fun b st => .ok (.bl (!b)) st
/-- a value's truth -/
def truD (st : Sto) : D → Option Bool
  | .non => some false
  | .bl b => some b
  | .int i => some (i != 0)
  | .tup xs => some (!xs.isEmpty)
  | .lst xs => some (!xs.isEmpty)
  | .ref l => match st[l]? with | some (.lst xs) => some (!xs.isEmpty) | _ => none
  | _ => none
/-! tests -/
def tTru (e : SE) : ST := fun ρ st => (e ρ st).bind fun d st => match truD st d with | some b => .ok b st | none => .bad
/-- a comparison as a test -/
def tBl (e : SE) : ST := fun ρ st => (e ρ st).bind fun d st => match d with | .bl b => .ok b st | _ => .bad
def tAndD (a b : ST) : ST := fun ρ st => (a ρ st).bind fun c st => if c = true then b ρ st else .ok false st
def tOrD (a b : ST) : ST := fun ρ st => (a ρ st).bind fun c st => if c = true then .ok true st else b ρ st
def tNotD (a : ST) : ST := fun ρ st => (a ρ st).bind fun c st => .ok (!c) st
/-! .. as values -/
def sAnd (a b : SE) : SE := fun ρ st => (a ρ st).bind fun x st => match x with
  | .bl c => if c = true then b ρ st else .ok (.bl false) st
  | _ => .bad
def sOr (a b : SE) : SE := fun ρ st => (a ρ st).bind fun x st => match x with
  | .bl c => if c = true then .ok (.bl true) st else b ρ st
  | _ => .bad
def sNot (a : ST) : SE := fun ρ st => (a ρ st).bind fun c st => .ok (.bl (!c)) st
def sIf (t : ST) (a b : SE) : SE := fun ρ st => (t ρ st).bind fun c st => if c = true then a ρ st else b ρ st
/-- a op b op' c, of comparisons -/
def sChain (f g : D → D → Sto → Out D) (a b c : SE) : SE := fun ρ st => (a ρ st).bind fun x st => (b ρ st).bind fun y st => (f x y st).bind fun z st => match z with
  | .bl k => if k = true then (c ρ st).bind fun w st => g y w st else .ok (.bl false) st
  | _ => .bad
/-! arguments, displays -/
def aNil : SA := fun _ st => .ok [] st
def aCons (e : SE) (r : SA) : SA := fun ρ st => (e ρ st).bind fun x st => (r ρ st).bind fun xs st => .ok (x :: xs) st
def sTup (a : SA) : SE := fun ρ st => (a ρ st).bind fun xs st => if xs.length ≤ sizeLine then .ok (.tup xs) st else .bad
def sLst (m : Bool) (a : SA) : SE := fun ρ st => (a ρ st).bind fun xs st => if xs.length ≤ sizeLine then newL m xs st else .bad
def sDict0 : SE := fun _ st => .ok (.dk [] []) st
/-! calls -/
def sCall (n : Nat) (F : List D → Sto → Out D) (a : SA) : SE := fun ρ st => (a ρ st).bind fun xs st => if xs.length = n then F xs st else .bad
def sB (F : List D → Sto → Out D) (a : SA) : SE := fun ρ st => (a ρ st).bind fun xs st => F xs st
def bLen (xs : List D) (st : Sto) : Out D := match xs with
  | [x] => (match items st x with | some ys => .ok (.int ys.length) st | none => .bad)
  | _ => .bad
def bAbs (xs : List D) (st : Sto) : Out D := match xs with
  | [.int i] => .ok (.int (if i < 0 then -i else i)) st
  | _ => .bad
def bMin2 (xs : List D) (st : Sto) : Out D := match xs with
  | [.int i, .int j] => .ok (.int (if j < i then j else i)) st
  | _ => .bad
def bMax2 (xs : List D) (st : Sto) : Out D := match xs with
  | [.int i, .int j] => .ok (.int (if j > i then j else i)) st
  | _ => .bad
def bInt (xs : List D) (st : Sto) : Out D := match xs with
  | [.int i] => .ok (.int i) st
  | [.bl k] => .ok (.int (if k then 1 else 0)) st
  | _ => .bad
def bTuple (xs : List D) (st : Sto) : Out D := match xs with
  | [x] => (match items st x with | some ys => .ok (.tup ys) st | none => .bad)
  | _ => .bad
def bList (m : Bool) (xs : List D) (st : Sto) : Out D := match xs with
  | [x] => (match items st x with | some ys => newL m ys st | none => .bad)
  | _ => .bad
def allBl : List D → Option (List Bool)
  | [] => some []
  | .bl b :: r => (allBl r).map (b :: ·)
  | _ => none
def allInt : List D → Option (List Int)
  | [] => some []
  | .int b :: r => (allInt r).map (b :: ·)
  | _ => none
def bAll (xs : List D) (st : Sto) : Out D := match xs with
  | [x] => (match (litems st x).bind allBl with | some bs => .ok (.bl (bs.all id)) st | none => .bad)
  | _ => .bad
def bAny (xs : List D) (st : Sto) : Out D := match xs with
  | [x] => (match (litems st x).bind allBl with | some bs => .ok (.bl (bs.any id)) st | none => .bad)
  | _ => .bad
def bSum (xs : List D) (st : Sto) : Out D := match xs with
  | [x] => (match (litems st x).bind allInt with | some bs => .ok (.int bs.sum) st | none => .bad)
  | _ => .bad
/-- list(range(..)) -/
def rangeL (lo : Int) (n : Nat) : List D := (List.range n).map fun (i : Nat) => D.int (lo + (i : Int))
/-- list(range(..)) -/
def sListR1 (m : Bool) (a : SE) : SE := fun ρ st => (a ρ st).bind fun x st => match x with
  | .int j => if 0 ≤ j ∧ j ≤ sizeLine then newL m (rangeL 0 j.toNat) st else .bad
  | _ => .bad
/-! dicts by value -/
def keyD : D → Option Key
  | .int i => some (.inl i)
  | .str x => some (.inr x)
  | _ => none
def putD (kvs : List (Key × D)) (k : Key) (d : D) : List (Key × D) := if (kvs.any fun kv => decide (kv.1 = k)) = true then kvs.map (fun kv => if kv.1 = k then (kv.1, d) else kv) else kvs ++ [(k, d)]
def pairK : D → Option (Key × D)
  | .tup [k, v] => (keyD k).map fun k => (k, v)
  | _ => none
def mkD (ps : List (Key × D)) : D := .dk (ps.map (·.1)) (ps.map (·.2))
/-- dict([(k, v), ..]) -/
def bDict (xs : List D) (st : Sto) : Out D := match xs with
  | [x] => (match (litems st x).bind fun ys => allSome (ys.map pairK) with
    | some ps => .ok (mkD (ps.foldl (fun acc p => putD acc p.1 p.2) [])) st
    | none => .bad)
  | _ => .bad
def bLenD (xs : List D) (st : Sto) : Out D := match xs with
  | [.dk ks _] => .ok (.int ks.length) st
  | _ => .bad
def fIsN2 (d n : D) (st : Sto) : Out D := match n with | .non => fIsN d st | _ => .bad
def fNotN2 (d n : D) (st : Sto) : Out D := match n with | .non => fNotN d st | _ => .bad
def fIsBl (x y : D) (st : Sto) : Out D := match x, y with
  | .bl a, .bl b => .ok (.bl (decide (a = b))) st
  | _, _ => .bad
def fNotBl (x y : D) (st : Sto) : Out D := match x, y with
  | .bl a, .bl b => .ok (.bl (!decide (a = b))) st
  | _, _ => .bad
/-! isinstance -/
inductive TyN where | int | bool | tuple | list | str | dict
def isTy : TyN → D → Option Bool
  | _, .raw _ => none
  | _, .fz _ => none
  | _, .tpl _ => none
  | _, .fn _ => none
  | _, .xc _ _ _ _ => none
  | .int, .int _ => some true
  | .int, .bl _ => some true
  | .bool, .bl _ => some true
  | .tuple, .tup _ => some true
  | .list, .lst _ => some true
  | .str, .str _ => some true
  | .dict, .dk _ _ => some true
  | _, .ref _ => none
  | _, _ => some false
def sIsI (t : TyN) (e : SE) : SE := fun ρ st => (e ρ st).bind fun d st => match isTy t d with | some b => .ok (.bl b) st | none => .bad
/-! subscripts -/
def fIx (x y : D) (st : Sto) : Out D := match items st x, y with
  | some xs, .int i => (match ixD xs.length i with | some j => (match xs[j]? with | some d => .ok d st | none => .bad) | none => .bad)
  | _, _ => .bad
def oInt (e : SE) : Ev → Sto → Out (Option Int) := fun ρ st => (e ρ st).bind fun d st => match d with | .int i => .ok (some i) st | _ => .bad
def oNone : Ev → Sto → Out (Option Int) := fun _ st => .ok none st
def cutD (xs : List D) (lo hi : Option Int) : List D := (xs.drop (HT.sIx xs.length 0 lo)).take (HT.sIx xs.length xs.length hi - HT.sIx xs.length 0 lo)
def sSlice (m : Bool) (e : SE) (lo hi : Ev → Sto → Out (Option Int)) : SE := fun ρ st => (e ρ st).bind fun x st => (lo ρ st).bind fun i st => (hi ρ st).bind fun j st => match x with
  | .tup xs => .ok (.tup (cutD xs i j)) st
  | .fz xs => newL m (cutD xs i j) st
  | x => match litems st x with | some xs => newL m (cutD xs i j) st | none => .bad

/-- not a, a value: a a bool -/
def sNotV (a : SE) : SE := fun ρ st => (a ρ st).bind fun d st => match d with | .bl c => .ok (.bl (!c)) st | _ => .bad
/-- a list's method of one argument: the receiver is a list of the store -/
def sM (f : D → D → Sto → Out D) (o e : SE) : SE := fun ρ st => (o ρ st).bind fun x st => match litems st x with
  | some _ => (e ρ st).bind fun y st => f x y st
  | none => .bad
/-! ### what is walked -/
def dynOf : D → Dy
  | .ref l => some (.inl l)
  | _ => none
/-- a list or a tuple -/
def iSeq (e : SE) : SI := fun ρ st => (e ρ st).bind fun x st => match items st x with | some xs => .ok (xs, dynOf x) st | none => .bad
def iRange1 (a : SA) : SI := fun ρ st => (a ρ st).bind fun xs st => match xs with
  | [.int j] => if -1000000 ≤ j ∧ j ≤ 1000000 then .ok (rangeL 0 j.toNat, none) st else .bad
  | _ => .bad
def iRange2 (a : SA) : SI := fun ρ st => (a ρ st).bind fun xs st => match xs with
  | [.int i, .int j] => if -1000000 ≤ i ∧ i ≤ 1000000 ∧ -1000000 ≤ j ∧ j ≤ 1000000 then .ok (rangeL i (j - i).toNat, none) st else .bad
  | _ => .bad
def zipD : List D → List D → List D
  | x :: xs, y :: ys => .tpl [x, y] :: zipD xs ys
  | _, _ => []
def isTupD : D → Bool
  | .tup _ => true
  | _ => false
def isLstD : D → Bool
  | .lst _ => true
  | _ => false
/-- zip of two tuples, or of two lists that stay -/
def iZip (a : SA) : SI := fun ρ st => (a ρ st).bind fun xs st => match xs with
  | [.tup xs, .tup ys] => .ok (zipD xs ys, none) st
  | [.lst xs, .lst ys] => .ok (zipD xs ys, none) st
  | _ => .bad
def enumFromD : Nat → List D → List D
  | _, [] => []
  | n, x :: xs => .tpl [.int n, x] :: enumFromD (n + 1) xs
/-- enumerate of a tuple, or of a list that stays -/
def iEnum (a : SA) : SI := fun ρ st => (a ρ st).bind fun xs st => match xs with
  | [.tup xs] => .ok (enumFromD 0 xs, none) st
  | [.lst xs] => .ok (enumFromD 0 xs, none) st
  | [.ref l] => (match st[l]? with | some (.lst xs) => .ok (enumFromD 0 xs, some (.inr l)) st | _ => .bad)
  | _ => .bad
def fetch (dy : Dy) (i : Nat) (d : D) (st : Sto) : Option D := match dy with
  | none => some d
  | some (.inl l) => match st[l]? with | some (.lst xs) => xs[i]? | _ => none
  | some (.inr l) => match st[l]? with | some (.lst xs) => (xs[i]?).map fun x => .tpl [.int i, x] | _ => none
def finOk (dy : Dy) (n : Nat) (st : Sto) : Bool := match dy with
  | none => true
  | some (.inl l) => match st[l]? with | some (.lst xs) => xs.length == n | _ => false
  | some (.inr l) => match st[l]? with | some (.lst xs) => xs.length == n | _ => false
/-! targets -/
def gN (i : Nat) : TgD := fun d ρ => some (ρ.set i (some d))
def gT2 (a b : TgD) : TgD := fun d ρ => match d with
  | .tup [x, y] => (a x ρ).bind fun ρ => b y ρ
  | .tpl [x, y] => (a x ρ).bind fun ρ => b y ρ
  | _ => none
def gT3 (a b c : TgD) : TgD := fun d ρ => match d with
  | .tup [x, y, z] => (a x ρ).bind fun ρ => (b y ρ).bind fun ρ => c z ρ
  | _ => none
def wipeD (ρ : Ev) : List Nat → Ev
  | [] => ρ
  | v :: vs => (wipeD ρ vs).set v none
/-! comprehensions -/
def tYesD : ST := fun _ st => .ok true st
def loopLC (dy : Dy) (n : Nat) (g : TgD) (t : ST) (e : SE) (ρ0 : Ev) : Nat → List D → Sto → Out (List D)
  | _, [], st => if finOk dy n st then .ok [] st else .bad
  | i, d :: ds, st => match fetch dy i d st with
    | none => .bad
    | some d => match g d ρ0 with
      | none => .bad
      | some ρ1 => (t ρ1 st).nx.bind fun c st => if c = true then (e ρ1 st).nx.bind fun y st => (loopLC dy n g t e ρ0 (i + 1) ds st).bind fun ys st => .ok (y :: ys) st
        else loopLC dy n g t e ρ0 (i + 1) ds st
def sLC (m : Bool) (it : SI) (g : TgD) (t : ST) (e : SE) (vs : List Nat) : SE := fun ρ st => (it ρ st).bind fun p st =>
  if p.1.length ≤ sizeLine then (loopLC p.2 p.1.length g t e (wipeD ρ vs) 0 p.1 st).bind fun ys st => newL m ys st else .bad

/-! ### statements -/
def Out.st {α : Type} (o : Out α) (ρ : Ev) (k : α → Sto → Option (Fl × Sto)) : Option (Fl × Sto) := match o with
  | .ok a st => k a st
  | .exc n fs st => some (.ex n fs ρ, st)
  | .bad => none
@[simp] theorem st_ok {α : Type} (a : α) (st : Sto) (ρ : Ev) (k : α → Sto → Option (Fl × Sto)) : (Out.ok a st).st ρ k = k a st := id rfl
@[simp] theorem st_bad {α : Type} (ρ : Ev) (k : α → Sto → Option (Fl × Sto)) : (Out.bad).st ρ k = none := id rfl
@[simp] theorem st_exc {α : Type} (n : Str) (fs : List (Str × D)) (st : Sto) (ρ : Ev) (k : α → Sto → Option (Fl × Sto)) : (Out.exc n fs st).st ρ k = some (.ex n fs ρ, st) := id rfl
def qNext : SS := fun ρ st => some (.nx ρ, st)
def qSeq (a b : SS) : SS := fun ρ st => match a ρ st with
  | some (.nx ρ', st') => b ρ' st'
  | r => r
def qSet (i : Nat) (e : SE) : SS := fun ρ st => (e ρ st).st ρ fun d st => some (.nx (ρ.set i (some d)), st)
/-- a, b = x, y -/
def qPar (i j : Nat) (a : SA) : SS := fun ρ st => (a ρ st).st ρ fun ds st => match ds with
  | [x, y] => some (.nx ((ρ.set i (some x)).set j (some y)), st)
  | _ => none
/-- target = e -/
def qAsg (g : TgD) (e : SE) : SS := fun ρ st => (e ρ st).st ρ fun d st => match g d ρ with
  | some ρ' => some (.nx ρ', st)
  | none => none
def qExpr (e : SE) : SS := fun ρ st => (e ρ st).st ρ fun _ st => some (.nx ρ, st)
def qRet (e : SE) : SS := fun ρ st => (e ρ st).st ρ fun d st => some (.rt d, st)
def qRetN : SS := fun _ st => some (.rt .non, st)
def qBrk : SS := fun ρ st => some (.bk ρ, st)
def qCnt : SS := fun ρ st => some (.ct ρ, st)
def qIf (t : ST) (a b : SS) : SS := fun ρ st => (t ρ st).st ρ fun c st => if c = true then a ρ st else b ρ st
def qNever : SS := fun _ _ => none
def qRaise (n : Str) : SS := fun ρ st => some (.ex n [] ρ, st)
/-- xs[i] = v of a list in the store -/
def fSetIx (o i v : D) (st : Sto) : Option Sto := match o, i with
  | .ref l, .int i => (match st[l]? with
    | some (.lst xs) => (match ixD xs.length i with | some j => some (st.set l (.lst (xs.set j v))) | none => none)
    | _ => none)
  | _, _ => none
/-- o[i] = e: first e, then o, then i -/
def qSetIx (o i e : SE) : SS := fun ρ st => (e ρ st).st ρ fun v st => (o ρ st).st ρ fun x st => (i ρ st).st ρ fun y st => match fSetIx x y v st with
  | some st => some (.nx ρ, st)
  | none => none
/-- xs.append(e) -/
def fAppend (x y : D) (st : Sto) : Out D := match x with
  | .ref l => (match st[l]? with
    | some (.lst xs) => if xs.length < sizeLine then .ok .non (st.set l (.lst (xs ++ [y]))) else .bad
    | _ => .bad)
  | _ => .bad
def fExtend (x y : D) (st : Sto) : Out D := match x with
  | .ref l => (match st[l]?, litems st y with
    | some (.lst xs), some ys => if xs.length + ys.length ≤ sizeLine then .ok .non (st.set l (.lst (xs ++ ys))) else .bad
    | _, _ => .bad)
  | _ => .bad
def loopFor (dy : Dy) (n : Nat) (g : TgD) (b : SS) : Nat → List D → Ev → Sto → Option (Fl × Sto)
  | _, [], ρ, st => if finOk dy n st then some (.nx ρ, st) else none
  | i, d :: ds, ρ, st => match fetch dy i d st with
    | none => none
    | some d => match g d ρ with
      | none => none
      | some ρ1 => match b ρ1 st with
        | some (.nx ρ2, st2) => loopFor dy n g b (i + 1) ds ρ2 st2
        | some (.ct ρ2, st2) => loopFor dy n g b (i + 1) ds ρ2 st2
        | some (.bk ρ2, st2) => some (.nx ρ2, st2)
        | r => r
def qFor (it : SI) (g : TgD) (b : SS) : SS := fun ρ st => (it ρ st).st ρ fun p st => loopFor p.2 p.1.length g b 0 p.1 ρ st
def loopWhile (t : ST) (b : SS) : Nat → SS
  | 0, _, _ => none
  | f + 1, ρ, st => (t ρ st).st ρ fun c st => if c = true then (match b ρ st with
      | some (.nx ρ2, st2) => loopWhile t b f ρ2 st2
      | some (.ct ρ2, st2) => loopWhile t b f ρ2 st2
      | some (.bk ρ2, st2) => some (.nx ρ2, st2)
      | r => r) else some (.nx ρ, st)
def qWhile (fuel : Ev → Sto → Nat) (t : ST) (b : SS) : SS := fun ρ st => loopWhile t b (fuel ρ st) ρ st

/-! ### a def -/
def startD (n : Nat) (ds : List D) : Ev := ds.map some ++ List.replicate (n - ds.length) none
/-- a def's end: what it handed back, as it is -/
def endRaw (r : Option (Fl × Sto)) : Out D := match r with
  | some (.rt d, st) => .ok d st
  | some (.nx _, st) => .ok .non st
  | some (.ex n fs _, st) => .exc n fs st
  | _ => .bad
def defRaw (n : Nat) (b : SS) (ds : List D) (st : Sto) : Out D := endRaw (b (startD n ds) st)
/-! lists of the store, from place n on, by value -/
def frzD (st : Sto) (n : Nat) : Nat → D → Option D
  | 0, d => match d with
    | .non => some .non
    | .bl b => some (.bl b)
    | .int i => some (.int i)
    | .str x => some (.str x)
    | _ => none
  | f + 1, d => match d with
    | .tup xs => (allSome (xs.map (frzD st n f))).map .tup
    | .lst xs => (allSome (xs.map (frzD st n f))).map .lst
    | .dk ks xs => (allSome (xs.map (frzD st n f))).map (.dk ks)
    | .ref l => if l < n then some (.ref l) else match st[l]? with | some (.lst xs) => (allSome (xs.map (frzD st n f))).map .lst | _ => none
    | .non => some .non
    | .bl b => some (.bl b)
    | .int i => some (.int i)
    | .str x => some (.str x)
    | _ => none
mutual
/-- no place from n on is named -/
def noRef (n : Nat) : D → Bool
  | .ref l => decide (l < n)
  | .tup xs => noRefs n xs
  | .lst xs => noRefs n xs
  | .tpl xs => noRefs n xs
  | .fz xs => noRefs n xs
  | .dk _ xs => noRefs n xs
  | .xc _ _ _ xs => noRefs n xs
  | _ => true
def noRefs (n : Nat) : List D → Bool
  | [] => true
  | x :: xs => noRef n x && noRefs n xs
end
def noRefO (n : Nat) : MO → Bool
  | .lst xs => noRefs n xs
  | .dk _ xs => noRefs n xs
  | .gone => true
/-- .. the lists that it made by value, its own part of the store forgotten -/
def fin (n : Nat) (o : Out D) : Out D := match o with
  | .ok d st => (match frzD st n 60 d with
    | some d' => if (st.take n).all (noRefO n) then .ok d' (st.take n) else .bad
    | none => .bad)
  | .exc k fs st => if (fs.all fun p => noRef n p.2) && (st.take n).all (noRefO n) then .exc k fs (st.take n) else .bad
  | .bad => .bad
def defFin (n : Nat) (b : SS) (ds : List D) (st : Sto) : Out D := fin st.length (defRaw n b ds st)
end PD
/-! PDTup: new tuples, known to have no dict. -/
namespace PD
open PySem PySem.Spec PyProof.Rows L2
/-- a tuple that has no dict -/
def SqN (K : PySem.W.Frag) (H : Hp) (a : Addr) (xs : List V) : Prop :=
  (∃ o : Obj, o.dict = none ∧ H a = some (.frz o (.tup xs))) ∨
    ∃ (o : Obj) (its : Array Value) (n : Nat), K.lookup a = some o ∧ o.cls = .type "tuple" ∧ o.dict = none ∧ o.data = .seq its n ∧ its.size ≤ sizeLine ∧ Vals xs its.toList
theorem SqN.t {K : PySem.W.Frag} {H : Hp} {a : Addr} {xs : List V} : SqN K H a xs → SqT K H a xs
  | .inl ⟨o, _, e⟩ => .inl (.inr ⟨o, e⟩)
  | .inr ⟨o, its, n, h1, h2, _, h4, h5, h6⟩ => .inr ⟨o, its, n, h1, h2, h4, h5, h6⟩
theorem SqN.of {K : PySem.W.Frag} {H : Hp} {a : Addr} {o : Obj} {xs : List V} (hd : o.dict = none) : SqN K (upd H a (.frz o (.tup xs))) a xs := .inl ⟨o, hd, upd_same⟩
theorem sqN_mono {K : PySem.W.Frag} {B B' : Hp} {a : Addr} {vs : List V} (h : ∀ a o, B a = some o → B' a = some o) : SqN K B a vs → SqN K B' a vs
  | .inl ⟨o, d, e⟩ => .inl ⟨o, d, h _ _ e⟩
  | .inr x => .inr x
/-- what is wanted of a new tuple -/
def NewT (Q : VK) (H : Hp) (xs : List V) : Prop := ∀ p o, H p = none → o.dict = none → Q (.ref p) (upd H p (.frz o (.tup xs)))
section
variable {X : Cx} {pins : List (Addr × Obj)} {σ : L2.St} {H : Hp} {s : Shared} {Q : VK} {e : Expr} {es : List Expr} {pos : Pos} {t : TA}
/-- .. laid -/
theorem newT_ep {xs : List V} {its : List Value} (I : Inv X pins σ H s) (r : Vals xs its) (z : xs.length ≤ sizeLine) (q : NewT Q H xs) :
    EP X pins σ Q (.ref s.heap.objs.size) { s with heap := s.heap.push { cls := .type "tuple", data := .seq its.toArray } } :=
  ⟨.ref s.heap.objs.size, _, I.laid (t' := s.toks) (o := .frz { cls := .type "tuple", data := .seq its.toArray } (.tup xs)) (fun b u e => Heap.get?_push_of_some _ e) (Nat.le_refl _)
    (show _ ∧ _ from ⟨Heap.get?_push_size _ rfl, z, its, r, IsTup.new _ _⟩), rfl, q _ _ (I.hok.fresh (Nat.le_refl _)) rfl⟩
def tTupN (t : TA) : TE := fun σ H Q => t σ H fun xs H1 => xs.length ≤ sizeLine ∧ NewT Q H1 xs
theorem pe_tupN {x1 : Nat} (h : PA X es t) : PE X (.Tuple es x1 pos) (tTupN t) := by
  refine ⟨fun pins s σ H Q I hq => ?_⟩
  refine wpAny_Tuple_spliced (thn (h.run pos pins s σ H _ I hq) fun us s1 ⟨xs, H1, I1, r, z, q⟩ => ⟨by rw [← r.length]; exact z, ?_⟩)
  exact newT_ep I1 r z q
/-- t + u -/
def rCatN (K : PySem.W.Frag) : R2 := fun x y H Q => ∃ a b xs ys, x = .ref a ∧ y = .ref b ∧ SqT K H a xs ∧ SqT K H b ys ∧ xs.length + ys.length ≤ sizeLine ∧
  (xs = [] → Q (.ref b) H) ∧ (xs ≠ [] → ys = [] → Q (.ref a) H) ∧ (xs ≠ [] → ys ≠ [] → NewT Q H (xs ++ ys))
theorem op_catN : OpR X (binaryOp .Add) (rCatN X.K) := by
  intro pins s σ H x y v u Q I rx ry h
  obtain ⟨a, b, xs, ys, rfl, rfl, ha, hb, hz, q0, q1, q2⟩ := h
  cases rx
  cases ry
  obtain ⟨its, r1, p1, _⟩ := I.tuple ha
  obtain ⟨its2, r2, p2, _⟩ := I.tuple hb
  by_cases hx : xs = []
  · subst hx
    cases r1
    exact cat_tup0 p1 p2 ⟨.ref b, H, I, rfl, q0 rfl⟩
  · refine HT.cat_tup p1 p2 (fun z => hx (r1.nil_iff.mp z)) (fun z => ⟨.ref a, H, I, rfl, q1 hx (r2.nil_iff.mp z)⟩) (fun z => ?_) (by rw [← r1.length, ← r2.length]; exact hz)
    exact newT_ep I (r1.append r2) (by rw [List.length_append]; exact hz) (q2 hx (fun w => z (r2.nil_iff.mpr w)))
/-- tuple(x) -/
theorem call_tuple_ofN : CallR X (.type "tuple") (fun xs H Q => ∃ p ys, xs = [.ref p] ∧ ((SqL X.K H p ys ∧ NewT Q H ys) ∨ (SqT X.K H p ys ∧ Q (.ref p) H))) := by
  intro pins s σ H xs us Q I r h
  obtain ⟨p, ys, rfl, h⟩ := h
  obtain ⟨u, rfl, rx⟩ := vals1 r
  cases rx
  rcases h with ⟨hq, q⟩ | ⟨hq, q⟩
  · obtain ⟨its, r', pl, hz⟩ := I.list hq
    have hlen := r'.length
    refine call_tuple_list pl.isList (fun h' kp => ?_) (by simp only [List.size_toArray] <;> omega)
    have I1 : Inv X pins σ H { s with heap := h' } := I.kept (t' := s.toks) kp
    exact newT_ep I1 r' hz q
  · obtain ⟨its, r', pl, hz⟩ := I.tuple hq
    exact call_tuple_same pl ⟨.ref p, H, I, rfl, q⟩
/-- t[lo:hi] -/
def rSlN (K : PySem.W.Frag) : V → Option Int → Option Int → Hp → VK → Prop := fun x lo hi H Q => ∃ a xs, x = .ref a ∧ SqT K H a xs ∧
  (HT.sIx xs.length 0 lo = 0 ∧ HT.sIx xs.length xs.length hi = xs.length → Q (.ref a) H) ∧ (¬ (HT.sIx xs.length 0 lo = 0 ∧ HT.sIx xs.length xs.length hi = xs.length) → NewT Q H (cutV xs lo hi))
theorem sl_tupN : SlR X (rSlN X.K) := by
  intro pins s σ H x v vl vu lo hi sl Q I rx hs pl pu h
  obtain ⟨a, xs, rfl, hx, q1, q2⟩ := h
  cases rx
  obtain ⟨its, r, ht, hz⟩ := I.tuple hx
  have hlen : its.toArray.size = xs.length := by rw [List.size_toArray]; exact r.length.symm
  refine ⟨"tuple", _, PyProof.Rows.slot_tuple_getitem.lookup, ht.typeIs, ?_⟩
  by_cases hw : HT.sIx xs.length 0 lo = 0 ∧ HT.sIx xs.length xs.length hi = xs.length
  · exact getItem_tuple_whole ht hs pl pu (by rw [hlen]; exact hw) ⟨.ref a, H, I, rfl, q1 hw⟩
  · refine HT.getItem_tuple_cut ht hs pl pu (by rw [hlen]; exact hw) ?_ (by rw [hlen]; exact hz)
    rw [hlen]
    exact newT_ep I ((r.drop (HT.sIx xs.length 0 lo)).take (HT.sIx xs.length xs.length hi - HT.sIx xs.length 0 lo)) (Nat.le_trans (cutV_length xs lo hi) hz) (q2 hw)
/-- t * k, k at least 2 -/
def rRepN (K : PySem.W.Frag) : R2 := fun x y H Q => ∃ l k xs, x = .ref l ∧ y = .int k ∧ SqT K H l xs ∧ xs ≠ [] ∧ 2 ≤ k ∧ k ≤ 1000 ∧ xs.length ≤ 1000 ∧ NewT Q H (List.replicate k.toNat xs).flatten
theorem op_repN : OpR X (binaryOp .Mult) (rRepN X.K) := by
  intro pins s σ H x y v u Q I rx ry h
  obtain ⟨l, k, xs, rfl, rfl, hT, hne, h1, h2, hz, q⟩ := h
  cases rx
  obtain ⟨t, rfl⟩ := ry
  obtain ⟨its, r, ⟨⟨cls, dd, data, sl⟩, ho, hc, n, hd⟩, hs⟩ := I.tuple hT
  simp only at hc hd
  subst hc hd
  have hle : its.length = xs.length := r.length.symm
  have h0 : 0 < xs.length := List.length_pos_iff.mpr hne
  have hi : its.toArray.isEmpty = false := by
    cases its with
    | nil => simp at hle; omega
    | cons a b => rfl
  have a1 : k.toNat * xs.length ≤ 1000 * 1000 := Nat.mul_le_mul (by omega) hz
  have a2 : ((its.toArray.size : Nat) : Int) * k ≤ 1000000 := by
    have : ((its.toArray.size : Nat) : Int) * k ≤ 1000 * k := Int.mul_le_mul_of_nonneg_right (by rw [List.size_toArray]; omega) (by omega)
    omega
  have fl : (List.replicate k.toNat xs).flatten.length ≤ sizeLine := by
    rw [PyProof.Rows.lm_len_rep_flat, sizeLine_eq]; omega
  have fl2 : (List.replicate k.toNat its).flatten.length ≤ sizeLine := by
    rw [PyProof.Rows.lm_len_rep_flat, hle, sizeLine_eq]; omega
  refine wpAny_binaryOp_repeat_ref (T := "tuple") (U := "int") (by decide) ⟨_, ho, rfl⟩ (fun s' => typeIs_int s' k t) L2.noFill_tuple_mul PySem.F.fills_int_mul PySem.F.slot_int_rmul L2.repeat_tuple PySem.F.slot_int_index.lookup
    (call_meets PySem.F.slot_int_rmul (typeIs_int s k t) PySem.F.entry_int_rmul (PySem.F.args_int_rmul_2 _ _) (L2.int_rmul_tuple k t l its.toArray n dd sl)
      ⟨ho, rfl, ⟨_, ho, rfl⟩, call_meets PySem.F.slot_tuple_mul ⟨_, ho, rfl⟩ PySem.F.entry_tuple_mul (PySem.F.args_tuple_mul_2 _ _) (L2.tuple_mulW l its.toArray n dd sl k t
        (by rw [decide_eq_false (by omega), decide_eq_false (by omega)] <;> rfl) (by rw [hi, Bool.false_or]; exact beq_eq_false_iff_ne.mpr (by omega)) (by rw [hi, Bool.or_false]; exact decide_eq_false (by omega)) (by omega)
        (by unfold Builtin.Tuple.tupleTooMany; rw [sizeLine_eq]; exact decide_eq_false (by omega)) (by rw [size_rep, List.size_toArray]; exact fl2)) ⟨ho, ?_⟩⟩)
  rw [size_rep]
  exact newT_ep I (r.rep k.toNat) fl q
end
end PD
/-! PDSim: the data stand in the machine's heap so. -/
namespace PD
open PySem PySem.Spec PyProof.Rows L2

/-- B: what never changes; ι: where the store's things stand -/
structure G where
  B : Hp
  ι : List Addr

mutual
inductive Rep (K : PySem.W.Frag) (g : G) : D → V → Prop
  | non : Rep K g .non .non
  | bl (b : Bool) : Rep K g (.bl b) (.bl b)
  | int (i : Int) : Rep K g (.int i) (.int i)
  | str (x : Str) : Rep K g (.str x) (.str x)
  | tup {ds : List D} {a : Addr} {vs : List V} : SqN K g.B a vs → vs.length ≤ sizeLine → Reps K g ds vs → Rep K g (.tup ds) (.ref a)
  | tpl {ds : List D} {a : Addr} {vs : List V} : SqT K g.B a vs → vs.length ≤ sizeLine → Reps K g ds vs → Rep K g (.tpl ds) (.ref a)
  | lst {ds : List D} {a : Addr} {vs : List V} : g.B a = some (.lst vs) → vs.length ≤ sizeLine → Reps K g ds vs → Rep K g (.lst ds) (.ref a)
  | fz {ds : List D} {a : Addr} {vs : List V} : SqL K g.B a vs → vs.length ≤ sizeLine → Reps K g ds vs → Rep K g (.fz ds) (.ref a)
  | ref {l : Nat} {a : Addr} : g.ι[l]? = some a → Rep K g (.ref l) (.ref a)
  | dk {ks : List Key} {ds : List D} {a : Addr} {vs : List V} : g.B a = some (.dK (ks.zip vs)) → ks.length = vs.length → Reps K g ds vs → Rep K g (.dk ks ds) (.ref a)
  | raw (v : V) : Rep K g (.raw v) v
  | fn {x : Str} {a : Addr} : PySem.W.nsIn K mainGlobals x = some (some (.ref a)) → Rep K g (.fn x) (.ref a)
  | xc {a dd : Addr} {ks : List Str} {ds : List D} {vs : List V} : g.B dd = some (.xd (ks.zip vs)) → Reps K g ds vs → Rep K g (.xc a dd ks ds) (.ref a)
inductive Reps (K : PySem.W.Frag) (g : G) : List D → List V → Prop
  | nil : Reps K g [] []
  | cons {d : D} {v : V} {ds : List D} {vs : List V} : Rep K g d v → Reps K g ds vs → Reps K g (d :: ds) (v :: vs)
end
theorem sqT_mono {K : PySem.W.Frag} {B B' : Hp} {a : Addr} {vs : List V} (h : ∀ a o, B a = some o → B' a = some o) : SqT K B a vs → SqT K B' a vs
  | .inl (.inl e) => .inl (.inl (h _ _ e))
  | .inl (.inr ⟨o, e⟩) => .inl (.inr ⟨o, h _ _ e⟩)
  | .inr x => .inr x
theorem sqL_mono {K : PySem.W.Frag} {B B' : Hp} {a : Addr} {vs : List V} (h : ∀ a o, B a = some o → B' a = some o) : SqL K B a vs → SqL K B' a vs
  | .inl (.inl e) => .inl (.inl (h _ _ e))
  | .inl (.inr ⟨o, e⟩) => .inl (.inr ⟨o, h _ _ e⟩)
  | .inr x => .inr x
theorem rd_mono {B B' : Hp} {a : Addr} {u : HO} (h : ∀ a o, B a = some o → B' a = some o) : Rd B a u → Rd B' a u
  | .inl e => .inl (h _ _ e)
  | .inr ⟨o, e⟩ => .inr ⟨o, h _ _ e⟩
/-- g' holds what g holds -/
structure Ge (g g' : G) : Prop where
  b : ∀ a o, g.B a = some o → g'.B a = some o
  i : ∀ (l : Nat) (a : Addr), g.ι[l]? = some a → g'.ι[l]? = some a
theorem Ge.refl (g : G) : Ge g g := ⟨fun _ _ h => h, fun _ _ h => h⟩
theorem Ge.trans {a b c : G} (h : Ge a b) (k : Ge b c) : Ge a c := ⟨fun x o e => k.b x o (h.b x o e), fun l x e => k.i l x (h.i l x e)⟩
mutual
theorem Rep.mono {K : PySem.W.Frag} {g g' : G} (h : Ge g g') : ∀ {d : D} {v : V}, Rep K g d v → Rep K g' d v
  | _, _, .non => .non
  | _, _, .bl b => .bl b
  | _, _, .int b => .int b
  | _, _, .str b => .str b
  | _, _, .tup q l r => .tup (sqN_mono h.b q) l (Reps.mono h r)
  | _, _, .tpl q l r => .tpl (sqT_mono h.b q) l (Reps.mono h r)
  | _, _, .lst q l r => .lst (h.b _ _ q) l (Reps.mono h r)
  | _, _, .fz q l r => .fz (sqL_mono h.b q) l (Reps.mono h r)
  | _, _, .ref e => .ref (h.i _ _ e)
  | _, _, .dk e l r => .dk (h.b _ _ e) l (Reps.mono h r)
  | _, _, .raw v => .raw v
  | _, _, .fn e => .fn e
  | _, _, .xc e r => .xc (h.b _ _ e) (Reps.mono h r)
theorem Reps.mono {K : PySem.W.Frag} {g g' : G} (h : Ge g g') : ∀ {ds : List D} {vs : List V}, Reps K g ds vs → Reps K g' ds vs
  | _, _, .nil => .nil
  | _, _, .cons a t => .cons (Rep.mono h a) (Reps.mono h t)
end
theorem Reps.length {K : PySem.W.Frag} {g : G} : ∀ {ds : List D} {vs : List V}, Reps K g ds vs → ds.length = vs.length
  | _, _, .nil => rfl
  | _, _, .cons _ t => by rw [List.length_cons, List.length_cons, Reps.length t]
theorem Reps.get {K : PySem.W.Frag} {g : G} : ∀ {ds : List D} {vs : List V} {i : Nat} {d : D}, Reps K g ds vs → ds[i]? = some d → ∃ v, vs[i]? = some v ∧ Rep K g d v
  | _, _, _, _, .nil, e => by simp at e
  | _, _, 0, _, .cons a _, e => by simp at e; subst e; exact ⟨_, rfl, a⟩
  | _, _, i + 1, _, .cons _ t, e => by
    obtain ⟨v, h1, h2⟩ := Reps.get (i := i) t (by simpa using e)
    exact ⟨v, by simpa using h1, h2⟩
theorem Reps.getV {K : PySem.W.Frag} {g : G} {ds : List D} {vs : List V} {i : Nat} {v : V} (r : Reps K g ds vs) (e : vs[i]? = some v) : ∃ d, ds[i]? = some d ∧ Rep K g d v := by
  have hl := r.length
  have hi : i < vs.length := (List.getElem?_eq_some_iff.mp e).1
  have e2 : ds[i]? = some ds[i] := List.getElem?_eq_getElem (by omega)
  obtain ⟨v', h1, h2⟩ := r.get e2
  rw [e] at h1; cases h1
  exact ⟨_, e2, h2⟩
theorem Reps.append {K : PySem.W.Frag} {g : G} : ∀ {ds es : List D} {vs ws : List V}, Reps K g ds vs → Reps K g es ws → Reps K g (ds ++ es) (vs ++ ws)
  | _, _, _, _, .nil, s => s
  | _, _, _, _, .cons a t, s => .cons a (Reps.append t s)
theorem Reps.set {K : PySem.W.Frag} {g : G} {d : D} {v : V} (h : Rep K g d v) : ∀ {ds : List D} {vs : List V} (i : Nat), Reps K g ds vs → Reps K g (ds.set i d) (vs.set i v)
  | _, _, _, .nil => .nil
  | _, _, 0, .cons _ t => .cons h t
  | _, _, i + 1, .cons a t => .cons a (Reps.set h i t)
theorem Reps.drop {K : PySem.W.Frag} {g : G} : ∀ {ds : List D} {vs : List V} (n : Nat), Reps K g ds vs → Reps K g (ds.drop n) (vs.drop n)
  | _, _, 0, h => h
  | _, _, _ + 1, .nil => .nil
  | _, _, n + 1, .cons _ t => Reps.drop n t
theorem Reps.take {K : PySem.W.Frag} {g : G} : ∀ {ds : List D} {vs : List V} (n : Nat), Reps K g ds vs → Reps K g (ds.take n) (vs.take n)
  | _, _, 0, _ => .nil
  | _, _, _ + 1, .nil => .nil
  | _, _, n + 1, .cons a t => .cons a (Reps.take n t)
theorem Reps.one {K : PySem.W.Frag} {g : G} {d : D} {v : V} (h : Rep K g d v) : Reps K g [d] [v] := .cons h .nil
theorem Reps.replicate {K : PySem.W.Frag} {g : G} {ds : List D} {vs : List V} (h : Reps K g ds vs) : ∀ n : Nat, Reps K g (List.replicate n ds).flatten (List.replicate n vs).flatten
  | 0 => .nil
  | n + 1 => by
    rw [List.replicate_succ, List.replicate_succ, List.flatten_cons, List.flatten_cons]
    exact h.append (Reps.replicate h n)

/-- a thing of the store stands at a -/
def ObjR (K : PySem.W.Frag) (g : G) (H : Hp) (a : Addr) : MO → Prop
  | .lst xs => ∃ vs, g.B a = none ∧ H a = some (.lst vs) ∧ vs.length ≤ sizeLine ∧ Reps K g xs vs
  | .dk ks xs => ∃ vs, g.B a = none ∧ H a = some (.dK (ks.zip vs)) ∧ ks.length = vs.length ∧ Reps K g xs vs
  | .gone => True
/-- the heap holds the data -/
structure Sim (K : PySem.W.Frag) (T : List (Addr × Str)) (g : G) (st : Sto) (H : Hp) : Prop where
  sub : ∀ a o, g.B a = some o → H a = some o
  len : g.ι.length = st.length
  nd : g.ι.Nodup
  there : ∀ a, a ∈ g.ι → ∃ o, H a = some o ∧ ∀ ps, o ≠ .tbl ps
  obj : ∀ (l : Nat) (a : Addr) (mo : MO), g.ι[l]? = some a → st[l]? = some mo → ObjR K g H a mo
  tabs : LamX.Tabs T H
  tb : ∀ a o, g.B a = some o → ∀ ps, o ≠ .tbl ps
/-- from g, H on to g', H' -/
structure Le (g g' : G) (H H' : Hp) : Prop where
  ge : Ge g g'
  fr : ∀ a o, H a = some o → g.B a = none → a ∉ g.ι → (∀ ps, o ≠ .tbl ps) → H' a = some o ∧ g'.B a = none ∧ a ∉ g'.ι
theorem Le.refl (g : G) (H : Hp) : Le g g H H := ⟨Ge.refl g, fun _ _ h1 h2 h3 _ => ⟨h1, h2, h3⟩⟩
theorem Le.trans {a b c : G} {H H1 H2 : Hp} (h : Le a b H H1) (k : Le b c H1 H2) : Le a c H H2 :=
  ⟨h.ge.trans k.ge, fun x o e1 e2 e3 e4 => let ⟨f1, f2, f3⟩ := h.fr x o e1 e2 e3 e4; k.fr x o f1 f2 f3 e4⟩

section
variable {K : PySem.W.Frag} {T : List (Addr × Str)} {g g' : G} {st : Sto} {H : Hp} {p a : Addr} {o : HO} {ds xs : List D} {vs : List V}
theorem Sim.freshB (S : Sim K T g st H) (h : H p = none) : g.B p = none := by
  cases e : g.B p with
  | none => rfl
  | some o => rw [S.sub p o e] at h; cases h
theorem Sim.freshI (S : Sim K T g st H) (h : H p = none) : p ∉ g.ι := fun hp => by
  obtain ⟨o, e, _⟩ := S.there p hp
  rw [h] at e; cases e
theorem ObjR.mono {mo : MO} {H' : Hp} (h : ObjR K g H a mo) (q : Ge g g') (hb : g.B a = none → g'.B a = none) (hh : ∀ o, H a = some o → H' a = some o) : ObjR K g' H' a mo := by
  cases mo with
  | lst xs => obtain ⟨vs, h1, h2, h3, h4⟩ := h; exact ⟨vs, hb h1, hh _ h2, h3, h4.mono q⟩
  | dk ks xs => obtain ⟨vs, h1, h2, h3, h4⟩ := h; exact ⟨vs, hb h1, hh _ h2, h3, h4.mono q⟩
  | gone => trivial
/-- a new thing that never changes -/
theorem Sim.allocB (S : Sim K T g st H) (h : H p = none) (ho : ∀ ps, o ≠ .tbl ps) : Sim K T ⟨upd g.B p o, g.ι⟩ st (upd H p o) ∧ Le g ⟨upd g.B p o, g.ι⟩ H (upd H p o) := by
  have hB := S.freshB h
  have hI := S.freshI h
  have ge : Ge g ⟨upd g.B p o, g.ι⟩ := ⟨fun a u e => by show upd g.B p o a = some u; rw [upd_ne (ne_of_none e hB)]; exact e, fun _ _ e => e⟩
  have nι : ∀ {l : Nat} {b : Addr}, g.ι[l]? = some b → b ≠ p := fun e z => hI (z ▸ List.mem_of_getElem? e)
  refine ⟨⟨fun a u e => ?_, S.len, S.nd, fun b hb => ?_, fun l b mo e1 e2 => ?_, S.tabs.ext fun b u e => by rw [upd_ne (ne_of_none e h)]; exact e, fun a u e ps => ?_⟩, ge, fun b u e1 e2 e3 e4 => ?_⟩
  · have e : upd g.B p o a = some u := e
    by_cases ha : a = p
    · subst ha; rw [upd_same] at e ⊢; exact e
    · rw [upd_ne ha] at e ⊢; exact S.sub a u e
  · obtain ⟨u, e, q⟩ := S.there b hb
    exact ⟨u, by rw [upd_ne (ne_of_none e h)]; exact e, q⟩
  · exact (S.obj l b mo e1 e2).mono ge (fun z => by show upd g.B p o b = none; rw [upd_ne (nι e1)]; exact z) fun u z => by rw [upd_ne (nι e1)]; exact z
  · by_cases ha : a = p
    · subst ha
      have e' : some o = some u := by rw [← e]; exact upd_same.symm
      cases e'; exact ho ps
    · have e' : g.B a = some u := by rw [← e]; exact (upd_ne ha).symm
      exact S.tb a u e' ps
  · have hb : b ≠ p := ne_of_none e1 h
    exact ⟨by rw [upd_ne hb]; exact e1, by show upd g.B p o b = none; rw [upd_ne hb]; exact e2, e3⟩
/-- a new list that may be changed -/
theorem Sim.allocM (S : Sim K T g st H) (h : H p = none) (hz : vs.length ≤ sizeLine) (r : Reps K g xs vs) :
    Sim K T ⟨g.B, g.ι ++ [p]⟩ (st ++ [.lst xs]) (upd H p (.lst vs)) ∧ Le g ⟨g.B, g.ι ++ [p]⟩ H (upd H p (.lst vs)) ∧ Rep K ⟨g.B, g.ι ++ [p]⟩ (.ref st.length) (.ref p) := by
  have hB := S.freshB h
  have hI := S.freshI h
  have ge : Ge g ⟨g.B, g.ι ++ [p]⟩ := ⟨fun a u e => e, fun l a e => by
    show (g.ι ++ [p])[l]? = some a
    rw [List.getElem?_append_left (List.getElem?_eq_some_iff.mp e).1]; exact e⟩
  refine ⟨⟨fun a u e => ?_, by simp [S.len], ?_, fun b hb => ?_, fun l b mo e1 e2 => ?_, S.tabs.ext fun b u e => by rw [upd_ne (ne_of_none e h)]; exact e, S.tb⟩, ⟨ge, fun b u e1 e2 e3 e4 => ?_⟩, .ref ?_⟩
  · rw [upd_ne (ne_of_none e hB)]; exact S.sub a u e
  · exact List.nodup_append.mpr ⟨S.nd, by simp, fun a ha b hb => by
      have : b = p := by simpa using hb
      subst this
      exact fun z => hI (z ▸ ha)⟩
  · rcases List.mem_append.mp hb with hb | hb
    · obtain ⟨u, e, q⟩ := S.there b hb
      exact ⟨u, by rw [upd_ne (ne_of_none e h)]; exact e, q⟩
    · have : b = p := by simpa using hb
      subst this
      exact ⟨_, upd_same, fun ps z => by cases z⟩
  · have e1' : (g.ι ++ [p])[l]? = some b := e1
    by_cases hl : l < g.ι.length
    · rw [List.getElem?_append_left hl] at e1'
      rw [List.getElem?_append_left (by rw [← S.len]; exact hl)] at e2
      have nb : b ≠ p := fun z => hI (z ▸ List.mem_of_getElem? e1')
      exact (S.obj l b mo e1' e2).mono ge (fun z => z) fun u z => by rw [upd_ne nb]; exact z
    · rw [List.getElem?_append_right (by omega)] at e1'
      rw [List.getElem?_append_right (by rw [← S.len]; omega)] at e2
      have hl0 : l - g.ι.length = 0 := by
        have := (List.getElem?_eq_some_iff.mp e1').1
        simp at this; exact this
      rw [hl0] at e1'
      rw [← S.len, hl0] at e2
      simp at e1' e2
      subst e1' e2
      exact ⟨vs, hB, upd_same, hz, r.mono ge⟩
  · have hb : b ≠ p := ne_of_none e1 h
    exact ⟨by rw [upd_ne hb]; exact e1, e2, fun z => (List.mem_append.mp z).elim e3 fun q => hb (by simpa using q)⟩
  · show (g.ι ++ [p])[st.length]? = some p
    rw [← S.len, List.getElem?_append_right (Nat.le_refl _)]; simp
/-- a list of the store is written -/
theorem Sim.write {l : Nat} {xs' : List D} {vs' : List V} (S : Sim K T g st H) (hl : g.ι[l]? = some a) (hs : st[l]? = some (.lst xs)) (hz : vs'.length ≤ sizeLine) (r : Reps K g xs' vs') :
    Sim K T g (st.set l (.lst xs')) (upd H a (.lst vs')) ∧ Le g g H (upd H a (.lst vs')) := by
  obtain ⟨vs, hB, hH, _, _⟩ := S.obj l a _ hl hs
  have ha : a ∈ g.ι := List.mem_of_getElem? hl
  have hls : l < st.length := (List.getElem?_eq_some_iff.mp hs).1
  refine ⟨⟨fun b u e => ?_, by rw [List.length_set]; exact S.len, S.nd, fun b hb => ?_, fun k b mo e1 e2 => ?_, fun q hq => ?_, S.tb⟩, Ge.refl g, fun b u e1 e2 e3 e4 => ⟨?_, e2, e3⟩⟩
  · rw [upd_ne (ne_of_none e hB)]; exact S.sub b u e
  · by_cases hb' : b = a
    · subst hb'; exact ⟨_, upd_same, fun ps z => by cases z⟩
    · obtain ⟨u, e, q⟩ := S.there b hb
      exact ⟨u, by rw [upd_ne hb']; exact e, q⟩
  · by_cases hk : k = l
    · subst hk
      rw [hl] at e1; cases e1
      rw [List.getElem?_set_self hls] at e2; cases e2
      exact ⟨vs', hB, upd_same, hz, r⟩
    · rw [List.getElem?_set_ne (Ne.symm hk)] at e2
      have nb : b ≠ a := fun z => hk (by
        subst z
        obtain ⟨h1, q1⟩ := List.getElem?_eq_some_iff.mp e1
        obtain ⟨h2, q2⟩ := List.getElem?_eq_some_iff.mp hl
        exact (List.getElem_inj S.nd).mp (q1.trans q2.symm))
      exact (S.obj k b mo e1 e2).mono (Ge.refl g) (fun z => z) fun u z => by rw [upd_ne nb]; exact z
  · obtain ⟨ps, h1, h2, h3⟩ := S.tabs q hq
    have n1 : q.1 ≠ a := fun z => by rw [z, hH] at h1; cases h1
    refine ⟨ps, by rw [upd_ne n1]; exact h1, h2, fun pos cv hc => ?_⟩
    obtain ⟨c, e1, e2⟩ := h3 pos cv hc
    have n2 : c ≠ a := fun z => by rw [z, hH] at e2; cases e2
    exact ⟨c, e1, by rw [upd_ne n2]; exact e2⟩
  · rw [upd_ne (fun z => e3 (by rw [z]; exact ha))]; exact e1
/-- reading -/
theorem Sim.tup (S : Sim K T g st H) {v : V} (r : Rep K g (.tup ds) v) : ∃ a vs, v = .ref a ∧ SqT K H a vs ∧ vs.length ≤ sizeLine ∧ Reps K g ds vs := by
  cases r with
  | tup q l r => exact ⟨_, _, rfl, sqT_mono S.sub q.t, l, r⟩
theorem Sim.tupN (S : Sim K T g st H) {v : V} (r : Rep K g (.tup ds) v) : ∃ a vs, v = .ref a ∧ SqN K H a vs ∧ vs.length ≤ sizeLine ∧ Reps K g ds vs := by
  cases r with
  | tup q l r => exact ⟨_, _, rfl, sqN_mono S.sub q, l, r⟩
theorem Sim.tpl (S : Sim K T g st H) {v : V} (r : Rep K g (.tpl ds) v) : ∃ a vs, v = .ref a ∧ SqT K H a vs ∧ vs.length ≤ sizeLine ∧ Reps K g ds vs := by
  cases r with
  | tpl q l r => exact ⟨_, _, rfl, sqT_mono S.sub q, l, r⟩
theorem Sim.litems (S : Sim K T g st H) {d : D} {v : V} (r : Rep K g d v) (e : litems st d = some xs) : ∃ a vs, v = .ref a ∧ H a = some (.lst vs) ∧ vs.length ≤ sizeLine ∧ Reps K g xs vs := by
  cases r with
  | lst q l r =>
    simp only [PD.litems, Option.some.injEq] at e
    subst e
    exact ⟨_, _, rfl, S.sub _ _ q, l, r⟩
  | ref hl =>
    rename_i l a
    simp only [PD.litems] at e
    cases q : st[l]? with
    | none => rw [q] at e; cases e
    | some mo =>
      rw [q] at e
      cases mo with
      | lst ys =>
        simp only [Option.some.injEq] at e
        subst e
        obtain ⟨vs, _, h2, h3, h4⟩ := S.obj l a _ hl q
        exact ⟨_, vs, rfl, h2, h3, h4⟩
      | _ => cases e
  | _ => cases e
theorem Sim.items (S : Sim K T g st H) {d : D} {v : V} (r : Rep K g d v) (e : items st d = some xs) : ∃ a vs, v = .ref a ∧ (SqL K H a vs ∨ SqT K H a vs) ∧ vs.length ≤ sizeLine ∧ Reps K g xs vs := by
  cases d with
  | tup ys =>
    simp only [PD.items, Option.some.injEq] at e
    subst e
    obtain ⟨a, vs, h1, h2, h3, h4⟩ := S.tup r
    exact ⟨a, vs, h1, .inr h2, h3, h4⟩
  | lst ys =>
    obtain ⟨a, vs, h1, h2, h3, h4⟩ := S.litems (xs := xs) r e
    exact ⟨a, vs, h1, .inl (SqL.of h2), h3, h4⟩
  | fz ys =>
    simp only [PD.items, Option.some.injEq] at e
    subst e
    cases r with
    | fz q l r => exact ⟨_, _, rfl, .inl (sqL_mono S.sub q), l, r⟩
  | ref l =>
    obtain ⟨a, vs, h1, h2, h3, h4⟩ := S.litems (xs := xs) r e
    exact ⟨a, vs, h1, .inl (SqL.of h2), h3, h4⟩
  | _ => cases e
end

/-! ### slots -/
structure EnvR (K : PySem.W.Frag) (g : G) (σ : L2.St) (ρ : Ev) : Prop where
  len : σ.length = ρ.length
  at_ : ∀ (i : Nat) (d : D), ρ[i]? = some (some d) → ∃ v, σ[i]? = some (some v) ∧ Rep K g d v
theorem EnvR.mono {K : PySem.W.Frag} {g g' : G} {σ : L2.St} {ρ : Ev} (h : EnvR K g σ ρ) (q : Ge g g') : EnvR K g' σ ρ :=
  ⟨h.len, fun i d e => let ⟨v, a, b⟩ := h.at_ i d e; ⟨v, a, b.mono q⟩⟩
theorem EnvR.set {K : PySem.W.Frag} {g : G} {σ : L2.St} {ρ : Ev} {d : D} {v : V} (h : EnvR K g σ ρ) (i : Nat) (r : Rep K g d v) : EnvR K g (σ.set i (some v)) (ρ.set i (some d)) := by
  refine ⟨by rw [List.length_set, List.length_set, h.len], fun j e hj => ?_⟩
  by_cases hij : i = j
  · subst hij
    have hi : i < ρ.length := by
      have := (List.getElem?_eq_some_iff.mp hj).1
      rwa [List.length_set] at this
    rw [List.getElem?_set_self hi] at hj
    cases hj
    exact ⟨v, List.getElem?_set_self (by rw [h.len]; exact hi), r⟩
  · rw [List.getElem?_set_ne hij] at hj
    rw [List.getElem?_set_ne hij]
    exact h.at_ j e hj
theorem EnvR.gone {K : PySem.W.Frag} {g : G} {σ : L2.St} {ρ : Ev} (h : EnvR K g σ ρ) (i : Nat) : EnvR K g (σ.set i none) (ρ.set i none) := by
  refine ⟨by rw [List.length_set, List.length_set, h.len], fun j e hj => ?_⟩
  by_cases hij : i = j
  · subst hij
    have hi : i < ρ.length := by
      have := (List.getElem?_eq_some_iff.mp hj).1
      rwa [List.length_set] at this
    rw [List.getElem?_set_self hi] at hj
    cases hj
  · rw [List.getElem?_set_ne hij] at hj
    rw [List.getElem?_set_ne hij]
    exact h.at_ j e hj
theorem EnvR.wipe {K : PySem.W.Frag} {g : G} {σ : L2.St} {ρ : Ev} (h : EnvR K g σ ρ) : ∀ vs : List Nat, EnvR K g (L2.wipe σ vs) (wipeD ρ vs)
  | [] => h
  | v :: vs => (EnvR.wipe h vs).gone v

/-! ### what is wanted -/
/-- the layer's constants: the written part, the tables, the module's names -/
structure Z where
  K : PySem.W.Frag
  T : List (Addr × Str)
  mg : Str → Option Value
def clsV (z : Z) (n : Str) : Value := (z.mg n).getD .none
/-- an exception's own dict -/
def XRep (z : Z) (g : G) (H : Hp) (fs : List (Str × D)) (dx : Option Addr) : Prop :=
  (fs = [] ∧ dx = none) ∨ ∃ a vs, dx = some a ∧ fs ≠ [] ∧ g.B a = some (.xd ((fs.map (·.1)).zip vs)) ∧ Reps z.K g (fs.map (·.2)) vs
def Sat {α : Type} (o : Out α) (P : α → Sto → Prop) (X : Str → List (Str × D) → Sto → Prop) : Prop := match o with
  | .ok a st => P a st
  | .exc n fs st => X n fs st
  | .bad => False
theorem sat_bind {α β : Type} {o : Out α} {f : α → Sto → Out β} {P : β → Sto → Prop} {X : Str → List (Str × D) → Sto → Prop} (h : Sat (o.bind f) P X) : Sat o (fun a st => Sat (f a st) P X) X := by
  cases o <;> exact h
theorem sat_bind' {α β : Type} {o : Out α} {f : α → Sto → Out β} {P : β → Sto → Prop} {X : Str → List (Str × D) → Sto → Prop} (h : Sat o (fun a st => Sat (f a st) P X) X) : Sat (o.bind f) P X := by
  cases o <;> exact h
theorem Sat.mono {α : Type} {o : Out α} {P P' : α → Sto → Prop} {X X' : Str → List (Str × D) → Sto → Prop} (h : Sat o P X) (hp : ∀ a st, P a st → P' a st) (hx : ∀ n fs st, X n fs st → X' n fs st) : Sat o P' X' := by
  cases o with
  | ok a st => exact hp _ _ h
  | exc n fs st => exact hx _ _ _ h
  | bad => exact h
/-- what is wanted of an exception, from g, H on -/
def XPost (z : Z) (W : WX) (σ : L2.St) (g : G) (H : Hp) : Str → List (Str × D) → Sto → Prop := fun n fs st => ∀ g' H' dx, Le g g' H H' → Sim z.K z.T g' st H' → XRep z g' H' fs dx → W (clsV z n) dx σ H'
theorem XPost.mono {z : Z} {W : WX} {σ : L2.St} {g g1 : G} {H H1 : Hp} (l : Le g g1 H H1) {n : Str} {fs : List (Str × D)} {st : Sto} (h : XPost z W σ g H n fs st) : XPost z W σ g1 H1 n fs st :=
  fun g' H' dx l' => h g' H' dx (l.trans l')
def VPost (z : Z) (Q : VK) (g : G) (H : Hp) : D → Sto → Prop := fun d st => ∀ g' H' v, Le g g' H H' → Sim z.K z.T g' st H' → Rep z.K g' d v → Q v H'
theorem VPost.mono {z : Z} {Q : VK} {g g1 : G} {H H1 : Hp} (l : Le g g1 H H1) {d : D} {st : Sto} (h : VPost z Q g H d st) : VPost z Q g1 H1 d st :=
  fun g' H' v l' => h g' H' v (l.trans l')
/-- an expression's value -/
abbrev EPost (z : Z) (W : WX) (σ : L2.St) (Q : VK) (g : G) (H : Hp) (o : Out D) : Prop := Sat o (VPost z Q g H) (XPost z W σ g H)
theorem EPost.mono {z : Z} {W : WX} {σ : L2.St} {Q : VK} {g g1 : G} {H H1 : Hp} {o : Out D} (l : Le g g1 H H1) (h : EPost z W σ Q g H o) : EPost z W σ Q g1 H1 o :=
  Sat.mono h (fun _ _ q => q.mono l) fun _ _ _ q => q.mono l
def BPost (z : Z) (Q : Bool → Hp → Prop) (g : G) (H : Hp) : Bool → Sto → Prop := fun b st => ∀ g' H', Le g g' H H' → Sim z.K z.T g' st H' → Q b H'
abbrev TPost (z : Z) (W : WX) (σ : L2.St) (Q : Bool → Hp → Prop) (g : G) (H : Hp) (o : Out Bool) : Prop := Sat o (BPost z Q g H) (XPost z W σ g H)
theorem TPost.mono {z : Z} {W : WX} {σ : L2.St} {Q : Bool → Hp → Prop} {g g1 : G} {H H1 : Hp} {o : Out Bool} (l : Le g g1 H H1) (h : TPost z W σ Q g H o) : TPost z W σ Q g1 H1 o :=
  Sat.mono h (fun _ _ q g' H' l' => q g' H' (l.trans l')) fun _ _ _ q => q.mono l
def LPost (z : Z) (Q : List V → Hp → Prop) (g : G) (H : Hp) : List D → Sto → Prop := fun ds st => ∀ g' H' vs, Le g g' H H' → Sim z.K z.T g' st H' → Reps z.K g' ds vs → Q vs H'
abbrev APost (z : Z) (W : WX) (σ : L2.St) (Q : List V → Hp → Prop) (g : G) (H : Hp) (o : Out (List D)) : Prop := Sat o (LPost z Q g H) (XPost z W σ g H)
theorem APost.mono {z : Z} {W : WX} {σ : L2.St} {Q : List V → Hp → Prop} {g g1 : G} {H H1 : Hp} {o : Out (List D)} (l : Le g g1 H H1) (h : APost z W σ Q g H o) : APost z W σ Q g1 H1 o :=
  Sat.mono h (fun _ _ q g' H' vs l' => q g' H' vs (l.trans l')) fun _ _ _ q => q.mono l
/-- behind a statement -/
def SPost (z : Z) (W : WX) (D : Ends) (g : G) (H : Hp) (r : Option (Fl × Sto)) : Prop := match r with
  | none => False
  | some (fl, st) => ∀ g' H', Le g g' H H' → Sim z.K z.T g' st H' → match fl with
    | .nx ρ => ∀ σ, EnvR z.K g' σ ρ → D.nx σ H'
    | .rt d => ∀ v, Rep z.K g' d v → D.rt v H'
    | .bk ρ => ∀ σ, EnvR z.K g' σ ρ → D.bk σ H'
    | .ct ρ => ∀ σ, EnvR z.K g' σ ρ → D.ct σ H'
    | .ex n fs ρ => ∀ σ dx, EnvR z.K g' σ ρ → XRep z g' H' fs dx → W (clsV z n) dx σ H'
theorem SPost.mono {z : Z} {W : WX} {D : Ends} {g g1 : G} {H H1 : Hp} {r : Option (Fl × Sto)} (l : Le g g1 H H1) (h : SPost z W D g H r) : SPost z W D g1 H1 r := by
  cases r with
  | none => exact h
  | some p => obtain ⟨fl, st⟩ := p; exact fun g' H' l' => h g' H' (l.trans l')
/-- from what is wanted of a statement made of an Out -/
theorem st_sat {α : Type} {z : Z} {W : WX} {D : Ends} {g : G} {H : Hp} {o : Out α} {ρ : Ev} {σ : L2.St} {k : α → Sto → Option (Fl × Sto)} (E : EnvR z.K g σ ρ) (h : SPost z W D g H (o.st ρ k)) : Sat o (fun a st => SPost z W D g H (k a st)) (XPost z W σ g H) := by
  cases o with
  | ok a st => exact h
  | exc n fs st => exact fun g' H' dx l S x => h g' H' l S σ dx (E.mono l.ge) x
  | bad => exact h

/-! ### readings -/
def tD (z : Z) (W : WX) (f : SE) : TE := fun σ H Q => ∃ g ρ st, Sim z.K z.T g st H ∧ EnvR z.K g σ ρ ∧ EPost z W σ Q g H (f ρ st)
def tDT (z : Z) (W : WX) (f : ST) : TT := fun σ H Q => ∃ g ρ st, Sim z.K z.T g st H ∧ EnvR z.K g σ ρ ∧ TPost z W σ Q g H (f ρ st)
def tDA (z : Z) (W : WX) (f : SA) : TA := fun σ H Q => ∃ g ρ st, Sim z.K z.T g st H ∧ EnvR z.K g σ ρ ∧ APost z W σ Q g H (f ρ st)
def tDS (z : Z) (W : WX) (f : SS) : TS := fun D σ H => ∃ g ρ st, Sim z.K z.T g st H ∧ EnvR z.K g σ ρ ∧ SPost z W D g H (f ρ st)
/-- an iterator J gives the items ds -/
structure WalkD (z : Z) (g : G) (J : It) (ds : List D) (dy : Dy) : Prop where
  go : ∀ g2 H2 st2 (i : Nat) (d0 d : D), Ge g g2 → Sim z.K z.T g2 st2 H2 → ds[i]? = some d0 → fetch dy i d0 st2 = some d →
    J.go i H2 ∧ ∀ x H3, J.yld i H2 x H3 → ∃ g3, Le g2 g3 H2 H3 ∧ Sim z.K z.T g3 st2 H3 ∧ Rep z.K g3 d x
  stop : ∀ g2 H2 st2, Ge g g2 → Sim z.K z.T g2 st2 H2 → finOk dy ds.length st2 = true → J.stop ds.length H2
def IPost (z : Z) (R : It → Hp → Prop) (g : G) (H : Hp) : List D × Dy → Sto → Prop := fun p st => ∀ g' H' J, Le g g' H H' → Sim z.K z.T g' st H' → WalkD z g' J p.1 p.2 → R J H'
def tDI (z : Z) (W : WX) (f : SI) : TI := fun σ H R => ∃ g ρ st, Sim z.K z.T g st H ∧ EnvR z.K g σ ρ ∧ Sat (f ρ st) (IPost z R g H) (XPost z W σ g H)

theorem PE.wk {X : Cx} {e : Expr} {t t' : TE} (h : PE X e t) (k : ∀ σ H Q, t' σ H Q → t σ H Q) : PE X e t' := ⟨fun pins s σ H Q I q => h.run pins s σ H Q I (k σ H Q q)⟩
theorem PT.wk {X : Cx} {e : Expr} {t t' : TT} (h : PT X e t) (k : ∀ σ H Q, t' σ H Q → t σ H Q) : PT X e t' := ⟨fun pins s σ H Q I q => h.run pins s σ H Q I (k σ H Q q)⟩
theorem PW.wk {X : Cx} {e : Expr} {t t' : TT} (h : PW X e t) (k : ∀ σ H Q, t' σ H Q → t σ H Q) : PW X e t' := ⟨fun wh pins s σ H Q I q => h.run wh pins s σ H Q I (k σ H Q q)⟩
theorem PA.wk {X : Cx} {es : List Expr} {t t' : TA} (h : PA X es t) (k : ∀ σ H Q, t' σ H Q → t σ H Q) : PA X es t' := ⟨fun pos pins s σ H Q I q => h.run pos pins s σ H Q I (k σ H Q q)⟩
theorem PS.wk {X : Cx} {e : Stmt} {t t' : TS} (h : PS X e t) (k : ∀ D σ H, t' D σ H → t D σ H) : PS X e t' := ⟨fun pins s σ H D I q => h.run pins s σ H D I (k D σ H q)⟩
theorem PSs.wk {X : Cx} {e : List Stmt} {t t' : TS} (h : PSs X e t) (k : ∀ D σ H, t' D σ H → t D σ H) : PSs X e t' := ⟨fun pins s σ H D I q => h.run pins s σ H D I (k D σ H q)⟩
theorem PI.wk {X : Cx} {tg e : Expr} {t t' : TI} (h : PI X tg e t) (k : ∀ σ H R, t' σ H R → t σ H R) : PI X tg e t' := ⟨fun pins s σ H R I q => h.run pins s σ H R I (k σ H R q)⟩
end PD
/-! PDRules: for each piece of Python its rule over the data. -/
namespace PD
open PySem PySem.Spec PyProof.Rows L2

abbrev zX (X : Cx) (T : List (Addr × Str)) : Z := ⟨X.K, T, X.mg⟩

section
variable {X : Cx} {T : List (Addr × Str)} {W : WX} {a b c e : Expr} {es : List Expr} {fa fb fc fe : SE} {fs : SA} {ft fu : ST} {pos p : Pos} {x : Str}

/-! ### names, constants -/
theorem pd_var {i : Nat} (hN : X.N[i]? = some x) (hv : Vis X.env.scope x) (hd : (x == ("__debug__" : Str)) = false := by decide) (hcd : (x == ("__classdict__" : Str)) = false := by decide) : PE X (.Name x pos) (tD (zX X T) W (sVar i)) :=
  PE.wk (pe_var hN hv hd hcd) fun σ H Q ⟨g, ρ, st, S, E, h⟩ => by
    unfold sVar at h
    split at h
    · rename_i d hd
      obtain ⟨v, e1, r⟩ := E.at_ _ _ hd
      exact ⟨v, e1, h g H v (Le.refl g H) S r⟩
    · exact h.elim
theorem EPost.val {z : Z} {W : WX} {σ : L2.St} {Q : VK} {g : G} {H : Hp} {d : D} {st : Sto} {v : V} (S : Sim z.K z.T g st H) (r : ∀ g, Rep z.K g d v) (h : EPost z W σ Q g H (.ok d st)) : Q v H := h g H v (Le.refl g H) S (r g)
theorem pd_int {i : Int} {j : Nat} : PE X (.Constant (.int i) j pos) (tD (zX X T) W (sC (.int i))) := PE.wk pe_int fun σ H Q ⟨g, ρ, st, S, E, h⟩ => EPost.val S (fun _ => .int i) h
theorem pd_bl {i : Bool} {j : Nat} : PE X (.Constant (.bool i) j pos) (tD (zX X T) W (sC (.bl i))) := PE.wk pe_bl fun σ H Q ⟨g, ρ, st, S, E, h⟩ => EPost.val S (fun _ => .bl i) h
theorem pd_non {j : Nat} : PE X (.Constant .none j pos) (tD (zX X T) W (sC .non)) := PE.wk pe_non fun σ H Q ⟨g, ρ, st, S, E, h⟩ => EPost.val S (fun _ => .non) h
theorem pd_str {i : Str} {j : Nat} : PE X (.Constant (.str i) j pos) (tD (zX X T) W (sC (.str i))) := PE.wk pe_str fun σ H Q ⟨g, ρ, st, S, E, h⟩ => EPost.val S (fun _ => .str i) h
/-- a number, a text of the top -/
theorem pd_gint {i : Int} (hg : Gl X x) (hm : ∃ t, X.mg x = some (.int i t)) (hd : (x == ("__debug__" : Str)) = false := by decide) : PE X (.Name x pos) (tD (zX X T) W (sC (.int i))) := by
  obtain ⟨t, hm⟩ := hm
  exact PE.wk (pe_glob (v := .int i) hg hm ⟨t, rfl⟩ hd) fun σ H Q ⟨g, ρ, st, S, E, h⟩ => EPost.val S (fun _ => .int i) h
theorem pd_gstr {i : Str} (hg : Gl X x) (hm : ∃ t, X.mg x = some (.str i t)) (hd : (x == ("__debug__" : Str)) = false := by decide) : PE X (.Name x pos) (tD (zX X T) W (sC (.str i))) := by
  obtain ⟨t, hm⟩ := hm
  exact PE.wk (pe_glob (v := .str i) hg hm ⟨t, rfl⟩ hd) fun σ H Q ⟨g, ρ, st, S, E, h⟩ => EPost.val S (fun _ => .str i) h

/-! ### two-place operations -/
/-- f is what r does -/
def Does2 (X : Cx) (T : List (Addr × Str)) (r : R2) (f : D → D → Sto → Out D) : Prop :=
  ∀ (W : WX) (σ : L2.St) (g : G) (st : Sto) (H : Hp) (dx dy : D) (x y : V) (Q : VK), Sim X.K T g st H → Rep X.K g dx x → Rep X.K g dy y → EPost (zX X T) W σ Q g H (f dx dy st) → r x y H Q
theorem wk2 {r : R2} {f : D → D → Sto → Out D} (h : Does2 X T r f) : ∀ σ H Q, tD (zX X T) W (s2 f fa fb) σ H Q → tOp r (tD (zX X T) W fa) (tD (zX X T) W fb) σ H Q := by
  rintro σ H Q ⟨g, ρ, st, S, E, q⟩
  refine ⟨g, ρ, st, S, E, Sat.mono (sat_bind q) (fun d st1 q1 g1 H1 v L1 S1 r1 => ?_) fun _ _ _ q => q⟩
  refine ⟨g1, ρ, st1, S1, E.mono L1.ge, Sat.mono (sat_bind q1) (fun d2 st2 q2 g2 H2 v2 L2 S2 r2 => ?_) fun _ _ _ q => q.mono L1⟩
  exact h W σ g2 st2 H2 d d2 v v2 Q S2 (r1.mono L2.ge) r2 (EPost.mono (L1.trans L2) q2)
theorem pd_op {op : Operator} {r : R2} {f : D → D → Sto → Out D} (ho : OpR X (binaryOp op) r) (h : Does2 X T r f) (ha : PE X a (tD (zX X T) W fa)) (hb : PE X b (tD (zX X T) W fb)) : PE X (.BinOp a op b pos) (tD (zX X T) W (s2 f fa fb)) := PE.wk (pe_op ho ha hb) (wk2 h)
theorem pd_cmp {op : CmpOp} {r : R2} {f : D → D → Sto → Out D} (ho : OpR X (compareOp op) r) (h : Does2 X T r f) (ha : PE X a (tD (zX X T) W fa)) (hb : PE X b (tD (zX X T) W fb)) (hm : behindInMarks op b = false) : PE X (.Compare a [op] [b] pos) (tD (zX X T) W (s2 f fa fb)) := PE.wk (pe_cmpR ho ha hb hm) (wk2 h)
/-- a reading whose value is a bool, as a test -/
theorem wkB {t : TE} {f : SE} (h : ∀ σ H Q, tD (zX X T) W f σ H Q → t σ H Q) : ∀ σ H Q, tDT (zX X T) W (tBl f) σ H Q → tTest t σ H Q := by
  rintro σ H Q ⟨g, ρ, st, S, E, q⟩
  refine h σ H _ ⟨g, ρ, st, S, E, Sat.mono (sat_bind q) (fun d st1 q1 g1 H1 v L1 S1 r1 => ?_) fun _ _ _ q => q⟩
  cases d with
  | bl k => cases r1; exact ⟨k, rfl, q1 g1 H1 L1 S1⟩
  | _ => exact q1.elim
theorem pt_cmpD {op : CmpOp} {r : R2} {f : D → D → Sto → Out D} (ho : OpR X (compareOp op) r) (h : Does2 X T r f) (ha : PE X a (tD (zX X T) W fa)) (hb : PE X b (tD (zX X T) W fb)) (hm : behindInMarks op b = false) : PT X (.Compare a [op] [b] pos) (tDT (zX X T) W (tBl (s2 f fa fb))) := PT.wk (pt_cmpR ho ha hb hm) (wkB (wk2 h))

theorem does_add : Does2 X T (fun x y H Q => (rI0 fun i j => V.int (i + j)) x y H Q ∨ (∃ i j, x = .str i ∧ y = .str j ∧ i.length + j.length ≤ sizeLine ∧ Q (.str (i ++ j)) H) ∨ rCatN X.K x y H Q ∨ rCat x y H Q) fAdd := by
  intro W σ g st H dx dy x y Q S rx ry h
  unfold fAdd at h
  split at h
  · cases rx; cases ry; exact .inl ⟨_, _, rfl, rfl, EPost.val S (fun _ => .int _) h⟩
  · cases rx; cases ry
    split at h
    · rename_i hz
      exact .inr (.inl ⟨_, _, rfl, rfl, hz, EPost.val S (fun _ => .str _) h⟩)
    · exact h.elim
  · rename_i xs ys
    split at h
    · rename_i hz
      obtain ⟨a, vs, rfl, h1, h2, h3⟩ := S.tup rx
      obtain ⟨b, ws, rfl, k1, k2, k3⟩ := S.tup ry
      have e1 := h3.length
      have e2 := k3.length
      have rall := h3.append k3
      refine .inr (.inr (.inl ⟨a, b, vs, ws, rfl, rfl, h1, k1, by omega, fun z => ?_, fun z z2 => ?_, fun z z2 p o hp ho => ?_⟩))
      · subst z
        have : xs = [] := by cases h3; rfl
        subst this
        exact h g H _ (Le.refl g H) S ry
      · subst z2
        have : ys = [] := by cases k3; rfl
        subst this
        rw [List.append_nil] at h
        exact h g H _ (Le.refl g H) S rx
      · obtain ⟨S', L'⟩ := S.allocB (o := .frz o (.tup (vs ++ ws))) hp (fun _ => by simp)
        exact h _ _ _ L' S' (.tup (SqN.of ho) (by rw [List.length_append]; omega) (rall.mono L'.ge))
    · exact h.elim
  · split at h
    · rename_i xs ys q1 q2
      split at h
      · rename_i hz
        obtain ⟨a, vs, rfl, h1, h2, h3⟩ := S.litems rx q1
        obtain ⟨b, ws, rfl, k1, k2, k3⟩ := S.litems ry q2
        have e1 := h3.length
        have e2 := k3.length
        refine .inr (.inr (.inr ⟨a, b, vs, ws, rfl, rfl, h1, k1, by omega, fun p hp => ?_⟩))
        obtain ⟨S', L'⟩ := S.allocB (o := .lst (vs ++ ws)) hp (fun _ => by simp)
        exact h _ _ _ L' S' (.lst upd_same (by rw [List.length_append]; omega) ((h3.append k3).mono L'.ge))
      · exact h.elim
    · exact h.elim
theorem or_add : OpR X (binaryOp .Add) (fun x y H Q => (rI0 fun i j => V.int (i + j)) x y H Q ∨ (∃ i j, x = .str i ∧ y = .str j ∧ i.length + j.length ≤ sizeLine ∧ Q (.str (i ++ j)) H) ∨ rCatN X.K x y H Q ∨ rCat x y H Q) :=
  op_add.or (op_add_str.or (op_catN.or op_cat))
theorem pd_add (ha : PE X a (tD (zX X T) W fa)) (hb : PE X b (tD (zX X T) W fb)) : PE X (.BinOp a .Add b pos) (tD (zX X T) W (s2 fAdd fa fb)) := pd_op or_add does_add ha hb
theorem pd_sub (ha : PE X a (tD (zX X T) W fa)) (hb : PE X b (tD (zX X T) W fb)) : PE X (.BinOp a .Sub b pos) (tD (zX X T) W (s2 fSub fa fb)) := pd_op op_sub (by
  intro W σ g st H dx dy x y Q S rx ry h
  unfold fSub at h
  split at h
  · cases rx; cases ry; exact ⟨_, _, rfl, rfl, EPost.val S (fun _ => .int _) h⟩
  · exact h.elim) ha hb
theorem small_ok {i : Int} (h : small i = true) : -(2 ^ 64) < i ∧ i < 2 ^ 64 := by
  unfold small at h
  simpa [Bool.and_eq_true] using h
theorem pd_mul (ha : PE X a (tD (zX X T) W fa)) (hb : PE X b (tD (zX X T) W fb)) : PE X (.BinOp a .Mult b pos) (tD (zX X T) W (s2 fMul fa fb)) := pd_op op_mul (by
  intro W σ g st H dx dy x y Q S rx ry h
  unfold fMul at h
  split at h
  · split at h
    · rename_i hz
      cases rx; cases ry
      refine ⟨_, _, rfl, rfl, ?_, EPost.val S (fun _ => .int _) h⟩
      rcases Bool.or_eq_true_iff.mp hz with z | z
      · exact .inl (small_ok z)
      · exact .inr (small_ok z)
    · exact h.elim
  · exact h.elim) ha hb
theorem pd_div (ha : PE X a (tD (zX X T) W fa)) (hb : PE X b (tD (zX X T) W fb)) : PE X (.BinOp a .FloorDiv b pos) (tD (zX X T) W (s2 fDiv fa fb)) := pd_op op_fdiv (by
  intro W σ g st H dx dy x y Q S rx ry h
  unfold fDiv at h
  split at h
  · split at h
    · rename_i hz
      cases rx; cases ry
      exact ⟨_, _, rfl, rfl, hz, EPost.val S (fun _ => .int _) h⟩
    · exact h.elim
  · exact h.elim) ha hb
theorem pd_mod (ha : PE X a (tD (zX X T) W fa)) (hb : PE X b (tD (zX X T) W fb)) : PE X (.BinOp a .Mod b pos) (tD (zX X T) W (s2 fMod fa fb)) := pd_op op_mod (by
  intro W σ g st H dx dy x y Q S rx ry h
  unfold fMod at h
  split at h
  · split at h
    · rename_i hz
      cases rx; cases ry
      exact ⟨_, _, rfl, rfl, hz, EPost.val S (fun _ => .int _) h⟩
    · exact h.elim
  · exact h.elim) ha hb
theorem pd_pow (ha : PE X a (tD (zX X T) W fa)) (hb : PE X b (tD (zX X T) W fb)) : PE X (.BinOp a .Pow b pos) (tD (zX X T) W (s2 fPow fa fb)) := pd_op op_pow (by
  intro W σ g st H dx dy x y Q S rx ry h
  unfold fPow at h
  split at h
  · split at h
    · rename_i hz
      cases rx; cases ry
      exact ⟨_, _, rfl, rfl, ⟨hz.1, hz.2.1, Nat.lt_of_le_of_lt hz.2.2 (by decide +kernel)⟩, EPost.val S (fun _ => .int _) h⟩
    · exact h.elim
  · exact h.elim) ha hb
/-- a new list lies at p -/
theorem newL_ok {m : Bool} {σ : L2.St} {Q : VK} {g : G} {H : Hp} {st : Sto} {xs : List D} {vs : List V} (S : Sim X.K T g st H) (hz : vs.length ≤ sizeLine) (r : Reps X.K g xs vs) (h : EPost (zX X T) W σ Q g H (newL m xs st)) :
    ∀ p, H p = none → Q (.ref p) (upd H p (.lst vs)) := fun p hp => by
  cases m with
  | true =>
    obtain ⟨S', L', r'⟩ := S.allocM hp hz r
    exact h _ _ _ L' S' r'
  | false =>
    obtain ⟨S', L'⟩ := S.allocB (o := .lst vs) hp (fun _ => by simp)
    exact h _ _ _ L' S' (.lst upd_same hz (r.mono L'.ge))
/-- xs * n -/
theorem pd_rep (m : Bool) (ha : PE X a (tD (zX X T) W fa)) (hb : PE X b (tD (zX X T) W fb)) : PE X (.BinOp a .Mult b pos) (tD (zX X T) W (s2 (fRep m) fa fb)) := pd_op op_rep (by
  intro W σ g st H dx dy x y Q S rx ry h
  unfold fRep at h
  split at h
  · rename_i xs k q
    split at h
    · rename_i hz
      obtain ⟨a, vs, rfl, h1, h2, h3⟩ := S.litems rx q
      cases ry
      have e1 := h3.length
      refine ⟨a, k, vs, rfl, rfl, h1, Int.le_trans (by decide +kernel) hz.1, Int.lt_of_le_of_lt hz.2.1 (by decide +kernel), by rw [← e1]; exact hz.2.2, newL_ok S ?_ (h3.replicate _) h⟩
      have : ((List.replicate k.toNat vs).flatten).length = k.toNat * vs.length := by simp [List.length_flatten]
      rw [this, Nat.mul_comm, ← e1]; exact hz.2.2
    · exact h.elim
  · exact h.elim) ha hb

/-! ### comparisons -/
theorem does_cmp {q : Int → Int → Bool} : Does2 X T (rI0 fun i j => .bl (q i j)) (fCmp q) := by
  intro W σ g st H dx dy x y Q S rx ry h
  unfold fCmp at h
  split at h
  · cases rx; cases ry; exact ⟨_, _, rfl, rfl, EPost.val S (fun _ => .bl _) h⟩
  · exact h.elim
theorem atomPy_dp {g : G} {K : PySem.W.Frag} {H : Hp} {d : D} {v : V} {p : PyData} (r : Rep K g d v) (e : atomPy d = some p) : Dp K H v p ∧ p.canLay0 = true ∧ p.depth = 0 := by
  cases d with
  | non => cases r; cases e; exact ⟨.non, rfl, rfl⟩
  | bl b => cases r; cases e; exact ⟨.bl b, rfl, rfl⟩
  | int b => cases r; cases e; exact ⟨.int b, rfl, rfl⟩
  | str b =>
    cases r
    unfold atomPy at e
    dsimp only at e
    split at e
    · rename_i hc
      cases e; exact ⟨.str b, hc, rfl⟩
    · cases e
  | _ => cases e
theorem allSome_cons {α : Type} {x : Option α} {r : List (Option α)} {ys : List α} (h : allSome (x :: r) = some ys) : ∃ y ys', x = some y ∧ allSome r = some ys' ∧ ys = y :: ys' := by
  cases x with
  | none => cases h
  | some y =>
    unfold allSome at h
    cases q : allSome r with
    | none => rw [q] at h; cases h
    | some ys' => rw [q] at h; cases h; exact ⟨y, ys', rfl, rfl, rfl⟩
theorem depthAll_cons {x : PyData} {xs : List PyData} : PyData.depthAll (x :: xs) = max x.depth (PyData.depthAll xs) := rfl
/-- what the data are as plain data -/
theorem toPy_dp {g : G} {K : PySem.W.Frag} {st : Sto} {H : Hp} (S : Sim K T g st H) : ∀ (n : Nat) {d : D} {v : V} {p : PyData}, Rep K g d v → toPy st n d = some p → Dp K H v p ∧ p.canLay0 = true ∧ p.depth ≤ n
  | 0, d, v, p, r, e => by
    obtain ⟨h1, h2, h3⟩ := atomPy_dp (H := H) r e
    exact ⟨h1, h2, by omega⟩
  | n + 1, d, v, p, r, e => by
    have all : ∀ (xs : List D) {vs : List V} {ps : List PyData}, Reps K g xs vs → allSome (xs.map (toPy st n)) = some ps → DpAll K H vs ps ∧ PyData.canLayAll0 ps = true ∧ PyData.depthAll ps ≤ n := by
      intro xs
      induction xs with
      | nil => intro vs ps r e; cases r; cases e; exact ⟨.nil, rfl, Nat.zero_le _⟩
      | cons x xs ih =>
        intro vs ps r e
        rw [List.map_cons] at e
        obtain ⟨y, ys, e1, e2, rfl⟩ := allSome_cons e
        cases r with
        | cons r1 r2 =>
          obtain ⟨h1, h2, h3⟩ := toPy_dp S n r1 e1
          obtain ⟨k1, k2, k3⟩ := ih r2 e2
          refine ⟨.cons h1 k1, ?_, ?_⟩
          · show (PyData.canLay0 y && PyData.canLayAll0 ys) = true
            rw [h2, k2]; rfl
          · rw [depthAll_cons]; omega
    cases d with
    | tup xs =>
      obtain ⟨a, vs, rfl, h1, h2, h3⟩ := S.tup r
      unfold toPy at e
      dsimp only at e
      cases q : allSome (xs.map (toPy st n)) with
      | none => rw [q] at e; cases e
      | some ps =>
        rw [q] at e; cases e
        obtain ⟨k1, k2, k3⟩ := all xs h3 q
        exact ⟨.tup h1 k1, k2, Nat.succ_le_succ k3⟩
    | tpl xs => cases e
    | fn x => cases e
    | xc _ _ _ _ => cases e
    | lst xs =>
      obtain ⟨a, vs, rfl, h1, h2, h3⟩ := S.litems (xs := xs) r rfl
      unfold toPy at e
      dsimp only at e
      cases q : allSome (xs.map (toPy st n)) with
      | none => rw [q] at e; cases e
      | some ps =>
        rw [q] at e; cases e
        obtain ⟨k1, k2, k3⟩ := all xs h3 q
        exact ⟨.lst (SqL.of h1) k1, k2, Nat.succ_le_succ k3⟩
    | ref l =>
      unfold toPy at e
      dsimp only at e
      cases hs : st[l]? with
      | none => rw [hs] at e; cases e
      | some mo =>
        rw [hs] at e
        cases mo with
        | lst xs =>
          dsimp only at e
          obtain ⟨a, vs, rfl, h1, h2, h3⟩ := S.litems (xs := xs) r (by unfold litems; dsimp only; rw [hs])
          cases q : allSome (xs.map (toPy st n)) with
          | none => rw [q] at e; cases e
          | some ps =>
            rw [q] at e; cases e
            obtain ⟨k1, k2, k3⟩ := all xs h3 q
            exact ⟨.lst (SqL.of h1) k1, k2, Nat.succ_le_succ k3⟩
        | _ => cases e
    | non => obtain ⟨h1, h2, h3⟩ := atomPy_dp (H := H) r (show atomPy .non = some p from e); exact ⟨h1, h2, by omega⟩
    | bl b => obtain ⟨h1, h2, h3⟩ := atomPy_dp (H := H) r (show atomPy (.bl b) = some p from e); exact ⟨h1, h2, by omega⟩
    | int b => obtain ⟨h1, h2, h3⟩ := atomPy_dp (H := H) r (show atomPy (.int b) = some p from e); exact ⟨h1, h2, by omega⟩
    | str b => obtain ⟨h1, h2, h3⟩ := atomPy_dp (H := H) r (show atomPy (.str b) = some p from e); exact ⟨h1, h2, by omega⟩
    | fz xs => cases (show (none : Option PyData) = some p from e)
    | dk ks xs => cases (show (none : Option PyData) = some p from e)
    | raw v => cases (show (none : Option PyData) = some p from e)
theorem shaped_of {p : PyData} (h : p.canLay0 = true) (h2 : p.depth ≤ 64) : SeqAt.shaped p = true := by
  unfold SeqAt.shaped
  rw [h, decide_eq_true h2]; rfl
theorem toPys_dp {g : G} {K : PySem.W.Frag} {st : Sto} {H : Hp} (S : Sim K T g st H) (n : Nat) {xs : List D} {vs : List V} {ps : List PyData} (r : Reps K g xs vs) (e : toPys st n xs = some ps) : DpAll K H vs ps ∧ PyData.canLayAll0 ps = true ∧ PyData.depthAll ps ≤ n := by
  unfold toPys at e
  induction xs generalizing vs ps with
  | nil => cases r; cases e; exact ⟨.nil, rfl, Nat.zero_le _⟩
  | cons x xs ih =>
    rw [List.map_cons] at e
    obtain ⟨y, ys, e1, e2, rfl⟩ := allSome_cons e
    cases r with
    | cons r1 r2 =>
      obtain ⟨h1, h2, h3⟩ := toPy_dp S n r1 e1
      obtain ⟨k1, k2, k3⟩ := ih r2 e2
      refine ⟨.cons h1 k1, ?_, ?_⟩
      · show (PyData.canLay0 y && PyData.canLayAll0 ys) = true
        rw [h2, k2]; rfl
      · rw [depthAll_cons]; omega
theorem does_eq : Does2 X T (rEqD X.K) fEq := by
  intro W σ g st H dx dy x y Q S rx ry h
  unfold fEq at h
  split at h
  · rename_i p q e1 e2
    obtain ⟨h1, h2, h3⟩ := toPy_dp S 60 rx e1
    obtain ⟨k1, k2, k3⟩ := toPy_dp S 60 ry e2
    exact ⟨p, q, h1, k1, shaped_of h2 (by omega), shaped_of k2 (by omega), EPost.val S (fun _ => .bl _) h⟩
  · exact h.elim
theorem does_ne : Does2 X T (rNeD X.K) fNe := by
  intro W σ g st H dx dy x y Q S rx ry h
  unfold fNe at h
  split at h
  · rename_i p q e1 e2
    obtain ⟨h1, h2, h3⟩ := toPy_dp S 60 rx e1
    obtain ⟨k1, k2, k3⟩ := toPy_dp S 60 ry e2
    exact ⟨p, q, h1, k1, shaped_of h2 (by omega), shaped_of k2 (by omega), EPost.val S (fun _ => .bl _) h⟩
  · exact h.elim
theorem isNon_rep {K : PySem.W.Frag} {g : G} {d : D} {v : V} (r : Rep K g d v) (h : rawD d = false) : decide (v = .non) = isNonD d := by
  cases r <;> first | rfl | exact absurd (show true = false from h) (by decide)
theorem does_isN : Does2 X T (fun x y H Q => y = .non ∧ Q (.bl (decide (x = .non))) H) fIsN2 := by
  intro W σ g st H dx dy x y Q S rx ry h
  cases dy with
  | non =>
    have h : EPost (zX X T) W σ Q g H (fIsN dx st) := h
    unfold fIsN at h
    cases ry
    split at h
    · exact h.elim
    · rename_i hr
      refine ⟨rfl, ?_⟩
      rw [isNon_rep rx (by simpa using hr)]
      exact EPost.val S (fun _ => .bl _) h
  | _ => exact h.elim
theorem does_notN : Does2 X T (fun x y H Q => y = .non ∧ Q (.bl (!decide (x = .non))) H) fNotN2 := by
  intro W σ g st H dx dy x y Q S rx ry h
  cases dy with
  | non =>
    have h : EPost (zX X T) W σ Q g H (fNotN dx st) := h
    unfold fNotN at h
    cases ry
    split at h
    · exact h.elim
    · rename_i hr
      refine ⟨rfl, ?_⟩
      rw [isNon_rep rx (by simpa using hr)]
      exact EPost.val S (fun _ => .bl _) h
  | _ => exact h.elim
theorem flat_eq {K : PySem.W.Frag} {g : G} {st : Sto} {n : Nat} {d e : D} {v w : V} {p q : PyData} (rd : Rep K g d v) (re : Rep K g e w) (hd : flatD d = true) (he : flatD e = true) (h1 : toPy st n d = some p) (h2 : toPy st n e = some q) : flatV v = true ∧ PyData.eqv p q = eqV v w := by
  have a1 : atomPy d = some p := by cases d <;> first | (cases n <;> exact h1) | exact absurd (show false = true from hd) Bool.false_ne_true
  have a2 : atomPy e = some q := by cases e <;> first | (cases n <;> exact h2) | exact absurd (show false = true from he) Bool.false_ne_true
  have s1 : ∀ {s : Str} {p : PyData}, atomPy (.str s) = some p → p = .str s := fun {s p} h => by
    unfold atomPy at h
    dsimp only at h
    split at h
    · cases h; rfl
    · cases h
  cases rd <;> first
    | exact absurd (show false = true from hd) Bool.false_ne_true
    | (cases re <;> first
        | exact absurd (show false = true from he) Bool.false_ne_true
        | (refine ⟨rfl, ?_⟩
           first
             | (have b1 := s1 a1; have b2 := s1 a2; subst b1; subst b2; done)
             | (have b1 := s1 a1; have b2 := s1 a2; subst b1; subst b2; rfl)
             | (have b1 := s1 a1; subst b1; cases a2; rfl)
             | (have b2 := s1 a2; subst b2; cases a1; rfl)
             | (cases a1; cases a2; rfl)))
end
end PD
/-! PDRules2: membership, truth, arguments, displays, calls, subscripts. -/
namespace PD
open PySem PySem.Spec PyProof.Rows L2
section
variable {X : Cx} {T : List (Addr × Str)} {W : WX} {a b c e : Expr} {es : List Expr} {fa fb fc fe : SE} {fs : SA} {ft fu : ST} {pos p : Pos} {x : Str}

/-! ### in, not in -/
def rInA (K : PySem.W.Frag) : R2 := fun x y H Q => rIn K false x y H Q ∨ rInD K x y H Q
def rNotInA (K : PySem.W.Frag) : R2 := fun x y H Q => rIn K true x y H Q ∨ rNotInD K x y H Q
theorem flats {K : PySem.W.Frag} {g : G} {st : Sto} {n : Nat} {d : D} {v : V} {p : PyData} (rd : Rep K g d v) (hd : flatD d = true) (h1 : toPy st (n + 1) d = some p) :
    ∀ {ys : List D} {vs : List V} {ps : List PyData}, Reps K g ys vs → ys.all flatD = true → toPys st n ys = some ps → vs.all flatV = true ∧ inPy p ps = inV v vs := by
  have h1' : toPy st n d = some p := by
    cases d <;> first | (cases n <;> exact h1) | exact absurd (show false = true from hd) Bool.false_ne_true
  intro ys
  induction ys with
  | nil => intro vs ps r _ e; cases r; cases e; exact ⟨rfl, rfl⟩
  | cons y ys ih =>
    intro vs ps r ha e
    unfold toPys at e
    rw [List.map_cons] at e
    obtain ⟨q, qs, e1, e2, rfl⟩ := allSome_cons e
    cases r with
    | cons r1 r2 =>
      rw [List.all_cons, Bool.and_eq_true_iff] at ha
      obtain ⟨k1, k2⟩ := ih r2 ha.2 e2
      obtain ⟨f1, f2⟩ := flat_eq r1 rd ha.1 hd e1 h1'
      refine ⟨by rw [List.all_cons, f1, k1]; rfl, ?_⟩
      unfold inPy inV at k2 ⊢
      rw [List.any_cons, List.any_cons, f2, k2]
theorem flatV_of {K : PySem.W.Frag} {g : G} {d : D} {v : V} (rd : Rep K g d v) (hd : flatD d = true) : flatV v = true := by
  cases rd <;> first | rfl | exact absurd (show false = true from hd) Bool.false_ne_true
theorem in_core {g : G} {st : Sto} {H : Hp} {dx dy : D} {x y : V} {P : Bool → Prop} (S : Sim X.K T g st H) (rx : Rep X.K g dx x) (ry : Rep X.K g dy y)
    (h : Sat (fIn0 dx dy st) (fun b st' => st' = st → P b) (fun _ _ _ => False)) :
    (∃ p xs, y = .ref p ∧ (SqL X.K H p xs ∨ SqT X.K H p xs) ∧ flatV x = true ∧ xs.all flatV = true ∧ P (inV x xs)) ∨
      (∃ d ds, Dp X.K H x d ∧ Dp X.K H y (.list ds) ∧ SeqAt.shaped d = true ∧ SeqAt.shaped (.list ds) = true ∧ P (ds.any fun z => PyData.eqv z d)) := by
  unfold fIn0 at h
  split at h
  · rename_i p e1
    split at h
    · rename_i ys
      split at h
      · rename_i hf
        rw [Bool.and_eq_true_iff] at hf
        split at h
        · rename_i ps e2
          obtain ⟨a, vs, rfl, h1, h2, h3⟩ := S.tup ry
          obtain ⟨k1, k2⟩ := flats rx hf.1 e1 h3 hf.2 e2
          refine .inl ⟨a, vs, rfl, .inr h1, flatV_of rx hf.1, k1, ?_⟩
          rw [← k2]; exact h rfl
        · exact h.elim
      · exact h.elim
    · split at h
      · rename_i ys e3
        split at h
        · rename_i ps e2
          obtain ⟨a, vs, rfl, h1, h2, h3⟩ := S.litems ry e3
          obtain ⟨q1, q2, q3⟩ := toPy_dp S 60 rx e1
          obtain ⟨k1, k2, k3⟩ := toPys_dp S 59 h3 e2
          exact .inr ⟨p, ps, q1, .lst (SqL.of h1) k1, shaped_of q2 (by omega), shaped_of (p := .list ps) k2 (by show PyData.depthAll ps + 1 ≤ 64; omega), h rfl⟩
        · exact h.elim
      · exact h.elim
  · exact h.elim
theorem fIn0_st {x y : D} {st : Sto} {P : Bool → Sto → Prop} {E : Str → List (Str × D) → Sto → Prop} (h : Sat (fIn0 x y st) P E) : Sat (fIn0 x y st) (fun b _ => P b st) (fun _ _ _ => False) := by
  have key : fIn0 x y st = .bad ∨ ∃ b, fIn0 x y st = .ok b st := by
    unfold fIn0
    repeat' (first | exact .inl rfl | exact .inr ⟨_, rfl⟩ | split)
  rcases key with k | ⟨b, k⟩
  · rw [k] at h; exact h.elim
  · rw [k] at h ⊢; exact h
theorem does_in : Does2 X T (rInA X.K) fIn := by
  intro W σ g st H dx dy x y Q S rx ry h
  refine in_core (P := fun b => Q (.bl b) H) S rx ry (Sat.mono (fIn0_st (sat_bind h)) (fun b st' q _ => ?_) fun _ _ _ q => q)
  exact EPost.val (W := W) (σ := σ) S (fun _ => .bl b) q
theorem does_notIn : Does2 X T (rNotInA X.K) fNotIn := by
  intro W σ g st H dx dy x y Q S rx ry h
  refine in_core (P := fun b => Q (.bl (!b)) H) S rx ry (Sat.mono (fIn0_st (sat_bind h)) (fun b st' q _ => ?_) fun _ _ _ q => q)
  exact EPost.val (W := W) (σ := σ) S (fun _ => .bl (!b)) q
theorem or_in (hu : X.A.units + 65 < cLine) : OpR X (compareOp .In) (rInA X.K) := op_in_seq.or (op_inD hu)
theorem or_notIn (hu : X.A.units + 65 < cLine) : OpR X (compareOp .NotIn) (rNotInA X.K) := op_notIn_seq.or (op_notInD hu)

/-! ### truth -/
theorem tru_of {g : G} {st : Sto} {H : Hp} {d : D} {v : V} {k : Bool} (S : Sim X.K T g st H) (r : Rep X.K g d v) (h : truD st d = some k) : TruV X.K v H k := by
  cases d with
  | non => cases r; cases h; exact rfl
  | bl b => cases r; cases h; exact rfl
  | int i => cases r; cases h; exact rfl
  | tup xs =>
    obtain ⟨a, vs, rfl, h1, h2, h3⟩ := S.tup r
    cases h
    exact .inr (.inl ⟨vs, h1, by cases h3 <;> rfl⟩)
  | lst xs =>
    obtain ⟨a, vs, rfl, h1, h2, h3⟩ := S.litems (xs := xs) r rfl
    cases h
    exact .inl ⟨vs, SqL.of h1, by cases h3 <;> rfl⟩
  | ref l =>
    unfold truD at h
    dsimp only at h
    split at h
    · rename_i xs hs
      obtain ⟨a, vs, rfl, h1, h2, h3⟩ := S.litems (xs := xs) r (by unfold litems; dsimp only; rw [hs])
      cases h
      exact .inl ⟨vs, SqL.of h1, by cases h3 <;> rfl⟩
    · cases h
  | _ => cases h
theorem pt_tru (ha : PE X a (tD (zX X T) W fa)) (he : ∀ whole, isTrue a X.env whole = (do let v ← whole; standAt a.pos; holding [v] (truthy v)) := by intro _; rfl) : PT X a (tDT (zX X T) W (tTru fa)) :=
  PT.wk (pt_truth ha he) fun σ H Q ⟨g, ρ, st, S, E, q⟩ => by
    refine ⟨g, ρ, st, S, E, Sat.mono (sat_bind q) (fun d st1 q1 g1 H1 v L1 S1 r1 => ?_) fun _ _ _ q => q⟩
    split at q1
    · rename_i k hk
      exact ⟨k, tru_of S1 r1 hk, q1 g1 H1 L1 S1⟩
    · exact q1.elim

/-! ### and, or, not -/
theorem pw_andD1 (h : PT X a (tDT (zX X T) W ft)) : PW X (.BoolOp .And [a] pos) (tDT (zX X T) W ft) := pw_and1 h
theorem pw_orD1 (h : PT X a (tDT (zX X T) W ft)) : PW X (.BoolOp .Or [a] pos) (tDT (zX X T) W ft) := pw_or1 h
theorem pw_andD (h1 : PT X a (tDT (zX X T) W ft)) (h2 : PW X (.BoolOp .And (b :: es) pos) (tDT (zX X T) W fu)) : PW X (.BoolOp .And (a :: b :: es) pos) (tDT (zX X T) W (tAndD ft fu)) :=
  PW.wk (pw_and h1 h2) fun σ H Q ⟨g, ρ, st, S, E, q⟩ => ⟨g, ρ, st, S, E, Sat.mono (sat_bind q) (fun k st1 q1 g1 H1 L1 S1 => by
    cases k with
    | true => exact ⟨g1, ρ, st1, S1, E.mono L1.ge, TPost.mono L1 q1⟩
    | false => exact q1 g1 H1 L1 S1) fun _ _ _ q => q⟩
theorem pw_orD (h1 : PT X a (tDT (zX X T) W ft)) (h2 : PW X (.BoolOp .Or (b :: es) pos) (tDT (zX X T) W fu)) : PW X (.BoolOp .Or (a :: b :: es) pos) (tDT (zX X T) W (tOrD ft fu)) :=
  PW.wk (pw_or h1 h2) fun σ H Q ⟨g, ρ, st, S, E, q⟩ => ⟨g, ρ, st, S, E, Sat.mono (sat_bind q) (fun k st1 q1 g1 H1 L1 S1 => by
    cases k with
    | false => exact ⟨g1, ρ, st1, S1, E.mono L1.ge, TPost.mono L1 q1⟩
    | true => exact q1 g1 H1 L1 S1) fun _ _ _ q => q⟩
theorem pt_notD (h : PT X a (tDT (zX X T) W ft)) : PT X (.UnaryOp .Not a pos) (tDT (zX X T) W (tNotD ft)) :=
  PT.wk (pt_not h) fun σ H Q ⟨g, ρ, st, S, E, q⟩ => ⟨g, ρ, st, S, E, Sat.mono (sat_bind q) (fun k st1 q1 g1 H1 L1 S1 => q1 g1 H1 L1 S1) fun _ _ _ q => q⟩
theorem pe_andD (h1 : PE X a (tD (zX X T) W fa)) (h2 : PE X (.BoolOp .And (b :: es) pos) (tD (zX X T) W fb)) : PE X (.BoolOp .And (a :: b :: es) pos) (tD (zX X T) W (sAnd fa fb)) :=
  PE.wk (pe_and h1 h2) fun σ H Q ⟨g, ρ, st, S, E, q⟩ => ⟨g, ρ, st, S, E, Sat.mono (sat_bind q) (fun d st1 q1 g1 H1 v L1 S1 r1 => by
    cases d with
    | bl k =>
      cases r1
      refine ⟨k, rfl, ?_⟩
      cases k with
      | true => exact ⟨g1, ρ, st1, S1, E.mono L1.ge, EPost.mono L1 q1⟩
      | false => exact q1 g1 H1 _ L1 S1 (.bl _)
    | _ => exact q1.elim) fun _ _ _ q => q⟩
theorem pe_orD (h1 : PE X a (tD (zX X T) W fa)) (h2 : PE X (.BoolOp .Or (b :: es) pos) (tD (zX X T) W fb)) : PE X (.BoolOp .Or (a :: b :: es) pos) (tD (zX X T) W (sOr fa fb)) :=
  PE.wk (pe_or h1 h2) fun σ H Q ⟨g, ρ, st, S, E, q⟩ => ⟨g, ρ, st, S, E, Sat.mono (sat_bind q) (fun d st1 q1 g1 H1 v L1 S1 r1 => by
    cases d with
    | bl k =>
      cases r1
      refine ⟨k, rfl, ?_⟩
      cases k with
      | false => exact ⟨g1, ρ, st1, S1, E.mono L1.ge, EPost.mono L1 q1⟩
      | true => exact q1 g1 H1 _ L1 S1 (.bl _)
    | _ => exact q1.elim) fun _ _ _ q => q⟩
theorem pe_oneD {op : BoolOp} (h : PE X a (tD (zX X T) W fa)) : PE X (.BoolOp op [a] pos) (tD (zX X T) W fa) := pe_one h
theorem pe_notD (h : PE X a (tD (zX X T) W fa)) : PE X (.UnaryOp .Not a pos) (tD (zX X T) W (sNotV fa)) :=
  PE.wk (pe_not h) fun σ H Q ⟨g, ρ, st, S, E, q⟩ => ⟨g, ρ, st, S, E, Sat.mono (sat_bind q) (fun d st1 q1 g1 H1 v L1 S1 r1 => by
    cases d with
    | bl k => cases r1; exact ⟨k, rfl, q1 g1 H1 _ L1 S1 (.bl _)⟩
    | _ => exact q1.elim) fun _ _ _ q => q⟩
theorem pe_ifD (hc : PT X c (tDT (zX X T) W ft)) (ha : PE X a (tD (zX X T) W fa)) (hb : PE X b (tD (zX X T) W fb)) : PE X (.IfExp c a b pos) (tD (zX X T) W (sIf ft fa fb)) :=
  PE.wk (pe_ifExp hc ha hb) fun σ H Q ⟨g, ρ, st, S, E, q⟩ => ⟨g, ρ, st, S, E, Sat.mono (sat_bind q) (fun k st1 q1 g1 H1 L1 S1 => by
    cases k with
    | true => exact ⟨g1, ρ, st1, S1, E.mono L1.ge, EPost.mono L1 q1⟩
    | false => exact ⟨g1, ρ, st1, S1, E.mono L1.ge, EPost.mono L1 q1⟩) fun _ _ _ q => q⟩
/-- a op b op' c -/
theorem wk_chain {r r' : R2} {f f' : D → D → Sto → Out D} (h : Does2 X T r f) (h' : Does2 X T r' f') : ∀ σ H Q, tD (zX X T) W (sChain f f' fa fb fc) σ H Q → tChain r r' (tD (zX X T) W fa) (tD (zX X T) W fb) (tD (zX X T) W fc) σ H Q := by
  rintro σ H Q ⟨g, ρ, st, S, E, q⟩
  refine ⟨g, ρ, st, S, E, Sat.mono (sat_bind q) (fun d st1 q1 g1 H1 v L1 S1 r1 => ?_) fun _ _ _ q => q⟩
  refine ⟨g1, ρ, st1, S1, E.mono L1.ge, Sat.mono (sat_bind q1) (fun d2 st2 q2 g2 H2 v2 L2 S2 r2 => ?_) fun _ _ _ q => q.mono L1⟩
  refine h W σ g2 st2 H2 d d2 v v2 _ S2 (r1.mono L2.ge) r2 (Sat.mono (sat_bind q2) (fun d3 st3 q3 g3 H3 v3 L3 S3 r3 => ?_) fun _ _ _ q => q.mono (L1.trans L2))
  cases d3 with
  | bl k =>
    cases r3
    refine ⟨k, rfl, ?_⟩
    cases k with
    | false => exact q3 g3 H3 _ ((L1.trans L2).trans L3) S3 (.bl _)
    | true =>
      refine ⟨g3, ρ, st3, S3, E.mono ((L1.trans L2).trans L3).ge, Sat.mono (sat_bind q3) (fun d4 st4 q4 g4 H4 v4 L4 S4 r4 => ?_) fun _ _ _ q => q.mono ((L1.trans L2).trans L3)⟩
      exact h' W σ g4 st4 H4 d2 d4 v2 v4 Q S4 (r2.mono (L3.trans L4).ge) r4 (EPost.mono (((L1.trans L2).trans L3).trans L4) q4)
  | _ => exact q3.elim
theorem pe_chainD {op op' : CmpOp} {r r' : R2} {f f' : D → D → Sto → Out D} (ho : OpR X (compareOp op) r) (ho' : OpR X (compareOp op') r') (h : Does2 X T r f) (h' : Does2 X T r' f') (ha : PE X a (tD (zX X T) W fa)) (hb : PE X b (tD (zX X T) W fb)) (hc : PE X c (tD (zX X T) W fc))
    (hm : lastMarks [op, op'] [b, c] = false := by with_unfolding_all rfl) : PE X (.Compare a [op, op'] [b, c] pos) (tD (zX X T) W (sChain f f' fa fb fc)) := PE.wk (pe_chain ho ho' ha hb hc hm) (wk_chain h h')
theorem pt_chainD {op op' : CmpOp} {r r' : R2} {f f' : D → D → Sto → Out D} (ho : OpR X (compareOp op) r) (ho' : OpR X (compareOp op') r') (h : Does2 X T r f) (h' : Does2 X T r' f') (ha : PE X a (tD (zX X T) W fa)) (hb : PE X b (tD (zX X T) W fb)) (hc : PE X c (tD (zX X T) W fc))
    (hm : lastMarks [op, op'] [b, c] = false := by with_unfolding_all rfl) : PT X (.Compare a [op, op'] [b, c] pos) (tDT (zX X T) W (tBl (sChain f f' fa fb fc))) := PT.wk (pt_chain ho ho' ha hb hc hm) (wkB (wk_chain h h'))

/-! ### arguments, displays -/
theorem pa_nilD : PA X [] (tDA (zX X T) W aNil) := PA.wk pa_nil fun σ H Q ⟨g, ρ, st, S, E, q⟩ => q g H [] (Le.refl g H) S .nil
theorem pa_consD (ha : PE X e (tD (zX X T) W fe)) (hr : PA X es (tDA (zX X T) W fs)) (hs : starEach (e :: es) X.env = (false, eval e X.env) :: starEach es X.env := by rfl) : PA X (e :: es) (tDA (zX X T) W (aCons fe fs)) :=
  PA.wk (pa_cons ha hr hs) fun σ H Q ⟨g, ρ, st, S, E, q⟩ => by
    refine ⟨g, ρ, st, S, E, Sat.mono (sat_bind q) (fun d st1 q1 g1 H1 v L1 S1 r1 => ?_) fun _ _ _ q => q⟩
    refine ⟨g1, ρ, st1, S1, E.mono L1.ge, Sat.mono (sat_bind q1) (fun ds st2 q2 g2 H2 vs L2 S2 r2 => ?_) fun _ _ _ q => q.mono L1⟩
    exact q2 g2 H2 (v :: vs) (L1.trans L2) S2 (.cons (r1.mono L2.ge) r2)
theorem pd_tup {x1 : Nat} (h : PA X es (tDA (zX X T) W fs)) : PE X (.Tuple es x1 pos) (tD (zX X T) W (sTup fs)) :=
  PE.wk (pe_tupN h) fun σ H Q ⟨g, ρ, st, S, E, q⟩ => by
    refine ⟨g, ρ, st, S, E, Sat.mono (sat_bind q) (fun ds st1 q1 g1 H1 vs L1 S1 r1 => ?_) fun _ _ _ q => q⟩
    split at q1
    · rename_i hz
      have hz' : vs.length ≤ sizeLine := by rw [← r1.length]; exact hz
      refine ⟨hz', fun p o hp ho => ?_⟩
      obtain ⟨S', L'⟩ := S1.allocB (o := .frz o (.tup vs)) hp (fun _ => by simp)
      exact q1 _ _ _ (L1.trans L') S' (.tup (SqN.of ho) hz' (r1.mono L'.ge))
    · exact q1.elim
theorem pd_lst (m : Bool) (h : PA X es (tDA (zX X T) W fs)) : PE X (.List es pos) (tD (zX X T) W (sLst m fs)) :=
  PE.wk (pe_lst h) fun σ H Q ⟨g, ρ, st, S, E, q⟩ => by
    refine ⟨g, ρ, st, S, E, Sat.mono (sat_bind q) (fun ds st1 q1 g1 H1 vs L1 S1 r1 => ?_) fun _ _ _ q => q⟩
    split at q1
    · rename_i hz
      have hz' : vs.length ≤ sizeLine := by rw [← r1.length]; exact hz
      exact ⟨hz', newL_ok (W := W) (σ := σ) S1 hz' r1 (EPost.mono L1 q1)⟩
    · exact q1.elim
theorem pd_dict0 : PE X (.Dict [] [] pos) (tD (zX X T) W sDict0) :=
  PE.wk pe_dnewK fun σ H Q ⟨g, ρ, st, S, E, q⟩ p hp => by
    obtain ⟨S', L'⟩ := S.allocB (o := .dK []) hp (fun _ => by simp)
    exact q _ _ _ L' S' (.dk (ks := []) (vs := []) upd_same rfl .nil)

/-! ### calls -/
/-- a built-in function of the arguments, by value -/
def DoesB (X : Cx) (T : List (Addr × Str)) (r : List V → Hp → VK → Prop) (f : List D → Sto → Out D) : Prop :=
  ∀ (W : WX) (σ : L2.St) (g : G) (st : Sto) (H : Hp) (ds : List D) (vs : List V) (Q : VK), Sim X.K T g st H → Reps X.K g ds vs → EPost (zX X T) W σ Q g H (f ds st) → r vs H Q
theorem wkCB {r : List V → Hp → VK → Prop} {f : List D → Sto → Out D} (h : DoesB X T r f) : ∀ σ H Q, tD (zX X T) W (sB f fs) σ H Q → tCB r (tDA (zX X T) W fs) σ H Q := by
  rintro σ H Q ⟨g, ρ, st, S, E, q⟩
  refine ⟨g, ρ, st, S, E, Sat.mono (sat_bind q) (fun ds st1 q1 g1 H1 vs L1 S1 r1 => ?_) fun _ _ _ q => q⟩
  exact h W σ g1 st1 H1 ds vs Q S1 r1 (EPost.mono L1 q1)
theorem pd_callB {id : String} {r : List V → Hp → VK → Prop} {f : List D → Sto → Out D} (hc : CallR X (.builtin id) r) (h : DoesB X T r f) (hg : Gl X x) (hm : X.mg x = none) (hv : bootBuiltins x = some (.builtin id)) (ha : PA X (e :: es) (tDA (zX X T) W fs)) (hn : x ≠ "__name__" := by decide) (hdb : (x == ("__debug__" : Str)) = false := by decide)
    (he : starEach (e :: es) X.env = (false, eval e X.env) :: starEach es X.env := by rfl) (hpl : (backTo pos (starEach es X.env)).any (·.1) = false := by rfl) : PE X (.Call (.Name x p) (e :: es) [] pos) (tD (zX X T) W (sB f fs)) :=
  PE.wk (pe_callB hc hg hm hv ha hn hdb he hpl) (wkCB h)
theorem pd_callT {id : String} {r : List V → Hp → VK → Prop} {f : List D → Sto → Out D} (hc : CallR X (.type id) r) (h : DoesB X T r f) (hg : Gl X x) (hm : X.mg x = none) (hv : bootBuiltins x = some (.type id)) (ha : PA X (e :: es) (tDA (zX X T) W fs)) (hn : x ≠ "__name__" := by decide) (hdb : (x == ("__debug__" : Str)) = false := by decide)
    (he : starEach (e :: es) X.env = (false, eval e X.env) :: starEach es X.env := by rfl) (hpl : (backTo pos (starEach es X.env)).any (·.1) = false := by rfl) : PE X (.Call (.Name x p) (e :: es) [] pos) (tD (zX X T) W (sB f fs)) :=
  PE.wk (pe_callTy hc hg hm hv ha hn hdb he hpl) (wkCB h)
theorem does_len : DoesB X T (fun xs H Q => ∃ p ys, xs = [.ref p] ∧ (SqL X.K H p ys ∨ SqT X.K H p ys) ∧ Q (.int ys.length) H) bLen := by
  intro W σ g st H ds vs Q S r h
  unfold bLen at h
  split at h
  · split at h
    · rename_i ys e
      cases r with
      | cons r1 r2 =>
        cases r2
        obtain ⟨a, ws, rfl, h1, h2, h3⟩ := S.items r1 e
        refine ⟨a, ws, rfl, h1, ?_⟩
        rw [← h3.length]
        exact EPost.val S (fun _ => .int _) h
    · exact h.elim
  · exact h.elim
theorem does_abs : DoesB X T (fun xs H Q => ∃ i, xs = [.int i] ∧ Q (.int (if i < 0 then -i else i)) H) bAbs := by
  intro W σ g st H ds vs Q S r h
  unfold bAbs at h
  split at h
  · cases r with
    | cons r1 r2 => cases r2; cases r1; exact ⟨_, rfl, EPost.val S (fun _ => .int _) h⟩
  · exact h.elim
theorem does_min2 : DoesB X T (fun xs H Q => ∃ i j, xs = [.int i, .int j] ∧ Q (.int (if j < i then j else i)) H) bMin2 := by
  intro W σ g st H ds vs Q S r h
  unfold bMin2 at h
  split at h
  · cases r with
    | cons r1 r2 => cases r2 with | cons r3 r4 => cases r4; cases r1; cases r3; exact ⟨_, _, rfl, EPost.val S (fun _ => .int _) h⟩
  · exact h.elim
theorem does_max2 : DoesB X T (fun xs H Q => ∃ i j, xs = [.int i, .int j] ∧ Q (.int (if j > i then j else i)) H) bMax2 := by
  intro W σ g st H ds vs Q S r h
  unfold bMax2 at h
  split at h
  · cases r with
    | cons r1 r2 => cases r2 with | cons r3 r4 => cases r4; cases r1; cases r3; exact ⟨_, _, rfl, EPost.val S (fun _ => .int _) h⟩
  · exact h.elim
theorem does_int : DoesB X T (fun xs H Q => (∃ i, xs = [.int i] ∧ Q (.int i) H) ∨ ∃ k, xs = [.bl k] ∧ Q (.int (if k then 1 else 0)) H) bInt := by
  intro W σ g st H ds vs Q S r h
  unfold bInt at h
  split at h
  · cases r with
    | cons r1 r2 => cases r2; cases r1; exact .inl ⟨_, rfl, EPost.val S (fun _ => .int _) h⟩
  · cases r with
    | cons r1 r2 => cases r2; cases r1; exact .inr ⟨_, rfl, EPost.val S (fun _ => .int _) h⟩
  · exact h.elim
theorem Sim.itemsL {K : PySem.W.Frag} {g : G} {st : Sto} {H : Hp} {d : D} {v : V} {xs : List D} (S : Sim K T g st H) (r : Rep K g d v) (e : PD.items st d = some xs) :
    d = .tup xs ∨ ∃ a vs, v = .ref a ∧ SqL K H a vs ∧ vs.length ≤ sizeLine ∧ Reps K g xs vs := by
  cases d with
  | tup ys => cases e; exact .inl rfl
  | lst ys =>
    obtain ⟨a, vs, h1, h2, h3, h4⟩ := S.litems (xs := xs) r e
    exact .inr ⟨a, vs, h1, SqL.of h2, h3, h4⟩
  | fz ys =>
    cases e
    cases r with
    | fz q l r => exact .inr ⟨_, _, rfl, sqL_mono S.sub q, l, r⟩
  | ref l =>
    obtain ⟨a, vs, h1, h2, h3, h4⟩ := S.litems (xs := xs) r e
    exact .inr ⟨a, vs, h1, SqL.of h2, h3, h4⟩
  | _ => cases e
theorem does_tuple : DoesB X T (fun xs H Q => ∃ p ys, xs = [.ref p] ∧ ((SqL X.K H p ys ∧ NewT Q H ys) ∨ (SqT X.K H p ys ∧ Q (.ref p) H))) bTuple := by
  intro W σ g st H ds vs Q S r h
  unfold bTuple at h
  split at h
  · rename_i d
    split at h
    · rename_i ys e
      cases r with
      | cons r1 r2 =>
        cases r2
        rcases S.itemsL r1 e with z | ⟨a, ws, rfl, h1, h2, h3⟩
        · subst z
          obtain ⟨a, ws, rfl, h1, h2, h3⟩ := S.tup r1
          exact ⟨a, ws, rfl, .inr ⟨h1, h g H _ (Le.refl g H) S r1⟩⟩
        · refine ⟨a, ws, rfl, .inl ⟨h1, fun l o hl ho => ?_⟩⟩
          obtain ⟨S', L'⟩ := S.allocB (o := .frz o (.tup ws)) hl (fun _ => by simp)
          exact h _ _ _ L' S' (.tup (SqN.of ho) h2 (h3.mono L'.ge))
    · exact h.elim
  · exact h.elim
theorem does_list (m : Bool) : DoesB X T (fun xs H Q => ∃ p ys, xs = [.ref p] ∧ (SqL X.K H p ys ∨ SqT X.K H p ys) ∧ ∀ l, H l = none → Q (.ref l) (upd H l (.lst ys))) (bList m) := by
  intro W σ g st H ds vs Q S r h
  unfold bList at h
  split at h
  · split at h
    · rename_i ys e
      cases r with
      | cons r1 r2 =>
        cases r2
        obtain ⟨a, ws, rfl, h1, h2, h3⟩ := S.items r1 e
        exact ⟨a, ws, rfl, h1, newL_ok S h2 h3 h⟩
    · exact h.elim
  · exact h.elim
theorem allBl_of {K : PySem.W.Frag} {g : G} : ∀ {ds : List D} {vs : List V} {bs : List Bool}, Reps K g ds vs → allBl ds = some bs → vs = bs.map V.bl
  | [], _, _, r, e => by cases r; cases e; rfl
  | d :: ds, _, bs, r, e => by
    cases r with
    | cons r1 r2 =>
      cases d with
      | bl b =>
        unfold allBl at e
        cases q : allBl ds with
        | none => rw [q] at e; cases e
        | some cs =>
          rw [q] at e; cases e
          cases r1
          rw [allBl_of r2 q]; rfl
      | _ => cases e
theorem allInt_of {K : PySem.W.Frag} {g : G} : ∀ {ds : List D} {vs : List V} {bs : List Int}, Reps K g ds vs → allInt ds = some bs → vs = bs.map V.int
  | [], _, _, r, e => by cases r; cases e; rfl
  | d :: ds, _, bs, r, e => by
    cases r with
    | cons r1 r2 =>
      cases d with
      | int b =>
        unfold allInt at e
        cases q : allInt ds with
        | none => rw [q] at e; cases e
        | some cs =>
          rw [q] at e; cases e
          cases r1
          rw [allInt_of r2 q]; rfl
      | _ => cases e
theorem does_all : DoesB X T (rAll X.K) bAll := by
  intro W σ g st H ds vs Q S r h
  unfold bAll at h
  split at h
  · split at h
    · rename_i bs e
      obtain ⟨ys, e1, e2⟩ := Option.bind_eq_some_iff.mp e
      cases r with
      | cons r1 r2 =>
        cases r2
        obtain ⟨a, ws, rfl, h1, h2, h3⟩ := S.litems r1 e1
        have ew := allBl_of h3 e2
        subst ew
        exact ⟨a, bs, rfl, SqL.of h1, EPost.val S (fun _ => .bl _) h⟩
    · exact h.elim
  · exact h.elim
theorem does_any : DoesB X T (rAny X.K) bAny := by
  intro W σ g st H ds vs Q S r h
  unfold bAny at h
  split at h
  · split at h
    · rename_i bs e
      obtain ⟨ys, e1, e2⟩ := Option.bind_eq_some_iff.mp e
      cases r with
      | cons r1 r2 =>
        cases r2
        obtain ⟨a, ws, rfl, h1, h2, h3⟩ := S.litems r1 e1
        have ew := allBl_of h3 e2
        subst ew
        exact ⟨a, bs, rfl, SqL.of h1, EPost.val S (fun _ => .bl _) h⟩
    · exact h.elim
  · exact h.elim
theorem does_sum : DoesB X T (rSum X.K) bSum := by
  intro W σ g st H ds vs Q S r h
  unfold bSum at h
  split at h
  · split at h
    · rename_i bs e
      obtain ⟨ys, e1, e2⟩ := Option.bind_eq_some_iff.mp e
      cases r with
      | cons r1 r2 =>
        cases r2
        obtain ⟨a, ws, rfl, h1, h2, h3⟩ := S.litems r1 e1
        have ew := allInt_of h3 e2
        subst ew
        exact ⟨a, bs, rfl, SqL.of h1, EPost.val S (fun _ => .int _) h⟩
    · exact h.elim
  · exact h.elim
/-! isinstance with a built-in class -/
def tyNm : TyN → String
  | .int => "int" | .bool => "bool" | .tuple => "tuple" | .list => "list" | .str => "str" | .dict => "dict"
theorem kt {K : PySem.W.Frag} {s t : String} {b : Bool} (h : kitB s t = some b) : PySem.W.kitOne K (.type s) (.type t) = some b := kit_ty h
theorem isTy_ok {K : PySem.W.Frag} {g : G} {st : Sto} {H : Hp} {d : D} {v : V} {t : TyN} {b : Bool} (S : Sim K T g st H) (r : Rep K g d v) (h : isTy t d = some b) : ∃ u, TyX K H v u ∧ PySem.W.kitOne K u (.type (tyNm t)) = some b := by
  have fin : ∀ {s : String}, TyX K H v (.type s) → kitB s (tyNm t) = some b → ∃ u, TyX K H v u ∧ PySem.W.kitOne K u (.type (tyNm t)) = some b := fun ty k => ⟨_, ty, kt k⟩
  cases d with
  | non => cases r; refine fin (.base .non) ?_; cases t <;> cases h <;> decide +kernel
  | bl k => cases r; refine fin (.base (.bl k)) ?_; cases t <;> cases h <;> decide +kernel
  | int k => cases r; refine fin (.base (.int k)) ?_; cases t <;> cases h <;> decide +kernel
  | str k => cases r; refine fin (.base (.str k)) ?_; cases t <;> cases h <;> decide +kernel
  | tup xs =>
    obtain ⟨a, vs, rfl, h1, h2, h3⟩ := S.tup r
    have ty : TyX K H (.ref a) (.type "tuple") := by
      rcases h1 with (h1 | ⟨o, h1⟩) | ⟨o, its, n, h1, h2, _⟩
      · exact .base (.tup h1)
      · exact .fTuple h1
      · exact .kTuple h1 h2
    refine fin ty ?_; cases t <;> cases h <;> decide +kernel
  | lst xs =>
    obtain ⟨a, vs, rfl, h1, h2, h3⟩ := S.litems (xs := xs) r rfl
    refine fin (.base (.lst h1)) ?_; cases t <;> cases h <;> decide +kernel
  | dk ks xs =>
    cases r with
    | dk e _ _ => refine fin (.base (.dK (S.sub _ _ e))) ?_; cases t <;> cases h <;> decide +kernel
  | _ => cases t <;> cases h
theorem pd_isI {t : TyN} {nm : Str} {p1 p2 : Pos} (hg : Gl X "isinstance") (hm : X.mg "isinstance" = none) (hg2 : Gl X nm) (hm2 : X.mg nm = none) (hv : bootBuiltins nm = some (.type (tyNm t))) (ha : PE X a (tD (zX X T) W fa)) (hn : nm ≠ "__name__" := by decide) (hd : (nm == ("__debug__" : Str)) = false := by decide)
    (he : starEach [a, .Name nm p1] X.env = (false, eval a X.env) :: starEach [.Name nm p1] X.env := by rfl) (hpl : (backTo pos (starEach [.Name nm p1] X.env)).any (·.1) = false := by rfl) (hs : starEach [.Name nm p1] X.env = (false, eval (.Name nm p1) X.env) :: starEach [] X.env := by rfl) :
    PE X (.Call (.Name "isinstance" p2) [a, .Name nm p1] [] pos) (tD (zX X T) W (sIsI t fa)) := by
  have hb : PE X (.Name nm p1) (tC (.ty (tyNm t))) := pe_bltn hg2 hm2 hv rfl hn hd
  refine PE.wk (pe_callB call_isi hg hm (by decide +kernel) (pa_cons ha (pa_cons hb pa_nil hs) he) (he := he) (hpl := hpl)) fun σ H Q ⟨g, ρ, st, S, E, q⟩ => ?_
  refine ⟨g, ρ, st, S, E, Sat.mono (sat_bind q) (fun d st1 q1 g1 H1 v L1 S1 r1 => ?_) fun _ _ _ q => q⟩
  split at q1
  · rename_i k hk
    obtain ⟨u, ty, kk⟩ := isTy_ok S1 r1 hk
    exact ⟨v, .ty (tyNm t), u, .type (tyNm t), k, rfl, .ty _, ty, kk, q1 g1 H1 _ L1 S1 (.bl k)⟩
  · exact q1.elim

/-! ### subscripts -/
theorem ix_eq (n : Nat) (i : Int) : L2.ixN n i = ixD n i := by
  unfold L2.ixN ixD
  by_cases h : 0 ≤ i
  · rw [if_pos h, if_pos h]
  · rw [if_neg h, if_neg h]
    by_cases h2 : 0 ≤ i + n
    · rw [if_pos h2, if_pos (by omega)]
    · rw [if_neg h2, if_neg (by omega)]
def rIxA (K : PySem.W.Frag) : R2 := fun x y H Q => rIxL K x y H Q ∨ rIxT K x y H Q
theorem ir_ix : IxR X (rIxA X.K) := ix_list.or ix_tup
theorem does_ix : Does2 X T (rIxA X.K) fIx := by
  intro W σ g st H dx dy x y Q S rx ry h
  unfold fIx at h
  split at h
  · rename_i xs i e
    split at h
    · rename_i j ej
      split at h
      · rename_i d ed
        obtain ⟨a, vs, rfl, h1, h2, h3⟩ := S.items rx e
        cases ry
        obtain ⟨v, ev, rv⟩ := h3.get ed
        have ha : atI vs i = some v := by
          unfold atI
          rw [← h3.length, ix_eq, ej]
          exact ev
        have hq : Q v H := h g H v (Le.refl g H) S rv
        rcases h1 with h1 | h1
        · exact .inl ⟨a, vs, i, v, rfl, rfl, h1, ha, hq⟩
        · exact .inr ⟨a, vs, i, v, rfl, rfl, h1, ha, hq⟩
      · exact h.elim
    · exact h.elim
  · exact h.elim
theorem pd_ix (ha : PE X a (tD (zX X T) W fa)) (hb : PE X b (tD (zX X T) W fb)) (hs : PlainIx b := by exact fun _ _ => rfl) : PE X (.Subscript a b pos) (tD (zX X T) W (s2 fIx fa fb)) :=
  PE.wk (pe_ix ir_ix ha hb hs) (wk2 does_ix)
/-! slices -/
abbrev SO := Ev → Sto → Out (Option Int)
def OPost (z : Z) (Q : Option Int → Hp → Prop) (g : G) (H : Hp) : Option Int → Sto → Prop := fun o st => ∀ g' H', Le g g' H H' → Sim z.K z.T g' st H' → Q o H'
def tDO (z : Z) (W : WX) (f : SO) : TO := fun σ H Q => ∃ g ρ st, Sim z.K z.T g st H ∧ EnvR z.K g σ ρ ∧ Sat (f ρ st) (OPost z Q g H) (XPost z W σ g H)
theorem PO.wk {o : Option Expr} {t t' : TO} (h : PO X o t) (k : ∀ σ H Q, t' σ H Q → t σ H Q) : PO X o t' := ⟨fun pins s σ H Q I q => h.run pins s σ H Q I (k σ H Q q)⟩
theorem po_noneD : PO X none (tDO (zX X T) W oNone) := PO.wk po_none fun σ H Q ⟨g, ρ, st, S, E, q⟩ => q g H (Le.refl g H) S
theorem po_someD (h : PE X e (tD (zX X T) W fe)) : PO X (some e) (tDO (zX X T) W (oInt fe)) := PO.wk (po_some h) fun σ H Q ⟨g, ρ, st, S, E, q⟩ => by
  refine ⟨g, ρ, st, S, E, Sat.mono (sat_bind q) (fun d st1 q1 g1 H1 v L1 S1 r1 => ?_) fun _ _ _ q => q⟩
  cases d with
  | int i => cases r1; exact ⟨i, rfl, q1 g1 H1 L1 S1⟩
  | _ => exact q1.elim
def rSlAny (K : PySem.W.Frag) : V → Option Int → Option Int → Hp → VK → Prop := fun x lo hi H Q => rSlL K x lo hi H Q ∨ rSlN K x lo hi H Q
theorem sr_any : SlR X (rSlAny X.K) := sl_list.or sl_tupN
theorem reps_cut {K : PySem.W.Frag} {g : G} {xs : List D} {vs : List V} (r : Reps K g xs vs) (lo hi : Option Int) : Reps K g (cutD xs lo hi) (cutV vs lo hi) := by
  unfold cutD cutV
  rw [r.length]
  exact (r.drop _).take _
theorem cut_len (vs : List V) (lo hi : Option Int) : (cutV vs lo hi).length ≤ vs.length := by
  unfold cutV
  rw [List.length_take, List.length_drop]; omega
theorem cut_all {xs : List D} {lo hi : Option Int} (h1 : HT.sIx xs.length 0 lo = 0) (h2 : HT.sIx xs.length xs.length hi = xs.length) : cutD xs lo hi = xs := by
  unfold cutD
  rw [h1, h2]; simp
theorem pd_slice {lo hi : Option Expr} {fl fh : SO} {p2 : Pos} (m : Bool) (he : PE X e (tD (zX X T) W fe)) (hl : PO X lo (tDO (zX X T) W fl)) (hh : PO X hi (tDO (zX X T) W fh)) : PE X (.Subscript e (.Slice lo hi none p2) pos) (tD (zX X T) W (sSlice m fe fl fh)) :=
  PE.wk (pe_slice sr_any he hl hh) fun σ H Q ⟨g, ρ, st, S, E, q⟩ => by
    refine ⟨g, ρ, st, S, E, Sat.mono (sat_bind q) (fun d st1 q1 g1 H1 v L1 S1 r1 => ?_) fun _ _ _ q => q⟩
    refine ⟨g1, ρ, st1, S1, E.mono L1.ge, Sat.mono (sat_bind q1) (fun i st2 q2 g2 H2 L2 S2 => ?_) fun _ _ _ q => q.mono L1⟩
    refine ⟨g2, ρ, st2, S2, E.mono (L1.trans L2).ge, Sat.mono (sat_bind q2) (fun j st3 q3 g3 H3 L3 S3 => ?_) fun _ _ _ q => q.mono (L1.trans L2)⟩
    have L := (L1.trans L2).trans L3
    have r3 := r1.mono (L2.trans L3).ge
    have q3' := EPost.mono L q3
    split at q3'
    · rename_i xs
      obtain ⟨a, vs, rfl, h1, h2, h3⟩ := S3.tup r3
      refine .inr ⟨a, vs, rfl, h1, fun ⟨z1, z2⟩ => ?_, fun z p o hp ho => ?_⟩
      · have e1 : cutD xs i j = xs := cut_all (by rw [h3.length]; exact z1) (by rw [h3.length]; exact z2)
        rw [e1] at q3'
        exact q3' g3 H3 _ (Le.refl _ _) S3 r3
      · obtain ⟨S', L'⟩ := S3.allocB (o := .frz o (.tup (cutV vs i j))) hp (fun _ => by simp)
        exact q3' _ _ _ L' S' (.tup (SqN.of ho) (Nat.le_trans (cut_len _ _ _) h2) ((reps_cut h3 i j).mono L'.ge))
    · rename_i xs
      cases r3 with
      | fz k1 k2 k3 => exact .inl ⟨_, _, rfl, sqL_mono S3.sub k1, newL_ok (W := W) (σ := σ) S3 (Nat.le_trans (cut_len _ _ _) k2) (reps_cut k3 i j) q3'⟩
    · split at q3'
      · rename_i xs e
        obtain ⟨a, vs, rfl, h1, h2, h3⟩ := S3.litems r3 e
        exact .inl ⟨a, vs, rfl, SqL.of h1, newL_ok (W := W) (σ := σ) S3 (Nat.le_trans (cut_len _ _ _) h2) (reps_cut h3 i j) q3'⟩
      · exact q3'.elim
end
end PD
/-! PDRules3: what is walked, comprehensions, statements, defs. -/
namespace PySem
open Sem (wp)
/-! enumerate(v), v told by how its iterator begins (one argument) -/
set_option maxHeartbeats 1000000 in
theorem pd_meets_enum {v : Value} {o : Obj} {H : Heap → Prop} (B : Begins v o H) :
    Meets (Builtin.«enumerate.__new__» ⟨[.type "enumerate", v], []⟩) (fun _ R s => H s.heap ∧ R (.ok (.ret (.ref (s.heap.push o).objs.size)))
        { s with heap := (s.heap.push o).push { cls := .type "enumerate", data := .fields #[.none, .bool false, .ref s.heap.objs.size, rawInt 0, .none, .none] } }) := by
  refine .of_wp fun prog w A R s h => ?_
  obtain ⟨hp, g, d, tk, os⟩ := s
  obtain ⟨h1, h⟩ := h
  have hsub := sub_enumerate
  have q1 : ∀ {A' : Around} {E : Value → Shared → Prop} {Q : Value → Shared → Prop}, Q (.ref hp.objs.size) ⟨hp.push o, g, d, tk, os⟩ → wpAny (model prog w) A' (pyIter v) Q E ⟨hp, g, d, tk, os⟩ := fun q => B.iter prog w _ _ ⟨hp, g, d, tk, os⟩ _ h1 q
  wp_walk using q1
  refine wpAny_stack_any fun st => wpAny_pure ?_
  split
  · rename_i c _ _ _ _ _
    cases (c == Value.type "enumerate") <;> (wp_walk using q1; exact ⟨_, rfl, h⟩)
  · wp_walk using q1
    exact ⟨_, rfl, h⟩
theorem pd_call_enum {prog : Program} {w : World} {A : Around} {E : Value → Shared → Prop} {s : Shared} {v : Value} {o : Obj} {H : Heap → Prop} {Q : Value → Shared → Prop} (B : Begins v o H) (h1 : H s.heap)
    (h : ∀ h', IsEnum h' (s.heap.objs.size + 1) s.heap.objs.size 0 .none → h'.get? s.heap.objs.size = some o → (∀ b ob, s.heap.get? b = some ob → h'.get? b = some ob) → Q (.ref (s.heap.objs.size + 1)) { s with heap := h' }) :
    wpAny (model prog w) A (call (.type "enumerate") [v]) Q E s := by
  refine callType_new F.called_enumerate (by decide) (F.typeCall_enumerate_1 _) (F.newCall_enumerate_1 _) (fun obj => F.args_object_init_2 obj _) F.entry_enumerate_new (pd_meets_enum B) ⟨h1, ?_⟩
  have hz : (s.heap.push o).objs.size = s.heap.objs.size + 1 := Heap.size_push ..
  show _ ∧ _
  rw [hz]
  have he := Heap.get?_push_size (s.heap.push o) (o := { cls := .type "enumerate", data := .fields #[.none, .bool false, .ref s.heap.objs.size, rawInt 0, .none, .none] }) rfl
  rw [hz] at he
  exact ⟨⟨_, he, rfl⟩, h _ he (Heap.get?_push_of_some _ (Heap.get?_push_size _ B.free)) fun b ob x => Heap.get?_push_of_some _ (Heap.get?_push_of_some _ x)⟩
end PySem
namespace PD
open PySem PySem.Spec PyProof.Rows L2
/-- enumerate of a tuple: new pairs -/
def IteT (K : PySem.W.Frag) (a : Addr) : It :=
  ⟨fun i H => ∃ (xs : List V) (x : V), SqT K H a xs ∧ xs[i]? = some x, fun i H v H' => ∃ Tp x, v = .ref Tp ∧ H Tp = none ∧ H' = upd H Tp (.tup [.int (i : Nat), x]) ∧ ∀ xs, SqT K H a xs → xs[i]? = some x, fun i H => ∃ xs : List V, SqT K H a xs ∧ xs.length = i⟩
theorem turn_enumT {P : Program} {w : World} {K : PySem.W.Frag} {elts : List Expr} {kk : Nat} {tpos : Pos} (a e it : Addr) :
    Turn P w K (.Tuple elts kk tpos) (IteT K a) [e, it] e (fun i h => (∃ old, IsEnum h e it ((i : Nat) : Int) old) ∧ h.IsTupleIter it a i ∧ e ≠ it ∧ a ≠ it) where
  mem := by simp
  obj := fun i h st b hb => by
    obtain ⟨⟨old, he⟩, ⟨o, ho, hc, hd⟩, _⟩ := st
    rcases List.mem_cons.mp hb with z | hb
    · rw [z]; exact ⟨_, he, fun v q => nomatch q⟩
    · rw [List.mem_singleton.mp hb]; exact ⟨o, ho, fun v q => by rw [hd] at q; cases q⟩
  keep := fun i h h' st k => by
    obtain ⟨⟨old, he⟩, hi, hne⟩ := st
    exact ⟨⟨old, k e (by simp) _ he⟩, hi.at fun o q => k it (by simp) o q, hne⟩
  item := by
    intro X hP hw hK hc i pins s σ H E I hf st hg
    subst hP hw hK
    obtain ⟨⟨old, he⟩, hit, hne, hna⟩ := st
    obtain ⟨xs, x, hq, hx⟩ := hg
    obtain ⟨its, rv, p, hz⟩ := I.tuple hq
    obtain ⟨u, hu, ru⟩ := rv.get hx
    have hel : e < s.heap.objs.size := Heap.lt_size he
    have hil : it < s.heap.objs.size := by
      obtain ⟨_, q, _⟩ := hit
      exact Heap.lt_size q
    have hlt : i < its.toArray.size := by
      have := (List.getElem?_eq_some_iff.mp hu).1
      simpa using this
    have hea : e ≠ a := fun z => by
      obtain ⟨o, ho, hcl, _⟩ := p
      rw [← z, he] at ho
      cases ho
      have q : Value.type "enumerate" = Value.type "tuple" := hcl
      injection q with q
      exact absurd q (by decide)
    refine wpAny_pyNext_enum_itemD (D := Draws.tuple (A := X.A.in1) (I.ok.hd hc) it a hna its.toArray) he ⟨hit, p⟩ hlt hne (by simp [hne, hea]) fun v h' tk hP' ho hst' hT hsz hk => ?_
    have ev : v = u := by
      have h2 : its.toArray[i]? = some u := by simpa using hu
      exact Option.some.inj (hP'.symm.trans h2)
    subst ev
    refine ⟨_, rfl, wpAny_letOwnedTupleGo_enum (s := { s with heap := h', toks := tk + 1 }) ho fun h'' he' sb => ?_⟩
    have hT2 : h''.get? s.heap.objs.size = some { cls := .type "tuple", data := .seq #[.int i tk, v] } := (sb.2 _ (Nat.ne_of_gt hel)).trans hT
    have nw : ObjOk X.prog X.w (upd H s.heap.objs.size (.tup [.int (i : Nat), x])) h'' s.heap.objs.size (.tup [.int (i : Nat), x]) := by
      refine ⟨by show 2 ≤ sizeLine; decide, [.int i tk, v], .cons ⟨_, rfl⟩ (.cons ru .nil), ⟨_, hT2, rfl, _, rfl⟩⟩
    have kp : ∀ b ob, b ∉ [e, it] → s.heap.get? b = some ob → h''.get? b = some ob := fun b ob hb q =>
      (sb.2 b fun z => hb (by simp [z])).trans (hk b ob (fun z => hb (by simp [z])) (fun z => hb (by simp [z])) q)
    have I1 := I.turnedNew (t' := tk + 1) (ch := [e, it]) kp hf (Nat.le_refl _) nw
    refine ⟨.ref s.heap.objs.size, _, I1, rfl, ⟨_, x, rfl, I.hok.fresh (Nat.le_refl _), rfl, fun ys hy => by rw [I.tuple_inj hy hq]; exact hx⟩, ⟨⟨v, ?_⟩, hst'.1.at fun o q => (sb.2 it (Ne.symm hne)).trans q, hne, hna⟩, fun b hb => ?_⟩
    · rw [show ((i + 1 : Nat) : Int) = (i : Int) + 1 by omega]
      exact he'
    · have hb' : b < s.heap.objs.size := by
        rcases List.mem_cons.mp hb with z | hb
        · rw [z]; exact hel
        · rw [List.mem_singleton.mp hb]; exact hil
      rw [upd_ne (Nat.ne_of_lt hb')]
      exact (hf b hb).1
  done := by
    intro X hP hw hK hc i pins s σ H E I hf st hg
    subst hP hw hK
    obtain ⟨⟨old, he⟩, hit, hne, hna⟩ := st
    obtain ⟨xs, hq, hx⟩ := hg
    obtain ⟨its, rv, p, hz⟩ := I.tuple hq
    obtain ⟨f0, f1, f2, f3, f4, f5⟩ := hf it (by simp)
    have hl := rv.length
    have e1 : i = its.toArray.size := by
      rw [List.size_toArray, ← hl]; exact hx.symm
    subst e1
    exact wpAny_pyNext_enum_endD (D := Draws.tuple (A := X.A.in1) (I.ok.hd hc) it a hna its.toArray) he ⟨hit, p⟩ fun h' eb => ⟨rfl, I.turned (t' := s.toks) (fun b o hb q => eb b o hb q) f0 f1 f3 f4 f5⟩
  self := fun A i s Q E st h => by
    obtain ⟨⟨_, he⟩, _⟩ := st
    exact wpAny_pyIter_enum he h

section
variable {X : Cx} {T : List (Addr × Str)} {W : WX} {a b c e e2 : Expr} {es : List Expr} {fa fb fc fe : SE} {fs : SA} {ft fu : ST} {pos p tpos : Pos} {x : Str} {tg : Expr} {elts : List Expr} {kk : Nat}
def iEnumA (K : PySem.W.Frag) (ta : TA) : TI := fun σ H R => ta σ H fun vs H1 => ∃ a xs, vs = [.ref a] ∧ ((SqL K H1 a xs ∧ R (Ite K a) H1) ∨ (SqT K H1 a xs ∧ R (IteT K a) H1))
theorem pi_enumA {ta : TA} (hg : Gl X "enumerate") (hm : X.mg "enumerate" = none) (ha : PA X [e] ta) (hs : starEach [e] X.env = [(false, eval e X.env)] := by rfl) : PI X (.Tuple elts kk tpos) (.Call (.Name "enumerate" p) [e] [] pos) (iEnumA X.K ta) := by
  refine ⟨fun pins s σ H R I h => ?_⟩
  refine Call_ (ld_blt I hg hm boot_enumerate (PyProof.Rows.callWith_type1 (thn (ha.run pos pins s σ H _ I h) fun us s1 ⟨vs, H1, I1, r1, q1⟩ => ?_) hs rfl))
  obtain ⟨a, xs, ex, q⟩ := q1
  subst ex
  cases r1 with
  | cons r rr =>
    cases rr
    cases r
    have fp : ∀ b ∈ [s1.heap.objs.size + 1, s1.heap.objs.size], FpOk X pins H1 b := fun b hb => by
      have hle : s1.heap.objs.size ≤ b := by
        rcases List.mem_cons.mp hb with z | hb
        · rw [z]; exact Nat.le_add_right _ _
        · rw [List.mem_singleton.mp hb]; exact Nat.le_refl _
      exact I1.fpOk hle (I1.hok.fresh hle)
    rcases q with ⟨hq, q⟩ | ⟨hq, q⟩
    · obtain ⟨its, rv, p', hz⟩ := I1.list hq
      refine pd_call_enum (begins_list a its.toArray) p'.isList fun h' he hit hk => wpAny_pyIter_enum he ?_
      exact ⟨s1.heap.objs.size + 1, _, _, _, H1, rfl, I1.kept (t' := s1.toks) hk, turn_enum a (s1.heap.objs.size + 1) s1.heap.objs.size, ⟨⟨.none, he⟩, ⟨_, hit, rfl, rfl⟩, Nat.succ_ne_self _⟩, fp, q⟩
    · obtain ⟨its, rv, p', hz⟩ := I1.tuple hq
      refine pd_call_enum (begins_tuple a its.toArray) p' fun h' he hit hk => wpAny_pyIter_enum he ?_
      have hal : a < s1.heap.objs.size := by
        obtain ⟨o, ho, _⟩ := p'
        exact Heap.lt_size ho
      exact ⟨s1.heap.objs.size + 1, _, _, _, H1, rfl, I1.kept (t' := s1.toks) hk, turn_enumT a (s1.heap.objs.size + 1) s1.heap.objs.size, ⟨⟨.none, he⟩, ⟨_, hit, rfl, rfl⟩, Nat.succ_ne_self _, Nat.ne_of_lt hal⟩, fp, q⟩

/-! ### what is walked -/
theorem walkD_of {z : Z} {g : G} {J : It} {ds : List D} {vs : List V} (r : Reps z.K g ds vs)
    (go : ∀ g2 H2 st2 i v, Ge g g2 → Sim z.K z.T g2 st2 H2 → vs[i]? = some v → J.go i H2 ∧ ∀ x H3, J.yld i H2 x H3 → H3 = H2 ∧ x = v)
    (stop : ∀ g2 H2 st2, Ge g g2 → Sim z.K z.T g2 st2 H2 → J.stop vs.length H2) : WalkD z g J ds none where
  go := fun g2 H2 st2 i d0 d q S e1 e2 => by
    cases e2
    obtain ⟨v, ev, rv⟩ := r.get e1
    obtain ⟨h1, h2⟩ := go g2 H2 st2 i v q S ev
    refine ⟨h1, fun x H3 y => ?_⟩
    obtain ⟨rfl, rfl⟩ := h2 x H3 y
    exact ⟨g2, Le.refl _ _, S, rv.mono q⟩
  stop := fun g2 H2 st2 q S _ => by rw [r.length]; exact stop g2 H2 st2 q S
def iSeqA (K : PySem.W.Frag) (tl : TE) : TI := fun σ H R => tl σ H fun x H1 => ∃ a, x = .ref a ∧ (((∃ xs, SqL K H1 a xs) ∧ R (Itl K a) H1) ∨ ((∃ xs, SqT K H1 a xs) ∧ R (Itt K a) H1))
theorem pi_seqA {te : TE} (h : PE X e te) : PI X tg e (iSeqA X.K te) := by
  refine ⟨fun pins s σ H R I q => ?_⟩
  refine thn (h.run pins s σ H _ I q) fun v s1 ⟨x, H1, I1, r1, q1⟩ => ?_
  obtain ⟨a, ex, q1⟩ := q1
  subst ex
  cases r1
  have fp : ∀ b ∈ [s1.heap.objs.size], FpOk X pins H1 b := fun b hb => by
    rw [List.mem_singleton.mp hb]; exact I1.fpOk (Nat.le_refl _) (I1.hok.fresh (Nat.le_refl _))
  rcases q1 with ⟨⟨xs, hq⟩, q1⟩ | ⟨⟨xs, hq⟩, q1⟩
  · obtain ⟨its, rv, p, hz⟩ := I1.list hq
    refine wpAny_pyIter_list p.isList ?_
    exact ⟨_, _, _, _, H1, rfl, I1.kept (t' := s1.toks) fun b o e => Heap.get?_push_of_some _ e, turn_list a _, ⟨_, Heap.get?_push_size _ rfl, rfl, rfl⟩, fp, q1⟩
  · obtain ⟨its, rv, p, hz⟩ := I1.tuple hq
    refine wpAny_pyIter_tuple (show s1.heap.IsTuple a its.toArray from p) ?_
    exact ⟨_, _, _, _, H1, rfl, I1.kept (t' := s1.toks) fun b o e => Heap.get?_push_of_some _ e, turn_tuple a _, ⟨_, Heap.get?_push_size _ rfl, rfl, rfl⟩, fp, q1⟩
theorem sqL_inj {K : PySem.W.Frag} {H : Hp} {a : Addr} {xs ys : List V} (h : H a = some (.lst xs)) (h' : SqL K H a ys) (hk : K.lookup a = none) : xs = ys := by
  rcases h' with (h' | ⟨o, h'⟩) | ⟨o, its, n, h', _⟩
  · rw [h] at h'; cases h'; rfl
  · rw [h] at h'; cases h'
  · rw [hk] at h'; cases h'
end
end PD
/-! PDRules4: what is walked over the data; comprehensions; loops. -/
namespace PD
open PySem PySem.Spec PyProof.Rows L2
section
variable {X : Cx} {T : List (Addr × Str)} {W : WX} {a b c e e2 elt iter : Expr} {es ifs : List Expr} {fa fb fc fe : SE} {fs : SA} {ft fu : ST} {fi : SI} {pos p tpos : Pos} {x : Str} {tg : Expr} {elts : List Expr} {kk : Nat}

theorem walkD_ref {z : Z} {g : G} {l : Nat} {a : Addr} {xs : List D} (hl : g.ι[l]? = some a) : WalkD z g (Itl z.K a) xs (some (.inl l)) where
  go := fun g2 H2 st2 i d0 d q S e1 e2 => by
    unfold fetch at e2
    dsimp only at e2
    split at e2
    · rename_i ys hs
      obtain ⟨vs, h1, h2, h3, h4⟩ := S.obj l a _ (q.i _ _ hl) hs
      obtain ⟨v, ev, rv⟩ := h4.get e2
      refine ⟨⟨vs, v, SqL.of h2, ev⟩, fun x H3 y => ?_⟩
      obtain ⟨rfl, hy⟩ := y
      have : x = v := Option.some.inj ((hy vs (SqL.of h2)).symm.trans ev)
      subst this
      exact ⟨g2, Le.refl _ _, S, rv⟩
    · cases e2
  stop := fun g2 H2 st2 q S hf => by
    unfold finOk at hf
    dsimp only at hf
    split at hf
    · rename_i ys hs
      obtain ⟨vs, h1, h2, h3, h4⟩ := S.obj l a _ (q.i _ _ hl) hs
      refine ⟨vs, SqL.of h2, ?_⟩
      rw [← h4.length, beq_iff_eq.mp hf]; exact Nat.le_refl _
    · cases hf
theorem walkD_list {z : Z} {g : G} {a : Addr} {xs : List D} {vs : List V} (h : SqL z.K g.B a vs) (r : Reps z.K g xs vs) : WalkD z g (Itl z.K a) xs none :=
  walkD_of r (fun g2 H2 st2 i v q S ev => by
    have h2 : SqL z.K H2 a vs := sqL_mono S.sub (sqL_mono q.b h)
    exact ⟨⟨vs, v, h2, ev⟩, fun x H3 y => ⟨y.1, Option.some.inj ((y.2 vs h2).symm.trans ev)⟩⟩)
    fun g2 H2 st2 q S => ⟨vs, sqL_mono S.sub (sqL_mono q.b h), Nat.le_refl _⟩
theorem walkD_tup {z : Z} {g : G} {a : Addr} {xs : List D} {vs : List V} (h : SqT z.K g.B a vs) (r : Reps z.K g xs vs) : WalkD z g (Itt z.K a) xs none :=
  walkD_of r (fun g2 H2 st2 i v q S ev => by
    have h2 : SqT z.K H2 a vs := sqT_mono S.sub (sqT_mono q.b h)
    exact ⟨⟨vs, v, h2, ev⟩, fun x H3 y => ⟨y.1, Option.some.inj ((y.2 vs h2).symm.trans ev)⟩⟩)
    fun g2 H2 st2 q S => ⟨vs, sqT_mono S.sub (sqT_mono q.b h), Nat.le_refl _⟩
theorem pi_seqD (h : PE X e (tD (zX X T) W fe)) : PI X tg e (tDI (zX X T) W (iSeq fe)) :=
  PI.wk (pi_seqA h) fun σ H R ⟨g, ρ, st, S, E, q⟩ => by
    refine ⟨g, ρ, st, S, E, Sat.mono (sat_bind q) (fun d st1 q1 g1 H1 v L1 S1 r1 => ?_) fun _ _ _ q => q⟩
    split at q1
    · rename_i xs e1
      cases d with
      | tup ys =>
        cases e1
        cases r1 with
        | tup k1 k2 k3 => exact ⟨_, rfl, .inr ⟨⟨_, sqT_mono S1.sub k1.t⟩, q1 g1 H1 _ L1 S1 (walkD_tup k1.t k3)⟩⟩
      | lst ys =>
        cases e1
        cases r1 with
        | lst k1 k2 k3 => exact ⟨_, rfl, .inl ⟨⟨_, SqL.of (S1.sub _ _ k1)⟩, q1 g1 H1 _ L1 S1 (walkD_list (SqL.of k1) k3)⟩⟩
      | fz ys =>
        cases e1
        cases r1 with
        | fz k1 k2 k3 => exact ⟨_, rfl, .inl ⟨⟨_, sqL_mono S1.sub k1⟩, q1 g1 H1 _ L1 S1 (walkD_list k1 k3)⟩⟩
      | ref l =>
        obtain ⟨a, vs, ea, h2, _, _⟩ := S1.litems (xs := xs) r1 e1
        cases r1 with
        | ref hl => exact ⟨_, rfl, .inl ⟨⟨_, SqL.of (by cases ea; exact h2)⟩, q1 g1 H1 _ L1 S1 (walkD_ref hl)⟩⟩
      | _ => cases e1
    · exact q1.elim
theorem reps_range (K : PySem.W.Frag) (g : G) (lo : Int) : ∀ (n k : Nat), Reps K g ((List.range' k n).map fun (i : Nat) => D.int (lo + (i : Int))) ((List.range' k n).map fun (i : Nat) => V.int (lo + (i : Int)))
  | 0, k => .nil
  | n + 1, k => by
    rw [List.range'_succ]
    exact .cons (.int _) (reps_range K g lo n (k + 1))
theorem walkD_range {z : Z} {g : G} (lo : Int) (n : Nat) : WalkD z g (Itr lo n) (rangeL lo n) none where
  go := fun g2 H2 st2 i d0 d q S e1 e2 => by
    cases e2
    unfold rangeL at e1
    rw [List.getElem?_map] at e1
    have hi : i < n := by
      cases q : (List.range n)[i]? with
      | none => rw [q] at e1; cases e1
      | some j => have := (List.getElem?_eq_some_iff.mp q).1; simpa using this
    have ed : d0 = .int (lo + i) := by
      rw [List.getElem?_range hi] at e1
      exact (Option.some.inj e1).symm
    subst ed
    refine ⟨hi, fun x H3 y => ?_⟩
    obtain ⟨rfl, rfl⟩ := y
    exact ⟨g2, Le.refl _ _, S, .int _⟩
  stop := fun g2 H2 st2 q S _ => by show n ≤ (rangeL lo n).length; unfold rangeL; simp
theorem bd62a {j : Int} (h : -1000000 ≤ j) : -(2 ^ 62) ≤ j := Int.le_trans (by decide +kernel) h
theorem bd62b {j : Int} (h : j ≤ 1000000) : j < 2 ^ 62 := Int.lt_of_le_of_lt h (by decide +kernel)
theorem pi_rangeD1 (hg : Gl X "range") (hm : X.mg "range" = none) (ha : PA X [a] (tDA (zX X T) W fs)) (hs : starEach [a] X.env = [(false, eval a X.env)] := by rfl) : PI X tg (.Call (.Name "range" p) [a] [] pos) (tDI (zX X T) W (iRange1 fs)) :=
  PI.wk (pi_range1 hg hm ha hs) fun σ H R ⟨g, ρ, st, S, E, q⟩ => by
    refine ⟨g, ρ, st, S, E, Sat.mono (sat_bind q) (fun ds st1 q1 g1 H1 vs L1 S1 r1 => ?_) fun _ _ _ q => q⟩
    split at q1
    · split at q1
      · rename_i hj
        cases r1 with
        | cons r1 r2 => cases r2; cases r1; exact ⟨_, rfl, bd62a hj.1, bd62b hj.2, q1 g1 H1 _ L1 S1 (walkD_range 0 _)⟩
      · exact q1.elim
    · exact q1.elim
theorem pi_rangeD2 (hg : Gl X "range") (hm : X.mg "range" = none) (ha : PA X [a, b] (tDA (zX X T) W fs)) (hs : starEach [a, b] X.env = [(false, eval a X.env), (false, eval b X.env)] := by rfl) (hs2 : starEach [b] X.env = [(false, eval b X.env)] := by rfl) : PI X tg (.Call (.Name "range" p) [a, b] [] pos) (tDI (zX X T) W (iRange2 fs)) :=
  PI.wk (pi_range2 hg hm ha hs hs2) fun σ H R ⟨g, ρ, st, S, E, q⟩ => by
    refine ⟨g, ρ, st, S, E, Sat.mono (sat_bind q) (fun ds st1 q1 g1 H1 vs L1 S1 r1 => ?_) fun _ _ _ q => q⟩
    split at q1
    · split at q1
      · rename_i hj
        cases r1 with
        | cons r1 r2 => cases r2 with | cons r2 r3 => cases r3; cases r1; cases r2; exact ⟨_, _, rfl, ⟨bd62a hj.1, bd62b hj.2.1, bd62a hj.2.2.1, bd62b hj.2.2.2⟩, q1 g1 H1 _ L1 S1 (walkD_range _ _)⟩
      · exact q1.elim
    · exact q1.elim
/-- new pairs -/
theorem walkD_pair {z : Z} {g : G} {J : It} {ds xs ys : List D} {vs ws : List V} (rx : Reps z.K g xs vs) (ry : Reps z.K g ys ws) (hd : ∀ (i : Nat) d, ds[i]? = some d → ∃ dx dy, xs[i]? = some dx ∧ ys[i]? = some dy ∧ d = .tpl [dx, dy])
    (go : ∀ g2 H2 st2 (i : Nat) v w, Ge g g2 → Sim z.K z.T g2 st2 H2 → vs[i]? = some v → ws[i]? = some w → J.go i H2 ∧ ∀ x H3, J.yld i H2 x H3 → ∃ Tp, x = .ref Tp ∧ H2 Tp = none ∧ H3 = upd H2 Tp (.tup [v, w]))
    (stop : ∀ g2 H2 st2, Ge g g2 → Sim z.K z.T g2 st2 H2 → J.stop ds.length H2) : WalkD z g J ds none where
  go := fun g2 H2 st2 i d0 d q S e1 e2 => by
    cases e2
    obtain ⟨dx, dy, ex, ey, rfl⟩ := hd i d0 e1
    obtain ⟨v, ev, rv⟩ := rx.get ex
    obtain ⟨w, ew, rw'⟩ := ry.get ey
    obtain ⟨h1, h2⟩ := go g2 H2 st2 i v w q S ev ew
    refine ⟨h1, fun x H3 y => ?_⟩
    obtain ⟨Tp, rfl, hT, rfl⟩ := h2 x H3 y
    obtain ⟨S', L'⟩ := S.allocB (o := .tup [v, w]) hT (fun _ => by simp)
    exact ⟨_, L', S', .tpl (SqT.of upd_same) (by show 2 ≤ sizeLine; decide) (.cons ((rv.mono q).mono L'.ge) (.cons ((rw'.mono q).mono L'.ge) .nil))⟩
  stop := fun g2 H2 st2 q S _ => stop g2 H2 st2 q S
theorem zipD_get : ∀ {xs ys : List D} {i : Nat} {d : D}, (zipD xs ys)[i]? = some d → ∃ dx dy, xs[i]? = some dx ∧ ys[i]? = some dy ∧ d = .tpl [dx, dy]
  | x :: xs, y :: ys, 0, d, h => by cases h; exact ⟨x, y, rfl, rfl, rfl⟩
  | x :: xs, y :: ys, i + 1, d, h => by
    obtain ⟨dx, dy, h1, h2, h3⟩ := zipD_get (xs := xs) (ys := ys) (i := i) (by simpa [zipD] using h)
    exact ⟨dx, dy, by simpa using h1, by simpa using h2, h3⟩
  | [], _, _, _, h => by simp [zipD] at h
  | _ :: _, [], _, _, h => by simp [zipD] at h
theorem zipD_len : ∀ (xs ys : List D), (zipD xs ys).length = min xs.length ys.length
  | x :: xs, y :: ys => by
    show (zipD xs ys).length + 1 = _
    rw [zipD_len xs ys, List.length_cons, List.length_cons]; omega
  | [], ys => by cases ys <;> simp [zipD]
  | _ :: _, [] => by simp [zipD]
theorem pi_zipD (hg : Gl X "zip") (hm : X.mg "zip" = none) (ha : PA X [e, e2] (tDA (zX X T) W fs)) (hs : starEach [e, e2] X.env = (false, eval e X.env) :: starEach [e2] X.env := by rfl) (hpl : (backTo pos (starEach [e2] X.env)).any (·.1) = false := by rfl) :
    PI X (.Tuple elts kk tpos) (.Call (.Name "zip" p) [e, e2] [] pos) (tDI (zX X T) W (iZip fs)) :=
  PI.wk (RZ.pi_zipA hg hm ha hs hpl) fun σ H R ⟨g, ρ, st, S, E, q⟩ => by
    refine ⟨g, ρ, st, S, E, Sat.mono (sat_bind q) (fun ds st1 q1 g1 H1 vs L1 S1 r1 => ?_) fun _ _ _ q => q⟩
    split at q1
    · rename_i xs ys
      cases r1 with
      | cons r1 r2 => cases r2 with
        | cons r2 r3 =>
          cases r3
          cases r1 with
          | tup a1 a2 a3 => cases r2 with
            | tup b1 b2 b3 =>
              refine ⟨_, _, _, _, rfl, .inr ⟨sqT_mono S1.sub a1.t, sqT_mono S1.sub b1.t, q1 g1 H1 _ L1 S1 ?_⟩⟩
              refine walkD_pair a3 b3 (fun i d h => zipD_get h) (fun g2 H2 st2 i v w q S ev ew => ?_) fun g2 H2 st2 q S => ?_
              · have h1 := sqT_mono S.sub (sqT_mono q.b a1.t)
                have h2 := sqT_mono S.sub (sqT_mono q.b b1.t)
                refine ⟨⟨_, _, v, w, h1, h2, ev, ew⟩, fun x H3 y => ?_⟩
                obtain ⟨Tp, x1, x2, rfl, hT, rfl, y1, y2⟩ := y
                have e1 := Option.some.inj ((y1 _ h1).symm.trans ev)
                have e2 := Option.some.inj ((y2 _ h2).symm.trans ew)
                subst e1 e2
                exact ⟨Tp, rfl, hT, rfl⟩
              · refine ⟨_, _, sqT_mono S.sub (sqT_mono q.b a1.t), sqT_mono S.sub (sqT_mono q.b b1.t), ?_⟩
                show _ ≤ (zipD xs ys).length ∨ _ ≤ (zipD xs ys).length
                rw [zipD_len, a3.length, b3.length]; omega
    · rename_i xs ys
      cases r1 with
      | cons r1 r2 => cases r2 with
        | cons r2 r3 =>
          cases r3
          cases r1 with
          | lst a1 a2 a3 => cases r2 with
            | lst b1 b2 b3 =>
              refine ⟨_, _, _, _, rfl, .inl ⟨SqL.of (S1.sub _ _ a1), SqL.of (S1.sub _ _ b1), q1 g1 H1 _ L1 S1 ?_⟩⟩
              refine walkD_pair a3 b3 (fun i d h => zipD_get h) (fun g2 H2 st2 i v w q S ev ew => ?_) fun g2 H2 st2 q S => ?_
              · have h1 : SqL X.K H2 _ _ := SqL.of (S.sub _ _ (q.b _ _ a1))
                have h2 : SqL X.K H2 _ _ := SqL.of (S.sub _ _ (q.b _ _ b1))
                refine ⟨⟨_, _, v, w, h1, h2, ev, ew⟩, fun x H3 y => ?_⟩
                obtain ⟨Tp, x1, x2, rfl, hT, rfl, y1, y2⟩ := y
                have e1 := Option.some.inj ((y1 _ h1).symm.trans ev)
                have e2 := Option.some.inj ((y2 _ h2).symm.trans ew)
                subst e1 e2
                exact ⟨Tp, rfl, hT, rfl⟩
              · refine ⟨_, _, SqL.of (S.sub _ _ (q.b _ _ a1)), SqL.of (S.sub _ _ (q.b _ _ b1)), ?_⟩
                show _ ≤ (zipD xs ys).length ∨ _ ≤ (zipD xs ys).length
                rw [zipD_len, a3.length, b3.length]; omega
    · exact q1.elim
def numsD (n k : Nat) : List D := (List.range' k n).map fun i => D.int (i : Nat)
def numsV (n k : Nat) : List V := (List.range' k n).map fun i => V.int (i : Nat)
theorem reps_nums (K : PySem.W.Frag) (g : G) : ∀ (n k : Nat), Reps K g (numsD n k) (numsV n k)
  | 0, k => .nil
  | n + 1, k => by
    unfold numsD numsV
    rw [List.range'_succ]
    exact .cons (.int _) (reps_nums K g n (k + 1))
theorem enum_zip : ∀ (xs : List D) (k : Nat), enumFromD k xs = zipD (numsD xs.length k) xs
  | [], k => rfl
  | x :: xs, k => by
    show D.tpl [.int k, x] :: enumFromD (k + 1) xs = zipD (numsD (xs.length + 1) k) (x :: xs)
    unfold numsD
    rw [List.range'_succ, List.map_cons]
    show _ = D.tpl [.int k, x] :: zipD (numsD xs.length (k + 1)) xs
    rw [enum_zip xs (k + 1)]
theorem nums_get {n k i : Nat} {v : V} (h : (numsV n k)[i]? = some v) : v = .int ((k + i : Nat) : Int) := by
  unfold numsV at h
  rw [List.getElem?_map] at h
  cases q : (List.range' k n)[i]? with
  | none => rw [q] at h; cases h
  | some j =>
    rw [q] at h
    have := (List.getElem?_eq_some_iff.mp q).2
    rw [List.getElem_range'] at this
    cases h
    subst this
    simp
theorem pi_enumD (hg : Gl X "enumerate") (hm : X.mg "enumerate" = none) (ha : PA X [e] (tDA (zX X T) W fs)) (hs : starEach [e] X.env = [(false, eval e X.env)] := by rfl) : PI X (.Tuple elts kk tpos) (.Call (.Name "enumerate" p) [e] [] pos) (tDI (zX X T) W (iEnum fs)) :=
  PI.wk (pi_enumA hg hm ha hs) fun σ H R ⟨g, ρ, st, S, E, q⟩ => by
    refine ⟨g, ρ, st, S, E, Sat.mono (sat_bind q) (fun ds st1 q1 g1 H1 vs L1 S1 r1 => ?_) fun _ _ _ q => q⟩
    split at q1
    · rename_i xs
      cases r1 with
      | cons r1 r2 =>
        cases r2
        cases r1 with
        | tup a1 a2 a3 =>
          refine ⟨_, _, rfl, .inr ⟨sqT_mono S1.sub a1.t, q1 g1 H1 _ L1 S1 ?_⟩⟩
          rw [enum_zip]
          refine walkD_pair (reps_nums _ _ xs.length 0) a3 (fun i d h => zipD_get h) (fun g2 H2 st2 i v w q S ev ew => ?_) fun g2 H2 st2 q S => ?_
          · have h1 := sqT_mono S.sub (sqT_mono q.b a1.t)
            refine ⟨⟨_, w, h1, ew⟩, fun x H3 y => ?_⟩
            obtain ⟨Tp, x1, rfl, hT, rfl, y1⟩ := y
            have e1 := Option.some.inj ((y1 _ h1).symm.trans ew)
            have e2 := nums_get ev
            rw [Nat.zero_add] at e2
            subst e1 e2
            exact ⟨Tp, rfl, hT, rfl⟩
          · refine ⟨_, sqT_mono S.sub (sqT_mono q.b a1.t), ?_⟩
            rw [zipD_len]
            unfold numsD
            rw [List.length_map, List.length_range', ← a3.length]; omega
    · rename_i xs
      cases r1 with
      | cons r1 r2 =>
        cases r2
        cases r1 with
        | lst a1 a2 a3 =>
          refine ⟨_, _, rfl, .inl ⟨SqL.of (S1.sub _ _ a1), q1 g1 H1 _ L1 S1 ?_⟩⟩
          rw [enum_zip]
          refine walkD_pair (reps_nums _ _ xs.length 0) a3 (fun i d h => zipD_get h) (fun g2 H2 st2 i v w q S ev ew => ?_) fun g2 H2 st2 q S => ?_
          · have h1 : SqL X.K H2 _ _ := SqL.of (S.sub _ _ (q.b _ _ a1))
            refine ⟨⟨_, w, h1, ew⟩, fun x H3 y => ?_⟩
            obtain ⟨Tp, x1, rfl, hT, rfl, y1⟩ := y
            have e1 := Option.some.inj ((y1 _ h1).symm.trans ew)
            have e2 := nums_get ev
            rw [Nat.zero_add] at e2
            subst e1 e2
            exact ⟨Tp, rfl, hT, rfl⟩
          · refine ⟨_, SqL.of (S.sub _ _ (q.b _ _ a1)), ?_⟩
            rw [zipD_len]
            unfold numsD
            rw [List.length_map, List.length_range', ← a3.length]; omega
    · rename_i l
      split at q1
      · rename_i xs hs
        cases r1 with
        | cons r1 r2 =>
          cases r2
          cases r1 with
          | ref hl =>
            obtain ⟨vs, b1, b2, b3, b4⟩ := S1.obj l _ _ hl hs
            refine ⟨_, _, rfl, .inl ⟨SqL.of b2, q1 g1 H1 _ L1 S1 ?_⟩⟩
            refine ⟨fun g2 H2 st2 i d0 d q S e1 e2 => ?_, fun g2 H2 st2 q S hf => ?_⟩
            · unfold fetch at e2
              dsimp only at e2
              split at e2
              · rename_i ys hs2
                obtain ⟨ws, c1, c2, c3, c4⟩ := S.obj l _ _ (q.i _ _ hl) hs2
                cases ey : ys[i]? with
                | none => rw [ey] at e2; cases e2
                | some dx =>
                  rw [ey] at e2
                  cases e2
                  obtain ⟨w, ew, rw'⟩ := c4.get ey
                  refine ⟨⟨ws, w, SqL.of c2, ew⟩, fun x H3 y => ?_⟩
                  obtain ⟨Tp, x1, rfl, hT, rfl, y1⟩ := y
                  have e3 := Option.some.inj ((y1 _ (SqL.of c2)).symm.trans ew)
                  subst e3
                  obtain ⟨S', L'⟩ := S.allocB (o := .tup [.int (i : Int), x1]) hT (fun _ => by simp)
                  exact ⟨_, L', S', .tpl (SqT.of upd_same) (by show 2 ≤ sizeLine; decide) (.cons (.int _) (.cons (rw'.mono L'.ge) .nil))⟩
              · cases e2
            · unfold finOk at hf
              dsimp only at hf
              split at hf
              · rename_i ys hs2
                obtain ⟨ws, c1, c2, c3, c4⟩ := S.obj l _ _ (q.i _ _ hl) hs2
                refine ⟨ws, SqL.of c2, ?_⟩
                rw [← c4.length, beq_iff_eq.mp hf]; exact Nat.le_refl _
              · cases hf
      · exact q1.elim
    · exact q1.elim

/-! ### targets -/
/-- a target stores what g says, in the slots sl alone -/
def TgOk (z : Z) (t : TG) (gd : TgD) (sl : List Nat) : Prop :=
  ∀ (g : G) (st : Sto) (σ : L2.St) (ρ ρ' : Ev) (H : Hp) (d : D) (v : V) (Q : L2.St → Hp → Prop), Sim z.K z.T g st H → Rep z.K g d v → EnvR z.K g σ ρ → gd d ρ = some ρ' →
    (∀ σ', EnvR z.K g σ' ρ' → (∀ vs, (∀ i ∈ sl, i ∈ vs) → wipe σ' vs = wipe σ vs) → Q σ' H) → t v σ H Q
theorem wipe_get {σ : L2.St} : ∀ {vs : List Nat} {j : Nat}, (wipe σ vs)[j]? = if j ∈ vs then (if j < σ.length then some none else none) else σ[j]?
  | [], j => by simp [wipe]
  | v :: vs, j => by
    unfold wipe
    by_cases hj : v = j
    · subst hj
      by_cases hl : v < σ.length
      · rw [List.getElem?_set_self (by rw [wipe_length]; exact hl)]
        simp [hl]
      · rw [List.getElem?_eq_none (by rw [List.length_set, wipe_length]; omega)]
        simp [hl]
    · rw [List.getElem?_set_ne hj, wipe_get]
      have : (j ∈ v :: vs) = (j ∈ vs) := by simp [Ne.symm hj]
      simp only [this]
theorem wipe_set {σ : L2.St} {i : Nat} {o : Option V} {vs : List Nat} (h : i ∈ vs) : wipe (σ.set i o) vs = wipe σ vs := by
  apply List.ext_getElem?
  intro j
  rw [wipe_get, wipe_get, List.length_set]
  by_cases hj : j ∈ vs
  · simp [hj]
  · have : i ≠ j := fun z => hj (z ▸ h)
    rw [if_neg hj, if_neg hj, List.getElem?_set_ne this]
theorem tg_name (z : Z) (i : Nat) : TgOk z (gName i) (gN i) [i] := fun g st σ ρ ρ' H d v Q S r E e k => by
  cases e
  exact k _ (E.set i r) fun vs hv => wipe_set (hv i (by simp))
theorem tg_two {z : Z} {t1 t2 : TG} {g1 g2 : TgD} {s1 s2 : List Nat} (h1 : TgOk z t1 g1 s1) (h2 : TgOk z t2 g2 s2) : TgOk z (gTup z.K 2 (gCons t1 (gCons t2 gNil))) (gT2 g1 g2) (s1 ++ s2) := fun g st σ ρ ρ' H d v Q S r E e k => by
  unfold gT2 at e
  split at e
  · rename_i x y
    obtain ⟨ρ1, e1, e2⟩ := Option.bind_eq_some_iff.mp e
    obtain ⟨a, vs, rfl, q1, q2, q3⟩ := S.tup r
    cases q3 with
    | cons r1 q3 => cases q3 with
      | cons r2 q3 =>
        cases q3
        refine ⟨a, [_, _], rfl, q1, rfl, _, [_], rfl, ?_⟩
        refine h1 g st σ ρ ρ1 H x _ _ S r1 E e1 fun σ1 E1 w1 => ?_
        refine ⟨_, [], rfl, ?_⟩
        refine h2 g st σ1 ρ1 ρ' H y _ _ S r2 E1 e2 fun σ2 E2 w2 => ⟨rfl, k σ2 E2 fun vs hv => ?_⟩
        rw [w2 vs fun i hi => hv i (by simp [hi]), w1 vs fun i hi => hv i (by simp [hi])]
  · rename_i x y
    obtain ⟨ρ1, e1, e2⟩ := Option.bind_eq_some_iff.mp e
    obtain ⟨a, vs, rfl, q1, q2, q3⟩ := S.tpl r
    cases q3 with
    | cons r1 q3 => cases q3 with
      | cons r2 q3 =>
        cases q3
        refine ⟨a, [_, _], rfl, q1, rfl, _, [_], rfl, ?_⟩
        refine h1 g st σ ρ ρ1 H x _ _ S r1 E e1 fun σ1 E1 w1 => ?_
        refine ⟨_, [], rfl, ?_⟩
        refine h2 g st σ1 ρ1 ρ' H y _ _ S r2 E1 e2 fun σ2 E2 w2 => ⟨rfl, k σ2 E2 fun vs hv => ?_⟩
        rw [w2 vs fun i hi => hv i (by simp [hi]), w1 vs fun i hi => hv i (by simp [hi])]
  · cases e
theorem tg_three {z : Z} {t1 t2 t3 : TG} {g1 g2 g3 : TgD} {s1 s2 s3 : List Nat} (h1 : TgOk z t1 g1 s1) (h2 : TgOk z t2 g2 s2) (h3 : TgOk z t3 g3 s3) : TgOk z (gTup z.K 3 (gCons t1 (gCons t2 (gCons t3 gNil)))) (gT3 g1 g2 g3) (s1 ++ (s2 ++ s3)) := fun g st σ ρ ρ' H d v Q S r E e k => by
  unfold gT3 at e
  split at e
  · rename_i x y w
    obtain ⟨ρ1, e1, e⟩ := Option.bind_eq_some_iff.mp e
    obtain ⟨ρ2, e2, e3⟩ := Option.bind_eq_some_iff.mp e
    obtain ⟨a, vs, rfl, q1, q2, q3⟩ := S.tup r
    cases q3 with
    | cons r1 q3 => cases q3 with
      | cons r2 q3 => cases q3 with
        | cons r3 q3 =>
          cases q3
          refine ⟨a, [_, _, _], rfl, q1, rfl, _, [_, _], rfl, ?_⟩
          refine h1 g st σ ρ ρ1 H x _ _ S r1 E e1 fun σ1 E1 w1 => ?_
          refine ⟨_, [_], rfl, ?_⟩
          refine h2 g st σ1 ρ1 ρ2 H y _ _ S r2 E1 e2 fun σ2 E2 w2 => ?_
          refine ⟨_, [], rfl, ?_⟩
          refine h3 g st σ2 ρ2 ρ' H w _ _ S r3 E2 e3 fun σ3 E3 w3 => ⟨rfl, k σ3 E3 fun vs hv => ?_⟩
          rw [w3 vs fun i hi => hv i (by simp [hi]), w2 vs fun i hi => hv i (by simp [hi]), w1 vs fun i hi => hv i (by simp [hi])]
  · cases e

/-! ### comprehensions -/
abbrev W0 : WX := fun _ _ _ _ => False
theorem nx_sat {α : Type} {o : Out α} {P : α → Sto → Prop} {E : Str → List (Str × D) → Sto → Prop} (h : Sat o.nx P E) : Sat o P (fun _ _ _ => False) := by
  cases o <;> exact h
theorem xpost0 {z : Z} {σ : L2.St} {g : G} {H : Hp} {n : Str} {fs : List (Str × D)} {st : Sto} (h : False) : XPost z W0 σ g H n fs st := h.elim
theorem drop_cons {α : Type} {xs : List α} {i : Nat} {x : α} {r : List α} (h : xs.drop i = x :: r) : xs[i]? = some x ∧ xs.drop (i + 1) = r := by
  have h1 : xs[i]? = (xs.drop i)[0]? := by simp
  refine ⟨by rw [h1, h]; rfl, ?_⟩
  rw [← List.drop_drop, h]; rfl
theorem wipe_wipe {σ : L2.St} {vs : List Nat} : wipe (wipe σ vs) vs = wipe σ vs := by
  apply List.ext_getElem?
  intro j
  rw [wipe_get, wipe_get, wipe_length]
  by_cases hj : j ∈ vs
  · simp [hj]
  · simp [hj]
/-- a thing apart is written -/
theorem Sim.side {K : PySem.W.Frag} {g : G} {st : Sto} {H : Hp} {p : Addr} {o : HO} (S : Sim K T g st H) (hB : g.B p = none) (hI : p ∉ g.ι) (hp : ∀ o', H p = some o' → (∃ xs, o' = .lst xs)) : Sim K T g st (upd H p o) := by
  refine ⟨fun b u e => ?_, S.len, S.nd, fun b hb => ?_, fun k b mo e1 e2 => ?_, fun q hq => ?_, S.tb⟩
  · rw [upd_ne (ne_of_none e hB)]; exact S.sub b u e
  · obtain ⟨u, e, q⟩ := S.there b hb
    exact ⟨u, by rw [upd_ne (fun z : b = p => hI (by rw [← z]; exact hb))]; exact e, q⟩
  · have nb : b ≠ p := fun z => hI (z ▸ List.mem_of_getElem? e1)
    exact (S.obj k b mo e1 e2).mono (Ge.refl g) (fun z => z) fun u z => by rw [upd_ne nb]; exact z
  · obtain ⟨ps, h1, h2, h3⟩ := S.tabs q hq
    have n1 : q.1 ≠ p := fun z => by
      obtain ⟨xs, e⟩ := hp _ (z ▸ h1)
      cases e
    refine ⟨ps, by rw [upd_ne n1]; exact h1, h2, fun pos cv hc => ?_⟩
    obtain ⟨c, e1, e2⟩ := h3 pos cv hc
    have n2 : c ≠ p := fun z => by
      obtain ⟨xs, e⟩ := hp _ (z ▸ e2)
      cases e
    exact ⟨c, e1, by rw [upd_ne n2]; exact e2⟩
theorem Le.side {g g' : G} {H H' : Hp} {p : Addr} {o : HO} (h : Le g g' H H') (hp : H p = none) : Le g g' H (upd H' p o) :=
  ⟨h.ge, fun a u e1 e2 e3 e4 => by
    obtain ⟨f1, f2, f3⟩ := h.fr a u e1 e2 e3 e4
    exact ⟨by rw [upd_ne (ne_of_none e1 hp)]; exact f1, f2, f3⟩⟩
/-- a thing apart is taken up: a list that never changes, or one of the store -/
theorem Sim.adopt {z : Z} {W : WX} {σ : L2.St} {Q : VK} {m : Bool} {g g0 : G} {st : Sto} {H H0 : Hp} {p : Addr} {xs : List D} {vs : List V} (S : Sim z.K z.T g st H) (L : Le g0 g H0 H) (h0 : H0 p = none) (hB : g.B p = none) (hI : p ∉ g.ι) (hp : H p = some (.lst vs)) (hz : vs.length ≤ sizeLine) (r : Reps z.K g xs vs)
    (h : EPost z W σ Q g0 H0 (newL m xs st)) : Q (.ref p) H := by
  cases m with
  | false =>
    have ge : Ge g ⟨upd g.B p (.lst vs), g.ι⟩ := ⟨fun a u e => by show upd g.B p (.lst vs) a = some u; rw [upd_ne (ne_of_none e hB)]; exact e, fun _ _ e => e⟩
    have nι : ∀ {l : Nat} {b : Addr}, g.ι[l]? = some b → b ≠ p := fun e z => hI (z ▸ List.mem_of_getElem? e)
    refine h ⟨upd g.B p (.lst vs), g.ι⟩ H _ ⟨L.ge.trans ge, fun a u e1 e2 e3 e4 => ?_⟩ ⟨fun a u e => ?_, S.len, S.nd, S.there, fun l b mo e1 e2 => ?_, S.tabs, fun a u e ps => ?_⟩ (.lst upd_same hz (r.mono ge))
    · obtain ⟨f1, f2, f3⟩ := L.fr a u e1 e2 e3 e4
      exact ⟨f1, by show upd g.B p (.lst vs) a = none; rw [upd_ne (ne_of_none e1 h0)]; exact f2, f3⟩
    · have e : upd g.B p (.lst vs) a = some u := e
      by_cases ha : a = p
      · subst ha; rw [upd_same] at e; cases e; exact hp
      · rw [upd_ne ha] at e; exact S.sub a u e
    · exact (S.obj l b mo e1 e2).mono ge (fun z => by show upd g.B p (.lst vs) b = none; rw [upd_ne (nι e1)]; exact z) fun u z => z
    · have e : upd g.B p (.lst vs) a = some u := e
      by_cases ha : a = p
      · subst ha; rw [upd_same] at e; cases e; intro q; cases q
      · rw [upd_ne ha] at e; exact S.tb a u e ps
  | true =>
    have ge : Ge g ⟨g.B, g.ι ++ [p]⟩ := ⟨fun a u e => e, fun l a e => by
      show (g.ι ++ [p])[l]? = some a
      rw [List.getElem?_append_left (List.getElem?_eq_some_iff.mp e).1]; exact e⟩
    refine h ⟨g.B, g.ι ++ [p]⟩ H (.ref p) ⟨L.ge.trans ge, fun a u e1 e2 e3 e4 => ?_⟩ ⟨S.sub, by simp [S.len], ?_, fun b hb => ?_, fun l b mo e1 e2 => ?_, S.tabs, S.tb⟩ (.ref ?_)
    · obtain ⟨f1, f2, f3⟩ := L.fr a u e1 e2 e3 e4
      refine ⟨f1, f2, fun z => (List.mem_append.mp z).elim f3 fun q => ?_⟩
      exact ne_of_none e1 h0 (by simpa using q)
    · refine List.nodup_append.mpr ⟨S.nd, by simp, fun a ha b hb => ?_⟩
      have : b = p := by simpa using hb
      subst this
      exact fun z => hI (z ▸ ha)
    · rcases List.mem_append.mp hb with hb | hb
      · exact S.there b hb
      · have : b = p := by simpa using hb
        subst this
        exact ⟨_, hp, fun ps q => by cases q⟩
    · have e1' : (g.ι ++ [p])[l]? = some b := e1
      by_cases hl : l < g.ι.length
      · rw [List.getElem?_append_left hl] at e1'
        rw [List.getElem?_append_left (by rw [← S.len]; exact hl)] at e2
        exact (S.obj l b mo e1' e2).mono ge (fun z => z) fun u z => z
      · rw [List.getElem?_append_right (by omega)] at e1'
        rw [List.getElem?_append_right (by rw [← S.len]; omega)] at e2
        have hl0 : l - g.ι.length = 0 := by
          have := (List.getElem?_eq_some_iff.mp e1').1
          simp at this; exact this
        rw [hl0] at e1'
        rw [← S.len, hl0] at e2
        simp at e1' e2
        subst e1' e2
        exact ⟨vs, hB, hp, hz, r.mono ge⟩
    · show (g.ι ++ [p])[st.length]? = some p
      rw [← S.len, List.getElem?_append_right (Nat.le_refl _)]; simp
/-- the turns of a comprehension -/
theorem lc_turns {z : Z} {W : WX} {σ0 σ : L2.St} {Q : VK} {m : Bool} {J : It} {t : TG} {gd : TgD} {sl vs : List Nat} {ft : ST} {fe : SE} {ρ : Ev} {dy : Dy} {ds : List D} {g1 : G} {H1 : Hp} {st1 : Sto} {Dd : Addr}
    (ht : TgOk z t gd sl) (hsl : ∀ i ∈ sl, i ∈ vs) (hz : ds.length ≤ sizeLine) (E : EnvR z.K g1 σ ρ) (S1 : Sim z.K z.T g1 st1 H1) (wk : WalkD z g1 J ds dy) (hD : H1 Dd = none)
    (h : EPost z W σ0 Q g1 H1 ((loopLC dy ds.length gd ft fe (wipeD ρ vs) 0 ds st1).bind fun ys st => newL m ys st)) :
    ∃ W' : Nat → Nat → Hp → Prop, (∃ k, W' 0 k (upd H1 Dd (.lst []))) ∧ ∀ i k H, W' i k H →
      (J.stop i H ∧ Q (.ref Dd) H) ∨ (J.go i H ∧ ∃ Nx : Hp → Prop, (∀ H', Nx H' → ∃ k', k' < k ∧ W' (i + 1) k' H') ∧ ∀ x H', J.yld i H x H' → t x (wipe σ vs) H' fun σ2 H2 => wipe σ2 vs = wipe σ vs ∧ tDT z W0 ft σ2 H2 fun b H3 =>
        if b = true then tD z W0 fe σ2 H3 fun y H4 => ∃ acc, H4 Dd = some (.lst acc) ∧ acc.length < sizeLine ∧ Nx (upd H4 Dd (.lst (acc ++ [y]))) else Nx H3) := by
  have hB1 := S1.freshB hD
  have hI1 := S1.freshI hD
  have S1' : Sim z.K z.T g1 st1 (upd H1 Dd (.lst [])) := S1.side hB1 hI1 fun o' e => by rw [hD] at e; cases e
  refine ⟨fun i k H => k = ds.length - i ∧ i ≤ ds.length ∧ ∃ g2 st2 as acc, Le g1 g2 H1 H ∧ Sim z.K z.T g2 st2 H ∧ H Dd = some (.lst acc) ∧ g2.B Dd = none ∧ Dd ∉ g2.ι ∧ Reps z.K g2 as acc ∧ acc.length ≤ i ∧
    EPost z W σ0 Q g1 H1 ((loopLC dy ds.length gd ft fe (wipeD ρ vs) i (ds.drop i) st2).bind fun ys st => newL m (as ++ ys) st),
    ⟨ds.length, by omega, by omega, g1, st1, [], [], (Le.refl _ _).side hD, S1', upd_same, hB1, hI1, .nil, by simp, by simpa using h⟩, ?_⟩
  rintro i k H ⟨rfl, hi, g2, st2, as, acc, L2', S2, hDa, hB, hI, ra, hl, h2⟩
  cases hd : ds.drop i with
  | nil =>
    have hin : i = ds.length := by
      have := congrArg List.length hd
      rw [List.length_drop, List.length_nil] at this; omega
    subst hin
    rw [hd] at h2
    unfold loopLC at h2
    split at h2
    · rename_i hf
      refine .inl ⟨wk.stop g2 H st2 L2'.ge S2 hf, ?_⟩
      have h3 : EPost z W σ0 Q g1 H1 (newL m (as ++ []) st2) := h2
      rw [List.append_nil] at h3
      exact S2.adopt L2' hD hB hI hDa (Nat.le_trans hl hz) ra h3
    · exact h2.elim
  | cons d0 r =>
    obtain ⟨e1, e2⟩ := drop_cons hd
    have hilt : i < ds.length := (List.getElem?_eq_some_iff.mp e1).1
    rw [hd] at h2
    unfold loopLC at h2
    split at h2
    · exact h2.elim
    · rename_i d hfe
      split at h2
      · exact h2.elim
      · rename_i ρ1 hg
        obtain ⟨go, yl⟩ := wk.go g2 H st2 i d0 d L2'.ge S2 e1 hfe
        refine .inr ⟨go, fun H' => ∃ g5 st5 as' acc', Le g1 g5 H1 H' ∧ Sim z.K z.T g5 st5 H' ∧ H' Dd = some (.lst acc') ∧ g5.B Dd = none ∧ Dd ∉ g5.ι ∧ Reps z.K g5 as' acc' ∧ acc'.length ≤ i + 1 ∧
          EPost z W σ0 Q g1 H1 ((loopLC dy ds.length gd ft fe (wipeD ρ vs) (i + 1) (ds.drop (i + 1)) st5).bind fun ys st => newL m (as' ++ ys) st),
          fun H' hN => ⟨ds.length - (i + 1), by omega, rfl, by omega, hN⟩, fun x H3 y => ?_⟩
        obtain ⟨g3, L3, S3, r3⟩ := yl x H3 y
        obtain ⟨f1, f2, f3⟩ := L3.fr Dd _ hDa hB hI (fun ps q => by cases q)
        have E3 : EnvR z.K g3 (wipe σ vs) (wipeD ρ vs) := (E.mono (L2'.trans L3).ge).wipe vs
        refine ht g3 st2 (wipe σ vs) (wipeD ρ vs) ρ1 H3 d x _ S3 r3 E3 hg fun σ2 E2 hw => ?_
        refine ⟨by rw [hw vs hsl]; exact wipe_wipe, ?_⟩
        refine ⟨g3, ρ1, st2, S3, E2, Sat.mono (nx_sat (sat_bind (sat_bind h2))) (fun b st4 q4 g4 H4 L4 S4 => ?_) fun _ _ _ q => q.elim⟩
        obtain ⟨k1, k2, k3⟩ := L4.fr Dd _ f1 f2 f3 (fun ps q => by cases q)
        have ra4 := ra.mono (L3.trans L4).ge
        have L14 := (L2'.trans L3).trans L4
        cases b with
        | true =>
          rw [if_pos rfl] at q4
          refine ⟨g4, ρ1, st4, S4, E2.mono L4.ge, Sat.mono (nx_sat (sat_bind q4)) (fun dy' st5 q5 g5 H5 v L5 S5 r5 => ?_) fun _ _ _ q => q.elim⟩
          obtain ⟨j1, j2, j3⟩ := L5.fr Dd _ k1 k2 k3 (fun ps q => by cases q)
          refine ⟨acc, j1, by omega, g5, st5, as ++ [dy'], acc ++ [v], (L14.trans L5).side hD, S5.side j2 j3 (fun o' e => by rw [j1] at e; cases e; exact ⟨_, rfl⟩), upd_same, j2, j3, (ra4.mono L5.ge).append (.one r5), by simp; omega, ?_⟩
          rw [e2]
          refine sat_bind' (Sat.mono (sat_bind q5) (fun ys st q => ?_) fun _ _ _ q => q)
          have q' : Sat (newL m (as ++ (dy' :: ys)) st) (VPost z Q g1 H1) (XPost z W σ0 g1 H1) := q
          rw [List.append_assoc]
          exact q'
        | false =>
          refine ⟨g4, st4, as, acc, L14, S4, k1, k2, k3, ra4, by omega, ?_⟩
          rw [if_neg Bool.false_ne_true] at q4
          rw [e2]
          exact sat_bind' q4
/-- [elt for tg in iter if ..] -/
theorem wk_lc {z : Z} {m : Bool} {t : TG} {gd : TgD} {sl vs : List Nat} (ht : TgOk z t gd sl) (hsl : ∀ i ∈ sl, i ∈ vs) : ∀ σ H Q, tD z W (sLC m fi gd ft fe vs) σ H Q → tLc (tDI z W fi) t (tDT z W0 ft) (tD z W0 fe) vs σ H Q := by
  rintro σ H Q ⟨g, ρ, st, S, E, q⟩
  refine ⟨g, ρ, st, S, E, Sat.mono (sat_bind q) (fun p st1 q1 g1 H1 J L1 S1 wk Dd hD => ?_) fun _ _ _ q => q⟩
  split at q1
  · rename_i hz
    exact lc_turns ht hsl hz (E.mono L1.ge) S1 wk hD (EPost.mono (W := W) (σ := σ) L1 q1)
  · exact q1.elim
end
end PD
/-! PDRules5: statements, defs and their calls. -/
namespace PD
open PySem PySem.Spec PyProof.Rows L2
section
variable {X : Cx} {T : List (Addr × Str)} {W : WX} {a b c e e2 elt iter : Expr} {es ifs : List Expr} {fa fb fc fe : SE} {fs : SA} {ft fu : ST} {fi : SI} {pos p tpos : Pos} {x : Str} {tg : Expr} {elts : List Expr} {kk : Nat} {qa qb : SS} {sa : Stmt} {ss : List Stmt}

theorem pts_nilD : PTs X [] (tDT (zX X T) W0 tYesD) := ⟨fun pins s σ H Q I ⟨g, ρ, st, S, E, q⟩ => pts_nil.run pins s σ H Q I (q g H (Le.refl g H) S)⟩
theorem pts_oneD (h : PT X c (tDT (zX X T) W0 ft)) : PTs X [c] (tDT (zX X T) W0 ft) := pts_one h
theorem pd_lc {scope : Scope} {own : List (Str × Nat)} {t : TG} {gd : TgD} {sl : List Nat} (m : Bool) (hc : X.calm = true) (hN : X.N.Nodup) (hi : PI X tg iter (tDI (zX X T) W fi)) (ok : BlkOk X.N X.env.scope scope own) (ht : TgOk (zX X T) t gd sl) (hsl : ∀ i ∈ sl, i ∈ own.map (·.2))
    (hg : ∀ (s : Shared) (H : Hp) (C : Addr) (cl : List (Str × Addr)) (fp : List Addr), PG (X.blk s H scope (compEnvC scope cl C X.env) fp) tg t)
    (hif : ∀ (s : Shared) (H : Hp) (C : Addr) (cl : List (Str × Addr)) (fp : List Addr), PTs (X.blk s H scope (compEnvC scope cl C X.env) fp) ifs (tDT (zX X T) W0 ft))
    (he : ∀ (s : Shared) (H : Hp) (C : Addr) (cl : List (Str × Addr)) (fp : List Addr), PE (X.blk s H scope (compEnvC scope cl C X.env) fp) elt (tD (zX X T) W0 fe)) (hs : ∀ x, foldedSetIterable iter X.env x = pure x := by intro _; rfl) :
    PE X (.ListComp elt [⟨tg, iter, ifs, 0⟩] scope pos) (tD (zX X T) W (sLC m fi gd ft fe (own.map (·.2)))) := PE.wk (pe_lc hc hN hi ok hg hif he hs) (wk_lc ht hsl)

/-! ### small statements -/
theorem qs_nil : PSs X [] (tDS (zX X T) W qNext) := PSs.wk pss_nil fun D σ H ⟨g, ρ, st, S, E, q⟩ => q g H (Le.refl g H) S σ E
theorem qs_cons (h1 : PS X sa (tDS (zX X T) W qa)) (h2 : PSs X ss (tDS (zX X T) W qb)) : PSs X (sa :: ss) (tDS (zX X T) W (qSeq qa qb)) :=
  PSs.wk (pss_cons h1 h2) fun D σ H ⟨g, ρ, st, S, E, q⟩ => by
    refine ⟨g, ρ, st, S, E, ?_⟩
    have q' : SPost (zX X T) W D g H (match qa ρ st with | some (.nx ρ', st') => qb ρ' st' | r => r) := q
    cases hq : qa ρ st with
    | none => rw [hq] at q'; exact q'
    | some r =>
      obtain ⟨fl, st'⟩ := r
      rw [hq] at q'
      cases fl with
      | nx ρ' => exact fun g' H' L S' σ' E' => ⟨g', ρ', st', S', E', SPost.mono L q'⟩
      | _ => exact q'
theorem qs_one (h1 : PS X sa (tDS (zX X T) W qa)) : PSs X [sa] (tDS (zX X T) W qa) := pss_one h1
theorem ps_passD : PS X (.Pass pos) (tDS (zX X T) W qNext) := PS.wk ps_pass fun D σ H ⟨g, ρ, st, S, E, q⟩ => q g H (Le.refl g H) S σ E
theorem ps_breakD : PS X (.Break pos) (tDS (zX X T) W qBrk) := PS.wk ps_break fun D σ H ⟨g, ρ, st, S, E, q⟩ => q g H (Le.refl g H) S σ E
theorem ps_contD : PS X (.Continue pos) (tDS (zX X T) W qCnt) := PS.wk ps_continue fun D σ H ⟨g, ρ, st, S, E, q⟩ => q g H (Le.refl g H) S σ E
theorem ps_neverD : PS X sa (tDS (zX X T) W qNever) := PS.wk ps_never fun D σ H ⟨g, ρ, st, S, E, q⟩ => q.elim
theorem qs_never : PSs X ss (tDS (zX X T) W qNever) := PSs.wk pss_never fun D σ H ⟨g, ρ, st, S, E, q⟩ => q.elim
theorem ps_exprD (he : PE X e (tD (zX X T) W fe)) (hs : swapsWith e none pos.line X.env = pure false := by rfl) : PS X (.Expr e pos) (tDS (zX X T) W (qExpr fe)) :=
  PS.wk (ps_expr he hs) fun D σ H ⟨g, ρ, st, S, E, q⟩ => ⟨g, ρ, st, S, E, Sat.mono (st_sat E q) (fun d st1 q1 g1 H1 v L1 S1 r1 => q1 g1 H1 L1 S1 σ (E.mono L1.ge)) fun _ _ _ q => q⟩
theorem ps_retD (he : PE X e (tD (zX X T) W fe)) : PS X (.Return (some e) pos) (tDS (zX X T) W (qRet fe)) :=
  PS.wk (ps_ret he) fun D σ H ⟨g, ρ, st, S, E, q⟩ => ⟨g, ρ, st, S, E, Sat.mono (st_sat E q) (fun d st1 q1 g1 H1 v L1 S1 r1 => q1 g1 H1 L1 S1 v r1) fun _ _ _ q => q⟩
theorem ps_retND : PS X (.Return none pos) (tDS (zX X T) W qRetN) := PS.wk ps_retN fun D σ H ⟨g, ρ, st, S, E, q⟩ => q g H (Le.refl g H) S .non .non
theorem wk_set {i : Nat} {t : TE} {f : SE} (h : ∀ σ H Q, tD (zX X T) W f σ H Q → t σ H Q) : ∀ D σ H, tDS (zX X T) W (qSet i f) D σ H → tAsg t (gName i) D σ H := fun D σ H ⟨g, ρ, st, S, E, q⟩ =>
  h σ H _ ⟨g, ρ, st, S, E, Sat.mono (st_sat E q) (fun d st1 q1 g1 H1 v L1 S1 r1 => q1 g1 H1 L1 S1 _ ((E.mono L1.ge).set i r1)) fun _ _ _ q => q⟩
theorem ps_setD {i : Nat} {pos' : Pos} (hN : X.N.Nodup) (hi : X.N[i]? = some x) (hx : Loc X.env.scope x) (he : PE X e (tD (zX X T) W fe)) (hs : swapsWith e (some (.Name x pos')) pos.line X.env = pure false := by rfl) (hf : X.fn x = true ∨ X.env.scope.names.lookup x = some .local := by first | exact .inl rfl | exact .inr rfl | assumption) :
    PS X (.Assign [.Name x pos'] e pos) (tDS (zX X T) W (qSet i fe)) := PS.wk (ps_set hN hi hx he hs hf) (wk_set fun _ _ _ h => h)
theorem ps_setLcD {i : Nat} {y : Str} {py spos : Pos} {scope : Scope} {own : List (Str × Nat)} {t : TG} {gd : TgD} {sl : List Nat} (m : Bool) (hc : X.calm = true) (hN : X.N.Nodup) (hy : X.N[i]? = some y) (hyl : X.env.scope.names.lookup y = some .local)
    (hsw : swapsWith (.ListComp elt [⟨tg, iter, ifs, 0⟩] scope pos) (some (.Name y py)) spos.line X.env = pure true) (hi : PI X tg iter (tDI (zX X T) W fi)) (ok : BlkOk X.N X.env.scope scope own) (ht : TgOk (zX X T) t gd sl) (hsl : ∀ i ∈ sl, i ∈ own.map (·.2))
    (hg : ∀ (s : Shared) (H : Hp) (C : Addr) (cl : List (Str × Addr)) (fp : List Addr), PG (X.blk s H scope (compEnvC scope cl C X.env) fp) tg t)
    (hif : ∀ (s : Shared) (H : Hp) (C : Addr) (cl : List (Str × Addr)) (fp : List Addr), PTs (X.blk s H scope (compEnvC scope cl C X.env) fp) ifs (tDT (zX X T) W0 ft))
    (he : ∀ (s : Shared) (H : Hp) (C : Addr) (cl : List (Str × Addr)) (fp : List Addr), PE (X.blk s H scope (compEnvC scope cl C X.env) fp) elt (tD (zX X T) W0 fe)) (hs : ∀ x, foldedSetIterable iter X.env x = pure x := by intro _; rfl) :
    PS X (.Assign [.Name y py] (.ListComp elt [⟨tg, iter, ifs, 0⟩] scope pos) spos) (tDS (zX X T) W (qSet i (sLC m fi gd ft fe (own.map (·.2))))) :=
  PS.wk (ps_setLc hc hN hy hyl hsw hi ok hg hif he hs) (wk_set (wk_lc ht hsl))
theorem ps_asgD {t : TG} {gd : TgD} {sl : List Nat} (ht : TgOk (zX X T) t gd sl) (he : PE X e (tD (zX X T) W fe)) (hg : PG X tg t) (hs : swapsWithSole [tg] e pos.line X.env = pure false := by rfl) (hw : swappedStores [tg] e X.env = pure none := by rfl)
    (h1 : (assignEach [tg] X.env).map (·.2) = [assign tg X.env] := by rfl) : PS X (.Assign [tg] e pos) (tDS (zX X T) W (qAsg gd fe)) :=
  PS.wk (ps_asg he hg hs hw h1) fun D σ H ⟨g, ρ, st, S, E, q⟩ => ⟨g, ρ, st, S, E, Sat.mono (st_sat E q) (fun d st1 q1 g1 H1 v L1 S1 r1 => by
    split at q1
    · rename_i ρ' e
      exact ht g1 st1 σ ρ ρ' H1 d v _ S1 r1 (E.mono L1.ge) e fun σ' E' _ => q1 g1 H1 L1 S1 σ' E'
    · exact q1.elim) fun _ _ _ q => q⟩
theorem ps_parD {i j : Nat} {x y : Str} {px py pt : Pos} {kt k2 : Nat} {pt2 : Pos} (hc : X.calm = true) (hN : X.N.Nodup) (hi : X.N[i]? = some x) (hj : X.N[j]? = some y) (hij : i ≠ j)
    (hx : X.env.scope.names.lookup x = some .local) (hy : X.env.scope.names.lookup y = some .local) (ha : PA X [a, b] (tDA (zX X T) W fs))
    (hw : swappedStores [.Tuple [.Name x px, .Name y py] kt pt] (.Tuple [a, b] k2 pt2) X.env = pure (some [x, y]))
    (hs : swapsWithSole [.Tuple [.Name x px, .Name y py] kt pt] (.Tuple [a, b] k2 pt2) pos.line X.env = pure false := by rfl) :
    PS X (.Assign [.Tuple [.Name x px, .Name y py] kt pt] (.Tuple [a, b] k2 pt2) pos) (tDS (zX X T) W (qPar i j fs)) :=
  PS.wk (ps_par hc hN hi hj hij hx hy ha hw hs) fun D σ H ⟨g, ρ, st, S, E, q⟩ => ⟨g, ρ, st, S, E, Sat.mono (st_sat E q) (fun ds st1 q1 g1 H1 vs L1 S1 r1 => by
    split at q1
    · cases r1 with
      | cons r1 r2 => cases r2 with
        | cons r2 r3 => cases r3; exact ⟨_, _, rfl, q1 g1 H1 L1 S1 _ (((E.mono L1.ge).set i r1).set j r2)⟩
    · exact q1.elim) fun _ _ _ q => q⟩
theorem ps_ifD {sb sc : List Stmt} (hc : PT X c (tDT (zX X T) W ft)) (ha : PSs X sb (tDS (zX X T) W qa)) (hb : PSs X sc (tDS (zX X T) W qb)) : PS X (.If c sb sc pos) (tDS (zX X T) W (qIf ft qa qb)) :=
  PS.wk (ps_if hc ha hb) fun D σ H ⟨g, ρ, st, S, E, q⟩ => ⟨g, ρ, st, S, E, Sat.mono (st_sat E q) (fun k st1 q1 g1 H1 L1 S1 => by
    cases k with
    | true => exact ⟨g1, ρ, st1, S1, E.mono L1.ge, SPost.mono L1 q1⟩
    | false => exact ⟨g1, ρ, st1, S1, E.mono L1.ge, SPost.mono L1 q1⟩) fun _ _ _ q => q⟩
/-- o[i] = e -/
theorem ps_setIxD {o i : Expr} {fo fx : SE} {pos' : Pos} (ho : PE X o (tD (zX X T) W fo)) (hi : PE X i (tD (zX X T) W fx)) (he : PE X e (tD (zX X T) W fe))
    (ha : ∀ v, assign (.Subscript o i pos') X.env v = (do
      let ov ← holding [v] (eval o X.env)
      let iv ← holding [v, ov] (eval i X.env)
      standAt pos'
      holding [v, ov, iv] (setItem ov iv v)
      release [v, ov, iv] []) := by intro _; rfl)
    (hs : swapsWithSole [.Subscript o i pos'] e pos.line X.env = pure false := by rfl) (hw : swappedStores [.Subscript o i pos'] e X.env = pure none := by rfl)
    (h1 : (assignEach [.Subscript o i pos'] X.env).map (·.2) = [assign (.Subscript o i pos') X.env] := by rfl) :
    PS X (.Assign [.Subscript o i pos'] e pos) (tDS (zX X T) W (qSetIx fo fx fe)) :=
  PS.wk (ps_asg he (pg_sub ho hi set_list ha) hs hw h1) fun D σ H ⟨g, ρ, st, S, E, q⟩ => ⟨g, ρ, st, S, E, Sat.mono (st_sat E q) (fun d st1 q1 g1 H1 v L1 S1 r1 => by
    refine ⟨g1, ρ, st1, S1, E.mono L1.ge, Sat.mono (st_sat E q1) (fun d2 st2 q2 g2 H2 v2 L2 S2 r2 => ?_) fun _ _ _ q => q.mono L1⟩
    refine ⟨g2, ρ, st2, S2, E.mono (L1.trans L2).ge, Sat.mono (st_sat E q2) (fun d3 st3 q3 g3 H3 v3 L3 S3 r3 => ?_) fun _ _ _ q => q.mono (L1.trans L2)⟩
    have L := (L1.trans L2).trans L3
    cases hf : fSetIx d2 d3 d st3 with
    | none => rw [hf] at q3; exact q3.elim
    | some st4 =>
      rw [hf] at q3
      unfold fSetIx at hf
      split at hf
      · rename_i l k
        split at hf
        · rename_i xs hs3
          split at hf
          · rename_i j hj
            cases hf
            cases r2 with
            | ref hl =>
              rename_i a
              cases r3
              have hl3 := L3.ge.i _ _ hl
              obtain ⟨ws, h1, h2, h3, h4⟩ := S3.obj _ a _ hl3 hs3
              refine ⟨a, ws, k, j, rfl, rfl, h2, by rw [← h4.length, ix_eq]; exact hj, ?_⟩
              obtain ⟨S4, L4⟩ := S3.write (vs' := ws.set j v) hl3 hs3 (by rw [List.length_set]; exact h3) (Reps.set (r1.mono (L2.trans L3).ge) j h4)
              exact q3 g3 _ (L.trans L4) S4 σ (E.mono (L.trans L4).ge)
          · cases hf
        · cases hf
      · cases hf) fun _ _ _ q => q⟩
/-! xs.append(e), xs.extend(e) -/
theorem ref_of {g : G} {st : Sto} {H : Hp} {l : Nat} {v : V} {xs : List D} (S : Sim X.K T g st H) (r : Rep X.K g (.ref l) v) (hs : st[l]? = some (.lst xs)) : ∃ a ws, v = .ref a ∧ g.ι[l]? = some a ∧ H a = some (.lst ws) ∧ ws.length ≤ sizeLine ∧ Reps X.K g xs ws := by
  cases r with
  | ref hl =>
    obtain ⟨ws, h1, h2, h3, h4⟩ := S.obj _ _ _ hl hs
    exact ⟨_, ws, rfl, hl, h2, h3, h4⟩
def DoesM (X : Cx) (T : List (Addr × Str)) (r : V → List V → Hp → VK → Prop) (f : D → D → Sto → Out D) : Prop :=
  ∀ (W : WX) (σ : L2.St) (g : G) (st : Sto) (H : Hp) (dx dy : D) (x y : V) (Q : VK), Sim X.K T g st H → Rep X.K g dx x → Rep X.K g dy y → EPost (zX X T) W σ Q g H (f dx dy st) → r x [y] H Q
theorem wkM {r : V → List V → Hp → VK → Prop} {f : D → D → Sto → Out D} (h : DoesM X T r f) : ∀ σ H Q, tD (zX X T) W (sM f fa fe) σ H Q → tBM X.K "list" r (tD (zX X T) W fa) (tDA (zX X T) W (aCons fe aNil)) σ H Q := by
  rintro σ H Q ⟨g, ρ, st, S, E, q⟩
  refine ⟨g, ρ, st, S, E, Sat.mono (sat_bind q) (fun d st1 q1 g1 H1 v L1 S1 r1 => ?_) fun _ _ _ q => q⟩
  split at q1
  · rename_i xs e1
    obtain ⟨a, ws, rfl, h2, h3, h4⟩ := S1.litems r1 e1
    refine ⟨.inl ⟨rfl, ws, SqL.of h2⟩, g1, ρ, st1, S1, E.mono L1.ge, ?_⟩
    refine sat_bind' (Sat.mono (sat_bind q1) (fun d2 st2 q2 => ?_) fun _ _ _ q => q.mono L1)
    refine fun g2 H2 vs L2 S2 r2 => ?_
    cases r2 with
    | cons r2 r3 =>
      cases r3
      exact h W σ g2 st2 H2 d d2 _ _ Q S2 (r1.mono L2.ge) r2 (EPost.mono (L1.trans L2) q2)
  · exact q1.elim
theorem does_append : DoesM X T rAppend fAppend := by
  intro W σ g st H dx dy x y Q S rx ry h
  unfold fAppend at h
  split at h
  · split at h
    · rename_i l xs hs
      split at h
      · rename_i hz
        obtain ⟨a, ws, rfl, hl, h2, h3, h4⟩ := ref_of S rx hs
        have e1 := h4.length
        refine ⟨a, ws, y, rfl, rfl, h2, by omega, ?_⟩
        obtain ⟨S4, L4⟩ := S.write (vs' := ws ++ [y]) hl hs (by rw [List.length_append, List.length_singleton]; omega) (h4.append (.one ry))
        exact h g _ .non L4 S4 .non
      · exact h.elim
    · exact h.elim
  · exact h.elim
theorem does_extend : DoesM X T rExtend fExtend := by
  intro W σ g st H dx dy x y Q S rx ry h
  unfold fExtend at h
  split at h
  · split at h
    · rename_i l xs ys hs hy
      split at h
      · rename_i hz
        obtain ⟨a, ws, rfl, hl, h2, h3, h4⟩ := ref_of S rx hs
        obtain ⟨b, zs, rfl, k2, k3, k4⟩ := S.litems ry hy
        have e1 := h4.length
        have e2 := k4.length
        refine ⟨a, b, ws, zs, rfl, rfl, h2, k2, by omega, ?_⟩
        obtain ⟨S4, L4⟩ := S.write (vs' := ws ++ zs) hl hs (by rw [List.length_append]; omega) (h4.append k4)
        exact h g _ .non L4 S4 .non
      · exact h.elim
    · exact h.elim
  · exact h.elim
theorem pd_append {o : Expr} {fo : SE} {apos cpos : Pos} (ho : PE X o (tD (zX X T) W fo)) (he : PE X e (tD (zX X T) W fe)) (hst : starEach [e] X.env = (false, eval e X.env) :: starEach [] X.env := by rfl)
    (hbase : attributeBase o "append" X.env (eval o X.env) = eval o X.env := by rfl)
    (hfew : ((backTo cpos (starEach [e] X.env)).all (fun x => !x.1) && (backToKw cpos (keywordEach [] X.env)).all (fun x => x.1.isSome)
      && decide ([e].length + ([] : List Keyword).length + (if ([] : List Keyword).isEmpty then 0 else 1) < 30)) = true := by rfl)
    (hline : (apos.endLine == cpos.line) = true := by rfl) (hplain : (backTo cpos (starEach [] X.env)).any (·.1) = false := by rfl) :
    PE X (.Call (.Attribute o "append" apos) [e] [] cpos) (tD (zX X T) W (sM fAppend fo fe)) :=
  PE.wk (pe_bm PySem.F.plainAttrs_list PySem.F.slot_list_append PySem.F.type_list_append mt_append ho (pa_consD he pa_nilD hst) hbase hfew hline hst hplain) (wkM does_append)
theorem pd_extend {o : Expr} {fo : SE} {apos cpos : Pos} (ho : PE X o (tD (zX X T) W fo)) (he : PE X e (tD (zX X T) W fe)) (hst : starEach [e] X.env = (false, eval e X.env) :: starEach [] X.env := by rfl)
    (hbase : attributeBase o "extend" X.env (eval o X.env) = eval o X.env := by rfl)
    (hfew : ((backTo cpos (starEach [e] X.env)).all (fun x => !x.1) && (backToKw cpos (keywordEach [] X.env)).all (fun x => x.1.isSome)
      && decide ([e].length + ([] : List Keyword).length + (if ([] : List Keyword).isEmpty then 0 else 1) < 30)) = true := by rfl)
    (hline : (apos.endLine == cpos.line) = true := by rfl) (hplain : (backTo cpos (starEach [] X.env)).any (·.1) = false := by rfl) :
    PE X (.Call (.Attribute o "extend" apos) [e] [] cpos) (tD (zX X T) W (sM fExtend fo fe)) :=
  PE.wk (pe_bm PySem.F.plainAttrs_list PySem.F.slot_list_extend PySem.F.type_list_extend mt_extend ho (pa_consD he pa_nilD hst) hbase hfew hline hst hplain) (wkM does_extend)

/-! ### loops -/
theorem wk_for {t : TG} {gd : TgD} {sl : List Nat} (ht : TgOk (zX X T) t gd sl) : ∀ D σ H, tDS (zX X T) W (qFor fi gd qb) D σ H → tFor (tDI (zX X T) W fi) t (tDS (zX X T) W qb) D σ H := by
  rintro D σ H ⟨g, ρ, st, S, E, q⟩
  refine ⟨g, ρ, st, S, E, Sat.mono (st_sat E q) (fun p st1 q1 g1 H1 J L1 S1 wk => ?_) fun _ _ _ q => q⟩
  obtain ⟨ds, dy⟩ := p
  have q2 : SPost (zX X T) W D g1 H1 (loopFor dy ds.length gd qb 0 ds ρ st1) := SPost.mono L1 q1
  refine ⟨fun i k σ H => k = ds.length - i ∧ i ≤ ds.length ∧ ∃ g2 ρ2 st2, Le g1 g2 H1 H ∧ Sim X.K T g2 st2 H ∧ EnvR X.K g2 σ ρ2 ∧ SPost (zX X T) W D g1 H1 (loopFor dy ds.length gd qb i (ds.drop i) ρ2 st2),
    ⟨ds.length, by omega, by omega, g1, ρ, st1, Le.refl _ _, S1, E.mono L1.ge, by simpa using q2⟩, ?_⟩
  rintro i k σ2 H2 ⟨rfl, hi, g2, ρ2, st2, L2, S2, E2, h2⟩
  cases hd : ds.drop i with
  | nil =>
    have hin : i = ds.length := by
      have := congrArg List.length hd
      rw [List.length_drop, List.length_nil] at this; omega
    subst hin
    rw [hd] at h2
    unfold loopFor at h2
    split at h2
    · rename_i hf
      exact .inl ⟨wk.stop g2 H2 st2 L2.ge S2 hf, h2 g2 H2 L2 S2 σ2 E2⟩
    · exact h2.elim
  | cons d0 r =>
    obtain ⟨e1, e2⟩ := drop_cons hd
    have hilt : i < ds.length := (List.getElem?_eq_some_iff.mp e1).1
    rw [hd] at h2
    unfold loopFor at h2
    split at h2
    · exact h2.elim
    · rename_i d hfe
      split at h2
      · exact h2.elim
      · rename_i ρ1 hg
        obtain ⟨go, yl⟩ := wk.go g2 H2 st2 i d0 d L2.ge S2 e1 hfe
        refine .inr ⟨go, fun σ H' => ∃ g5 ρ5 st5, Le g1 g5 H1 H' ∧ Sim X.K T g5 st5 H' ∧ EnvR X.K g5 σ ρ5 ∧ SPost (zX X T) W D g1 H1 (loopFor dy ds.length gd qb (i + 1) (ds.drop (i + 1)) ρ5 st5),
          fun σ' H' hN => ⟨ds.length - (i + 1), by omega, rfl, by omega, hN⟩, fun x H3 y => ?_⟩
        obtain ⟨g3, L3, S3, r3⟩ := yl x H3 y
        refine ht g3 st2 σ2 ρ2 ρ1 H3 d x _ S3 r3 (E2.mono L3.ge) hg fun σ3 E3 _ => ⟨g3, ρ1, st2, S3, E3, ?_⟩
        rw [e2]
        cases hb : qb ρ1 st2 with
        | none => rw [hb] at h2; exact h2.elim
        | some fr =>
          obtain ⟨fl, st4⟩ := fr
          rw [hb] at h2
          intro g4 H4 L4 S4
          have L14 := (L2.trans L3).trans L4
          cases fl with
          | nx ρ4 => exact fun σ4 E4 => ⟨g4, ρ4, st4, L14, S4, E4, h2⟩
          | ct ρ4 => exact fun σ4 E4 => ⟨g4, ρ4, st4, L14, S4, E4, h2⟩
          | bk ρ4 => exact fun σ4 E4 => h2 g4 H4 L14 S4 σ4 E4
          | rt d4 => exact fun v r => h2 g4 H4 L14 S4 v r
          | ex n fs ρ4 => exact fun σ4 dx E4 xr => h2 g4 H4 L14 S4 σ4 dx E4 xr
theorem ps_forD {t : TG} {gd : TgD} {sl : List Nat} (hp : PassesOwn (model X.prog X.w) X.A X.env X.xe) (hc : X.calm = true) (ht : TgOk (zX X T) t gd sl) (hi : PI X tg iter (tDI (zX X T) W fi)) (hg : PG X tg t) (hb : PSs X ss (tDS (zX X T) W qb))
    (hs : ∀ x, foldedSetIterable iter X.env x = pure x := by intro _; rfl) : PS X (.For tg iter ss [] pos) (tDS (zX X T) W (qFor fi gd qb)) := PS.wk (ps_for hp hc hi hg hb hs) (wk_for ht)
theorem ps_whileD {fuel : Ev → Sto → Nat} (hp : PassesOwn (model X.prog X.w) X.A X.env X.xe) (hc : PT X c (tDT (zX X T) W ft)) (hb : PSs X ss (tDS (zX X T) W qb)) : PS X (.While c ss [] pos) (tDS (zX X T) W (qWhile fuel ft qb)) :=
  PS.wk (ps_while hp hc hb) fun D σ H ⟨g, ρ, st, S, E, q⟩ => by
    refine ⟨fun k σ H' => ∃ g2 ρ2 st2, Le g g2 H H' ∧ Sim X.K T g2 st2 H' ∧ EnvR X.K g2 σ ρ2 ∧ SPost (zX X T) W D g H (loopWhile ft qb k ρ2 st2), ⟨_, g, ρ, st, Le.refl _ _, S, E, q⟩, ?_⟩
    rintro k σ2 H2 ⟨g2, ρ2, st2, L2, S2, E2, h2⟩
    cases k with
    | zero => exact h2.elim
    | succ k =>
      unfold loopWhile at h2
      refine ⟨g2, ρ2, st2, S2, E2, ?_⟩
      cases ho : ft ρ2 st2 with
      | bad => rw [ho] at h2; exact h2.elim
      | exc n fs st3 => rw [ho] at h2; exact fun g3 H3 dx L3 S3 xr => h2 g3 H3 (L2.trans L3) S3 σ2 dx (E2.mono L3.ge) xr
      | ok b st3 =>
        rw [ho] at h2
        have h3 : SPost (zX X T) W D g H (if b = true then (match qb ρ2 st3 with
          | some (.nx ρ2, st2) => loopWhile ft qb k ρ2 st2
          | some (.ct ρ2, st2) => loopWhile ft qb k ρ2 st2
          | some (.bk ρ2, st2) => some (.nx ρ2, st2)
          | r => r) else some (.nx ρ2, st3)) := h2
        intro g3 H3 L3 S3
        have L13 := L2.trans L3
        cases b with
        | false =>
          rw [if_neg Bool.false_ne_true] at h3 ⊢
          exact h3 g3 H3 L13 S3 σ2 (E2.mono L3.ge)
        | true =>
          rw [if_pos rfl] at h3 ⊢
          refine ⟨fun σ H' => ∃ g5 ρ5 st5, Le g g5 H H' ∧ Sim X.K T g5 st5 H' ∧ EnvR X.K g5 σ ρ5 ∧ SPost (zX X T) W D g H (loopWhile ft qb k ρ5 st5), fun σ' H' hN => ⟨k, by omega, hN⟩, g3, ρ2, st3, S3, E2.mono L3.ge, ?_⟩
          cases hb : qb ρ2 st3 with
          | none => rw [hb] at h3; exact h3.elim
          | some fr =>
            obtain ⟨fl, st4⟩ := fr
            rw [hb] at h3
            intro g4 H4 L4 S4
            have L14 := L13.trans L4
            cases fl with
            | nx ρ4 => exact fun σ4 E4 => ⟨g4, ρ4, st4, L14, S4, E4, h3⟩
            | ct ρ4 => exact fun σ4 E4 => ⟨g4, ρ4, st4, L14, S4, E4, h3⟩
            | bk ρ4 => exact fun σ4 E4 => h3 g4 H4 L14 S4 σ4 E4
            | rt d4 => exact fun v r => h3 g4 H4 L14 S4 v r
            | ex n fs ρ4 => exact fun σ4 dx E4 xr => h3 g4 H4 L14 S4 σ4 dx E4 xr

/-! ### defs -/
/-- the arguments' list is n long; F tells what comes of them -/
def spD (z : Z) (n : Nat) (F : List D → Sto → Out D) : Sp := fun vs H Q E => vs.length = n ∧ ∃ g ds st, Sim z.K z.T g st H ∧ Reps z.K g ds vs ∧ Sat (F ds st) (VPost z Q g H) (fun k fs st' => ∀ g' H' dx, Le g g' H H' → Sim z.K z.T g' st' H' → XRep z g' H' fs dx → E (clsV z k) dx H')
theorem pd_call {F : List D → Sto → Out D} {k n : Nat} {f : Addr} {fd : FuncData} {ps : List Str} (G0 : FnOk X.prog X.w X.K X.mg X.base (L2.CX X.prog X.w) k f fd ps (spD (zX X T) n F)) (tk : Takes X W) (hr : Room k X.A) (hg : Gl X x) (hm : X.mg x = some (.ref f)) (hk : PySem.W.keepIn X.K (.ref f) = true) (hb : Binds X.K fd ps [])
    (ha : PA X (e :: es) (tDA (zX X T) W fs)) (hdb : (x == ("__debug__" : Str)) = false := by decide) (he : starEach (e :: es) X.env = (false, eval e X.env) :: starEach es X.env := by rfl) (hpl : (backTo pos (starEach es X.env)).any (·.1) = false := by rfl) :
    PE X (.Call (.Name x p) (e :: es) [] pos) (tD (zX X T) W (sCall n F fs)) :=
  PE.wk (pe_callS G0 hr hg hm hk hb (fun σ => passAt tk σ) ha hdb he hpl) fun σ H Q ⟨g, ρ, st, S, E, q⟩ => by
    refine ⟨g, ρ, st, S, E, Sat.mono (sat_bind q) (fun ds st1 q1 g1 H1 vs L1 S1 r1 => ?_) fun _ _ _ q => q⟩
    split at q1
    · rename_i hl
      exact ⟨by rw [← r1.length]; exact hl, g1, ds, st1, S1, r1, EPost.mono L1 q1⟩
    · exact q1.elim

variable {P : Program} {w : World} {K : PySem.W.Frag} {mg : Str → Option Value} {base : Heap}
theorem start_env {g : G} {N : List Str} {ds : List D} {vs : List V} (r : Reps K g ds vs) : EnvR K g (L2.start N vs) (startD N.length ds) := by
  have hl := r.length
  refine ⟨by unfold L2.start startD; simp [hl], fun i d h => ?_⟩
  unfold startD at h
  by_cases hi : i < ds.length
  · rw [List.getElem?_append_left (by simpa using hi), List.getElem?_map] at h
    cases e : ds[i]? with
    | none => rw [e] at h; cases h
    | some d' =>
      rw [e] at h; cases h
      obtain ⟨v, ev, rv⟩ := r.get e
      refine ⟨v, ?_, rv⟩
      unfold L2.start
      rw [List.getElem?_append_left (by rw [List.length_map, ← hl]; exact hi), List.getElem?_map, ev]; rfl
  · rw [List.getElem?_append_right (by simpa using hi), List.getElem?_replicate] at h
    split at h <;> cases h
/-- a def's body, told as qb; what it hands back as it is -/
theorem def_raw {qual : Str} {st : Stmt} {f : Addr} {fd : FuncData} {N ps : List Str} {k : Nat} (F : Fun K x qual st f fd) (S : FnScope N ps (defScope st))
    (hb : ∀ (cdv : Value) (A : Around) (outer : List Env) (s : Shared) (H : Hp) (E : XK), Room k (A.deeper (envOfC qual (defScope st) s.heap.objs.size f cdv)) →
      PSs (cxOf (L2.CX P w) P w K mg base N qual (defScope st) f cdv A outer s H E) (defBody st) (tDS ⟨K, T, mg⟩ (fun cls d _ H => E cls d H) qb)) :
    FnOk P w K mg base (L2.CX P w) (k + 1) f fd ps (spD ⟨K, T, mg⟩ ps.length (defRaw N.length qb)) := by
  refine F.okX S (fun vs H Q E h => h.1) fun cdv A outer s H vs Q E hr h => ⟨_, hb cdv A outer s H E hr, ?_⟩
  obtain ⟨hl, g, ds, st0, S0, R, q⟩ := h
  refine ⟨g, startD N.length ds, st0, S0, start_env R, ?_⟩
  unfold defRaw at q
  cases hr2 : qb (startD N.length ds) st0 with
  | none => rw [hr2] at q; exact q.elim
  | some r =>
    obtain ⟨fl, st'⟩ := r
    rw [hr2] at q
    cases fl with
    | rt d => exact fun g' H' L S' v r => q g' H' v L S' r
    | nx ρ => exact fun g' H' L S' σ E => q g' H' .non L S' .non
    | ex n fs ρ => exact fun g' H' L S' σ dx E x => q g' H' dx L S' x
    | _ => exact q.elim

/-! freezing -/
mutual
theorem Rep.cut {g g2 : G} {n : Nat} (hB : ∀ a o, g.B a = some o → g2.B a = some o) (hι : ∀ (l : Nat) (a : Addr), l < n → g.ι[l]? = some a → g2.ι[l]? = some a) : ∀ {d : D} {v : V}, noRef n d = true → Rep K g d v → Rep K g2 d v
  | _, _, _, .non => .non
  | _, _, _, .bl b => .bl b
  | _, _, _, .int b => .int b
  | _, _, _, .str b => .str b
  | _, _, h, .tup q l r => .tup (sqN_mono hB q) l (Reps.cut hB hι (by unfold noRef at h; exact h) r)
  | _, _, h, .tpl q l r => .tpl (sqT_mono hB q) l (Reps.cut hB hι (by unfold noRef at h; exact h) r)
  | _, _, h, .lst q l r => .lst (hB _ _ q) l (Reps.cut hB hι (by unfold noRef at h; exact h) r)
  | _, _, h, .fz q l r => .fz (sqL_mono hB q) l (Reps.cut hB hι (by unfold noRef at h; exact h) r)
  | _, _, h, .ref e => .ref (hι _ _ (by unfold noRef at h; exact of_decide_eq_true h) e)
  | _, _, h, .dk e l r => .dk (hB _ _ e) l (Reps.cut hB hι (by unfold noRef at h; exact h) r)
  | _, _, _, .raw v => .raw v
  | _, _, _, .fn e => .fn e
  | _, _, h, .xc e r => .xc (hB _ _ e) (Reps.cut hB hι (by unfold noRef at h; exact h) r)
theorem Reps.cut {g g2 : G} {n : Nat} (hB : ∀ a o, g.B a = some o → g2.B a = some o) (hι : ∀ (l : Nat) (a : Addr), l < n → g.ι[l]? = some a → g2.ι[l]? = some a) : ∀ {ds : List D} {vs : List V}, noRefs n ds = true → Reps K g ds vs → Reps K g2 ds vs
  | _, _, _, .nil => .nil
  | _, _, h, .cons a t => by
    unfold noRefs at h
    rw [Bool.and_eq_true_iff] at h
    exact .cons (Rep.cut hB hι h.1 a) (Reps.cut hB hι h.2 t)
end
theorem frz_atom {g g2 : G} {st : Sto} {n : Nat} {d d' : D} {v : V} (r : Rep K g d v) (h : frzD st n 0 d = some d') : Rep K g2 d' v := by
  cases r <;> first
    | (cases h; constructor)
    | (exact absurd (show none = some d' from h) (by simp))
theorem frz_rep {g g2 : G} {st : Sto} {H : Hp} {n : Nat} (S : Sim K T g st H) (hB : ∀ a o, g.B a = some o → g2.B a = some o) (hι : ∀ (l : Nat) (a : Addr), l < n → g.ι[l]? = some a → g2.ι[l]? = some a)
    (hF : ∀ (l : Nat) (a : Addr) (vs : List V), n ≤ l → g.ι[l]? = some a → H a = some (.lst vs) → g2.B a = some (.lst vs)) : ∀ (f : Nat) {d d' : D} {v : V}, Rep K g d v → frzD st n f d = some d' → Rep K g2 d' v
  | 0, d, d', v, r, h => frz_atom r h
  | f + 1, d, d', v, r, h => by
    have all : ∀ (xs : List D) {ys : List D} {vs : List V}, Reps K g xs vs → allSome (xs.map (frzD st n f)) = some ys → Reps K g2 ys vs := by
      intro xs
      induction xs with
      | nil => intro ys vs r e; cases r; cases e; exact .nil
      | cons x xs ih =>
        intro ys vs r e
        rw [List.map_cons] at e
        obtain ⟨y, ys', e1, e2, rfl⟩ := allSome_cons e
        cases r with
        | cons r1 r2 => exact .cons (frz_rep S hB hι hF f r1 e1) (ih r2 e2)
    unfold frzD at h
    split at h
    · rename_i xs
      cases q : allSome (xs.map (frzD st n f)) with
      | none => rw [q] at h; cases h
      | some ys =>
        rw [q] at h; cases h
        cases r with
        | tup k l r => exact .tup (sqN_mono hB k) l (all xs r q)
    · rename_i xs
      cases q : allSome (xs.map (frzD st n f)) with
      | none => rw [q] at h; cases h
      | some ys =>
        rw [q] at h; cases h
        cases r with
        | lst k l r => exact .lst (hB _ _ k) l (all xs r q)
    · rename_i ks xs
      cases q : allSome (xs.map (frzD st n f)) with
      | none => rw [q] at h; cases h
      | some ys =>
        rw [q] at h; cases h
        cases r with
        | dk k l r => exact .dk (hB _ _ k) l (all xs r q)
    · rename_i l
      split at h
      · rename_i hl
        cases h
        cases r with
        | ref e => exact .ref (hι _ _ hl e)
      · rename_i hl
        split at h
        · rename_i xs hs
          cases q : allSome (xs.map (frzD st n f)) with
          | none => rw [q] at h; cases h
          | some ys =>
            rw [q] at h; cases h
            cases r with
            | ref e =>
              obtain ⟨ws, h1, h2, h3, h4⟩ := S.obj _ _ _ e hs
              exact .lst (hF l _ ws (by omega) e h2) h3 (all xs h4 q)
        · cases h
    · cases h; cases r; exact .non
    · cases h; cases r; exact .bl _
    · cases h; cases r; exact .int _
    · cases h; cases r; exact .str _
    · cases h
/-- the store's own part is forgotten -/
theorem fin_sim {g0 g : G} {st0 st : Sto} {H0 H : Hp} (S0 : Sim K T g0 st0 H0) (L : Le g0 g H0 H) (S : Sim K T g st H) (hc : (st.take st0.length).all (noRefO st0.length) = true) :
    ∃ g2, Le g0 g2 H0 H ∧ Sim K T g2 (st.take st0.length) H ∧ (∀ a o, g.B a = some o → g2.B a = some o) ∧ (∀ (l : Nat) (a : Addr), l < st0.length → g.ι[l]? = some a → g2.ι[l]? = some a) ∧
      ∀ (l : Nat) (a : Addr) (vs : List V), st0.length ≤ l → g.ι[l]? = some a → H a = some (.lst vs) → g2.B a = some (.lst vs) := by
  have hn0 := S0.len
  have hnl : st0.length ≤ g.ι.length := by
    rcases Nat.lt_or_ge g.ι.length st0.length with h | h
    · have h1 : g.ι.length < g0.ι.length := by omega
      have := L.ge.i g.ι.length _ (List.getElem?_eq_getElem h1)
      have := (List.getElem?_eq_some_iff.mp this).1
      omega
    · exact h
  let B2 : Hp := fun a => if a ∈ g.ι.drop st0.length then (match H a with | some (.lst vs) => some (.lst vs) | _ => g.B a) else g.B a
  have b1 : ∀ a, a ∉ g.ι.drop st0.length → B2 a = g.B a := fun a h => if_neg h
  have b2 : ∀ a o, g.B a = some o → B2 a = some o := fun a o e => by
    by_cases h : a ∈ g.ι.drop st0.length
    · show (if a ∈ g.ι.drop st0.length then _ else _) = _
      rw [if_pos h, S.sub a o e]
      cases o <;> first | rfl | exact e
    · rw [b1 a h]; exact e
  have b3 : ∀ a o, B2 a = some o → H a = some o ∧ ((∃ vs, o = .lst vs) ∨ g.B a = some o) := fun a o e => by
    by_cases h : a ∈ g.ι.drop st0.length
    · have e' : (match H a with | some (.lst vs) => some (HO.lst vs) | _ => g.B a) = some o := by
        have : B2 a = _ := if_pos h
        rw [← this]; exact e
      split at e'
      · rename_i vs hv
        cases e'
        exact ⟨hv, .inl ⟨vs, rfl⟩⟩
      · exact ⟨S.sub a o e', .inr e'⟩
    · rw [b1 a h] at e; exact ⟨S.sub a o e, .inr e⟩
  have i1 : ∀ (l : Nat) (a : Addr), l < st0.length → g.ι[l]? = some a → (g.ι.take st0.length)[l]? = some a := fun l a h e => by rw [List.getElem?_take_of_lt h]; exact e
  have i2 : ∀ (l : Nat) (a : Addr), (g.ι.take st0.length)[l]? = some a → l < st0.length ∧ g.ι[l]? = some a ∧ a ∉ g.ι.drop st0.length := fun l a e => by
    have hl : l < st0.length := by
      have := (List.getElem?_eq_some_iff.mp e).1
      rw [List.length_take] at this; omega
    rw [List.getElem?_take_of_lt hl] at e
    refine ⟨hl, e, fun hd => ?_⟩
    obtain ⟨j, hj⟩ := List.getElem?_of_mem hd
    rw [List.getElem?_drop] at hj
    obtain ⟨h1, q1⟩ := List.getElem?_eq_some_iff.mp e
    obtain ⟨h2, q2⟩ := List.getElem?_eq_some_iff.mp hj
    have := (List.getElem_inj S.nd).mp (q1.trans q2.symm)
    omega
  have f3 : ∀ (l : Nat) (a : Addr) (vs : List V), st0.length ≤ l → g.ι[l]? = some a → H a = some (.lst vs) → B2 a = some (.lst vs) := fun l a vs h e hv => by
    have hm : a ∈ g.ι.drop st0.length := by
      refine List.mem_of_getElem? (i := l - st0.length) ?_
      rw [List.getElem?_drop, show st0.length + (l - st0.length) = l by omega]; exact e
    show (if a ∈ g.ι.drop st0.length then _ else _) = _
    rw [if_pos hm, hv]
  refine ⟨⟨B2, g.ι.take st0.length⟩, ⟨⟨fun a o e => b2 a o (L.ge.b a o e), fun l a e => ?_⟩, fun a o e1 e2 e3 e4 => ?_⟩, ⟨fun a o e => (b3 a o e).1, ?_, S.nd.sublist (List.take_sublist _ _), fun a ha => S.there a (List.mem_of_mem_take ha), fun l a mo e1 e2 => ?_, S.tabs, fun a o e ps => ?_⟩, b2, i1, f3⟩
  · have hl : l < st0.length := by
      have := (List.getElem?_eq_some_iff.mp e).1
      omega
    exact i1 l a hl (L.ge.i l a e)
  · obtain ⟨f1, f2, f3⟩ := L.fr a o e1 e2 e3 e4
    exact ⟨f1, by show B2 a = none; rw [b1 a fun h => f3 (List.mem_of_mem_drop h)]; exact f2, fun h => f3 (List.mem_of_mem_take h)⟩
  · show (g.ι.take st0.length).length = _
    rw [List.length_take, List.length_take, S.len]
  · obtain ⟨hl, e, hd⟩ := i2 l a e1
    have e2' : st[l]? = some mo := by
      rw [List.getElem?_take_of_lt hl] at e2; exact e2
    have hno : noRefO st0.length mo = true := List.all_eq_true.mp hc mo (List.mem_of_getElem? e2)
    have o1 := S.obj l a mo e e2'
    cases mo with
    | lst xs =>
      obtain ⟨vs, h1, h2, h3, h4⟩ := o1
      exact ⟨vs, by show B2 a = none; rw [b1 a hd]; exact h1, h2, h3, Reps.cut (n := st0.length) b2 i1 (by unfold noRefO at hno; exact hno) h4⟩
    | dk ks xs =>
      obtain ⟨vs, h1, h2, h3, h4⟩ := o1
      exact ⟨vs, by show B2 a = none; rw [b1 a hd]; exact h1, h2, h3, Reps.cut (n := st0.length) b2 i1 (by unfold noRefO at hno; exact hno) h4⟩
    | gone => trivial
  · rcases (b3 a o e).2 with ⟨vs, rfl⟩ | q
    · intro z; cases z
    · exact S.tb a o q ps
/-- a def's body, told as qb; the lists that it hands back by value, the others forgotten -/
theorem fin_of_raw {f : Addr} {fd : FuncData} {ps : List Str} {k m n : Nat} (F0 : FnOk P w K mg base (L2.CX P w) k f fd ps (spD ⟨K, T, mg⟩ m (defRaw n qb))) : FnOk P w K mg base (L2.CX P w) k f fd ps (spD ⟨K, T, mg⟩ m (defFin n qb)) := by
  refine F0.imp fun vs H Q E ⟨hl, g, ds, st0, S0, R, q⟩ => ⟨hl, g, ds, st0, S0, R, ?_⟩
  unfold defFin at q
  cases hr : defRaw n qb ds st0 with
  | bad => rw [hr] at q; exact q.elim
  | ok d st1 =>
    rw [hr] at q
    unfold fin at q
    dsimp only at q
    intro g1 H1 v L1 S1 r1
    split at q
    · rename_i d' hd
      split at q
      · rename_i hc
        obtain ⟨g2, L2', S2, b2, i1, f3⟩ := fin_sim S0 L1 S1 hc
        exact q g2 H1 v L2' S2 (frz_rep S1 b2 i1 f3 60 r1 hd)
      · exact q.elim
    · exact q.elim
  | exc n fs st1 =>
    rw [hr] at q
    unfold fin at q
    dsimp only at q
    intro g1 H1 dx L1 S1 x1
    split at q
    · rename_i hc
      rw [Bool.and_eq_true_iff] at hc
      obtain ⟨g2, L2', S2, b2, i1, _⟩ := fin_sim S0 L1 S1 hc.2
      rcases x1 with x1 | ⟨a, vs, x1, x2, x3, x4⟩
      · exact q g2 H1 dx L2' S2 (.inl x1)
      · refine q g2 H1 dx L2' S2 (.inr ⟨a, vs, x1, x2, b2 _ _ x3, Reps.cut (n := st0.length) b2 i1 ?_ x4⟩)
        have h1 := hc.1
        clear x1 x2 x3 x4 hc q hr
        induction fs with
        | nil => rfl
        | cons p fs ih =>
          rw [List.all_cons, Bool.and_eq_true] at h1
          rw [List.map_cons, noRefs, h1.1, ih h1.2]
          rfl
    · exact q.elim
theorem def_fin {qual : Str} {st : Stmt} {f : Addr} {fd : FuncData} {N ps : List Str} {k : Nat} (F : Fun K x qual st f fd) (S : FnScope N ps (defScope st))
    (hb : ∀ (cdv : Value) (A : Around) (outer : List Env) (s : Shared) (H : Hp) (E : XK), Room k (A.deeper (envOfC qual (defScope st) s.heap.objs.size f cdv)) →
      PSs (cxOf (L2.CX P w) P w K mg base N qual (defScope st) f cdv A outer s H E) (defBody st) (tDS ⟨K, T, mg⟩ (fun cls d _ H => E cls d H) qb)) :
    FnOk P w K mg base (L2.CX P w) (k + 1) f fd ps (spD ⟨K, T, mg⟩ ps.length (defFin N.length qb)) :=
  fin_of_raw (def_raw F S hb)
end
end PD
/-! PDSort: sorted of ints, of tuples of ints and tuples of ints. -/
namespace PD
open PySem PySem.Spec PyProof.Rows L2 SrtO

/-! ### strict total orders -/
structure Sto2 {α : Type} (lt : α → α → Bool) : Prop where
  irr : ∀ x, lt x x = false
  tr : ∀ x y z, lt x y = true → lt y z = true → lt x z = true
  tot : ∀ x y, lt x y = false → lt y x = false → x = y
def lexG {α : Type} [DecidableEq α] (lt : α → α → Bool) : List α → List α → Bool
  | [], [] => false
  | [], _ :: _ => true
  | _ :: _, [] => false
  | x :: xs, y :: ys => if x = y then lexG lt xs ys else lt x y
theorem Sto2.asym {α : Type} {lt : α → α → Bool} (O : Sto2 lt) {x y : α} (h : lt x y = true) : lt y x = false := by
  cases q : lt y x
  · rfl
  · have := O.tr x y x h q
    rw [O.irr] at this
    cases this
theorem Sto2.swo {α : Type} {lt : α → α → Bool} (O : Sto2 lt) : Swo lt := by
  refine ⟨fun x y h => O.asym h, fun x y z h1 h2 => ?_⟩
  cases q : lt z x
  · rfl
  · exfalso
    cases p : lt x y
    · have := O.tot x y p h1
      subst this
      rw [q] at h2
      cases h2
    · have := O.tr z x y q p
      rw [this] at h2
      cases h2
theorem sto2_lex {α : Type} [DecidableEq α] {lt : α → α → Bool} (O : Sto2 lt) : Sto2 (lexG lt) := by
  refine ⟨fun x => ?_, fun x => ?_, fun x => ?_⟩
  · induction x with
    | nil => rfl
    | cons a x ih => unfold lexG; rw [if_pos rfl]; exact ih
  · induction x with
    | nil =>
      intro y z h1 h2
      cases y with
      | nil => cases h1
      | cons b y =>
        cases z with
        | nil => cases h2
        | cons c z => rfl
    | cons a x ih =>
      intro y z h1 h2
      cases y with
      | nil => cases h1
      | cons b y =>
        cases z with
        | nil => cases h2
        | cons c z =>
          unfold lexG at h1 h2 ⊢
          split at h1
          · rename_i e
            subst e
            split at h2
            · rename_i e2
              subst e2
              rw [if_pos rfl]
              exact ih _ _ h1 h2
            · rename_i e2
              rw [if_neg e2]
              exact h2
          · rename_i e
            split at h2
            · rename_i e2
              subst e2
              rw [if_neg e]
              exact h1
            · have h3 := O.tr _ _ _ h1 h2
              split
              · rename_i e3
                subst e3
                rw [O.irr] at h3
                cases h3
              · exact h3
  · induction x with
    | nil =>
      intro y h1 h2
      cases y with
      | nil => rfl
      | cons b y => cases h1
    | cons a x ih =>
      intro y h1 h2
      cases y with
      | nil => cases h2
      | cons b y =>
        unfold lexG at h1 h2
        by_cases e : a = b
        · subst e
          rw [if_pos rfl] at h1 h2
          rw [ih _ h1 h2]
        · rw [if_neg e] at h1
          rw [if_neg (Ne.symm e)] at h2
          exact absurd (O.tot _ _ h1 h2) e
theorem sto2_int : Sto2 fun a b : Int => decide (a < b) := by
  refine ⟨fun x => by simp, fun x y z h1 h2 => ?_, fun x y h1 h2 => ?_⟩
  · have a := of_decide_eq_true h1
    have b := of_decide_eq_true h2
    exact decide_eq_true (by omega)
  · have a := of_decide_eq_false h1
    have b := of_decide_eq_false h2
    omega
/-- the order of lists of ints -/
abbrev ltI : List Int → List Int → Bool := lexG fun a b => decide (a < b)
theorem ltI_lexLt : ∀ xs ys : List Int, HT.lexLt xs ys = ltI xs ys
  | [], [] => rfl
  | [], _ :: _ => rfl
  | _ :: _, [] => rfl
  | x :: xs, y :: ys => by
    rw [HT.lexLt_cons]
    show _ = lexG _ _ _
    unfold lexG
    rw [ltI_lexLt xs ys]
/-- the order of items -/
abbrev ltK : List (List Int) → List (List Int) → Bool := lexG ltI
theorem sto2_ltI : Sto2 ltI := sto2_lex sto2_int
theorem sto2_ltK : Sto2 ltK := sto2_lex sto2_ltI

/-! ### sorting in plain Lean -/
def insB {α : Type} (lt : α → α → Bool) (x : α) : List α → List α
  | [] => [x]
  | y :: l => if lt y x = true then y :: insB lt x l else x :: y :: l
def sortB {α : Type} (lt : α → α → Bool) : List α → List α
  | [] => []
  | x :: l => insB lt x (sortB lt l)
theorem insB_perm {α : Type} (lt : α → α → Bool) (x : α) : ∀ l : List α, (insB lt x l).Perm (x :: l)
  | [] => List.Perm.refl _
  | y :: l => by
    unfold insB
    split
    · exact ((insB_perm lt x l).cons y).trans (List.Perm.swap x y l)
    · exact List.Perm.refl _
theorem sortB_perm {α : Type} (lt : α → α → Bool) : ∀ l : List α, (sortB lt l).Perm l
  | [] => List.Perm.refl _
  | x :: l => (insB_perm lt x _).trans ((sortB_perm lt l).cons x)
theorem sortB_length {α : Type} (lt : α → α → Bool) (l : List α) : (sortB lt l).length = l.length := (sortB_perm lt l).length_eq
theorem insB_srtd {α : Type} {lt : α → α → Bool} (O : Swo lt) (x : α) : ∀ {l : List α}, Srtd lt l → Srtd lt (insB lt x l)
  | [], _ => List.pairwise_singleton _ _
  | y :: l, h => by
    unfold insB
    split
    · rename_i q
      refine List.pairwise_cons.mpr ⟨fun z hz => ?_, insB_srtd O x (List.pairwise_cons.mp h).2⟩
      rcases List.mem_cons.mp ((insB_perm lt x l).mem_iff.mp hz) with e | hz
      · rw [e]; exact O.asym _ _ q
      · exact srtd_head h z hz
    · rename_i q
      refine List.pairwise_cons.mpr ⟨fun z hz => ?_, h⟩
      exact O.le_all h (by cases e : lt y x <;> simp_all) z hz
theorem sortB_srtd {α : Type} {lt : α → α → Bool} (O : Swo lt) : ∀ l : List α, Srtd lt (sortB lt l)
  | [] => List.Pairwise.nil
  | x :: l => insB_srtd O x (sortB_srtd O l)
theorem insB_cls {α : Type} {lt : α → α → Bool} (O : Swo lt) (x z : α) : ∀ l : List α, (insB lt x l).filter (SrtO.eqv lt z) = (x :: l).filter (SrtO.eqv lt z)
  | [] => rfl
  | y :: l => by
    unfold insB
    split
    · rename_i q
      have ih := insB_cls O x z l
      by_cases hy : SrtO.eqv lt z y = true
      · have hx : ¬ SrtO.eqv lt z x = true := fun hx => by
          obtain ⟨a1, a2⟩ := eqv_iff.mp hy
          obtain ⟨b1, b2⟩ := eqv_iff.mp hx
          have := O.ltle q b1
          rw [this] at a2
          cases a2
        rw [List.filter_cons_of_pos hy, ih, List.filter_cons_of_neg hx, List.filter_cons_of_neg hx, List.filter_cons_of_pos hy]
      · rw [List.filter_cons_of_neg hy, ih]
        by_cases hx : SrtO.eqv lt z x = true
        · rw [List.filter_cons_of_pos hx, List.filter_cons_of_pos hx, List.filter_cons_of_neg hy]
        · rw [List.filter_cons_of_neg hx, List.filter_cons_of_neg hx, List.filter_cons_of_neg hy]
    · rfl
theorem sortB_stb {α : Type} {lt : α → α → Bool} (O : Swo lt) : ∀ l : List α, Stb lt (sortB lt l) l
  | [] => Stb.refl _
  | x :: l => by
    have ih := sortB_stb O l
    refine ⟨sortB_perm lt _, fun z => ?_⟩
    show (insB lt x (sortB lt l)).filter _ = _
    rw [insB_cls O]
    by_cases hx : SrtO.eqv lt z x = true
    · rw [List.filter_cons_of_pos hx, List.filter_cons_of_pos hx, ih.cls]
    · rw [List.filter_cons_of_neg hx, List.filter_cons_of_neg hx, ih.cls]
theorem sortB_uniq {α : Type} {lt : α → α → Bool} (O : Swo lt) {l m : List α} (h1 : Srtd lt m) (h2 : Stb lt m l) : m = sortB lt l :=
  stb_uniq O h1 (sortB_srtd O l) (h2.trans ⟨(sortB_stb O l).perm.symm, fun x => ((sortB_stb O l).cls x).symm⟩)
theorem insB_map {α β : Type} {la : α → α → Bool} {lb : β → β → Bool} (f : α → β) (x : α) : ∀ (l : List α), (∀ y ∈ l, lb (f y) (f x) = la y x) → insB lb (f x) (l.map f) = (insB la x l).map f
  | [], _ => rfl
  | y :: l, h => by
    rw [List.map_cons]
    unfold insB
    rw [h y List.mem_cons_self]
    split
    · rw [List.map_cons, insB_map f x l fun z hz => h z (List.mem_cons_of_mem _ hz)]
    · rfl
theorem sortB_map {α β : Type} {la : α → α → Bool} {lb : β → β → Bool} (f : α → β) : ∀ (l : List α), (∀ x ∈ l, ∀ y ∈ l, lb (f x) (f y) = la x y) → sortB lb (l.map f) = (sortB la l).map f
  | [], _ => rfl
  | x :: l, h => by
    show insB lb (f x) (sortB lb (l.map f)) = (insB la x (sortB la l)).map f
    rw [sortB_map f l fun a ha b hb => h a (List.mem_cons_of_mem _ ha) b (List.mem_cons_of_mem _ hb)]
    refine insB_map f x _ fun y hy => h y (List.mem_cons_of_mem _ ((sortB_perm la l).mem_iff.mp hy)) x List.mem_cons_self
/-- sorted by keys -/
def sortZ {α : Type} (ks : List (List (List Int))) (xs : List α) : List α := (sortB (fun p q => ltK p.1 q.1) (ks.zip xs)).map (·.2)
theorem sortZ_eq {α : Type} {lt : α → α → Bool} {ks : List (List (List Int))} {xs : List α} (hl : ks.length = xs.length) (h : ∀ p ∈ ks.zip xs, ∀ q ∈ ks.zip xs, lt p.2 q.2 = ltK p.1 q.1) : sortB lt xs = sortZ ks xs := by
  have e := sortB_map (la := fun (p : List (List Int) × α) q => ltK p.1 q.1) (lb := lt) (fun p => p.2) (ks.zip xs) h
  rw [List.map_snd_zip (by omega)] at e
  exact e
theorem sortZ_map {α β : Type} (f : α → β) (ks : List (List (List Int))) (xs : List α) : sortZ ks (xs.map f) = (sortZ ks xs).map f := by
  unfold sortZ
  have e : ks.zip (xs.map f) = (ks.zip xs).map fun p => (p.1, f p.2) := by rw [List.zip_map_right]; rfl
  rw [e, sortB_map (la := fun p q => ltK p.1 q.1) _ _ fun _ _ _ _ => rfl, List.map_map, List.map_map]
  rfl
theorem sortZ_length {α : Type} {ks : List (List (List Int))} {xs : List α} (hl : ks.length = xs.length) : (sortZ ks xs).length = xs.length := by
  unfold sortZ
  rw [List.length_map, sortB_length, List.length_zip]
  omega
theorem sortZ_perm {α : Type} {ks : List (List (List Int))} {xs : List α} (hl : ks.length = xs.length) : (sortZ ks xs).Perm xs := by
  have h := (sortB_perm (fun p q => ltK p.1 q.1) (ks.zip xs)).map (·.2)
  rw [List.map_snd_zip (by omega)] at h
  exact h

/-! ### the machine's items -/
section
variable {prog : Program} {w : World} {A : Around} {E : Value → Shared → Prop} {s : Shared}
/-- one part of an item -/
def KC (h : Heap) (v : Value) (c : List Int) : Prop :=
  (∃ i t, v = .int i t ∧ c = [1, i]) ∨ ∃ a its ns, v = .ref a ∧ IsTup h a its ∧ IntsAre its.toList ns ∧ c = 0 :: ns
inductive KCs (h : Heap) : List Value → List (List Int) → Prop
  | nil : KCs h [] []
  | cons {v vs c cs} : KC h v c → KCs h vs cs → KCs h (v :: vs) (c :: cs)
/-- an item -/
def KI (h : Heap) (v : Value) (k : List (List Int)) : Prop := ∃ a its, v = .ref a ∧ IsTup h a its ∧ KCs h its.toList k
def compat : List (List Int) → List (List Int) → Bool
  | a :: as, b :: bs => a.head? == b.head? && compat as bs
  | _, _ => true
theorem intsAre_inj : ∀ {vs : List Value} {ns ms : List Int}, IntsAre vs ns → IntsAre vs ms → ns = ms
  | _, _, _, .nil, .nil => rfl
  | _, _, _, .cons _ _ r, .cons _ _ q => by rw [intsAre_inj r q]
theorem isTup_inj {h : Heap} {a : Addr} {i j : Array Value} (x : IsTup h a i) (y : IsTup h a j) : i = j := by
  obtain ⟨o, ho, _, n, d⟩ := x
  obtain ⟨o', ho', _, n', d'⟩ := y
  rw [ho] at ho'; cases ho'
  rw [d] at d'; cases d'
  rfl
theorem KC.inj {h : Heap} {v : Value} {c d : List Int} (x : KC h v c) (y : KC h v d) : c = d := by
  rcases x with ⟨i, t, rfl, rfl⟩ | ⟨a, its, ns, rfl, h1, h2, rfl⟩
  · rcases y with ⟨j, u, e, rfl⟩ | ⟨a, its, ns, e, _⟩
    · cases e; rfl
    · cases e
  · rcases y with ⟨j, u, e, rfl⟩ | ⟨a', its', ns', e, h1', h2', rfl⟩
    · cases e
    · cases e
      have := isTup_inj h1 h1'
      subst this
      rw [intsAre_inj h2 h2']
theorem KCs.inj {h : Heap} : ∀ {vs : List Value} {c d : List (List Int)}, KCs h vs c → KCs h vs d → c = d
  | _, _, _, .nil, .nil => rfl
  | _, _, _, .cons a r, .cons b q => by rw [a.inj b, KCs.inj r q]
theorem KI.inj {h : Heap} {v : Value} {c d : List (List Int)} (x : KI h v c) (y : KI h v d) : c = d := by
  obtain ⟨a, its, rfl, h1, h2⟩ := x
  obtain ⟨a', its', e, h1', h2'⟩ := y
  cases e
  have := isTup_inj h1 h1'
  subst this
  exact h2.inj h2'
abbrev KeepTup (h h' : Heap) : Prop := ∀ b its, IsTup h b its → IsTup h' b its
theorem KC.keeps {h h' : Heap} (kp : KeepTup h h') {v : Value} {c : List Int} (x : KC h v c) : KC h' v c := by
  rcases x with ⟨i, t, rfl, rfl⟩ | ⟨a, its, ns, rfl, h1, h2, rfl⟩
  · exact .inl ⟨_, _, rfl, rfl⟩
  · exact .inr ⟨_, _, _, rfl, kp _ _ h1, h2, rfl⟩
theorem KCs.keeps {h h' : Heap} (kp : KeepTup h h') : ∀ {vs : List Value} {c : List (List Int)}, KCs h vs c → KCs h' vs c
  | _, _, .nil => .nil
  | _, _, .cons a r => .cons (a.keeps kp) (KCs.keeps kp r)
theorem KI.keeps {h h' : Heap} (kp : KeepTup h h') {v : Value} {c : List (List Int)} (x : KI h v c) : KI h' v c := by
  obtain ⟨a, its, rfl, h1, h2⟩ := x
  exact ⟨_, _, rfl, kp _ _ h1, h2.keeps kp⟩
theorem KCs.length {h : Heap} : ∀ {vs : List Value} {c : List (List Int)}, KCs h vs c → vs.length = c.length
  | _, _, .nil => rfl
  | _, _, .cons _ r => by simp [KCs.length r]

theorem intsAre_get : ∀ {vs : List Value} {ns : List Int}, IntsAre vs ns → ∀ (j : Nat) (h : j < vs.length), ∃ i t, vs[j] = Value.int i t ∧ ns[j]? = some i
  | _, _, .nil, j, h => absurd h (by simp)
  | _, _, .cons n t r, 0, _ => ⟨n, t, rfl, rfl⟩
  | _, _, .cons n t r, j + 1, h => by
    obtain ⟨i, u, e, q⟩ := intsAre_get r j (by simpa using h)
    exact ⟨i, u, by simpa using e, by simpa using q⟩
theorem eq_all {ns ms : List Int} : ((List.range (min ns.length ms.length)).all (fun j => ns[j]? == ms[j]?) && ns.length == ms.length) = decide (ns = ms) := by
  apply Bool.eq_iff_iff.mpr
  rw [Bool.and_eq_true, List.all_eq_true, decide_eq_true_eq]
  constructor
  · rintro ⟨h, hl⟩
    have hl := eq_of_beq hl
    refine List.ext_getElem? fun j => ?_
    by_cases hj : j < ns.length
    · exact eq_of_beq (h j (List.mem_range.mpr (by omega)))
    · rw [List.getElem?_eq_none (by omega), List.getElem?_eq_none (by omega)]
  · rintro rfl
    exact ⟨fun j _ => by simp, by simp⟩
theorem kc_eq {v u : Value} {c d : List Int} (hu : A.units + 4 < cLine) (x : KC s.heap v c) (y : KC s.heap u d) (hk : c.head? = d.head?) : SeqAt.EqAt A s v u (decide (c = d)) := by
  rcases x with ⟨i, t, rfl, rfl⟩ | ⟨a, its, ns, rfl, h1, h2, rfl⟩
  · rcases y with ⟨j, t', rfl, rfl⟩ | ⟨_, _, _, _, _, _, rfl⟩
    · have e : decide (([1, i] : List Int) = [1, j]) = (i == j) := by
        by_cases q : i = j
        · subst q; simp
        · simp [q]
      rw [e]
      exact SeqAt.EqAt.int_int _ _ _ _
    · cases hk
  · rcases y with ⟨j, t', rfl, rfl⟩ | ⟨a', its', ms, rfl, g1, g2, rfl⟩
    · cases hk
    · by_cases e : a = a'
      · subst e
        have := isTup_inj h1 g1
        subst this
        rw [intsAre_inj h2 g2, decide_eq_true rfl]
        exact SeqAt.EqAt.same _
      · refine SeqAt.EqAt.of_refs e ?_
        have hl1 : its.size = ns.length := by rw [← h2.length]; simp
        have hl2 : its'.size = ms.length := by rw [← g2.length]; simp
        have r := SeqAt.RcAt.tuples (A := A) (s := s) (e := fun j => ns[j]? == ms[j]?) (l := a) (b := a') (items := its) (items2 := its') h1 g1 (by omega) fun j j1 j2 => by
          obtain ⟨i, t, e1, q1⟩ := intsAre_get h2 j (by simpa using j1)
          obtain ⟨i', t', e2, q2⟩ := intsAre_get g2 j (by simpa using j2)
          have e1' : its[j] = Value.int i t := by simpa using e1
          have e2' : its'[j] = Value.int i' t' := by simpa using e2
          rw [e1', e2', q1, q2]
          have : ((some i == some i') : Bool) = (i == i') := by simp
          rw [this]
          exact SeqAt.EqAt.int_int _ _ _ _
        rw [hl1, hl2, eq_all] at r
        have e2 : decide ((0 : Int) :: ns = 0 :: ms) = decide (ns = ms) := by simp
        rw [e2]
        exact r
theorem ltI_cons (x : Int) (xs ys : List Int) : ltI (x :: xs) (x :: ys) = ltI xs ys := by
  show lexG _ _ _ = _
  rw [lexG, if_pos rfl]
theorem oneLt_intsX (c : Bool) {p q : Int} {t u : Tok} {Q : Bool → Shared → Prop} (h : Q (decide (p < q)) s) : wpAny (model prog w) A (oneLt' c (.int p t) (.int q u)) Q E s := by
  cases c
  · exact PySem.W.kat_one _ _ (PyProof.Rows.lt_int (Q := PySem.W.BoolBack Q) h)
  · exact oneLt_int h
theorem kc_lt {f : Bool} {v u : Value} {c d : List Int} {Q : Bool → Shared → Prop} (hu : A.units + 4 < cLine) (x : KC s.heap v c) (y : KC s.heap u d) (hk : c.head? = d.head?) (hf : f = true → c.head? = some 1) (h : Q (ltI c d) s) :
    wpAny (model prog w) A (oneLt' f v u) Q E s := by
  rcases x with ⟨i, t, rfl, rfl⟩ | ⟨a, its, ns, rfl, h1, h2, rfl⟩
  · rcases y with ⟨j, t', rfl, rfl⟩ | ⟨_, _, _, _, _, _, rfl⟩
    · refine oneLt_intsX f ?_
      have e : ltI [1, i] [1, j] = decide (i < j) := by
        rw [ltI_cons]
        show lexG _ _ _ = _
        rw [lexG]
        split
        · rename_i e; subst e; simp [lexG]
        · rfl
      rw [e] at h
      exact h
    · cases hk
  · rcases y with ⟨j, t', rfl, rfl⟩ | ⟨a', its', ms, rfl, g1, g2, rfl⟩
    · cases hk
    · have ef : f = false := by
        cases f
        · rfl
        · exact absurd (hf rfl) (by simp)
      subst ef
      refine PySem.W.kat_one _ _ (HT.lt_tupInts h1 g1 h2 g2 (by omega) (Q := PySem.W.BoolBack Q) ?_)
      rw [ltI_lexLt, ← ltI_cons 0]
      exact h
theorem kcs_lex {f : Bool} : ∀ {xs ys : List Value} {cs ds : List (List Int)} (i : Nat), A.units + 4 < cLine → KCs s.heap xs cs → KCs s.heap ys ds → compat cs ds = true → (f = true → i = 0 → ∀ c, cs.head? = some c → c.head? = some 1) →
    PySem.W.KatLex prog w A f (decide (xs.length < ys.length)) (fun r s' => s' = s ∧ r = ltK cs ds) (xs.zip ys) i s
  | _, _, _, _, i, hu, .nil, .nil, _, _ => PySem.W.kat_nil ⟨rfl, rfl⟩
  | _, _, _, _, i, hu, .nil, .cons a r, _, _ => by
    refine PySem.W.kat_nil ⟨rfl, ?_⟩
    simp [ltK, lexG]
  | _, _, _, _, i, hu, .cons a r, .nil, _, _ => by
    refine PySem.W.kat_nil ⟨rfl, ?_⟩
    simp [ltK, lexG]
  | _, _, _, _, i, hu, .cons (c := c) (cs := cs) a r, .cons (c := d) (cs := ds) b q, hc, hf => by
    unfold compat at hc
    obtain ⟨h1, h2⟩ := Bool.and_eq_true_iff.mp hc
    have h1 := eq_of_beq h1
    refine PySem.W.kat_cons (kc_eq hu a b h1 prog w _ _ ?_)
    refine PySem.W.kat_go (fun e => ?_) (fun e => ?_)
    · have e : c = d := of_decide_eq_true e
      subst e
      refine PySem.W.kat_yes ?_
      have ih := kcs_lex (f := f) (i + 1) hu r q h2 fun _ h => by omega
      have e2 : ltK (c :: cs) (c :: ds) = ltK cs ds := by
        show lexG _ _ _ = _
        rw [lexG, if_pos rfl]
      rw [e2]
      simp only [List.length_cons, Nat.add_lt_add_iff_right]
      exact ih
    · have e : c ≠ d := of_decide_eq_false e
      refine PySem.W.kat_no (kc_lt hu a b h1 (fun h => ?_) ⟨rfl, ?_⟩)
      · obtain ⟨f1, i0⟩ := Bool.and_eq_true_iff.mp h
        exact hf f1 (eq_of_beq i0) c rfl
      · show _ = lexG _ _ _
        rw [lexG, if_neg e]
end

section
variable {prog : Program} {w : World} {A : Around} {E : Value → Shared → Prop} {s : Shared}
open Classical in
noncomputable def keyAt (h : Heap) (v : Value) : List (List Int) := if q : ∃ k, KI h v k then choose q else []
theorem keyAt_eq {h : Heap} {v : Value} {k : List (List Int)} (x : KI h v k) : keyAt h v = k := by
  unfold keyAt
  rw [dif_pos ⟨k, x⟩]
  exact (Classical.choose_spec (⟨k, x⟩ : ∃ k, KI h v k)).inj x
inductive KIs (h : Heap) : List Value → List (List (List Int)) → Prop
  | nil : KIs h [] []
  | cons {v vs k ks} : KI h v k → KIs h vs ks → KIs h (v :: vs) (k :: ks)
theorem KIs.mem {h : Heap} : ∀ {vs : List Value} {ks : List (List (List Int))}, KIs h vs ks → ∀ v ∈ vs, ∃ k ∈ ks, KI h v k
  | _, _, .nil, v, hv => absurd hv (by simp)
  | _, _, .cons a r, v, hv => by
    rcases List.mem_cons.mp hv with rfl | hv
    · exact ⟨_, List.mem_cons_self, a⟩
    · obtain ⟨k, h1, h2⟩ := KIs.mem r v hv
      exact ⟨k, List.mem_cons_of_mem _ h1, h2⟩
theorem KIs.length {h : Heap} : ∀ {vs : List Value} {ks : List (List (List Int))}, KIs h vs ks → vs.length = ks.length
  | _, _, .nil => rfl
  | _, _, .cons _ r => by simp [KIs.length r]
theorem KIs.zip {h : Heap} : ∀ {vs : List Value} {ks : List (List (List Int))}, KIs h vs ks → ∀ p ∈ ks.zip vs, KI h p.2 p.1
  | _, _, .nil, p, hp => absurd hp (by simp)
  | _, _, .cons a r, p, hp => by
    rw [List.zip_cons_cons] at hp
    rcases List.mem_cons.mp hp with rfl | hp
    · exact a
    · exact KIs.zip r p hp
/-- any two keys compare -/
def compats (ks : List (List (List Int))) : Bool := ks.all fun a => !a.isEmpty && ks.all fun b => compat a b
theorem compats_spec {ks : List (List (List Int))} (h : compats ks = true) {a b : List (List Int)} (ha : a ∈ ks) (hb : b ∈ ks) : a ≠ [] ∧ compat a b = true := by
  unfold compats at h
  have h := List.all_eq_true.mp h a ha
  obtain ⟨h1, h2⟩ := Bool.and_eq_true_iff.mp h
  refine ⟨fun e => ?_, List.all_eq_true.mp h2 b hb⟩
  subst e
  cases h1
theorem kc_firsts {h : Heap} : ∀ {vs : List Value} {ks : List (List (List Int))}, KIs h vs ks → (∀ k ∈ ks, k ≠ []) →
    ∃ fs, PySem.W.KatTups h vs fs ∧ fs.length = vs.length ∧ ∀ f ∈ fs, ∃ k ∈ ks, ∃ c, k.head? = some c ∧ KC h f c
  | _, _, .nil, _ => ⟨[], PySem.W.KatTups.nil, rfl, fun f hf => absurd hf (by simp)⟩
  | _, _, .cons (v := v) (k := k) a r, hne => by
    obtain ⟨fs, h1, h2, h3⟩ := kc_firsts r fun k hk => hne k (List.mem_cons_of_mem _ hk)
    obtain ⟨b, its, rfl, ⟨o, ho, hc, n, hd⟩, hk⟩ := a
    obtain ⟨f, rest, c, cs, e1, e2, hh⟩ : ∃ f rest c cs, its.toList = f :: rest ∧ k = c :: cs ∧ KC h f c := by
      generalize its.toList = l at hk
      cases hk with
      | nil => exact absurd rfl (hne _ List.mem_cons_self)
      | cons x y => exact ⟨_, _, _, _, rfl, rfl, x⟩
    refine ⟨f :: fs, PySem.W.KatTups.cons ho hc hd ?_ h1, by simp [h2], fun g hg => ?_⟩
    · have : its.toList[0]? = some f := by rw [e1]; rfl
      simpa using this
    · rcases List.mem_cons.mp hg with rfl | hg
      · exact ⟨k, List.mem_cons_self, c, by rw [e2]; rfl, hh⟩
      · obtain ⟨k', a1, c', a2, a3⟩ := h3 g hg
        exact ⟨k', List.mem_cons_of_mem _ a1, c', a2, a3⟩
theorem compat_head {a b : List (List Int)} {c d : List Int} (h : compat a b = true) (ha : a.head? = some c) (hb : b.head? = some d) : c.head? = d.head? := by
  cases a with
  | nil => cases ha
  | cons x a =>
    cases b with
    | nil => cases hb
    | cons y b =>
      cases ha; cases hb
      unfold compat at h
      exact eq_of_beq (Bool.and_eq_true_iff.mp h).1
theorem items_sortable {a : Addr} {vs : List Value} {ks : List (List (List Int))} (hu : A.units + 4 < cLine) (h0 : 0 < vs.length) (hk : KIs s.heap vs ks) (hc : compats ks = true) (ha : ∀ o, s.heap.get? a = some o → o.cls ≠ .type "tuple") :
    SortableO prog w A s a vs fun v u => ltK (keyAt s.heap v) (keyAt s.heap u) := by
  intro h' keep
  have kt : KeepTup s.heap h' := fun b its hb => by
    obtain ⟨o, ho, hcl, n, hd⟩ := hb
    exact ⟨o, keep b o (fun z => by subst z; exact ha o ho hcl) ho, hcl, n, hd⟩
  have hk' : KIs h' vs ks := by
    clear h0 hc
    induction hk with
    | nil => exact .nil
    | cons x _ ih => exact .cons (x.keeps kt) ih
  obtain ⟨fs, f1, f2, f3⟩ := kc_firsts hk' fun k m => (compats_spec hc m m).1
  obtain ⟨f0, fr, ef⟩ : ∃ f0 fr, fs = f0 :: fr := by
    cases fs with
    | nil => rw [List.length_nil] at f2; omega
    | cons x y => exact ⟨x, y, rfl⟩
  obtain ⟨k0, m0, c0, e0, q0⟩ := f3 f0 (by rw [ef]; exact List.mem_cons_self)
  have cmp : ∀ f : Bool, (f = true → c0.head? = some 1) → Cmp prog w A { s with heap := h' } (tuples' f) (fun p => p.1 ∈ vs) (lt2 fun v u => ltK (keyAt s.heap v) (keyAt s.heap u)) := by
    intro f hf p q hp hq
    show wpAny (model prog w) A (keyLt' (tuples' f) p.1 q.1) (fun r s' => s' = { s with heap := h' } ∧ r = ltK (keyAt s.heap p.1) (keyAt s.heap q.1)) (fun _ _ => False) { s with heap := h' }
    obtain ⟨k1, m1, x1⟩ := hk.mem _ hp
    obtain ⟨k2, m2, x2⟩ := hk.mem _ hq
    rw [keyAt_eq x1, keyAt_eq x2]
    obtain ⟨b1, i1, e1, ⟨o1, ho1, _, n1, hd1⟩, y1⟩ := x1.keeps kt
    obtain ⟨b2, i2, e2, ⟨o2, ho2, _, n2, hd2⟩, y2⟩ := x2.keeps kt
    rw [e1, e2]
    refine PySem.W.kat_lt (s := { s with heap := h' }) ho1 hd1 ho2 hd2 ?_
    have r := kcs_lex (prog := prog) (w := w) (A := A) (s := { s with heap := h' }) (f := f) 0 hu y1 y2 (compats_spec hc m1 m2).2 fun hf' _ c hcc => by
      rw [compat_head (compats_spec hc m1 m0).2 hcc e0]
      exact hf hf'
    simp only [Array.length_toList] at r
    exact r
  rcases q0 with ⟨i, t, ei, ec⟩ | ⟨b, its, ns, ei, ht, hi, ec⟩
  · refine ⟨tuples' true, fun Q E hq => ?_, cmp true fun _ => by rw [ec]; rfl⟩
    refine PySem.W.kat_kind (T := .type "int") f1 (by omega) (fun f hm => ?_) (by rfl) ?_
    · obtain ⟨k1, m1, c1, e1, q1⟩ := f3 f hm
      have hh := compat_head (compats_spec hc m1 m0).2 e1 e0
      rcases q1 with ⟨j, u, rfl, _⟩ | ⟨_, _, _, _, _, _, rfl⟩
      · exact PySem.W.Looks.now
      · rw [ec] at hh; cases hh
    · have e : (Value.type "int" != Value.type "tuple") = true := by first | decide +kernel | rfl | decide
      rw [e]
      exact hq
  · refine ⟨tuples' false, fun Q E hq => ?_, cmp false fun h => by cases h⟩
    refine PySem.W.kat_kind (T := .type "tuple") f1 (by omega) (fun f hm => ?_) (by rfl) ?_
    · obtain ⟨k1, m1, c1, e1, q1⟩ := f3 f hm
      have hh := compat_head (compats_spec hc m1 m0).2 e1 e0
      rcases q1 with ⟨j, u, rfl, rfl⟩ | ⟨b', its', ns', rfl, ⟨o, ho, hcl, _⟩, _, _⟩
      · rw [ec] at hh; cases hh
      · have := (show PySem.W.Looks (model prog w) h' (typeOf (.ref b')) o.cls from (PySem.W.Looks.ld ho).andThen .now)
        rw [hcl] at this
        exact this
    · have e : (Value.type "tuple" != Value.type "tuple") = false := by first | decide +kernel | rfl | decide
      rw [e]
      exact hq
/-- sorted(l) of items -/
theorem sorted_items {l : Addr} {vs : List Value} {ks : List (List (List Int))} {Q : Value → Shared → Prop} (hu : A.units + 64 < cLine) (hl : s.heap.IsList l vs.toArray) (hz : vs.length ≤ sizeLine) (hk : KIs s.heap vs ks) (hc : vs.length < 2 ∨ compats ks = true)
    (h : ∀ (h' : Heap) (d : Addr), (∀ b o, s.heap.get? b = some o → h'.get? b = some o) → s.heap.objs.size ≤ d → (∃ n, h'.get? d = some (seqObj "list" (sortZ ks vs).toArray n)) → Q (.ref d) { s with heap := h' }) :
    wpAny (model prog w) A (call (.builtin "sorted") [.ref l]) Q E s := by
  have O : Swo fun v u : Value => ltK (keyAt s.heap v) (keyAt s.heap u) :=
    ⟨fun x y => sto2_ltK.swo.asym _ _, fun x y z => sto2_ltK.swo.tr _ _ _⟩
  refine sorted_ord O hl hz (fun h2 h₁ a ha kk => ?_) fun out hs hb => ?_
  · have kt : KeepTup s.heap h₁ := fun b its hb => by
      obtain ⟨o, ho, hcl, n, hd⟩ := hb
      exact ⟨o, (kk b o ho).2, hcl, n, hd⟩
    have hk' : KIs h₁ vs ks := by
      clear h2 hl hz hc h ha
      induction hk with
      | nil => exact .nil
      | cons x _ ih => exact .cons (x.keeps kt) ih
    have hc : compats ks = true := by
      rcases hc with hc | hc
      · omega
      · exact hc
    have r := items_sortable (prog := prog) (w := w) (A := A.in1.in1) (s := { s with heap := h₁ }) (a := a) (by simp only [PySem.Around.in1_units]; omega) (by omega) hk' hc fun o e => by
      have e' : some o = some (seqObj "list" vs.toArray 0) := e.symm.trans ha
      cases e'
      intro c
      exact absurd (Value.type.inj c) (by decide)
    intro h' keep
    obtain ⟨κ, r1, r2⟩ := r h' keep
    refine ⟨κ, r1, fun p q hp hq => ?_⟩
    obtain ⟨k1, _, x1⟩ := hk.mem _ hp
    obtain ⟨k2, _, x2⟩ := hk.mem _ hq
    have := r2 p q hp hq
    show wpAny _ _ _ (fun r s' => _ ∧ r = ltK (keyAt s.heap p.1) (keyAt s.heap q.1)) _ _
    rw [keyAt_eq x1, keyAt_eq x2]
    have e1 := keyAt_eq (x1.keeps kt)
    have e2 := keyAt_eq (x2.keeps kt)
    rw [show lt2 (fun v u => ltK (keyAt h₁ v) (keyAt h₁ u)) p q = ltK (keyAt h₁ p.1) (keyAt h₁ q.1) from rfl, e1, e2] at this
    exact this
  · have e : out = sortZ ks vs := (sortB_uniq O hs hb).trans (sortZ_eq hk.length.symm fun p hp q hq => by rw [keyAt_eq (hk.zip p hp), keyAt_eq (hk.zip q hq)])
    rw [← e] at h
    exact h _ _ (fun b o e => sortedAll_old e) (Nat.le_succ _) (sortedAll_at s.heap vs out.toArray)
end

/-! ### by the machine's rules -/
def CV (K : PySem.W.Frag) (H : Hp) (x : V) (c : List Int) : Prop := (∃ i, x = .int i ∧ c = [1, i]) ∨ ∃ q ns, x = .ref q ∧ SqT K H q (ns.map V.int) ∧ c = 0 :: ns
inductive CVs (K : PySem.W.Frag) (H : Hp) : List V → List (List Int) → Prop
  | nil : CVs K H [] []
  | cons {x xs c cs} : CV K H x c → CVs K H xs cs → CVs K H (x :: xs) (c :: cs)
def KV (K : PySem.W.Frag) (H : Hp) (x : V) (k : List (List Int)) : Prop := ∃ t ws, x = .ref t ∧ SqT K H t ws ∧ CVs K H ws k
inductive KVs (K : PySem.W.Frag) (H : Hp) : List V → List (List (List Int)) → Prop
  | nil : KVs K H [] []
  | cons {x xs k ks} : KV K H x k → KVs K H xs ks → KVs K H (x :: xs) (k :: ks)
def rSortedK (K : PySem.W.Frag) : List V → Hp → VK → Prop := fun vs H Q => ∃ a xs ks, vs = [.ref a] ∧ SqL K H a xs ∧ KVs K H xs ks ∧ (xs.length < 2 ∨ compats ks = true) ∧ ∀ p, H p = none → Q (.ref p) (upd H p (.lst (sortZ ks xs)))
theorem KVs.refs {K : PySem.W.Frag} {H : Hp} : ∀ {xs : List V} {ks : List (List (List Int))}, KVs K H xs ks → ∀ x ∈ xs, ∃ a, x = V.ref a
  | _, _, .nil, x, hx => absurd hx (by simp)
  | _, _, .cons ⟨t, _, e, _⟩ r, x, hx => by
    rcases List.mem_cons.mp hx with rfl | hx
    · exact ⟨t, e⟩
    · exact KVs.refs r x hx
section
variable {X : Cx}
theorem cv_kc {pins : List (Addr × Obj)} {σ : L2.St} {H : Hp} {s : Shared} (I : Inv X pins σ H s) : ∀ {xs : List V} {us : List Value} {cs : List (List Int)}, CVs X.K H xs cs → Vals xs us → KCs s.heap us cs
  | _, _, _, .nil, .nil => .nil
  | _, _, _, .cons a r, .cons b q => by
    refine .cons ?_ (cv_kc I r q)
    rcases a with ⟨i, rfl, rfl⟩ | ⟨t, ns, rfl, h, rfl⟩
    · obtain ⟨u, rfl⟩ := b
      exact .inl ⟨_, _, rfl, rfl⟩
    · cases b
      obtain ⟨its, rv, ht, _⟩ := I.tuple h
      exact .inr ⟨_, _, _, rfl, ht, intsAre_of rv, rfl⟩
theorem kv_ki {pins : List (Addr × Obj)} {σ : L2.St} {H : Hp} {s : Shared} (I : Inv X pins σ H s) : ∀ {xs : List V} {us : List Value} {ks : List (List (List Int))}, KVs X.K H xs ks → Vals xs us → KIs s.heap us ks
  | _, _, _, .nil, .nil => .nil
  | _, _, _, .cons a r, .cons b q => by
    refine .cons ?_ (kv_ki I r q)
    obtain ⟨t, ws, rfl, h, c⟩ := a
    cases b
    obtain ⟨its, rv, ht, _⟩ := I.tuple h
    exact ⟨_, _, rfl, ht, cv_kc I c rv⟩
theorem cr_sortedK (hu : X.A.units + 64 < cLine) : CallR X (.builtin "sorted") (rSortedK X.K) := by
  intro pins s σ H vs us Q I r h
  obtain ⟨a, xs, ks, rfl, hs, hx, hc, q⟩ := h
  obtain ⟨its, rv, hl, hz⟩ := I.list hs
  rw [Vals.ref1 r]
  obtain ⟨e1, e2⟩ := refs_back rv hx.refs
  have hk := kv_ki I hx rv
  have el : ks.length = its.length := hk.length.symm
  refine sorted_items hu hl.isList (by rw [← rv.length]; exact hz) hk (by rw [← rv.length]; exact hc) fun h' d kp hd hn => ?_
  have h3 : ∀ u ∈ sortZ ks its, ∃ a, u = Value.ref a := fun u hu => e2 u ((sortZ_perm el).mem_iff.mp hu)
  obtain ⟨n, hn⟩ := hn
  have eo : sortZ ks xs = (sortZ ks its).map backV := by rw [e1, sortZ_map]
  refine ⟨.ref d, upd H d (.lst (sortZ ks xs)), I.laid (t' := s.toks) kp hd ⟨?_, sortZ ks its, n, by rw [eo]; exact vals_back h3, hn⟩, rfl, q d (I.hok.fresh hd)⟩
  rw [sortZ_length (by rw [el, rv.length])]
  exact hz
def rSD (K : PySem.W.Frag) : List V → Hp → VK → Prop := fun vs H Q => rSortedI K vs H Q ∨ rSortedK K vs H Q
theorem cr_sortedD (hu : X.A.units + 65 < cLine) : CallR X (.builtin "sorted") (rSD X.K) := by
  intro pins s σ H vs us Q I r h
  rcases h with h | h
  · exact cr_sortedI _ _ _ _ _ _ _ I r h
  · exact cr_sortedK (by omega) _ _ _ _ _ _ _ I r h
end

/-! ### of data -/
def cKey : D → Option (List Int)
  | .int i => some [1, i]
  | .tup ds => (allInt ds).map (0 :: ·)
  | _ => none
def iKey : D → Option (List (List Int))
  | .tup ds => allSome (ds.map cKey)
  | _ => none
def iiKey : D → Option (List (List Int))
  | .int i => some [[1, i]]
  | _ => none
def bSorted (m : Bool) (xs : List D) (st : Sto) : Out D := match xs with
  | [x] => (match litems st x with
    | some ys => (match allSome (ys.map iiKey) with
      | some ks => newL m (sortZ ks ys) st
      | none => match allSome (ys.map iKey) with
        | some ks => if ys.length < 2 ∨ compats ks = true then newL m (sortZ ks ys) st else .bad
        | none => .bad)
    | none => .bad)
  | _ => .bad
theorem allSome_len {α : Type} : ∀ {l : List (Option α)} {r : List α}, allSome l = some r → l.length = r.length
  | [], r, h => by cases h; rfl
  | none :: l, r, h => by cases h
  | some a :: l, r, h => by
    unfold allSome at h
    cases q : allSome l with
    | none => rw [q] at h; cases h
    | some b => rw [q] at h; cases h; simp [allSome_len q]
theorem allSome_consK {α : Type} {o : Option α} {l : List (Option α)} {r : List α} (h : allSome (o :: l) = some r) : ∃ a b, o = some a ∧ allSome l = some b ∧ r = a :: b := by
  cases o with
  | none => cases h
  | some a =>
    unfold allSome at h
    cases q : allSome l with
    | none => rw [q] at h; cases h
    | some b => rw [q] at h; cases h; exact ⟨a, b, rfl, rfl, rfl⟩
theorem Reps.zip {K : PySem.W.Frag} {g : G} {κ : Type} : ∀ {ks : List κ} {ds : List D} {vs : List V}, Reps K g ds vs → ks.length = ds.length → ∃ z : List (κ × D × V), ks.zip ds = z.map (fun p => (p.1, p.2.1)) ∧ ks.zip vs = z.map (fun p => (p.1, p.2.2)) ∧ ∀ p ∈ z, Rep K g p.2.1 p.2.2
  | [], _, _, .nil, _ => ⟨[], rfl, rfl, fun p hp => absurd hp (by simp)⟩
  | k :: ks, _, _, .cons (d := d) (v := v) a t, h => by
    obtain ⟨z, h1, h2, h3⟩ := Reps.zip (ks := ks) t (by simpa using h)
    refine ⟨(k, d, v) :: z, by simp [h1], by simp [h2], fun p hp => ?_⟩
    rcases List.mem_cons.mp hp with rfl | hp
    · exact a
    · exact h3 p hp
  | [], _, _, .cons _ _, h => by simp at h
  | _ :: _, _, _, .nil, h => by simp at h
theorem reps_of {K : PySem.W.Frag} {g : G} {κ : Type} : ∀ (z : List (κ × D × V)), (∀ p ∈ z, Rep K g p.2.1 p.2.2) → Reps K g (z.map fun p => p.2.1) (z.map fun p => p.2.2)
  | [], _ => .nil
  | p :: z, h => .cons (h p List.mem_cons_self) (reps_of z fun q hq => h q (List.mem_cons_of_mem _ hq))
theorem Reps.sortZ {K : PySem.W.Frag} {g : G} {ks : List (List (List Int))} {ds : List D} {vs : List V} (r : Reps K g ds vs) (hl : ks.length = ds.length) : Reps K g (sortZ ks ds) (sortZ ks vs) := by
  obtain ⟨z, h1, h2, h3⟩ := r.zip hl
  unfold PD.sortZ
  rw [h1, h2, sortB_map (la := fun (p : List (List Int) × D × V) q => ltK p.1 q.1) (fun p : List (List Int) × D × V => (p.1, p.2.1)) _ fun _ _ _ _ => rfl, sortB_map (la := fun (p : List (List Int) × D × V) q => ltK p.1 q.1) (fun p : List (List Int) × D × V => (p.1, p.2.2)) _ fun _ _ _ _ => rfl, List.map_map, List.map_map]
  exact reps_of _ fun p hp => h3 p ((sortB_perm _ z).mem_iff.mp hp)
theorem iiKey_all : ∀ {ds : List D} {ks : List (List (List Int))}, allSome (ds.map iiKey) = some ks → ∃ ns : List Int, ds = ns.map D.int ∧ ks = ns.map fun i => [[1, i]]
  | [], ks, h => by cases h; exact ⟨[], rfl, rfl⟩
  | d :: ds, ks, h => by
    obtain ⟨a, b, h1, h2, rfl⟩ := allSome_consK h
    obtain ⟨ns, rfl, rfl⟩ := iiKey_all h2
    cases d <;> cases h1
    exact ⟨_ :: ns, rfl, rfl⟩
theorem reps_ints {K : PySem.W.Frag} {g : G} : ∀ {ns : List Int} {vs : List V}, Reps K g (ns.map D.int) vs → vs = ns.map V.int
  | [], _, .nil => rfl
  | n :: ns, _, .cons a t => by cases a; rw [reps_ints t]; rfl
theorem reps_ofInts {K : PySem.W.Frag} {g : G} : ∀ (ns : List Int), Reps K g (ns.map D.int) (ns.map V.int)
  | [] => .nil
  | n :: ns => .cons (.int n) (reps_ofInts ns)
theorem allInt_ofK : ∀ {ds : List D} {ns : List Int}, allInt ds = some ns → ds = ns.map D.int
  | [], ns, h => by cases h; rfl
  | d :: ds, ns, h => by
    cases d <;> first | cases h | skip
    unfold allInt at h
    cases q : allInt ds with
    | none => rw [q] at h; cases h
    | some ms => rw [q] at h; cases h; rw [allInt_ofK q]; rfl
theorem cvs_of {K : PySem.W.Frag} {g : G} : ∀ {ds : List D} {vs : List V} {cs : List (List Int)}, Reps K g ds vs → allSome (ds.map cKey) = some cs → CVs K g.B vs cs
  | [], _, _, .nil, h => by cases h; exact .nil
  | d :: ds, _, cs, .cons a t, h => by
    obtain ⟨c, b, h1, h2, rfl⟩ := allSome_consK h
    refine .cons ?_ (cvs_of t h2)
    cases a <;> first | cases h1 | skip
    · exact .inl ⟨_, rfl, rfl⟩
    · rename_i xs q ws hq hl hr
      replace h1 : (allInt xs).map (0 :: ·) = some c := h1
      cases e : allInt xs with
      | none => rw [e] at h1; cases h1
      | some ns =>
        rw [e] at h1; cases h1
        have := allInt_ofK e
        subst this
        have := reps_ints hr
        subst this
        exact .inr ⟨_, _, rfl, hq.t, rfl⟩
theorem kvs_of {K : PySem.W.Frag} {g : G} : ∀ {ds : List D} {vs : List V} {ks : List (List (List Int))}, Reps K g ds vs → allSome (ds.map iKey) = some ks → KVs K g.B vs ks
  | [], _, _, .nil, h => by cases h; exact .nil
  | d :: ds, _, cs, .cons a t, h => by
    obtain ⟨c, b, h1, h2, rfl⟩ := allSome_consK h
    refine .cons ?_ (kvs_of t h2)
    cases a <;> first | cases h1 | skip
    rename_i xs q ws hq hl hr
    exact ⟨_, _, rfl, hq.t, cvs_of hr h1⟩
theorem CVs.mono {K : PySem.W.Frag} {B H : Hp} (hs : ∀ a o, B a = some o → H a = some o) : ∀ {vs : List V} {cs : List (List Int)}, CVs K B vs cs → CVs K H vs cs
  | _, _, .nil => .nil
  | _, _, .cons a r => by
    refine .cons ?_ (CVs.mono hs r)
    rcases a with h | ⟨q, ns, h1, h2, h3⟩
    · exact .inl h
    · exact .inr ⟨q, ns, h1, sqT_mono hs h2, h3⟩
theorem KVs.mono {K : PySem.W.Frag} {B H : Hp} (hs : ∀ a o, B a = some o → H a = some o) : ∀ {vs : List V} {cs : List (List (List Int))}, KVs K B vs cs → KVs K H vs cs
  | _, _, .nil => .nil
  | _, _, .cons ⟨t, ws, h1, h2, h3⟩ r => .cons ⟨t, ws, h1, sqT_mono hs h2, h3.mono hs⟩ (KVs.mono hs r)
theorem ltK_int (i j : Int) : ltK [[1, i]] [[1, j]] = decide (i < j) := by
  by_cases e : i = j
  · subst e; simp [ltK, ltI, lexG]
  · simp [ltK, ltI, lexG, e]
theorem sortZ_ints (ns ns' : List Int) (hp : ns'.Perm ns) (hs : ns'.Pairwise (· ≤ ·)) : ns' = sortZ (ns.map fun i => [[1, i]]) ns := by
  have O := sto2_int.swo
  have st : Stb (fun a b : Int => decide (a < b)) ns' ns := by
    refine ⟨hp, fun x => ?_⟩
    have e : SrtO.eqv (fun a b : Int => decide (a < b)) x = fun y => decide (x = y) := funext fun y => by
      unfold SrtO.eqv
      by_cases h : x = y
      · subst h; simp
      · simp only [h, decide_false]
        rcases Int.lt_or_gt_of_ne h with q | q
        · simp [q]
        · simp [q]
    rw [e]
    have h1 := fun l : List Int => List.filter_eq (l := l) x
    have e3 : ∀ l : List Int, l.filter (fun y => decide (x = y)) = List.replicate (l.count x) x := fun l => by
      rw [← List.filter_beq]
      congr 1
      funext y
      by_cases h : x = y
      · subst h; simp
      · simp [h, Ne.symm h]
    rw [e3, e3, hp.count_eq]
  have sr : Srtd (fun a b : Int => decide (a < b)) ns' := hs.imp fun h => by simp; omega
  refine (sortB_uniq O sr st).trans (sortZ_eq (by simp) fun p hp q hq => ?_)
  have key : ∀ (l : List Int) (p : List (List Int) × Int), p ∈ (l.map fun i => [[(1:Int), i]]).zip l → p.1 = [[1, p.2]] := by
    intro l
    induction l with
    | nil => intro p hp; simp at hp
    | cons a l ih =>
      intro p hp
      rw [List.map_cons, List.zip_cons_cons] at hp
      rcases List.mem_cons.mp hp with rfl | hp
      · rfl
      · exact ih p hp
  rw [key ns p hp, key ns q hq, ltK_int]
section
variable {X : Cx} {T : List (Addr × Str)}
theorem does_sorted (m : Bool) : DoesB X T (rSD X.K) (bSorted m) := by
  intro W σ g st H ds vs Q S r h
  unfold bSorted at h
  split at h
  · split at h
    · rename_i ys e
      cases r with
      | cons r1 r2 =>
        cases r2
        obtain ⟨a, ws, rfl, h1, h2, h3⟩ := S.litems r1 e
        split at h
        · rename_i ks ek
          obtain ⟨ns, rfl, rfl⟩ := iiKey_all ek
          have := reps_ints h3
          subst this
          refine .inl ⟨a, ns, rfl, SqL.of h1, fun ns' p hp hs hf => ?_⟩
          have e := sortZ_ints ns ns' hp hs
          have e1 : sortZ (ns.map fun i => [[(1:Int), i]]) (ns.map D.int) = ns'.map D.int := by rw [sortZ_map, ← e]
          rw [e1] at h
          exact newL_ok S (by rw [List.length_map, hp.length_eq]; simpa using h2) (reps_ofInts ns') h p hf
        · split at h
          · rename_i ks ek
            split at h
            · rename_i hc
              have hl : ks.length = ys.length := by rw [← allSome_len ek, List.length_map]
              refine .inr ⟨a, ws, ks, rfl, SqL.of h1, (kvs_of h3 ek).mono S.sub, by rw [← h3.length]; exact hc, newL_ok S ?_ (h3.sortZ hl) h⟩
              rw [sortZ_length (by rw [hl, h3.length])]
              exact h2
            · exact h.elim
          · exact h.elim
    · exact h.elim
  · exact h.elim
end
end PD
/-! PDRules6: odds and ends. -/
namespace PD
open PySem PySem.Spec PyProof.Rows L2
section
variable {X : Cx} {T : List (Addr × Str)} {W : WX} {a b c e e2 elt iter : Expr} {es ifs : List Expr} {fa fb fc fe : SE} {fs : SA} {ft fu : ST} {fi : SI} {pos p tpos : Pos} {x : Str}
theorem pt_pw {tt : TT} (h : PW X e tt) : PT X e tt := h.pt
theorem lookup_relab {env : Env} {x : Str} : ∀ {names : List (Str × NameKind)}, (names.lookup x = some .cell ∨ names.lookup x = some .free) →
    (names.map fun (n, k) => if (k == NameKind.free && env.scope.kind == .function && env.kindOf n == some .cell) then (n, NameKind.cell) else (n, k)).lookup x = some .cell ∨ (names.map fun (n, k) => if (k == NameKind.free && env.scope.kind == .function && env.kindOf n == some .cell) then (n, NameKind.cell) else (n, k)).lookup x = some .free
  | [], h => by simp at h
  | (n, k) :: r, h => by
    rw [List.map_cons]
    by_cases e : x = n
    · subst e
      simp only [List.lookup_cons, beq_self_eq_true] at h
      dsimp only
      split
      · left; simp [List.lookup_cons]
      · rcases h with h | h
        · left; cases h; simp [List.lookup_cons]
        · right; cases h; simp [List.lookup_cons]
    · have en : (x == n) = false := by simpa using e
      simp only [List.lookup_cons, en] at h
      have ih := lookup_relab (env := env) h
      have e2 : ((if (k == NameKind.free && env.scope.kind == .function && env.kindOf n == some .cell) = true then (n, NameKind.cell) else (n, k)) : Str × NameKind).1 = n := by split <;> rfl
      generalize hz : (if (k == NameKind.free && env.scope.kind == .function && env.kindOf n == some .cell) = true then (n, NameKind.cell) else (n, k) : Str × NameKind) = z at e2
      dsimp only
      rw [hz]
      obtain ⟨z1, z2⟩ := z
      simp only at e2
      subst e2
      simp only [List.lookup_cons, en]
      exact ih
theorem blk_relabel {N : List Str} {sc scope : Scope} {own : List (Str × Nat)} {env : Env} (h : BlkOk N sc scope own) : BlkOk N (relabel sc env) scope own :=
  ⟨h.kind, h.uniq, h.ix, fun y hy e => lookup_relab (h.free y hy e), h.own⟩
theorem pd_lcN {tg : Expr} {X0 : Cx} {s0 : Shared} {H0 : Hp} {sc0 : Scope} {cl0 : List (Str × Addr)} {C0 : Addr} {fp0 : List Addr} {scope : Scope} {own : List (Str × Nat)} {t : TG} {gd : TgD} {sl : List Nat} (m : Bool) (hc : X0.calm = true) (hN : X0.N.Nodup) (hi : PI (X0.blk s0 H0 sc0 (compEnvC sc0 cl0 C0 X0.env) fp0) tg iter (tDI (zX X0 T) W fi)) (ok : BlkOk X0.N sc0 scope own) (ht : TgOk (zX X0 T) t gd sl) (hsl : ∀ i ∈ sl, i ∈ own.map (·.2))
    (hg : ∀ (s : Shared) (H : Hp) (C : Addr) (cl : List (Str × Addr)) (fp : List Addr), PG ((X0.blk s0 H0 sc0 (compEnvC sc0 cl0 C0 X0.env) fp0).blk s H scope (compEnvC scope cl C (X0.blk s0 H0 sc0 (compEnvC sc0 cl0 C0 X0.env) fp0).env) fp) tg t)
    (hif : ∀ (s : Shared) (H : Hp) (C : Addr) (cl : List (Str × Addr)) (fp : List Addr), PTs ((X0.blk s0 H0 sc0 (compEnvC sc0 cl0 C0 X0.env) fp0).blk s H scope (compEnvC scope cl C (X0.blk s0 H0 sc0 (compEnvC sc0 cl0 C0 X0.env) fp0).env) fp) ifs (tDT (zX X0 T) W0 ft))
    (he : ∀ (s : Shared) (H : Hp) (C : Addr) (cl : List (Str × Addr)) (fp : List Addr), PE ((X0.blk s0 H0 sc0 (compEnvC sc0 cl0 C0 X0.env) fp0).blk s H scope (compEnvC scope cl C (X0.blk s0 H0 sc0 (compEnvC sc0 cl0 C0 X0.env) fp0).env) fp) elt (tD (zX X0 T) W0 fe)) (hs : ∀ x, foldedSetIterable iter (X0.blk s0 H0 sc0 (compEnvC sc0 cl0 C0 X0.env) fp0).env x = pure x := by intro _; rfl) :
    PE (X0.blk s0 H0 sc0 (compEnvC sc0 cl0 C0 X0.env) fp0) (.ListComp elt [⟨tg, iter, ifs, 0⟩] scope pos) (tD (zX X0 T) W (sLC m fi gd ft fe (own.map (·.2)))) :=
  pd_lc (X := X0.blk s0 H0 sc0 (compEnvC sc0 cl0 C0 X0.env) fp0) m hc hN hi (blk_relabel ok) ht hsl hg hif he hs
theorem pvD (i : Nat) (hN : X.N[i]? = some x := by rfl) (hv : Vis X.env.scope x := by first | exact Or.inl rfl | exact Or.inr (Or.inl rfl) | exact Or.inr (Or.inr rfl)) (hd : (x == ("__debug__" : Str)) = false := by decide)
    (hcd : (x == ("__classdict__" : Str)) = false := by decide) : PE X (.Name x pos) (tD (zX X T) W (sVar i)) := pd_var hN hv hd hcd
theorem pd_neg (ha : PE X a (tD (zX X T) W fa)) : PE X (.UnaryOp .USub a pos) (tD (zX X T) W (s1 fNeg fa)) :=
  PE.wk (pe_un un_neg ha) fun σ H Q ⟨g, ρ, st, S, E, q⟩ => by
    refine ⟨g, ρ, st, S, E, Sat.mono (sat_bind q) (fun d st1 q1 g1 H1 v L1 S1 r1 => ?_) fun _ _ _ q => q⟩
    unfold fNeg at q1
    split at q1
    · cases r1; exact ⟨_, rfl, q1 g1 H1 _ L1 S1 (.int _)⟩
    · exact q1.elim
theorem does_isBl : Does2 X T (fun x y H Q => ∃ a b, x = .bl a ∧ y = .bl b ∧ Q (.bl (decide (a = b))) H) fIsBl := by
  intro W σ g st H dx dy x y Q S rx ry h
  unfold fIsBl at h
  split at h
  · cases rx; cases ry; exact ⟨_, _, rfl, rfl, EPost.val S (fun _ => .bl _) h⟩
  · exact h.elim
theorem does_notBl : Does2 X T (fun x y H Q => ∃ a b, x = .bl a ∧ y = .bl b ∧ Q (.bl (!decide (a = b))) H) fNotBl := by
  intro W σ g st H dx dy x y Q S rx ry h
  unfold fNotBl at h
  split at h
  · cases rx; cases ry; exact ⟨_, _, rfl, rfl, EPost.val S (fun _ => .bl _) h⟩
  · exact h.elim
theorem rgV_reps (K : PySem.W.Frag) (g : G) (n : Nat) : Reps K g (rangeL 0 n) ((List.range n).map fun (i : Nat) => V.int (0 + (i : Int))) := by
  unfold rangeL
  rw [List.range_eq_range']
  exact reps_range K g 0 n 0
theorem pd_listR1 {p1 p2 : Pos} (m : Bool) (hc : X.calm = true) (hg : Gl X "list") (hm : X.mg "list" = none) (hg2 : Gl X "range") (hm2 : X.mg "range" = none) (ha : PE X a (tD (zX X T) W fa)) (na : starEach [a] X.env = (false, eval a X.env) :: starEach [] X.env := by rfl)
    (nb : starEach [.Call (.Name "range" p2) [a] [] p1] X.env = (false, eval (.Call (.Name "range" p2) [a] [] p1) X.env) :: starEach [] X.env := by rfl) :
    PE X (.Call (.Name "list" p) [.Call (.Name "range" p2) [a] [] p1] [] pos) (tD (zX X T) W (sListR1 m fa)) :=
  PE.wk (pe_listRg hc hg hm (prg_1 hg2 hm2 ha na) nb) fun σ H Q ⟨g, ρ, st, S, E, q⟩ => by
    refine ⟨g, ρ, st, S, E, Sat.mono (sat_bind q) (fun d st1 q1 g1 H1 v L1 S1 r1 => ?_) fun _ _ _ q => q⟩
    split at q1
    · rename_i j
      split at q1
      · rename_i hj
        cases r1
        refine ⟨j, rfl, ?_, ?_⟩
        · have := sizeLine_eq
          exact RgOk.of_le (by omega) (by omega) (by omega) (by omega)
        · have e : rgV 0 j = (List.range j.toNat).map fun (i : Nat) => V.int (0 + (i : Int)) := by
            unfold rgV
            rw [Int.sub_zero]
          refine newL_ok (W := W) (σ := σ) S1 (vs := rgV 0 j) ?_ ?_ (EPost.mono L1 q1)
          · rw [rgV_length]; omega
          · rw [e]; exact rgV_reps _ _ _
      · exact q1.elim
    · exact q1.elim

/-! ### dicts made of pairs -/
inductive KR (K : PySem.W.Frag) (g : G) : List (Key × D) → List (Key × V) → Prop
  | nil : KR K g [] []
  | cons {k d v ps qs} : Rep K g d v → KR K g ps qs → KR K g ((k, d) :: ps) ((k, v) :: qs)
theorem KR.reps {K : PySem.W.Frag} {g : G} : ∀ {ps qs}, KR K g ps qs → ps.map (·.1) = qs.map (·.1) ∧ Reps K g (ps.map (·.2)) (qs.map (·.2))
  | _, _, .nil => ⟨rfl, .nil⟩
  | _, _, .cons a r => ⟨by simp [(KR.reps r).1], .cons a (KR.reps r).2⟩
theorem KR.any {K : PySem.W.Frag} {g : G} (k : Key) : ∀ {ps qs}, KR K g ps qs → (ps.any fun kv => decide (kv.1 = k)) = qs.any fun kv => decide (kv.1 = k)
  | _, _, .nil => rfl
  | _, _, .cons a r => by rw [List.any_cons, List.any_cons, KR.any k r]
theorem KR.upd {K : PySem.W.Frag} {g : G} {d : D} {v : V} (h : Rep K g d v) (k : Key) : ∀ {ps qs}, KR K g ps qs → KR K g (ps.map fun kv => if kv.1 = k then (kv.1, d) else kv) (qs.map fun kv => if kv.1 = k then (kv.1, v) else kv)
  | _, _, .nil => .nil
  | _, _, .cons (k := k') a r => by
    rw [List.map_cons, List.map_cons]
    by_cases e : k' = k
    · simp only [e, if_pos]; exact .cons h (KR.upd h k r)
    · simp only [e, if_neg, not_false_eq_true]; exact .cons a (KR.upd h k r)
theorem KR.snoc {K : PySem.W.Frag} {g : G} {d : D} {v : V} (h : Rep K g d v) (k : Key) : ∀ {ps qs}, KR K g ps qs → KR K g (ps ++ [(k, d)]) (qs ++ [(k, v)])
  | _, _, .nil => .cons h .nil
  | _, _, .cons a r => .cons a (KR.snoc h k r)
theorem KR.put {K : PySem.W.Frag} {g : G} {d : D} {v : V} (h : Rep K g d v) (k : Key) {ps qs} (r : KR K g ps qs) : KR K g (putD ps k d) (putK qs k v) := by
  unfold putD putK
  rw [r.any k]
  split
  · exact r.upd h k
  · exact r.snoc h k
theorem KR.merge {K : PySem.W.Frag} {g : G} {more mores} (r : KR K g more mores) : ∀ {acc accs}, KR K g acc accs → KR K g (more.foldl (fun acc p => putD acc p.1 p.2) acc) (mergeK accs mores) := by
  induction r with
  | nil => intro _ _ q; exact q
  | cons a r ih => intro _ _ q; exact ih (q.put a _)
theorem pairs_reps {K : PySem.W.Frag} {g : G} : ∀ {ds : List D} {vs : List V} {ps : List (Key × D)}, Reps K g ds vs → allSome (ds.map pairK) = some ps →
    ∃ (as : List Addr) (kvs : List (Key × V)), vs = as.map V.ref ∧ Paired (fun p (kv : Key × V) => SqT K g.B p [kV kv.1, kv.2]) as kvs ∧ KR K g ps kvs
  | [], _, _, .nil, h => by cases h; exact ⟨[], [], rfl, .nil, .nil⟩
  | d :: ds, _, _, .cons a t, h => by
    obtain ⟨p, ps, h1, h2, rfl⟩ := allSome_consK h
    obtain ⟨as, kvs, rfl, e2, e3⟩ := pairs_reps t h2
    unfold pairK at h1
    split at h1
    · rename_i k v
      cases a with
      | tup q l r =>
        cases r with
        | cons r1 r2 =>
          cases r2 with
          | cons r3 r4 =>
            cases r4
            cases k <;> first | cases h1 | skip
            · cases r1
              exact ⟨_ :: as, (.inl _, _) :: kvs, rfl, .cons q.t e2, .cons r3 e3⟩
            · cases r1
              exact ⟨_ :: as, (.inr _, _) :: kvs, rfl, .cons q.t e2, .cons r3 e3⟩
    · cases h1
theorem paired_mono {K : PySem.W.Frag} {B H : Hp} (hs : ∀ a o, B a = some o → H a = some o) : ∀ {as : List Addr} {kvs : List (Key × V)}, Paired (fun p (kv : Key × V) => SqT K B p [kV kv.1, kv.2]) as kvs → Paired (fun p (kv : Key × V) => SqT K H p [kV kv.1, kv.2]) as kvs
  | _, _, .nil => .nil
  | _, _, .cons a r => .cons (sqT_mono hs a) (paired_mono hs r)
theorem does_dict : DoesB X T (fun xs H Q => ∃ (a : Addr) (ps : List Addr) (kvs : List (Key × V)), xs = [.ref a] ∧ SqL X.K H a (ps.map V.ref) ∧ Paired (fun p kv => SqT X.K H p [kV kv.1, kv.2]) ps kvs ∧
    ∀ p, H p = none → Q (.ref p) (upd H p (.dK (mergeK [] kvs)))) bDict := by
  intro W σ g st H ds vs Q S r h
  unfold bDict at h
  split at h
  · rename_i x
    split at h
    · rename_i ps e
      cases r with
      | cons r1 r2 =>
        cases r2
        cases e1 : litems st x with
        | none => rw [e1] at e; cases e
        | some ys =>
          rw [e1] at e
          obtain ⟨a, ws, rfl, h1, h2, h3⟩ := S.litems r1 e1
          obtain ⟨as, kvs, rfl, e2, e3⟩ := pairs_reps h3 e
          refine ⟨a, as, kvs, rfl, SqL.of h1, paired_mono S.sub e2, fun p hp => ?_⟩
          obtain ⟨S', L'⟩ := S.allocB (o := .dK (mergeK [] kvs)) hp (fun _ => by simp)
          obtain ⟨m1, m2⟩ := (KR.merge e3 .nil).reps
          have ez : mergeK [] kvs = ((mergeK [] kvs).map (·.1)).zip ((mergeK [] kvs).map (·.2)) := by
            generalize mergeK [] kvs = l
            induction l with
            | nil => rfl
            | cons x l ih => simp [← ih]
          refine h _ _ _ L' S' ?_
          refine .dk (vs := (mergeK [] kvs).map (·.2)) ?_ ?_ ?_
          · rw [m1, ← ez]; exact upd_same
          · rw [m1, List.length_map, List.length_map]
          · exact m2.mono L'.ge
    · exact h.elim
  · exact h.elim
theorem does_lenD : DoesB X T (fun xs H Q => ∃ a kvs, xs = [V.ref a] ∧ H a = some (.dK kvs) ∧ Q (.int kvs.length) H) bLenD := by
  intro W σ g st H ds vs Q S r h
  unfold bLenD at h
  split at h
  · cases r with
    | cons r1 r2 =>
      cases r2
      cases r1 with
      | dk e l r =>
        refine ⟨_, _, rfl, S.sub _ _ e, ?_⟩
        rw [List.length_zip, ← l, Nat.min_self]
        exact EPost.val S (fun _ => .int _) h
  · exact h.elim
end
end PD
/-! PDRules7: min, max of a list of ints. -/
namespace PD
open PySem PySem.Spec PyProof.Rows L2
def minL : List Int → Int
  | [] => 0
  | [a] => a
  | a :: b :: l => if minL (b :: l) < a then minL (b :: l) else a
def maxL : List Int → Int
  | [] => 0
  | [a] => a
  | a :: b :: l => if a < maxL (b :: l) then maxL (b :: l) else a
theorem minL_spec : ∀ {l : List Int}, l ≠ [] → minL l ∈ l ∧ ∀ y ∈ l, minL l ≤ y
  | [], h => absurd rfl h
  | [a], _ => ⟨List.mem_singleton.mpr rfl, fun y hy => by rw [List.mem_singleton.mp hy]; exact Int.le_refl _⟩
  | a :: b :: l, _ => by
    obtain ⟨h1, h2⟩ := minL_spec (l := b :: l) (by simp)
    unfold minL
    split
    · exact ⟨List.mem_cons_of_mem _ h1, fun y hy => by
        rcases List.mem_cons.mp hy with rfl | hy
        · omega
        · exact h2 y hy⟩
    · exact ⟨List.mem_cons_self, fun y hy => by
        rcases List.mem_cons.mp hy with rfl | hy
        · exact Int.le_refl _
        · have := h2 y hy; omega⟩
theorem maxL_spec : ∀ {l : List Int}, l ≠ [] → maxL l ∈ l ∧ ∀ y ∈ l, y ≤ maxL l
  | [], h => absurd rfl h
  | [a], _ => ⟨List.mem_singleton.mpr rfl, fun y hy => by rw [List.mem_singleton.mp hy]; exact Int.le_refl _⟩
  | a :: b :: l, _ => by
    obtain ⟨h1, h2⟩ := maxL_spec (l := b :: l) (by simp)
    unfold maxL
    split
    · exact ⟨List.mem_cons_of_mem _ h1, fun y hy => by
        rcases List.mem_cons.mp hy with rfl | hy
        · omega
        · exact h2 y hy⟩
    · exact ⟨List.mem_cons_self, fun y hy => by
        rcases List.mem_cons.mp hy with rfl | hy
        · exact Int.le_refl _
        · have := h2 y hy; omega⟩
def bMin1 (xs : List D) (st : Sto) : Out D := match xs with
  | [x] => (match (litems st x).bind allInt with | some ns => if ns.isEmpty then .bad else .ok (.int (minL ns)) st | none => .bad)
  | _ => .bad
def bMax1 (xs : List D) (st : Sto) : Out D := match xs with
  | [x] => (match (litems st x).bind allInt with | some ns => if ns.isEmpty then .bad else .ok (.int (maxL ns)) st | none => .bad)
  | _ => .bad
section
variable {X : Cx} {T : List (Addr × Str)}
theorem does_min1 : DoesB X T (rMin X.K) bMin1 := by
  intro W σ g st H ds vs Q S r h
  unfold bMin1 at h
  split at h
  · rename_i x
    split at h
    · rename_i ns e
      split at h
      · exact h.elim
      · rename_i hne
        cases r with
        | cons r1 r2 =>
          cases r2
          cases e1 : litems st x with
          | none => rw [e1] at e; cases e
          | some ys =>
            rw [e1] at e
            obtain ⟨a, ws, rfl, h1, h2, h3⟩ := S.litems r1 e1
            have := allInt_of h3 e
            subst this
            have nn : ns ≠ [] := fun q => by subst q; exact hne rfl
            refine ⟨a, ns, rfl, SqL.of h1, List.length_pos_iff.mpr nn, fun m hm hl => ?_⟩
            obtain ⟨k1, k2⟩ := minL_spec nn
            have : m = minL ns := Int.le_antisymm (hl _ k1) (k2 _ hm)
            rw [this]
            exact EPost.val S (fun _ => .int _) h
    · exact h.elim
  · exact h.elim
theorem does_max1 : DoesB X T (rMax X.K) bMax1 := by
  intro W σ g st H ds vs Q S r h
  unfold bMax1 at h
  split at h
  · rename_i x
    split at h
    · rename_i ns e
      split at h
      · exact h.elim
      · rename_i hne
        cases r with
        | cons r1 r2 =>
          cases r2
          cases e1 : litems st x with
          | none => rw [e1] at e; cases e
          | some ys =>
            rw [e1] at e
            obtain ⟨a, ws, rfl, h1, h2, h3⟩ := S.litems r1 e1
            have := allInt_of h3 e
            subst this
            have nn : ns ≠ [] := fun q => by subst q; exact hne rfl
            refine ⟨a, ns, rfl, SqL.of h1, List.length_pos_iff.mpr nn, fun m hm hl => ?_⟩
            obtain ⟨k1, k2⟩ := maxL_spec nn
            have : m = maxL ns := Int.le_antisymm (k2 _ hm) (hl _ k1)
            rw [this]
            exact EPost.val S (fun _ => .int _) h
    · exact h.elim
  · exact h.elim
end
end PD
/-! PDExc: raising, catching. -/
namespace PD
open PySem PySem.Spec PyProof.Rows L2
/-- an own exception class without an __init__ -/
structure OwnE (K : PySem.W.Frag) (mg : Str → Option Value) (n : Str) (C : Addr) : Prop where
  g : mg n = some (.ref C)
  k : PySem.W.keepIn K (.ref C) = true
  x : PySem.W.excIn K C [.type "ValueError", .type "Exception", .type "BaseException", .type "object"] "ValueError.__new__" = true
  b : PySem.W.subIn K (.ref C) (.type "BaseException") = some true
  t : PySem.W.typeIn K (.ref C) = some (.type "type")
section
variable {X : Cx} {T : List (Addr × Str)} {W : WX} {n : Str} {C : Addr} {p pos pos' : Pos}
/-- C() -/
theorem pmk_own0 (o : OwnE X.K X.mg n C) (hg : Gl X n) (hdb : (n == ("__debug__" : Str)) = false := by decide) : PMk X (.Call (.Name n p) [] [] pos) (fun _ H Q => Q (.ref C) none H) := by
  intro pins s σ H Q I h
  refine wpAny_Call_Name_kw (ld_glob I hg o.g ?_ hdb)
  refine PySem.W.callWith_K0 I.kIn o.k ?_
  obtain ⟨bm, N, nm, qn, bs, hdct, sn, sub, ab, col, dd, k0, k1, k2, k3, k5, mN, hC, hN, hni, T⟩ := exc_obj I.kIn o.x
  exact wpAny_call_exc_subT PySem.F.excBase_ValueError T hC hN hni (fun h' e hm => mk_of I hm (raises_own o.b o.t) h (I.hok.gone hm.new)) (Nat.zero_le _)
theorem clsV_own {z : Z} (h : z.mg n = some (.ref C)) : clsV z n = .ref C := by unfold clsV; rw [h]; rfl
/-- raise C() -/
theorem ps_raiseD (o : OwnE X.K X.mg n C) (hc : X.calm = true) (tk : Takes X W) (hg : Gl X n) (hdb : (n == ("__debug__" : Str)) = false := by decide) : PS X (.Raise (some (.Call (.Name n p) [] [] pos)) none pos') (tDS (zX X T) W (qRaise n)) :=
  PS.wk (ps_raise hc tk (pmk_own0 o hg hdb)) fun D σ H ⟨g, ρ, st, S, E, q⟩ => by
    have := q g H (Le.refl g H) S σ none E (.inl ⟨rfl, rfl⟩)
    rw [clsV_own (z := zX X T) o.g] at this
    exact this
end

/-! ### xs.count(b), xs.index(x) -/
def eqb (k : Bool) : Value → Bool
  | .bool b => b == k
  | _ => false
theorem bools_of {bs : List Bool} {us : List Value} (r : Vals (bs.map V.bl) us) : us = bs.map Value.bool := by
  induction bs generalizing us with
  | nil => cases r; rfl
  | cons b bs ih =>
    rw [List.map_cons] at r
    cases r with
    | cons h t => rw [ih t]; cases h; rfl
theorem eqb_count (k : Bool) (bs : List Bool) : (bs.map Value.bool).countP (eqb k) = bs.count k := by
  induction bs with
  | nil => rfl
  | cons b bs ih =>
    rw [List.map_cons, List.countP_cons, List.count_cons, ih]
    rfl
def rCntB (K : PySem.W.Frag) : V → List V → Hp → VK → Prop := fun x xs H Q => ∃ (p : Addr) (bs : List Bool) (k : Bool), x = .ref p ∧ xs = [.bl k] ∧ SqL K H p (bs.map V.bl) ∧ Q (.int (bs.count k : Nat)) H
theorem mt_lcountB {X : Cx} : MtR X "list.count" (rCntB X.K) := by
  intro pins s σ H x xs v us Q I rx rxs h
  obtain ⟨p, bs, k, rfl, rfl, hs, q⟩ := h
  cases rx
  obtain ⟨u, rfl, ru⟩ := rxs.one
  cases ru
  obtain ⟨its, rv, ⟨⟨cls, dd, data, sl⟩, n, ho, hc, hdn, hd⟩, hlen⟩ := I.list hs
  simp only at hc hd
  subst hc hd
  have hi := bools_of rv
  subst hi
  refine call_meets PySem.F.slot_list_count ⟨_, ho, rfl⟩ PySem.F.entry_list_count (PySem.F.args_list_count_2 _ _)
    (SeqAt.list_countAt p (bs.map Value.bool).toArray n dd sl (.bool k) (eqb k)) ⟨ho, fun y hy => ?_, ?_⟩
  · obtain ⟨b, _, rfl⟩ := List.mem_map.mp (show y ∈ bs.map Value.bool by simpa using hy)
    exact SeqAt.EqAt.bool_bool b k
  · have ec : ((bs.map Value.bool).toArray.toList.countP (eqb k)) = bs.count k := eqb_count k bs
    refine ⟨.int (bs.count k : Nat), H, I.tok _, ⟨s.toks, ?_⟩, q⟩
    show Value.int ((((bs.map Value.bool).toArray.toList.countP (eqb k)) : Nat) : Int) s.toks = Value.int ((bs.count k : Nat) : Int) s.toks
    rw [ec]
def fCountB (x y : D) (st : Sto) : Out D := match (litems st x).bind allBl, y with
  | some bs, .bl k => .ok (.int (bs.count k : Nat)) st
  | _, _ => .bad
def firstIx (p : PyData) : Nat → List PyData → Option Nat
  | _, [] => none
  | i, z :: zs => if PyData.eqv z p = true then some i else firstIx p (i + 1) zs
theorem firstIx_spec {p : PyData} : ∀ {ps : List PyData} {i j : Nat}, firstIx p i ps = some j → ∃ k z, j = i + k ∧ ps[k]? = some z ∧ PyData.eqv z p = true ∧ ∀ (m : Nat) (z' : PyData), m < k → ps[m]? = some z' → PyData.eqv z' p = false
  | [], i, j, h => by cases h
  | z :: zs, i, j, h => by
    unfold firstIx at h
    split at h
    · rename_i e
      cases h
      exact ⟨0, z, rfl, rfl, e, fun m z' hm => absurd hm (by omega)⟩
    · rename_i e
      obtain ⟨k, w, e1, e2, e3, e4⟩ := firstIx_spec h
      refine ⟨k + 1, w, by omega, by simpa using e2, e3, fun m z' hm hz => ?_⟩
      cases m with
      | zero =>
        have : z = z' := by simpa using hz
        subst this
        simpa using e
      | succ m => exact e4 m z' (by omega) (by simpa using hz)
def fIndexD (x y : D) (st : Sto) : Out D := match litems st x, toPy st 60 y with
  | some ys, some p => (match toPys st 59 ys with
    | some ps => (match firstIx p 0 ps with | some j => .ok (.int (j : Nat)) st | none => .bad)
    | none => .bad)
  | _, _ => .bad
section
variable {X : Cx} {T : List (Addr × Str)} {W : WX} {e : Expr} {fe : SE}
theorem does_countB : DoesM X T (rCntB X.K) fCountB := by
  intro W σ g st H dx dy x y Q S rx ry h
  unfold fCountB at h
  split at h
  · rename_i bs k q
    cases e1 : litems st dx with
    | none => rw [e1] at q; cases q
    | some ys =>
      rw [e1] at q
      obtain ⟨a, ws, rfl, h1, h2, h3⟩ := S.litems rx e1
      cases ry
      have := allBl_of h3 q
      subst this
      exact ⟨a, bs, k, rfl, rfl, SqL.of h1, EPost.val S (fun _ => .int _) h⟩
  · exact h.elim
theorem does_index : DoesM X T (rIndexD X.K) fIndexD := by
  intro W σ g st H dx dy x y Q S rx ry h
  unfold fIndexD at h
  split at h
  · rename_i ys p e1 e2
    split at h
    · rename_i ps e3
      split at h
      · rename_i j e4
        obtain ⟨a, ws, rfl, h1, h2, h3⟩ := S.litems rx e1
        obtain ⟨q1, q2, q3⟩ := toPy_dp S 60 ry e2
        obtain ⟨k1, k2, k3⟩ := toPys_dp S 59 h3 e3
        obtain ⟨k, z, rfl, f1, f2, f3⟩ := firstIx_spec e4
        exact ⟨a, y, p, ps, k, z, rfl, rfl, .lst (SqL.of h1) k1, q1, shaped_of (p := .list ps) k2 (by show PyData.depthAll ps + 1 ≤ 64; omega), shaped_of q2 (by omega), f1, f2, f3, by
          rw [Nat.zero_add] at h
          exact EPost.val S (fun _ => .int _) h⟩
      · exact h.elim
    · exact h.elim
  · exact h.elim
variable {fo : SE} {o : Expr} {apos cpos : Pos}
theorem pd_countB (ho : PE X o (tD (zX X T) W fo)) (he : PE X e (tD (zX X T) W fe)) (hst : starEach [e] X.env = (false, eval e X.env) :: starEach [] X.env := by rfl)
    (hbase : attributeBase o "count" X.env (eval o X.env) = eval o X.env := by rfl)
    (hfew : ((backTo cpos (starEach [e] X.env)).all (fun x => !x.1) && (backToKw cpos (keywordEach [] X.env)).all (fun x => x.1.isSome)
      && decide ([e].length + ([] : List Keyword).length + (if ([] : List Keyword).isEmpty then 0 else 1) < 30)) = true := by rfl)
    (hline : (apos.endLine == cpos.line) = true := by rfl) (hplain : (backTo cpos (starEach [] X.env)).any (·.1) = false := by rfl) :
    PE X (.Call (.Attribute o "count" apos) [e] [] cpos) (tD (zX X T) W (sM fCountB fo fe)) :=
  PE.wk (pe_bm PySem.F.plainAttrs_list PySem.F.slot_list_count PySem.F.type_list_count mt_lcountB ho (pa_consD he pa_nilD hst) hbase hfew hline hst hplain) (wkM does_countB)
theorem pd_index (hu : X.A.units + 65 < cLine) (ho : PE X o (tD (zX X T) W fo)) (he : PE X e (tD (zX X T) W fe)) (hst : starEach [e] X.env = (false, eval e X.env) :: starEach [] X.env := by rfl)
    (hbase : attributeBase o "index" X.env (eval o X.env) = eval o X.env := by rfl)
    (hfew : ((backTo cpos (starEach [e] X.env)).all (fun x => !x.1) && (backToKw cpos (keywordEach [] X.env)).all (fun x => x.1.isSome)
      && decide ([e].length + ([] : List Keyword).length + (if ([] : List Keyword).isEmpty then 0 else 1) < 30)) = true := by rfl)
    (hline : (apos.endLine == cpos.line) = true := by rfl) (hplain : (backTo cpos (starEach [] X.env)).any (·.1) = false := by rfl) :
    PE X (.Call (.Attribute o "index" apos) [e] [] cpos) (tD (zX X T) W (sM fIndexD fo fe)) :=
  PE.wk (pe_bm PySem.F.plainAttrs_list PySem.F.slot_list_index PySem.F.type_list_index (mt_indexD hu) ho (pa_consD he pa_nilD hst) hbase hfew hline hst hplain) (wkM does_index)
end
/-! ### isinstance of what was caught -/
/-- what slot i holds in the suite: the exception at a, its dict -/
def excD (a : Addr) (dx : Option Addr) (fs : List (Str × D)) : D := match dx with
  | none => .raw (.ref a)
  | some dd => .xc a dd (fs.map (·.1)) (fs.map (·.2))
/-- isinstance(e, C): slot i holds the exception, at a -/
def sIsE (i : Nat) (a : Addr) (dx : Option Addr) (b : Bool) : SE := fun ρ st => match ρ[i]? with
  | some (some (.raw (.ref a'))) => if a' = a ∧ dx = none then .ok (.bl b) st else .bad
  | some (some (.xc a' dd _ _)) => if a' = a ∧ dx = some dd then .ok (.bl b) st else .bad
  | _ => .bad
/-! the class of an own exception, asked for through its instance (with a dict or without) -/
section
open PySem.W PySem.Calls
variable {prog : Program} {w : World} {A : Around} {E : Value → Shared → Prop} {s : Shared} {K : Frag} {x D : Addr} {ox : Obj} {od : Option Obj}
theorem cls_exc {Q : Option Value → Shared → Prop} (C : ExcC K D) (X : K.In s.heap) (I : InstAt s.heap x ox D od) (h : Q (some (.ref D)) { s with toks := s.toks + 1 }) :
    wpAny (model prog w) A (getAttr? (.ref x) "__class__") Q E s := by
  have fo : findObj K D od "__class__" = some (.bind (.builtin "getset_descriptor.__get__") (.builtin "object.__class__")) := by
    obtain ⟨cd, hc, _⟩ := any_some C.hd
    unfold findObj
    rw [hc, Option.bind_some, C.ha, Option.bind_some]
    simp [C.hn, C.ht]
  obtain ⟨hp, g, d, t, os⟩ := s
  have l0 := I.type (M := model prog w)
  have l1 := looks_findIn (M := model prog w) X C.hg
  have l2 := looks_findIn (M := model prog w) X C.hk
  have l3 := looks_find (M := model prog w) X I fo
  have su : Looks (model prog w) hp (isInstance (.ref x) (.type "BaseException")) true := l0.andThen (looks_subIn X C.hs)
  have n2 : (Value.builtin "BaseException.__getattribute__" == Value.builtin "object.__getattribute__") = false := by decide +kernel
  have n1 : (onTheHeap (Value.ref D) && Value.builtin "BaseException.__getattribute__" == Value.builtin "object.__getattribute__") = false := by rw [n2]; rfl
  have n0 : (false && onTheHeap (Value.builtin "BaseException.__getattribute__")) = false := rfl
  unfold getAttr? getAttrBy? getAttrBy
  refine wpAny_bind (wpAny_mkText (wpAny_bind (wpAny_attempt (wpAny_holding (wpAny_bind (l0.at (wpAny_bind (l1.at ?_))))))))
  show wpAny _ _ (if (onTheHeap (Value.ref D) && Value.builtin "BaseException.__getattribute__" == Value.builtin "object.__getattribute__") = true then _ else _) _ _ _
  rw [n1, if_neg Bool.false_ne_true]
  unfold getAttrByItsOwn hookBefore
  refine wpAny_bind ?_
  rw [if_pos (show onTheHeap (Value.ref D) = true from rfl)]
  refine l2.at (wpAny_bind (wpAny_attempt (wpAny_holding ?_)))
  unfold callGetattribute
  rw [n0, if_neg Bool.false_ne_true]
  unfold boundAndCalled
  rw [PySem.F.excAttr_ValueError.ga.bind (.ref x)]
  refine wpAny_bind (wpAny_pure ?_)
  show wpAny _ _ (call (.builtin "BaseException.__getattribute__") [.ref x, .str "__class__" t]) _ _ _
  refine wpAny_call (codeAny_call_builtin PySem.F.excAttr_ValueError.ga.plain PySem.F.entry_bexc_ga ?_)
  refine @check_slot (model prog w) _ _ ⟨hp, g, d, t + 1, os⟩ "BaseException.__getattribute__" "BaseException" "__getattribute__" (.ref x) [.str "__class__" t] [] _ (by decide +kernel) (by decide +kernel) su (PySem.F.args_bexc_ga (.ref x) (.str "__class__" t)) ?_
  unfold Builtin.«object.__getattribute__»
  refine wpAny_bind (wpAny_of_eq (a := ((Value.ref x : Value), [Value.str "__class__" t])) (by first | rfl | (simp only [slotArgs]; rfl)) ?_)
  refine wpAny_bind (wpAny_pure (wpAny_bind (l0.at (wpAny_bind (l3.at ?_)))))
  show wpAny _ _ (holding [Value.builtin "object.__class__"] (call (.builtin "getset_descriptor.__get__") [.builtin "object.__class__", .ref x, .ref D]) >>= ret) _ _ _
  refine wpAny_bind (wpAny_holding (wpAny_call (class_get (s := ⟨hp, g, d, t + 1, os⟩) (ox := ox) (od := od) X I C.hm (wpAny_pure ?_))))
  show wpAny _ _ (handedOut (.ref D)) _ _ _
  rw [handedOut_of (v := .ref D) rfl]
  first
    | exact wpAny_pure (wpAny_pure h)
    | exact wpAny_pure h
    | exact wpAny_pure (wpAny_bind (wpAny_pure (wpAny_pure h)))
theorem kit_exc (C : ExcC K D) : KitX K (.ref x) (.ref D) (fun h => InstAt h x ox D od) where
  ty := fun _ _ _ I => I.type
  it := fun _ _ X _ => by
    obtain ⟨cd, hc, _⟩ := any_some C.hd
    unfold clsIn at hc
    split at hc
    · rename_i ho
      intro A' Q' E' s' k q
      unfold isType loadHead
      exact wpAny_bind (wpAny_loadPart (k _ _ (X _ _ ho)) (wpAny_pure q))
    · cases hc
  ne := fun h tp dd its n sl X htp => by
    obtain ⟨cd, hc, _⟩ := any_some C.hd
    refine Bool.eq_false_iff.mpr fun q => ?_
    cases Value.ref.inj (beq_iff_eq.mp q)
    unfold clsIn at hc
    split at hc
    · rename_i ho
      cases (X _ _ ho).symm.trans htp
    · cases hc
  ca := fun X I k => cls_exc C X I k
end
/-- isinstance(e, c), e the exception that the suite holds, its dict told -/
def rIsED (K : PySem.W.Frag) (D a : Addr) (dx : Option Addr) : List V → Hp → VK → Prop := fun xs H Q => ∃ (c : V) (cv : Value) (b : Bool), xs = [.ref a, c] ∧ (∀ u, RelV c u → u = cv) ∧ PySem.W.kitOne K (.ref D) cv = some b ∧ (∀ dd, dx = some dd → ∃ fs, H dd = some (.xd fs)) ∧ Q (.bl b) H
theorem call_isED {X : Cx} {a D : Addr} {dx : Option Addr} {oe : Obj} {pn : List (Addr × Obj)} (C : ExcC X.K D) (hz : Zc (.ref D) dx oe) (hf : ∃ vs, oe.data = .fields vs) : CallR (X.suite a ((a, oe) :: pn)) (.builtin "isinstance") (rIsED X.K D a dx) := by
  intro pins s σ H xs us Q I r h
  obtain ⟨c, cv, b, rfl, hcv, e, hdx, q⟩ := h
  obtain ⟨u1, r⟩ : ∃ u1, us = [.ref a, u1] ∧ RelV c u1 := by
    cases r with
    | cons rx rr => cases rr with
      | cons rt rr => cases rr; cases rx; exact ⟨_, rfl, rt⟩
  obtain ⟨rfl, rc⟩ := r
  cases hcv _ rc
  obtain ⟨hget, _⟩ := I.pin (a, oe) (List.mem_append.mpr (.inl List.mem_cons_self))
  obtain ⟨vs, hv⟩ := hf
  obtain ⟨od, J⟩ : ∃ od, PySem.W.InstAt s.heap a oe D od := by
    obtain ⟨oc, ox, oda, osl⟩ := oe
    obtain ⟨h1, h2⟩ := hz
    dsimp only at h1 h2 hv
    subst h1 h2 hv
    cases ox with
    | none => exact ⟨none, hget, rfl, rfl, trivial⟩
    | some dd =>
      obtain ⟨fs, ea⟩ := hdx dd rfl
      have hx : ObjOk X.prog X.w H s.heap dd (.xd fs) := I.hok dd _ ea
      obtain ⟨mA, hns, hr⟩ := hx
      obtain ⟨o, ho, _⟩ := lookIn_ns hns
      exact ⟨some o, hget, rfl, rfl, ho⟩
  exact PySem.W.kia_one (kit_exc C) I.kIn J e (fun z => nomatch z) fun tk => ⟨.bl b, H, I.kept (t' := tk) fun _ _ z => z, rfl, q⟩
section
variable {X : Cx} {T : List (Addr × Str)} {W : WX} {e : Expr} {fe : SE}
theorem pd_isE {Y : Cx} {a C D : Addr} {dx : Option Addr} {oe : Obj} {pn : List (Addr × Obj)} {i : Nat} {n x : Str} {b : Bool} {p p1 p2 pos : Pos} (ec : ExcC Y.K D) (hz : Zc (.ref D) dx oe) (hf : ∃ vs, oe.data = .fields vs) (hb : PySem.W.kitOne Y.K (.ref D) (.ref C) = some b)
    (hN : Y.N[i]? = some x) (hv : Vis Y.env.scope x) (hg : Gl Y "isinstance") (hm : Y.mg "isinstance" = none) (hgC : Gl Y n) (hmC : Y.mg n = some (.ref C))
    (hd : (x == ("__debug__" : Str)) = false := by decide) (hcd : (x == ("__classdict__" : Str)) = false := by decide) (hnd : (n == ("__debug__" : Str)) = false := by decide)
    (he : starEach [.Name x p1, .Name n p2] (Y.suite a ((a, oe) :: pn)).env = (false, eval (.Name x p1) (Y.suite a ((a, oe) :: pn)).env) :: starEach [.Name n p2] (Y.suite a ((a, oe) :: pn)).env := by rfl) (he2 : starEach [.Name n p2] (Y.suite a ((a, oe) :: pn)).env = (false, eval (.Name n p2) (Y.suite a ((a, oe) :: pn)).env) :: starEach [] (Y.suite a ((a, oe) :: pn)).env := by rfl)
    (hpl : (backTo pos (starEach [.Name n p2] (Y.suite a ((a, oe) :: pn)).env)).any (·.1) = false := by rfl) :
    PE (Y.suite a ((a, oe) :: pn)) (.Call (.Name "isinstance" p) [.Name x p1, .Name n p2] [] pos) (tD (zX (Y.suite a ((a, oe) :: pn)) T) W (sIsE i a dx b)) := by
  have h1 : PE (Y.suite a ((a, oe) :: pn)) (.Name n p2) (tC (V.ref C)) := pe_glob hgC hmC rfl hnd
  have h0 : PE (Y.suite a ((a, oe) :: pn)) (.Name x p1) _ := pe_var (i := i) hN hv hd hcd
  refine PE.wk (pe_callB (call_isED ec hz hf) hg hm (by rfl) (pa_cons h0 (pa_cons h1 pa_nil he2) he) (by decide) (by decide) he hpl) fun σ H Q ⟨g, ρ, st, S, E, q⟩ => ?_
  unfold sIsE at q
  split at q
  · rename_i a' e
    split at q
    · rename_i ea
      obtain ⟨rfl, rfl⟩ := ea
      obtain ⟨v, hv, rv⟩ := E.2 i _ e
      cases rv
      exact ⟨_, hv, .ref C, .ref C, b, rfl, fun u hu => hu, hb, (fun dd z => by cases z), EPost.val S (fun _ => .bl b) q⟩
    · exact q.elim
  · rename_i a' dd ks xs e
    split at q
    · rename_i ea
      obtain ⟨rfl, rfl⟩ := ea
      obtain ⟨v, hv, rv⟩ := E.2 i _ e
      cases rv with
      | xc eb _ => exact ⟨_, hv, .ref C, .ref C, b, rfl, fun u hu => hu, hb, (fun d2 z => by cases z; exact ⟨_, S.sub _ _ eb⟩), EPost.val S (fun _ => .bl b) q⟩
    · exact q.elim
  · exact q.elim
/-- error.f, in the suite -/
def sXf (i : Nat) (a : Addr) (dx : Option Addr) (f : Str) : SE := fun ρ st => match ρ[i]? with
  | some (some (.xc a' dd ks xs)) => if a' = a ∧ dx = some dd then (match (ks.zip xs).lookup f with | some d => .ok d st | none => .bad) else .bad
  | _ => .bad
theorem lookup_reps {K : PySem.W.Frag} {g : G} {f : Str} {d : D} : ∀ {ks : List Str} {xs : List D} {vs : List V}, Reps K g xs vs → (ks.zip xs).lookup f = some d → ∃ v, (ks.zip vs).lookup f = some v ∧ Rep K g d v
  | [], _, _, _, e => by simp at e
  | _ :: _, _, _, .nil, e => by simp at e
  | k :: ks, _, _, .cons (v := v) a t, e => by
    rw [List.zip_cons_cons, List.lookup_cons] at e
    rw [List.zip_cons_cons, List.lookup_cons]
    cases h : f == k with
    | true => rw [h] at e; cases e; exact ⟨v, rfl, a⟩
    | false => rw [h] at e; exact lookup_reps t e
theorem pd_xf {Y : Cx} {a D : Addr} {dx : Option Addr} {oe : Obj} {pn : List (Addr × Obj)} {i : Nat} {n x : Str} {p1 pos : Pos} (ec : ExcC Y.K D) (hno : PySem.W.findIn Y.K (.ref D) n = some none) (hz : Zc (.ref D) dx oe) (hf : ∃ vs, oe.data = .fields vs)
    (hN : Y.N[i]? = some x) (hv : Vis Y.env.scope x) (hd : (x == ("__debug__" : Str)) = false := by decide) (hcd : (x == ("__classdict__" : Str)) = false := by decide)
    (hb : attributeBase (.Name x p1) n Y.env (eval (.Name x p1) Y.env) = eval (.Name x p1) Y.env := by rfl) :
    PE (Y.suite a ((a, oe) :: pn)) (.Attribute (.Name x p1) n pos) (tD (zX (Y.suite a ((a, oe) :: pn)) T) W (sXf i a dx n)) := by
  have h0 : PE (Y.suite a ((a, oe) :: pn)) (.Name x p1) _ := pe_var (i := i) hN hv hd hcd
  refine PE.wk (pe_xf ⟨ec.hg, ec.hk, ec.hs, ec.hd⟩ hno hz hf h0 hb) fun σ H Q ⟨g, ρ, st, S, E, q⟩ => ?_
  unfold sXf at q
  split at q
  · rename_i a' dd ks xs e
    split at q
    · rename_i ea
      obtain ⟨rfl, rfl⟩ := ea
      split at q
      · rename_i d hl
        obtain ⟨v, hv, rv⟩ := E.2 i _ e
        cases rv with
        | xc eb er =>
          obtain ⟨y, hy, ry⟩ := lookup_reps er hl
          exact ⟨_, hv, rfl, rfl, dd, _, y, rfl, S.sub _ _ eb, hy, q g H y (Le.refl g H) S ry⟩
      · exact q.elim
    · exact q.elim
  · exact q.elim
end
/-! ### try: .. except x as n: .. -/
def cleanS (i : Nat) : Option (Fl × Sto) → Option (Fl × Sto)
  | some (.nx ρ, st) => some (.nx (ρ.set i none), st)
  | some (.bk ρ, st) => some (.bk (ρ.set i none), st)
  | some (.ct ρ, st) => some (.ct (ρ.set i none), st)
  | some (.rt d, st) => some (.rt d, st)
  | _ => none
/-- caught n: does the clause take an exception of the class n; res n: what its suite does, slot i empty before and behind -/
def qTryAs (i m : Nat) (caught : Str → Option Bool) (qb : SS) (res : Str → List (Str × D) → SS) : SS := fun ρ st => match qb ρ st with
  | some (.ex n fs ρ', st') => (match caught n with
    | some true => if decide (ρ'.length = m) then res n fs ρ' st' else none
    | some false => some (.ex n fs ρ', st')
    | none => none)
  | r => r
theorem EnvR.unset {K : PySem.W.Frag} {g : G} {σ : L2.St} {ρ : Ev} (E : EnvR K g σ ρ) (i : Nat) : EnvR K g (σ.set i none) (ρ.set i none) := by
  refine ⟨by rw [List.length_set, List.length_set]; exact E.1, fun j d h => ?_⟩
  by_cases e : i = j
  · subst e
    rw [List.getElem?_set] at h
    split at h
    · split at h <;> cases h
    · exact absurd rfl (by assumption)
  · rw [List.getElem?_set_ne e] at h ⊢
    exact E.2 j d h
theorem spost_clean {z : Z} {W : WX} {D : Ends} {g : G} {H : Hp} {i : Nat} {r : Option (Fl × Sto)} (h : SPost z W D g H (cleanS i r)) :
    SPost z W { nx := fun σ' H' => D.nx (σ'.set i none) H', rt := D.rt, bk := fun σ' H' => D.bk (σ'.set i none) H', ct := fun σ' H' => D.ct (σ'.set i none) H' } g H r := by
  cases r with
  | none => exact h
  | some p =>
    obtain ⟨fl, st⟩ := p
    cases fl with
    | nx ρ => exact fun g' H' l S σ E => h g' H' l S _ (E.unset i)
    | bk ρ => exact fun g' H' l S σ E => h g' H' l S _ (E.unset i)
    | ct ρ => exact fun g' H' l S σ E => h g' H' l S _ (E.unset i)
    | rt d => exact h
    | ex n fs ρ => exact False.elim h
/-- a reading that knows R of where it begins -/
def tDSR (z : Z) (W : WX) (R : G → L2.St → Hp → Prop) (f : SS) : TS := fun D σ H => ∃ g ρ st, R g σ H ∧ Sim z.K z.T g st H ∧ EnvR z.K g σ ρ ∧ SPost z W D g H (f ρ st)
section
variable {X : Cx} {T : List (Addr × Str)} {W : WX} {x nm : Str} {CF : Addr} {i : Nat} {body suite : List Stmt} {b₀ : Stmt} {np pos pos' : Pos} {qb : SS} {caught : Str → Option Bool} {res : Str → List (Str × D) → SS} {R : G → L2.St → Hp → Prop} {m : Nat}
theorem ps_tryAsR (hs : X.stack = X.env :: X.outer) (hf : X.env.frame = some X.env.locals) (hN : X.N.Nodup) (hi : X.N[i]? = some nm) (hln : X.env.kindOf nm = some .local) (hc : Names X x (.ref CF)) (tk : Takes X W)
    (hct : ∀ n b, caught n = some b → PySem.W.exmOne X.K (clsV (zX X T) n) (.ref CF) = some b)
    (hb : ∀ (W' : WX) (pn : List (Addr × Obj)) (xe : Value → Shared → Prop), Takes (X.tr pn xe) W' → PassesOwn (model X.prog X.w) X.A X.env xe → PSs (X.tr pn xe) body (tDSR (zX X T) W' R qb))
    (h : Str → Addr → Option Addr → SS)
    (hsu : ∀ (n : Str) (a : Addr) (d : Option Addr) (oe : Obj) (pn : List (Addr × Obj)), caught n = some true → Zc (clsV (zX X T) n) d oe → (∃ vs, oe.data = .fields vs) → PSs (X.suite a ((a, oe) :: pn)) (b₀ :: suite) (tDS (zX X T) W (h n a d)))
    (hres : ∀ (n : Str) (fs : List (Str × D)) (a : Addr) (d : Option Addr) (ρ : Ev) (st : Sto), caught n = some true → (fs = [] ∧ d = none ∨ fs ≠ [] ∧ d ≠ none) → ρ.length = m → cleanS i (h n a d (ρ.set i (some (excD a d fs))) st) = res n fs ρ st) :
    PS X (.Try body [.ExceptHandler (some (.Name x np)) (some nm) (b₀ :: suite) pos'] [] [] pos) (tDSR (zX X T) W R (qTryAs i m caught qb res)) :=
  PS.wk (ps_try_as hs hf hN hi hln hc tk hb (ts := fun a cls d D σ H => ∃ n, caught n = some true ∧ cls = clsV (zX X T) n ∧ tDS (zX X T) W (h n a d) D σ H) fun a oe cls d pn hz hd =>
      ⟨fun pins s σ H D I ⟨n, hn, e1, q⟩ => (hsu n a d oe pn hn (by rw [← e1]; exact hz) hd).run pins s σ H D I q⟩) fun D σ H ⟨g, ρ, st, hR, S, E, q⟩ => by
    refine ⟨g, ρ, st, hR, S, E, ?_⟩
    unfold qTryAs at q
    cases e : qb ρ st with
    | none => rw [e] at q; exact q.elim
    | some p =>
      obtain ⟨fl, st'⟩ := p
      rw [e] at q
      cases fl with
      | nx ρ' => exact q
      | rt d => exact q
      | bk ρ' => exact q
      | ct ρ' => exact q
      | ex n fs ρ' =>
        dsimp only at q
        intro g' H' l S' σ' dx E' xr
        cases ec : caught n with
        | none => rw [ec] at q; exact q.elim
        | some b =>
          rw [ec] at q
          refine ⟨b, hct n b ec, fun hb2 a na => ?_, fun hb2 => ?_⟩
          · subst hb2
            dsimp only at q
            split at q
            · rename_i hh
              have hdx : fs = [] ∧ dx = none ∨ fs ≠ [] ∧ dx ≠ none := by
                rcases xr with h | ⟨_, _, e, hne, _⟩
                · exact .inl h
                · exact .inr ⟨hne, by rw [e]; simp⟩
              have rx : Rep X.K g' (excD a dx fs) (.ref a) := by
                rcases xr with ⟨_, e⟩ | ⟨dd, vs, e, _, h3, h4⟩
                · subst e; exact .raw _
                · subst e; exact .xc h3 h4
              refine ⟨n, ec, rfl, g', ρ'.set i (some (excD a dx fs)), st', S', E'.set i rx, spost_clean ?_⟩
              rw [hres n fs a dx ρ' st' ec hdx (of_decide_eq_true hh)]
              exact q.mono l
            · exact q.elim
          · subst hb2
            exact q g' H' l S' σ' dx E' xr
end
end PD
/-! PDLam: a lambda handed to a def that calls it under try. -/
namespace PD
open PySem PySem.Spec PyProof.Rows L2
/-- what a lambda's reading computes, from g0, H0 on -/
def Acts (z : Z) (g0 : G) (O : Sto → Out D) (tl : XK → Hp → VK → Prop) : Prop :=
  ∀ (E : XK) (g' : G) (H' : Hp) (st' : Sto) (Q' : VK), Ge g0 g' → Sim z.K z.T g' st' H' → Sat (O st') (VPost z Q' g' H') (fun n fs st'' => ∀ g'' H'' dx, Le g' g'' H' H'' → Sim z.K z.T g'' st'' H'' → XRep z g'' H'' fs dx → E (clsV z n) dx H'') → tl E H' Q'
/-- the def makes Fw of what the lambda computes -/
def TTw (z : Z) (Fw : (Sto → Out D) → Sto → Out D) : (XK → Hp → VK → Prop) → Hp → VK → Prop := fun tl H Q =>
  ∃ g st O, Sim z.K z.T g st H ∧ Acts z g O tl ∧ Sat (Fw O st) (VPost z Q g H) (fun _ _ _ => False)
/-- x(lambda: body) -/
def sLam (Fw : (Sto → Out D) → Sto → Out D) (fb : SE) : SE := fun ρ st => match Fw (fun st => fb ρ st) st with
  | .ok d st => .ok d st
  | _ => .bad
theorem simN {z : Z} {g : G} {st : Sto} {H H1 : Hp} (S : Sim z.K z.T g st H) (e : LamX.ExtN H H1) (t : LamX.Tabs z.T H1) : Sim z.K z.T g st H1 ∧ Le g g H H1 := by
  refine ⟨⟨fun a o h => e a o (S.sub a o h) (S.tb a o h), S.len, S.nd, fun a ha => ?_, fun l a mo h1 h2 => ?_, t, S.tb⟩, Ge.refl g, fun a o h1 h2 h3 h4 => ⟨e a o h1 h4, h2, h3⟩⟩
  · obtain ⟨o, h1, h2⟩ := S.there a ha
    exact ⟨o, e a o h1 h2, h2⟩
  · have q := S.obj l a mo h1 h2
    cases mo with
    | lst xs => obtain ⟨vs, k1, k2, k3, k4⟩ := q; exact ⟨vs, k1, e _ _ k2 (fun _ => by simp), k3, k4⟩
    | dk ks xs => obtain ⟨vs, k1, k2, k3, k4⟩ := q; exact ⟨vs, k1, e _ _ k2 (fun _ => by simp), k3, k4⟩
    | gone => trivial
theorem wk_lam {X : Cx} {T : List (Addr × Str)} {W : WX} {Fw : (Sto → Out D) → Sto → Out D} {fb : SE} {σ : L2.St} {H : Hp} {Q : VK} (h : tD (zX X T) W (sLam Fw fb) σ H Q) : LamX.tLam T (TTw (zX X T) Fw) (fun E => tD (zX X T) (fun cls d _ H => E cls d H) fb) σ H Q := by
  obtain ⟨g, ρ, st, S, E, q⟩ := h
  refine ⟨S.tabs, fun H1 eN T1 => ?_⟩
  obtain ⟨S1, L1⟩ := simN S eN T1
  refine ⟨g, st, fun st => fb ρ st, S1, fun E' g' H' st' Q' ge S' sat => ⟨g', ρ, st', S', E.mono ge, Sat.mono sat (fun _ _ q => q) fun n fs st'' q => fun g'' H'' dx l S'' x => q g'' H'' dx l S'' x⟩, ?_⟩
  unfold sLam at q
  cases e : Fw (fun st => fb ρ st) st with
  | ok d st2 =>
    rw [e] at q
    exact fun g' H' v l S' r => q g' H' v (L1.trans l) S' r
  | exc _ _ _ => rw [e] at q; exact q.elim
  | bad => rw [e] at q; exact q.elim

/-! ### the def that calls it -/
def noneEv (n : Nat) : Ev := List.replicate n none
/-- call(): its exception leaves nothing known of the names -/
def qExprW (O : Sto → Out D) : SS := fun ρ st => match O st with
  | .ok _ st' => some (.nx ρ, st')
  | .exc n fs st' => some (.ex n fs (noneEv ρ.length), st')
  | .bad => none
structure RW (g0 : G) (f c' : Addr) (q : Str) (n : Nat) (g : G) (σ : L2.St) (H : Hp) : Prop where
  ge : Ge g0 g
  at0 : σ[0]? = some (some (.ref f))
  co : H c' = some (LamX.CodeO c' q)
  len : σ.length = n
theorem takes_len {X : Cx} {W : WX} (t : Takes X W) : Takes X (fun c d σ H => σ.length = X.N.length → W c d σ H) := fun u s' ⟨a, B, sI, pins, σ, H, cls, d, e, I, nb, up, sky, na, os, ag, w⟩ =>
  t u s' ⟨a, B, sI, pins, σ, H, cls, d, e, I, nb, up, sky, na, os, ag, w I.len⟩
section
variable {Y : Cx} {T : List (Addr × Str)} {g0 : G} {f c' : Addr} {q a : Str} {O : Sto → Out D} {tl : XK → Hp → VK → Prop}
theorem ps_actR {W' : WX} {p1 p2 p3 : Pos} (acts : Acts (zX Y T) g0 O tl) (tk : Takes Y W')
    (hact : ∀ (W : WX) (E : XK), Takes Y W → (∀ cls d σ' H', E cls d H' → W cls d σ' H') → PE Y (.Call (.Name a p1) [] [] p2) (fun σZ HZ Q => σZ[0]? = some (some (.ref f)) ∧ HZ c' = some (LamX.CodeO c' q) ∧ tl E HZ Q))
    (hs : swapsWith (.Call (.Name a p1) [] [] p2) none p3.line Y.env = pure false := by rfl) :
    PS Y (.Expr (.Call (.Name a p1) [] [] p2) p3) (tDSR (zX Y T) W' (RW g0 f c' q Y.N.length) (qExprW O)) := by
  have hp := hact (fun c d σ H => σ.length = Y.N.length → W' c d σ H) (fun cls d H' => ∀ σ', σ'.length = Y.N.length → W' cls d σ' H') (takes_len tk) (fun cls d σ' H' h hl => h σ' hl)
  refine PS.wk (ps_expr hp hs) fun D σ H ⟨g, ρ, st, r, S, E, qq⟩ => ?_
  refine ⟨r.at0, r.co, acts _ g H st _ r.ge S ?_⟩
  unfold qExprW at qq
  cases e : O st with
  | ok d st' =>
    rw [e] at qq
    exact fun g' H' v l S' rv => qq g' H' l S' σ (E.mono l.ge)
  | exc n fs st' =>
    rw [e] at qq
    refine fun g'' H'' dx l S'' xr σ' hl => qq g'' H'' l S'' σ' dx ⟨?_, fun i d h => ?_⟩ xr
    · rw [hl, ← r.len, E.len]
      simp [noneEv]
    · unfold noneEv at h
      rw [List.getElem?_replicate] at h
      split at h <;> cases h
  | bad => rw [e] at qq; exact qq.elim
theorem qsR_cons {W : WX} {R : G → L2.St → Hp → Prop} {sa : Stmt} {ss : List Stmt} {qa qb : SS} (h1 : PS Y sa (tDSR (zX Y T) W R qa)) (h2 : PSs Y ss (tDS (zX Y T) W qb)) : PSs Y (sa :: ss) (tDSR (zX Y T) W R (qSeq qa qb)) :=
  PSs.wk (pss_cons h1 h2) fun D σ H ⟨g, ρ, st, r, S, E, q⟩ => by
    refine ⟨g, ρ, st, r, S, E, ?_⟩
    unfold qSeq at q
    cases e : qa ρ st with
    | none => rw [e] at q; exact q.elim
    | some p =>
      obtain ⟨fl, st'⟩ := p
      rw [e] at q
      cases fl with
      | nx ρ' => exact fun g' H' l S' σ' E' => ⟨g', ρ', st', S', E', q.mono l⟩
      | rt d => exact q
      | bk ρ' => exact q
      | ct ρ' => exact q
      | ex n fs ρ' => exact q
theorem psR_set {W : WX} {n i : Nat} {x m : Str} {j : Nat} {pos pos' pe : Pos} {ss : List Stmt} {qb : SS} (hN : Y.N.Nodup) (hi : Y.N[i]? = some x) (hx : Loc Y.env.scope x) (h0 : i ≠ 0) (h2 : PSs Y ss (tDSR (zX Y T) W (RW g0 f c' q n) qb)) (hs : swapsWith (.Constant (.str m) j pe) (some (.Name x pos')) pos.line Y.env = pure false := by rfl) (hf : Y.fn x = true ∨ Y.env.scope.names.lookup x = some .local := by first | exact .inl rfl | exact .inr rfl | assumption) :
    PSs Y (.Assign [.Name x pos'] (.Constant (.str m) j pe) pos :: ss) (tDSR (zX Y T) W (RW g0 f c' q n) (qSeq (qSet i (sC (.str m))) qb)) :=
  PSs.wk (pss_cons (ps_set hN hi hx pe_str hs hf) h2) fun D σ H ⟨g, ρ, st, r, S, E, q⟩ =>
    ⟨g, ρ.set i (some (.str m)), st, ⟨r.ge, by rw [List.getElem?_set_ne h0]; exact r.at0, r.co, by rw [List.length_set]; exact r.len⟩, S, E.set i (.str m), q⟩
end

theorem none_env {K : PySem.W.Frag} {g : G} {σ : L2.St} {n : Nat} (h : σ.length = n) : EnvR K g σ (noneEv n) := ⟨by rw [h]; simp [noneEv], fun i d e => by
  unfold noneEv at e
  rw [List.getElem?_replicate] at e
  split at e <;> cases e⟩
theorem gives_of {X : Cx} {T : List (Addr × Str)} {Ng : List Str} {x a q : Str} {sg : Scope} {g : Addr} {cdg : Value} {bg : List Stmt} {bW : (Sto → Out D) → SS} (hN : 0 < Ng.length)
    (hw : ∀ (f c' : Addr) (s : Shared) (H : Hp) (g0 : G) (O : Sto → Out D) (tl : XK → Hp → VK → Prop), Acts (zX X T) g0 O tl →
      (∀ (W : WX) (pn : List (Addr × Obj)) (xe : Value → Shared → Prop) (E : XK) (p1 p2 : Pos), Takes ((cxOf C8.CX0 X.prog X.w X.K X.mg X.base Ng x sg g cdg X.A X.stack s H C8.E0).tr pn xe) W → (∀ cls d σ' H', E cls d H' → W cls d σ' H') →
        PE ((cxOf C8.CX0 X.prog X.w X.K X.mg X.base Ng x sg g cdg X.A X.stack s H C8.E0).tr pn xe) (.Call (.Name a p1) [] [] p2) (fun σZ HZ Q => σZ[0]? = some (some (.ref f)) ∧ HZ c' = some (LamX.CodeO c' q) ∧ tl E HZ Q)) →
      PSs (cxOf C8.CX0 X.prog X.w X.K X.mg X.base Ng x sg g cdg X.A X.stack s H C8.E0).nox bg (tDSR (zX X T) W0 (RW g0 f c' q Ng.length) (bW O))) :
    LamX.GivesTo X Ng x sg g cdg bg a q (TTw (zX X T) fun O st => endRaw (bW O (noneEv Ng.length) st)) := by
  intro f c' s H Q tl act hc h
  obtain ⟨g0, st, O, S, acts, sat⟩ := h
  have hs : (L2.start Ng [V.ref f]).length = Ng.length := by
    unfold L2.start
    simp
    omega
  refine ⟨_, hw f c' s H g0 O tl acts act, g0, noneEv Ng.length, st, ⟨Ge.refl g0, by unfold L2.start; simp, hc, hs⟩, S, none_env hs, ?_⟩
  dsimp only at sat
  cases e : bW O (noneEv Ng.length) st with
  | none => rw [e] at sat; exact sat.elim
  | some p =>
    obtain ⟨fl, st'⟩ := p
    rw [e] at sat
    cases fl with
    | nx ρ => exact fun g' H' l S' σ E => sat g' H' .non l S' .non
    | rt d => exact fun g' H' l S' v r => sat g' H' v l S' r
    | bk ρ => exact sat.elim
    | ct ρ => exact sat.elim
    | ex n fs ρ => exact sat.elim
section
variable {X : Cx}
/-- x(lambda: body) -/
theorem pd_lam {T : List (Addr × Str)} {W : WX} {Fw : (Sto → Out D) → Sto → Out D} {fb : SE} {x a : Str} {g c P : Addr} {k : Nat} {pg : Arguments} {bg : List Stmt} {sg : Scope} {dV kV doc pm cdv ct oc : Value} {an od : Option Addr} {osl : Array (Option Value)} {Ng : List Str}
    {params : Arguments} {body : Expr} {scope : Scope} {p lpos pos : Pos} (hg : Gl X x) (hm : X.mg x = some (.ref g)) (hk : PySem.W.keepIn X.K (.ref g) = true)
    (lk : X.K.lookup g = some ⟨oc, od, .func (PySem.W.fnOf x x pg bg sg dV kV doc pm an cdv ct), osl⟩) (hcg : PySem.W.codeIn X.K cdv x = true) (hb : L2.Binds X.K (PySem.W.fnOf x x pg bg sg dV kV doc pm an cdv ct) [a] []) (Sg : FnScope Ng [a] sg) (hNg : Ng[0]? = some a) (hva : Vis sg a)
    (hG : LamX.GivesTo X Ng x sg g cdv bg a (X.env.qual ++ "<lambda>") (TTw (zX X T) Fw))
    (TB : LamX.TabB X.base X.mg c P) (hcode : X.env.code = .ref c) (hmT : (P, X.env.qual ++ "<lambda>") ∈ T) (hu : ∀ p ∈ T, p.1 = P → p.2 = X.env.qual ++ "<lambda>") (hr : Room (k + 2) X.A) (L : LamX.LamS X.env.scope scope) (hdef : defaultsOf params X.env = ([], []))
    (hbind : ∀ (q : Str) (cl : List (Str × Addr)) (pm cv ctv : Value), bindArgs (PySem.W.kla_fn "<lambda>" q params body scope cl pm cv ctv) ⟨[], []⟩ = pure [])
    (hbody : ∀ (A : Around) (outer : List Env) (s : Shared) (H : Hp) (E : XK) (f c' : Addr), Room k (A.deeper (LamX.lamEnv X scope s.heap.objs.size f c')) → PE (LamX.lamCx X A outer s H E scope f c') body (tD (zX X T) (fun cls d _ H => E cls d H) fb))
    (hdb : (x == ("__debug__" : Str)) = false := by decide) (hd : (a == ("__debug__" : Str)) = false := by decide) (hcd : (a == ("__classdict__" : Str)) = false := by decide) :
    PE X (.Call (.Name x p) [.Lambda params body scope lpos] [] pos) (tD (zX X T) W (sLam Fw fb)) :=
  PE.wk (LamX.pe_lamcall (t := fun E => tD (zX X T) (fun cls d _ H => E cls d H) fb) hg hm hk lk hcg hb Sg hNg hva hG TB hcode hmT hu hr L hdef hbind hbody hdb hd hcd) fun σ H Q h => wk_lam h
/-- the same, of a def at the top -/
theorem pd_lamF {T : List (Addr × Str)} {W : WX} {Fw : (Sto → Out D) → Sto → Out D} {fb : SE} {x a : Str} {g c P : Addr} {fd : FuncData} {k : Nat} {st : Stmt} {Ng : List Str} {params : Arguments} {body : Expr} {scope : Scope} {p lpos pos : Pos}
    (F : Fun X.K x x st g fd) (hb : L2.Binds X.K fd [a] []) (Sg : FnScope Ng [a] (defScope st)) (hm : X.mg x = some (.ref g))
    (hG : ∀ cdv, LamX.GivesTo X Ng x (defScope st) g cdv (defBody st) a (X.env.qual ++ "<lambda>") (TTw (zX X T) Fw)) (hg : Gl X x) (hNg : Ng[0]? = some a) (hva : Vis (defScope st) a)
    (TB : LamX.TabB X.base X.mg c P) (hcode : X.env.code = .ref c) (hmT : (P, X.env.qual ++ "<lambda>") ∈ T) (hu : ∀ p ∈ T, p.1 = P → p.2 = X.env.qual ++ "<lambda>") (hr : Room (k + 2) X.A) (L : LamX.LamS X.env.scope scope)
    (hbody : ∀ (A : Around) (outer : List Env) (s : Shared) (H : Hp) (E : XK) (f c' : Addr), Room k (A.deeper (LamX.lamEnv X scope s.heap.objs.size f c')) → PE (LamX.lamCx X A outer s H E scope f c') body (tD (zX X T) (fun cls d _ H => E cls d H) fb))
    (hdef : defaultsOf params X.env = ([], []) := by rfl) (hbind : ∀ (q : Str) (cl : List (Str × Addr)) (pm cv ctv : Value), bindArgs (PySem.W.kla_fn "<lambda>" q params body scope cl pm cv ctv) ⟨[], []⟩ = pure [] := by intros; rfl)
    (hdb : (x == ("__debug__" : Str)) = false := by decide) (hd : (a == ("__debug__" : Str)) = false := by decide) (hcd : (a == ("__classdict__" : Str)) = false := by decide) :
    PE X (.Call (.Name x p) [.Lambda params body scope lpos] [] pos) (tD (zX X T) W (sLam Fw fb)) := by
  obtain ⟨oc, od, kV, doc, pm, an, cdv, ct, osl, rfl, lk, hcg⟩ := F.ex
  exact pd_lam hg hm F.kp lk hcg hb Sg hNg hva (hG cdv) TB hcode hmT hu hr L hdef hbind hbody hdb hd hcd
end

/-! ### defs, their code object told -/
section
variable {P : Program} {w : World} {K : PySem.W.Frag} {mg : Str → Option Value} {base : Heap} {T : List (Addr × Str)} {qb : SS} {x : Str}
theorem def_rawC {qual : Str} {st : Stmt} {f : Addr} {fd : FuncData} {N ps : List Str} {k : Nat} (F : Fun K x qual st f fd) (S : FnScope N ps (defScope st))
    (hb : ∀ (cdv : Value), fd.code = cdv → ∀ (A : Around) (outer : List Env) (s : Shared) (H : Hp) (E : XK), Room k (A.deeper (envOfC qual (defScope st) s.heap.objs.size f cdv)) →
      PSs (cxOf (L2.CX P w) P w K mg base N qual (defScope st) f cdv A outer s H E) (defBody st) (tDS ⟨K, T, mg⟩ (fun cls d _ H => E cls d H) qb)) :
    FnOk P w K mg base (L2.CX P w) (k + 1) f fd ps (spD ⟨K, T, mg⟩ ps.length (defRaw N.length qb)) := by
  obtain ⟨oc, od, kV, doc, pm, an, cdv, ct, osl, rfl, lk, hcd⟩ := F.ex
  refine fn_of lk hcd S (fun vs H Q E h => h.1) fun A outer s H vs Q E hr h => ⟨_, hb cdv rfl A outer s H E hr, ?_⟩
  obtain ⟨hl, g, ds, st0, S0, R, q⟩ := h
  refine ⟨g, startD N.length ds, st0, S0, start_env R, ?_⟩
  unfold defRaw at q
  cases hr2 : qb (startD N.length ds) st0 with
  | none => rw [hr2] at q; exact q.elim
  | some r =>
    obtain ⟨fl, st'⟩ := r
    rw [hr2] at q
    cases fl with
    | rt d => exact fun g' H' L S' v r => q g' H' v L S' r
    | nx ρ => exact fun g' H' L S' σ E => q g' H' .non L S' .non
    | ex n fs ρ => exact fun g' H' L S' σ dx E x => q g' H' dx L S' x
    | _ => exact q.elim
theorem def_finC {qual : Str} {st : Stmt} {f : Addr} {fd : FuncData} {N ps : List Str} {k : Nat} (F : Fun K x qual st f fd) (S : FnScope N ps (defScope st))
    (hb : ∀ (cdv : Value), fd.code = cdv → ∀ (A : Around) (outer : List Env) (s : Shared) (H : Hp) (E : XK), Room k (A.deeper (envOfC qual (defScope st) s.heap.objs.size f cdv)) →
      PSs (cxOf (L2.CX P w) P w K mg base N qual (defScope st) f cdv A outer s H E) (defBody st) (tDS ⟨K, T, mg⟩ (fun cls d _ H => E cls d H) qb)) :
    FnOk P w K mg base (L2.CX P w) (k + 1) f fd ps (spD ⟨K, T, mg⟩ ps.length (defFin N.length qb)) := fin_of_raw (def_rawC F S hb)
end
theorem hu_suite {X : Cx} {N : List Str} {x : Str} {sc : Scope} {g : Addr} {cdg : Value} {s : Shared} {H : Hp} {a : Addr} {pn : List (Addr × Obj)} (hu : X.A.units + 100 < cLine) : ((cxOf C8.CX0 X.prog X.w X.K X.mg X.base N x sc g cdg X.A X.stack s H C8.E0).nox.suite a pn).A.units + 65 < cLine := by
  show X.A.units + 3 + 65 < cLine
  omega
end PD
/-! PDExI: raise C(e), C an own exception class with `def __init__(self, f): self.f = f`. -/
namespace PD
open PySem PySem.Spec PyProof.Rows L2
/-- what __init__ does: the one field is laid -/
def spI (K : PySem.W.Frag) (C : Addr) (f : Str) : Sp := fun vs H Q _ => ∃ (a : Addr) (y : V), vs = [.ref a, y] ∧ H a = some (exo a C none) ∧ ∀ dx, H dx = none → dx ≠ a → Q .non (upd (upd H dx (exd dx [(f, y)])) a (exo a C (some dx)))
/-- an own exception class with a one field __init__ at fI -/
structure OwnI (K : PySem.W.Frag) (mg : Str → Option Value) (n f : Str) (C fI : Addr) : Prop where
  g : mg n = some (.ref C)
  x : OexC K C
  i : PySem.W.findIn K (.ref C) "__init__" = some (some (.ref fI))
  t : PySem.W.typeIn K (.ref fI) = some (.type "function")
  o : PySem.W.findIn K (.ref C) f = some none
/-- the class object's look: a class over ValueError -/
def oexIn (K : PySem.W.Frag) (C : Addr) : Bool := match K.lookup C with
  | some ⟨.type "type", _, .cls cd, sl⟩ => (match cd.mro, sl.toList with
    | .ref D :: bm, [_, _, _, _, some (.builtin m), _] => D == C && (m == "ValueError.__new__" && (cd.hasDict && (!cd.hasDel && PySem.HandSPX.refsVE bm)))
    | _, _ => false)
  | _ => false
theorem oex_cls {K : PySem.W.Frag} {C : Addr} (h : oexIn K C = true) : ∃ nm q N bs bm sn sub ab col dd k0 k1 k2 k3 k5, K.lookup C = some (excClassObj nm q C N bs bm true sn sub ab col dd k0 k1 k2 k3 k5 "ValueError.__new__") ∧ PySem.HandSPX.refsVE bm = true := by
  unfold oexIn at h
  split at h
  · rename_i dd cd sl ho
    obtain ⟨nm, bs, mro, ns, qn, hd, sn, sub, ab, col, dl⟩ := cd
    obtain ⟨l⟩ := sl
    dsimp only at h
    split at h
    · simp only [Bool.and_eq_true, beq_iff_eq, Bool.not_eq_true'] at h
      obtain ⟨rfl, rfl, rfl, rfl, h5⟩ := h
      exact ⟨_, _, _, _, _, _, _, _, _, _, _, _, _, _, _, ho, h5⟩
    · cases h
  · cases h
section
variable {P : Program} {w : World} {K : PySem.W.Frag} {mg : Str → Option Value} {base : Heap} {qual n f : Str} {C fI : Addr} {st : Stmt} {fd : FuncData} {N : List Str}
theorem init_ok {k : Nat} (o : OwnI K mg n f C fI) (F : Fun K "__init__" qual st fI fd) (S : FnScope N N (defScope st)) (hN : N.length = 2)
    (hb : ∀ (cdv : Value) (A : Around) (outer : List Env) (s : Shared) (H : Hp) (E : XK),
      PSs (cxOf (L2.CX P w) P w K mg base N qual (defScope st) fI cdv A outer s H E) (defBody st) (tOst K f (tVar 0) (tVar 1))) :
    FnOk P w K mg base (L2.CX P w) (k + 1) fI fd N (spI K C f) := by
  refine F.okX S (fun vs H Q E ⟨_, _, e, _⟩ => by rw [e, hN]; rfl) fun cdv A outer s H vs Q E hr h => ⟨_, hb cdv A outer s H E, ?_⟩
  obtain ⟨a, y, rfl, ha, q⟩ := h
  have e0 : (L2.start N [V.ref a, y])[0]? = some (some (.ref a)) := rfl
  have e1 : (L2.start N [V.ref a, y])[1]? = some (some y) := rfl
  exact ⟨y, e1, .ref a, e0, a, C, rfl, o.x, o.o, .inl ⟨ha, fun dx h1 h2 => q dx h1 h2⟩⟩
/-- C(e) -/
def sMk (n f : Str) (fe : SE) : SS := fun ρ st => (fe ρ st).st ρ fun d st => some (.ex n [(f, d)] ρ, st)
end
section
variable {X : Cx} {T : List (Addr × Str)} {W : WX} {n f : Str} {C fI : Addr} {p pos pos' : Pos} {e : Expr} {fe : SE} {fd : FuncData} {N : List Str} {k : Nat}
theorem exd_xd {a dx : Addr} {C : Addr} {f : Str} {y : V} {H : Hp} (h : H a = none) (hd : upd H a (exo a C none) dx = none) (hn : dx ≠ a) :
    upd (del (upd (upd (upd H a (exo a C none)) dx (exd dx [(f, y)])) a (exo a C (some dx))) a) dx (.xd [(f, y)]) = upd H dx (.xd [(f, y)]) := by
  funext b
  by_cases h1 : b = dx
  · subst h1
    rw [upd_same, upd_same]
  · rw [upd_ne h1, upd_ne h1]
    by_cases h2 : b = a
    · subst h2
      rw [del_same, h]
    · rw [del_ne h2, upd_ne h2, upd_ne h1, upd_ne h2]
theorem ps_raiseI (o : OwnI X.K X.mg n f C fI) (F1 : FnOk X.prog X.w X.K X.mg X.base (L2.CX X.prog X.w) k fI fd N (spI X.K C f)) (hb : Binds X.K fd N []) (hr : Room (k + 1) X.A) (hc : X.calm = true) (tk : Takes X W) (hg : Gl X n)
    (he : PE X e (tD (zX X T) W fe)) (hdb : (n == ("__debug__" : Str)) = false := by decide) (hst : starEach [e] X.env = (false, eval e X.env) :: starEach [] X.env := by rfl) (hpl : (backTo pos (starEach [] X.env)).any (·.1) = false := by rfl) :
    PS X (.Raise (some (.Call (.Name n p) [e] [] pos)) none pos') (tDS (zX X T) W (sMk n f fe)) :=
  PS.wk (ps_raise hc tk (pmk_oex o.x o.i o.t F1 hr hb (ds := []) (dvs := []) .nil (fun _ _ _ _ _ _ _ h => by obtain ⟨_, _, _, _, _, _, _, _, _, _, _, _, h⟩ := h; exact h.elim) hg o.g (pa_cons he pa_nil hst) hdb hst hpl)) fun D σ H ⟨g, ρ, st, S, E, q⟩ => by
    refine ⟨g, ρ, st, S, E, Sat.mono (st_sat E q) (fun d st1 q1 g1 H1 v L1 S1 r1 => ?_) fun _ _ _ q => q⟩
    refine ⟨by simp, fun a ha => ⟨a, v, rfl, upd_same, fun dx h1 h2 => ⟨rfl, dx, [(f, v)], upd_same, by rw [upd_ne h2, upd_same], ?_, ?_⟩⟩⟩
    · rw [upd_ne h2] at h1; exact h1
    · have h1' : H1 dx = none := by rw [upd_ne h2] at h1; exact h1
      rw [exd_xd ha h1 h2]
      obtain ⟨S2, L2'⟩ := S1.allocB (p := dx) (o := .xd [(f, v)]) h1' (fun ps z => by cases z)
      have := q1 ⟨upd g1.B dx (.xd [(f, v)]), g1.ι⟩ _ (L1.trans L2') S2 σ (some dx) (E.mono (L1.trans L2').ge) (.inr ⟨dx, [v], rfl, by simp, upd_same, .cons (r1.mono L2'.ge) .nil⟩)
      unfold clsV at this
      rw [show (zX X T).mg n = some (.ref C) from o.g] at this
      exact this
end
end PD
/-! PDMin: min, max of a list of data (the first of the least, of the greatest). -/
namespace PD
open PySem PySem.Spec PyProof.Rows L2
open PySem.W (alike dataLt AlikeAll)
/-- all can be compared with one another -/
def alikeB (ps : List PyData) : Bool := (ps.all fun x => ps.all fun y => alike x y) && ps.all fun x => match x with
  | .none => false
  | _ => true
theorem alikeB_ok {ps : List PyData} (h : alikeB ps = true) : AlikeAll ps := by
  unfold alikeB at h
  rw [Bool.and_eq_true, List.all_eq_true, List.all_eq_true] at h
  refine ⟨fun x hx y hy => List.all_eq_true.mp (h.1 x hx) y hy, fun x hx e => ?_⟩
  have := h.2 x hx
  subst e
  cases this
/-- the first of the best, by the data -/
def bestP {α : Type} (f : PyData → PyData → Bool) (p : PyData × α) (l : List (PyData × α)) : PyData × α := l.foldl (fun a y => if f y.1 a.1 then y else a) p
def bBestP (f : PyData → PyData → Bool) (xs : List D) (st : Sto) : Out D := match xs with
  | [x] => (match litems st x with
    | some (y :: ys) => (match toPys st 59 (y :: ys) with
      | some (p :: ps) => if alikeB (p :: ps) then .ok (bestP f (p, y) (ps.zip ys)).2 st else .bad
      | _ => .bad)
    | _ => .bad)
  | _ => .bad
def bMinP := bBestP fun y a => dataLt y a
def bMaxP := bBestP fun y a => dataLt a y
/-- min, max: the item at the best place -/
def rBestP (K : PySem.W.Frag) (f : PyData → PyData → Bool) : List V → Hp → VK → Prop := fun vs H Q => ∃ (a : Addr) (xs : List V) (ps : List PyData), vs = [.ref a] ∧ SqL K H a xs ∧ DpAll K H xs ps ∧ AlikeAll ps ∧ PyData.depthAll ps ≤ 60 ∧ 0 < xs.length ∧
  ∀ v, xs[argBest (fun i j => f (ps.getD i .none) (ps.getD j .none)) (ps.length - 1)]? = some v → Q v H
section
variable {X : Cx}
theorem dpAll_len {K : PySem.W.Frag} {H : Hp} : ∀ {xs : List V} {ps : List PyData}, DpAll K H xs ps → xs.length = ps.length
  | _, _, .nil => rfl
  | _, _, .cons _ t => by rw [List.length_cons, List.length_cons, dpAll_len t]
theorem argBest_le (f : Nat → Nat → Bool) : ∀ k, argBest f k ≤ k
  | 0 => Nat.le_refl _
  | k + 1 => by
    unfold argBest
    split
    · exact Nat.le_refl _
    · exact Nat.le_succ_of_le (argBest_le f k)
theorem cr_minP (hc : X.calm = true) (hu : X.A.units + 65 < cLine) : CallR X (.builtin "min") (rBestP X.K fun y a => dataLt y a) := by
  intro pins s σ H vs us Q I r h
  obtain ⟨a, xs, ps, rfl, hs, hd, al, dp, hne, q⟩ := h
  obtain ⟨its, rv, hl, _⟩ := I.list hs
  rw [Vals.ref1 r]
  obtain ⟨as, hr⟩ := Dp.readsAll I ps xs its hd rv
  have e1 := dpAll_len hd
  have e2 := rv.length
  have hh := I.ok.hd hc
  refine PySem.call_min_walkH (PySem.W.iter_listW (A := X.A.in1) hh hl.isList fun s₂ e W st hfp hw hk => ?_)
  refine ⟨_, _, _, _, _, _, _, s.heap, _, rfl, W, st, hfp, by simp; omega, hw, hk, PySem.W.cmpIn_lt (A := X.A.in1) (by simpa using hr) al (by show X.A.units + 1 + _ < _; omega), fun v s' hP m => ?_⟩
  obtain ⟨h', tk, rfl, hk'⟩ := PySem.W.moved_old e rfl m
  have e3 : its.toArray.size - 1 = ps.length - 1 := by simp; omega
  rw [e3] at hP
  have hlt := argBest_le (fun i j => dataLt (ps.getD i .none) (ps.getD j .none)) (ps.length - 1)
  generalize argBest (fun i j => dataLt (ps.getD i .none) (ps.getD j .none)) (ps.length - 1) = k at hP q hlt
  have hk2 : k < xs.length := by omega
  have g1 : xs[k]? = some xs[k] := List.getElem?_eq_getElem hk2
  have g2 : its[k]? = some v := by simpa using hP
  obtain ⟨u, g3, g4⟩ := Vals.get rv g1
  rw [g2] at g3
  cases g3
  exact ⟨xs[k], H, I.kept hk', g4, q _ g1⟩
theorem cr_maxP (hc : X.calm = true) (hu : X.A.units + 65 < cLine) : CallR X (.builtin "max") (rBestP X.K fun y a => dataLt a y) := by
  intro pins s σ H vs us Q I r h
  obtain ⟨a, xs, ps, rfl, hs, hd, al, dp, hne, q⟩ := h
  obtain ⟨its, rv, hl, _⟩ := I.list hs
  rw [Vals.ref1 r]
  obtain ⟨as, hr⟩ := Dp.readsAll I ps xs its hd rv
  have e1 := dpAll_len hd
  have e2 := rv.length
  have hh := I.ok.hd hc
  refine PySem.call_max_walkH (PySem.W.iter_listW (A := X.A.in1) hh hl.isList fun s₂ e W st hfp hw hk => ?_)
  refine ⟨_, _, _, _, _, _, _, s.heap, _, rfl, W, st, hfp, by simp; omega, hw, hk, PySem.W.cmpIn_gt (A := X.A.in1) (by simpa using hr) al (by show X.A.units + 1 + _ < _; omega), fun v s' hP m => ?_⟩
  obtain ⟨h', tk, rfl, hk'⟩ := PySem.W.moved_old e rfl m
  have e3 : its.toArray.size - 1 = ps.length - 1 := by simp; omega
  rw [e3] at hP
  have hlt := argBest_le (fun i j => dataLt (ps.getD j .none) (ps.getD i .none)) (ps.length - 1)
  generalize argBest (fun i j => dataLt (ps.getD j .none) (ps.getD i .none)) (ps.length - 1) = k at hP q hlt
  have hk2 : k < xs.length := by omega
  have g1 : xs[k]? = some xs[k] := List.getElem?_eq_getElem hk2
  have g2 : its[k]? = some v := by simpa using hP
  obtain ⟨u, g3, g4⟩ := Vals.get rv g1
  rw [g2] at g3
  cases g3
  exact ⟨xs[k], H, I.kept hk', g4, q _ g1⟩
theorem zip_getD {α β : Type} (a : α) (b : β) : ∀ (xs : List α) (ys : List β) (i : Nat), xs.length = ys.length → (xs.zip ys).getD i (a, b) = (xs.getD i a, ys.getD i b)
  | [], [], _, _ => rfl
  | [], _ :: _, _, h => by simp at h
  | _ :: _, [], _, h => by simp at h
  | x :: xs, y :: ys, 0, _ => rfl
  | x :: xs, y :: ys, i + 1, h => by
    have := zip_getD a b xs ys i (by simpa using h)
    simpa using this
variable {T : List (Addr × Str)}
theorem does_bestP (f : PyData → PyData → Bool) : DoesB X T (rBestP X.K f) (bBestP f) := by
  intro W σ g st H ds vs Q S r h
  unfold bBestP at h
  split at h
  · rename_i x
    split at h
    · rename_i y ys e1
      split at h
      · rename_i p ps e2
        split at h
        · rename_i ha
          cases r with
          | cons r1 r2 =>
            cases r2
            obtain ⟨a, ws, rfl, h1, h2, h3⟩ := S.litems r1 e1
            obtain ⟨k1, k2, k3⟩ := toPys_dp S 59 h3 e2
            have el := dpAll_len k1
            have el2 := h3.length
            have ep : ps.length = ys.length := by
              rw [← el2] at el
              simpa using el.symm
            refine ⟨a, ws, p :: ps, rfl, SqL.of h1, k1, alikeB_ok ha, by omega, by rw [el]; simp, fun v hv => ?_⟩
            have fo := PySem.W.argBest_fold (fun (u w : PyData × D) => f u.1 w.1) (PyData.none, D.non) (p, y) (ps.zip ys) (ps.zip ys).length (Nat.le_refl _)
            rw [List.take_length] at fo
            have ez : (ps.zip ys).length = (p :: ps).length - 1 := by rw [List.length_zip, List.length_cons]; omega
            have eg : ∀ i, ((p, y) :: ps.zip ys).getD i (PyData.none, D.non) = ((p :: ps).getD i .none, (y :: ys).getD i .non) := fun i => zip_getD _ _ (p :: ps) (y :: ys) i (by simp [ep])
            simp only [eg] at fo
            rw [ez] at fo
            generalize argBest (fun i j => f ((p :: ps).getD i .none) ((p :: ps).getD j .none)) ((p :: ps).length - 1) = k at fo hv
            obtain ⟨d, g1, g2⟩ := h3.getV hv
            have g3 : (y :: ys).getD k .non = d := by rw [List.getD_eq_getElem?_getD, g1]; rfl
            have g4 : (bestP f (p, y) (ps.zip ys)).2 = d := by
              unfold bestP
              rw [← fo.2]
              exact g3
            rw [g4] at h
            exact h g H v (Le.refl g H) S g2
        · exact h.elim
      · exact h.elim
    · exact h.elim
  · exact h.elim
end
end PD
/-! PDRep: a tuple times a number. -/
namespace PD
open PySem PySem.Spec PyProof.Rows L2
open PySem.AutoSeq1 (wpAny_loadPart')
open PySem.MeetsSeq PySem.MeetsSeq2 PySem.MeetsSeq3
theorem tuple_mul1 (l : Addr) (items : Array Value) (n : Nat) (dd : Option Addr) (sl : Array (Option Value)) (u : Tok) :
    Meets (Builtin.«tuple.__mul__» ⟨[.ref l, .int 1 u], []⟩) (fun _ R s => s.heap.get? l = some { cls := .type "tuple", dict := dd, data := .seq items n, slots := sl } ∧ R (.ok (.ret (Value.ref l))) s) :=
  .of_wp fun prog w A R s h => by
    obtain ⟨hp, g, d, tk, os⟩ := s
    obtain ⟨hl, h⟩ := h
    have f1 := AutoSeq1.idx_int
    wp_walk using wpAny_loadPart' hl
    exact ⟨_, rfl, h⟩
def rRepT1 (K : PySem.W.Frag) : R2 := fun x y H Q => ∃ l xs, x = .ref l ∧ y = .int 1 ∧ SqT K H l xs ∧ Q (.ref l) H
theorem op_repT1 {X : Cx} : OpR X (binaryOp .Mult) (rRepT1 X.K) := by
  intro pins s σ H x y v u Q I rx ry h
  obtain ⟨l, xs, rfl, rfl, hT, q⟩ := h
  cases rx
  obtain ⟨t, rfl⟩ := ry
  obtain ⟨its, r, ⟨⟨cls, dd, data, sl⟩, ho, hc, n, hd⟩, hs⟩ := I.tuple hT
  simp only at hc hd
  subst hc hd
  refine wpAny_binaryOp_repeat_ref (T := "tuple") (U := "int") (by decide) ⟨_, ho, rfl⟩ (fun s' => typeIs_int s' 1 t) L2.noFill_tuple_mul PySem.F.fills_int_mul PySem.F.slot_int_rmul L2.repeat_tuple PySem.F.slot_int_index.lookup
    (call_meets PySem.F.slot_int_rmul (typeIs_int s 1 t) PySem.F.entry_int_rmul (PySem.F.args_int_rmul_2 _ _) (L2.int_rmul_tuple 1 t l its.toArray n dd sl)
      ⟨ho, rfl, ⟨_, ho, rfl⟩, call_meets PySem.F.slot_tuple_mul ⟨_, ho, rfl⟩ PySem.F.entry_tuple_mul (PySem.F.args_tuple_mul_2 _ _) (tuple_mul1 l its.toArray n dd sl t) ⟨ho, ?_⟩⟩)
  exact ⟨.ref l, H, I, rfl, q⟩
def fRepT (x y : D) (st : Sto) : Out D := match x, y with
  | .tup xs, .int k => if 1 ≤ k ∧ k ≤ 1000 ∧ 0 < xs.length ∧ xs.length ≤ 1000 then .ok (.tup (repL xs k.toNat)) st else .bad
  | _, _ => .bad
theorem pd_repT {X : Cx} {T : List (Addr × Str)} {W : WX} {a b : Expr} {fa fb : SE} {pos : Pos} (ha : PE X a (tD (zX X T) W fa)) (hb : PE X b (tD (zX X T) W fb)) : PE X (.BinOp a .Mult b pos) (tD (zX X T) W (s2 fRepT fa fb)) := pd_op (op_repT1.or op_repN) (by
  intro W σ g st H dx dy x y Q S rx ry h
  unfold fRepT at h
  split at h
  · rename_i xs k
    split at h
    · rename_i hz
      obtain ⟨h1, h2, h3, h4⟩ := hz
      cases ry
      obtain ⟨a, vs, rfl, k1, k2, k3⟩ := S.tup rx
      have e1 := k3.length
      by_cases e : k = 1
      · subst e
        refine .inl ⟨a, vs, rfl, rfl, k1, ?_⟩
        have er : repL xs (1 : Int).toNat = xs := by simp [repL]
        rw [er] at h
        exact h g H _ (Le.refl g H) S rx
      · refine .inr ⟨a, k, vs, rfl, rfl, k1, fun q => by rw [q] at e1; rw [List.length_nil] at e1; omega, by omega, h2, by omega, fun p o hp ho => ?_⟩
        obtain ⟨S', L'⟩ := S.allocB (o := .frz o (.tup (List.replicate k.toNat vs).flatten)) hp (fun _ => by simp)
        refine h _ _ _ L' S' (.tup (SqN.of ho) ?_ ((k3.replicate _).mono L'.ge))
        have : ((List.replicate k.toNat vs).flatten).length = k.toNat * vs.length := by simp [List.length_flatten]
        rw [this, sizeLine_eq]
        have a1 : k.toNat * vs.length ≤ 1000 * 1000 := Nat.mul_le_mul (by omega) (by omega)
        omega
    · exact h.elim
  · exact h.elim) ha hb
end PD
/-! PDSub: targets that are items: (o[i], p[j]) = .. -/
namespace PD
open PySem PySem.Spec PyProof.Rows L2
abbrev TgS := D → SS
def uN (i : Nat) : TgS := fun d ρ st => some (.nx (ρ.set i (some d)), st)
def uIx (o i : SE) : TgS := fun v ρ st => (o ρ st).st ρ fun x st => (i ρ st).st ρ fun y st => match fSetIx x y v st with
  | some st => some (.nx ρ, st)
  | none => none
/-- one target after another -/
def uSeq (a : Option (Fl × Sto)) (b : SS) : Option (Fl × Sto) := match a with
  | some (.nx ρ, st) => b ρ st
  | some (.ex n fs ρ, st) => some (.ex n fs ρ, st)
  | _ => none
def uT2 (a b : TgS) : TgS := fun d ρ st => match d with
  | .tup [x, y] => uSeq (a x ρ st) (b y)
  | _ => none
def qAsgS (u : TgS) (e : SE) : SS := fun ρ st => (e ρ st).st ρ fun d st => u d ρ st
@[simp] theorem uN_e (i : Nat) (d : D) (ρ : Ev) (st : Sto) : uN i d ρ st = some (.nx (ρ.set i (some d)), st) := id rfl
@[simp] theorem uIx_e (o i : SE) (v : D) (ρ : Ev) (st : Sto) : uIx o i v ρ st = (o ρ st).st ρ fun x st => (i ρ st).st ρ fun y st => match fSetIx x y v st with
  | some st => some (.nx ρ, st)
  | none => none := id rfl
@[simp] theorem uT2_e (a b : TgS) (x y : D) (ρ : Ev) (st : Sto) : uT2 a b (.tup [x, y]) ρ st = uSeq (a x ρ st) (b y) := id rfl
@[simp] theorem uSeq_nx (b : SS) (ρ : Ev) (st : Sto) : uSeq (some (.nx ρ, st)) b = b ρ st := id rfl
@[simp] theorem qAsgS_e (u : TgS) (e : SE) (ρ : Ev) (st : Sto) : qAsgS u e ρ st = (e ρ st).st ρ fun d st => u d ρ st := id rfl
section
variable {X : Cx} {T : List (Addr × Str)} {W : WX}
/-- a target does what u says -/
def UOk (X : Cx) (T : List (Addr × Str)) (W : WX) (t : TG) (u : TgS) : Prop := ∀ (Dd : Ends) (g : G) (st : Sto) (σ : L2.St) (ρ : Ev) (H : Hp) (d : D) (v : V), Sim X.K T g st H → Rep X.K g d v → EnvR X.K g σ ρ → SPost (zX X T) W Dd g H (u d ρ st) → t v σ H Dd.nx
theorem u_name (i : Nat) : UOk X T W (gName i) (uN i) := fun Dd g st σ ρ H d v S r E q => q g H (Le.refl g H) S _ (E.set i r)
theorem u_sub {fo fx : SE} : UOk X T W (gSub (tD (zX X T) W fo) (tD (zX X T) W fx) rSetL) (uIx fo fx) := fun Dd g st σ ρ H d v S r E q => by
  refine ⟨g, ρ, st, S, E, Sat.mono (st_sat E q) (fun d2 st2 q2 g2 H2 v2 L2 S2 r2 => ?_) fun _ _ _ q => q⟩
  refine ⟨g2, ρ, st2, S2, E.mono L2.ge, Sat.mono (st_sat E q2) (fun d3 st3 q3 g3 H3 v3 L3 S3 r3 => ?_) fun _ _ _ q => q.mono L2⟩
  have L := L2.trans L3
  cases hf : fSetIx d2 d3 d st3 with
  | none => rw [hf] at q3; exact q3.elim
  | some st4 =>
    rw [hf] at q3
    unfold fSetIx at hf
    split at hf
    · rename_i l k
      split at hf
      · rename_i xs hs3
        split at hf
        · rename_i j hj
          cases hf
          cases r2 with
          | ref hl =>
            rename_i a
            cases r3
            have hl3 := L3.ge.i _ _ hl
            obtain ⟨ws, h1, h2, h3, h4⟩ := S3.obj _ a _ hl3 hs3
            refine ⟨a, ws, k, j, rfl, rfl, h2, by rw [← h4.length, ix_eq]; exact hj, ?_⟩
            obtain ⟨S4, L4⟩ := S3.write (vs' := ws.set j v) hl3 hs3 (by rw [List.length_set]; exact h3) (Reps.set (r.mono L.ge) j h4)
            exact q3 g3 _ (L.trans L4) S4 σ (E.mono (L.trans L4).ge)
        · cases hf
      · cases hf
    · cases hf
theorem u_two {t1 t2 : TG} {u1 u2 : TgS} (h1 : UOk X T W t1 u1) (h2 : UOk X T W t2 u2) : UOk X T W (gTup X.K 2 (gCons t1 (gCons t2 gNil))) (uT2 u1 u2) := fun Dd g st σ ρ H d v S r E q => by
  unfold uT2 at q
  split at q
  · rename_i x y
    obtain ⟨a, vs, rfl, q1, q2, q3⟩ := S.tup r
    cases q3 with
    | cons r1 q3 => cases q3 with
      | cons r2 q3 =>
        cases q3
        rename_i v1 v2
        refine ⟨a, [_, _], rfl, q1, rfl, _, [_], rfl, ?_⟩
        refine h1 { Dd with nx := fun σ' H' => gCons t2 gNil [v2] σ' H' Dd.nx } g st σ ρ H x v1 S r1 E ?_
        cases e : u1 x ρ st with
        | none => rw [e] at q; exact q
        | some p =>
          obtain ⟨fl, st1⟩ := p
          rw [e] at q
          cases fl with
          | nx ρ1 =>
            refine fun g' H' L S' σ' E' => ⟨v2, [], rfl, ?_⟩
            refine h2 { Dd with nx := fun σ' H' => gNil [] σ' H' Dd.nx } g' st1 σ' ρ1 H' y v2 S' (r2.mono L.ge) E' ?_
            have q' : SPost (zX X T) W Dd g' H' (u2 y ρ1 st1) := SPost.mono L q
            cases e2 : u2 y ρ1 st1 with
            | none => rw [e2] at q'; exact q'
            | some p =>
              obtain ⟨fl, st2⟩ := p
              rw [e2] at q'
              cases fl with
              | nx ρ2 => exact fun g2 H2 L2 S2 σ2 E2 => ⟨rfl, q' g2 H2 L2 S2 σ2 E2⟩
              | rt d => exact q'
              | bk ρ2 => exact q'
              | ct ρ2 => exact q'
              | ex n fs ρ2 => exact q'
          | ex n fs ρ1 => exact q
          | rt d => exact q.elim
          | bk ρ1 => exact q.elim
          | ct ρ1 => exact q.elim
  · exact q.elim
variable {tg e : Expr} {fe : SE} {pos : Pos}
theorem ps_asgS {t : TG} {u : TgS} (ht : UOk X T W t u) (he : PE X e (tD (zX X T) W fe)) (hg : PG X tg t) (hs : swapsWithSole [tg] e pos.line X.env = pure false := by rfl) (hw : swappedStores [tg] e X.env = pure none := by rfl)
    (h1 : (assignEach [tg] X.env).map (·.2) = [assign tg X.env] := by rfl) : PS X (.Assign [tg] e pos) (tDS (zX X T) W (qAsgS u fe)) :=
  PS.wk (ps_asg he hg hs hw h1) fun D σ H ⟨g, ρ, st, S, E, q⟩ => ⟨g, ρ, st, S, E, Sat.mono (st_sat E q) (fun d st1 q1 g1 H1 v L1 S1 r1 =>
    ht D g1 st1 σ ρ H1 d v S1 r1 (E.mono L1.ge) (SPost.mono L1 q1)) fun _ _ _ q => q⟩
theorem pg_subD {o i : Expr} {fo fx : SE} {pos' : Pos} (ho : PE X o (tD (zX X T) W fo)) (hi : PE X i (tD (zX X T) W fx))
    (ha : ∀ v, assign (.Subscript o i pos') X.env v = (do
      let ov ← holding [v] (eval o X.env)
      let iv ← holding [v, ov] (eval i X.env)
      standAt pos'
      holding [v, ov, iv] (setItem ov iv v)
      release [v, ov, iv] []) := by intro _; rfl) : PG X (.Subscript o i pos') (gSub (tD (zX X T) W fo) (tD (zX X T) W fx) rSetL) := pg_sub ho hi set_list ha
end
end PD
/-! PDEval: how the plain semantics computes. -/
namespace PD
open PySem PySem.Spec PyProof.Rows L2

/-! ### unfolding -/
@[simp] theorem sVar_e (i : Nat) (ρ : Ev) (st : Sto) : sVar i ρ st = match ρ[i]? with | some (some d) => .ok d st | _ => .bad := id rfl
@[simp] theorem sC_e (d : D) (ρ : Ev) (st : Sto) : sC d ρ st = .ok d st := id rfl
@[simp] theorem s2_e (f : D → D → Sto → Out D) (a b : SE) (ρ : Ev) (st : Sto) : s2 f a b ρ st = (a ρ st).bind fun x st => (b ρ st).bind fun y st => f x y st := id rfl
@[simp] theorem s1_e (f : D → Sto → Out D) (a : SE) (ρ : Ev) (st : Sto) : s1 f a ρ st = (a ρ st).bind fun x st => f x st := id rfl
@[simp] theorem tTru_e (e : SE) (ρ : Ev) (st : Sto) : tTru e ρ st = (e ρ st).bind fun d st => match truD st d with | some b => .ok b st | none => .bad := id rfl
@[simp] theorem tBl_e (e : SE) (ρ : Ev) (st : Sto) : tBl e ρ st = (e ρ st).bind fun d st => match d with | .bl b => .ok b st | _ => .bad := id rfl
@[simp] theorem tAndD_e (a b : ST) (ρ : Ev) (st : Sto) : tAndD a b ρ st = (a ρ st).bind fun c st => if c = true then b ρ st else .ok false st := id rfl
@[simp] theorem tOrD_e (a b : ST) (ρ : Ev) (st : Sto) : tOrD a b ρ st = (a ρ st).bind fun c st => if c = true then .ok true st else b ρ st := id rfl
@[simp] theorem tNotD_e (a : ST) (ρ : Ev) (st : Sto) : tNotD a ρ st = (a ρ st).bind fun c st => .ok (!c) st := id rfl
@[simp] theorem tYesD_e (ρ : Ev) (st : Sto) : tYesD ρ st = .ok true st := id rfl
@[simp] theorem sAnd_e (a b : SE) (ρ : Ev) (st : Sto) : sAnd a b ρ st = (a ρ st).bind fun x st => match x with | .bl c => if c = true then b ρ st else .ok (.bl false) st | _ => .bad := id rfl
@[simp] theorem sOr_e (a b : SE) (ρ : Ev) (st : Sto) : sOr a b ρ st = (a ρ st).bind fun x st => match x with | .bl c => if c = true then .ok (.bl true) st else b ρ st | _ => .bad := id rfl
@[simp] theorem sNotV_e (a : SE) (ρ : Ev) (st : Sto) : sNotV a ρ st = (a ρ st).bind fun d st => match d with | .bl c => .ok (.bl (!c)) st | _ => .bad := id rfl
@[simp] theorem sIf_e (t : ST) (a b : SE) (ρ : Ev) (st : Sto) : sIf t a b ρ st = (t ρ st).bind fun c st => if c = true then a ρ st else b ρ st := id rfl
@[simp] theorem sChain_e (f g : D → D → Sto → Out D) (a b c : SE) (ρ : Ev) (st : Sto) : sChain f g a b c ρ st = (a ρ st).bind fun x st => (b ρ st).bind fun y st => (f x y st).bind fun z st => match z with
  | .bl k => if k = true then (c ρ st).bind fun w st => g y w st else .ok (.bl false) st
  | _ => .bad := id rfl
@[simp] theorem aNil_e (ρ : Ev) (st : Sto) : aNil ρ st = .ok [] st := id rfl
@[simp] theorem aCons_e (e : SE) (r : SA) (ρ : Ev) (st : Sto) : aCons e r ρ st = (e ρ st).bind fun x st => (r ρ st).bind fun xs st => .ok (x :: xs) st := id rfl
@[simp] theorem sTup_e (a : SA) (ρ : Ev) (st : Sto) : sTup a ρ st = (a ρ st).bind fun xs st => if xs.length ≤ sizeLine then .ok (.tup xs) st else .bad := id rfl
@[simp] theorem sLst_e (m : Bool) (a : SA) (ρ : Ev) (st : Sto) : sLst m a ρ st = (a ρ st).bind fun xs st => if xs.length ≤ sizeLine then newL m xs st else .bad := id rfl
@[simp] theorem sCall_e (n : Nat) (F : List D → Sto → Out D) (a : SA) (ρ : Ev) (st : Sto) : sCall n F a ρ st = (a ρ st).bind fun xs st => if xs.length = n then F xs st else .bad := id rfl
@[simp] theorem sB_e (F : List D → Sto → Out D) (a : SA) (ρ : Ev) (st : Sto) : sB F a ρ st = (a ρ st).bind fun xs st => F xs st := id rfl
@[simp] theorem sIsI_e (t : TyN) (e : SE) (ρ : Ev) (st : Sto) : sIsI t e ρ st = (e ρ st).bind fun d st => match isTy t d with | some b => .ok (.bl b) st | none => .bad := id rfl
@[simp] theorem oInt_e (e : SE) (ρ : Ev) (st : Sto) : oInt e ρ st = (e ρ st).bind fun d st => match d with | .int i => .ok (some i) st | _ => .bad := id rfl
@[simp] theorem oNone_e (ρ : Ev) (st : Sto) : oNone ρ st = .ok none st := id rfl
@[simp] theorem sM_e (f : D → D → Sto → Out D) (o e : SE) (ρ : Ev) (st : Sto) : sM f o e ρ st = (o ρ st).bind fun x st => match litems st x with | some _ => (e ρ st).bind fun y st => f x y st | none => .bad := id rfl
@[simp] theorem iSeq_e (e : SE) (ρ : Ev) (st : Sto) : iSeq e ρ st = (e ρ st).bind fun x st => match items st x with | some xs => .ok (xs, dynOf x) st | none => .bad := id rfl
@[simp] theorem iRange1_e (a : SA) (ρ : Ev) (st : Sto) : iRange1 a ρ st = (a ρ st).bind fun xs st => match xs with
  | [.int j] => if -1000000 ≤ j ∧ j ≤ 1000000 then .ok (rangeL 0 j.toNat, none) st else .bad
  | _ => .bad := id rfl
@[simp] theorem iRange2_e (a : SA) (ρ : Ev) (st : Sto) : iRange2 a ρ st = (a ρ st).bind fun xs st => match xs with
  | [.int i, .int j] => if -1000000 ≤ i ∧ i ≤ 1000000 ∧ -1000000 ≤ j ∧ j ≤ 1000000 then .ok (rangeL i (j - i).toNat, none) st else .bad
  | _ => .bad := id rfl
@[simp] theorem iZip_e (a : SA) (ρ : Ev) (st : Sto) : iZip a ρ st = (a ρ st).bind fun xs st => match xs with
  | [.tup xs, .tup ys] => .ok (zipD xs ys, none) st
  | [.lst xs, .lst ys] => .ok (zipD xs ys, none) st
  | _ => .bad := id rfl
@[simp] theorem iEnum_e (a : SA) (ρ : Ev) (st : Sto) : iEnum a ρ st = (a ρ st).bind fun xs st => match xs with
  | [.tup xs] => .ok (enumFromD 0 xs, none) st
  | [.lst xs] => .ok (enumFromD 0 xs, none) st
  | [.ref l] => (match st[l]? with | some (.lst xs) => .ok (enumFromD 0 xs, some (.inr l)) st | _ => .bad)
  | _ => .bad := id rfl
@[simp] theorem gN_e (i : Nat) (d : D) (ρ : Ev) : gN i d ρ = some (ρ.set i (some d)) := id rfl
@[simp] theorem gT2_e (a b : TgD) (x y : D) (ρ : Ev) : gT2 a b (.tup [x, y]) ρ = (a x ρ).bind fun ρ => b y ρ := id rfl
@[simp] theorem gT2_p (a b : TgD) (x y : D) (ρ : Ev) : gT2 a b (.tpl [x, y]) ρ = (a x ρ).bind fun ρ => b y ρ := id rfl
@[simp] theorem gT3_e (a b c : TgD) (x y z : D) (ρ : Ev) : gT3 a b c (.tup [x, y, z]) ρ = (a x ρ).bind fun ρ => (b y ρ).bind fun ρ => c z ρ := id rfl
@[simp] theorem wipe_nil (ρ : Ev) : wipeD ρ [] = ρ := id rfl
@[simp] theorem wipe_cons (ρ : Ev) (v : Nat) (vs : List Nat) : wipeD ρ (v :: vs) = (wipeD ρ vs).set v none := id rfl
@[simp] theorem qNext_e (ρ : Ev) (st : Sto) : qNext ρ st = some (.nx ρ, st) := id rfl
@[simp] theorem qSet_e (i : Nat) (e : SE) (ρ : Ev) (st : Sto) : qSet i e ρ st = (e ρ st).st ρ fun d st => some (.nx (ρ.set i (some d)), st) := id rfl
@[simp] theorem qPar_e (i j : Nat) (a : SA) (ρ : Ev) (st : Sto) : qPar i j a ρ st = (a ρ st).st ρ fun ds st => match ds with
  | [x, y] => some (.nx ((ρ.set i (some x)).set j (some y)), st)
  | _ => none := id rfl
@[simp] theorem qAsg_e (g : TgD) (e : SE) (ρ : Ev) (st : Sto) : qAsg g e ρ st = (e ρ st).st ρ fun d st => match g d ρ with
  | some ρ' => some (.nx ρ', st)
  | none => none := id rfl
@[simp] theorem qExpr_e (e : SE) (ρ : Ev) (st : Sto) : qExpr e ρ st = (e ρ st).st ρ fun _ st => some (.nx ρ, st) := id rfl
@[simp] theorem qRet_e (e : SE) (ρ : Ev) (st : Sto) : qRet e ρ st = (e ρ st).st ρ fun d st => some (.rt d, st) := id rfl
@[simp] theorem qRetN_e (ρ : Ev) (st : Sto) : qRetN ρ st = some (.rt .non, st) := id rfl
@[simp] theorem qBrk_e (ρ : Ev) (st : Sto) : qBrk ρ st = some (.bk ρ, st) := id rfl
@[simp] theorem qCnt_e (ρ : Ev) (st : Sto) : qCnt ρ st = some (.ct ρ, st) := id rfl
@[simp] theorem qIf_e (t : ST) (a b : SS) (ρ : Ev) (st : Sto) : qIf t a b ρ st = (t ρ st).st ρ fun c st => if c = true then a ρ st else b ρ st := id rfl
@[simp] theorem qSetIx_e (o i e : SE) (ρ : Ev) (st : Sto) : qSetIx o i e ρ st = (e ρ st).st ρ fun v st => (o ρ st).st ρ fun x st => (i ρ st).st ρ fun y st => match fSetIx x y v st with
  | some st => some (.nx ρ, st)
  | none => none := id rfl
/-- one statement after another -/
def thenS (r : Option (Fl × Sto)) (b : SS) : Option (Fl × Sto) := match r with
  | some (.nx ρ', st') => b ρ' st'
  | r => r
@[simp] theorem qSeq_e (a b : SS) (ρ : Ev) (st : Sto) : qSeq a b ρ st = thenS (a ρ st) b := id rfl
@[simp] theorem then_nx (ρ : Ev) (st : Sto) (b : SS) : thenS (some (.nx ρ, st)) b = b ρ st := id rfl
@[simp] theorem then_rt (d : D) (st : Sto) (b : SS) : thenS (some (.rt d, st)) b = some (.rt d, st) := id rfl
@[simp] theorem then_ct (ρ : Ev) (st : Sto) (b : SS) : thenS (some (.ct ρ, st)) b = some (.ct ρ, st) := id rfl
@[simp] theorem then_bk (ρ : Ev) (st : Sto) (b : SS) : thenS (some (.bk ρ, st)) b = some (.bk ρ, st) := id rfl
@[simp] theorem qFor_e (it : SI) (g : TgD) (b : SS) (ρ : Ev) (st : Sto) : qFor it g b ρ st = (it ρ st).st ρ fun p st => loopFor p.2 p.1.length g b 0 p.1 ρ st := id rfl
@[simp] theorem sListR1_e (m : Bool) (a : SE) (ρ : Ev) (st : Sto) : sListR1 m a ρ st = (a ρ st).bind fun x st => match x with
  | .int j => if 0 ≤ j ∧ j ≤ sizeLine then newL m (rangeL 0 j.toNat) st else .bad
  | _ => .bad := id rfl
@[simp] theorem sSlice_e (m : Bool) (e : SE) (lo hi : Ev → Sto → Out (Option Int)) (ρ : Ev) (st : Sto) : sSlice m e lo hi ρ st = (e ρ st).bind fun x st => (lo ρ st).bind fun i st => (hi ρ st).bind fun j st => match x with
  | .tup xs => .ok (.tup (cutD xs i j)) st
  | .fz xs => newL m (cutD xs i j) st
  | x => match litems st x with | some xs => newL m (cutD xs i j) st | none => .bad := id rfl
/-! operators on ints -/
@[simp] theorem fAdd_i (i j : Int) (st : Sto) : fAdd (.int i) (.int j) st = .ok (.int (i + j)) st := id rfl
@[simp] theorem fSub_i (i j : Int) (st : Sto) : fSub (.int i) (.int j) st = .ok (.int (i - j)) st := id rfl
@[simp] theorem fNeg_i (i : Int) (st : Sto) : fNeg (.int i) st = .ok (.int (-i)) st := id rfl
@[simp] theorem fLt_i (i j : Int) (st : Sto) : fLt (.int i) (.int j) st = .ok (.bl (decide (i < j))) st := id rfl
@[simp] theorem fLe_i (i j : Int) (st : Sto) : fLe (.int i) (.int j) st = .ok (.bl (decide (i ≤ j))) st := id rfl
@[simp] theorem fGt_i (i j : Int) (st : Sto) : fGt (.int i) (.int j) st = .ok (.bl (decide (j < i))) st := id rfl
@[simp] theorem fGe_i (i j : Int) (st : Sto) : fGe (.int i) (.int j) st = .ok (.bl (decide (j ≤ i))) st := id rfl
theorem fMul_i {i j : Int} {st : Sto} (h : small i = true ∨ small j = true) : fMul (.int i) (.int j) st = .ok (.int (i * j)) st := by
  unfold fMul
  dsimp only
  rcases h with h | h <;> simp [h]
theorem fDiv_i {i j : Int} {st : Sto} (h : 0 < j ∧ j < 1073741824) : fDiv (.int i) (.int j) st = .ok (.int (i / j)) st := by
  unfold fDiv; dsimp only; rw [if_pos h]
theorem fMod_i {i j : Int} {st : Sto} (h : 0 < j) : fMod (.int i) (.int j) st = .ok (.int (i % j)) st := by
  unfold fMod; dsimp only; rw [if_pos h]
@[simp] theorem toPy_int (st : Sto) (n : Nat) (i : Int) : toPy st n (.int i) = some (.int i) := by cases n <;> rfl
@[simp] theorem toPy_bl (st : Sto) (n : Nat) (i : Bool) : toPy st n (.bl i) = some (.bool i) := by cases n <;> rfl
@[simp] theorem toPy_non (st : Sto) (n : Nat) : toPy st n .non = some .none := by cases n <;> rfl
theorem eqv_int (i j : Int) : PyData.eqv (.int i) (.int j) = decide (i = j) := by
  by_cases h : i = j
  · subst h; simp [PyData.eqv]
  · simp [PyData.eqv, h]
theorem eqv_bl (i j : Bool) : PyData.eqv (.bool i) (.bool j) = decide (i = j) := by
  cases i <;> cases j <;> simp [PyData.eqv]
@[simp] theorem fEq_i (i j : Int) (st : Sto) : fEq (.int i) (.int j) st = .ok (.bl (decide (i = j))) st := by
  unfold fEq; simp [eqv_int]
@[simp] theorem fNe_i (i j : Int) (st : Sto) : fNe (.int i) (.int j) st = .ok (.bl (!decide (i = j))) st := by
  unfold fNe; simp [eqv_int]
@[simp] theorem fEq_b (i j : Bool) (st : Sto) : fEq (.bl i) (.bl j) st = .ok (.bl (decide (i = j))) st := by
  unfold fEq; simp [eqv_bl]
@[simp] theorem fNe_b (i j : Bool) (st : Sto) : fNe (.bl i) (.bl j) st = .ok (.bl (!decide (i = j))) st := by
  unfold fNe; simp [eqv_bl]
@[simp] theorem truD_bl (st : Sto) (b : Bool) : truD st (.bl b) = some b := id rfl
@[simp] theorem isTy_int (i : Int) : isTy .int (.int i) = some true := id rfl
@[simp] theorem isTy_bool (i : Int) : isTy .bool (.int i) = some false := id rfl
@[simp] theorem isTy_tuple (xs : List D) : isTy .tuple (.tup xs) = some true := id rfl
@[simp] theorem items_tup (st : Sto) (xs : List D) : items st (.tup xs) = some xs := id rfl
@[simp] theorem items_lst (st : Sto) (xs : List D) : items st (.lst xs) = some xs := id rfl
@[simp] theorem items_fz (st : Sto) (xs : List D) : items st (.fz xs) = some xs := id rfl
@[simp] theorem litems_lst (st : Sto) (xs : List D) : litems st (.lst xs) = some xs := id rfl
@[simp] theorem dyn_tup (xs : List D) : dynOf (.tup xs) = none := id rfl
@[simp] theorem dyn_lst (xs : List D) : dynOf (.lst xs) = none := id rfl
@[simp] theorem dyn_fz (xs : List D) : dynOf (.fz xs) = none := id rfl
@[simp] theorem dyn_ref (l : Nat) : dynOf (.ref l) = some (.inl l) := id rfl
theorem items_ref {st : Sto} {l : Nat} {xs : List D} (h : st[l]? = some (.lst xs)) : items st (.ref l) = some xs := by simp only [items, h]
theorem litems_ref {st : Sto} {l : Nat} {xs : List D} (h : st[l]? = some (.lst xs)) : litems st (.ref l) = some xs := by simp only [litems, h]
@[simp] theorem bLen_tup (st : Sto) (xs : List D) : bLen [.tup xs] st = .ok (.int xs.length) st := id rfl
@[simp] theorem bLen_lst (st : Sto) (xs : List D) : bLen [.lst xs] st = .ok (.int xs.length) st := id rfl
theorem bLen_ref {st : Sto} {l : Nat} {xs : List D} (h : st[l]? = some (.lst xs)) : bLen [.ref l] st = .ok (.int xs.length) st := by unfold bLen; simp only [items_ref h]
@[simp] theorem bTuple_lst (st : Sto) (xs : List D) : bTuple [.lst xs] st = .ok (.tup xs) st := id rfl
@[simp] theorem bTuple_tup (st : Sto) (xs : List D) : bTuple [.tup xs] st = .ok (.tup xs) st := id rfl
theorem bTuple_ref {st : Sto} {l : Nat} {xs : List D} (h : st[l]? = some (.lst xs)) : bTuple [.ref l] st = .ok (.tup xs) st := by unfold bTuple; simp only [items_ref h]
@[simp] theorem bInt_i (st : Sto) (i : Int) : bInt [.int i] st = .ok (.int i) st := id rfl
@[simp] theorem bAbs_i (st : Sto) (i : Int) : bAbs [.int i] st = .ok (.int (if i < 0 then -i else i)) st := id rfl
@[simp] theorem bMin2_i (st : Sto) (i j : Int) : bMin2 [.int i, .int j] st = .ok (.int (if j < i then j else i)) st := id rfl
@[simp] theorem bMax2_i (st : Sto) (i j : Int) : bMax2 [.int i, .int j] st = .ok (.int (if j > i then j else i)) st := id rfl
@[simp] theorem fIsN2_n (st : Sto) : fIsN2 .non .non st = .ok (.bl true) st := id rfl
@[simp] theorem fIsN2_t (st : Sto) (xs : List D) : fIsN2 (.tup xs) .non st = .ok (.bl false) st := id rfl
@[simp] theorem fNotN2_n (st : Sto) : fNotN2 .non .non st = .ok (.bl false) st := id rfl
@[simp] theorem fNotN2_t (st : Sto) (xs : List D) : fNotN2 (.tup xs) .non st = .ok (.bl true) st := id rfl
theorem allBl_map {α : Type} (f : α → Bool) (l : List α) : allBl (l.map fun a => D.bl (f a)) = some (l.map f) := by
  induction l with
  | nil => rfl
  | cons a l ih => rw [List.map_cons, List.map_cons, allBl, ih] <;> rfl
@[simp] theorem bAll_map {α : Type} (f : α → Bool) (l : List α) (st : Sto) : bAll [.lst (l.map fun a => D.bl (f a))] st = .ok (.bl (l.all f)) st := by
  unfold bAll
  simp only [litems_lst, Option.bind_some, allBl_map, List.all_map]
  rfl
@[simp] theorem bAny_map {α : Type} (f : α → Bool) (l : List α) (st : Sto) : bAny [.lst (l.map fun a => D.bl (f a))] st = .ok (.bl (l.any f)) st := by
  unfold bAny
  simp only [litems_lst, Option.bind_some, allBl_map, List.any_map]
  rfl
/-! subscripts -/
theorem ix_nat {n i : Nat} (h : i < n) : ixD n (i : Int) = some i := by
  unfold ixD
  rw [if_pos (by omega), if_pos (by omega)]
  simp
theorem fIx_at {st : Sto} {x d : D} {xs : List D} {i : Nat} (hx : items st x = some xs) (h : xs[i]? = some d) : fIx x (.int (i : Int)) st = .ok d st := by
  have hl : i < xs.length := (List.getElem?_eq_some_iff.mp h).1
  unfold fIx
  simp only [hx, ix_nat hl, h]
theorem fIx_tup {st : Sto} {d : D} {xs : List D} {i : Nat} (h : xs[i]? = some d) : fIx (.tup xs) (.int (i : Int)) st = .ok d st := fIx_at rfl h
theorem fIx_last {st : Sto} {x : D} {xs : List D} {d : D} (hx : items st x = some (xs ++ [d])) : fIx x (.int (-1)) st = .ok d st := by
  unfold fIx
  simp only [hx]
  have e : ixD (xs ++ [d]).length (-1) = some xs.length := by
    unfold ixD
    rw [if_neg (by omega), List.length_append, if_pos (by simp <;> omega)]
    simp
    omega
  rw [e]
  simp
theorem fExtend_ref {st : Sto} {l : Nat} {xs ys : List D} {y : D} (h : st[l]? = some (.lst xs)) (hy : litems st y = some ys) (hz : xs.length + ys.length ≤ sizeLine) : fExtend (.ref l) y st = .ok .non (st.set l (.lst (xs ++ ys))) := by
  simp only [fExtend, h, hy, if_pos hz]
theorem fAppend_ref {st : Sto} {l : Nat} {xs : List D} {y : D} (h : st[l]? = some (.lst xs)) (hz : xs.length < sizeLine) : fAppend (.ref l) y st = .ok .non (st.set l (.lst (xs ++ [y]))) := by
  simp only [fAppend, h, if_pos hz]
theorem sto_get (st ex : Sto) (o : MO) : (st ++ (ex ++ [o]))[st.length + ex.length]? = some o := by
  rw [← List.append_assoc, List.getElem?_append_right (by simp)]
  simp
theorem sto_set (st ex : Sto) (o o' : MO) : (st ++ (ex ++ [o])).set (st.length + ex.length) o' = st ++ (ex ++ [o']) := by
  rw [← List.append_assoc, List.set_append_right (h := by simp)]
  simp
theorem sto_get1 (st : Sto) (o : MO) : (st ++ [o])[st.length]? = some o := by simp
theorem sto_set1 (st : Sto) (o o' : MO) : (st ++ [o]).set st.length o' = st ++ [o'] := by simp
theorem fSetIx_ref {st : Sto} {l i : Nat} {xs : List D} {v : D} (h : st[l]? = some (.lst xs)) (hi : i < xs.length) : fSetIx (.ref l) (.int (i : Int)) v st = some (st.set l (.lst (xs.set i v))) := by
  have e : ixD xs.length (i : Int) = some i := by
    unfold ixD
    rw [if_pos (by omega), if_pos (by omega)]
    simp
  simp only [fSetIx, h, e]
/-! what stands by value -/
abbrev row (r : List Int) : D := .tup (r.map D.int)
abbrev tbl (t : List (List Int)) : D := .tup (t.map row)
def Fz (f : Nat) (d : D) : Prop := ∀ st n, frzD st n f d = some d
theorem fz_int (f : Nat) (i : Int) : Fz f (.int i) := fun st n => by cases f <;> rfl
theorem fz_bl (f : Nat) (i : Bool) : Fz f (.bl i) := fun st n => by cases f <;> rfl
theorem fz_non (f : Nat) : Fz f .non := fun st n => by cases f <;> rfl
theorem fz_str (f : Nat) (x : Str) : Fz f (.str x) := fun st n => by cases f <;> rfl
theorem allSome_map {α β : Type} {f : α → Option β} {g : α → β} : ∀ {l : List α}, (∀ a ∈ l, f a = some (g a)) → allSome (l.map f) = some (l.map g)
  | [], _ => rfl
  | a :: l, h => by
    rw [List.map_cons, h a List.mem_cons_self, allSome, allSome_map fun b hb => h b (List.mem_cons_of_mem _ hb)]
    rfl
theorem allSome_id {f : D → Option D} {l : List D} (h : ∀ d ∈ l, f d = some d) : allSome (l.map f) = some l := by
  rw [allSome_map (g := id) h, List.map_id]
theorem fz_tup {f : Nat} {ds : List D} (h : ∀ d ∈ ds, Fz f d) : Fz (f + 1) (.tup ds) := fun st n => by
  rw [frzD]
  simp only [allSome_id fun d hd => h d hd st n, Option.map_some]
theorem fz_lst {f : Nat} {ds : List D} (h : ∀ d ∈ ds, Fz f d) : Fz (f + 1) (.lst ds) := fun st n => by
  rw [frzD]
  simp only [allSome_id fun d hd => h d hd st n, Option.map_some]
theorem fz_row (f : Nat) (r : List Int) : Fz (f + 1) (row r) := fz_tup fun d hd => by
  obtain ⟨i, _, rfl⟩ := List.mem_map.mp hd
  exact fz_int f i
theorem fz_rows (f : Nat) (t : List (List Int)) : Fz (f + 2) (.tup (t.map row)) := fz_tup fun d hd => by
  obtain ⟨i, _, rfl⟩ := List.mem_map.mp hd
  exact fz_row f i
theorem fz_lrows (f : Nat) (t : List (List Int)) : Fz (f + 2) (.lst (t.map row)) := fz_lst fun d hd => by
  obtain ⟨i, _, rfl⟩ := List.mem_map.mp hd
  exact fz_row f i
/-! stores -/
def WF (st : Sto) : Prop := st.all (noRefO st.length) = true
mutual
theorem noRef_mono {n m : Nat} (h : n ≤ m) : ∀ d : D, noRef n d = true → noRef m d = true
  | .non, _ => rfl
  | .bl _, _ => rfl
  | .int _, _ => rfl
  | .str _, _ => rfl
  | .raw _, _ => rfl
  | .fn _, _ => rfl
  | .ref l, q => by
    unfold noRef at q ⊢
    have := of_decide_eq_true q
    exact decide_eq_true (by omega)
  | .tup xs, q => by
    unfold noRef at q ⊢
    exact noRefs_mono h xs q
  | .lst xs, q => by
    unfold noRef at q ⊢
    exact noRefs_mono h xs q
  | .fz xs, q => by
    unfold noRef at q ⊢
    exact noRefs_mono h xs q
  | .tpl xs, q => by
    unfold noRef at q ⊢
    exact noRefs_mono h xs q
  | .dk _ xs, q => by
    unfold noRef at q ⊢
    exact noRefs_mono h xs q
  | .xc _ _ _ xs, q => by
    unfold noRef at q ⊢
    exact noRefs_mono h xs q
theorem noRefs_mono {n m : Nat} (h : n ≤ m) : ∀ ds : List D, noRefs n ds = true → noRefs m ds = true
  | [], _ => rfl
  | d :: ds, q => by
    unfold noRefs at q ⊢
    obtain ⟨q1, q2⟩ := Bool.and_eq_true_iff.mp q
    exact Bool.and_eq_true_iff.mpr ⟨noRef_mono h d q1, noRefs_mono h ds q2⟩
end
theorem noRefO_mono {n m : Nat} (h : n ≤ m) : ∀ o : MO, noRefO n o = true → noRefO m o = true
  | .lst xs, q => noRefs_mono h xs q
  | .dk _ xs, q => noRefs_mono h xs q
  | .gone, _ => rfl
theorem noRefs_all {n : Nat} : ∀ {ds : List D}, (∀ d ∈ ds, noRef n d = true) → noRefs n ds = true
  | [], _ => rfl
  | d :: ds, h => by
    unfold noRefs
    exact Bool.and_eq_true_iff.mpr ⟨h d List.mem_cons_self, noRefs_all fun e he => h e (List.mem_cons_of_mem _ he)⟩
theorem noRefs_mem {n : Nat} : ∀ {ds : List D}, noRefs n ds = true → ∀ d ∈ ds, noRef n d = true
  | d :: ds, h, e, he => by
    unfold noRefs at h
    obtain ⟨q1, q2⟩ := Bool.and_eq_true_iff.mp h
    rcases List.mem_cons.mp he with rfl | he
    · exact q1
    · exact noRefs_mem q2 e he
theorem WF.nil : WF [] := rfl
theorem WF.app {st : Sto} (h : WF st) {o : MO} (ho : noRefO (st.length + 1) o = true) : WF (st ++ [o]) := by
  unfold WF at h ⊢
  rw [List.all_append, List.length_append]
  refine Bool.and_eq_true_iff.mpr ⟨List.all_eq_true.mpr fun x hx => noRefO_mono (by omega) x (List.all_eq_true.mp h x hx), ?_⟩
  simpa using ho
theorem WF.set {st : Sto} (h : WF st) (l : Nat) {o : MO} (ho : noRefO st.length o = true) : WF (st.set l o) := by
  unfold WF at h ⊢
  rw [List.length_set]
  refine List.all_eq_true.mpr fun x hx => ?_
  rcases List.mem_or_eq_of_mem_set hx with hx | rfl
  · exact List.all_eq_true.mp h x hx
  · exact ho
theorem noRef_row (n : Nat) (r : List Int) : noRef n (row r) = true := by
  unfold noRef
  exact noRefs_all fun d hd => by
    obtain ⟨i, _, rfl⟩ := List.mem_map.mp hd
    rfl
theorem defFin_rt {n : Nat} {b : SS} {ds : List D} {st st' ex : Sto} {d d' : D} (h : b (startD n ds) st = some (.rt d, st' ++ ex)) (hl : st'.length = st.length) (hw : WF st') (hf : frzD (st' ++ ex) st.length 60 d = some d') : defFin n b ds st = .ok d' st' := by
  unfold defFin defRaw
  rw [h]
  show fin st.length (.ok d (st' ++ ex)) = _
  unfold fin
  dsimp only
  rw [hf]
  have e : (st' ++ ex).take st.length = st' := by rw [← hl, List.take_left]
  rw [e]
  dsimp only
  rw [if_pos (by rw [← hl]; exact hw)]
theorem defFin_nx {n : Nat} {b : SS} {ds : List D} {st st' ex : Sto} {ρ : Ev} (h : b (startD n ds) st = some (.nx ρ, st' ++ ex)) (hl : st'.length = st.length) (hw : WF st') : defFin n b ds st = .ok .non st' := by
  unfold defFin defRaw
  rw [h]
  show fin st.length (.ok .non (st' ++ ex)) = _
  unfold fin
  dsimp only
  rw [show frzD (st' ++ ex) st.length 60 .non = some .non from rfl]
  have e : (st' ++ ex).take st.length = st' := by rw [← hl, List.take_left]
  rw [e]
  dsimp only
  rw [if_pos (by rw [← hl]; exact hw)]
/-- a def that leaves the store -/
theorem defFin_v {n : Nat} {b : SS} {ds : List D} {st : Sto} {d : D} (hw : WF st) (hf : Fz 60 d) (h : b (startD n ds) st = some (.rt d, st)) : defFin n b ds st = .ok d st :=
  defFin_rt (ex := []) (by rw [List.append_nil]; exact h) rfl hw (by rw [List.append_nil]; exact hf _ _)
theorem defFin_n {n : Nat} {b : SS} {ds : List D} {st : Sto} {ρ : Ev} (hw : WF st) (h : b (startD n ds) st = some (.nx ρ, st)) : defFin n b ds st = .ok .non st :=
  defFin_nx (ex := []) (by rw [List.append_nil]; exact h) rfl hw

/-! ### comprehensions -/
def Still (dy : Dy) (ds : List D) (st : Sto) : Prop := match dy with
  | none => True
  | some (.inl l) => st[l]? = some (.lst ds)
  | some (.inr l) => ∃ xs, st[l]? = some (.lst xs) ∧ ds = enumFromD 0 xs
theorem still_none (ds : List D) (st : Sto) : Still none ds st := True.intro
theorem still_some {l : Nat} {ds : List D} {st : Sto} (h : st[l]? = some (.lst ds)) : Still (some (.inl l)) ds st := h
theorem enumFromD_get : ∀ (xs : List D) (k i : Nat), (enumFromD k xs)[i]? = (xs[i]?).map fun x => .tpl [.int ((k + i : Nat) : Int), x]
  | [], _, _ => rfl
  | x :: xs, k, 0 => rfl
  | x :: xs, k, i + 1 => by
    rw [enumFromD, List.getElem?_cons_succ, List.getElem?_cons_succ, enumFromD_get xs (k + 1) i, show k + 1 + i = k + (i + 1) by omega]
theorem enumFromD_len : ∀ (xs : List D) (k : Nat), (enumFromD k xs).length = xs.length
  | [], _ => rfl
  | x :: xs, k => by rw [enumFromD, List.length_cons, List.length_cons, enumFromD_len xs (k + 1)]
theorem still_enum {l : Nat} {xs : List D} {st : Sto} (h : st[l]? = some (.lst xs)) : Still (some (.inr l)) (enumFromD 0 xs) st := ⟨xs, h, rfl⟩
theorem Still.fetch {dy : Dy} {ds : List D} {st : Sto} (h : Still dy ds st) {i : Nat} {d : D} (e : ds[i]? = some d) : fetch dy i d st = some d := by
  match dy, h with
  | none, _ => rfl
  | some (.inl l), h =>
    have h : st[l]? = some (.lst ds) := h
    unfold PD.fetch; simp only [h, e]
  | some (.inr l), h =>
    obtain ⟨xs, hx, rfl⟩ := h
    rw [enumFromD_get, Nat.zero_add] at e
    unfold PD.fetch; simp only [hx, e]
theorem Still.fin {dy : Dy} {ds : List D} {st : Sto} (h : Still dy ds st) : finOk dy ds.length st = true := by
  match dy, h with
  | none, _ => rfl
  | some (.inl l), h =>
    have h : st[l]? = some (.lst ds) := h
    unfold finOk; simp only [h, beq_self_eq_true]
  | some (.inr l), h =>
    obtain ⟨xs, hx, rfl⟩ := h
    unfold finOk; simp only [hx, enumFromD_len, beq_self_eq_true]
theorem lc_loop {α : Type} {dy : Dy} {g : TgD} {t : ST} {e : SE} {ρ0 : Ev} {st : Sto} {all : List D} {φ : α → D} {c : α → Bool} {f : α → D} (hs : Still dy all st) :
    ∀ (xs : List α) (i : Nat), all.drop i = xs.map φ → (∀ a ∈ xs, ∃ ρ1, g (φ a) ρ0 = some ρ1 ∧ t ρ1 st = .ok (c a) st ∧ (c a = true → e ρ1 st = .ok (f a) st)) →
      loopLC dy all.length g t e ρ0 i (xs.map φ) st = .ok ((xs.filter c).map f) st
  | [], i, hd, h => by
    simp only [List.map_nil, List.filter_nil, loopLC, hs.fin, if_true]
  | a :: xs, i, hd, h => by
    obtain ⟨ρ1, h1, h2, h3⟩ := h a List.mem_cons_self
    have hi : all[i]? = some (φ a) := by
      have := congrArg (fun l : List D => l[0]?) hd
      simpa using this
    have hd2 : all.drop (i + 1) = xs.map φ := by
      have := congrArg (fun l : List D => l.drop 1) hd
      simpa [List.drop_drop] using this
    have ih := lc_loop hs xs (i + 1) hd2 fun b hb => h b (List.mem_cons_of_mem _ hb)
    rw [List.map_cons, loopLC, hs.fetch hi]
    simp only [h1, h2, nx_ok, bind_ok]
    cases hc : c a with
    | true => simp only [h3 hc, if_true, nx_ok, bind_ok, ih, List.filter_cons_of_pos hc, List.map_cons]
    | false => simp only [Bool.false_eq_true, if_false, ih, List.filter_cons_of_neg (show ¬ c a = true by rw [hc]; decide)]
theorem sLC_if {α : Type} {m : Bool} {it : SI} {dy : Dy} {g : TgD} {t : ST} {e : SE} {vs : List Nat} {ρ : Ev} {st : Sto} (xs : List α) (φ : α → D) (c : α → Bool) (f : α → D) (hit : it ρ st = .ok (xs.map φ, dy) st) (hs : Still dy (xs.map φ) st) (hz : xs.length ≤ sizeLine)
    (h : ∀ a ∈ xs, ∃ ρ1, g (φ a) (wipeD ρ vs) = some ρ1 ∧ t ρ1 st = .ok (c a) st ∧ (c a = true → e ρ1 st = .ok (f a) st)) : sLC m it g t e vs ρ st = newL m ((xs.filter c).map f) st := by
  unfold sLC
  rw [hit]
  simp only [bind_ok, List.length_map]
  rw [if_pos hz]
  have := lc_loop hs xs 0 rfl h
  rw [List.length_map] at this
  rw [this]
  rfl
theorem sLC_map {α : Type} {m : Bool} {it : SI} {dy : Dy} {g : TgD} {e : SE} {vs : List Nat} {ρ : Ev} {st : Sto} (xs : List α) (φ : α → D) (f : α → D) (hit : it ρ st = .ok (xs.map φ, dy) st) (hs : Still dy (xs.map φ) st) (hz : xs.length ≤ sizeLine)
    (h : ∀ a ∈ xs, ∃ ρ1, g (φ a) (wipeD ρ vs) = some ρ1 ∧ e ρ1 st = .ok (f a) st) : sLC m it g tYesD e vs ρ st = newL m (xs.map f) st := by
  have := sLC_if (m := m) (t := tYesD) (vs := vs) xs φ (fun _ => true) f hit hs hz fun a ha => by
    obtain ⟨ρ1, h1, h2⟩ := h a ha
    exact ⟨ρ1, h1, rfl, fun _ => h2⟩
  rw [this, List.filter_eq_self.mpr fun _ _ => rfl]

/-! ### for -/
theorem drop_head {α β : Type} {l : List α} {φ : β → α} {b : β} {r : List β} {i : Nat} (h : l.drop i = (b :: r).map φ) : l[i]? = some (φ b) ∧ l.drop (i + 1) = r.map φ := by
  constructor
  · have := congrArg (fun l : List α => l[0]?) h
    simpa using this
  · have := congrArg (fun l : List α => l.drop 1) h
    simpa [List.drop_drop] using this
theorem for_loopS {α : Type} {g : TgD} {b : SS} {dy : Dy} {all : List D} {φ : α → D} (I : List α → Ev → Sto → Prop) (R : D → Sto → Prop) (hS : ∀ r ρ st, I r ρ st → Still dy all st)
    (step : ∀ a r ρ st, I (a :: r) ρ st → ∃ ρ1, g (φ a) ρ = some ρ1 ∧ ((∃ ρ2 st2, (b ρ1 st = some (.nx ρ2, st2) ∨ b ρ1 st = some (.ct ρ2, st2)) ∧ I r ρ2 st2) ∨ ∃ d st2, b ρ1 st = some (.rt d, st2) ∧ R d st2)) :
    ∀ (xs : List α) (i : Nat) (ρ : Ev) (st : Sto), all.drop i = xs.map φ → I xs ρ st → (∃ ρ' st', loopFor dy all.length g b i (xs.map φ) ρ st = some (.nx ρ', st') ∧ I [] ρ' st') ∨ ∃ d st', loopFor dy all.length g b i (xs.map φ) ρ st = some (.rt d, st') ∧ R d st'
  | [], i, ρ, st, _, h => .inl ⟨ρ, st, by simp [loopFor, (hS _ _ _ h).fin], h⟩
  | a :: xs, i, ρ, st, hd, h => by
    obtain ⟨ρ1, h1, h2⟩ := step a xs ρ st h
    obtain ⟨hi, hd2⟩ := drop_head hd
    rw [List.map_cons, loopFor, (hS _ _ _ h).fetch hi]
    simp only [h1]
    rcases h2 with ⟨ρ2, st2, h3 | h3, h4⟩ | ⟨d, st2, h3, h4⟩
    · rw [h3]; exact for_loopS I R hS step xs (i + 1) ρ2 st2 hd2 h4
    · rw [h3]; exact for_loopS I R hS step xs (i + 1) ρ2 st2 hd2 h4
    · rw [h3]; exact .inr ⟨d, st2, rfl, h4⟩
/-- a walk over a list of the store that nothing leaves early -/
theorem for_allS {α : Type} {g : TgD} {b : SS} {dy : Dy} {φ : α → D} (I : List α → Ev → Sto → Prop) (xs : List α) (hS : ∀ r ρ st, I r ρ st → Still dy (xs.map φ) st)
    (step : ∀ a r ρ st, I (a :: r) ρ st → ∃ ρ1, g (φ a) ρ = some ρ1 ∧ ∃ ρ2 st2, (b ρ1 st = some (.nx ρ2, st2) ∨ b ρ1 st = some (.ct ρ2, st2)) ∧ I r ρ2 st2)
    (ρ : Ev) (st : Sto) (h : I xs ρ st) : ∃ ρ' st', loopFor dy xs.length g b 0 (xs.map φ) ρ st = some (.nx ρ', st') ∧ I [] ρ' st' := by
  have q := for_loopS (all := xs.map φ) I (fun _ _ => False) hS (fun a r ρ st h => by
    obtain ⟨ρ1, h1, h2⟩ := step a r ρ st h
    exact ⟨ρ1, h1, .inl h2⟩) xs 0 ρ st rfl h
  rw [List.length_map] at q
  rcases q with q | ⟨_, _, _, q⟩
  · exact q
  · exact q.elim
theorem for_loop {α : Type} {g : TgD} {b : SS} {φ : α → D} (I : List α → Ev → Sto → Prop) (R : D → Sto → Prop) (xs : List α)
    (step : ∀ a r ρ st, I (a :: r) ρ st → ∃ ρ1, g (φ a) ρ = some ρ1 ∧ ((∃ ρ2 st2, (b ρ1 st = some (.nx ρ2, st2) ∨ b ρ1 st = some (.ct ρ2, st2)) ∧ I r ρ2 st2) ∨ ∃ d st2, b ρ1 st = some (.rt d, st2) ∧ R d st2))
    (ρ : Ev) (st : Sto) (h : I xs ρ st) : (∃ ρ' st', loopFor none xs.length g b 0 (xs.map φ) ρ st = some (.nx ρ', st') ∧ I [] ρ' st') ∨ ∃ d st', loopFor none xs.length g b 0 (xs.map φ) ρ st = some (.rt d, st') ∧ R d st' := by
  have q := for_loopS (dy := none) (all := xs.map φ) I R (fun _ _ _ _ => still_none _ _) step xs 0 ρ st rfl h
  rw [List.length_map] at q
  exact q
/-- a loop that nothing leaves early -/
theorem for_all {α : Type} {g : TgD} {b : SS} {φ : α → D} (I : List α → Ev → Sto → Prop) (xs : List α)
    (step : ∀ a r ρ st, I (a :: r) ρ st → ∃ ρ1, g (φ a) ρ = some ρ1 ∧ ∃ ρ2 st2, (b ρ1 st = some (.nx ρ2, st2) ∨ b ρ1 st = some (.ct ρ2, st2)) ∧ I r ρ2 st2)
    (ρ : Ev) (st : Sto) (h : I xs ρ st) : ∃ ρ' st', loopFor none xs.length g b 0 (xs.map φ) ρ st = some (.nx ρ', st') ∧ I [] ρ' st' :=
  for_allS (dy := none) I xs (fun _ _ _ _ => still_none _ _) step ρ st h
/-- a loop that looks for the first; the store stays -/
theorem for_some0 {α : Type} {g : TgD} {b : SS} {φ : α → D} {st : Sto} {dy : Dy} {all : List D} (hs : Still dy all st) (J : Ev → Prop) (c : α → Option D) : ∀ (xs : List α) (i : Nat) (ρ : Ev), all.drop i = xs.map φ → J ρ →
    (∀ a ∈ xs, ∀ ρ, J ρ → ∃ ρ1, g (φ a) ρ = some ρ1 ∧ ((∃ d, c a = some d ∧ b ρ1 st = some (.rt d, st)) ∨ (c a = none ∧ ∃ ρ2, (b ρ1 st = some (.nx ρ2, st) ∨ b ρ1 st = some (.ct ρ2, st)) ∧ J ρ2))) →
    (∃ d, xs.findSome? c = some d ∧ loopFor dy all.length g b i (xs.map φ) ρ st = some (.rt d, st)) ∨ (xs.findSome? c = none ∧ ∃ ρ', loopFor dy all.length g b i (xs.map φ) ρ st = some (.nx ρ', st) ∧ J ρ')
  | [], i, ρ, hd, h, _ => .inr ⟨rfl, ρ, by simp [loopFor, hs.fin], h⟩
  | a :: xs, i, ρ, hd, h, step => by
    obtain ⟨ρ1, h1, h2⟩ := step a List.mem_cons_self ρ h
    obtain ⟨hi, hd2⟩ := drop_head hd
    rw [List.map_cons, loopFor, hs.fetch hi, List.findSome?_cons]
    simp only [h1]
    rcases h2 with ⟨d, hc, hb⟩ | ⟨hc, ρ2, hb, hj⟩
    · rw [hc, hb]; exact .inl ⟨d, rfl, rfl⟩
    · rw [hc]
      have ih := for_some0 hs J c xs (i + 1) ρ2 hd2 hj fun a ha => step a (List.mem_cons_of_mem _ ha)
      rcases hb with hb | hb
      · rw [hb]; exact ih
      · rw [hb]; exact ih
theorem for_some {α : Type} {g : TgD} {b : SS} {φ : α → D} {st : Sto} {dy : Dy} (xs : List α) (hs : Still dy (xs.map φ) st) (J : Ev → Prop) (c : α → Option D) (ρ : Ev) (h : J ρ)
    (step : ∀ a ∈ xs, ∀ ρ, J ρ → ∃ ρ1, g (φ a) ρ = some ρ1 ∧ ((∃ d, c a = some d ∧ b ρ1 st = some (.rt d, st)) ∨ (c a = none ∧ ∃ ρ2, (b ρ1 st = some (.nx ρ2, st) ∨ b ρ1 st = some (.ct ρ2, st)) ∧ J ρ2))) :
    (∃ d, xs.findSome? c = some d ∧ loopFor dy xs.length g b 0 (xs.map φ) ρ st = some (.rt d, st)) ∨ (xs.findSome? c = none ∧ ∃ ρ', loopFor dy xs.length g b 0 (xs.map φ) ρ st = some (.nx ρ', st) ∧ J ρ') := by
  have q := for_some0 hs J c xs 0 ρ rfl h step
  rw [List.length_map] at q
  exact q
/-! the same, of a loop in a goal (generalize it, then ask) -/
section
variable {α : Type} {g : TgD} {b : SS} {st : Sto} {dy : Dy} {L : Nat} {ds : List D} {ρ : Ev} {r : Option (Fl × Sto)}
theorem for_some_e (hL : loopFor dy L g b 0 ds ρ st = r) (xs : List α) (φ : α → D) (ed : ds = xs.map φ) (eL : L = xs.length) (hs : Still dy (xs.map φ) st) (J : Ev → Prop) (c : α → Option D) (h : J ρ)
    (step : ∀ a ∈ xs, ∀ ρ, J ρ → ∃ ρ1, g (φ a) ρ = some ρ1 ∧ ((∃ d, c a = some d ∧ b ρ1 st = some (.rt d, st)) ∨ (c a = none ∧ ∃ ρ2, (b ρ1 st = some (.nx ρ2, st) ∨ b ρ1 st = some (.ct ρ2, st)) ∧ J ρ2))) :
    (∃ d, xs.findSome? c = some d ∧ r = some (.rt d, st)) ∨ (xs.findSome? c = none ∧ ∃ ρ', r = some (.nx ρ', st) ∧ J ρ') := by
  subst hL ed eL
  exact for_some xs hs J c ρ h step
/-- nothing is found -/
theorem for_none_e (hL : loopFor dy L g b 0 ds ρ st = r) (xs : List α) (φ : α → D) (ed : ds = xs.map φ) (eL : L = xs.length) (hs : Still dy (xs.map φ) st) (J : Ev → Prop) (h : J ρ)
    (step : ∀ a ∈ xs, ∀ ρ, J ρ → ∃ ρ1, g (φ a) ρ = some ρ1 ∧ ∃ ρ2, (b ρ1 st = some (.nx ρ2, st) ∨ b ρ1 st = some (.ct ρ2, st)) ∧ J ρ2) :
    ∃ ρ', r = some (.nx ρ', st) ∧ J ρ' := by
  rcases for_some_e hL xs φ ed eL hs J (fun _ => none) h fun a ha ρ hj => by
    obtain ⟨ρ1, h1, h2⟩ := step a ha ρ hj
    exact ⟨ρ1, h1, .inr ⟨rfl, h2⟩⟩ with ⟨d, e, _⟩ | ⟨_, q⟩
  · rw [List.findSome?_eq_none_iff.mpr fun _ _ => rfl] at e
    cases e
  · exact q
theorem for_all_e (hL : loopFor dy L g b 0 ds ρ st = r) (xs : List α) (φ : α → D) (ed : ds = xs.map φ) (eL : L = xs.length) (I : List α → Ev → Sto → Prop) (hS : ∀ r ρ st, I r ρ st → Still dy (xs.map φ) st) (h : I xs ρ st)
    (step : ∀ a r ρ st, I (a :: r) ρ st → ∃ ρ1, g (φ a) ρ = some ρ1 ∧ ∃ ρ2 st2, (b ρ1 st = some (.nx ρ2, st2) ∨ b ρ1 st = some (.ct ρ2, st2)) ∧ I r ρ2 st2) :
    ∃ ρ' st', r = some (.nx ρ', st') ∧ I [] ρ' st' := by
  subst hL ed eL
  exact for_allS I xs hS step ρ st h
end
/-! ranges -/
theorem rangeL_n (j : Nat) : rangeL 0 j = (List.range j).map fun i : Nat => D.int i := by
  unfold rangeL
  exact List.map_congr_left fun i _ => by rw [Int.zero_add]
theorem rangeL_0 (j : Nat) : rangeL 0 ((j : Int).toNat) = (List.range j).map fun i : Nat => D.int i := by
  unfold rangeL
  rw [Int.toNat_natCast]
  exact List.map_congr_left fun i _ => by rw [Int.zero_add]
theorem rangeL_2 (i j : Nat) : rangeL (i : Int) (((j : Int) - (i : Int)).toNat) = (List.range' i (j - i)).map fun k : Nat => D.int k := by
  unfold rangeL
  have e : ((j : Int) - (i : Int)).toNat = j - i := by omega
  rw [e, List.range'_eq_map_range, List.map_map]
  exact List.map_congr_left fun k _ => by
    show D.int _ = D.int _
    congr 1
theorem iRange1_nat {a : SA} {ρ : Ev} {st : Sto} {j : Nat} (h : a ρ st = .ok [.int (j : Int)] st) (hj : j ≤ 1000000) : iRange1 a ρ st = .ok ((List.range j).map fun i : Nat => D.int (i : Int), none) st := by
  simp only [iRange1_e, h, bind_ok, rangeL_0]
  rw [if_pos ⟨by omega, by omega⟩]
theorem iRange2_nat {a : SA} {ρ : Ev} {st : Sto} {i j : Nat} (h : a ρ st = .ok [.int (i : Int), .int (j : Int)] st) (hi : i ≤ 1000000) (hj : j ≤ 1000000) : iRange2 a ρ st = .ok ((List.range' i (j - i)).map fun i : Nat => D.int (i : Int), none) st := by
  simp only [iRange2_e, h, bind_ok, rangeL_2]
  rw [if_pos ⟨by omega, by omega, by omega, by omega⟩]
/-! enumerate, zip, slices -/
theorem enum_map {α : Type} (φ : α → D) : ∀ (k : Nat) (xs : List α), enumFromD k (xs.map φ) = (xs.zipIdx k).map fun p => D.tpl [.int (p.2 : Int), φ p.1]
  | _, [] => rfl
  | k, a :: xs => by
    rw [List.map_cons, enumFromD, enum_map φ (k + 1) xs, List.zipIdx_cons, List.map_cons]
theorem zip_map {α β : Type} (φ : α → D) (ψ : β → D) : ∀ (xs : List α) (ys : List β), zipD (xs.map φ) (ys.map ψ) = (xs.zip ys).map fun p => D.tpl [φ p.1, ψ p.2]
  | [], _ => rfl
  | _ :: _, [] => rfl
  | a :: xs, b :: ys => by
    rw [List.map_cons, List.map_cons, zipD, zip_map φ ψ xs ys, List.zip_cons_cons, List.map_cons]
theorem cut_1 (xs : List D) : cutD xs (some 1) none = xs.drop 1 := by
  unfold cutD HT.sIx
  simp
  cases xs with
  | nil => simp
  | cons a xs => simp
end PD
/-! PDX: words for going through the plain semantics. -/
namespace PD
open PySem PySem.Spec PyProof.Rows L2
theorem set_ne_e {ρ : Ev} {i j : Nat} {v : Option D} (h : i ≠ j) : (ρ.set i v)[j]? = ρ[j]? := List.getElem?_set_ne h
theorem set_eq_e {ρ : Ev} {i : Nat} {v : Option D} (h : i < ρ.length) : (ρ.set i v)[i]? = some v := by
  rw [List.getElem?_set_self h]
@[simp] theorem sDict0_e (ρ : Ev) (st : Sto) : sDict0 ρ st = .ok (.dk [] []) st := id rfl
end PD
local macro_rules
  | `(tactic| simp_arith! [$ls,*] $[$loc]?) => `(tactic| simp only [PD.sVar_e, PD.sC_e, PD.s2_e, PD.s1_e, PD.tTru_e, PD.tBl_e, PD.tAndD_e, PD.tOrD_e, PD.tNotD_e, PD.tYesD_e, PD.sAnd_e, PD.sOr_e, PD.sNotV_e, PD.sIf_e, PD.sChain_e, PD.aNil_e, PD.aCons_e, PD.sTup_e, PD.sLst_e, PD.sCall_e, PD.sB_e, PD.sIsI_e, PD.oInt_e, PD.oNone_e, PD.sM_e, PD.sDict0_e, PD.gN_e, PD.gT2_e, PD.gT2_p, PD.gT3_e, PD.wipe_nil, PD.wipe_cons, PD.qNext_e, PD.qSet_e, PD.qPar_e, PD.qAsg_e, PD.qExpr_e, PD.qRet_e, PD.qRetN_e, PD.qBrk_e, PD.qCnt_e, PD.qIf_e, PD.qSetIx_e, PD.qAsgS_e, PD.uN_e, PD.uIx_e, PD.uT2_e, PD.uSeq_nx, PD.qSeq_e, PD.qFor_e, PD.sListR1_e, PD.sSlice_e, PD.then_nx, PD.then_rt, PD.then_ct, PD.then_bk, PD.bind_ok, PD.bind_exc, PD.bind_bad, PD.st_ok, PD.st_exc, PD.st_bad, PD.nx_ok, PD.newL_f, PD.newL_t, PD.fAdd_i, PD.fSub_i, PD.fNeg_i, PD.fLt_i, PD.fLe_i, PD.fGt_i, PD.fGe_i, PD.fEq_i, PD.fNe_i, PD.fEq_b, PD.fNe_b, PD.truD_bl, PD.items_tup, PD.items_lst, PD.items_fz, PD.litems_lst, PD.dyn_tup, PD.dyn_lst, PD.dyn_fz, PD.dyn_ref, PD.bLen_tup, PD.bLen_lst, PD.bTuple_lst, PD.bTuple_tup, PD.bInt_i, PD.bAbs_i, PD.bMin2_i, PD.bMax2_i, PD.fIsN2_n, PD.fIsN2_t, PD.fNotN2_n, PD.fNotN2_t, PD.isTy_int, PD.isTy_bool, PD.isTy_tuple, List.getElem?_cons_succ, List.getElem?_cons_zero, List.set_cons_succ, List.set_cons_zero, List.getElem?_set, List.length_set, List.length_cons, List.length_nil, List.length_map, Nat.reduceEqDiff, Nat.reduceLT, Nat.reduceAdd, Nat.reduceLeDiff, Option.bind_some, if_true, if_false, ite_true, ite_false, Bool.not_true, Bool.not_false, Bool.false_eq_true, reduceIte, decide_true, decide_false, PySem.sizeLine_eq, eq_self, Nat.succ_ne_zero, Nat.zero_ne_one, Nat.one_ne_zero, ne_eq, not_true, not_false_iff, and_self, and_true, true_and, $ls,*] $[$loc]?)
namespace PD
open PySem PySem.Spec PyProof.Rows L2
/-! a refusal: a def that raises -/
theorem defFin_ex {n : Nat} {b : SS} {ds : List D} {st : Sto} {ρ : Ev} {k : Str} (hw : WF st) (h : b (startD n ds) st = some (.ex k [] ρ, st)) : defFin n b ds st = .exc k [] st := by
  unfold defFin defRaw
  rw [h]
  show fin st.length (.exc k [] st) = _
  unfold fin
  have e : st.take st.length = st := by simp
  simp only [e, List.all_nil, Bool.true_and]
  exact if_pos hw
/-! comprehensions that change the store -/
theorem lc_inv {α β : Type} {g : TgD} {e : SE} {ρ0 : Ev} {φ : α → D} {n : Nat} (ψ : β → D) (I : Sto → Prop) (P : α → β → Prop) : ∀ (xs : List α) (i : Nat) (st : Sto), I st →
    (∀ a ∈ xs, ∀ st, I st → ∃ ρ1, g (φ a) ρ0 = some ρ1 ∧ ∃ y st', e ρ1 st = .ok (ψ y) st' ∧ I st' ∧ P a y) →
    ∃ ys st', loopLC none n g tYesD e ρ0 i (xs.map φ) st = .ok (ys.map ψ) st' ∧ I st' ∧ ys.length = xs.length ∧ ∀ p ∈ xs.zip ys, P p.1 p.2
  | [], i, st, hi, h => ⟨[], st, rfl, hi, rfl, fun p hp => by simp at hp⟩
  | a :: xs, i, st, hi, h => by
    obtain ⟨ρ1, h1, y, st1, h2, hi1, hp⟩ := h a List.mem_cons_self st hi
    obtain ⟨ys, st2, h3, hi2, hl, hq⟩ := lc_inv (n := n) ψ I P xs (i + 1) st1 hi1 fun b hb => h b (List.mem_cons_of_mem _ hb)
    refine ⟨y :: ys, st2, ?_, hi2, by simp [hl], ?_⟩
    · rw [List.map_cons, loopLC]
      simp only [fetch, h1, tYesD_e, nx_ok, bind_ok, if_true, h2, h3, List.map_cons]
    · intro p hp'
      rw [List.zip_cons_cons] at hp'
      rcases List.mem_cons.mp hp' with rfl | hp'
      · exact hp
      · exact hq p hp'
theorem sLC_inv {α β : Type} {it : SI} {g : TgD} {e : SE} {vs : List Nat} {ρ : Ev} {st st0 : Sto} (xs : List α) (φ : α → D) (ψ : β → D) (I : Sto → Prop) (P : α → β → Prop) (hit : it ρ st0 = .ok (xs.map φ, none) st) (hz : xs.length ≤ sizeLine) (hi : I st)
    (h : ∀ a ∈ xs, ∀ st, I st → ∃ ρ1, g (φ a) (wipeD ρ vs) = some ρ1 ∧ ∃ y st', e ρ1 st = .ok (ψ y) st' ∧ I st' ∧ P a y) :
    ∃ ys st', sLC false it g tYesD e vs ρ st0 = .ok (.lst (ys.map ψ)) st' ∧ I st' ∧ ys.length = xs.length ∧ ∀ p ∈ xs.zip ys, P p.1 p.2 := by
  obtain ⟨ys, st', h1, h2, h3, h4⟩ := lc_inv (n := xs.length) ψ I P xs 0 st hi h
  refine ⟨ys, st', ?_, h2, h3, h4⟩
  unfold sLC
  rw [hit]
  simp only [bind_ok, List.length_map]
  rw [if_pos hz, h1]
  rfl
theorem for_loop_e {α : Type} {g : TgD} {b : SS} {st : Sto} {dy : Dy} {L : Nat} {ds : List D} {ρ : Ev} {r : Option (Fl × Sto)} (hL : loopFor dy L g b 0 ds ρ st = r) (xs : List α) (φ : α → D) (ed : ds = xs.map φ) (eL : L = xs.length) (I : List α → Ev → Sto → Prop) (R : D → Sto → Prop) (hS : ∀ r ρ st, I r ρ st → Still dy (xs.map φ) st) (h : I xs ρ st)
    (step : ∀ a r ρ st, I (a :: r) ρ st → ∃ ρ1, g (φ a) ρ = some ρ1 ∧ ((∃ ρ2 st2, (b ρ1 st = some (.nx ρ2, st2) ∨ b ρ1 st = some (.ct ρ2, st2)) ∧ I r ρ2 st2) ∨ ∃ d st2, b ρ1 st = some (.rt d, st2) ∧ R d st2)) :
    (∃ ρ' st', r = some (.nx ρ', st') ∧ I [] ρ' st') ∨ ∃ d st', r = some (.rt d, st') ∧ R d st' := by
  subst hL ed eL
  have q := for_loopS (all := xs.map φ) I R hS step xs 0 ρ st rfl h
  rw [List.length_map] at q
  exact q
/-! a list of words at the store's end -/
theorem litems_last (S : Sto) (ws : List D) : litems (S ++ [.lst ws]) (.ref S.length) = some ws := litems_ref (sto_get1 _ _)
theorem fAppend_last {S : Sto} {ws : List D} {w : D} (h : ws.length < sizeLine) : fAppend (.ref S.length) w (S ++ [.lst ws]) = .ok .non (S ++ [.lst (ws ++ [w])]) := by
  rw [fAppend_ref (sto_get1 _ _) h, sto_set1]
theorem toPys_words (st : Sto) (n : Nat) : ∀ (ws : List Str), ws.all (fun w => PyData.canLay0 (.str w)) = true → allSome ((ws.map D.str).map (toPy st n)) = some (ws.map PyData.str)
  | [], _ => rfl
  | w :: ws, h => by
    rw [List.all_cons, Bool.and_eq_true] at h
    have e : toPy st n (.str w) = some (.str w) := by
      cases n <;> simp [toPy, atomPy, h.1]
    rw [List.map_cons, List.map_cons, e, allSome, toPys_words st n ws h.2]
    rfl
theorem eqvAll_words : ∀ (ws vs : List Str), PyData.eqvAll (ws.map PyData.str) (vs.map PyData.str) = decide (ws = vs)
  | [], [] => rfl
  | [], _ :: _ => rfl
  | _ :: _, [] => rfl
  | w :: ws, v :: vs => by
    rw [List.map_cons, List.map_cons, PyData.eqvAll, eqvAll_words ws vs]
    by_cases h : w = v <;> simp [PyData.eqv, h]
theorem fNe_words (S : Sto) (ws : List Str) (h : ws.all (fun w => PyData.canLay0 (.str w)) = true) : fNe (.ref S.length) (.lst (ws.map D.str)) (S ++ [.lst (ws.map D.str)]) = .ok (.bl false) (S ++ [.lst (ws.map D.str)]) := by
  have a : toPy (S ++ [.lst (ws.map D.str)]) 60 (.ref S.length) = some (.list (ws.map .str)) := by
    rw [toPy]
    simp only [sto_get1, toPys_words _ _ ws h, Option.map_some]
  have b : toPy (S ++ [.lst (ws.map D.str)]) 60 (.lst (ws.map D.str)) = some (.list (ws.map .str)) := by
    rw [toPy]
    simp only [toPys_words _ _ ws h, Option.map_some]
  unfold fNe
  rw [a, b]
  simp [PyData.eqv, eqvAll_words]
theorem noRefs_words (n : Nat) (ws : List Str) : noRefs n (ws.map D.str) = true := noRefs_all fun d hd => by
  obtain ⟨w, _, rfl⟩ := List.mem_map.mp hd
  rfl
theorem wf_words {S : Sto} (hw : WF S) (ws : List Str) : WF (S ++ [.lst (ws.map D.str)]) := hw.app (noRefs_words _ ws)
end PD
/-! PDMisc: constants that are tuples, isinstance of two classes, {k: v}, a def that calls itself, shifts, tuple.count. -/
namespace PD
open PySem PySem.Spec PyProof.Rows L2
section
variable {X : Cx} {T : List (Addr × Str)} {W : WX} {a b e : Expr} {fa fb fe : SE} {pos p : Pos} {x : Str}
/-! ### a constant of the module that is a tuple of ints -/
def TupK (K : PySem.W.Frag) (q : Addr) (ns : List Int) : Prop := ∃ (o : Obj) (its : Array Value) (n : Nat), K.lookup q = some o ∧ o.cls = .type "tuple" ∧ o.dict = none ∧ o.data = .seq its n ∧ its.size ≤ sizeLine ∧ Vals (ns.map V.int) its.toList
theorem pd_gtup {ns : List Int} (hg : Gl X x) (hm : ∃ q, X.mg x = some (.ref q) ∧ TupK X.K q ns) (hd : (x == ("__debug__" : Str)) = false := by decide) : PE X (.Name x pos) (tD (zX X T) W (sC (.tup (ns.map D.int)))) := by
  obtain ⟨q, hm, hk⟩ := hm
  refine PE.wk (pe_glob (v := .ref q) hg hm rfl hd) fun σ H Q ⟨g, ρ, st, S, E, h⟩ => EPost.val S (fun g' => ?_) h
  obtain ⟨o, its, n, h1, h2, hd', h3, h4, h5⟩ := hk
  refine .tup (vs := ns.map V.int) (.inr ⟨o, its, n, h1, h2, hd', h3, h4, h5⟩) ?_ (reps_ofInts ns)
  have := h5.length
  rw [this, Array.length_toList]
  exact h4
/-! ### isinstance(x, (t, u)) -/
def sIsT (t u : TyN) (e : SE) : SE := fun ρ st => (e ρ st).bind fun d st => match isTy t d, isTy u d with | some b, some c => .ok (.bl (b || c)) st | _, _ => .bad
@[simp] theorem sIsT_e (t u : TyN) (e : SE) (ρ : Ev) (st : Sto) : sIsT t u e ρ st = (e ρ st).bind fun d st => match isTy t d, isTy u d with | some b, some c => .ok (.bl (b || c)) st | _, _ => .bad := id rfl
theorem ty_of {K : PySem.W.Frag} {g : G} {st : Sto} {H : Hp} {d : D} {v : V} {t0 : TyN} {b0 : Bool} (S : Sim K T g st H) (r : Rep K g d v) (h0 : isTy t0 d = some b0) : ∃ s : String, TyX K H v (.type s) ∧ ∀ (t : TyN) (b : Bool), isTy t d = some b → kitB s (tyNm t) = some b := by
  cases d with
  | non => cases r; refine ⟨_, .base .non, fun t b h => ?_⟩; cases t <;> cases h <;> decide +kernel
  | bl k => cases r; refine ⟨_, .base (.bl k), fun t b h => ?_⟩; cases t <;> cases h <;> decide +kernel
  | int k => cases r; refine ⟨_, .base (.int k), fun t b h => ?_⟩; cases t <;> cases h <;> decide +kernel
  | str k => cases r; refine ⟨_, .base (.str k), fun t b h => ?_⟩; cases t <;> cases h <;> decide +kernel
  | tup xs =>
    obtain ⟨a, vs, rfl, h1, h2, h3⟩ := S.tup r
    have ty : TyX K H (.ref a) (.type "tuple") := by
      rcases h1 with (h1 | ⟨o, h1⟩) | ⟨o, its, n, h1, h2, _⟩
      · exact .base (.tup h1)
      · exact .fTuple h1
      · exact .kTuple h1 h2
    refine ⟨_, ty, fun t b h => ?_⟩; cases t <;> cases h <;> decide +kernel
  | lst xs =>
    obtain ⟨a, vs, rfl, h1, h2, h3⟩ := S.litems (xs := xs) r rfl
    refine ⟨_, .base (.lst h1), fun t b h => ?_⟩; cases t <;> cases h <;> decide +kernel
  | dk ks xs =>
    cases r with
    | dk e _ _ => refine ⟨_, .base (.dK (S.sub _ _ e)), fun t b h => ?_⟩; cases t <;> cases h <;> decide +kernel
  | _ => cases t0 <;> cases h0
theorem kitAny_two {K : PySem.W.Frag} {w c1 c2 : Value} {b c : Bool} (h1 : PySem.W.kitOne K w c1 = some b) (h2 : PySem.W.kitOne K w c2 = some c) : PySem.W.kitAny K w [c1, c2] = some (b || c) := by
  unfold PySem.W.kitAny
  rw [h1]
  cases b with
  | true => rfl
  | false =>
    unfold PySem.W.kitAny
    rw [h2]
    cases c <;> rfl
theorem pd_isT {t u : TyN} {n1 n2 : Str} {p0 p1 p2 p3 : Pos} {k : Nat} (hg : Gl X "isinstance") (hm : X.mg "isinstance" = none) (hg1 : Gl X n1) (hm1 : X.mg n1 = none) (hv1 : bootBuiltins n1 = some (.type (tyNm t))) (hg2 : Gl X n2) (hm2 : X.mg n2 = none) (hv2 : bootBuiltins n2 = some (.type (tyNm u))) (ha : PE X a (tD (zX X T) W fa))
    (hn1 : n1 ≠ "__name__" := by decide) (hd1 : (n1 == ("__debug__" : Str)) = false := by decide) (hn2 : n2 ≠ "__name__" := by decide) (hd2 : (n2 == ("__debug__" : Str)) = false := by decide)
    (hs1 : starEach [.Name n1 p1, .Name n2 p2] X.env = (false, eval (.Name n1 p1) X.env) :: starEach [.Name n2 p2] X.env := by rfl) (hs2 : starEach [.Name n2 p2] X.env = (false, eval (.Name n2 p2) X.env) :: starEach [] X.env := by rfl)
    (he : starEach [a, .Tuple [.Name n1 p1, .Name n2 p2] k p3] X.env = (false, eval a X.env) :: starEach [.Tuple [.Name n1 p1, .Name n2 p2] k p3] X.env := by rfl) (hpl : (backTo pos (starEach [.Tuple [.Name n1 p1, .Name n2 p2] k p3] X.env)).any (·.1) = false := by rfl) (hs : starEach [.Tuple [.Name n1 p1, .Name n2 p2] k p3] X.env = (false, eval (.Tuple [.Name n1 p1, .Name n2 p2] k p3) X.env) :: starEach [] X.env := by rfl) :
    PE X (.Call (.Name "isinstance" p0) [a, .Tuple [.Name n1 p1, .Name n2 p2] k p3] [] pos) (tD (zX X T) W (sIsT t u fa)) := by
  have b1 : PE X (.Name n1 p1) (tC (.ty (tyNm t))) := pe_bltn hg1 hm1 hv1 rfl hn1 hd1
  have b2 : PE X (.Name n2 p2) (tC (.ty (tyNm u))) := pe_bltn hg2 hm2 hv2 rfl hn2 hd2
  have bt := pe_tup (pos := p3) (x1 := k) (pa_cons b1 (pa_cons b2 pa_nil hs2) hs1)
  refine PE.wk (pe_callB call_isiT hg hm (by decide +kernel) (pa_cons ha (pa_cons bt pa_nil hs) he) (he := he) (hpl := hpl)) fun σ H Q ⟨g, ρ, st, S, E, q⟩ => ?_
  refine ⟨g, ρ, st, S, E, Sat.mono (sat_bind q) (fun d st1 q1 g1 H1 v L1 S1 r1 => ?_) fun _ _ _ q => q⟩
  split at q1
  · rename_i b c hb hc
    obtain ⟨s, ty, kk⟩ := ty_of S1 r1 hb
    refine ⟨by show 2 ≤ sizeLine; decide, fun tp hp => ?_⟩
    obtain ⟨S', L'⟩ := S1.allocB (o := .tup [.ty (tyNm t), .ty (tyNm u)]) hp (fun _ => by simp)
    obtain ⟨s2, ty2, kk2⟩ := ty_of S' (r1.mono L'.ge) hb
    exact ⟨v, tp, _, _, [.type (tyNm t), .type (tyNm u)], (b || c), rfl, upd_same, .cons (.ty _) (.cons (.ty _) .nil), ty2, kitAny_two (kt (kk2 t b hb)) (kt (kk2 u c hc)), q1 _ _ _ (L1.trans L') S' (.bl _)⟩
  · exact q1.elim
/-! ### 1 << k -/
def fShl (x y : D) (st : Sto) : Out D := match x, y with
  | .int i, .int j => if i = 1 ∧ 0 ≤ j ∧ j ≤ 1000 then .ok (.int (2 ^ j.toNat)) st else .bad
  | _, _ => .bad
theorem pd_shl (ha : PE X a (tD (zX X T) W fa)) (hb : PE X b (tD (zX X T) W fb)) : PE X (.BinOp a .LShift b pos) (tD (zX X T) W (s2 fShl fa fb)) := pd_op op_oneShl (by
  intro W σ g st H dx dy x y Q S rx ry h
  unfold fShl at h
  split at h
  · rename_i i j
    split at h
    · rename_i hz
      obtain ⟨rfl, h1, h2⟩ := hz
      cases rx; cases ry
      exact ⟨j.toNat, rfl, by rw [Int.toNat_of_nonneg h1], by omega, EPost.val S (fun _ => .int _) h⟩
    · exact h.elim
  · exact h.elim) ha hb
/-! ### t.count(i) -/
def fCountT (x y : D) (st : Sto) : Out D := match x, y with
  | .tup xs, .int k => (match allInt xs with | some is => .ok (.int (is.count k : Nat)) st | none => .bad)
  | _, _ => .bad
/-- a tuple's method of one argument -/
def sMT (f : D → D → Sto → Out D) (o e : SE) : SE := fun ρ st => (o ρ st).bind fun x st => match x with
  | .tup _ => (e ρ st).bind fun y st => f x y st
  | _ => .bad
@[simp] theorem sMT_e (f : D → D → Sto → Out D) (o e : SE) (ρ : Ev) (st : Sto) : sMT f o e ρ st = (o ρ st).bind fun x st => match x with
  | .tup _ => (e ρ st).bind fun y st => f x y st
  | _ => .bad := id rfl
theorem fCountT_i {xs : List Int} {k : Int} (st : Sto) : fCountT (.tup (xs.map D.int)) (.int k) st = .ok (.int (xs.count k : Nat)) st := by
  have e : allInt (xs.map D.int) = some xs := by
    induction xs with
    | nil => rfl
    | cons x xs ih => rw [List.map_cons, allInt, ih]; rfl
  unfold fCountT
  dsimp only
  rw [e]
def eqi (k : Int) : Value → Bool
  | .int i _ => decide (i = k)
  | _ => false
theorem eqi_count (k : Int) : ∀ {ns : List Int} {us : List Value}, Vals (ns.map V.int) us → us.countP (eqi k) = ns.count k ∧ ∀ y ∈ us, ∃ i t, y = .int i t
  | [], _, r => by cases r; exact ⟨rfl, fun y hy => by cases hy⟩
  | n :: ns, _, r => by
    rw [List.map_cons] at r
    cases r with
    | cons r1 r2 =>
      obtain ⟨t, rfl⟩ := r1
      obtain ⟨h1, h2⟩ := eqi_count k r2
      refine ⟨?_, fun y hy => ?_⟩
      · rw [List.countP_cons, List.count_cons, h1]
        simp [eqi]
      · rcases List.mem_cons.mp hy with rfl | hy
        · exact ⟨_, _, rfl⟩
        · exact h2 y hy
theorem sqN_ty {pins : List (Addr × Obj)} {σ : L2.St} {H : Hp} {s : Shared} {p : Addr} {ws : List V} (I : Inv X pins σ H s) (h : SqN X.K H p ws) : s.TypeIs (.ref p) "tuple" ∧ ∀ b, Value.ref p = .ref b → ∃ ob, s.heap.get? b = some ob ∧ ob.dict = none := by
  rcases h with ⟨o, hd, e⟩ | ⟨o, its, n, h1, h2, hd, _⟩
  · obtain ⟨e1, _, _, _, o2, e2, c, _⟩ := (show ObjOk X.prog X.w H s.heap p (.frz o (.tup ws)) from I.hok p _ e)
    rw [e1] at e2
    cases e2
    exact ⟨⟨o, e1, c⟩, fun b z => by cases z; exact ⟨o, e1, hd⟩⟩
  · exact ⟨⟨o, I.kIn p o h1, h2⟩, fun b z => by cases z; exact ⟨o, I.kIn _ o h1, hd⟩⟩
theorem pd_countT {o : Expr} {fo : SE} {apos cpos : Pos} (ho : PE X o (tD (zX X T) W fo)) (he : PE X e (tD (zX X T) W fe)) (hst : starEach [e] X.env = (false, eval e X.env) :: starEach [] X.env := by rfl)
    (hbase : attributeBase o "count" X.env (eval o X.env) = eval o X.env := by rfl)
    (hfew : ((backTo cpos (starEach [e] X.env)).all (fun x => !x.1) && (backToKw cpos (keywordEach [] X.env)).all (fun x => x.1.isSome)
      && decide ([e].length + ([] : List Keyword).length + (if ([] : List Keyword).isEmpty then 0 else 1) < 30)) = true := by rfl)
    (hline : (apos.endLine == cpos.line) = true := by rfl) (hplain : (backTo cpos (starEach [] X.env)).any (·.1) = false := by rfl) :
    PE X (.Call (.Attribute o "count" apos) [e] [] cpos) (tD (zX X T) W (sMT fCountT fo fe)) := by
  refine ⟨fun pins s σ H Q I ⟨g, ρ, st, S, E, q⟩ => ?_⟩
  refine wpAny_Call_method_late hbase hfew hline rfl (thn (ho.run pins s σ H (fun x H1 => ∃ g1 st1 d, Le g g1 H H1 ∧ Sim X.K T g1 st1 H1 ∧ Rep X.K g1 d x ∧ EPost (zX X T) W σ Q g1 H1 (match d with | .tup _ => (fe ρ st1).bind fun y st => fCountT d y st | _ => .bad)) I
    ⟨g, ρ, st, S, E, Sat.mono (sat_bind q) (fun d st1 q1 g1 H1 v L1 S1 r1 => ⟨g1, st1, d, L1, S1, r1, EPost.mono L1 q1⟩) fun _ _ _ q => q⟩) fun v s1 ⟨x, H1, I1, r1, g1, st1, d, L1, S1, rd, q1⟩ => ?_)
  split at q1
  · rename_i xs
    obtain ⟨a, vs, rfl, h1, h2, h3⟩ := S1.tupN rd
    cases r1
    obtain ⟨t1, t2⟩ := sqN_ty I1 h1
    refine ⟨"tuple", "tuple.count", PySem.F.plainAttrs_tuple, PySem.F.slot_tuple_count, PySem.F.type_tuple_count, t1, t2, ?_⟩
    have hA := (pa_consD (W := W) (T := T) he pa_nilD hst).run cpos pins s1 σ H1 (fun vs H2 => ∃ g2 st2 k y, vs = [y] ∧ Le g1 g2 H1 H2 ∧ Sim X.K T g2 st2 H2 ∧ Rep X.K g2 k y ∧ EPost (zX X T) W σ Q g2 H2 (fCountT (.tup xs) k st2)) I1
      ⟨g1, ρ, st1, S1, E.mono L1.ge, ?_⟩
    · rw [hst] at hA ⊢
      refine Calls.callWith_builtin (by show (false || (backTo cpos (starEach [] X.env)).any (·.1)) = false; rw [hplain] <;> rfl) (Calls.evalArgs_plain ?_)
      refine thn hA fun us s2 ⟨ys, H2, I2, r2, g2, st2, k, y, e2, L2, S2, rk, q2⟩ => ?_
      subst e2
      obtain ⟨u, rfl, ru⟩ := r2.one
      unfold fCountT at q2
      split at q2
      · rename_i zs kk hz1
        cases hz1
        split at q2
        · rename_i is hi
          cases rk
          obtain ⟨tk, rfl⟩ := ru
          obtain ⟨a2, vs2, ea, k1, k2, k3⟩ := S2.tupN (rd.mono L2.ge)
          cases ea
          have hv := allInt_of k3 hi
          subst hv
          obtain ⟨its, rv, ⟨⟨cls, dd, data, sl⟩, ho2, hc, n, hd⟩, hlen⟩ := I2.tuple k1.t
          simp only at hc hd
          subst hc hd
          obtain ⟨c1, c2⟩ := eqi_count kk rv
          refine call_meets PySem.F.slot_tuple_count ⟨_, ho2, rfl⟩ PySem.F.entry_tuple_count (PySem.F.args_tuple_count_2 _ _)
            (SeqAt.tuple_countAt a its.toArray n dd sl (.int kk tk) (eqi kk)) ⟨ho2, fun y hy => ?_, ?_⟩
          · obtain ⟨i, t, rfl⟩ := c2 y (by simpa using hy)
            exact SeqAt.EqAt.int_int i t kk tk
          · refine ⟨.int (is.count kk : Nat), H2, I2.tok _, ⟨s2.toks, ?_⟩, EPost.val S2 (fun _ => .int _) q2⟩
            show Value.int ((its.countP (eqi kk) : Nat) : Int) s2.toks = Value.int ((is.count kk : Nat) : Int) s2.toks
            rw [c1]
        · exact q2.elim
      · exact q2.elim
    · refine sat_bind' (Sat.mono (sat_bind q1) (fun d2 st2 q2 => ?_) fun _ _ _ q => q)
      intro g2 H2 v2 L2 S2 r2
      cases r2 with
      | cons r2 r3 =>
        cases r3
        exact ⟨g2, st2, d2, _, rfl, L2, S2, r2, EPost.mono L2 q2⟩
  · exact q1.elim
/-! ### {k: e}, k written -/
theorem Sim.grow {K : PySem.W.Frag} {g : G} {st : Sto} {H : Hp} {p : Addr} {o : HO} (S : Sim K T g st H) (h : H p = none) : Sim K T g st (upd H p o) :=
  have k : ∀ a u, H a = some u → upd H p o a = some u := fun a u e => by rw [upd_ne (ne_of_none e h)]; exact e
  ⟨fun a u e => k _ _ (S.sub a u e), S.len, S.nd, fun a ha => let ⟨u, e, q⟩ := S.there a ha; ⟨u, k _ _ e, q⟩, fun l a mo e1 e2 => (S.obj l a mo e1 e2).mono (Ge.refl g) (fun z => z) (k a), S.tabs.ext k, S.tb⟩
theorem Sim.poke {K : PySem.W.Frag} {g : G} {st : Sto} {H : Hp} {p : Addr} {kvs kvs' : List (Key × V)} (S : Sim K T g st H) (hu : H p = some (.dK kvs)) (hb : g.B p = none) (hi : p ∉ g.ι) : Sim K T g st (upd H p (.dK kvs')) := by
  have nι : ∀ {l : Nat} {b : Addr}, g.ι[l]? = some b → b ≠ p := fun e z => hi (z ▸ List.mem_of_getElem? e)
  refine ⟨fun a u e => ?_, S.len, S.nd, fun a ha => ?_, fun l a mo e1 e2 => (S.obj l a mo e1 e2).mono (Ge.refl g) (fun z => z) fun u z => by rw [upd_ne (nι e1)]; exact z, fun q hq => ?_, S.tb⟩
  · rw [upd_ne (ne_of_none e hb)]; exact S.sub a u e
  · obtain ⟨u, e, q⟩ := S.there a ha
    have na : a ≠ p := fun z => by subst z; exact hi ha
    exact ⟨u, by rw [upd_ne na]; exact e, q⟩
  · obtain ⟨ps, h1, h2, h3⟩ := S.tabs q hq
    have n1 : q.1 ≠ p := fun z => by rw [z, hu] at h1; cases h1
    refine ⟨ps, by rw [upd_ne n1]; exact h1, h2, fun pos cv hc => ?_⟩
    obtain ⟨c, e1, e2⟩ := h3 pos cv hc
    have n2 : c ≠ p := fun z => by rw [z, hu] at e2; cases e2
    exact ⟨c, e1, by rw [upd_ne n2]; exact e2⟩
theorem Sim.adoptB {K : PySem.W.Frag} {g : G} {st : Sto} {H : Hp} {p : Addr} {o : HO} (S : Sim K T g st H) (hu : H p = some o) (hb : g.B p = none) (hi : p ∉ g.ι) (ho : ∀ ps, o ≠ .tbl ps) : Sim K T ⟨upd g.B p o, g.ι⟩ st H ∧ Ge g ⟨upd g.B p o, g.ι⟩ := by
  have ge : Ge g ⟨upd g.B p o, g.ι⟩ := ⟨fun a u e => by show upd g.B p o a = some u; rw [upd_ne (ne_of_none e hb)]; exact e, fun _ _ e => e⟩
  have nι : ∀ {l : Nat} {b : Addr}, g.ι[l]? = some b → b ≠ p := fun e z => hi (z ▸ List.mem_of_getElem? e)
  refine ⟨⟨fun a u e => ?_, S.len, S.nd, S.there, fun l b mo e1 e2 => (S.obj l b mo e1 e2).mono ge (fun z => by show upd g.B p o b = none; rw [upd_ne (nι e1)]; exact z) fun u z => z, S.tabs, fun a u e ps => ?_⟩, ge⟩
  · have e : upd g.B p o a = some u := e
    by_cases ha : a = p
    · subst ha; rw [upd_same] at e; cases e; exact hu
    · rw [upd_ne ha] at e; exact S.sub a u e
  · have e : upd g.B p o a = some u := e
    by_cases ha : a = p
    · subst ha; rw [upd_same] at e; cases e; exact ho ps
    · rw [upd_ne ha] at e; exact S.tb a u e ps
def sDict1 (k : Int) (e : SE) : SE := fun ρ st => (e ρ st).bind fun d st => .ok (.dk [.inl k] [d]) st
@[simp] theorem sDict1_e (k : Int) (e : SE) (ρ : Ev) (st : Sto) : sDict1 k e ρ st = (e ρ st).bind fun d st => .ok (.dk [.inl k] [d]) st := id rfl
theorem pd_dict1 {k : Int} {j : Nat} {p1 : Pos} (he : PE X e (tD (zX X T) W fe)) : PE X (.Dict [some (.Constant (.int k) j p1)] [e] pos) (tD (zX X T) W (sDict1 k fe)) :=
  PE.wk (pe_disp (pps_cons pe_int he pps_nil) rfl rfl (by simp) (Nat.le_of_ble_eq_true rfl)) fun σ H Q ⟨g, ρ, st, S, E, q⟩ p hp => by
    refine ⟨g, ρ, st, S.grow hp, E, Sat.mono (sat_bind q) (fun d st1 q1 g1 H1 v L1 S1 r1 => ?_) fun n fs st1 q1 => ?_⟩
    · obtain ⟨f1, f2, f3⟩ := L1.fr p _ upd_same (S.freshB hp) (S.freshI hp) (fun ps => by simp)
      refine ⟨f1, [(.inl k, v)], rfl, Nat.le_of_ble_eq_true rfl, ?_⟩
      obtain ⟨S3, ge⟩ := (S1.poke (kvs' := mergeK [] [(.inl k, v)]) f1 f2 f3).adoptB upd_same f2 f3 (fun ps => by simp)
      refine q1 _ _ _ ⟨L1.ge.trans ge, fun a u e1 e2 e3 e4 => ?_⟩ S3 (.dk (ks := [.inl k]) (vs := [v]) upd_same rfl (.one (r1.mono ge)))
      have na : a ≠ p := ne_of_none e1 hp
      obtain ⟨h1, h2, h3⟩ := L1.fr a u (by rw [upd_ne na]; exact e1) e2 e3 e4
      exact ⟨by rw [upd_ne na]; exact h1, by show upd g1.B p _ a = none; rw [upd_ne na]; exact h2, h3⟩
    · exact fun g' H' dx L' S' X' => q1 g' H' dx ⟨L'.ge, fun a u e1 e2 e3 e4 => L'.fr a u (by rw [upd_ne (ne_of_none e1 hp)]; exact e1) e2 e3 e4⟩ S' X'
/-! ### a def that calls itself: at depth 0 nothing is promised -/
def fNone : List D → Sto → Out D := fun _ _ => .bad
theorem fn_none {P : Program} {w : World} {K : PySem.W.Frag} {mg : Str → Option Value} {base : Heap} {k n : Nat} {f : Addr} {fd : FuncData} {ps : List Str} : FnOk P w K mg base (L2.CX P w) k f fd ps (spD ⟨K, T, mg⟩ n fNone) :=
  ⟨fun vs H Q E ⟨_, g, ds, st, _, _, q⟩ => q.elim, fun A outer s H args us vs Q E hr he hb hv ⟨_, g, ds, st, _, _, q⟩ => q.elim⟩
/-- a while loop's turns, by a number that grows less -/
def fuelI (i : Nat) : Ev → Sto → Nat := fun ρ _ => match ρ[i]? with | some (some (.int k)) => k.natAbs + 1 | _ => 0
/-! ### simp -/
theorem isTy_two (t u : TyN) (e : SE) (ρ : Ev) (st : Sto) {d : D} {b c : Bool} {st' : Sto} (h : e ρ st = .ok d st') (h1 : isTy t d = some b) (h2 : isTy u d = some c) : sIsT t u e ρ st = .ok (.bl (b || c)) st' := by
  unfold sIsT
  rw [h, bind_ok]
  simp only [h1, h2]
theorem fShl_63 (st : Sto) : fShl (.int 1) (.int 63) st = .ok (.int 9223372036854775808) st := rfl
end
end PD
/-! PDFn: defs as values; a call of a variable that holds one. -/
namespace PD
open PySem PySem.Spec PyProof.Rows L2
section
variable {X : Cx} {T : List (Addr × Str)} {W : WX} {a b e : Expr} {es : List Expr} {fa fb fe : SE} {fs : SA} {pos p : Pos} {x : Str}
theorem pd_gfn (hg : Gl X x) (hm : ∃ q, X.mg x = some (.ref q) ∧ PySem.W.nsIn X.K mainGlobals x = some (some (.ref q))) (hd : (x == ("__debug__" : Str)) = false := by decide) : PE X (.Name x pos) (tD (zX X T) W (sC (.fn x))) := by
  obtain ⟨q, hm, hk⟩ := hm
  exact PE.wk (pe_glob (v := .ref q) hg hm rfl hd) fun σ H Q ⟨g, ρ, st, S, E, h⟩ => EPost.val S (fun g' => .fn hk) h
abbrev FnTab := List (Str × Nat × (List D → Sto → Out D))
/-- the call of a variable that holds one of these defs -/
def sCallV (tab : FnTab) (n i : Nat) (as : SA) : SE := fun ρ st => match ρ[i]? with
  | some (some (.fn x)) => (match tab.find? (fun p => p.1 == x) with
    | some (_, m, F) => if m = n then (as ρ st).bind fun xs st => if xs.length = n then F xs st else .bad else .bad
    | none => .bad)
  | _ => .bad
/-- what a table of defs owes -/
def TabOk (X : Cx) (T : List (Addr × Str)) (k : Nat) (tab : FnTab) : Prop := ∀ e ∈ tab, ∃ (f : Addr) (fd : FuncData) (ps : List Str), FnOk X.prog X.w X.K X.mg X.base (L2.CX X.prog X.w) k f fd ps (spD (zX X T) e.2.1 e.2.2) ∧ PySem.W.nsIn X.K mainGlobals e.1 = some (some (.ref f)) ∧ PySem.W.keepIn X.K (.ref f) = true ∧ Binds X.K fd ps []
theorem pd_callV {tab : FnTab} {k i : Nat} (A : TabOk X T k tab) (tk : Takes X W) (hr : Room k X.A) (hN : X.N[i]? = some x) (hv : Vis X.env.scope x) (ha : PA X (e :: es) (tDA (zX X T) W fs)) (hdb : (x == ("__debug__" : Str)) = false := by decide) (hcd : (x == ("__classdict__" : Str)) = false := by decide)
    (he : starEach (e :: es) X.env = (false, eval e X.env) :: starEach es X.env := by rfl) (hpl : (backTo pos (starEach es X.env)).any (·.1) = false := by rfl) :
    PE X (.Call (.Name x p) (e :: es) [] pos) (tD (zX X T) W (sCallV tab (es.length + 1) i fs)) := by
  refine ⟨fun pins s σ H Q I ⟨g, ρ, st, S, E, q⟩ => ?_⟩
  unfold sCallV at q
  split at q
  · rename_i z hz
    split at q
    · rename_i y m F hf
      obtain ⟨f, fd, ps, G0, hn, hk, hb⟩ := A _ (List.mem_of_find?_eq_some hf)
      have hy : y = z := by
        have := List.find?_some hf
        simpa using this
      subst hy
      split at q
      · rename_i hm
        subst hm
        obtain ⟨v, hs, r⟩ := E.at_ i _ hz
        cases r with
        | fn hn2 =>
          have hff : some (some (Value.ref f)) = some (some (Value.ref _)) := hn.symm.trans hn2
          injection hff with h1
          injection h1 with h2
          injection h2 with h3
          subst h3
          refine wpAny_Call_Name_kw (thn ((pe_var (pos := p) hN hv hdb hcd).run pins s σ H (fun v H1 => v = .ref f ∧ H1 = H) I ⟨.ref f, hs, rfl, rfl⟩) fun u s1 ⟨v, H1, I1, r1, q1⟩ => ?_)
          obtain ⟨ev, eH⟩ := q1
          subst ev
          subst eH
          cases r1
          refine PySem.W.callWith_K (h₀ := X.base) I.ok.mod.kin hk (thn (ha.run pos pins s1 σ _ (fun vs H1 => ∃ g1 ds st1, Sim X.K T g1 st1 H1 ∧ Reps X.K g1 ds vs ∧ EPost (zX X T) W σ Q g1 H1 (if ds.length = es.length + 1 then F ds st1 else .bad)) I1
            ⟨g, ρ, st, S, E, Sat.mono (sat_bind q) (fun ds st1 q1 g1 H1 vs L1 S1 r1 => ⟨g1, ds, st1, S1, r1, EPost.mono L1 q1⟩) fun _ _ _ q => q⟩) fun us s2 ⟨vs, H2, I2, r, g1, ds, st1, S1, r1, q2⟩ => ⟨I2.kIn, ?_⟩) he hpl
          split at q2
          · rename_i hl
            exact run_fnS G0 hr hb (passAt tk σ) I2 r ⟨by rw [← r1.length]; exact hl, g1, ds, st1, S1, r1, q2⟩
          · exact q2.elim
      · exact q.elim
    · exact q.elim
  · exact q.elim
theorem tabOk_nil {k : Nat} : TabOk X T k [] := fun e he => by cases he
theorem tabOk_cons {tab : FnTab} {k j m : Nat} {F : List D → Sto → Out D} {f : Addr} {fd : FuncData} {ps : List Str} (G0 : FnOk X.prog X.w X.K X.mg X.base (L2.CX X.prog X.w) j f fd ps (spD (zX X T) m F)) (h : j ≤ k) (hn : PySem.W.nsIn X.K mainGlobals x = some (some (.ref f))) (hk : PySem.W.keepIn X.K (.ref f) = true) (hb : Binds X.K fd ps []) (r : TabOk X T k tab) : TabOk X T k ((x, m, F) :: tab) := fun e he => by
  rcases List.mem_cons.mp he with rfl | he
  · exact ⟨f, fd, ps, G0.mono h, hn, hk, hb⟩
  · exact r e he
/-! xs[::-1] of a list -/
def sRev (m : Bool) (e : SE) : SE := fun ρ st => (e ρ st).bind fun x st => match litems st x with
  | some xs => newL m xs.reverse st
  | none => .bad
@[simp] theorem sRev_e (m : Bool) (e : SE) (ρ : Ev) (st : Sto) : sRev m e ρ st = (e ρ st).bind fun x st => match litems st x with
  | some xs => newL m xs.reverse st
  | none => .bad := id rfl
theorem reps_rev {K : PySem.W.Frag} {g : G} : ∀ {ds : List D} {vs : List V}, Reps K g ds vs → Reps K g ds.reverse vs.reverse
  | _, _, .nil => .nil
  | _, _, .cons a t => by
    rw [List.reverse_cons, List.reverse_cons]
    exact (reps_rev t).append (.one a)
theorem pd_rev {k : Nat} {p1 p2 p3 : Pos} (m : Bool) (he : PE X e (tD (zX X T) W fe)) : PE X (.Subscript e (.Slice none none (some (.UnaryOp .USub (.Constant (.int 1) k p1) p2)) p3) pos) (tD (zX X T) W (sRev m fe)) :=
  PE.wk (pe_revL he) fun σ H Q ⟨g, ρ, st, S, E, q⟩ => by
    refine ⟨g, ρ, st, S, E, Sat.mono (sat_bind q) (fun d st1 q1 g1 H1 v L1 S1 r1 => ?_) fun _ _ _ q => q⟩
    split at q1
    · rename_i xs e1
      obtain ⟨a, vs, rfl, h1, h2, h3⟩ := S1.litems r1 e1
      exact ⟨a, vs, rfl, SqL.of h1, newL_ok (W := W) (σ := σ) S1 (by rw [List.length_reverse]; exact h2) (reps_rev h3) (EPost.mono L1 q1)⟩
    · exact q1.elim
end
end PD
/-! PDEnd: the law's promise, from what its def computes. -/
namespace PD
open PySem PySem.Spec PyProof.Rows L2
/-- the law: of a script of up to 63 ints, True -/
def spLaw (K : PySem.W.Frag) : Sp := fun vs H Q _ => ∃ (a : Addr) (ns : List Int), vs = [.ref a] ∧ ns.length ≤ 63 ∧ Only H ∧ SqL K H a (ns.map V.int) ∧ ∀ H', Q (.bl true) H'
theorem law_spD {K : PySem.W.Frag} {mg : Str → Option Value} {F : List D → Sto → Out D} (hF : ∀ ns : List Int, ns.length ≤ 63 → ∃ st', F [.fz (ns.map D.int)] [] = .ok (.bl true) st') {vs : List V} {H : Hp} {Q : VK} {E : XK} (h : spLaw K vs H Q E) : spD ⟨K, [], mg⟩ 1 F vs H Q E := by
  obtain ⟨a, ns, rfl, hl, hO, hS, q⟩ := h
  obtain ⟨st', e⟩ := hF ns hl
  have tb : ∀ a o, H a = some o → ∀ ps, o ≠ .tbl ps := fun b o e ps => by
    rcases hO b with h | ⟨o', xs, h⟩
    · rw [h] at e; cases e
    · rw [h] at e; cases e; simp
  refine ⟨rfl, ⟨H, []⟩, [.fz (ns.map D.int)], [], ⟨fun _ _ h => h, rfl, List.nodup_nil, fun b hb => absurd hb (by simp), fun l b mo h => by simp at h, ?_, tb⟩, .cons (.fz hS ?_ (reps_ofInts ns)) .nil, ?_⟩
  · first | exact fun p hp => absurd hp (by simp) | trivial
  · rw [List.length_map]
    have := sizeLine_eq
    omega
  · rw [e]
    intro g' H' v _ _ r
    cases r
    exact q H'
theorem spLaw_of {K : PySem.W.Frag} {H : Hp} {a : Addr} {ns : List Int} (hl : ns.length ≤ 63) (hO : Only H) (hS : SqL K H a (ns.map V.int)) : spLaw K [.ref a] H (fun v _ => v = .bl true) fun _ _ _ => False :=
  ⟨a, ns, rfl, hl, hO, hS, fun _ => rfl⟩
theorem noCX {P : Program} {w : World} {outer : List Env} {H : Hp} {s : Shared} {e : Value} {s' : Shared} (h : L2.CX P w outer H s (fun _ _ _ => False) e s') : False := by
  obtain ⟨_, _, _, _, _, _, _, _, _, _, _, _, h⟩ := h
  exact h
/-- the goal that k_head leaves, from the defs' promises -/
theorem walk_ofD {l : PySem.W.OpenLaw} {k : Nat} {q : Program} {loose : List Str} {XP : (Str → Option Value) → Heap → Prop} {YP : World → Heap → Prop} {d : DefRec} {K : Params → PySem.W.Frag} {x : Str}
    (hn : l.most = some 63) (hdf : d.params.defaults = []) (hr : Room k callerA)
    (hY : ∀ (w : World) (h : Heap), YP w h → (K w.params).In h)
    (F : ∀ (w : World) (mg : Str → Option Value) (fa : Addr) (h : Heap), (K w.params).In h → h.Ns mainGlobals mg → mg d.name = some (.ref fa) →
      ∃ fd : FuncData, (∀ (s : Shared) (u : Value), BindsTo s fd ⟨[u], []⟩ [(x, u)]) ∧
        ∀ base : Heap, (K w.params).In base → base.Ns mainGlobals mg → FnOk l.prog w (K w.params) mg base (L2.CX l.prog w) k fa fd [x] (spLaw (K w.params))) :
    PySem.W.WalkO q loose XP YP l.row.toRowW d [] (fun f vs => PySem.call f vs) :=
  walk_of (CX := fun w => L2.CX l.prog w) (sp := fun w => spLaw (K w.params)) hn (by decide) hdf hr hY F (fun _ _ _ _ hl hO hS => spLaw_of hl hO hS) fun _ _ _ _ _ h => noCX h
end PD
/-! PDEndL: the promise of a law that holds lambdas. -/
namespace PD
open PySem PySem.Spec PyProof.Rows L2
def notTbl (H : Hp) : Hp := fun b => match H b with | some (.tbl _) => none | o => o
theorem notTbl_sub {H : Hp} {b : Addr} {o : HO} (h : notTbl H b = some o) : H b = some o ∧ ∀ ps, o ≠ .tbl ps := by
  unfold notTbl at h
  split at h
  · cases h
  · rename_i o' hn
    exact ⟨h, fun ps e => hn ps (by rw [h, e])⟩
theorem notTbl_of {H : Hp} {b : Addr} {o : HO} (h : H b = some o) (n : ∀ ps, o ≠ .tbl ps) : notTbl H b = some o := by
  unfold notTbl
  split
  · rename_i ps e
    rw [h] at e
    cases e
    exact (n ps rfl).elim
  · exact h
theorem sqL_notTbl {K : PySem.W.Frag} {H : Hp} {a : Addr} {vs : List V} : SqL K H a vs → SqL K (notTbl H) a vs
  | .inl (.inl e) => .inl (.inl (notTbl_of e (by simp)))
  | .inl (.inr ⟨o, e⟩) => .inl (.inr ⟨o, notTbl_of e (by simp)⟩)
  | .inr x => .inr x
theorem law_spT {K : PySem.W.Frag} {mg : Str → Option Value} {F : List D → Sto → Out D} {Pt : Addr} {q : Str} (hF : ∀ ns : List Int, ns.length ≤ 63 → ∃ st', F [.fz (ns.map D.int)] [] = .ok (.bl true) st') {H : Hp} {a : Addr} {ns : List Int} (hl : ns.length ≤ 63) (hP : H Pt = some (.tbl #[])) (hS : SqL K H a (ns.map V.int)) :
    spD ⟨K, [(Pt, q)], mg⟩ 1 F [.ref a] H (fun v _ => v = .bl true) fun _ _ _ => False := by
  obtain ⟨st', e⟩ := hF ns hl
  refine ⟨rfl, ⟨notTbl H, []⟩, [.fz (ns.map D.int)], [], ⟨fun _ _ h => (notTbl_sub h).1, rfl, List.nodup_nil, fun b hb => absurd hb (by simp), fun l b mo h => by simp at h, ?_, fun _ _ h => (notTbl_sub h).2⟩, .cons (.fz (sqL_notTbl hS) ?_ (reps_ofInts ns)) .nil, ?_⟩
  · intro p hp
    rw [List.mem_singleton.mp hp]
    exact LamX.TabS.nil hP
  · rw [List.length_map]
    have := sizeLine_eq
    omega
  · rw [e]
    intro g' H' v _ _ r
    cases r
    rfl
end PD
/-! PDEndA: the end of a law of which several defs hold lambdas: the table of each def of the text is empty at the start. -/
namespace PD
open PySem PySem.Spec PyProof.Rows L2 LamX
theorem law_spTs {K : PySem.W.Frag} {mg : Str → Option Value} {F : List D → Sto → Out D} {T : List (Addr × Str)} (hF : ∀ ns : List Int, ns.length ≤ 63 → ∃ st', F [.fz (ns.map D.int)] [] = .ok (.bl true) st') {H : Hp} {a : Addr} {ns : List Int} (hl : ns.length ≤ 63) (hP : ∀ p ∈ T, H p.1 = some (.tbl #[])) (hS : SqL K H a (ns.map V.int)) :
    spD ⟨K, T, mg⟩ 1 F [.ref a] H (fun v _ => v = .bl true) fun _ _ _ => False := by
  obtain ⟨st', e⟩ := hF ns hl
  refine ⟨rfl, ⟨notTbl H, []⟩, [.fz (ns.map D.int)], [], ⟨fun _ _ h => (notTbl_sub h).1, rfl, List.nodup_nil, fun b hb => absurd hb (by simp), fun l b mo h => by simp at h, fun p hp => LamX.TabS.nil (hP p hp), fun _ _ h => (notTbl_sub h).2⟩, .cons (.fz (sqL_notTbl hS) ?_ (reps_ofInts ns)) .nil, ?_⟩
  · rw [List.length_map]
    have := sizeLine_eq
    omega
  · rw [e]
    intro g' H' v _ _ r
    cases r
    rfl
theorem walk_ofAll {l : PySem.W.OpenLaw} {n k : Nat} {q : Program} {loose : List Str} {XP : (Str → Option Value) → Heap → Prop} {YP : World → Heap → Prop} {d : DefRec} {K : Params → PySem.W.Frag} {CX : World → CXT} {x : Str}
    (hn : l.most = some n) (hn2 : n ≤ sizeLine) (hdf : d.params.defaults = []) (hr : Room k callerA) (hY : ∀ (w : World) (h : Heap), YP w h → (K w.params).In h)
    (F : ∀ (w : World) (mg : Str → Option Value) (fa : Addr) (h : Heap), YP w h → (K w.params).In h → h.Ns mainGlobals mg → mg d.name = some (.ref fa) →
      (∀ (y : Str) (fy : Addr), ((recsOf q).any fun e => e.name == y) = true → mg y = some (.ref fy) → OwnTab (K w.params) fy h) → LawAtS l w (K w.params) (CX w) k n x mg fa h)
    (hCX : ∀ (w : World) (H : Hp) (s : Shared) (e : Value) (s' : Shared), CX w [] H s (fun _ _ _ => False) e s' → False) :
    PySem.W.WalkO q loose XP YP l.row.toRowW d [] (fun f vs => PySem.call f vs) := by
  refine Att.attach_callB hn hdf fun w s0 s1 mg mb fa o pm cd doc a vs ns G Y ho hd hcd hmg hobj hints hlen hbits hg => ?_
  have KX := hY w _ Y
  have own : ∀ (y : Str) (fy : Addr), ((recsOf q).any fun e => e.name == y) = true → mg y = some (.ref fy) → OwnTab (K w.params) fy s1.heap := by
    intro y fy hy hm c P ob fd1 e dd vs1 sl k1 k2 k3 k4 k5
    obtain ⟨dL, hmem, hname⟩ := List.any_eq_true.mp hy
    obtain ⟨a', o', fd', c', P', h1, h2, h3, h4, h5, ⟨oc, vc, e1, _, e3, e4⟩, hP⟩ := G.T.tab dL hmem
    have ey : dL.name = y := beq_iff_eq.mp hname
    subst ey
    cases hm.symm.trans h1
    cases (KX _ _ k1).symm.trans h2
    cases k2.symm.trans h3
    cases k3.symm.trans h4
    cases (KX _ _ k4).symm.trans e1
    cases e3
    cases k5.symm.trans e4
    exact hP
  obtain ⟨fd, cs, sp, hT, nT, C, hb, hsp, hF⟩ := F w mg fa _ Y KX G.T.g hmg own
  exact law_callTs KX G.T.g G.T.b G.T.builtins G.T.nolimit hg hT nT C G.T.bmain hobj hints (Nat.le_trans hlen hn2) hr hF hb (fun H hH hS => hsp H a ns hlen hbits hH hS) fun H e s' => hCX w H s1 e s'
end PD
/-! PDG: promises that are given only where no repr is under way; repr of data. -/
namespace PD
open PySem PySem.Spec PyProof.Rows L2
/-- a def's promise, where no repr is under way -/
structure FnG (P : Program) (w : World) (K : PySem.W.Frag) (mg : Str → Option Value) (base : Heap) (CX : CXT) (k : Nat) (f : Addr) (fd : FuncData) (ps : List Str) (sp : Sp) : Prop where
  len : ∀ vs H Q E, sp vs H Q E → vs.length = ps.length
  run : ∀ (A : Around) (outer : List Env) (s : Shared) (H : Hp) (args : Args) (us : List Value) (vs : List V) (Q : VK) (E : XK), Room k A → A.guards = some [] → Env0 P w K mg base A outer s H → BindsTo s fd args (ps.zip us) → Vals vs us → sp vs H Q E →
    codeAny (model P w) A (.call (.ref f) args) (CR CX outer P w H s Q E) s
section
variable {P : Program} {w : World} {K : PySem.W.Frag} {mg : Str → Option Value} {base : Heap} {CX : CXT} {k : Nat} {f : Addr} {fd : FuncData} {ps : List Str} {sp sp' : Sp}
theorem FnG.imp (F : FnG P w K mg base CX k f fd ps sp) (h : ∀ vs H Q E, sp' vs H Q E → sp vs H Q E) : FnG P w K mg base CX k f fd ps sp' :=
  ⟨fun vs H Q E q => F.len vs H Q E (h _ _ _ _ q), fun A outer s H args us vs Q E hr hg he hb hv hs => F.run A outer s H args us vs Q E hr hg he hb hv (h _ _ _ _ hs)⟩
theorem fnG_of (F : FnOk P w K mg base CX k f fd ps sp) : FnG P w K mg base CX k f fd ps sp :=
  ⟨F.len, fun A outer s H args us vs Q E hr _ he hb hv hs => F.run A outer s H args us vs Q E hr he hb hv hs⟩
/-- a def by its body -/
theorem fnG_body {name qual : Str} {params : Arguments} {body : List Stmt} {scope : Scope} {dV kV doc pm cdv ct oc : Value} {an od : Option Addr} {osl : Array (Option Value)} {N : List Str}
    (lk : K.lookup f = some ⟨oc, od, .func (PySem.W.fnOf name qual params body scope dV kV doc pm an cdv ct), osl⟩) (hcd : PySem.W.codeIn K cdv qual = true) (S : FnScope N ps scope) (len : ∀ vs H Q E, sp vs H Q E → vs.length = ps.length)
    (hbody : ∀ (A : Around) (outer : List Env) (s : Shared) (H : Hp) (vs : List V) (Q : VK) (E : XK), Room k (A.deeper (envOfC qual scope s.heap.objs.size f cdv)) → (A.deeper (envOfC qual scope s.heap.objs.size f cdv)).guards = some [] → sp vs H Q E →
      ∃ t, PSs (cxOf CX P w K mg base N qual scope f cdv A outer s H E) body t ∧ t { nx := fun _ H' => Q .non H', rt := Q } (start N vs) H) :
    FnG P w K mg base CX (k + 1) f (PySem.W.fnOf name qual params body scope dV kV doc pm an cdv ct) ps sp where
  len := len
  run := fun A outer s H args us vs Q E room gd e0 hb rv hsp => by
    have ln := len _ _ _ _ hsp
    have kin : K.In s.heap := e0.mod.kin.keeps fun b o e => (e0.bs b o e).1
    have nl : s.heap.NoLimit := e0.mod.nolimit.keeps fun b o e => (e0.bs b o e).1
    have kinds : ∀ y ∈ ps.zip us, scope.names.lookup y.1 = some .local ∨ (scope.names.lookup y.1 = some .cell ∧ ((cellsFrom (s.heap.objs.size + 1) scope.names []).lookup y.1).isSome = true) := by
      rintro ⟨n, v⟩ hy
      exact (S.par n (List.of_mem_zip hy).1).imp id fun q => ⟨q, PySem.W.cellsFrom_some _ _ _ (.inl q)⟩
    refine codeAny_call_function room.depth (kin _ _ lk) rfl S.co S.gen rfl (PySem.W.codeRec_of kin hcd) (hb _ _ _ _ (wpAny_newFunctionEnv_cells S.kind kinds fun env he s1 x => ?_))
    subst he
    obtain ⟨t, ht, hq⟩ := hbody A outer s H vs Q E (room.deeper _) gd hsp
    have J0 : Inv (cxOf CX P w K mg base N qual scope f cdv A outer s H E) [] (start N vs) H s1 := inv_start S room.hd e0 ln rv x
    refine ⟨nl.keeps x.toInCall.keep, codeAny_func (wpAny_mono (ht.run [] s1 (start N vs) H _ J0 hq) (fun fl s' hs => ?_) fun _ _ hs => hs)⟩
    have done : ∀ {σ' : L2.St} {H' : Hp} {v : V} {u : Value}, Inv (cxOf CX P w K mg base N qual scope f cdv A outer s H E) [] σ' H' s' → RelV v u → Q v H' → CE outer P w H s Q u s' := by
      intro σ' H' v u J r q
      exact ⟨v, H', J.os, J.bare, J.base, J.hok, r, q⟩
    cases fl with
    | ret u => obtain ⟨v, σ', H', J, r, q⟩ := hs; exact done J r q
    | next => obtain ⟨σ', H', J, q⟩ := hs; exact done (v := V.non) (u := Value.none) J rfl q
    | brk => obtain ⟨_, _, _, q⟩ := hs; exact q.elim
    | cont => obtain ⟨_, _, _, q⟩ := hs; exact q.elim
end
section
variable {X : Cx} {T : List (Addr × Str)} {W : WX} {CX : CXT} {k n : Nat} {f : Addr} {fd : FuncData} {ps : List Str} {sp : Sp} {E : L2.St → XK} {x : Str} {p pos : Pos} {e : Expr} {es : List Expr} {t : TA} {fs : SA} {F : List D → Sto → Out D}
theorem callG {pins : List (Addr × Obj)} {σ : L2.St} {H : Hp} {s : Shared} {Q : VK} {us : List Value} {vs : List V} (G0 : FnG X.prog X.w X.K X.mg X.base CX k f fd ps sp) (hr : Room k X.A) (gd : X.A.guards = some []) (hb : Binds X.K fd ps [])
    (hx : PassesAt CX X σ (E σ)) (I : Inv X pins σ H s) (r : Vals vs us) (h : sp vs H Q (E σ)) : wpAny (model X.prog X.w) X.A (call (.ref f) us) (EP X pins σ Q) X.xe s := by
  have bb := hb s us I.kIn (by rw [List.append_nil, ← r.length]; exact G0.len _ _ _ _ h)
  rw [List.append_nil] at bb
  refine wpAny_call (codeAny_mono (G0.run X.A X.stack s H ⟨us, []⟩ us vs Q (E σ) hr gd I.env0 bb r h) fun res s' hq => ?_)
  rcases res with er | fl
  · exact hx pins H s er s' I hq
  · cases fl with
    | ret u => exact I.after hq
    | next => exact hq.elim
    | brk => exact hq.elim
    | cont => exact hq.elim
theorem pd_callG (G0 : FnG X.prog X.w X.K X.mg X.base (L2.CX X.prog X.w) k f fd ps (spD (zX X T) n F)) (tk : Takes X W) (hr : Room k X.A) (gd : X.A.guards = some []) (hg : Gl X x) (hm : X.mg x = some (.ref f)) (hk : PySem.W.keepIn X.K (.ref f) = true) (hb : Binds X.K fd ps [])
    (ha : PA X (e :: es) (tDA (zX X T) W fs)) (hdb : (x == ("__debug__" : Str)) = false := by decide) (he : starEach (e :: es) X.env = (false, eval e X.env) :: starEach es X.env := by rfl) (hpl : (backTo pos (starEach es X.env)).any (·.1) = false := by rfl) :
    PE X (.Call (.Name x p) (e :: es) [] pos) (tD (zX X T) W (sCall n F fs)) := by
  refine ⟨fun pins s σ H Q I ⟨g, ρ, st, S, E, q⟩ => ?_⟩
  refine wpAny_Call_Name_kw (ld_glob I hg hm (PySem.W.callWith_K (h₀ := X.base) I.ok.mod.kin hk (thn (ha.run pos pins s σ H (fun vs H1 => spD (zX X T) n F vs H1 Q (WE W σ)) I ?_) fun us s1 ⟨vs, H1, I1, r, q1⟩ => ⟨I1.kIn, callG G0 hr gd hb (passAt tk σ) I1 r q1⟩) he hpl) hdb)
  refine ⟨g, ρ, st, S, E, Sat.mono (sat_bind q) (fun ds st1 q1 g1 H1 vs L1 S1 r1 => ?_) fun _ _ _ q => q⟩
  split at q1
  · rename_i hl
    exact ⟨by rw [← r1.length]; exact hl, g1, ds, st1, S1, r1, EPost.mono L1 q1⟩
  · exact q1.elim
end
section
variable {P : Program} {w : World} {K : PySem.W.Frag} {mg : Str → Option Value} {base : Heap} {T : List (Addr × Str)} {qb : SS} {x qual : Str} {st : Stmt} {f : Addr} {fd : FuncData} {N ps : List Str} {k : Nat}
theorem def_rawG (F : Fun K x qual st f fd) (S : FnScope N ps (defScope st))
    (hb : ∀ (cdv : Value), fd.code = cdv → ∀ (A : Around) (outer : List Env) (s : Shared) (H : Hp) (E : XK), Room k (A.deeper (envOfC qual (defScope st) s.heap.objs.size f cdv)) → (A.deeper (envOfC qual (defScope st) s.heap.objs.size f cdv)).guards = some [] →
      PSs (cxOf (L2.CX P w) P w K mg base N qual (defScope st) f cdv A outer s H E) (defBody st) (tDS ⟨K, T, mg⟩ (fun cls d _ H => E cls d H) qb)) :
    FnG P w K mg base (L2.CX P w) (k + 1) f fd ps (spD ⟨K, T, mg⟩ ps.length (defRaw N.length qb)) := by
  obtain ⟨oc, od, kV, doc, pm, an, cdv, ct, osl, rfl, lk, hcd⟩ := F.ex
  refine fnG_body lk hcd S (fun vs H Q E h => h.1) fun A outer s H vs Q E hr gd h => ⟨_, hb cdv rfl A outer s H E hr gd, ?_⟩
  obtain ⟨hl, g, ds, st0, S0, R, q⟩ := h
  refine ⟨g, startD N.length ds, st0, S0, start_env R, ?_⟩
  unfold defRaw at q
  cases hr2 : qb (startD N.length ds) st0 with
  | none => rw [hr2] at q; exact q.elim
  | some r =>
    obtain ⟨fl, st'⟩ := r
    rw [hr2] at q
    cases fl with
    | rt d => exact fun g' H' L S' v r => q g' H' v L S' r
    | nx ρ => exact fun g' H' L S' σ E => q g' H' .non L S' .non
    | ex n fs ρ => exact fun g' H' L S' σ dx E x => q g' H' dx L S' x
    | _ => exact q.elim
theorem finG_of {m n : Nat} (F0 : FnG P w K mg base (L2.CX P w) k f fd ps (spD ⟨K, T, mg⟩ m (defRaw n qb))) : FnG P w K mg base (L2.CX P w) k f fd ps (spD ⟨K, T, mg⟩ m (defFin n qb)) := by
  refine F0.imp fun vs H Q E ⟨hl, g, ds, st0, S0, R, q⟩ => ⟨hl, g, ds, st0, S0, R, ?_⟩
  unfold defFin at q
  cases hr : defRaw n qb ds st0 with
  | bad => rw [hr] at q; exact q.elim
  | ok d st1 =>
    rw [hr] at q
    unfold fin at q
    dsimp only at q
    intro g1 H1 v L1 S1 r1
    split at q
    · rename_i d' hd
      split at q
      · rename_i hc
        obtain ⟨g2, L2', S2, b2, i1, f3⟩ := fin_sim S0 L1 S1 hc
        exact q g2 H1 v L2' S2 (frz_rep S1 b2 i1 f3 60 r1 hd)
      · exact q.elim
    · exact q.elim
  | exc n fs st1 =>
    rw [hr] at q
    unfold fin at q
    dsimp only at q
    intro g1 H1 dx L1 S1 x1
    split at q
    · rename_i hc
      rw [Bool.and_eq_true_iff] at hc
      obtain ⟨g2, L2', S2, b2, i1, _⟩ := fin_sim S0 L1 S1 hc.2
      rcases x1 with x1 | ⟨a, vs, x1, x2, x3, x4⟩
      · exact q g2 H1 dx L2' S2 (.inl x1)
      · refine q g2 H1 dx L2' S2 (.inr ⟨a, vs, x1, x2, b2 _ _ x3, Reps.cut (n := st0.length) b2 i1 ?_ x4⟩)
        have h1 := hc.1
        clear x1 x2 x3 x4 hc q hr
        induction fs with
        | nil => rfl
        | cons p fs ih =>
          rw [List.all_cons, Bool.and_eq_true] at h1
          rw [List.map_cons, noRefs, h1.1, ih h1.2]
          rfl
    · exact q.elim
theorem def_finG (F : Fun K x qual st f fd) (S : FnScope N ps (defScope st))
    (hb : ∀ (cdv : Value), fd.code = cdv → ∀ (A : Around) (outer : List Env) (s : Shared) (H : Hp) (E : XK), Room k (A.deeper (envOfC qual (defScope st) s.heap.objs.size f cdv)) → (A.deeper (envOfC qual (defScope st) s.heap.objs.size f cdv)).guards = some [] →
      PSs (cxOf (L2.CX P w) P w K mg base N qual (defScope st) f cdv A outer s H E) (defBody st) (tDS ⟨K, T, mg⟩ (fun cls d _ H => E cls d H) qb)) :
    FnG P w K mg base (L2.CX P w) (k + 1) f fd ps (spD ⟨K, T, mg⟩ ps.length (defFin N.length qb)) := finG_of (def_rawG F S hb)
end
/-! ### repr -/
def bRepr (xs : List D) (st : Sto) : Out D := match xs with
  | [x] => (match toPy st 60 x with
    | some p => if p.showable = true ∧ p.shown.length ≤ sizeLine then .ok (.str p.shown) st else .bad
    | none => .bad)
  | _ => .bad
def rRepr (K : PySem.W.Frag) : List V → Hp → VK → Prop := fun xs H Q => ∃ (x : V) (p : PyData), xs = [x] ∧ Dp K H x p ∧ p.canLay0 = true ∧ p.depth ≤ 60 ∧ p.showable = true ∧ p.shown.length ≤ sizeLine ∧ Q (.str p.shown) H
section
variable {X : Cx} {T : List (Addr × Str)} {W : WX} {x : Str} {p pos : Pos} {e : Expr} {es : List Expr} {fe : SE}
theorem cr_repr (gd : X.A.guards = some []) (hu : X.A.units + 65 < cLine) : CallR X (.builtin "repr") (rRepr X.K) := by
  intro pins s σ H xs us Q I r h
  obtain ⟨x, p, rfl, dp, cl, dd, sh, sz, q⟩ := h
  obtain ⟨u, rfl, ru⟩ := Vals.one r
  obtain ⟨as, rd⟩ := Dp.reads I p x u dp ru
  have hd := PyData.hasDict_of_canLay p cl
  have fin : ∀ h' t tk, (∀ b o, s.heap.get? b = some o → h'.get? b = some o) → EP X pins σ Q (.str p.shown t) { s with heap := h', toks := tk } := fun h' t tk hk => ⟨.str p.shown, H, I.kept hk, ⟨t, rfl⟩, q⟩
  have stay : ∀ b o, s.heap.get? b = some o → s.heap.get? b = some o := fun _ _ e => e
  cases rd with
  | none => exact PySem.P.repr_of_none (fin s.heap _ _ stay)
  | bool b => exact PySem.P.repr_of_bool (fin s.heap _ _ stay)
  | int i t => exact PySem.P.repr_of_int (of_decide_eq_true sh) (fin s.heap _ _ stay)
  | str y t => exact PySem.P.repr_of_str (fin s.heap _ _ stay) sz
  | list h1 h2 h3 h4 => exact PySem.repr_of_reads' (Reads.list h1 h2 h3 h4) sh (PyData.noDict_hsm hd) gd (by omega) stay (fun h' t tk hk => fin h' t tk hk) sz
  | tuple h1 h2 h3 h4 => exact PySem.repr_of_reads' (Reads.tuple h1 h2 h3 h4) sh (PyData.noDict_hsm hd) gd (by omega) stay (fun h' t tk hk => fin h' t tk hk) sz
  | dict => cases hd
theorem does_repr : DoesB X T (rRepr X.K) bRepr := by
  intro W σ g st H ds vs Q S r h
  unfold bRepr at h
  split at h
  · rename_i x
    split at h
    · rename_i p e
      split at h
      · rename_i hc
        cases r with
        | cons r1 r2 =>
          cases r2
          obtain ⟨q1, q2, q3⟩ := toPy_dp S 60 r1 e
          exact ⟨_, p, rfl, q1, q2, q3, hc.1, hc.2, EPost.val S (fun _ => .str _) h⟩
      · exact h.elim
    · exact h.elim
  · exact h.elim
end
/-! ### x == y of texts -/
def fEqS (x y : D) (st : Sto) : Out D := match x, y with
  | .str a, .str b => .ok (.bl (decide (a = b))) st
  | _, _ => .bad
def fNeS (x y : D) (st : Sto) : Out D := match x, y with
  | .str a, .str b => .ok (.bl (!decide (a = b))) st
  | _, _ => .bad
theorem does_eqS {X : Cx} {T : List (Addr × Str)} : Does2 X T rEq fEqS := by
  intro W σ g st H dx dy x y Q S rx ry h
  unfold fEqS at h
  split at h
  · cases rx; cases ry
    refine ⟨rfl, ?_⟩
    rename_i a b
    have e : decide (V.str a = V.str b) = decide (a = b) := decide_eq_decide.mpr ⟨fun q => by injection q, fun q => by rw [q]⟩
    rw [e]
    exact EPost.val S (fun _ => .bl _) h
  · exact h.elim
theorem does_neS {X : Cx} {T : List (Addr × Str)} : Does2 X T rNe fNeS := by
  intro W σ g st H dx dy x y Q S rx ry h
  unfold fNeS at h
  split at h
  · cases rx; cases ry
    refine ⟨rfl, ?_⟩
    rename_i a b
    have e : decide (V.str a = V.str b) = decide (a = b) := decide_eq_decide.mpr ⟨fun q => by injection q, fun q => by rw [q]⟩
    rw [e]
    exact EPost.val S (fun _ => .bl _) h
  · exact h.elim
end PD
/-! PDEndG: the end of a law whose def keeps its promise where no repr is under way. -/
namespace PD
open PySem PySem.Spec PyProof.Rows L2 LamX
/-- the tables, and what is known of the script -/
def trkH (T : List Addr) (a : Addr) (o : Option HO) : Hp := fun b => if b = a then o else if b ∈ T then some (.tbl #[]) else none
theorem trkH_a {T : List Addr} {a : Addr} {o : Option HO} : trkH T a o a = o := if_pos rfl
theorem trkH_t {T : List Addr} {a b : Addr} {o : Option HO} (h : b ≠ a) (hb : b ∈ T) : trkH T a o b = some (.tbl #[]) := (if_neg h).trans (if_pos hb)
theorem trkH_n {T : List Addr} {a b : Addr} {o : Option HO} (h : b ≠ a) (hb : b ∉ T) : trkH T a o b = none := (if_neg h).trans (if_neg hb)
section
variable {P : Program} {w : World} {K : PySem.W.Frag} {mg mb : Str → Option Value} {CX : CXT} {k : Nat} {fa a : Addr} {cs : List (Addr × Addr)} {fd : FuncData} {x : Str} {sp : Sp} {s1 : Shared} {us : List Value} {ns : List Int}
theorem law_callG (kin : K.In s1.heap) (gns : s1.heap.Ns mainGlobals mg) (bns : s1.heap.Ns builtinsNs mb) (bbs : ∀ x : Str, x ≠ "__name__" → mb x = bootBuiltins x) (nol : s1.heap.NoLimit) (gen0 : s1.gens = #[])
    (tabs : ∀ p ∈ cs, s1.heap.get? p.2 = some { cls := .none, data := .fields #[] }) (notK : ∀ p ∈ cs, K.lookup p.2 = none) (codes : ∀ p ∈ cs, PySem.W.CodeHd s1.heap p.1 p.2)
    (bmod : ∃ (bm : Addr) (ob : Obj), mg "__builtins__" = some (.ref bm) ∧ bm ≠ builtinsNs ∧ s1.heap.get? bm = some ob ∧ ob.cls = .type "module" ∧ ob.dict = some builtinsNs ∧ ob.data = .plain)
    (scr : s1.heap.get? a = some { cls := .type "list", data := .seq us.toArray }) (hints : IntsAre us ns) (short : ns.length ≤ sizeLine) (room : Room k callerA)
    (fn : ∀ base : Heap, K.In base → base.Ns mainGlobals mg → (∀ p ∈ cs, TabB base mg p.1 p.2) → FnG P w K mg base CX k fa fd [x] sp) (bnd : ∀ (s : Shared) (u : Value), BindsTo s fd ⟨[u], []⟩ [(x, u)])
    (asks : ∀ H : Hp, (∀ p ∈ cs, H p.2 = some (.tbl #[])) → SqL K H a (ns.map V.int) → sp [.ref a] H (fun v _ => v = .bl true) fun _ _ _ => False) (noX : ∀ H e s', CX [] H s1 (fun _ _ _ => False) e s' → False) :
    codeAny (model P w) callerA (.call (.ref fa) ⟨[.ref a], []⟩) (fun r s' => r = .ok (.ret (.bool true)) ∧ OldK s1.heap s'.heap ∧ s'.os = s1.os ∧ AllBare s'.gens) s1 := by
  have vals := vals_ints hints
  have lenU := hints.length
  -- the tables' places
  obtain ⟨T, hT⟩ : ∃ T, T = cs.map (·.2) := ⟨_, rfl⟩
  have inT : ∀ p ∈ cs, p.2 ∈ T := fun p hp => by rw [hT]; exact List.mem_map.mpr ⟨p, hp, rfl⟩
  have ofT : ∀ b ∈ T, ∃ p ∈ cs, p.2 = b := fun b hb => by rw [hT] at hb; exact List.mem_map.mp hb
  have getT : ∀ b ∈ T, s1.heap.get? b = some { cls := .none, data := .fields #[] } := fun b hb => by
    obtain ⟨p, hp, rfl⟩ := ofT b hb
    exact tabs p hp
  have nT : ∀ b ∈ T, b ≠ a := fun b hb e => by
    have q := getT b hb
    rw [e, scr] at q
    have q2 := congrArg (fun o : Option Obj => o.map Obj.data) q
    cases q2
  -- what is known of the script
  obtain ⟨o, ho, hS, hK⟩ : ∃ o : Option HO, (o = none ∨ o = some (.frz { cls := .type "list", data := .seq us.toArray } (.lst (ns.map V.int)))) ∧ SqL K (trkH T a o) a (ns.map V.int) ∧ (o ≠ none → K.lookup a = none) := by
    cases hk : K.lookup a with
    | none => exact ⟨_, .inr rfl, .inl (.inr ⟨_, trkH_a⟩), fun _ => rfl⟩
    | some ob =>
      have e := kin a ob hk
      rw [scr] at e
      cases e
      exact ⟨none, .inl rfl, .inr ⟨_, us.toArray, _, hk, rfl, rfl, rfl, by rw [List.size_toArray, lenU]; exact short, by simpa using vals⟩, fun h => absurd rfl h⟩
  have hH : ∀ p ∈ cs, trkH T a o p.2 = some (.tbl #[]) := fun p hp => trkH_t (nT _ (inT p hp)) (inT p hp)
  have ok : HOk P w (trkH T a o) s1.heap := fun b u z => by
    by_cases e : b = a
    · subst e
      rw [trkH_a] at z
      rcases ho with rfl | rfl
      · cases z
      · cases z
        exact ⟨scr, by rw [List.length_map]; exact short, us, _, vals, scr⟩
    · by_cases hb : b ∈ T
      · rw [trkH_t e hb] at z
        cases z
        exact getT b hb
      · rw [trkH_n e hb] at z
        cases z
  have kinds : ∀ b, trkH T a o b = none ∨ b ∈ T ∨ ∃ ob xs, trkH T a o b = some (.frz ob (.lst xs)) := fun b => by
    by_cases e : b = a
    · subst e
      rcases ho with rfl | rfl
      · exact .inl trkH_a
      · exact .inr (.inr ⟨_, _, trkH_a⟩)
    · by_cases hb : b ∈ T
      · exact .inr (.inl hb)
      · exact .inl (trkH_n e hb)
  -- what is not a list and not a table is not tracked
  have free : ∀ {b : Addr} {ob : Obj}, s1.heap.get? b = some ob → (∀ vs n, ob.data ≠ .seq vs n) → ob.data ≠ .fields #[] → trkH T a o b = none := fun {b ob} e h1 h2 => by
    by_cases eb : b = a
    · subst eb
      rw [scr] at e
      cases e
      exact absurd rfl (h1 _ _)
    · refine trkH_n eb fun hb => ?_
      rw [getT b hb] at e
      cases e
      exact h2 rfl
  have toB : ∀ {b : Addr} {ob : Obj}, s1.heap.get? b = some ob → trkH T a o b = none → (hidT s1.heap (trkH T a o)).get? b = some ob := fun e n => hidT_get e n
  have dicts : ∀ {b : Addr} {m : Str → Option Value}, s1.heap.Ns b m → (hidT s1.heap (trkH T a o)).Ns b m := fun {b m} ⟨ob, es, ep, e, d, r⟩ =>
    ⟨ob, es, ep, toB e (free e (fun vs n z => by rw [d] at z; cases z) fun z => by rw [d] at z; cases z), d, r⟩
  have kinB : K.In (hidT s1.heap (trkH T a o)) := fun b ob e => toB (kin b ob e) (by
    by_cases eb : b = a
    · subst eb
      rcases ho with rfl | rfl
      · exact trkH_a
      · rw [hK (by simp)] at e
        cases e
    · refine trkH_n eb fun hb => ?_
      obtain ⟨p, hp, rfl⟩ := ofT b hb
      rw [notK p hp] at e
      cases e)
  have modB : L2.Mod K mg (hidT s1.heap (trkH T a o)) := ⟨kinB, dicts gns, ⟨mb, dicts bns, bbs⟩, let ⟨mc, h1, h2⟩ := nol; ⟨mc, dicts h1, h2⟩⟩
  have tabB : ∀ p ∈ cs, TabB (hidT s1.heap (trkH T a o)) mg p.1 p.2 := fun p hp => by
    refine ⟨?_, ?_, fun z => ?_⟩
    · obtain ⟨ob, vs, fl, tf, fg, tg, iF, tx, tt, e1, r1, r2, r3, r⟩ := codes p hp
      refine ⟨ob, vs, fl, tf, fg, tg, iF, tx, tt, toB e1 (free e1 (fun vs n z => ?_) fun z => ?_), r1, r2, r3, r⟩ <;> (rw [r2] at z; cases z)
      simp at r3
    · obtain ⟨bm, ob, b1, b2, b3, b4, b5, b6⟩ := bmod
      refine ⟨bm, ob, b1, b2, fun e => ?_, fun e => ?_, toB b3 (free b3 (fun vs n z => ?_) fun z => ?_), b4, b5, b6⟩
      · obtain ⟨ob2, es, ep, e2, d, _⟩ := gns
        rw [e, e2] at b3
        cases b3
        rw [d] at b6
        cases b6
      · rw [e, tabs p hp] at b3
        cases b3
        cases b6
      · rw [b6] at z; cases z
      · rw [b6] at z; cases z
    · obtain ⟨ob, es, ep, e, d, _⟩ := gns
      rw [z, tabs p hp] at e
      cases e
      cases d
  have env : Env0 P w K mg (hidT s1.heap (trkH T a o)) callerA [] s1 (trkH T a o) := ⟨rfl, modB, fun b ob e => of_hidT e, Nat.le_of_eq (hidT_size _ _), trivial, fun b hb => absurd (show b ∈ ([] : List Addr) from hb) (by simp), ok, .of_eq gen0⟩
  refine codeAny_mono ((fn _ kinB (dicts gns) tabB).run callerA [] s1 _ ⟨[.ref a], []⟩ [.ref a] [.ref a] _ _ room rfl env (bnd s1 (.ref a)) (.cons rfl .nil) (asks _ hH hS)) fun res s' hr => ?_
  rcases res with e | fl
  · exact (noX _ e s' hr).elim
  cases fl with
  | next => exact hr.elim
  | brk => exact hr.elim
  | cont => exact hr.elim
  | ret u =>
    obtain ⟨v, H2, os, bare, un, ok2, ru, rfl⟩ := hr
    obtain rfl : u = Value.bool true := ru
    have stays : ∀ b ob, b ∉ T → s1.heap.get? b = some ob → s'.heap.get? b = some ob := fun b ob nb e => by
      rcases kinds b with z | z | ⟨o2, xs, z⟩
      · exact un.keep b ob e z (by intro q; exact absurd (show b ∈ ([] : List Addr) from q) (by simp)) (by simp)
      · exact absurd z nb
      · obtain ⟨e1, _⟩ := ok b _ z
        obtain ⟨e2, _⟩ := ok2 b _ (un.frzs b o2 _ z)
        rw [e] at e1
        cases e1
        exact e2
    have grow : ∀ p ∈ cs, ∃ more : Array Value, s'.heap.get? p.2 = some { cls := .none, data := .fields more } := fun p hp => by
      obtain ⟨more, z⟩ := un.tbls p.2 #[] (hH p hp)
      exact ⟨_, ok2 p.2 _ z⟩
    refine ⟨rfl, ⟨fun b ob e => ?_, fun b ob e => ?_⟩, os, bare⟩
    · by_cases hb : b ∈ T
      · obtain ⟨p, hp, rfl⟩ := ofT b hb
        obtain ⟨more, hm⟩ := grow p hp
        rw [tabs p hp] at e
        cases e
        exact .inr (.inl ⟨((codes p hp).tab (tabs p hp)).isCodeTable, rfl, #[], more, rfl, by rw [Array.empty_append]; exact hm⟩)
      · exact .inl (stays b ob hb e)
    · by_cases hb : b ∈ T
      · obtain ⟨p, hp, rfl⟩ := ofT b hb
        obtain ⟨more, hm⟩ := grow p hp
        exact ⟨_, hm⟩
      · exact ⟨ob, stays b ob hb e⟩
/-- what is known of the law's promise at the head's heap -/
def LawAtG (l : PySem.W.OpenLaw) (w : World) (K : PySem.W.Frag) (CX : CXT) (k n : Nat) (x : Str) (mg : Str → Option Value) (fa : Addr) (h : Heap) : Prop :=
  ∃ (fd : FuncData) (cs : List (Addr × Addr)) (sp : Sp), (∀ p ∈ cs, h.get? p.2 = some { cls := .none, data := .fields #[] }) ∧ (∀ p ∈ cs, K.lookup p.2 = none) ∧ (∀ p ∈ cs, PySem.W.CodeHd h p.1 p.2) ∧ (∀ (s : Shared) (u : Value), BindsTo s fd ⟨[u], []⟩ [(x, u)]) ∧
    (∀ (H : Hp) (a : Addr) (ns : List Int), ns.length ≤ n → (∀ p ∈ cs, H p.2 = some (.tbl #[])) → SqL K H a (ns.map V.int) → sp [.ref a] H (fun v _ => v = .bl true) fun _ _ _ => False) ∧
    ∀ base : Heap, K.In base → base.Ns mainGlobals mg → (∀ p ∈ cs, TabB base mg p.1 p.2) → FnG l.prog w K mg base CX k fa fd [x] sp
end
theorem walk_ofAllG {l : PySem.W.OpenLaw} {n k : Nat} {q : Program} {loose : List Str} {XP : (Str → Option Value) → Heap → Prop} {YP : World → Heap → Prop} {d : DefRec} {K : Params → PySem.W.Frag} {CX : World → CXT} {x : Str}
    (hn : l.most = some n) (hn2 : n ≤ sizeLine) (hdf : d.params.defaults = []) (hr : Room k callerA) (hY : ∀ (w : World) (h : Heap), YP w h → (K w.params).In h)
    (F : ∀ (w : World) (mg : Str → Option Value) (fa : Addr) (h : Heap), YP w h → (K w.params).In h → h.Ns mainGlobals mg → mg d.name = some (.ref fa) →
      (∀ (y : Str) (fy : Addr), ((recsOf q).any fun e => e.name == y) = true → mg y = some (.ref fy) → OwnTab (K w.params) fy h) → LawAtG l w (K w.params) (CX w) k n x mg fa h)
    (hCX : ∀ (w : World) (H : Hp) (s : Shared) (e : Value) (s' : Shared), CX w [] H s (fun _ _ _ => False) e s' → False) :
    PySem.W.WalkO q loose XP YP l.row.toRowW d [] (fun f vs => PySem.call f vs) := by
  refine Att.attach_callB hn hdf fun w s0 s1 mg mb fa o pm cd doc a vs ns G Y ho hd hcd hmg hobj hints hlen hbits hg => ?_
  have KX := hY w _ Y
  have own : ∀ (y : Str) (fy : Addr), ((recsOf q).any fun e => e.name == y) = true → mg y = some (.ref fy) → OwnTab (K w.params) fy s1.heap := by
    intro y fy hy hm c P ob fd1 e dd vs1 sl k1 k2 k3 k4 k5
    obtain ⟨dL, hmem, hname⟩ := List.any_eq_true.mp hy
    obtain ⟨a', o', fd', c', P', h1, h2, h3, h4, h5, ⟨oc, vc, e1, _, e3, e4⟩, hP⟩ := G.T.tab dL hmem
    have ey : dL.name = y := beq_iff_eq.mp hname
    subst ey
    cases hm.symm.trans h1
    cases (KX _ _ k1).symm.trans h2
    cases k2.symm.trans h3
    cases k3.symm.trans h4
    cases (KX _ _ k4).symm.trans e1
    cases e3
    cases k5.symm.trans e4
    exact hP
  obtain ⟨fd, cs, sp, hT, nT, C, hb, hsp, hF⟩ := F w mg fa _ Y KX G.T.g hmg own
  exact law_callG KX G.T.g G.T.b G.T.builtins G.T.nolimit hg hT nT C G.T.bmain hobj hints (Nat.le_trans hlen hn2) hr hF hb (fun H hH hS => hsp H a ns hlen hH hS) fun H e s' => hCX w H s1 e s'
end PD
/-! PDPop: tuple(range(n)), xs.pop(i), max of three, str of an int. -/
namespace PD
open PySem PySem.Spec PyProof.Rows L2
section
variable {X : Cx} {T : List (Addr × Str)} {W : WX} {a e o : Expr} {fa fe fo : SE} {p p1 p2 pos apos cpos : Pos}
/-- tuple(range(n)) -/
def sTupR1 (a : SE) : SE := fun ρ st => (a ρ st).bind fun x st => match x with
  | .int j => if 0 ≤ j ∧ j ≤ sizeLine then .ok (.tup (rangeL 0 j.toNat)) st else .bad
  | _ => .bad
@[simp] theorem sTupR1_e (a : SE) (ρ : Ev) (st : Sto) : sTupR1 a ρ st = (a ρ st).bind fun x st => match x with
  | .int j => if 0 ≤ j ∧ j ≤ sizeLine then .ok (.tup (rangeL 0 j.toNat)) st else .bad
  | _ => .bad := id rfl
def tTupRN (te : L2.St → Hp → (Int → Int → Hp → Prop) → Prop) : TE := fun σ H Q => te σ H fun a b H1 => RgOk a b ∧ NewT Q H1 (rgV a b)
theorem pe_tupRN {te : L2.St → Hp → (Int → Int → Hp → Prop) → Prop} (hc : X.calm = true) (hg : Gl X "tuple") (hm : X.mg "tuple" = none) (he : PRg X e te) (na : starEach [e] X.env = (false, eval e X.env) :: starEach [] X.env := by rfl) : PE X (.Call (.Name "tuple" p) [e] [] pos) (tTupRN te) := by
  refine ⟨fun pins s σ H Q I h => ?_⟩
  refine Call_ (ld_blt I hg hm boot_tuple (PyProof.Rows.callWith_type1 (args_cons (thn (he pins s σ H _ I h) fun x s1 hx => ?_) na) na))
  obtain ⟨r, a, b, t, u, v, H1, rfl, hr, I1, ⟨b1, b2, b3, b4, b5⟩, q⟩ := hx
  refine args_nil (call_tuple_range (n := (b - a).toNat) (I1.ok.hd hc) hr (small_one b1 b2 b3 b4) (rangeSize_nat a b) b5 fun h' tk acc hk hi => ?_)
  have I2 : Inv X pins σ H1 { s1 with heap := h', toks := tk } := I1.kept hk
  have := newT_ep (its := acc.toList) I2 (vals_rg hi) (by rw [rgV_length, sizeLine_eq]; omega) q
  rw [Array.toArray_toList] at this
  exact this
theorem pd_tupR1 (hc : X.calm = true) (hg : Gl X "tuple") (hm : X.mg "tuple" = none) (hg2 : Gl X "range") (hm2 : X.mg "range" = none) (ha : PE X a (tD (zX X T) W fa)) (na : starEach [a] X.env = (false, eval a X.env) :: starEach [] X.env := by rfl)
    (nb : starEach [.Call (.Name "range" p2) [a] [] p1] X.env = (false, eval (.Call (.Name "range" p2) [a] [] p1) X.env) :: starEach [] X.env := by rfl) :
    PE X (.Call (.Name "tuple" p) [.Call (.Name "range" p2) [a] [] p1] [] pos) (tD (zX X T) W (sTupR1 fa)) :=
  PE.wk (pe_tupRN hc hg hm (prg_1 hg2 hm2 ha na) nb) fun σ H Q ⟨g, ρ, st, S, E, q⟩ => by
    refine ⟨g, ρ, st, S, E, Sat.mono (sat_bind q) (fun d st1 q1 g1 H1 v L1 S1 r1 => ?_) fun _ _ _ q => q⟩
    split at q1
    · rename_i j
      split at q1
      · rename_i hj
        cases r1
        refine ⟨j, rfl, ?_, fun p o hp ho => ?_⟩
        · have := sizeLine_eq
          exact RgOk.of_le (by omega) (by omega) (by omega) (by omega)
        · have e : rgV 0 j = (List.range j.toNat).map fun (i : Nat) => V.int (0 + (i : Int)) := by
            unfold rgV
            rw [Int.sub_zero]
          obtain ⟨S', L'⟩ := S1.allocB (o := .frz o (.tup (rgV 0 j))) hp (fun _ => by simp)
          have rr := rgV_reps X.K g1 j.toNat
          rw [← e] at rr
          exact q1 _ _ _ (L1.trans L') S' (.tup (SqN.of ho) (by rw [rgV_length]; omega) (rr.mono L'.ge))
      · exact q1.elim
    · exact q1.elim
/-! xs.pop(i) -/
def fPopAt (x y : D) (st : Sto) : Out D := match x, y with
  | .ref l, .int i => (match st[l]? with
    | some (.lst xs) => if 0 ≤ i ∧ i < 1000000 then (match xs[i.toNat]? with | some d => .ok d (st.set l (.lst (xs.eraseIdx i.toNat))) | none => .bad) else .bad
    | _ => .bad)
  | _, _ => .bad
theorem reps_erase {K : PySem.W.Frag} {g : G} : ∀ {ds : List D} {vs : List V} (i : Nat), Reps K g ds vs → Reps K g (ds.eraseIdx i) (vs.eraseIdx i)
  | _, _, _, .nil => .nil
  | _, _, 0, .cons _ t => t
  | _, _, i + 1, .cons a t => .cons a (reps_erase i t)
theorem does_popAt : DoesM X T rPopAt fPopAt := by
  intro W σ g st H dx dy x y Q S rx ry h
  unfold fPopAt at h
  split at h
  · rename_i l i
    split at h
    · rename_i xs hs
      split at h
      · rename_i hz
        split at h
        · rename_i d hd
          obtain ⟨a, ws, rfl, hl, h2, h3, h4⟩ := ref_of S rx hs
          cases ry
          obtain ⟨v, hv, rv⟩ := h4.get hd
          have hlt : i.toNat < xs.length := (List.getElem?_eq_some_iff.mp hd).1
          have e1 := h4.length
          refine ⟨a, ws, i, i.toNat, v, rfl, rfl, h2, by omega, by omega, ?_, hv, ?_⟩
          · have n0 : ¬ i < 0 := by omega
            have n1 : (decide (0 ≤ i) && decide (i < (ws.length : Int))) = true := by
              rw [Bool.and_eq_true, decide_eq_true_eq, decide_eq_true_eq]
              omega
            unfold seqIndex?
            simp only [n0, if_false, n1, if_true]
          · obtain ⟨S4, L4⟩ := S.write (vs' := ws.eraseIdx i.toNat) hl hs (by have := List.length_eraseIdx_le ws i.toNat; omega) (reps_erase _ h4)
            exact h g _ v L4 S4 rv
        · exact h.elim
      · exact h.elim
    · exact h.elim
  · exact h.elim
theorem pd_popAt (ho : PE X o (tD (zX X T) W fo)) (he : PE X e (tD (zX X T) W fe)) (hst : starEach [e] X.env = (false, eval e X.env) :: starEach [] X.env := by rfl)
    (hbase : attributeBase o "pop" X.env (eval o X.env) = eval o X.env := by rfl)
    (hfew : ((backTo cpos (starEach [e] X.env)).all (fun x => !x.1) && (backToKw cpos (keywordEach [] X.env)).all (fun x => x.1.isSome)
      && decide ([e].length + ([] : List Keyword).length + (if ([] : List Keyword).isEmpty then 0 else 1) < 30)) = true := by rfl)
    (hline : (apos.endLine == cpos.line) = true := by rfl) (hplain : (backTo cpos (starEach [] X.env)).any (·.1) = false := by rfl) :
    PE X (.Call (.Attribute o "pop" apos) [e] [] cpos) (tD (zX X T) W (sM fPopAt fo fe)) :=
  PE.wk (pe_bm PySem.F.plainAttrs_list PySem.F.slot_list_pop PySem.F.type_list_pop mt_popAt ho (pa_consD he pa_nilD hst) hbase hfew hline hst hplain) (wkM does_popAt)
/-! max of three -/
def bMax3 (xs : List D) (st : Sto) : Out D := match xs with
  | [.int i, .int j, .int k] => .ok (.int (if (if i < j then j else i) < k then k else (if i < j then j else i))) st
  | _ => .bad
theorem does_max3 : DoesB X T (rNuC3 nuMax3) bMax3 := by
  intro W σ g st H ds vs Q S r h
  unfold bMax3 at h
  split at h
  · rename_i i j k
    cases r with
    | cons r1 r => cases r with
      | cons r2 r => cases r with
        | cons r3 r =>
          cases r; cases r1; cases r2; cases r3
          refine ⟨.int i, .int j, .int k, _, rfl, ?_, EPost.val S (fun _ => .int _) h⟩
          unfold nuMax3 nuMax2
          have nl : ∀ a b : Int, nuLt (V.int a) (V.int b) = some (decide (a < b)) := fun _ _ => rfl
          simp only [nl, Option.map_some, Option.bind_some]
          by_cases c1 : i < j <;> by_cases c2 : j < k <;> by_cases c3 : i < k <;> simp [c1, c2, c3, nl]
  · exact h.elim
/-! str of an int -/
def bStr (xs : List D) (st : Sto) : Out D := match xs with
  | [.int i] => if i.natAbs < 1000000 then .ok (.str (toString i)) st else .bad
  | _ => .bad
theorem does_str : DoesB X T (fun xs H Q => ∃ i : Int, xs = [V.int i] ∧ i.natAbs.log2 < 1920 ∧ Q (.str (toString i)) H) bStr := by
  intro W σ g st H ds vs Q S r h
  unfold bStr at h
  split at h
  · rename_i i
    split at h
    · rename_i hi
      cases r with
      | cons r1 r =>
        cases r; cases r1
        refine ⟨i, rfl, ?_, EPost.val S (fun _ => .str _) h⟩
        have : i.natAbs.log2 < 20 := by
          by_cases z : i.natAbs = 0
          · rw [z]; decide
          · exact (Nat.log2_lt z).mpr (by omega)
        omega
    · exact h.elim
  · exact h.elim
/-! i, j, k = x, y, z -/
def qPar3 (i j l : Nat) (a : SA) : SS := fun ρ st => (a ρ st).st ρ fun ds st => match ds with
  | [x, y, z] => some (.nx (((ρ.set i (some x)).set j (some y)).set l (some z)), st)
  | _ => none
@[simp] theorem qPar3_e (i j l : Nat) (a : SA) (ρ : Ev) (st : Sto) : qPar3 i j l a ρ st = (a ρ st).st ρ fun ds st => match ds with
  | [x, y, z] => some (.nx (((ρ.set i (some x)).set j (some y)).set l (some z)), st)
  | _ => none := id rfl
theorem ps_par3D {b c : Expr} {fs : SA} {i j l : Nat} {x y z : Str} {px py pz pt : Pos} {kt k2 : Nat} {pt2 : Pos} (hc : X.calm = true) (hN : X.N.Nodup) (hi : X.N[i]? = some x) (hj : X.N[j]? = some y) (hl : X.N[l]? = some z) (hij : i ≠ j) (hil : i ≠ l) (hjl : j ≠ l)
    (hx : X.env.scope.names.lookup x = some .local) (hy : X.env.scope.names.lookup y = some .local) (hz : X.env.scope.names.lookup z = some .local) (ha : PA X [a, b, c] (tDA (zX X T) W fs))
    (hw : swappedStores [.Tuple [.Name x px, .Name y py, .Name z pz] kt pt] (.Tuple [a, b, c] k2 pt2) X.env = pure (some [x, y, z])) :
    PS X (.Assign [.Tuple [.Name x px, .Name y py, .Name z pz] kt pt] (.Tuple [a, b, c] k2 pt2) pos) (tDS (zX X T) W (qPar3 i j l fs)) :=
  PS.wk (ps_par3 hc hN hi hj hl hij hil hjl hx hy hz ha hw rfl) fun D σ H ⟨g, ρ, st, S, E, q⟩ => ⟨g, ρ, st, S, E, Sat.mono (st_sat E q) (fun ds st1 q1 g1 H1 vs L1 S1 r1 => by
    split at q1
    · cases r1 with
      | cons r1 r2 => cases r2 with
        | cons r2 r3 => cases r3 with
          | cons r3 r4 => cases r4; exact ⟨_, _, _, rfl, q1 g1 H1 L1 S1 _ ((((E.mono L1.ge).set i r1).set j r2).set l r3)⟩
    · exact q1.elim) fun _ _ _ q => q⟩
end
end PD
namespace Lw90
open PySem PD
def b_is_integer : SS := (qRet (sAnd (sIsI .int (sVar 0)) (sNotV (sIsI .bool (sVar 0)))))
def F_is_integer : List D → Sto → Out D := defFin 1 b_is_integer
def b_is_within : SS := (qRet (sAnd (sCall 1 F_is_integer (aCons (sVar 0) aNil)) (sChain fLe fLe (sVar 1) (sVar 0) (sVar 2))))
def F_is_within : List D → Sto → Out D := defFin 3 b_is_within
def b_is_sized : SS := (qRet (sAnd (sIsI .tuple (sVar 0)) (sChain fLe fLe (sVar 1) (sB bLen (aCons (sVar 0) aNil)) (sVar 2))))
def F_is_sized : List D → Sto → Out D := defFin 3 b_is_sized
def b_is_table : SS := (qSeq (qIf (tOrD (tNotD (tTru (sCall 3 F_is_sized (aCons (sVar 0) (aCons (sC (.int 1)) (aCons (sC (.int 7)) aNil)))))) (tNotD (tTru (sB bAll (aCons (sLC false (iSeq (sVar 0)) (gN 2) tYesD (sCall 3 F_is_sized (aCons (sVar 2) (aCons (sB bLen (aCons (sVar 0) aNil)) (aCons (sB bLen (aCons (sVar 0) aNil)) aNil)))) [2]) aNil))))) (qRet (sC (.bl false))) qNext)
    (qSeq (qFor (iEnum (aCons (sVar 0) aNil)) (gT2 (gN 1) (gN 2))
    (qSeq (qIf (tNotD (tTru (sB bAll (aCons (sLC false (iSeq (sVar 2)) (gN 3) tYesD (sCall 3 F_is_within (aCons (sVar 3) (aCons (sC (.int 0)) (aCons (sC (.int 1000)) aNil)))) [3]) aNil)))) (qRet (sC (.bl false))) qNext)
    (qIf (tTru (sB bAny (aCons (sLC false (iEnum (aCons (sVar 2) aNil)) (gT2 (gN 4) (gN 3)) tYesD (s2 fNe (s2 fEq (sVar 3) (sC (.int 0))) (s2 fEq (sVar 1) (sVar 4))) [4, 3]) aNil))) (qRet (sC (.bl false))) qNext)))
    (qRet (sB bAll (aCons (sLC false (iEnum (aCons (sVar 0) aNil)) (gT2 (gN 1) (gN 2)) tYesD (sB bAll (aCons (sLC false (iRange1 (aCons (sVar 1) aNil)) (gN 4) tYesD (s2 fEq (s2 fIx (sVar 2) (sVar 4)) (s2 fIx (s2 fIx (sVar 0) (sVar 4)) (sVar 1))) [4]) aNil)) [1, 2]) aNil)))))
def F_is_table : List D → Sto → Out D := defFin 5 b_is_table
def b_check_table : SS := (qIf (tNotD (tTru (sCall 1 F_is_table (aCons (sVar 0) aNil)))) (qRaise "NoTable") qNext)
def F_check_table : List D → Sto → Out D := defFin 1 b_check_table
def b_short_triple : SS := (qSeq (qSet 1 (sListR1 false (sB bLen (aCons (sVar 0) aNil))))
    (qSeq (qFor (iSeq (sVar 1)) (gN 2)
    (qFor (iSeq (sVar 1)) (gN 3)
    (qFor (iSeq (sVar 1)) (gN 4)
    (qIf (tAndD (tBl (s2 fNotIn (sVar 3) (sTup (aCons (sVar 2) (aCons (sVar 4) aNil))))) (tAndD (tBl (s2 fLt (sVar 2) (sVar 4))) (tBl (s2 fGt (s2 fIx (s2 fIx (sVar 0) (sVar 2)) (sVar 4)) (s2 fAdd (s2 fIx (s2 fIx (sVar 0) (sVar 2)) (sVar 3)) (s2 fIx (s2 fIx (sVar 0) (sVar 3)) (sVar 4))))))) (qRet (sTup (aCons (sVar 2) (aCons (sVar 3) (aCons (sVar 4) aNil))))) qNext))))
    (qRet (sC .non))))
def F_short_triple : List D → Sto → Out D := defFin 5 b_short_triple
def b_is_sound : SS := (qSeq (qExpr (sCall 1 F_check_table (aCons (sVar 0) aNil)))
    (qRet (s2 fIsN2 (sCall 1 F_short_triple (aCons (sVar 0) aNil)) (sC .non))))
def F_is_sound : List D → Sto → Out D := defFin 1 b_is_sound
def b_check_few : SS := (qSeq (qExpr (sCall 1 F_check_table (aCons (sVar 0) aNil)))
    (qIf (tBl (s2 fGt (sB bLen (aCons (sVar 0) aNil)) (sC (.int 5)))) (sMk "TooMany" "most" (sC (.int 5))) qNext))
def F_check_few : List D → Sto → Out D := defFin 1 b_check_few
def b_least_raise : SS := (qSeq (qExpr (sCall 1 F_check_few (aCons (sVar 0) aNil))) (qSeq qNever (qSeq qNever (qSeq qNever (qSeq qNever (qSeq qNever (qSeq qNever (qSeq qNever qNever))))))))
def F_least_raise : List D → Sto → Out D := defFin 16 b_least_raise
def b_least_pairs : SS := (qSeq (qExpr (sCall 1 F_check_few (aCons (sVar 0) aNil))) (qSeq qNever (qSeq qNever qNever)))
def F_least_pairs : List D → Sto → Out D := defFin 5 b_least_pairs
def b_needed_pairs : SS := (qSeq (qExpr (sCall 1 F_check_few (aCons (sVar 0) aNil))) (qSeq qNever qNever))
def F_needed_pairs : List D → Sto → Out D := defFin 4 b_needed_pairs
def b_all_triples : SS := (qSeq (qSet 1 (sLst true aNil))
    (qSeq (qFor (iRange1 (aCons (sVar 0) aNil)) (gN 2)
    (qFor (iRange1 (aCons (sVar 0) aNil)) (gN 3)
    (qExpr (sM fExtend (sVar 1) (sLC false (iRange2 (aCons (s2 fAdd (sVar 2) (sC (.int 1))) (aCons (sVar 0) aNil))) (gN 4) (tBl (s2 fNotIn (sVar 3) (sTup (aCons (sVar 2) (aCons (sVar 4) aNil))))) (sTup (aCons (sVar 2) (aCons (sVar 3) (aCons (sVar 4) aNil)))) [4])))))
    (qRet (sVar 1))))
def F_all_triples : List D → Sto → Out D := defFin 5 b_all_triples
def b_lack_at : SS := (qSeq (qAsg (gT3 (gN 2) (gN 3) (gN 4)) (sVar 1))
    (qRet (s2 fSub (s2 fSub (s2 fIx (s2 fIx (sVar 0) (sVar 2)) (sVar 4)) (s2 fIx (s2 fIx (sVar 0) (sVar 2)) (sVar 3))) (s2 fIx (s2 fIx (sVar 0) (sVar 3)) (sVar 4)))))
def F_lack_at : List D → Sto → Out D := defFin 5 b_lack_at
def b_raw_short : SS := (qRet (sLC false (iSeq (sCall 1 F_all_triples (aCons (sB bLen (aCons (sVar 0) aNil)) aNil))) (gN 1) (tBl (s2 fGt (sCall 2 F_lack_at (aCons (sVar 0) (aCons (sVar 1) aNil))) (sC (.int 0)))) (sVar 1) [1]))
def F_raw_short : List D → Sto → Out D := defFin 2 b_raw_short
def b_short_triples : SS := (qSeq (qExpr (sCall 1 F_check_table (aCons (sVar 0) aNil)))
    (qRet (sB bTuple (aCons (sB (bSorted false) (aCons (sCall 1 F_raw_short (aCons (sVar 0) aNil)) aNil)) aNil))))
def F_short_triples : List D → Sto → Out D := defFin 1 b_short_triples
def b_worst_triple : SS := (qSeq (qExpr (sCall 1 F_check_table (aCons (sVar 0) aNil)))
    (qSeq (qSet 1 (sLC false (iSeq (sCall 1 F_raw_short (aCons (sVar 0) aNil))) (gN 2) tYesD (sTup (aCons (s2 fSub (sC (.int 0)) (sCall 2 F_lack_at (aCons (sVar 0) (aCons (sVar 2) aNil)))) (aCons (sVar 2) aNil))) [2]))
    (qRet (sIf (tTru (sVar 1)) (sTup (aCons (s2 fSub (sC (.int 0)) (s2 fIx (sB bMinP (aCons (sVar 1) aNil)) (sC (.int 0)))) (aCons (s2 fIx (sB bMinP (aCons (sVar 1) aNil)) (sC (.int 1))) aNil))) (sTup (aCons (sC (.int 0)) (aCons (sC .non) aNil)))))))
def F_worst_triple : List D → Sto → Out D := defFin 3 b_worst_triple
def b_all_lots : SS := (qSeq (qSet 1 (sLst false (aCons (sTup aNil) aNil)))
    (qSeq (qFor (iSeq (sVar 0)) (gN 2)
    (qSet 1 (s2 fAdd (sVar 1) (sLC false (iSeq (sVar 1)) (gN 3) tYesD (s2 fAdd (sVar 3) (sTup (aCons (sVar 2) aNil))) [3]))))
    (qRet (sLC false (iSeq (sB (bSorted false) (aCons (sLC false (iSeq (sVar 1)) (gN 3) tYesD (sTup (aCons (sB bLen (aCons (sVar 3) aNil)) (aCons (sVar 3) aNil))) [3]) aNil))) (gT2 (gN 4) (gN 3)) tYesD (sVar 3) [4, 3]))))
def F_all_lots : List D → Sto → Out D := defFin 5 b_all_lots
def b_raw_part : SS := (qRet (sB bTuple (aCons (sLC false (iSeq (sVar 1)) (gN 2) tYesD (sB bTuple (aCons (sLC false (iSeq (sVar 1)) (gN 3) tYesD (s2 fIx (s2 fIx (sVar 0) (sVar 2)) (sVar 3)) [3]) aNil)) [2]) aNil)))
def F_raw_part : List D → Sto → Out D := defFin 4 b_raw_part
def b_raw_sound : SS := (qSeq (qSet 1 (sSlice false (sCall 1 F_all_lots (aCons (sListR1 false (sB bLen (aCons (sVar 0) aNil))) aNil)) (oInt (sC (.int 1))) oNone))
    (qRet (sLC false (iSeq (sVar 1)) (gN 2) (tBl (s2 fIsN2 (sCall 1 F_short_triple (aCons (sCall 2 F_raw_part (aCons (sVar 0) (aCons (sVar 2) aNil))) aNil)) (sC .non))) (sVar 2) [2])))
def F_raw_sound : List D → Sto → Out D := defFin 3 b_raw_sound
def b_sound_lots : SS := (qSeq (qExpr (sCall 1 F_check_table (aCons (sVar 0) aNil)))
    (qSeq (qSet 1 (sLst true aNil))
    (qSeq (qFor (iSeq (sRev false (sCall 1 F_raw_sound (aCons (sVar 0) aNil)))) (gN 2)
    (qIf (tNotD (tTru (sB bAny (aCons (sLC false (iSeq (sVar 1)) (gN 3) tYesD (sB bAll (aCons (sLC false (iSeq (sVar 2)) (gN 4) tYesD (s2 fIn (sVar 4) (sVar 3)) [4]) aNil)) [3]) aNil)))) (qExpr (sM fAppend (sVar 1) (sVar 2))) qNext))
    (qRet (sB bTuple (aCons (sB (bSorted false) (aCons (sVar 1) aNil)) aNil))))))
def F_sound_lots : List D → Sto → Out D := defFin 5 b_sound_lots
def b_fewest_out : SS := (qSeq (qExpr (sCall 1 F_check_table (aCons (sVar 0) aNil)))
    (qSeq (qSet 1 (sListR1 false (sB bLen (aCons (sVar 0) aNil))))
    (qSeq (qFor (iSeq (sCall 1 F_all_lots (aCons (sVar 1) aNil))) (gN 2)
    (qSeq (qSet 3 (sLC false (iSeq (sVar 1)) (gN 4) (tBl (s2 fNotIn (sVar 4) (sVar 2))) (sVar 4) [4]))
    (qIf (tAndD (tTru (sVar 3)) (tBl (s2 fIsN2 (sCall 1 F_short_triple (aCons (sCall 2 F_raw_part (aCons (sVar 0) (aCons (sVar 3) aNil))) aNil)) (sC .non)))) (qRet (sTup (aCons (sB bLen (aCons (sVar 2) aNil)) (aCons (sVar 2) aNil)))) qNext)))
    (qRet (sC .non)))))
def F_fewest_out : List D → Sto → Out D := defFin 5 b_fewest_out
def b_law_hand : SS := (qSeq (qSet 1 (sLC false (iSeq (sSlice false (sVar 0) oNone (oInt (sC (.int 63))))) (gN 2) tYesD (sB bAbs (aCons (sB bInt (aCons (sVar 2) aNil)) aNil)) [2]))
    (qRet (sLst true (aCons (sVar 1) (aCons (sC (.int 0)) (aCons (sC (.int 0)) (aCons (s2 fAdd (sC (.int 97)) (s2 fMul (sC (.int 5)) (sB bLen (aCons (sVar 1) aNil)))) (aCons (sC (.int 0)) aNil))))))))
def F_law_hand : List D → Sto → Out D := defRaw 3 b_law_hand
def b_law_draw : SS := (qSeq (qIf (tAndD (tBl (s2 fEq (s2 fIx (sVar 0) (sC (.int 2))) (sC (.int 0)))) (tBl (s2 fLt (s2 fIx (sVar 0) (sC (.int 1))) (sB bLen (aCons (s2 fIx (sVar 0) (sC (.int 0))) aNil))))) (qSeq (qSet 2 (s2 fIx (s2 fIx (sVar 0) (sC (.int 0))) (s2 fIx (sVar 0) (sC (.int 1)))))
    (qSeq (qSetIx (sVar 0) (sC (.int 1)) (s2 fAdd (s2 fIx (sVar 0) (sC (.int 1))) (sC (.int 1))))
    (qSeq (qSetIx (sVar 0) (sC (.int 3)) (s2 fMod (sB bInt (aCons (s2 fAdd (s2 fAdd (s2 fMul (s2 fIx (sVar 0) (sC (.int 3))) (sC (.int 48271))) (sVar 2)) (sC (.int 31))) aNil)) (sC (.int 2147483647))))
    (qIf (tBl (s2 fGe (sVar 2) (s2 fPow (sC (.int 10)) (sC (.int 18))))) (qSetIx (sVar 0) (sC (.int 2)) (sVar 2)) qNext)))) qNext)
    (qSeq (qIf (tBl (s2 fGt (s2 fIx (sVar 0) (sC (.int 2))) (sC (.int 0)))) (qSeq (qSet 3 (s2 fMod (sB bInt (aCons (s2 fIx (sVar 0) (sC (.int 2))) aNil)) (sVar 1)))
    (qSeq (qSetIx (sVar 0) (sC (.int 2)) (s2 fDiv (s2 fIx (sVar 0) (sC (.int 2))) (sVar 1)))
    (qRet (sVar 3)))) qNext)
    (qSeq (qSetIx (sVar 0) (sC (.int 4)) (s2 fAdd (s2 fIx (sVar 0) (sC (.int 4))) (sC (.int 1))))
    (qSeq (qSet 4 (s2 fMod (sB bInt (aCons (s2 fMul (sB bInt (aCons (s2 fAdd (s2 fIx (sVar 0) (sC (.int 3))) (s2 fMul (sC (.int 6151)) (s2 fIx (sVar 0) (sC (.int 4))))) aNil)) (sC (.int 40692))) aNil)) (sC (.int 2147483399))))
    (qSeq (qSet 4 (s2 fMod (sB bInt (aCons (s2 fMul (sVar 4) (s2 fAdd (s2 fDiv (sVar 4) (sC (.int 1223))) (sC (.int 52027)))) aNil)) (sC (.int 2147483629))))
    (qSeq (qSet 4 (s2 fMod (sB bInt (aCons (s2 fMul (sVar 4) (s2 fAdd (s2 fDiv (sVar 4) (sC (.int 2671))) (sC (.int 69621)))) aNil)) (sC (.int 2147483647))))
    (qRet (s2 fMod (sB bInt (aCons (s2 fDiv (sVar 4) (sC (.int 32))) aNil)) (sVar 1)))))))))
def F_law_draw : List D → Sto → Out D := defFin 5 b_law_draw
def b_law_some : SS := (qRet (s2 fIx (sVar 1) (sCall 2 F_law_draw (aCons (sVar 0) (aCons (sB bLen (aCons (sVar 1) aNil)) aNil)))))
def F_law_some : List D → Sto → Out D := defFin 2 b_law_some
def b_law_table : SS := (qSeq (qSet 3 (sLC false (iRange1 (aCons (sVar 1) aNil)) (gN 7) tYesD (s2 (fRep true) (sLst false (aCons (sC (.int 0)) aNil)) (sVar 1)) [7]))
    (qSeq (qFor (iRange1 (aCons (sVar 1) aNil)) (gN 4)
    (qFor (iRange2 (aCons (s2 fAdd (sVar 4) (sC (.int 1))) (aCons (sVar 1) aNil))) (gN 5)
    (qSeq (qSet 6 (s2 fAdd (sC (.int 1)) (sCall 2 F_law_draw (aCons (sVar 0) (aCons (sVar 2) aNil)))))
    (qAsgS (uT2 (uIx (s2 fIx (sVar 3) (sVar 4)) (sVar 5)) (uIx (s2 fIx (sVar 3) (sVar 5)) (sVar 4))) (sTup (aCons (sVar 6) (aCons (sVar 6) aNil)))))))
    (qRet (sB bTuple (aCons (sLC false (iSeq (sVar 3)) (gN 8) tYesD (sB bTuple (aCons (sVar 8) aNil)) [8]) aNil)))))
def F_law_table : List D → Sto → Out D := defFin 9 b_law_table
def b_law_closing : SS := (qSeq (qSet 1 (sLC false (iSeq (sVar 0)) (gN 6) tYesD (sB (bList true) (aCons (sVar 6) aNil)) [6]))
    (qSeq (qSet 2 (sB bLen (aCons (sVar 1) aNil)))
    (qSeq (qFor (iRange1 (aCons (sVar 2) aNil)) (gN 3)
    (qFor (iRange1 (aCons (sVar 2) aNil)) (gN 4)
    (qFor (iRange1 (aCons (sVar 2) aNil)) (gN 5)
    (qSetIx (s2 fIx (sVar 1) (sVar 4)) (sVar 5) (sB bMin2 (aCons (s2 fIx (s2 fIx (sVar 1) (sVar 4)) (sVar 5)) (aCons (s2 fAdd (s2 fIx (s2 fIx (sVar 1) (sVar 4)) (sVar 3)) (s2 fIx (s2 fIx (sVar 1) (sVar 3)) (sVar 5))) aNil)))))))
    (qRet (sB bTuple (aCons (sLC false (iSeq (sVar 1)) (gN 6) tYesD (sB bTuple (aCons (sVar 6) aNil)) [6]) aNil))))))
def F_law_closing : List D → Sto → Out D := defFin 7 b_law_closing
def b_law_lots : SS := (qSeq (qSet 1 (sLst false (aCons (sTup aNil) aNil)))
    (qSeq (qFor (iRange1 (aCons (sVar 0) aNil)) (gN 2)
    (qSet 1 (s2 fAdd (sVar 1) (sLC false (iSeq (sVar 1)) (gN 3) tYesD (s2 fAdd (sVar 3) (sTup (aCons (sVar 2) aNil))) [3]))))
    (qRet (sLC false (iSeq (sB (bSorted false) (aCons (sLC false (iSeq (sVar 1)) (gN 3) tYesD (sTup (aCons (sB bLen (aCons (sVar 3) aNil)) (aCons (sVar 3) aNil))) [3]) aNil))) (gT2 (gN 4) (gN 3)) tYesD (sVar 3) [4, 3]))))
def F_law_lots : List D → Sto → Out D := defFin 5 b_law_lots
def F_law_is_0 : List D → Sto → Out D := fNone
def bb_law_is (F : List D → Sto → Out D) : SS := (qSeq (qIf (tTru (sIsT .tuple .list (sVar 1))) (qSeq (qIf (tOrD (tBl (s2 fNe (sIsI .tuple (sVar 0)) (sIsI .tuple (sVar 1)))) (tNotD (tTru (sIsT .tuple .list (sVar 0))))) (qRet (sC (.bl false))) qNext)
    (qRet (sAnd (s2 fEq (sB bLen (aCons (sVar 0) aNil)) (sB bLen (aCons (sVar 1) aNil))) (sB bAll (aCons (sLC false (iZip (aCons (sVar 0) (aCons (sVar 1) aNil))) (gT2 (gN 2) (gN 3)) tYesD (sCall 2 F (aCons (sVar 2) (aCons (sVar 3) aNil))) [2, 3]) aNil))))) qNext)
    (qSeq (qIf (tTru (sIsI .dict (sVar 1))) (qSeq qNever qNever) qNext)
    (qSeq (qIf (tOrD (tTru (sIsI .str (sVar 1))) (tBl (s2 fIsN2 (sVar 1) (sC .non)))) (qRet (sAnd (s2 fEq (sIsI .str (sVar 0)) (sIsI .str (sVar 1))) (s2 fEq (sVar 0) (sVar 1)))) qNext)
    (qRet (sAnd (sIsI .int (sVar 0)) (sAnd (s2 fEq (sIsI .bool (sVar 0)) (sIsI .bool (sVar 1))) (s2 fEq (sVar 0) (sVar 1))))))))
def b_law_is_1 : SS := bb_law_is F_law_is_0
def F_law_is_1 : List D → Sto → Out D := defFin 5 b_law_is_1
def b_law_is_2 : SS := bb_law_is F_law_is_1
def F_law_is_2 : List D → Sto → Out D := defFin 5 b_law_is_2
def b_law_is_3 : SS := bb_law_is F_law_is_2
def F_law_is_3 : List D → Sto → Out D := defFin 5 b_law_is_3
abbrev F_law_is : List D → Sto → Out D := F_law_is_3
def ca_law_word (n : Str) : Option Bool := if n = "NoMend" then some true else if n = "NoTable" then some true else if n = "TooMany" then some true else none
def sub_law_word (n c : Str) : Bool := (n == "NoMend" && c == "NoMend") || (n == "NoTable" && c == "NoTable") || (n == "TooMany" && c == "TooMany")
def h_law_word (n : Str) (a : Addr) (dx : Option Addr) : SS := (qSeq (qSet 2 (sLst false (aCons (sIsE 1 a dx (sub_law_word n "NoMend")) (aCons (sIsE 1 a dx (sub_law_word n "NoTable")) (aCons (sIsE 1 a dx (sub_law_word n "TooMany")) aNil)))))
    (qRet (sIf (tBl (s2 fEq (sM fCountB (sVar 2) (sC (.bl true))) (sC (.int 1)))) (s2 fIx (sLst false (aCons (sC (.str "mend")) (aCons (sC (.str "table")) (aCons (sC (.str "many")) aNil)))) (sM fIndexD (sVar 2) (sC (.bl true)))) (sC (.str "odd")))))
def res_law_word (n : Str) (fs : List (Str × D)) : SS := fun ρ st => match fs with
  | [] => cleanS 1 (h_law_word n 0 none (ρ.set 1 (some (.raw (.ref 0)))) st)
  | fs => cleanS 1 (h_law_word n 0 (some 0) (ρ.set 1 (some (.xc 0 0 (fs.map (·.1)) (fs.map (·.2))))) st)
def b_law_word (O : Sto → Out D) : SS := (qSeq (qTryAs 1 3 ca_law_word (qExprW O) (res_law_word)) (qRet (sC (.str "let"))))
def F_law_word (O : Sto → Out D) (st : Sto) : Out D := endRaw (b_law_word O (noneEv 3) st)
def b_law_triples : SS := (qSeq (qPar 1 2 (aCons (sLst true aNil) (aCons (sB bLen (aCons (sVar 0) aNil)) aNil)))
    (qSeq (qFor (iRange1 (aCons (sVar 2) aNil)) (gN 3)
    (qFor (iRange1 (aCons (sVar 2) aNil)) (gN 4)
    (qFor (iRange2 (aCons (s2 fAdd (sVar 3) (sC (.int 1))) (aCons (sVar 2) aNil))) (gN 5)
    (qIf (tAndD (tBl (s2 fNotIn (sVar 4) (sTup (aCons (sVar 3) (aCons (sVar 5) aNil))))) (tBl (s2 fGt (s2 fIx (s2 fIx (sVar 0) (sVar 3)) (sVar 5)) (s2 fAdd (s2 fIx (s2 fIx (sVar 0) (sVar 3)) (sVar 4)) (s2 fIx (s2 fIx (sVar 0) (sVar 4)) (sVar 5)))))) (qExpr (sM fAppend (sVar 1) (sTup (aCons (sVar 3) (aCons (sVar 4) (aCons (sVar 5) aNil)))))) qNext))))
    (qRet (sVar 1))))
def F_law_triples : List D → Sto → Out D := defFin 6 b_law_triples
def b_is_mend : SS := (qSeq (qExpr (sCall 1 F_check_table (aCons (sVar 0) aNil))) qNever)
def F_is_mend : List D → Sto → Out D := defFin 2 b_is_mend
def b_common : SS := (qSeq (qWhile (fuelI 1) (tBl (s2 fNe (sVar 1) (sC (.int 0))))
    (qPar 0 1 (aCons (sVar 1) (aCons (s2 fMod (sVar 0) (sVar 1)) aNil))))
    (qRet (sB bAbs (aCons (sVar 0) aNil))))
def F_common : List D → Sto → Out D := defFin 2 b_common
def b_is_share : SS := (qSeq (qIf (tOrD (tNotD (tTru (sCall 3 F_is_sized (aCons (sVar 0) (aCons (sC (.int 2)) (aCons (sC (.int 2)) aNil)))))) (tNotD (tTru (sB bAll (aCons (sLC false (iSeq (sVar 0)) (gN 1) tYesD (sCall 1 F_is_integer (aCons (sVar 1) aNil)) [1]) aNil))))) (qRet (sC (.bl false))) qNext)
    (qRet (sAnd (s2 fGt (s2 fIx (sVar 0) (sC (.int 1))) (sC (.int 0))) (s2 fEq (sCall 2 F_common (aCons (s2 fIx (sVar 0) (sC (.int 0))) (aCons (s2 fIx (sVar 0) (sC (.int 1))) aNil))) (sC (.int 1))))))
def F_is_share : List D → Sto → Out D := defFin 2 b_is_share
def b_share : SS := (qSeq (qSet 2 (sCall 2 F_common (aCons (sVar 0) (aCons (sVar 1) aNil))))
    (qSeq (qSet 2 (sIf (tBl (s2 fGt (sVar 1) (sC (.int 0)))) (sVar 2) (s2 fSub (sC (.int 0)) (sVar 2))))
    (qRet (sTup (aCons (s2 fDiv (sVar 0) (sVar 2)) (aCons (s2 fDiv (sVar 1) (sVar 2)) aNil))))))
def F_share : List D → Sto → Out D := defFin 3 b_share
def b_plus : SS := (qRet (sCall 2 F_share (aCons (s2 fAdd (s2 fMul (s2 fIx (sVar 0) (sC (.int 0))) (s2 fIx (sVar 1) (sC (.int 1)))) (s2 fMul (s2 fIx (sVar 1) (sC (.int 0))) (s2 fIx (sVar 0) (sC (.int 1))))) (aCons (s2 fMul (s2 fIx (sVar 0) (sC (.int 1))) (s2 fIx (sVar 1) (sC (.int 1)))) aNil))))
def F_plus : List D → Sto → Out D := defFin 2 b_plus
def b_is_less : SS := (qRet (s2 fLt (s2 fMul (s2 fIx (sVar 0) (sC (.int 0))) (s2 fIx (sVar 1) (sC (.int 1)))) (s2 fMul (s2 fIx (sVar 1) (sC (.int 0))) (s2 fIx (sVar 0) (sC (.int 1))))))
def F_is_less : List D → Sto → Out D := defFin 2 b_is_less
def b_is_mend_of : SS := (qSeq (qIf (tOrD (tNotD (tTru (sCall 3 F_is_sized (aCons (sVar 1) (aCons (sVar 0) (aCons (sVar 0) aNil)))))) (tNotD (tTru (sB bAll (aCons (sLC false (iSeq (sVar 1)) (gN 3) tYesD (sCall 3 F_is_sized (aCons (sVar 3) (aCons (sVar 0) (aCons (sVar 0) aNil)))) [3]) aNil))))) (qRet (sC (.bl false))) qNext)
    (qSeq (qFor (iEnum (aCons (sVar 1) aNil)) (gT2 (gN 2) (gN 3))
    (qFor (iEnum (aCons (sVar 3) aNil)) (gT2 (gN 4) (gN 5))
    (qIf (tOrD (tNotD (tTru (sCall 1 F_is_share (aCons (sVar 5) aNil)))) (tOrD (tBl (s2 fNe (sVar 5) (s2 fIx (s2 fIx (sVar 1) (sVar 4)) (sVar 2)))) (tOrD (tBl (s2 fLt (s2 fIx (sVar 5) (sC (.int 0))) (sC (.int 0)))) (tAndD (tBl (s2 fEq (sVar 2) (sVar 4))) (tBl (s2 fNe (sVar 5) (sC (.tup ([0, 1].map D.int))))))))) (qRet (sC (.bl false))) qNext)))
    (qSeq (qFor (iRange1 (aCons (sVar 0) aNil)) (gN 2)
    (qFor (iRange2 (aCons (s2 fAdd (sVar 2) (sC (.int 1))) (aCons (sVar 0) aNil))) (gN 6)
    (qIf (tTru (sB bAny (aCons (sLC false (iRange1 (aCons (sVar 0) aNil)) (gN 4) tYesD (sCall 2 F_is_less (aCons (sCall 2 F_plus (aCons (s2 fIx (s2 fIx (sVar 1) (sVar 2)) (sVar 4)) (aCons (s2 fIx (s2 fIx (sVar 1) (sVar 4)) (sVar 6)) aNil))) (aCons (s2 fIx (s2 fIx (sVar 1) (sVar 2)) (sVar 6)) aNil))) [4]) aNil))) (qRet (sC (.bl false))) qNext)))
    (qRet (sC (.bl true))))))
def F_is_mend_of : List D → Sto → Out D := defFin 7 b_is_mend_of
def b_check_mend : SS := (qSeq (qExpr (sCall 1 F_check_table (aCons (sVar 0) aNil)))
    (qIf (tNotD (tTru (sCall 2 F_is_mend_of (aCons (sB bLen (aCons (sVar 0) aNil)) (aCons (sVar 1) aNil))))) (qRaise "NoMend") qNext))
def F_check_mend : List D → Sto → Out D := defFin 2 b_check_mend
def b_off_most : SS := (qSeq (qExpr (sCall 2 F_check_mend (aCons (sVar 0) (aCons (sVar 1) aNil)))) qNever)
def F_off_most : List D → Sto → Out D := defFin 2 b_off_most
def b_off_sum : SS := (qSeq (qExpr (sCall 2 F_check_mend (aCons (sVar 0) (aCons (sVar 1) aNil)))) qNever)
def F_off_sum : List D → Sto → Out D := defFin 2 b_off_sum
def b_off_pairs : SS := (qSeq (qExpr (sCall 2 F_check_mend (aCons (sVar 0) (aCons (sVar 1) aNil)))) qNever)
def F_off_pairs : List D → Sto → Out D := defFin 3 b_off_pairs
def b_nearest_mend : SS := (qSeq (qExpr (sCall 1 F_check_table (aCons (sVar 0) aNil))) (qSeq qNever qNever))
def F_nearest_mend : List D → Sto → Out D := defFin 3 b_nearest_mend
def b_is_nearest_mend : SS := (qSeq (qExpr (sCall 1 F_check_table (aCons (sVar 0) aNil))) (qSeq qNever (qSeq qNever (qSeq qNever (qSeq qNever (qSeq qNever (qSeq qNever qNever)))))))
def F_is_nearest_mend : List D → Sto → Out D := defFin 4 b_is_nearest_mend
def b_is_least_raise : SS := (qSeq (qExpr (sCall 1 F_check_few (aCons (sVar 0) aNil))) (qSeq qNever (qSeq qNever qNever)))
def F_is_least_raise : List D → Sto → Out D := defFin 4 b_is_least_raise
def b_least_cut : SS := (qSeq (qExpr (sCall 1 F_check_table (aCons (sVar 0) aNil))) (qSeq qNever qNever))
def F_least_cut : List D → Sto → Out D := defFin 4 b_least_cut
def b_is_least_pairs : SS := (qSeq (qExpr (sCall 1 F_check_few (aCons (sVar 0) aNil))) (qSeq qNever (qSeq qNever (qSeq qNever (qSeq qNever qNever)))))
def F_is_least_pairs : List D → Sto → Out D := defFin 7 b_is_least_pairs
def b_law_refused : SS := (qSeq (qSet 2 (sB bLen (aCons (sVar 1) aNil)))
    (qSeq (qSet 3 (sCall 2 F_law_some (aCons (sVar 0) (aCons (sLst false (aCons (sC .non) (aCons (sTup aNil) (aCons (sB (bList false) (aCons (sVar 1) aNil)) (aCons (sTup (aCons (sTup (aCons (sC (.int 1)) aNil)) aNil)) (aCons (sTup (aCons (sTup (aCons (sC (.int 0)) (aCons (sC (.int 1)) aNil))) (aCons (sTup (aCons (sC (.int 2)) (aCons (sC (.int 0)) aNil))) aNil))) (aCons (sTup (aCons (sTup (aCons (sC (.int 0)) (aCons (sC (.int 0)) aNil))) (aCons (sTup (aCons (sC (.int 0)) (aCons (sC (.int 0)) aNil))) aNil))) aNil))))))) aNil))))
    (qSeq (qSet 4 (sCall 2 F_law_some (aCons (sVar 0) (aCons (sLst false (aCons (sC .non) (aCons (sTup aNil) (aCons (sVar 1) (aCons (s2 fRepT (sTup (aCons (sTup (aCons (sC (.int 1)) (aCons (sC (.int 1)) aNil))) aNil)) (sVar 2)) (aCons (s2 fRepT (sTup (aCons (s2 fRepT (sTup (aCons (sTup (aCons (sC (.int 0)) (aCons (sC (.int 1)) aNil))) aNil)) (s2 fAdd (sVar 2) (sC (.int 1)))) aNil)) (sVar 2)) aNil)))))) aNil))))
    (qSeq (qSet 5 (sTup (aCons (sC (.fn "nearest_mend")) (aCons (sC (.fn "least_raise")) (aCons (sC (.fn "least_cut")) (aCons (sC (.fn "least_pairs")) (aCons (sC (.fn "needed_pairs")) (aCons (sC (.fn "short_triples")) (aCons (sC (.fn "worst_triple")) (aCons (sC (.fn "sound_lots")) aNil))))))))))
    (qSeq (qSet 6 (sLC false (iSeq (s2 fAdd (sVar 5) (sTup (aCons (sC (.fn "fewest_out")) aNil)))) (gN 7) tYesD (sLam F_law_word (sCallV [("nearest_mend", 1, F_nearest_mend), ("least_raise", 1, F_least_raise), ("least_cut", 1, F_least_cut), ("least_pairs", 1, F_least_pairs), ("needed_pairs", 1, F_needed_pairs), ("short_triples", 1, F_short_triples), ("worst_triple", 1, F_worst_triple), ("sound_lots", 1, F_sound_lots), ("fewest_out", 1, F_fewest_out)] 1 7 (aCons (sVar 3) aNil))) [7]))
    (qSeq (qSet 5 (sTup (aCons (sC (.fn "is_mend")) (aCons (sC (.fn "is_nearest_mend")) (aCons (sC (.fn "is_least_raise")) (aCons (sC (.fn "is_least_pairs")) (aCons (sC (.fn "off_most")) (aCons (sC (.fn "off_sum")) (aCons (sC (.fn "off_pairs")) aNil)))))))))
    (qSeq (qSet 6 (s2 fAdd (sVar 6) (sLC false (iSeq (sVar 5)) (gN 7) tYesD (sLam F_law_word (sCallV [("is_mend", 2, F_is_mend), ("is_nearest_mend", 2, F_is_nearest_mend), ("is_least_raise", 2, F_is_least_raise), ("is_least_pairs", 2, F_is_least_pairs), ("off_most", 2, F_off_most), ("off_sum", 2, F_off_sum), ("off_pairs", 2, F_off_pairs)] 2 7 (aCons (sVar 3) (aCons (sVar 4) aNil)))) [7])))
    (qSeq (qSet 6 (s2 fAdd (sVar 6) (sLC false (iSeq (sTup (aCons (sC (.fn "off_most")) (aCons (sC (.fn "off_sum")) (aCons (sC (.fn "off_pairs")) aNil))))) (gN 7) tYesD (sLam F_law_word (sCallV [("is_mend", 2, F_is_mend), ("is_nearest_mend", 2, F_is_nearest_mend), ("is_least_raise", 2, F_is_least_raise), ("is_least_pairs", 2, F_is_least_pairs), ("off_most", 2, F_off_most), ("off_sum", 2, F_off_sum), ("off_pairs", 2, F_off_pairs)] 2 7 (aCons (sVar 1) (aCons (sVar 4) aNil)))) [7])))
    (qRet (s2 fEq (sVar 6) (s2 fAdd (s2 (fRep false) (sLst false (aCons (sC (.str "table")) aNil)) (sC (.int 16))) (s2 (fRep false) (sLst false (aCons (sC (.str "mend")) aNil)) (sC (.int 3))))))))))))))
def F_law_refused : List D → Sto → Out D := defFin 8 b_law_refused
def b_law : SS := (qSeq (qSet 1 (sCall 1 F_law_hand (aCons (sVar 0) aNil)))
    (qSeq (qFor (iRange1 (aCons (sC (.int 5)) aNil)) (gN 2)
    (qSeq (qSet 3 (sCall 3 F_law_table (aCons (sVar 1) (aCons (s2 fAdd (sC (.int 1)) (sCall 2 F_law_draw (aCons (sVar 1) (aCons (sC (.int 6)) aNil)))) (aCons (sCall 2 F_law_some (aCons (sVar 1) (aCons (sLst false (aCons (sC (.int 3)) (aCons (sC (.int 9)) (aCons (sC (.int 40)) (aCons (sC (.int 1000)) aNil))))) aNil))) aNil)))))
    (qSeq (qSet 3 (sIf (tBl (s2 fEq (sCall 2 F_law_draw (aCons (sVar 1) (aCons (sC (.int 4)) aNil))) (sC (.int 0)))) (sCall 1 F_law_closing (aCons (sVar 3) aNil)) (sVar 3)))
    (qSeq (qPar 4 5 (aCons (sB bLen (aCons (sVar 3) aNil)) (aCons (sCall 1 F_law_triples (aCons (sVar 3) aNil)) aNil)))
    (qSeq (qIf (tOrD (tNotD (tTru (sCall 2 F_law_is (aCons (sCall 1 F_short_triples (aCons (sVar 3) aNil)) (aCons (sB bTuple (aCons (sVar 5) aNil)) aNil))))) (tBl (s2 fNe (sCall 1 F_is_sound (aCons (sVar 3) aNil)) (s2 fEq (sB bLen (aCons (sVar 5) aNil)) (sC (.int 0)))))) (qRet (sC (.bl false))) qNext)
    (qSeq (qAsg (gT2 (gN 6) (gN 7)) (sTup (aCons (sC (.int 0)) (aCons (sTup (aCons (sC (.int 0)) (aCons (sC .non) aNil))) aNil))))
    (qSeq (qFor (iSeq (sVar 5)) (gT3 (gN 8) (gN 9) (gN 10))
    (qSeq (qSet 11 (s2 fSub (s2 fSub (s2 fIx (s2 fIx (sVar 3) (sVar 8)) (sVar 10)) (s2 fIx (s2 fIx (sVar 3) (sVar 8)) (sVar 9))) (s2 fIx (s2 fIx (sVar 3) (sVar 9)) (sVar 10))))
    (qIf (tBl (s2 fGt (sVar 11) (sVar 6))) (qPar 6 7 (aCons (sVar 11) (aCons (sTup (aCons (sVar 11) (aCons (sTup (aCons (sVar 8) (aCons (sVar 9) (aCons (sVar 10) aNil)))) aNil))) aNil))) qNext)))
    (qSeq (qIf (tNotD (tTru (sCall 2 F_law_is (aCons (sCall 1 F_worst_triple (aCons (sVar 3) aNil)) (aCons (sVar 7) aNil))))) (qRet (sC (.bl false))) qNext)
    (qSeq (qSet 12 (sLst true aNil))
    (qSeq (qFor (iSeq (sSlice false (sCall 1 F_law_lots (aCons (sVar 4) aNil)) (oInt (sC (.int 1))) oNone)) (gN 13)
    (qIf (tNotD (tTru (sB bAny (aCons (sLC false (iSeq (sVar 5)) (gN 17) tYesD (sB bAll (aCons (sLC false (iSeq (sVar 17)) (gN 18) tYesD (s2 fIn (sVar 18) (sVar 13)) [18]) aNil)) [17]) aNil)))) (qExpr (sM fAppend (sVar 12) (sVar 13))) qNext))
    (qSeq (qSet 14 (sLst true aNil))
    (qSeq (qFor (iSeq (sRev false (sVar 12))) (gN 13)
    (qIf (tNotD (tTru (sB bAny (aCons (sLC false (iSeq (sVar 14)) (gN 19) tYesD (sB bAll (aCons (sLC false (iSeq (sVar 13)) (gN 18) tYesD (s2 fIn (sVar 18) (sVar 19)) [18]) aNil)) [19]) aNil)))) (qExpr (sM fAppend (sVar 14) (sVar 13))) qNext))
    (qSeq (qIf (tNotD (tTru (sCall 2 F_law_is (aCons (sCall 1 F_sound_lots (aCons (sVar 3) aNil)) (aCons (sB bTuple (aCons (sB (bSorted false) (aCons (sVar 14) aNil)) aNil)) aNil))))) (qRet (sC (.bl false))) qNext)
    (qSeq (qSet 15 (sLst true aNil))
    (qSeq (qFor (iSeq (sVar 12)) (gN 13)
    (qExpr (sM fAppend (sVar 15) (sTup (aCons (s2 fSub (sVar 4) (sB bLen (aCons (sVar 13) aNil))) (aCons (sB bTuple (aCons (sLC false (iRange1 (aCons (sVar 4) aNil)) (gN 18) (tBl (s2 fNotIn (sVar 18) (sVar 13))) (sVar 18) [18]) aNil)) aNil))))))
    (qSeq (qIf (tNotD (tTru (sCall 2 F_law_is (aCons (sCall 1 F_fewest_out (aCons (sVar 3) aNil)) (aCons (sB bMinP (aCons (sVar 15) aNil)) aNil))))) (qRet (sC (.bl false))) qNext)
    (qSeq (qIf (tNotD (tTru (sCall 2 F_law_refused (aCons (sVar 1) (aCons (sVar 3) aNil))))) (qRet (sC (.bl false))) qNext)
    (qIf (tBl (s2 fGt (sVar 4) (sC (.int 5)))) (qSeq (qSet 16 (sLC false (iSeq (sTup (aCons (sC (.fn "least_raise")) (aCons (sC (.fn "least_pairs")) (aCons (sC (.fn "needed_pairs")) aNil))))) (gN 20) tYesD (sLam F_law_word (sCallV [("least_raise", 1, F_least_raise), ("least_pairs", 1, F_least_pairs), ("needed_pairs", 1, F_needed_pairs)] 1 20 (aCons (sVar 3) aNil))) [20]))
    (qIf (tBl (s2 fNe (sVar 16) (s2 (fRep false) (sLst false (aCons (sC (.str "many")) aNil)) (sC (.int 3))))) (qRet (sC (.bl false))) qNext)) qNext))))))))))))))))))
    (qRet (sC (.bl true)))))
def F_law : List D → Sto → Out D := defFin 21 b_law
end Lw90
namespace Lw90
open PySem PD
variable {st : Sto}
/-! ### tables by their numbers -/
abbrev rowT (n : Nat) (f : Nat → Nat → Int) (i : Nat) : D := .tup ((List.range n).map fun j : Nat => D.int (f i j))
abbrev tabT (n : Nat) (f : Nat → Nat → Int) : D := .tup ((List.range n).map fun i : Nat => rowT n f i)
abbrev nats (ms : List Nat) : D := .tup (ms.map fun m : Nat => D.int (m : Int))
theorem fIx_range {st : Sto} {n i : Nat} {φ : Nat → D} (h : i < n) : fIx (.tup ((List.range n).map φ)) (.int (i : Int)) st = .ok (φ i) st := fIx_tup (by rw [List.getElem?_map, List.getElem?_range h]; rfl)
theorem fIx_rangeL {st : Sto} {n i : Nat} {φ : Nat → D} (h : i < n) : fIx (.lst ((List.range n).map φ)) (.int (i : Int)) st = .ok (φ i) st := fIx_at (x := .lst ((List.range n).map φ)) rfl (by rw [List.getElem?_map, List.getElem?_range h]; rfl)
theorem zipIdx_range (n : Nat) : (List.range n).zipIdx = (List.range n).map fun i => (i, i) := by
  apply List.ext_getElem <;> simp
theorem enum_range (n : Nat) (φ : Nat → D) : enumFromD 0 ((List.range n).map φ) = (List.range n).map fun i : Nat => D.tpl [.int (i : Int), φ i] := by
  rw [enum_map, zipIdx_range, List.map_map]
  rfl
theorem zip_range (n : Nat) (φ ψ : Nat → D) : zipD ((List.range n).map φ) ((List.range n).map ψ) = (List.range n).map fun i : Nat => D.tpl [φ i, ψ i] := by
  rw [zip_map]
  have : (List.range n).zip (List.range n) = (List.range n).map fun i => (i, i) := by
    apply List.ext_getElem <;> simp
  rw [this, List.map_map]
  rfl
theorem iRange_n {a : SA} {ρ : Ev} {st : Sto} {n : Nat} (h : a ρ st = .ok [.int (n : Int)] st) (hn : n ≤ 1000 := by omega) : iRange1 a ρ st = .ok ((List.range n).map fun i : Nat => D.int (i : Int), none) st := iRange1_nat h (by omega)
theorem fz_map {α : Type} (f : Nat) (l : List α) (φ : α → D) (h : ∀ a ∈ l, Fz f (φ a)) : Fz (f + 1) (.tup (l.map φ)) := fz_tup fun d hd => by
  obtain ⟨i, hi, rfl⟩ := List.mem_map.mp hd
  exact h i hi
theorem fz_mapL {α : Type} (f : Nat) (l : List α) (φ : α → D) (h : ∀ a ∈ l, Fz f (φ a)) : Fz (f + 1) (.lst (l.map φ)) := fz_lst fun d hd => by
  obtain ⟨i, hi, rfl⟩ := List.mem_map.mp hd
  exact h i hi
theorem fz_rowT (f n : Nat) (g : Nat → Nat → Int) (i : Nat) : Fz (f + 1) (rowT n g i) := fz_map _ _ _ fun _ _ => fz_int _ _
theorem fz_tabT (f n : Nat) (g : Nat → Nat → Int) : Fz (f + 2) (tabT n g) := fz_map _ _ _ fun _ _ => fz_rowT _ _ _ _
theorem fz_nats (f : Nat) (r : List Nat) : Fz (f + 1) (nats r) := fz_map _ _ _ fun _ _ => fz_int _ _
theorem tabT_congr {n : Nat} {f g : Nat → Nat → Int} (h : ∀ i j, i < n → j < n → f i j = g i j) : tabT n f = tabT n g := by
  unfold tabT rowT
  congr 1
  refine List.map_congr_left fun i hi => ?_
  congr 1
  refine List.map_congr_left fun j hj => ?_
  rw [h i j (List.mem_range.mp hi) (List.mem_range.mp hj)]
/-- a table, sound or not -/
structure TabP (n : Nat) (f : Nat → Nat → Int) : Prop where
  n1 : 1 ≤ n
  n7 : n ≤ 7
  lo : ∀ i j, i < n → j < n → 0 ≤ f i j ∧ f i j ≤ 1000
  dg : ∀ i j, i < n → j < n → (f i j = 0 ↔ i = j)
  sy : ∀ i j, i < n → j < n → f i j = f j i
def Tri (n : Nat) (f : Nat → Nat → Int) : Prop := ∀ i j k, i < n → j < n → k < n → f i k ≤ f i j + f j k
theorem is_integer_i (hw : WF st) (i : Int) : F_is_integer [.int i] st = .ok (.bl true) st := defFin_v hw (fz_bl _ _) (by simp [b_is_integer, startD])
theorem is_within_i (hw : WF st) (i lo hi : Int) : F_is_within [.int i, .int lo, .int hi] st = .ok (.bl (decide (lo ≤ i ∧ i ≤ hi))) st := defFin_v hw (fz_bl _ _) (by
  by_cases h : lo ≤ i
  · simp [b_is_within, startD, is_integer_i hw, h]
  · simp [b_is_within, startD, is_integer_i hw, h])
theorem is_sized_t (hw : WF st) (xs : List D) (lo hi : Int) : F_is_sized [.tup xs, .int lo, .int hi] st = .ok (.bl (decide (lo ≤ xs.length ∧ xs.length ≤ hi))) st := defFin_v hw (fz_bl _ _) (by
  by_cases h : lo ≤ xs.length
  · simp [b_is_sized, startD, h]
  · simp [b_is_sized, startD, h])
/-! what is none -/
def niD : D → Bool
  | .non => true | .bl _ => true | .str _ => true | .tup _ => true | .lst _ => true | .dk _ _ => true
  | _ => false
def ntD : D → Bool
  | .non => true | .bl _ => true | .str _ => true | .int _ => true | .lst _ => true | .dk _ _ => true
  | _ => false
theorem is_integer_ni (hw : WF st) {x : D} (h : niD x = true) : F_is_integer [x] st = .ok (.bl false) st := defFin_v hw (fz_bl _ _) (by
  cases x <;> simp [niD] at h <;> simp [b_is_integer, startD, isTy])
theorem is_within_ni (hw : WF st) {x : D} (h : niD x = true) (lo hi : Int) : F_is_within [x, .int lo, .int hi] st = .ok (.bl false) st := defFin_v hw (fz_bl _ _) (by
  simp [b_is_within, startD, is_integer_ni hw h])
theorem ty_nt {x : D} (h : ntD x = true) : isTy .tuple x = some false := by cases x <;> simp [ntD] at h <;> rfl
theorem is_sized_nt (hw : WF st) {x : D} (h : ntD x = true) (lo hi : Int) : F_is_sized [x, .int lo, .int hi] st = .ok (.bl false) st := defFin_v hw (fz_bl _ _) (by
  simp [b_is_sized, startD, ty_nt h])
theorem is_table_nt (hw : WF st) {x : D} (h : ntD x = true) : F_is_table [x] st = .ok (.bl false) st := defFin_v hw (fz_bl _ _) (by
  simp [b_is_table, startD, is_sized_nt hw h])
/-! ### is_table -/
theorem all_true {α : Type} (l : List α) : (l.all fun _ => true) = true := by simp
theorem any_false {α : Type} (l : List α) : (l.any fun _ => false) = false := by simp
theorem is_table_T (hw : WF st) {n : Nat} {f : Nat → Nat → Int} (v : TabP n f) : F_is_table [tabT n f] st = .ok (.bl true) st := defFin_v hw (fz_bl _ _) (by
  have n1 := v.n1
  have n7 := v.n7
  have z2 := sizeLine_eq
  have h0 : (startD 5 [tabT n f])[0]? = some (some (tabT n f)) := rfl
  have hl : (startD 5 [tabT n f]).length = 5 := rfl
  generalize startD 5 [tabT n f] = ρ at h0 hl
  unfold b_is_table
  simp_arith! [h0, is_sized_t hw, List.length_range, decide_eq_true (show (1 : Int) ≤ n ∧ (n : Int) ≤ 7 by omega)]
  rw [sLC_map (dy := none) (List.range n) (fun i => rowT n f i) (fun _ => D.bl true) (by simp_arith! [iSeq_e, h0]) (still_none _ _) (by simp; omega) fun i hi => ⟨_, rfl, by
    simp_arith! [h0, hl, is_sized_t hw, List.length_range, Int.le_refl]⟩]
  have ba := fun s => bAll_map (fun _ : Nat => true) (List.range n) s
  have bn := fun s => bAny_map (fun _ : Nat => false) (List.range n) s
  simp only [all_true, any_false] at ba bn
  simp_arith! [ba, h0, iEnum_e, enum_range, List.length_range]
  generalize hL : loopFor _ _ _ _ _ _ _ _ = R
  obtain ⟨ρ', rfl, k0, kl⟩ := for_none_e hL (List.range n) (fun i : Nat => D.tpl [.int (i : Int), rowT n f i]) rfl (by simp) (still_none _ _) (fun ρ => ρ[0]? = some (some (tabT n f)) ∧ ρ.length = 5) ⟨h0, hl⟩ (by
    rintro i hi ρ ⟨h0, hl⟩
    have hi := List.mem_range.mp hi
    refine ⟨_, rfl, (ρ.set 1 (some (.int (i : Int)))).set 2 (some (rowT n f i)), .inl ?_, by simp_arith! [h0, hl]⟩
    simp_arith! [hl]
    rw [sLC_map (dy := none) (List.range n) (fun j => D.int (f i j)) (fun _ => D.bl true) (by simp_arith! [iSeq_e, hl]) (still_none _ _) (by simp; omega) fun j hj => ⟨_, rfl, by
      have hj := List.mem_range.mp hj
      simp_arith! [hl, is_within_i hw, decide_eq_true (v.lo i j hi hj)]⟩]
    simp_arith! [ba, hl]
    rw [sLC_map (dy := none) (List.range n) (fun j : Nat => D.tpl [.int (j : Int), .int (f i j)]) (fun _ => D.bl false) (by simp_arith! [iEnum_e, hl, enum_range]) (still_none _ _) (by simp; omega) fun j hj => ⟨_, rfl, by
      have hj := List.mem_range.mp hj
      have e : decide (f i j = 0) = decide ((i : Int) = (j : Int)) := by
        have := v.dg i j hi hj
        apply Bool.eq_iff_iff.mpr
        rw [decide_eq_true_eq, decide_eq_true_eq, this]
        omega
      simp_arith! [hl, e]⟩]
    simp_arith! [bn, hl])
  clear hL
  simp_arith! []
  rw [sLC_map (dy := none) (List.range n) (fun i : Nat => D.tpl [.int (i : Int), rowT n f i]) (fun _ => D.bl true) (by simp_arith! [iEnum_e, k0, enum_range]) (still_none _ _) (by simp; omega) fun i hi => ⟨_, rfl, by
    have hi := List.mem_range.mp hi
    simp_arith! [kl, k0]
    rw [sLC_map (dy := none) (List.range i) (fun j : Nat => D.int (j : Int)) (fun _ => D.bl true) (iRange_n (by simp_arith! [kl, k0])) (still_none _ _) (by simp; omega) fun j hj => ⟨_, rfl, by
      have hj := List.mem_range.mp hj
      have hjn : j < n := by omega
      simp_arith! [kl, k0, fIx_range hjn, fIx_range hi, v.sy i j hi hjn]⟩]
    have ba := bAll_map (fun _ : Nat => true) (List.range i) st
    simp only [all_true] at ba
    simp_arith! [ba]⟩]
  simp_arith! [ba])
theorem check_table_T (hw : WF st) {n : Nat} {f : Nat → Nat → Int} (v : TabP n f) : F_check_table [tabT n f] st = .ok .non st := defFin_n (ρ := startD 1 [tabT n f]) hw (by
  have h0 : (startD 1 [tabT n f])[0]? = some (some (tabT n f)) := rfl
  generalize startD 1 [tabT n f] = ρ at h0
  unfold b_check_table
  simp_arith! [h0, is_table_T hw v])
/-! ### short triples -/
def shortT (n : Nat) (f : Nat → Nat → Int) : Option (Nat × Nat × Nat) :=
  (List.range n).findSome? fun i => (List.range n).findSome? fun j => (List.range n).findSome? fun k => if j ≠ i ∧ j ≠ k ∧ i < k ∧ f i j + f j k < f i k then some (i, j, k) else none
def triD : Option (Nat × Nat × Nat) → D
  | none => .non
  | some (i, j, k) => .tup [.int (i : Int), .int (j : Int), .int (k : Int)]
theorem shortT_none {n : Nat} {f : Nat → Nat → Int} (v : TabP n f) : shortT n f = none ↔ Tri n f := by
  unfold shortT Tri
  simp only [List.findSome?_eq_none_iff, List.mem_range]
  constructor
  · intro h i j k hi hj hk
    have a := v.lo i j hi hj
    have b := v.lo j k hj hk
    have s1 := v.sy i k hi hk
    have s2 := v.sy i j hi hj
    have s3 := v.sy j k hj hk
    by_cases e1 : j = i
    · subst e1; have := (v.dg j j hj hj).mpr rfl; omega
    by_cases e2 : j = k
    · subst e2; have := (v.dg j j hj hj).mpr rfl; omega
    by_cases e3 : i = k
    · subst e3; have := (v.dg i i hi hi).mpr rfl; omega
    by_cases e4 : i < k
    · have := h i hi j hj k hk
      split at this
      · cases this
      · omega
    · have := h k hk j hj i hi
      split at this
      · cases this
      · omega
  · intro h i hi j hj k hk
    have := h i j k hi hj hk
    rw [if_neg (by omega)]
theorem findSome_map {α β γ : Type} (f : α → Option β) (g : β → γ) : ∀ l : List α, l.findSome? (fun a => (f a).map g) = (l.findSome? f).map g
  | [] => rfl
  | a :: l => by
    rw [List.findSome?_cons, List.findSome?_cons]
    cases f a with
    | none => exact findSome_map f g l
    | some b => rfl
theorem toPy_tupInts (st : Sto) (n : Nat) (l : List Int) : toPy st (n + 1) (.tup (l.map D.int)) = some (.tuple (l.map PyData.int)) := by
  rw [toPy]
  simp only [List.map_map]
  rw [allSome_map (f := toPy st n ∘ D.int) (g := PyData.int) fun i _ => toPy_int st n i]
  rfl
theorem inPy_ints (i : Int) (l : List Int) : inPy (.int i) (l.map PyData.int) = decide (i ∈ l) := by
  unfold inPy
  rw [List.any_map]
  apply Bool.eq_iff_iff.mpr
  simp only [List.any_eq_true, Function.comp, eqv_int, decide_eq_true_eq]
  constructor
  · rintro ⟨x, hx, rfl⟩; exact hx
  · intro h; exact ⟨i, h, rfl⟩
theorem fIn0_row (st : Sto) (i : Int) (l : List Int) : fIn0 (.int i) (row l) st = .ok (decide (i ∈ l)) st := by
  have hf : (flatD (.int i) && (l.map D.int).all flatD) = true := by
    simp [flatD]
  unfold fIn0
  simp only [toPy_int, hf, if_true, toPys, List.map_map]
  rw [allSome_map (f := toPy st 59 ∘ D.int) (g := PyData.int) fun i _ => toPy_int st 59 i]
  simp only [inPy_ints]
theorem nats_row (l : List Nat) : nats l = row (l.map fun m : Nat => (m : Int)) := by
  unfold nats row
  rw [List.map_map]
  rfl
theorem fIn0_nats (st : Sto) (m : Nat) (l : List Nat) : fIn0 (.int (m : Int)) (nats l) st = .ok (decide (m ∈ l)) st := by
  rw [nats_row, fIn0_row]
  have : ((m : Int) ∈ l.map fun m : Nat => (m : Int)) ↔ m ∈ l := by
    rw [List.mem_map]
    constructor
    · rintro ⟨a, ha, e⟩
      have : a = m := by omega
      exact this ▸ ha
    · intro h; exact ⟨m, h, rfl⟩
  simp only [this]
theorem fIn_nats (st : Sto) (m : Nat) (l : List Nat) : fIn (.int (m : Int)) (nats l) st = .ok (.bl (decide (m ∈ l))) st := by
  unfold fIn
  rw [fIn0_nats]
  rfl
theorem fNotIn_nats (st : Sto) (m : Nat) (l : List Nat) : fNotIn (.int (m : Int)) (nats l) st = .ok (.bl (!decide (m ∈ l))) st := by
  unfold fNotIn
  rw [fIn0_nats]
  rfl
theorem fNotIn_2 (st : Sto) (m a b : Nat) : fNotIn (.int (m : Int)) (.tup [.int (a : Int), .int (b : Int)]) st = .ok (.bl (!decide (m = a ∨ m = b))) st := by
  have := fNotIn_nats st m [a, b]
  simp only [nats, List.map_cons, List.map_nil] at this
  rw [this]
  simp
theorem short_triple_T (hw : WF st) {n : Nat} (f : Nat → Nat → Int) (n7 : n ≤ 7) : F_short_triple [tabT n f] st = .ok (triD (shortT n f)) st := by
  have z2 := sizeLine_eq
  refine defFin_v hw (by
    cases shortT n f with
    | none => exact fz_non _
    | some p =>
      obtain ⟨i, j, k⟩ := p
      exact fz_nats 59 [i, j, k]) ?_
  have h0 : (startD 5 [tabT n f])[0]? = some (some (tabT n f)) := rfl
  have hl : (startD 5 [tabT n f]).length = 5 := rfl
  generalize startD 5 [tabT n f] = ρ at h0 hl
  unfold b_short_triple
  simp_arith! [h0, List.length_range]
  rw [if_pos (by omega), rangeL_0]
  let c3 : Nat → Nat → Nat → Option D := fun i j k => if j ≠ i ∧ j ≠ k ∧ i < k ∧ f i j + f j k < f i k then some (.tup [.int (i : Int), .int (j : Int), .int (k : Int)]) else none
  have c3n : ∀ i j k, ¬ (j ≠ i ∧ j ≠ k ∧ i < k ∧ f i j + f j k < f i k) → c3 i j k = none := fun _ _ _ h => if_neg h
  have c3p : ∀ i j k, (j ≠ i ∧ j ≠ k ∧ i < k ∧ f i j + f j k < f i k) → c3 i j k = some (.tup [.int (i : Int), .int (j : Int), .int (k : Int)]) := fun _ _ _ h => if_pos h
  let c2 : Nat → Nat → Option D := fun i j => (List.range n).findSome? (c3 i j)
  let c1 : Nat → Option D := fun i => (List.range n).findSome? (c2 i)
  have cc : (List.range n).findSome? c1 = (shortT n f).map fun p => .tup [.int (p.1 : Int), .int (p.2.1 : Int), .int (p.2.2 : Int)] := by
    unfold shortT
    rw [← findSome_map]
    congr 1
    funext i
    rw [← findSome_map]
    show (List.range n).findSome? (c2 i) = _
    congr 1
    funext j
    rw [← findSome_map]
    show (List.range n).findSome? (c3 i j) = _
    congr 1
    funext k
    show (if _ then _ else _) = _
    split <;> rfl
  let L : D := .lst ((List.range n).map fun i : Nat => D.int (i : Int))
  simp_arith! [hl, iSeq_e, List.length_range]
  generalize hL : loopFor _ _ _ _ _ _ _ _ = R
  rcases for_some_e hL (List.range n) (fun i : Nat => D.int (i : Int)) rfl (by simp) (still_none _ _) (fun ρ => ρ.length = 5 ∧ ρ[0]? = some (some (tabT n f)) ∧ ρ[1]? = some (some L)) c1 ⟨by simp_arith! [hl], by simp_arith! [h0], by simp_arith! [hl]; rfl⟩ (by
    rintro i hi ρ ⟨hl, h0, h1⟩
    have hi := List.mem_range.mp hi
    refine ⟨_, rfl, ?_⟩
    generalize hM : qFor _ _ _ _ _ = R2
    simp_arith! [hl, h1, iSeq_e, L, List.length_range] at hM
    rcases for_some_e hM (List.range n) (fun i : Nat => D.int (i : Int)) rfl (by simp) (still_none _ _) (fun ρ => ρ.length = 5 ∧ ρ[0]? = some (some (tabT n f)) ∧ ρ[1]? = some (some L) ∧ ρ[2]? = some (some (.int (i : Int)))) (c2 i) ⟨by simp_arith! [hl], by simp_arith! [h0], by simp_arith! [h1], by simp_arith! [hl]⟩ (by
      rintro j hj ρ ⟨hl, h0, h1, h2⟩
      have hj := List.mem_range.mp hj
      refine ⟨_, rfl, ?_⟩
      generalize hN : qFor _ _ _ _ _ = R3
      simp_arith! [hl, h1, iSeq_e, L, List.length_range] at hN
      rcases for_some_e hN (List.range n) (fun i : Nat => D.int (i : Int)) rfl (by simp) (still_none _ _) (fun ρ => ρ.length = 5 ∧ ρ[0]? = some (some (tabT n f)) ∧ ρ[1]? = some (some L) ∧ ρ[2]? = some (some (.int (i : Int))) ∧ ρ[3]? = some (some (.int (j : Int)))) (c3 i j) ⟨by simp_arith! [hl], by simp_arith! [h0], by simp_arith! [h1], by simp_arith! [h2], by simp_arith! [hl]⟩ (by
        rintro k hk ρ ⟨hl, h0, h1, h2, h3⟩
        have hk := List.mem_range.mp hk
        refine ⟨_, rfl, ?_⟩
        generalize hO : qIf _ _ _ _ _ = R4
        have ei : decide ((i : Int) < (k : Int)) = decide (i < k) := by simp
        simp_arith! [hl, h0, h1, h2, h3, fNotIn_2, fIx_range hi, fIx_range hj, fIx_range hk, ei] at hO
        by_cases q1 : j = i ∨ j = k
        · right
          simp only [q1, decide_true, Bool.not_true, Bool.false_eq_true, if_false] at hO
          try simp_arith! [] at hO
          exact ⟨c3n _ _ _ (by omega), _, .inl hO.symm, by simp_arith! [hl], by simp_arith! [h0], by simp_arith! [h1], by simp_arith! [h2], by simp_arith! [h3]⟩
        · simp only [q1, decide_false, Bool.not_false, if_true] at hO
          try simp_arith! [] at hO
          by_cases q2 : i < k
          · simp only [q2, decide_true, if_true] at hO
            try simp_arith! [] at hO
            by_cases q3 : f i j + f j k < f i k
            · simp only [q3, decide_true, if_true] at hO
              try simp_arith! [] at hO
              exact .inl ⟨_, c3p _ _ _ (by omega), hO.symm⟩
            · simp only [q3, decide_false] at hO
              try simp_arith! [] at hO
              exact .inr ⟨c3n _ _ _ (by omega), _, .inl hO.symm, by simp_arith! [hl], by simp_arith! [h0], by simp_arith! [h1], by simp_arith! [h2], by simp_arith! [h3]⟩
          · simp only [q2, decide_false] at hO
            try simp_arith! [] at hO
            exact .inr ⟨c3n _ _ _ (by omega), _, .inl hO.symm, by simp_arith! [hl], by simp_arith! [h0], by simp_arith! [h1], by simp_arith! [h2], by simp_arith! [h3]⟩) with ⟨d, e, rfl⟩ | ⟨e, ρ', rfl, q⟩
      · exact .inl ⟨d, e, rfl⟩
      · exact .inr ⟨e, _, .inl rfl, q.1, q.2.1, q.2.2.1, q.2.2.2.1⟩) with ⟨d, e, rfl⟩ | ⟨e, ρ', rfl, q⟩
    · exact .inl ⟨d, e, rfl⟩
    · exact .inr ⟨e, _, .inl rfl, q.1, q.2.1, q.2.2.1⟩) with ⟨d, e, rfl⟩ | ⟨e, ρ', rfl, q⟩
  · rw [cc] at e
    cases q : shortT n f with
    | none => rw [q] at e; cases e
    | some p => rw [q] at e; cases e; rfl
  · rw [cc] at e
    cases q : shortT n f with
    | none => simp_arith! []; rfl
    | some p => rw [q] at e; cases e
end Lw90
namespace Lw90
open PySem PD
variable {st : Sto}
def absI (i : Int) : Int := if i < 0 then -i else i
/-! ### the draws -/
/-- the hand: what it holds is in order -/
structure Hand (cs : List Int) (p q r k : Int) : Prop where
  p0 : 0 ≤ p
  q0 : 0 ≤ q
  c0 : ∀ c ∈ cs, 0 ≤ c
abbrev handO (cs : List Int) (p q r k : Int) : MO := .lst [.lst (cs.map D.int), .int p, .int q, .int r, .int k]
def HandO (o : MO) : Prop := ∃ cs p q r k, o = handO cs p q r k ∧ Hand cs p q r k
theorem noRef_hand (n : Nat) (cs : List Int) (p q r k : Int) : noRefO n (handO cs p q r k) = true := by
  refine noRefs_all fun d hd => ?_
  simp only [List.mem_cons, List.not_mem_nil, or_false] at hd
  rcases hd with rfl | rfl | rfl | rfl | rfl
  · unfold noRef
    exact noRefs_all fun d hd => by
      obtain ⟨i, _, rfl⟩ := List.mem_map.mp hd
      rfl
  all_goals rfl
theorem small_c {i : Int} (h1 : -1000000000000 ≤ i) (h2 : i ≤ 1000000000000) : small i = true := by
  unfold small
  have a : (-(2 ^ 64) : Int) < -1000000000000 := by decide +kernel
  have b : (1000000000000 : Int) < 2 ^ 64 := by decide +kernel
  generalize (2 ^ 64 : Int) = z at a b ⊢
  simp only [Bool.and_eq_true, decide_eq_true_eq]
  omega
theorem fPow18 (st : Sto) : fPow (.int 10) (.int 18) st = .ok (.int 1000000000000000000) st := by
  unfold fPow
  simp
theorem fIx_ref {st : Sto} {l i : Nat} {xs : List D} {d : D} (h : st[l]? = some (.lst xs)) (hi : xs[i]? = some d) : fIx (.ref l) (.int (i : Int)) st = .ok d st := fIx_at (items_ref h) hi
section
variable (cs : List Int) (p q r k v : Int) (rest : Sto)
theorem hi0 : fIx (.ref 0) (.int 0) (handO cs p q r k :: rest) = .ok (.lst (cs.map D.int)) (handO cs p q r k :: rest) := fIx_ref (i := 0) rfl rfl
theorem hi1 : fIx (.ref 0) (.int 1) (handO cs p q r k :: rest) = .ok (.int p) (handO cs p q r k :: rest) := fIx_ref (i := 1) rfl rfl
theorem hi2 : fIx (.ref 0) (.int 2) (handO cs p q r k :: rest) = .ok (.int q) (handO cs p q r k :: rest) := fIx_ref (i := 2) rfl rfl
theorem hi3 : fIx (.ref 0) (.int 3) (handO cs p q r k :: rest) = .ok (.int r) (handO cs p q r k :: rest) := fIx_ref (i := 3) rfl rfl
theorem hi4 : fIx (.ref 0) (.int 4) (handO cs p q r k :: rest) = .ok (.int k) (handO cs p q r k :: rest) := fIx_ref (i := 4) rfl rfl
theorem hs1 : fSetIx (.ref 0) (.int 1) (.int v) (handO cs p q r k :: rest) = some (handO cs v q r k :: rest) := fSetIx_ref (l := 0) (i := 1) (xs := [.lst (cs.map D.int), .int p, .int q, .int r, .int k]) rfl (show 1 < 5 by decide)
theorem hs2 : fSetIx (.ref 0) (.int 2) (.int v) (handO cs p q r k :: rest) = some (handO cs p v r k :: rest) := fSetIx_ref (l := 0) (i := 2) (xs := [.lst (cs.map D.int), .int p, .int q, .int r, .int k]) rfl (show 2 < 5 by decide)
theorem hs3 : fSetIx (.ref 0) (.int 3) (.int v) (handO cs p q r k :: rest) = some (handO cs p q v k :: rest) := fSetIx_ref (l := 0) (i := 3) (xs := [.lst (cs.map D.int), .int p, .int q, .int r, .int k]) rfl (show 3 < 5 by decide)
theorem hs4 : fSetIx (.ref 0) (.int 4) (.int v) (handO cs p q r k :: rest) = some (handO cs p q r v :: rest) := fSetIx_ref (l := 0) (i := 4) (xs := [.lst (cs.map D.int), .int p, .int q, .int r, .int k]) rfl (show 4 < 5 by decide)
end
theorem draw_t {o : MO} {rest : Sto} (hw : WF (o :: rest)) (ho : HandO o) {m : Int} (h0 : 0 < m) (h1 : m < 1073741824) :
    ∃ o' d, HandO o' ∧ 0 ≤ d ∧ d < m ∧ F_law_draw [.ref 0, .int m] (o :: rest) = .ok (.int d) (o' :: rest) := by
  obtain ⟨cs, p, q, r, k, rfl, hh⟩ := ho
  have z2 := sizeLine_eq
  have body : ∃ o' d, HandO o' ∧ 0 ≤ d ∧ d < m ∧ b_law_draw (startD 5 [.ref 0, .int m]) (handO cs p q r k :: rest) = some (.rt (.int d), o' :: rest) := by
    have fst : ∃ x p' q' r', Hand cs p' q' r' k ∧ (qIf (tAndD (tBl (s2 fEq (s2 fIx (sVar 0) (sC (.int 2))) (sC (.int 0)))) (tBl (s2 fLt (s2 fIx (sVar 0) (sC (.int 1))) (sB bLen (aCons (s2 fIx (sVar 0) (sC (.int 0))) aNil))))) (qSeq (qSet 2 (s2 fIx (s2 fIx (sVar 0) (sC (.int 0))) (s2 fIx (sVar 0) (sC (.int 1)))))
    (qSeq (qSetIx (sVar 0) (sC (.int 1)) (s2 fAdd (s2 fIx (sVar 0) (sC (.int 1))) (sC (.int 1))))
    (qSeq (qSetIx (sVar 0) (sC (.int 3)) (s2 fMod (sB bInt (aCons (s2 fAdd (s2 fAdd (s2 fMul (s2 fIx (sVar 0) (sC (.int 3))) (sC (.int 48271))) (sVar 2)) (sC (.int 31))) aNil)) (sC (.int 2147483647))))
    (qIf (tBl (s2 fGe (sVar 2) (s2 fPow (sC (.int 10)) (sC (.int 18))))) (qSetIx (sVar 0) (sC (.int 2)) (sVar 2)) qNext)))) qNext) (startD 5 [.ref 0, .int m]) (handO cs p q r k :: rest) = some (.nx [some (.ref 0), some (.int m), x, none, none], handO cs p' q' r' k :: rest) := by
      by_cases c1 : q = 0
      · by_cases c2 : p < cs.length
        · obtain ⟨pn, rfl⟩ : ∃ n : Nat, p = (n : Int) := ⟨p.toNat, by have := hh.p0; omega⟩
          have hp : pn < cs.length := by omega
          have hc := hh.c0 _ (List.getElem_mem hp)
          have ec : (cs.map D.int)[pn]? = some (.int cs[pn]) := by rw [List.getElem?_map, List.getElem?_eq_getElem hp]; rfl
          have ei : ∀ st, fIx (.lst (cs.map D.int)) (.int (pn : Int)) st = .ok (.int cs[pn]) st := fun st => fIx_at rfl ec
          by_cases c3 : (1000000000000000000 : Int) ≤ cs[pn]
          · refine ⟨some (.int cs[pn]), pn + 1, cs[pn], (r * 48271 + cs[pn] + 31) % 2147483647, ⟨by omega, hc, hh.c0⟩, ?_⟩
            simp [startD, hi0, hi1, hi2, hi3, hi4, hs1, hs2, hs3, hs4, c1, hp, ei, fMul_i (j := 48271) (.inr (small_c (by omega) (by omega))), fMod_i, fPow18, c3]
          · refine ⟨some (.int cs[pn]), pn + 1, 0, (r * 48271 + cs[pn] + 31) % 2147483647, ⟨by omega, by omega, hh.c0⟩, ?_⟩
            simp [startD, hi0, hi1, hi2, hi3, hi4, hs1, hs2, hs3, hs4, c1, hp, ei, fMul_i (j := 48271) (.inr (small_c (by omega) (by omega))), fMod_i, fPow18, c3]
        · refine ⟨none, p, q, r, hh, ?_⟩
          simp [startD, hi0, hi1, hi2, c1, c2]
      · refine ⟨none, p, q, r, hh, ?_⟩
        simp [startD, hi2, c1]
    obtain ⟨x, p', q', r', hh', e⟩ := fst
    unfold b_law_draw
    rw [qSeq_e, e, then_nx]
    by_cases c1 : 0 < q'
    · refine ⟨handO cs p' (q' / m) r' k, q' % m, ⟨_, _, _, _, _, rfl, hh'.p0, Int.ediv_nonneg hh'.q0 (by omega), hh'.c0⟩, Int.emod_nonneg _ (by omega), Int.emod_lt_of_pos _ h0, ?_⟩
      simp [hi2, c1, fMod_i h0, fDiv_i ⟨h0, h1⟩, hs2]
    · simp [hi2, c1, hi3, hi4, hs4, fMul_i (i := 6151) (.inl (small_c (by omega) (by omega))), fMul_i (j := 40692) (.inr (small_c (by omega) (by omega))), fMod_i, fMod_i h0, fDiv_i]
      have b1 := Int.emod_nonneg ((r' + 6151 * (k + 1)) * 40692) (show (2147483399 : Int) ≠ 0 by omega)
      have b2 := Int.emod_lt_of_pos ((r' + 6151 * (k + 1)) * 40692) (show (0 : Int) < 2147483399 by omega)
      generalize (r' + 6151 * (k + 1)) * 40692 % 2147483399 = n1 at b1 b2 ⊢
      rw [fMul_i (.inl (small_c (by omega) (by omega)))]
      simp [fMod_i, fDiv_i]
      have d1 := Int.emod_nonneg (n1 * (n1 / 1223 + 52027)) (show (2147483629 : Int) ≠ 0 by omega)
      have d2 := Int.emod_lt_of_pos (n1 * (n1 / 1223 + 52027)) (show (0 : Int) < 2147483629 by omega)
      generalize n1 * (n1 / 1223 + 52027) % 2147483629 = n2 at d1 d2 ⊢
      rw [fMul_i (.inl (small_c (by omega) (by omega)))]
      simp [fMod_i, fDiv_i]
      have f1 := Int.emod_nonneg (n2 * (n2 / 2671 + 69621)) (show (2147483647 : Int) ≠ 0 by omega)
      have f2 := Int.emod_lt_of_pos (n2 * (n2 / 2671 + 69621)) (show (0 : Int) < 2147483647 by omega)
      generalize n2 * (n2 / 2671 + 69621) % 2147483647 = n3 at f1 f2 ⊢
      simp [fMod_i, fDiv_i, fMod_i h0]
      refine ⟨handO cs p' q' r' (k + 1), ⟨_, _, _, _, _, rfl, hh'.p0, hh'.q0, hh'.c0⟩, _, ?_, ?_, rfl, rfl⟩
      · exact Int.emod_nonneg _ (by omega)
      · exact Int.emod_lt_of_pos _ h0
  obtain ⟨o', d, h1, h2, h3, h4⟩ := body
  have hw' : WF (o' :: rest) := by
    obtain ⟨cs', p', q', r', k', rfl, _⟩ := h1
    exact hw.set 0 (noRef_hand _ cs' p' q' r' k')
  exact ⟨o', d, h1, h2, h3, defFin_rt (ex := []) (by rw [List.append_nil]; exact h4) rfl hw' (by rw [List.append_nil]; exact fz_int _ _ _ _)⟩

theorem hand_t (ns : List Int) (hn : ns.length ≤ 63) : ∃ o, HandO o ∧ F_law_hand [.fz (ns.map D.int)] [] = .ok (.ref 0) [o] := by
  have z2 := sizeLine_eq
  refine ⟨handO (ns.map absI) 0 0 (97 + 5 * ((ns.map absI).length : Int)) 0, ⟨_, _, _, _, _, rfl, by omega, by omega, fun c hc => ?_⟩, ?_⟩
  · obtain ⟨i, _, rfl⟩ := List.mem_map.mp hc
    unfold absI
    split <;> omega
  · have cut : cutD (ns.map D.int) none (some 63) = ns.map D.int := by
      unfold cutD HT.sIx
      simp
      rw [List.take_of_length_le]
      simp
      omega
    unfold F_law_hand defRaw
    have body : b_law_hand (startD 3 [.fz (ns.map D.int)]) [] = some (.rt (.ref 0), [handO (ns.map absI) 0 0 (97 + 5 * ((ns.map absI).length : Int)) 0]) := by
      simp only [b_law_hand, startD]
      simp only [qSeq_e, qSet_e]
      rw [sLC_map (dy := none) ns D.int (fun i => D.int (absI i)) (by simp [cut]) (still_none _ _) (by omega) fun i _ => ⟨_, rfl, by
        show _ = Out.ok (D.int (if i < 0 then -i else i)) []
        simp⟩]
      have e : (ns.map fun i => D.int (absI i)) = (ns.map absI).map D.int := by simp
      rw [e]
      simp [fMul_i (i := 5) (.inl (small_c (by omega) (by omega))), sizeLine_eq]
    rw [body]
    rfl
theorem wf_hand {o o' : MO} {rest : Sto} (hw : WF (o :: rest)) (h : HandO o') : WF (o' :: rest) := by
  obtain ⟨cs', p', q', r', k', rfl, _⟩ := h
  exact hw.set 0 (noRef_hand _ cs' p' q' r' k')
/-- a draw as a natural number -/
theorem draw_n {o : MO} {rest : Sto} (hw : WF (o :: rest)) (ho : HandO o) {m : Nat} (h0 : 0 < m) (h1 : m < 1000000) :
    ∃ (o' : MO) (d : Nat), HandO o' ∧ d < m ∧ F_law_draw [.ref 0, .int (m : Int)] (o :: rest) = .ok (.int (d : Int)) (o' :: rest) := by
  obtain ⟨o', d, h2, h3, h4, e⟩ := draw_t hw ho (m := (m : Int)) (by omega) (by omega)
  obtain ⟨d, rfl⟩ : ∃ k : Nat, d = (k : Int) := ⟨d.toNat, by omega⟩
  exact ⟨o', d, h2, by omega, e⟩
theorem law_some_t {o : MO} {rest : Sto} (hw : WF (o :: rest)) (ho : HandO o) (xs : List D) (h0 : xs ≠ []) (hl : xs.length ≤ 1000) (hf : ∀ x ∈ xs, Fz 60 x) : ∃ o' x, HandO o' ∧ x ∈ xs ∧ F_law_some [.ref 0, .lst xs] (o :: rest) = .ok x (o' :: rest) := by
  have l0 : 0 < xs.length := List.length_pos_iff.mpr h0
  obtain ⟨o', d, ho', h1, h2, e⟩ := draw_t hw ho (m := (xs.length : Int)) (by omega) (by omega)
  obtain ⟨k, rfl⟩ : ∃ k : Nat, d = (k : Int) := ⟨d.toNat, by omega⟩
  have hk : k < xs.length := by omega
  refine ⟨o', xs[k], ho', List.getElem_mem hk, ?_⟩
  refine defFin_rt (ex := []) (st' := o' :: rest) (d := xs[k]) ?_ rfl (wf_hand hw ho') (hf _ (List.getElem_mem hk) _ _)
  simp [b_law_some, startD, e, fIx_at (st := o' :: rest) (x := .lst xs) (xs := xs) (i := k) rfl (List.getElem?_eq_getElem hk)]
/-- of a list that stands in the store behind the hand -/
theorem law_some_r {o : MO} {rest : Sto} (hw : WF (o :: rest)) (ho : HandO o) {l : Nat} (xs : List D) (hx : rest[l]? = some (.lst xs)) (h0 : xs ≠ []) (hl : xs.length ≤ 1000) (hf : ∀ x ∈ xs, Fz 60 x) : ∃ o' x, HandO o' ∧ x ∈ xs ∧ F_law_some [.ref 0, .ref (l + 1)] (o :: rest) = .ok x (o' :: rest) := by
  have l0 : 0 < xs.length := List.length_pos_iff.mpr h0
  obtain ⟨o', d, ho', h1, h2, e⟩ := draw_t hw ho (m := (xs.length : Int)) (by omega) (by omega)
  obtain ⟨k, rfl⟩ : ∃ k : Nat, d = (k : Int) := ⟨d.toNat, by omega⟩
  have hk : k < xs.length := by omega
  have g : ∀ o : MO, (o :: rest)[l + 1]? = some (.lst xs) := fun o => by rw [List.getElem?_cons_succ]; exact hx
  refine ⟨o', xs[k], ho', List.getElem_mem hk, ?_⟩
  refine defFin_rt (ex := []) (st' := o' :: rest) (d := xs[k]) ?_ rfl (wf_hand hw ho') (hf _ (List.getElem_mem hk) _ _)
  simp [b_law_some, startD, e, bLen_ref (g o), fIx_at (items_ref (g o')) (List.getElem?_eq_getElem hk)]
end Lw90
namespace Lw90
open PySem PD
variable {st : Sto}
/-! ### rows that stand in the store -/
abbrev rowG (n : Nat) (f : Nat → D) : List D := (List.range n).map f
def rowsG (n : Nat) (F : Nat → Nat → D) : Sto := (List.range n).map fun a => MO.lst (rowG n (F a))
def updG (F : Nat → Nat → D) (i j : Nat) (v : D) : Nat → Nat → D := fun a b => if a = i ∧ b = j then v else F a b
theorem rowsG_len (n : Nat) (F : Nat → Nat → D) : (rowsG n F).length = n := by simp [rowsG]
theorem rowsG_get {n a : Nat} (F : Nat → Nat → D) (st : Sto) (h : a < n) : (st ++ rowsG n F)[st.length + a]? = some (.lst (rowG n (F a))) := by
  rw [List.getElem?_append_right (by omega), Nat.add_sub_cancel_left]
  unfold rowsG
  rw [List.getElem?_map, List.getElem?_range h]
  rfl
theorem rowG_get {n b : Nat} (f : Nat → D) (h : b < n) : (rowG n f)[b]? = some (f b) := by
  rw [List.getElem?_map, List.getElem?_range h]
  rfl
theorem map_range_set {α : Type} {n b : Nat} (f : Nat → α) (v : α) : ((List.range n).map f).set b v = (List.range n).map fun x => if x = b then v else f x := by
  apply List.ext_getElem
  · simp
  · intro i h1 h2
    rw [List.getElem_set]
    simp only [List.getElem_map, List.getElem_range]
    by_cases e : b = i
    · rw [if_pos e, if_pos e.symm]
    · rw [if_neg e, if_neg fun q => e q.symm]
theorem rowsG_set {n a b : Nat} (F : Nat → Nat → D) (v : D) (st : Sto) (h : a < n) : (st ++ rowsG n F).set (st.length + a) (.lst ((rowG n (F a)).set b v)) = st ++ rowsG n (updG F a b v) := by
  rw [List.set_append_right (h := by omega), Nat.add_sub_cancel_left]
  congr 1
  unfold rowsG
  rw [map_range_set]
  refine List.map_congr_left fun x hx => ?_
  by_cases e : x = a
  · subst e
    rw [if_pos rfl]
    unfold rowG
    rw [map_range_set]
    congr 1
    refine List.map_congr_left fun y hy => ?_
    unfold updG
    by_cases e2 : y = b
    · rw [if_pos e2, if_pos ⟨rfl, e2⟩]
    · rw [if_neg e2, if_neg fun q => e2 q.2]
  · rw [if_neg e]
    congr 1
    refine List.map_congr_left fun y hy => ?_
    unfold updG
    rw [if_neg fun q => e q.1]
theorem rowsG_congr {n : Nat} {F G : Nat → Nat → D} (h : ∀ a b, a < n → b < n → F a b = G a b) : rowsG n F = rowsG n G := by
  unfold rowsG
  refine List.map_congr_left fun a ha => ?_
  congr 1
  exact List.map_congr_left fun b hb => h a b (List.mem_range.mp ha) (List.mem_range.mp hb)
theorem wf_append {st ex : Sto} (h : WF st) (he : ∀ o ∈ ex, ∀ n, noRefO n o = true) : WF (st ++ ex) := by
  unfold WF at h ⊢
  rw [List.all_append, List.length_append]
  exact Bool.and_eq_true_iff.mpr ⟨List.all_eq_true.mpr fun x hx => noRefO_mono (by omega) x (List.all_eq_true.mp h x hx), List.all_eq_true.mpr fun o ho => he o ho _⟩
theorem wf_rowsG {st : Sto} (h : WF st) {n : Nat} {F : Nat → Nat → D} (hF : ∀ a b m, noRef m (F a b) = true) : WF (st ++ rowsG n F) := wf_append h fun o ho m => by
  obtain ⟨a, _, rfl⟩ := List.mem_map.mp ho
  exact noRefs_all fun d hd => by
    obtain ⟨b, _, rfl⟩ := List.mem_map.mp hd
    exact hF a b m
theorem lc_alloc {α : Type} {g : TgD} {e : SE} {ρ0 : Ev} {φ : α → D} {F : α → MO} {n : Nat} : ∀ (xs : List α) (i : Nat) (st : Sto), (∀ a ∈ xs, ∀ st, ∃ ρ1, g (φ a) ρ0 = some ρ1 ∧ e ρ1 st = .ok (.ref st.length) (st ++ [F a])) →
    loopLC none n g tYesD e ρ0 i (xs.map φ) st = .ok ((List.range xs.length).map fun k => D.ref (st.length + k)) (st ++ xs.map F)
  | [], i, st, h => by simp [loopLC, finOk]
  | a :: xs, i, st, h => by
    obtain ⟨ρ1, h1, h2⟩ := h a List.mem_cons_self st
    have ih := lc_alloc (g := g) (e := e) (ρ0 := ρ0) (φ := φ) (F := F) (n := n) xs (i + 1) (st ++ [F a]) fun b hb => h b (List.mem_cons_of_mem _ hb)
    rw [List.map_cons, loopLC]
    simp only [fetch, h1, tYesD_e, nx_ok, bind_ok, if_true, h2, ih]
    congr 1
    · rw [List.length_cons, List.range_succ_eq_map, List.map_cons, List.map_map]
      congr 1
      refine List.map_congr_left fun k _ => ?_
      show D.ref _ = D.ref _
      congr 1
      rw [List.length_append, List.length_singleton]
      simp only [Nat.succ_eq_add_one]
      omega
    · rw [List.map_cons, List.append_assoc]
      rfl
theorem sLC_alloc {α : Type} {it : SI} {g : TgD} {e : SE} {vs : List Nat} {ρ : Ev} {st : Sto} (xs : List α) (φ : α → D) (F : α → MO) (hit : it ρ st = .ok (xs.map φ, none) st) (hz : xs.length ≤ sizeLine)
    (h : ∀ a ∈ xs, ∀ st, ∃ ρ1, g (φ a) (wipeD ρ vs) = some ρ1 ∧ e ρ1 st = .ok (.ref st.length) (st ++ [F a])) : sLC false it g tYesD e vs ρ st = .ok (.lst ((List.range xs.length).map fun k => D.ref (st.length + k))) (st ++ xs.map F) := by
  unfold sLC
  rw [hit]
  simp only [bind_ok, List.length_map]
  rw [if_pos hz, lc_alloc xs 0 st h]
  rfl
theorem lc_alloc2 {α : Type} {g : TgD} {e : SE} {ρ0 : Ev} {φ : α → D} {F : α → MO} {n : Nat} {st : Sto} : ∀ (xs : List α) (i : Nat) (ex : Sto), (∀ a ∈ xs, ∀ ex, ∃ ρ1, g (φ a) ρ0 = some ρ1 ∧ e ρ1 (st ++ ex) = .ok (.ref (st ++ ex).length) (st ++ ex ++ [F a])) →
    loopLC none n g tYesD e ρ0 i (xs.map φ) (st ++ ex) = .ok ((List.range xs.length).map fun k => D.ref ((st ++ ex).length + k)) (st ++ ex ++ xs.map F)
  | [], i, ex, h => by simp [loopLC, finOk]
  | a :: xs, i, ex, h => by
    obtain ⟨ρ1, h1, h2⟩ := h a List.mem_cons_self ex
    have ih := lc_alloc2 (g := g) (e := e) (ρ0 := ρ0) (φ := φ) (F := F) (n := n) (st := st) xs (i + 1) (ex ++ [F a]) fun b hb => h b (List.mem_cons_of_mem _ hb)
    rw [← List.append_assoc] at ih
    rw [List.map_cons, loopLC]
    simp only [fetch, h1, tYesD_e, nx_ok, bind_ok, if_true, h2, ih]
    congr 1
    · rw [List.length_cons, List.range_succ_eq_map, List.map_cons, List.map_map]
      congr 1
      refine List.map_congr_left fun k _ => ?_
      show D.ref _ = D.ref _
      congr 1
      rw [List.length_append, List.length_singleton]
      simp only [Nat.succ_eq_add_one]
      omega
    · rw [List.map_cons, List.append_assoc]
      rfl
theorem sLC_alloc2 {α : Type} {it : SI} {g : TgD} {e : SE} {vs : List Nat} {ρ : Ev} {st : Sto} (xs : List α) (φ : α → D) (F : α → MO) (hit : it ρ st = .ok (xs.map φ, none) st) (hz : xs.length ≤ sizeLine)
    (h : ∀ a ∈ xs, ∀ ex, ∃ ρ1, g (φ a) (wipeD ρ vs) = some ρ1 ∧ e ρ1 (st ++ ex) = .ok (.ref (st ++ ex).length) (st ++ ex ++ [F a])) : sLC false it g tYesD e vs ρ st = .ok (.lst ((List.range xs.length).map fun k => D.ref (st.length + k))) (st ++ xs.map F) := by
  unfold sLC
  rw [hit]
  simp only [bind_ok, List.length_map]
  have := lc_alloc2 (n := xs.length) (st := st) xs 0 [] h
  rw [List.append_nil] at this
  rw [if_pos hz, this]
  rfl
/-- the refs of rows that stand from L on -/
abbrev refsL (L n : Nat) : D := .lst ((List.range n).map fun a => D.ref (L + a))
theorem fIx_refs {n a : Nat} {st : Sto} {L : Nat} (h : a < n) : fIx (refsL L n) (.int (a : Int)) st = .ok (.ref (L + a)) st := fIx_rangeL h
theorem fIx_rowG {n a b : Nat} {F : Nat → Nat → D} {st : Sto} (h : a < n) (hb : b < n) : fIx (.ref (st.length + a)) (.int (b : Int)) (st ++ rowsG n F) = .ok (F a b) (st ++ rowsG n F) :=
  fIx_at (items_ref (rowsG_get F st h)) (rowG_get _ hb)
theorem fSetIx_rowG {n a b : Nat} {F : Nat → Nat → D} {st : Sto} {v : D} (h : a < n) (hb : b < n) : fSetIx (.ref (st.length + a)) (.int (b : Int)) v (st ++ rowsG n F) = some (st ++ rowsG n (updG F a b v)) := by
  rw [fSetIx_ref (rowsG_get F st h) (by simpa using hb), rowsG_set F v st h]
/-- the rows, as tuples -/
theorem tup_rowsG {n : Nat} {F : Nat → Nat → D} {st : Sto} {ρ : Ev} {v w : Nat} (hn : n ≤ 1000) (hρ : ρ[v]? = some (some (refsL st.length n))) (hw : w < ρ.length) :
    sLC false (iSeq (sVar v)) (gN w) tYesD (sB bTuple (aCons (sVar w) aNil)) [w] ρ (st ++ rowsG n F) = .ok (.lst ((List.range n).map fun a => D.tup (rowG n (F a)))) (st ++ rowsG n F) := by
  have := sizeLine_eq
  rw [sLC_map (dy := none) (List.range n) (fun a => D.ref (st.length + a)) (fun a => D.tup (rowG n (F a))) (by simp [hρ]) (still_none _ _) (by simp; omega) fun a ha => ⟨_, rfl, by
    have ha := List.mem_range.mp ha
    have e : (ρ.set w (some (D.ref (st.length + a))))[w]? = some (some (D.ref (st.length + a))) := by
      rw [List.getElem?_set_self hw]
    simp [e, bTuple_ref (rowsG_get F st ha)]⟩]
  rfl
theorem range_step {n i : Nat} {x : Nat} {r : List Nat} (h : List.range n = List.range i ++ x :: r) : x = i ∧ i < n ∧ List.range n = List.range (i + 1) ++ r := by
  have hl := congrArg List.length h
  simp at hl
  have hx := congrArg (fun l : List Nat => l[i]?) h
  rw [List.getElem?_append_right (by simp), List.length_range, Nat.sub_self, List.getElem?_cons_zero, List.getElem?_range (by omega)] at hx
  have : x = i := (Option.some.inj hx).symm
  subst this
  refine ⟨rfl, by omega, ?_⟩
  rw [h, List.range_succ, List.append_assoc]
  rfl
theorem range_end {n i : Nat} (h : List.range n = List.range i ++ []) : i = n := by
  have := congrArg List.length h
  simpa using this.symm
theorem fRep_G (n : Nat) (hn : n ≤ 1000) (d : D) (st : Sto) : fRep true (.lst [d]) (.int (n : Int)) st = .ok (.ref st.length) (st ++ [.lst (rowG n fun _ => d)]) := by
  have e : repL [d] n = rowG n fun _ => d := by
    unfold repL rowG
    rw [List.flatten_replicate_singleton]
    apply List.ext_getElem <;> simp
  have z2 := sizeLine_eq
  unfold fRep
  simp only [litems_lst]
  rw [if_pos (by simp; omega), Int.toNat_natCast, e]
  rfl
/-! numbers -/
abbrev intG (f : Nat → Nat → Int) : Nat → Nat → D := fun a b => .int (f a b)
def upd1 (f : Nat → Nat → Int) (i j : Nat) (v : Int) : Nat → Nat → Int := fun a b => if a = i ∧ b = j then v else f a b
theorem updG_int (f : Nat → Nat → Int) (i j : Nat) (v : Int) : updG (intG f) i j (.int v) = intG (upd1 f i j v) := by
  funext a b
  unfold updG intG upd1
  split <;> rfl
theorem noRef_intG (f : Nat → Nat → Int) : ∀ a b m, noRef m (intG f a b) = true := fun _ _ _ => rfl
/-! ### raw tables -/
structure RawF (n : Nat) (top : Int) (f : Nat → Nat → Int) : Prop where
  dg : ∀ a, f a a = 0
  sy : ∀ a b, a < n → b < n → f a b = f b a
  po : ∀ a b, a < n → b < n → a ≠ b → 1 ≤ f a b ∧ f a b ≤ top
structure RawI (i j : Nat) (top : Int) (f : Nat → Nat → Int) : Prop where
  dg : ∀ a, f a a = 0
  sy : ∀ a b, f a b = f b a
  po : ∀ a b, b < a → (a < i ∨ a = i ∧ b < j) → 1 ≤ f a b ∧ f a b ≤ top
theorem RawI.next {i j : Nat} {top v : Int} {f : Nat → Nat → Int} (h : RawI i j top f) (hj : j < i) (h1 : 1 ≤ v) (h2 : v ≤ top) : RawI i (j + 1) top (upd1 (upd1 f i j v) j i v) := by
  refine ⟨fun a => ?_, fun a b => ?_, fun a b hb hab => ?_⟩
  · unfold upd1
    rw [if_neg (by omega), if_neg (by omega)]
    exact h.dg a
  · unfold upd1
    by_cases c1 : a = j ∧ b = i
    · rw [if_pos c1]
      by_cases c2 : b = j ∧ a = i
      · omega
      · rw [if_neg c2, if_pos ⟨c1.2, c1.1⟩]
    · rw [if_neg c1]
      by_cases c2 : a = i ∧ b = j
      · rw [if_pos c2, if_pos ⟨c2.2, c2.1⟩]
      · rw [if_neg c2, if_neg fun q => c2 ⟨q.2, q.1⟩, if_neg fun q => c1 ⟨q.2, q.1⟩]
        exact h.sy a b
  · unfold upd1
    by_cases c1 : a = j ∧ b = i
    · omega
    · rw [if_neg c1]
      by_cases c2 : a = i ∧ b = j
      · rw [if_pos c2]; exact ⟨h1, h2⟩
      · rw [if_neg c2]
        exact h.po a b hb (by omega)
theorem RawI.up {i : Nat} {top : Int} {f : Nat → Nat → Int} (h : RawI i i top f) : RawI (i + 1) 0 top f :=
  ⟨h.dg, h.sy, fun a b hb hab => h.po a b hb (by omega)⟩
theorem RawI.fin {n : Nat} {top : Int} {f : Nat → Nat → Int} (h : RawI n 0 top f) : RawF n top f :=
  ⟨h.dg, fun a b _ _ => h.sy a b, fun a b ha hb hne => by
    by_cases c : b < a
    · exact h.po a b c (by omega)
    · rw [h.sy a b]
      exact h.po b a (by omega) (by omega)⟩
theorem RawF.tab {n : Nat} {top : Int} {f : Nat → Nat → Int} (h : RawF n top f) (n1 : 1 ≤ n) (n7 : n ≤ 7) (ht : top ≤ 1000) : TabP n f where
  n1 := n1
  n7 := n7
  lo := fun i j hi hj => by
    by_cases e : i = j
    · subst e; have := h.dg i; omega
    · have := h.po i j hi hj e; omega
  dg := fun i j hi hj => by
    constructor
    · intro e
      by_cases q : i = j
      · exact q
      · have := h.po i j hi hj q; omega
    · rintro rfl; exact h.dg i
  sy := fun i j hi hj => h.sy i j hi hj
/-! ### the shortest ways -/
/-- through the place m -/
def thr (d : Nat → Nat → Int) (m a b : Nat) : Int := if d a m + d m b < d a b then d a m + d m b else d a b
/-- through the places below m -/
def fw (d : Nat → Nat → Int) : Nat → Nat → Nat → Int
  | 0 => d
  | m + 1 => thr (fw d m) m
theorem thr_le (d : Nat → Nat → Int) (m a b : Nat) : thr d m a b ≤ d a b ∧ thr d m a b ≤ d a m + d m b ∧ (thr d m a b = d a b ∨ thr d m a b = d a m + d m b) := by
  unfold thr
  split
  · exact ⟨by omega, by omega, .inr rfl⟩
  · exact ⟨by omega, by omega, .inl rfl⟩
structure Met (n : Nat) (f : Nat → Nat → Int) : Prop where
  dg : ∀ a, a < n → f a a = 0
  nn : ∀ a b, a < n → b < n → 0 ≤ f a b
theorem Met.thr {n m : Nat} {d : Nat → Nat → Int} (h : Met n d) (hm : m < n) : Met n (thr d m) := by
  refine ⟨fun a ha => ?_, fun a b ha hb => ?_⟩
  · have h1 := h.dg a ha
    have h2 := h.nn a m ha hm
    have h3 := h.nn m a hm ha
    obtain ⟨q1, q2, q3⟩ := thr_le d m a a
    omega
  · have h1 := h.nn a b ha hb
    have h2 := h.nn a m ha hm
    have h3 := h.nn m b hm hb
    obtain ⟨q1, q2, q3⟩ := thr_le d m a b
    omega
theorem Met.fw {n : Nat} {d : Nat → Nat → Int} (h : Met n d) : ∀ m, m ≤ n → Met n (fw d m)
  | 0, _ => h
  | m + 1, hm => (Met.fw h m (by omega)).thr (by omega)
theorem fw_le {n : Nat} {d : Nat → Nat → Int} : ∀ (m a b : Nat), fw d m a b ≤ d a b
  | 0, _, _ => Int.le_refl _
  | m + 1, a, b => Int.le_trans (thr_le (fw d m) m a b).1 (fw_le (n := n) m a b)
theorem fw_sy {n : Nat} {d : Nat → Nat → Int} (h : ∀ a b, a < n → b < n → d a b = d b a) : ∀ m, m ≤ n → ∀ a b, a < n → b < n → fw d m a b = fw d m b a
  | 0, _, a, b, ha, hb => h a b ha hb
  | m + 1, hm, a, b, ha, hb => by
    have ih := fw_sy h m (by omega)
    show thr _ _ _ _ = thr _ _ _ _
    unfold thr
    rw [ih a b ha hb, ih a m ha (by omega), ih m b (by omega) hb, Int.add_comm]
theorem fw_po {n : Nat} {d : Nat → Nat → Int} (hd : Met n d) (h : ∀ a b, a < n → b < n → a ≠ b → 1 ≤ d a b) : ∀ m, m ≤ n → ∀ a b, a < n → b < n → a ≠ b → 1 ≤ fw d m a b
  | 0, _, a, b, ha, hb, e => h a b ha hb e
  | m + 1, hm, a, b, ha, hb, e => by
    have ih := fw_po hd h m (by omega)
    have mt := hd.fw m (by omega)
    have h1 := ih a b ha hb e
    have h2 := mt.nn a m ha (by omega)
    have h3 := mt.nn m b (by omega) hb
    obtain ⟨q1, q2, q3⟩ := thr_le (fw d m) m a b
    show 1 ≤ thr (fw d m) m a b
    rcases q3 with q | q
    · omega
    · by_cases e1 : a = m
      · subst e1
        have := mt.dg a ha
        omega
      · have := ih a m ha (by omega) e1
        omega
theorem fw_tr0 {n : Nat} {d : Nat → Nat → Int} (hd : Met n d) : ∀ m, m ≤ n → ∀ k a b, k < m → a < n → b < n → fw d m a b ≤ fw d m a k + fw d m k b
  | 0, _, k, a, b, hk, _, _ => absurd hk (by omega)
  | m + 1, hm, k, a, b, hk, ha, hb => by
    have ih := fw_tr0 hd m (by omega)
    have mt := hd.fw m (by omega)
    show thr (fw d m) m a b ≤ thr (fw d m) m a k + thr (fw d m) m k b
    obtain ⟨q1, q2, q3⟩ := thr_le (fw d m) m a b
    obtain ⟨r1, r2, r3⟩ := thr_le (fw d m) m a k
    obtain ⟨s1, s2, s3⟩ := thr_le (fw d m) m k b
    have hmn : m < n := by omega
    have hkn : k < n := by omega
    have n1 := mt.nn a m ha hmn
    have n2 := mt.nn m k hmn hkn
    have n3 := mt.nn k m hkn hmn
    have n4 := mt.nn m b hmn hb
    have n5 := mt.dg m hmn
    by_cases e : k = m
    · subst e
      rw [n5] at *
      omega
    · have t1 := ih k a b (by omega) ha hb
      have t2 := ih k m b (by omega) hmn hb
      have t3 := ih k a m (by omega) ha hmn
      omega
theorem fw_tr {n : Nat} {d : Nat → Nat → Int} (hd : Met n d) : Tri n (fw d n) := fun i j k hi hj hk => fw_tr0 hd n (Nat.le_refl _) j i k hj hi hk
theorem fw_id {n : Nat} {d : Nat → Nat → Int} (h : Tri n d) : ∀ m, m ≤ n → ∀ a b, a < n → b < n → fw d m a b = d a b
  | 0, _, a, b, ha, hb => rfl
  | m + 1, hm, a, b, ha, hb => by
    have ih := fw_id h m (by omega)
    show thr (fw d m) m a b = d a b
    have t := h a m b ha (by omega) hb
    unfold thr
    rw [ih a b ha hb, ih a m ha (by omega), ih m b (by omega) hb, if_neg (by omega)]
/-- the greatest below -/
theorem fw_ge {n : Nat} {d g : Nat → Nat → Int} (hg : Tri n g) (h : ∀ a b, a < n → b < n → g a b ≤ d a b) : ∀ m, m ≤ n → ∀ a b, a < n → b < n → g a b ≤ fw d m a b
  | 0, _, a, b, ha, hb => h a b ha hb
  | m + 1, hm, a, b, ha, hb => by
    have ih := fw_ge hg h m (by omega)
    show g a b ≤ thr (fw d m) m a b
    have t := hg a m b ha (by omega) hb
    have i1 := ih a b ha hb
    have i2 := ih a m ha (by omega)
    have i3 := ih m b (by omega) hb
    obtain ⟨q1, q2, q3⟩ := thr_le (fw d m) m a b
    omega
structure Pass (d : Nat → Nat → Int) (n m i j : Nat) (f : Nat → Nat → Int) : Prop where
  at_ : ∀ a b, a < n → b < n → f a b = if a < i ∨ a = i ∧ b < j then thr d m a b else d a b
theorem Pass.im {d f : Nat → Nat → Int} {n m i j : Nat} (hd : Met n d) (hm : m < n) (hi : i < n) (h : Pass d n m i j f) : f i m = d i m := by
  have z := hd.dg m hm
  rw [h.at_ i m hi hm]
  split
  · unfold thr
    rw [z]
    split
    · omega
    · rfl
  · rfl
theorem Pass.mj {d f : Nat → Nat → Int} {n m i j : Nat} (hd : Met n d) (hm : m < n) {b : Nat} (hb : b < n) (h : Pass d n m i j f) : f m b = d m b := by
  have z := hd.dg m hm
  rw [h.at_ m b hm hb]
  split
  · unfold thr
    rw [z]
    split
    · omega
    · rfl
  · rfl
theorem Pass.next {d f : Nat → Nat → Int} {n m i j : Nat} (hd : Met n d) (hm : m < n) (hi : i < n) (hj : j < n) (h : Pass d n m i j f) :
    Pass d n m i (j + 1) (upd1 f i j (if f i m + f m j < f i j then f i m + f m j else f i j)) := by
  have e1 := h.im hd hm hi
  have e2 := h.mj hd hm hj
  have e3 : f i j = d i j := by
    rw [h.at_ i j hi hj, if_neg (by omega)]
  refine ⟨fun a b ha hb => ?_⟩
  unfold upd1
  by_cases c : a = i ∧ b = j
  · obtain ⟨rfl, rfl⟩ := c
    rw [if_pos ⟨rfl, rfl⟩, e1, e2, e3, if_pos (show a < a ∨ a = a ∧ b < b + 1 from .inr ⟨rfl, by omega⟩)]
    rfl
  · rw [if_neg c, h.at_ a b ha hb]
    by_cases c2 : a < i ∨ a = i ∧ b < j
    · rw [if_pos c2, if_pos (by omega)]
    · rw [if_neg c2, if_neg (by omega)]
theorem Pass.up {d f : Nat → Nat → Int} {n m i : Nat} (h : Pass d n m i n f) : Pass d n m (i + 1) 0 f :=
  ⟨fun a b ha hb => by
    rw [h.at_ a b ha hb]
    by_cases c : a < i ∨ a = i ∧ b < n
    · rw [if_pos c, if_pos (by omega)]
    · rw [if_neg c, if_neg (by omega)]⟩
theorem Pass.fin {d f : Nat → Nat → Int} {n m : Nat} (h : Pass d n m n 0 f) : ∀ a b, a < n → b < n → f a b = thr d m a b := fun a b ha hb => by
  rw [h.at_ a b ha hb, if_pos (by omega)]
theorem thr_congr {n : Nat} {d e : Nat → Nat → Int} (h : ∀ a b, a < n → b < n → d a b = e a b) {m : Nat} (hm : m < n) {a b : Nat} (ha : a < n) (hb : b < n) : thr d m a b = thr e m a b := by
  unfold thr
  rw [h a b ha hb, h a m ha hm, h m b hm hb]
/-- rows of numbers, as they are handed in -/
def RowsIn (st : Sto) (n : Nat) (f : Nat → Nat → Int) (x : D) : Prop := ∃ φ : Nat → D, items st x = some ((List.range n).map φ) ∧ dynOf x = none ∧ ∀ a, a < n → ∀ ex, bList true [φ a] (st ++ ex) = .ok (.ref (st ++ ex).length) (st ++ ex ++ [.lst (rowG n (intG f a))])
theorem rowsIn_tab (st : Sto) (n : Nat) (f : Nat → Nat → Int) : RowsIn st n f (tabT n f) := ⟨fun a => rowT n f a, rfl, rfl, fun _ _ _ => rfl⟩
abbrev tabL (n : Nat) (f : Nat → Nat → Int) : D := .lst ((List.range n).map fun a => D.lst (rowG n (intG f a)))
theorem rowsIn_lst (st : Sto) (n : Nat) (f : Nat → Nat → Int) : RowsIn st n f (tabL n f) := ⟨fun a => .lst (rowG n (intG f a)), rfl, rfl, fun _ _ _ => rfl⟩
theorem rowsIn_refs (st : Sto) (n : Nat) (f : Nat → Nat → Int) : RowsIn (st ++ rowsG n (intG f)) n f (refsL st.length n) := ⟨fun a => .ref (st.length + a), rfl, rfl, fun a ha ex => by
  unfold bList
  simp only [items_ref (show ((st ++ rowsG n (intG f)) ++ ex)[st.length + a]? = some (.lst (rowG n (intG f a))) by rw [List.getElem?_append_left (by simp [rowsG_len]; omega)]; exact rowsG_get _ _ ha)]
  rfl⟩
end Lw90
namespace Lw90
open PySem PD
variable {st : Sto}
/-! ### shortest -/
theorem enum_still {st : Sto} {l n : Nat} {φ : Nat → D} (h : st[l]? = some (.lst ((List.range n).map φ))) : Still (some (.inr l)) ((List.range n).map fun i : Nat => D.tpl [.int (i : Int), φ i]) st := by
  rw [← enum_range]
  exact still_enum h
theorem fNotN2_i (st : Sto) (i : Int) : fNotN2 (.int i) .non st = .ok (.bl true) st := rfl
theorem fIsN2_i (st : Sto) (i : Int) : fIsN2 (.int i) .non st = .ok (.bl false) st := rfl
theorem Pass.same {d f : Nat → Nat → Int} {n m i j : Nat} (h : Pass d n m i j f) (hj : j < n) (hi : i < n) (e : ¬ d i m + d m j < d i j) : Pass d n m i (j + 1) f := ⟨fun a b ha hb => by
  rw [h.at_ a b ha hb]
  by_cases c : a < i ∨ a = i ∧ b < j
  · rw [if_pos c, if_pos (by omega)]
  · rw [if_neg c]
    by_cases c2 : a = i ∧ b = j
    · obtain ⟨rfl, rfl⟩ := c2
      rw [if_pos (by omega)]
      unfold thr
      rw [if_neg e]
    · rw [if_neg (by omega)]⟩
end Lw90
namespace Lw90
open PySem PD
variable {st : Sto}
/-! ### ways -/
def wsum (w : Nat → Nat → Int) : List Nat → Int
  | [] => 0
  | [_] => 0
  | a :: b :: r => w a b + wsum w (b :: r)
def lastN : List Nat → Nat
  | [] => 0
  | [a] => a
  | _ :: b :: r => lastN (b :: r)
theorem lastN_cons (a b : Nat) (r : List Nat) : lastN (a :: b :: r) = lastN (b :: r) := rfl
theorem lastN_mem : ∀ (a : Nat) (r : List Nat), lastN (a :: r) ∈ a :: r
  | a, [] => List.mem_cons_self
  | a, b :: r => List.mem_cons_of_mem _ (lastN_mem b r)
theorem lastN_app : ∀ (a : Nat) (r : List Nat) (b : Nat) (s : List Nat), lastN (a :: r ++ b :: s) = lastN (b :: s)
  | a, [], b, s => rfl
  | a, c :: r, b, s => lastN_app c r b s
theorem lastN_snoc : ∀ (l : List Nat) (b : Nat), lastN (l ++ [b]) = b
  | [], b => rfl
  | a :: r, b => lastN_app a r b []
theorem wsum_tri {n : Nat} {g : Nat → Nat → Int} (hg : Tri n g) (h0 : ∀ a, a < n → g a a = 0) : ∀ (a : Nat) (r : List Nat), (∀ x ∈ a :: r, x < n) → g a (lastN (a :: r)) ≤ wsum g (a :: r)
  | a, [], h => by
    show g a a ≤ 0
    rw [h0 a (h a List.mem_cons_self)]; exact Int.le_refl _
  | a, b :: r, h => by
    have ih := wsum_tri hg h0 b r fun x hx => h x (List.mem_cons_of_mem _ hx)
    have t := hg a b (lastN (b :: r)) (h a List.mem_cons_self) (h b (List.mem_cons_of_mem _ List.mem_cons_self)) (h _ (List.mem_cons_of_mem _ (lastN_mem b r)))
    show g a (lastN (b :: r)) ≤ g a b + wsum g (b :: r)
    omega
theorem wsum_mono {n : Nat} {g d : Nat → Nat → Int} (h : ∀ a b, a < n → b < n → g a b ≤ d a b) : ∀ (l : List Nat), (∀ x ∈ l, x < n) → wsum g l ≤ wsum d l
  | [], _ => Int.le_refl _
  | [_], _ => Int.le_refl _
  | a :: b :: r, hl => by
    have ih := wsum_mono h (b :: r) fun x hx => hl x (List.mem_cons_of_mem _ hx)
    have := h a b (hl a List.mem_cons_self) (hl b (List.mem_cons_of_mem _ List.mem_cons_self))
    show g a b + wsum g (b :: r) ≤ d a b + wsum d (b :: r)
    omega
theorem fw_le_wsum {n : Nat} {d : Nat → Nat → Int} (hd : Met n d) (a : Nat) (r : List Nat) (h : ∀ x ∈ a :: r, x < n) : fw d n a (lastN (a :: r)) ≤ wsum d (a :: r) :=
  Int.le_trans (wsum_tri (fw_tr hd) (hd.fw n (Nat.le_refl _)).dg a r h) (wsum_mono (fun a b _ _ => fw_le (n := n) n a b) _ h)
theorem wsum_app (w : Nat → Nat → Int) : ∀ (a : Nat) (r : List Nat) (s : List Nat), wsum w (a :: r ++ s) = wsum w (a :: r) + wsum w (lastN (a :: r) :: s)
  | a, [], s => by
    show wsum w (a :: s) = 0 + wsum w (a :: s)
    omega
  | a, b :: r, s => by
    have ih := wsum_app w b r s
    show w a b + wsum w (b :: r ++ s) = w a b + wsum w (b :: r) + wsum w (lastN (b :: r) :: s)
    rw [ih]
    omega
theorem fw_walk {n : Nat} {d : Nat → Nat → Int} : ∀ m, m ≤ n → ∀ a b, a < n → b < n → ∃ r, (∀ x ∈ a :: r, x < n) ∧ lastN (a :: r) = b ∧ wsum d (a :: r) = fw d m a b
  | 0, _, a, b, ha, hb => ⟨[b], fun x hx => by
      simp only [List.mem_cons, List.not_mem_nil, or_false] at hx
      rcases hx with rfl | rfl <;> assumption, rfl, by show d a b + 0 = d a b; omega⟩
  | m + 1, hm, a, b, ha, hb => by
    have ih := fw_walk (n := n) (d := d) m (by omega)
    obtain ⟨q1, q2, q3⟩ := thr_le (fw d m) m a b
    show ∃ r, _ ∧ _ ∧ _ = thr (fw d m) m a b
    rcases q3 with q | q
    · rw [q]; exact ih a b ha hb
    · rw [q]
      obtain ⟨r, r1, r2, r3⟩ := ih a m ha (by omega)
      obtain ⟨s, s1, s2, s3⟩ := ih m b (by omega) hb
      refine ⟨r ++ s, fun x hx => ?_, ?_, ?_⟩
      · rw [← List.cons_append] at hx
        rcases List.mem_append.mp hx with h | h
        · exact r1 x h
        · exact s1 x (List.mem_cons_of_mem _ h)
      · rw [← List.cons_append]
        cases s with
        | nil =>
          rw [List.append_nil, r2]
          exact s2
        | cons c s => rw [lastN_app]; exact s2
      · rw [← List.cons_append, wsum_app, r2, r3, s3]
/-- a way without a place twice that is no longer -/
theorem shorten {n : Nat} {w : Nat → Nat → Int} (hw : ∀ a b, a < n → b < n → 0 ≤ w a b) : ∀ (a : Nat) (r : List Nat), (∀ x ∈ a :: r, x < n) → ∃ s, (a :: s).Nodup ∧ (∀ x ∈ a :: s, x < n) ∧ lastN (a :: s) = lastN (a :: r) ∧ wsum w (a :: s) ≤ wsum w (a :: r)
  | a, [], h => ⟨[], by simp, h, rfl, Int.le_refl _⟩
  | a, b :: r, h => by
    obtain ⟨s, s1, s2, s3, s4⟩ := shorten hw b r fun x hx => h x (List.mem_cons_of_mem _ hx)
    have ha := h a List.mem_cons_self
    have hb := h b (List.mem_cons_of_mem _ List.mem_cons_self)
    by_cases m : a ∈ b :: s
    · obtain ⟨p, q, e⟩ := List.append_of_mem m
      refine ⟨q, ?_, fun x hx => s2 x (by rw [e]; exact List.mem_append_right _ hx), ?_, ?_⟩
      · rw [e] at s1
        exact (List.nodup_append.mp s1).2.1
      · rw [lastN_cons, ← s3, e]
        cases p with
        | nil => rfl
        | cons c p => rw [lastN_app]
      · have nn : 0 ≤ w a b := hw a b ha hb
        have : wsum w (a :: q) ≤ wsum w (b :: s) := by
          rw [e]
          cases p with
          | nil => exact Int.le_refl _
          | cons c p =>
            have hp : ∀ x ∈ c :: p ++ a :: q, x < n := fun x hx => s2 x (by rw [e]; exact hx)
            clear e m s1 s2 s3 s4
            induction p generalizing c with
            | nil =>
              have := hw c a (hp c (by simp)) ha
              show _ ≤ w c a + wsum w (a :: q)
              omega
            | cons e p ih =>
              have := hw c e (hp c (by simp)) (hp e (by simp))
              have ih := ih e fun x hx => hp x (List.mem_cons_of_mem _ hx)
              show _ ≤ w c e + wsum w (e :: p ++ a :: q)
              omega
        show _ ≤ w a b + wsum w (b :: r)
        omega
    · refine ⟨b :: s, List.nodup_cons.mpr ⟨m, s1⟩, fun x hx => ?_, ?_, ?_⟩
      · rcases List.mem_cons.mp hx with rfl | hx
        · exact ha
        · exact s2 x hx
      · rw [lastN_cons, lastN_cons, s3]
      · show w a b + wsum w (b :: s) ≤ w a b + wsum w (b :: r)
        omega
/-! all ways of so many steps -/
def nextW (n : Nat) (way : List Nat) : List (List Nat) := ((List.range n).filter fun x => !decide (x ∈ way)).map fun x => way ++ [x]
def waysN (n : Nat) : Nat → List (List Nat)
  | 0 => (List.range n).map fun x => [x]
  | k + 1 => (waysN n k).flatMap (nextW n)
theorem mem_waysN {n : Nat} : ∀ {k : Nat} {l : List Nat}, l ∈ waysN n k ↔ l.length = k + 1 ∧ l.Nodup ∧ ∀ x ∈ l, x < n
  | 0, l => by
    unfold waysN
    rw [List.mem_map]
    constructor
    · rintro ⟨x, hx, rfl⟩
      exact ⟨rfl, by simp, fun y hy => by rw [List.mem_singleton.mp hy]; exact List.mem_range.mp hx⟩
    · rintro ⟨h1, h2, h3⟩
      match l, h1 with
      | [x], _ => exact ⟨x, List.mem_range.mpr (h3 x List.mem_cons_self), rfl⟩
  | k + 1, l => by
    unfold waysN
    rw [List.mem_flatMap]
    constructor
    · rintro ⟨p, hp, hl⟩
      obtain ⟨h1, h2, h3⟩ := mem_waysN.mp hp
      obtain ⟨x, hx, rfl⟩ := List.mem_map.mp hl
      obtain ⟨hx1, hx2⟩ := List.mem_filter.mp hx
      have hx2 : ¬ x ∈ p := by simpa using hx2
      refine ⟨by simp [h1], ?_, fun y hy => ?_⟩
      · rw [List.nodup_append]
        exact ⟨h2, by simp, fun a ha b hb e => hx2 (by rw [List.mem_singleton.mp hb] at e; exact e ▸ ha)⟩
      · rcases List.mem_append.mp hy with hy | hy
        · exact h3 y hy
        · rw [List.mem_singleton.mp hy]; exact List.mem_range.mp hx1
    · rintro ⟨h1, h2, h3⟩
      have ne : l ≠ [] := fun e => by rw [e] at h1; cases h1
      obtain ⟨p, x, rfl⟩ : ∃ p x, l = p ++ [x] := ⟨l.dropLast, l.getLast ne, (List.dropLast_concat_getLast ne).symm⟩
      obtain ⟨d1, d2, d3⟩ := List.nodup_append.mp h2
      refine ⟨p, mem_waysN.mpr ⟨by simpa using h1, d1, fun y hy => h3 y (List.mem_append_left _ hy)⟩, List.mem_map.mpr ⟨x, List.mem_filter.mpr ⟨List.mem_range.mpr (h3 x (by simp)), ?_⟩, rfl⟩⟩
      simp only [Bool.not_eq_true', decide_eq_false_iff_not]
      exact fun hx => d3 x hx x List.mem_cons_self rfl
theorem nodup_len : ∀ {n : Nat} {l : List Nat}, l.Nodup → (∀ x ∈ l, x < n) → l.length ≤ n
  | 0, l, _, hl => by
    cases l with
    | nil => exact Nat.le_refl _
    | cons a r => exact absurd (hl a List.mem_cons_self) (by omega)
  | n + 1, l, h, hl => by
    by_cases m : n ∈ l
    · have ih := nodup_len (n := n) (h.erase n) fun x hx => by
        obtain ⟨h1, h2⟩ := h.mem_erase_iff.mp hx
        have := hl x h2
        omega
      rw [List.length_erase_of_mem m] at ih
      omega
    · have ih := nodup_len (n := n) h fun x hx => by
        have := hl x hx
        by_cases e : x = n
        · exact absurd (e ▸ hx) m
        · omega
      omega
/-- the least of the ways of the fewest places that are too short -/
def shortW (n : Nat) (lo hi : Nat → Nat → Int) : Option (List Nat) :=
  (List.range (n - 1)).findSome? fun t => (waysN n (t + 1)).find? fun w => decide (wsum hi w < lo (w.headD 0) (lastN w))
theorem shortW_some {n : Nat} {lo hi : Nat → Nat → Int} {w : List Nat} (h : shortW n lo hi = some w) : 2 ≤ w.length ∧ w.length ≤ n ∧ (∀ x ∈ w, x < n) ∧ wsum hi w < lo (w.headD 0) (lastN w) := by
  unfold shortW at h
  obtain ⟨t, ht, e⟩ := List.exists_of_findSome?_eq_some h
  have hm := List.mem_of_find?_eq_some e
  have hp := List.find?_some e
  obtain ⟨h1, h2, h3⟩ := mem_waysN.mp hm
  have := List.mem_range.mp ht
  exact ⟨by omega, by omega, h3, of_decide_eq_true hp⟩
theorem shortW_none {n : Nat} {lo hi : Nat → Nat → Int} (hh : Met n hi) (hl : ∀ a, a < n → lo a a ≤ 0) : shortW n lo hi = none ↔ ∀ i j, i < n → j < n → lo i j ≤ fw hi n i j := by
  constructor
  · intro h i j hi' hj
    refine Int.not_lt.mp fun lt => ?_
    obtain ⟨r, r1, r2, r3⟩ := fw_walk (n := n) (d := hi) n (Nat.le_refl _) i j hi' hj
    obtain ⟨s, s1, s2, s3, s4⟩ := shorten hh.nn i r r1
    have ne : s ≠ [] := fun e => by
      subst e
      rw [r2] at s3
      have : i = j := s3
      subst this
      have := hl i hi'
      have := (hh.fw n (Nat.le_refl _)).nn i i hi' hi'
      omega
    have len := nodup_len s1 s2
    have lp : 0 < s.length := List.length_pos_iff.mpr ne
    simp only [List.length_cons] at len
    unfold shortW at h
    rw [List.findSome?_eq_none_iff] at h
    have h1 := h (s.length - 1) (List.mem_range.mpr (by omega))
    rw [List.find?_eq_none] at h1
    have h2 := h1 (i :: s) (mem_waysN.mpr ⟨by simp; omega, s1, s2⟩)
    apply h2
    apply decide_eq_true
    rw [s3, r2]
    show _ < lo i j
    omega
  · intro h
    unfold shortW
    rw [List.findSome?_eq_none_iff]
    intro t ht
    rw [List.find?_eq_none]
    intro w hw
    obtain ⟨h1, h2, h3⟩ := mem_waysN.mp hw
    cases w with
    | nil => cases h1
    | cons a r =>
      have q := fw_le_wsum hh a r h3
      have q2 := h a (lastN (a :: r)) (h3 a List.mem_cons_self) (h3 _ (lastN_mem a r))
      intro hlt
      have := of_decide_eq_true hlt
      simp only [List.headD_cons] at this
      omega
end Lw90
namespace Lw90
open PySem PD
variable {st : Sto}
/-! ### doubts -/
abbrev pairI (a b : Int) : D := .tup [.int a, .int b]
abbrev pairG (lo hi : Nat → Nat → Int) : Nat → Nat → D := fun i j => pairI (lo i j) (hi i j)
abbrev drow (n : Nat) (lo hi : Nat → Nat → Int) (i : Nat) : D := .tup ((List.range n).map fun j : Nat => pairG lo hi i j)
abbrev dtb (n : Nat) (lo hi : Nat → Nat → Int) : D := .tup ((List.range n).map fun i : Nat => drow n lo hi i)
structure Dbt (n : Nat) (lo hi : Nat → Nat → Int) : Prop where
  n1 : 1 ≤ n
  n7 : n ≤ 7
  dg : ∀ i, i < n → lo i i = 0 ∧ hi i i = 0
  ps : ∀ i j, i < n → j < n → i ≠ j → 1 ≤ lo i j ∧ lo i j ≤ hi i j ∧ hi i j ≤ 1000
  sl : ∀ i j, i < n → j < n → lo i j = lo j i
  sh : ∀ i j, i < n → j < n → hi i j = hi j i
theorem Dbt.met {n : Nat} {lo hi : Nat → Nat → Int} (h : Dbt n lo hi) : Met n hi where
  dg := fun a ha => (h.dg a ha).2
  nn := fun a b ha hb => by
    by_cases e : a = b
    · subst e; rw [(h.dg a ha).2]; exact Int.le_refl _
    · have := h.ps a b ha hb e; omega
theorem fz_dtb (f n : Nat) (lo hi : Nat → Nat → Int) : Fz (f + 3) (dtb n lo hi) := fz_map _ _ _ fun _ _ => fz_map _ _ _ fun _ _ => fz_row _ [_, _]
theorem toPy_pairI (st : Sto) (n : Nat) (a b : Int) : toPy st (n + 1) (pairI a b) = some (.tuple [.int a, .int b]) := toPy_tupInts st n [a, b]
theorem fEq_pairI (st : Sto) (a b c d : Int) : fEq (pairI a b) (pairI c d) st = .ok (.bl (decide (a = c) && decide (b = d))) st := by
  unfold fEq
  rw [toPy_pairI st 59, toPy_pairI st 59]
  simp only [PyData.eqv, PyData.eqvAll, eqv_int, Bool.and_true]
  simp [PyData.eqv, PyData.eqvAll, Bool.beq_eq_decide_eq]
def boundB (a b : Int) (own : Bool) : Bool := (decide (0 ≤ a ∧ a ≤ 1000) && decide (0 ≤ b ∧ b ≤ 1000)) && (if own = true then decide (a = 0) && decide (b = 0) else decide (1 ≤ a) && decide (a ≤ b))
theorem fIx_p0 (st : Sto) (a b : D) : fIx (.tup [a, b]) (.int 0) st = .ok a st := fIx_tup (i := 0) rfl
theorem fIx_p1 (st : Sto) (a b : D) : fIx (.tup [a, b]) (.int 1) st = .ok b st := fIx_tup (i := 1) rfl
theorem bAll_two (a b : Bool) (st : Sto) : bAll [.lst [.bl a, .bl b]] st = .ok (.bl (a && b)) st := by simp [bAll, allBl]
def rowOkB (n : Nat) (lo hi : Nat → Nat → Int) (i : Nat) : Bool := (List.range n).all fun j => boundB (lo i j) (hi i j) (decide (i = j))
def symB (lo hi : Nat → Nat → Int) (i : Nat) : Bool := (List.range i).all fun j => decide (lo i j = lo j i) && decide (hi i j = hi j i)
def doubtB (n : Nat) (lo hi : Nat → Nat → Int) : Bool := ((List.range n).all fun i => rowOkB n lo hi i) && (List.range n).all fun i => symB lo hi i
theorem findSome_all {α : Type} (p : α → Bool) (d : D) : ∀ l : List α, (l.findSome? fun a => if p a = true then none else some d) = if l.all p = true then none else some d
  | [] => rfl
  | a :: l => by
    rw [List.findSome?_cons, List.all_cons]
    cases q : p a with
    | true => simpa [q] using findSome_all p d l
    | false => simp
theorem nat_dec (i j : Nat) : decide ((i : Int) = (j : Int)) = decide (i = j) := by
  apply Bool.eq_iff_iff.mpr
  rw [decide_eq_true_eq, decide_eq_true_eq]
  omega
theorem Dbt.ok {n : Nat} {lo hi : Nat → Nat → Int} (h : Dbt n lo hi) : doubtB n lo hi = true := by
  unfold doubtB
  rw [Bool.and_eq_true, List.all_eq_true, List.all_eq_true]
  refine ⟨fun i hi' => ?_, fun i hi' => ?_⟩
  · have hi' := List.mem_range.mp hi'
    unfold rowOkB
    rw [List.all_eq_true]
    intro j hj
    have hj := List.mem_range.mp hj
    unfold boundB
    by_cases e : i = j
    · subst e
      obtain ⟨a, b⟩ := h.dg i hi'
      rw [a, b]
      simp
    · obtain ⟨a, b, c⟩ := h.ps i j hi' hj e
      rw [decide_eq_true (show 0 ≤ lo i j ∧ lo i j ≤ 1000 by omega), decide_eq_true (show 0 ≤ hi i j ∧ hi i j ≤ 1000 by omega), decide_eq_false e, decide_eq_true a, decide_eq_true b]
      rfl
  · have hi' := List.mem_range.mp hi'
    unfold symB
    rw [List.all_eq_true]
    intro j hj
    have hj := List.mem_range.mp hj
    rw [h.sl i j hi' (by omega), h.sh i j hi' (by omega)]
    simp
/-! ### what fits -/
def fitB (n : Nat) (lo hi g : Nat → Nat → Int) : Bool := (List.range n).all fun i => (List.range n).all fun j => decide (lo i j ≤ g i j) && decide (g i j ≤ hi i j)
theorem fIsN2_tri (st : Sto) (o : Option (Nat × Nat × Nat)) : fIsN2 (triD o) .non st = .ok (.bl o.isNone) st := by
  cases o with
  | none => rfl
  | some p => obtain ⟨i, j, k⟩ := p; rfl
/-! ### the greatest, the ways -/
theorem highs_lc {ρ : Ev} {st : Sto} {n : Nat} (n7 : n ≤ 7) {lo hi : Nat → Nat → Int} (h0 : ρ[0]? = some (some (dtb n lo hi))) (hl : ρ.length = 4) :
    sLC false (iSeq (sVar 0)) (gN 1) tYesD (sLC false (iSeq (sVar 1)) (gT2 (gN 2) (gN 3)) tYesD (sVar 3) [2, 3]) [1] ρ st = .ok (tabL n hi) st := by
  have z2 := sizeLine_eq
  rw [sLC_map (dy := none) (List.range n) (fun i => drow n lo hi i) (fun i => D.lst (rowG n (intG hi i))) (by simp_arith! [iSeq_e, h0]) (still_none _ _) (by simp; omega) fun i hi' => ⟨_, rfl, by
    rw [sLC_map (dy := none) (List.range n) (fun j => pairG lo hi i j) (fun j => D.int (hi i j)) (by simp_arith! [iSeq_e, hl]) (still_none _ _) (by simp; omega) fun j hj => ⟨_, rfl, by simp_arith! [hl]⟩]
    rfl⟩]
  rfl
theorem fz_tabL (f n : Nat) (g : Nat → Nat → Int) : Fz (f + 2) (tabL n g) := fz_mapL _ _ _ fun _ _ => fz_mapL _ _ _ fun _ _ => fz_int _ _
theorem nats_snoc (way : List Nat) (x : Nat) : nats (way ++ [x]) = .tup (way.map (fun m : Nat => D.int (m : Int)) ++ [.int (x : Int)]) := by simp [nats]
theorem fAdd_nats {st : Sto} (way : List Nat) (x : Nat) (h : way.length ≤ 1000) : fAdd (nats way) (.tup [.int (x : Int)]) st = .ok (nats (way ++ [x])) st := by
  have := sizeLine_eq
  rw [nats_snoc]
  unfold fAdd
  dsimp only [nats]
  rw [if_pos (by simp; omega)]
theorem ways_small0 : (List.range 6).all (fun n => (List.range 6).all fun k => decide ((waysN n k).length ≤ 120)) = true := by decide +kernel
theorem ways_small {n k : Nat} (hn : n ≤ 5) (hk : k ≤ 5) : (waysN n k).length ≤ 120 := of_decide_eq_true (List.all_eq_true.mp (List.all_eq_true.mp ways_small0 n (List.mem_range.mpr (by omega))) k (List.mem_range.mpr (by omega)))
theorem fIx_head {st : Sto} {w : List Nat} (h : w ≠ []) : fIx (nats w) (.int 0) st = .ok (.int (w.headD 0 : Nat)) st := by
  cases w with
  | nil => exact absurd rfl h
  | cons a r => exact fIx_tup (i := 0) rfl
theorem fIx_lastN {st : Sto} {w : List Nat} (h : w ≠ []) : fIx (nats w) (.int (-1)) st = .ok (.int (lastN w : Nat)) st := by
  obtain ⟨p, x, rfl⟩ : ∃ p x, w = p ++ [x] := ⟨w.dropLast, w.getLast h, (List.dropLast_concat_getLast h).symm⟩
  rw [lastN_snoc]
  exact fIx_last (xs := p.map fun m : Nat => D.int (m : Int)) (by rw [nats_snoc]; rfl)
theorem wsum_zip (w : Nat → Nat → Int) : ∀ l : List Nat, ((l.zip l.tail).map fun p => w p.1 p.2).sum = wsum w l
  | [] => rfl
  | [_] => rfl
  | a :: b :: r => by
    have ih := wsum_zip w (b :: r)
    simp only [List.tail_cons, List.zip_cons_cons, List.map_cons, List.sum_cons] at ih ⊢
    rw [ih]
    rfl
theorem allInt_map {α : Type} (f : α → Int) (l : List α) : allInt (l.map fun a => D.int (f a)) = some (l.map f) := by
  induction l with
  | nil => rfl
  | cons a l ih => rw [List.map_cons, List.map_cons, allInt, ih]; rfl
theorem bSum_map {α : Type} (f : α → Int) (l : List α) (st : Sto) : bSum [.lst (l.map fun a => D.int (f a))] st = .ok (.int (l.map f).sum) st := by
  unfold bSum
  simp only [litems_lst, Option.bind_some, allInt_map]
theorem find_findSome {α β : Type} (p : α → Bool) (g : α → β) : ∀ l : List α, (l.findSome? fun a => if p a = true then some (g a) else none) = (l.find? p).map g
  | [] => rfl
  | a :: l => by
    rw [List.findSome?_cons, List.find?_cons]
    cases p a with
    | true => rfl
    | false => exact find_findSome p g l
def wayO : Option (List Nat) → D
  | none => .non
  | some w => nats w
theorem fz_wayO (o : Option (List Nat)) : Fz 60 (wayO o) := by
  cases o with
  | none => exact fz_non _
  | some w => exact fz_nats 59 w
def fitD (n : Nat) (lo hi : Nat → Nat → Int) : D := match shortW n lo hi with
  | some w => .tup [.str "short", nats w]
  | none => .tup [.str "table", tabT n (fw hi n)]
theorem fz_fitD (n : Nat) (lo hi : Nat → Nat → Int) : Fz 60 (fitD n lo hi) := by
  unfold fitD
  split
  · exact fz_tup fun d hd => by
      simp only [List.mem_cons, List.not_mem_nil, or_false] at hd
      rcases hd with rfl | rfl
      · exact fz_str _ _
      · exact fz_nats _ _
  · exact fz_tup fun d hd => by
      simp only [List.mem_cons, List.not_mem_nil, or_false] at hd
      rcases hd with rfl | rfl
      · exact fz_str _ _
      · exact fz_tabT _ _ _
end Lw90
namespace Lw90
open PySem PD
variable {st : Sto}
/-! ### fractions: x of 60, in lowest terms -/
abbrev gI (a b : Int) : Int := ((Int.gcd a b : Nat) : Int)
theorem gI_pos (a : Int) {b : Int} (h : 0 < b) : 0 < gI a b := by
  have := Int.gcd_pos_of_ne_zero_right a (b := b) (by omega)
  unfold gI; omega
theorem low_eq {t b x s : Int} (hb : 0 < b) (hs : 0 < s) (h : t * s = x * b) : t / gI t b = x / gI x s ∧ b / gI t b = s / gI x s := by
  obtain ⟨t', ht⟩ := Int.gcd_dvd_left t b
  obtain ⟨b', hb'⟩ := Int.gcd_dvd_right t b
  obtain ⟨x', hx⟩ := Int.gcd_dvd_left x s
  obtain ⟨s', hs'⟩ := Int.gcd_dvd_right x s
  have p1 := gI_pos t hb
  have p2 := gI_pos x hs
  have key : gI t b * s = gI x s * b := by
    have e1 := Int.gcd_mul_right t s b
    have e2 := Int.gcd_mul_right x b s
    rw [h, Int.mul_comm b s, e2] at e1
    have a1 : (b.natAbs : Int) = b := by omega
    have a2 : (s.natAbs : Int) = s := by omega
    have : ((Int.gcd t b * s.natAbs : Nat) : Int) = ((Int.gcd x s * b.natAbs : Nat) : Int) := by rw [e1]
    rw [Int.natCast_mul, Int.natCast_mul, a1, a2] at this
    exact this
  unfold gI at *
  generalize ((Int.gcd t b : Nat) : Int) = G at *
  generalize ((Int.gcd x s : Nat) : Int) = g at *
  subst ht hb' hx hs'
  have es : s' = b' := by
    have : G * g * s' = G * g * b' := by rw [Int.mul_assoc, key]; rw [Int.mul_left_comm, Int.mul_assoc]
    exact Int.eq_of_mul_eq_mul_left (by have := Int.mul_pos p1 p2; omega) this
  subst es
  have hs0 : 0 < s' := by
    rcases Int.lt_trichotomy s' 0 with h | h | h
    · have := Int.mul_neg_of_pos_of_neg p2 h; omega
    · subst h; simp at hs
    · exact h
  have et : t' = x' := by
    have e : (G * g * s') * t' = (G * g * s') * x' := by
      rw [show (G * g * s') * t' = G * t' * (g * s') by simp only [Int.mul_assoc, Int.mul_left_comm, Int.mul_comm], h]
      simp only [Int.mul_assoc, Int.mul_left_comm, Int.mul_comm]
    exact Int.eq_of_mul_eq_mul_left (by have := Int.mul_pos (Int.mul_pos p1 p2) hs0; omega) e
  subst et
  rw [Int.mul_ediv_cancel_left _ (by omega), Int.mul_ediv_cancel_left _ (by omega), Int.mul_ediv_cancel_left _ (by omega), Int.mul_ediv_cancel_left _ (by omega)]
  exact ⟨rfl, rfl⟩
def tpI (x : Int) : Int := x / gI x 60
def btI (x : Int) : Int := 60 / gI x 60
/-- x of 60 -/
def fr (x : Int) : D := .tup [.int (tpI x), .int (btI x)]
theorem fr_ex (x : Int) : ∃ g, 0 < g ∧ x = g * tpI x ∧ 60 = g * btI x ∧ 0 < btI x ∧ btI x ≤ 60 ∧ gI (tpI x) (btI x) = 1 := by
  have p := gI_pos x (b := 60) (by decide)
  obtain ⟨a, ha⟩ := Int.gcd_dvd_left x 60
  obtain ⟨b, hb⟩ := Int.gcd_dvd_right x 60
  have e1 : tpI x = a := by
    unfold tpI gI at *
    generalize ((Int.gcd x 60 : Nat) : Int) = g at *
    subst ha
    exact Int.mul_ediv_cancel_left _ (by omega)
  have e2 : btI x = b := by
    unfold btI gI at *
    generalize ((Int.gcd x 60 : Nat) : Int) = g at *
    rw [hb]
    exact Int.mul_ediv_cancel_left _ (by omega)
  rw [e1, e2]
  have q : gI a b = 1 := by
    have e3 := Int.gcd_mul_left (gI x 60) a b
    unfold gI at e3 p
    rw [← ha, ← hb] at e3
    have : (Int.gcd x 60) * 1 = (Int.gcd x 60) * Int.gcd a b := by rw [Int.natAbs_natCast] at e3; omega
    have := Nat.eq_of_mul_eq_mul_left (by omega) this
    unfold gI; omega
  have hb0 : 0 < b := by
    rcases Int.lt_trichotomy b 0 with h | h | h
    · have := Int.mul_neg_of_pos_of_neg p h
      unfold gI at this; omega
    · subst h; simp at hb
    · exact h
  have hb1 : b ≤ 60 := by
    have : 1 * b ≤ gI x 60 * b := Int.mul_le_mul_of_nonneg_right (by omega) (by omega)
    unfold gI at this; omega
  exact ⟨gI x 60, p, ha, hb, hb0, hb1, q⟩
theorem fr_of {t b x : Int} (hb : 0 < b) (h : t * 60 = x * b) : t / gI t b = tpI x ∧ b / gI t b = btI x := low_eq hb (by decide) h
theorem fr_int (d : Int) : fr (60 * d) = .tup [.int d, .int 1] := by
  obtain ⟨e1, e2⟩ := fr_of (t := d) (b := 1) (x := 60 * d) (by decide) (by omega)
  unfold fr
  rw [← e1, ← e2]
  have : gI d 1 = 1 := by simp [gI]
  rw [this, Int.ediv_one, Int.ediv_one]
theorem fr_zero : fr 0 = .tup ([0, 1].map D.int) := fr_int 0
theorem fr_zero' : fr 0 = .tup [.int 0, .int 1] := fr_int 0
theorem tp_lt (x y : Int) : tpI x * btI y < tpI y * btI x ↔ x < y := by
  obtain ⟨g, g0, e1, e2, b0, b1, _⟩ := fr_ex x
  obtain ⟨h, h0, f1, f2, c0, c1, _⟩ := fr_ex y
  have p := Int.mul_pos g0 h0
  have q1 : (g * h) * (tpI x * btI y) = x * 60 := by
    rw [show (g * h) * (tpI x * btI y) = (g * tpI x) * (h * btI y) by simp only [Int.mul_assoc, Int.mul_left_comm], ← e1, ← f2]
  have q2 : (g * h) * (tpI y * btI x) = y * 60 := by
    rw [show (g * h) * (tpI y * btI x) = (h * tpI y) * (g * btI x) by simp only [Int.mul_assoc, Int.mul_left_comm, Int.mul_comm], ← f1, ← e2]
  constructor
  · intro l
    have := Int.mul_lt_mul_of_pos_left l p
    omega
  · intro l
    exact Int.lt_of_mul_lt_mul_left (a := g * h) (by omega) (by omega)
theorem tp_sg (x : Int) : (tpI x < 0 ↔ x < 0) ∧ (0 < tpI x ↔ 0 < x) ∧ (tpI x = 0 ↔ x = 0) := by
  obtain ⟨g, g0, e1, _⟩ := fr_ex x
  rcases Int.lt_trichotomy (tpI x) 0 with h | h | h
  · have := Int.mul_neg_of_pos_of_neg g0 h
    omega
  · rw [h] at e1 ⊢; simp at e1; omega
  · have := Int.mul_pos g0 h
    omega
theorem fr_inj {x y : Int} : (tpI x = tpI y ∧ btI x = btI y) ↔ x = y := by
  constructor
  · rintro ⟨h1, h2⟩
    have a := tp_lt x y
    have b := tp_lt y x
    rw [h1, h2] at a b
    omega
  · rintro rfl; exact ⟨rfl, rfl⟩
theorem tp60 (x : Int) : tpI x * 60 = x * btI x := by
  obtain ⟨g, g0, e1, e2, _⟩ := fr_ex x
  generalize tpI x = a at *
  generalize btI x = b at *
  subst e1
  rw [e2]
  simp only [Int.mul_assoc, Int.mul_left_comm, Int.mul_comm]
theorem add_60 (x y : Int) : (tpI x * btI y + tpI y * btI x) * 60 = (x + y) * (btI x * btI y) := by
  have q1 := tp60 x
  have q2 := tp60 y
  rw [Int.add_mul, Int.add_mul, Int.mul_right_comm, q1, Int.mul_right_comm (tpI y), q2]
  simp only [Int.mul_assoc, Int.mul_left_comm, Int.mul_comm]
theorem neg_fr (x : Int) : 0 - tpI x = tpI (-x) ∧ btI x = btI (-x) := by
  unfold tpI btI gI
  rw [Int.neg_gcd]
  obtain ⟨a, ha⟩ := Int.gcd_dvd_left x 60
  have p := gI_pos x (b := 60) (by decide)
  unfold gI at p
  refine ⟨?_, rfl⟩
  generalize ((Int.gcd x 60 : Nat) : Int) = g at *
  subst ha
  rw [← Int.mul_neg, Int.mul_ediv_cancel_left _ (by omega), Int.mul_ediv_cancel_left _ (by omega)]
  omega
theorem abs_fr (x : Int) : (if tpI x < 0 then -tpI x else tpI x) = tpI (if x < 0 then -x else x) ∧ btI x = btI (if x < 0 then -x else x) := by
  have s := (tp_sg x).1
  have n := neg_fr x
  by_cases h : x < 0
  · rw [if_pos h, if_pos (s.mpr h)]
    exact ⟨by omega, n.2⟩
  · rw [if_neg h, if_neg fun q => h (s.mp q)]
    exact ⟨rfl, rfl⟩
theorem fEq_fr (x y : Int) (st : Sto) : fEq (fr x) (fr y) st = .ok (.bl (decide (x = y))) st := by
  have e : decide (x = y) = (decide (tpI x = tpI y) && decide (btI x = btI y)) := by
    rw [← Bool.decide_and]
    exact decide_eq_decide.mpr fr_inj.symm
  rw [e]
  have q : ∀ a b : Int, toPy st 60 (.tup [.int a, .int b]) = some (.tuple [.int a, .int b]) := fun _ _ => rfl
  unfold fEq fr
  rw [q, q]
  simp [PyData.eqv, PyData.eqvAll, eqv_int] <;> rfl
theorem fNe_fr (x y : Int) (st : Sto) : fNe (fr x) (fr y) st = .ok (.bl (!decide (x = y))) st := by
  have e : decide (x = y) = (decide (tpI x = tpI y) && decide (btI x = btI y)) := by
    rw [← Bool.decide_and]
    exact decide_eq_decide.mpr fr_inj.symm
  rw [e]
  have q : ∀ a b : Int, toPy st 60 (.tup [.int a, .int b]) = some (.tuple [.int a, .int b]) := fun _ _ => rfl
  unfold fNe fr
  rw [q, q]
  simp [PyData.eqv, PyData.eqvAll, eqv_int] <;> rfl
theorem fz_fr (f : Nat) (x : Int) : Fz (f + 1) (fr x) := fz_tup fun d hd => by
  simp only [List.mem_cons, List.not_mem_nil, or_false] at hd
  rcases hd with rfl | rfl
  · exact fz_int _ _
  · exact fz_int _ _
theorem fIx_fr0 (x : Int) (st : Sto) : fIx (fr x) (.int 0) st = .ok (.int (tpI x)) st := rfl
theorem fIx_fr1 (x : Int) (st : Sto) : fIx (fr x) (.int 1) st = .ok (.int (btI x)) st := rfl
theorem small_bt (x : Int) : small (btI x) = true := by
  obtain ⟨g, _, _, _, b0, b1, _⟩ := fr_ex x
  exact small_c (by omega) (by omega)
theorem fMul_bt (a x : Int) (st : Sto) : fMul (.int a) (.int (btI x)) st = .ok (.int (a * btI x)) st := fMul_i (.inr (small_bt x))
/-! ### the greatest common divisor -/
theorem gcd_step (a b : Int) : Int.gcd b (a % b) = Int.gcd a b := by
  rw [Int.emod_def, Int.gcd_sub_mul_left_right, Int.gcd_comm]
theorem common_loop : ∀ (f : Nat) (a b : Int) (ρ : Ev), ρ.length = 2 → ρ[0]? = some (some (.int a)) → ρ[1]? = some (some (.int b)) → 0 ≤ b → b.natAbs < f →
    ∃ ρ' v, loopWhile (tBl (s2 fNe (sVar 1) (sC (.int 0)))) (qPar 0 1 (aCons (sVar 1) (aCons (s2 fMod (sVar 0) (sVar 1)) aNil))) f ρ st = some (.nx ρ', st) ∧ ρ'[0]? = some (some (.int v)) ∧ v.natAbs = Int.gcd a b
  | 0, a, b, ρ, _, _, _, _, h => absurd h (by omega)
  | f + 1, a, b, ρ, hl, h0, h1, hb, hf => by
    rw [loopWhile]
    by_cases e : b = 0
    · subst e
      refine ⟨ρ, a, ?_, h0, by simp⟩
      simp_arith! [h1]
    · have hb0 : 0 < b := by omega
      have m0 := Int.emod_nonneg a e
      have m1 := Int.emod_lt_of_pos a hb0
      obtain ⟨ρ', v, q1, q2, q3⟩ := common_loop f b (a % b) ((ρ.set 0 (some (.int b))).set 1 (some (.int (a % b)))) (by simp_arith! [hl]) (by simp_arith! [hl]) (by simp_arith! [hl]) m0 (by omega)
      refine ⟨ρ', v, ?_, q2, by rw [q3, gcd_step]⟩
      rw [← q1]
      simp_arith! [h0, h1, hl, e, fMod_i hb0]
theorem common_t (hw : WF st) (a : Int) {b : Int} (hb : 0 ≤ b) : F_common [.int a, .int b] st = .ok (.int (gI a b)) st := defFin_v hw (fz_int _ _) (by
  obtain ⟨ρ', v, h1, h2, h3⟩ := common_loop (st := st) (b.natAbs + 1) a b (startD 2 [.int a, .int b]) rfl rfl rfl hb (by omega)
  unfold b_common
  rw [qSeq_e]
  have hf : fuelI 1 (startD 2 [.int a, .int b]) st = b.natAbs + 1 := rfl
  rw [qWhile, hf, h1]
  have e : (if v < 0 then -v else v) = gI a b := by unfold gI; rw [← h3]; split <;> omega
  simp_arith! [h2, e])
theorem share_t (hw : WF st) {t b x : Int} (hb : 0 < b) (hb2 : b < 1073741824) (h : t * 60 = x * b) : F_share [.int t, .int b] st = .ok (fr x) st := defFin_v hw (fz_fr _ _) (by
  obtain ⟨e1, e2⟩ := fr_of hb h
  have p := gI_pos t hb
  have q : gI t b < 1073741824 := by
    have := Int.gcd_dvd_right t b
    have := Int.le_of_dvd hb this
    unfold gI; omega
  have h0 : (startD 3 [.int t, .int b])[0]? = some (some (.int t)) := rfl
  have h1 : (startD 3 [.int t, .int b])[1]? = some (some (.int b)) := rfl
  have hl : (startD 3 [.int t, .int b]).length = 3 := rfl
  generalize startD 3 [.int t, .int b] = ρ at h0 h1 hl
  unfold b_share fr
  rw [← e1, ← e2]
  simp_arith! [h0, h1, hl, common_t hw t (Int.le_of_lt hb), hb, fDiv_i ⟨p, q⟩])
theorem plus_t (hw : WF st) (x y : Int) : F_plus [fr x, fr y] st = .ok (fr (x + y)) st := defFin_v hw (fz_fr _ _) (by
  obtain ⟨g, _, _, _, b0, b1, _⟩ := fr_ex x
  obtain ⟨h, _, _, _, c0, c1, _⟩ := fr_ex y
  have p := Int.mul_pos b0 c0
  have q : btI x * btI y ≤ 60 * 60 := Int.mul_le_mul b1 c1 (by omega) (by omega)
  have h0 : (startD 2 [fr x, fr y])[0]? = some (some (fr x)) := rfl
  have h1 : (startD 2 [fr x, fr y])[1]? = some (some (fr y)) := rfl
  generalize startD 2 [fr x, fr y] = ρ at h0 h1
  unfold b_plus
  simp_arith! [h0, h1, fIx_fr0, fIx_fr1, fMul_bt, share_t hw p (by omega) (add_60 x y)])
theorem sub_60 (x y : Int) : (tpI x * btI y - tpI y * btI x) * 60 = (x - y) * (btI x * btI y) := by
  have a := add_60 x (-y)
  have n := neg_fr y
  rw [← n.1, ← n.2, Int.sub_mul, Int.zero_mul] at a
  rw [Int.sub_eq_add_neg, Int.sub_eq_add_neg, ← a]
  congr 1
  omega
theorem is_less_t (hw : WF st) (x y : Int) : F_is_less [fr x, fr y] st = .ok (.bl (decide (x < y))) st := defFin_v hw (fz_bl _ _) (by
  have h0 : (startD 2 [fr x, fr y])[0]? = some (some (fr x)) := rfl
  have h1 : (startD 2 [fr x, fr y])[1]? = some (some (fr y)) := rfl
  generalize startD 2 [fr x, fr y] = ρ at h0 h1
  unfold b_is_less
  simp_arith! [h0, h1, fIx_fr0, fIx_fr1, fMul_bt, decide_eq_decide.mpr (tp_lt x y)])
theorem is_share_t (hw : WF st) (x : Int) : F_is_share [fr x] st = .ok (.bl true) st := defFin_v hw (fz_bl _ _) (by
  obtain ⟨g, _, _, _, b0, b1, e⟩ := fr_ex x
  have h0 : (startD 2 [fr x])[0]? = some (some (fr x)) := rfl
  have hl : (startD 2 [fr x]).length = 2 := rfl
  generalize startD 2 [fr x] = ρ at h0 hl
  have z2 := sizeLine_eq
  unfold b_is_share
  have sz := is_sized_t hw [.int (tpI x), .int (btI x)] 2 2
  change F_is_sized [fr x, .int 2, .int 2] st = _ at sz
  have e2 : (decide ((2 : Int) ≤ (([D.int (tpI x), D.int (btI x)].length : Nat) : Int) ∧ (([D.int (tpI x), D.int (btI x)].length : Nat) : Int) ≤ 2)) = true := by simp
  rw [e2] at sz
  simp_arith! [h0, sz]
  rw [sLC_map (dy := none) [tpI x, btI x] D.int (fun _ => D.bl true) (by simp_arith! [iSeq_e, h0]; rfl) (still_none _ _) (by simp; omega) fun i hi => ⟨_, rfl, by
    simp_arith! [h0, hl, is_integer_i hw]⟩]
  have ba := fun s => bAll_map (fun _ : Int => true) [tpI x, btI x] s
  simp only [all_true] at ba
  simp_arith! [h0, fIx_fr0, fIx_fr1, ba, b0, common_t hw _ (Int.le_of_lt b0), e])
/-! ### the law's own -/
theorem low_loop : ∀ (f : Nat) (a b : Int) (ρ : Ev), ρ.length = 4 → ρ[2]? = some (some (.int b)) → ρ[3]? = some (some (.int a)) → 0 ≤ b → 0 ≤ a → b.natAbs < f →
    ∃ ρ', loopWhile (tBl (s2 fGt (sVar 2) (sC (.int 0)))) (qPar 2 3 (aCons (s2 fMod (sB bInt (aCons (sVar 3) aNil)) (sVar 2)) (aCons (sVar 2) aNil))) f ρ st = some (.nx ρ', st) ∧ ρ'.length = 4 ∧ ρ'[3]? = some (some (.int (gI a b))) ∧ ρ'[0]? = ρ[0]? ∧ ρ'[1]? = ρ[1]?
  | 0, a, b, ρ, _, _, _, _, _, h => absurd h (by omega)
  | f + 1, a, b, ρ, hl, h2, h3, hb, ha, hf => by
    rw [loopWhile]
    by_cases e : b = 0
    · subst e
      refine ⟨ρ, ?_, hl, ?_, rfl, rfl⟩
      · simp_arith! [h2, Int.lt_irrefl]
      · rw [h3]
        have : gI a 0 = a := by simp [gI]; omega
        rw [this]
    · have hb0 : 0 < b := by omega
      have m0 := Int.emod_nonneg a e
      have m1 := Int.emod_lt_of_pos a hb0
      obtain ⟨ρ', q1, q2, q3, q4, q5⟩ := low_loop f b (a % b) ((ρ.set 2 (some (.int (a % b)))).set 3 (some (.int b))) (by simp_arith! [hl]) (by simp_arith! [hl]) (by simp_arith! [hl]) m0 hb (by omega)
      refine ⟨ρ', ?_, q2, ?_, by rw [q4]; simp_arith! [hl], by rw [q5]; simp_arith! [hl]⟩
      · rw [← q1]
        simp_arith! [h2, h3, hl, hb0, fMod_i hb0]
      · rw [q3]
        unfold gI
        rw [gcd_step]
end Lw90
namespace Lw90
open PySem PD
variable {st : Sto}
/-! ### tables of fractions -/
abbrev rowF (n : Nat) (F : Nat → Nat → Int) (i : Nat) : D := .tup ((List.range n).map fun j : Nat => fr (F i j))
abbrev tabF (n : Nat) (F : Nat → Nat → Int) : D := .tup ((List.range n).map fun i : Nat => rowF n F i)
theorem fz_tabF (f n : Nat) (F : Nat → Nat → Int) : Fz (f + 3) (tabF n F) := fz_map _ _ _ fun _ _ => fz_map _ _ _ fun _ _ => fz_fr _ _
theorem tabF_congr {n : Nat} {f g : Nat → Nat → Int} (h : ∀ i j, i < n → j < n → f i j = g i j) : tabF n f = tabF n g := by
  unfold tabF rowF
  congr 1
  refine List.map_congr_left fun i hi => ?_
  congr 1
  refine List.map_congr_left fun j hj => ?_
  rw [h i j (List.mem_range.mp hi) (List.mem_range.mp hj)]
structure Mend (n : Nat) (F : Nat → Nat → Int) : Prop where
  ok : ∀ i j, i < n → j < n → F i j = F j i ∧ 0 ≤ F i j ∧ (i = j → F i j = 0)
  tr : Tri n F
def okP (F : Nat → Nat → Int) (i j : Nat) : Bool := decide (F i j = F j i) && (!decide (F i j < 0) && (!decide ((i : Int) = (j : Int)) || decide (F i j = 0)))
theorem okP_iff (F : Nat → Nat → Int) (i j : Nat) : okP F i j = true ↔ F i j = F j i ∧ 0 ≤ F i j ∧ (i = j → F i j = 0) := by
  unfold okP
  simp only [Bool.and_eq_true, Bool.or_eq_true, Bool.not_eq_true', decide_eq_true_eq, decide_eq_false_iff_not]
  constructor
  · rintro ⟨h1, h2, h3⟩
    exact ⟨h1, by omega, fun e => by rcases h3 with h3 | h3; · exact absurd (by omega) h3
                                     · exact h3⟩
  · rintro ⟨h1, h2, h3⟩
    exact ⟨h1, by omega, by by_cases e : i = j; · exact .inr (h3 e)
                            · exact .inl (by omega)⟩
theorem nz_fr (x : Int) (st : Sto) : fNe (fr x) (.tup ([0, 1].map D.int)) st = .ok (.bl (!decide (x = 0))) st := by
  rw [← fr_zero]; exact fNe_fr x 0 st
theorem nz_fr' (x : Int) (st : Sto) : fNe (fr x) (.tup [.int 0, .int 1]) st = .ok (.bl (!decide (x = 0))) st := by
  rw [← fr_zero']; exact fNe_fr x 0 st
theorem ez_fr (x : Int) (st : Sto) : fEq (fr x) (.tup ([0, 1].map D.int)) st = .ok (.bl (decide (x = 0))) st := by
  rw [← fr_zero]; exact fEq_fr x 0 st
theorem ez_fr' (x : Int) (st : Sto) : fEq (fr x) (.tup [.int 0, .int 1]) st = .ok (.bl (decide (x = 0))) st := by
  rw [← fr_zero']; exact fEq_fr x 0 st
theorem tp_neg (x : Int) : decide (tpI x < 0) = decide (x < 0) := decide_eq_decide.mpr (tp_sg x).1
theorem tp_pos (x : Int) : decide (0 < tpI x) = decide (0 < x) := decide_eq_decide.mpr (tp_sg x).2.1
theorem findSome_if {α : Type} (l : List α) (p : α → Bool) (d : D) : l.findSome? (fun a => if p a = true then none else some d) = if l.all p = true then none else some d := by
  induction l with
  | nil => rfl
  | cons a l ih =>
    rw [List.findSome?_cons, List.all_cons]
    cases h : p a
    · simp
    · simp [ih]
def rng (a b : Nat) : List Nat := (List.range (b - a)).map (a + ·)
theorem mem_rng {a b x : Nat} : x ∈ rng a b ↔ a ≤ x ∧ x < b := by
  unfold rng
  simp only [List.mem_map, List.mem_range]
  constructor
  · rintro ⟨y, h, rfl⟩; omega
  · rintro ⟨h1, h2⟩; exact ⟨x - a, by omega, by omega⟩
theorem rng_len (a b : Nat) : (rng a b).length = b - a := by simp [rng]
theorem iRange2_n {a : SA} {ρ : Ev} {st : Sto} {i n : Nat} (h : a ρ st = .ok [.int (i : Int), .int (n : Int)] st) (hi : i ≤ 1000 := by omega) (hn : n ≤ 1000 := by omega) : iRange2 a ρ st = .ok ((rng i n).map fun i : Nat => D.int (i : Int), none) st := by
  unfold iRange2
  rw [h, bind_ok]
  dsimp only
  rw [if_pos (by omega)]
  have e : ((n : Int) - (i : Int)).toNat = n - i := by omega
  rw [e]
  unfold rangeL rng
  rw [List.map_map]
  congr 2
theorem is_mend_of_t (hw : WF st) {n : Nat} (n1 : 1 ≤ n) (n7 : n ≤ 7) (F : Nat → Nat → Int) : ∃ b, F_is_mend_of [.int (n : Int), tabF n F] st = .ok (.bl b) st ∧ (b = true ↔ Mend n F) := by
  have body : ∃ b, b_is_mend_of (startD 7 [.int (n : Int), tabF n F]) st = some (.rt (.bl b), st) ∧ (b = true ↔ Mend n F) := by
    have z2 := sizeLine_eq
    have h0 : (startD 7 [.int (n : Int), tabF n F])[0]? = some (some (.int (n : Int))) := rfl
    have h1 : (startD 7 [.int (n : Int), tabF n F])[1]? = some (some (tabF n F)) := rfl
    have hl : (startD 7 [.int (n : Int), tabF n F]).length = 7 := rfl
    generalize startD 7 [.int (n : Int), tabF n F] = ρ at h0 h1 hl
    unfold b_is_mend_of
    simp_arith! [h0, h1, is_sized_t hw, List.length_range, Int.le_refl]
    rw [sLC_map (dy := none) (List.range n) (fun i => rowF n F i) (fun _ => D.bl true) (by simp_arith! [iSeq_e, h1]) (still_none _ _) (by simp; omega) fun i hi => ⟨_, rfl, by
      simp_arith! [h0, hl, is_sized_t hw, List.length_range, Int.le_refl]⟩]
    have ba := fun s => bAll_map (fun _ : Nat => true) (List.range n) s
    simp only [all_true] at ba
    simp_arith! [ba, h1, iEnum_e, enum_range, List.length_range]
    generalize hL : loopFor _ _ _ _ _ _ _ _ = R
    have q := for_some_e hL (List.range n) (fun i : Nat => D.tpl [.int (i : Int), rowF n F i]) rfl (by simp) (still_none _ _) (fun ρ => ρ[0]? = some (some (.int (n : Int))) ∧ ρ[1]? = some (some (tabF n F)) ∧ ρ.length = 7) (fun i => if (List.range n).all (okP F i) = true then none else some (.bl false)) ⟨h0, h1, hl⟩ (by
      rintro i hi ρ ⟨h0, h1, hl⟩
      have hi := List.mem_range.mp hi
      refine ⟨_, rfl, ?_⟩
      simp_arith! [hl, iEnum_e, enum_range, List.length_range]
      generalize hM : loopFor _ _ _ _ _ _ _ _ = R2
      have q := for_some_e hM (List.range n) (fun j : Nat => D.tpl [.int (j : Int), fr (F i j)]) rfl (by simp) (still_none _ _) (fun ρ => ρ[0]? = some (some (.int (n : Int))) ∧ ρ[1]? = some (some (tabF n F)) ∧ ρ[2]? = some (some (.int (i : Int))) ∧ ρ.length = 7) (fun j => if okP F i j = true then none else some (.bl false)) (by simp_arith! [h0, h1, hl]) (by
        rintro j hj ρ ⟨h0, h1, h2, hl⟩
        have hj := List.mem_range.mp hj
        refine ⟨_, rfl, ?_⟩
        simp_arith! [hl, h1, h2, is_share_t hw, fIx_range hi, fIx_range hj, fNe_fr, nz_fr, fIx_fr0, tp_neg]
        unfold okP
        generalize F i j = a
        generalize F j i = b
        by_cases c1 : a = b
        · subst c1
          by_cases c2 : a < 0
          · left; refine ⟨.bl false, ?_, ?_⟩ <;> simp [c2]
          · by_cases c3 : (i : Int) = (j : Int)
            · by_cases c4 : a = 0
              · right; refine ⟨?_, (ρ.set 4 (some (.int (j : Int)))).set 5 (some (fr a)), .inl ?_, by simp_arith! [h0, h1, h2, hl]⟩
                · simp [c2, c3, c4]
                · simp [c2, c3, c4]
              · left; refine ⟨.bl false, ?_, ?_⟩
                · simp [c2, c3, c4]
                · simp [c2, c3, c4]
            · right; refine ⟨?_, (ρ.set 4 (some (.int (j : Int)))).set 5 (some (fr a)), .inl ?_, by simp_arith! [h0, h1, h2, hl]⟩
              · simp [c2, c3]
              · simp [c2, c3]
        · left; refine ⟨.bl false, ?_, ?_⟩ <;> simp [c1])
      rw [findSome_if] at q
      rcases q with ⟨d, hc, rfl⟩ | ⟨hc, ρ', rfl, k0, k1, k2, kl⟩
      · exact .inl ⟨d, hc, rfl⟩
      · exact .inr ⟨hc, ρ', .inl rfl, k0, k1, kl⟩)
    rw [findSome_if] at q
    rcases q with ⟨d, hc, rfl⟩ | ⟨hc, ρ', rfl, k0, k1, kl⟩
    · split at hc
      · cases hc
      · rename_i nn
        cases hc
        refine ⟨false, rfl, ⟨fun h => (by cases h), fun M => ?_⟩⟩
        exact absurd (List.all_eq_true.mpr fun i hi => List.all_eq_true.mpr fun j hj => (okP_iff F i j).mpr (M.ok i j (List.mem_range.mp hi) (List.mem_range.mp hj))) nn
    · split at hc
      · rename_i all1
        clear hL
        simp_arith! []
        rw [iRange_n (n := n) (by simp_arith! [k0])]
        simp_arith! [List.length_range]
        generalize hL : loopFor _ _ _ _ _ _ _ _ = R
        have q := for_some_e hL (List.range n) (fun i : Nat => D.int (i : Int)) rfl (by simp) (still_none _ _) (fun ρ => ρ[0]? = some (some (.int (n : Int))) ∧ ρ[1]? = some (some (tabF n F)) ∧ ρ.length = 7) (fun i => if (rng (i + 1) n).all (fun k => (List.range n).all fun j => !decide (F i j + F j k < F i k)) = true then none else some (.bl false)) ⟨k0, k1, kl⟩ (by
          rintro i hi ρ ⟨h0, h1, hl⟩
          have hi := List.mem_range.mp hi
          refine ⟨_, rfl, ?_⟩
          simp_arith! []
          rw [iRange2_n (i := i + 1) (n := n) (by simp_arith! [h0, hl, Int.natCast_add]; rfl)]
          simp_arith! [hl, rng_len]
          generalize hM : loopFor _ _ _ _ _ _ _ _ = R2
          have q := for_some_e hM (rng (i + 1) n) (fun j : Nat => D.int (j : Int)) rfl (by rw [rng_len]) (still_none _ _) (fun ρ => ρ[0]? = some (some (.int (n : Int))) ∧ ρ[1]? = some (some (tabF n F)) ∧ ρ[2]? = some (some (.int (i : Int))) ∧ ρ.length = 7) (fun k => if ((List.range n).all fun j => !decide (F i j + F j k < F i k)) = true then none else some (.bl false)) (by simp_arith! [h0, h1, hl]) (by
            rintro k hk ρ ⟨h0, h1, h2, hl⟩
            have hk := (mem_rng.mp hk).2
            refine ⟨_, rfl, ?_⟩
            simp_arith! []
            rw [sLC_map (dy := none) (List.range n) (fun j : Nat => D.int (j : Int)) (fun j => D.bl (decide (F i j + F j k < F i k))) (iRange_n (by simp_arith! [hl, h0])) (still_none _ _) (by simp; omega) fun j hj => ⟨_, rfl, by
              have hj := List.mem_range.mp hj
              simp_arith! [hl, h1, h2, fIx_range hi, fIx_range hj, fIx_range hk, plus_t hw, is_less_t hw]⟩]
            have bn := fun s => bAny_map (fun j : Nat => decide (F i j + F j k < F i k)) (List.range n) s
            simp_arith! [bn]
            have e : ((List.range n).all fun j => !decide (F i j + F j k < F i k)) = !((List.range n).any fun j => decide (F i j + F j k < F i k)) := by
              rw [List.not_any_eq_all_not]
            rw [e]
            cases ((List.range n).any fun j => decide (F i j + F j k < F i k))
            · exact .inr ⟨rfl, _, .inl rfl, by simp_arith! [h0, h1, h2, hl]⟩
            · exact .inl ⟨_, rfl, rfl⟩)
          rw [findSome_if] at q
          rcases q with ⟨d, hc, rfl⟩ | ⟨hc, ρ', rfl, k0, k1, k2, kl⟩
          · exact .inl ⟨d, hc, rfl⟩
          · exact .inr ⟨hc, ρ', .inl rfl, k0, k1, kl⟩)
        rw [findSome_if] at q
        have ok : ∀ i j, i < n → j < n → F i j = F j i ∧ 0 ≤ F i j ∧ (i = j → F i j = 0) := fun i j hi hj => (okP_iff F i j).mp (List.all_eq_true.mp (List.all_eq_true.mp all1 i (List.mem_range.mpr hi)) j (List.mem_range.mpr hj))
        rcases q with ⟨d, hc, rfl⟩ | ⟨hc, ρ', rfl, _⟩
        · split at hc
          · cases hc
          · rename_i nn
            cases hc
            refine ⟨false, rfl, ⟨fun h => (by cases h), fun M => ?_⟩⟩
            refine absurd (List.all_eq_true.mpr fun i hi => List.all_eq_true.mpr fun k hk => List.all_eq_true.mpr fun j hj => ?_) nn
            have := M.tr i j k (List.mem_range.mp hi) (List.mem_range.mp hj) (mem_rng.mp hk).2
            rw [Bool.not_eq_true', decide_eq_false_iff_not]; omega
        · split at hc
          · rename_i all2
            refine ⟨true, rfl, ⟨fun _ => ⟨ok, fun i j k hi hj hk => ?_⟩, fun _ => rfl⟩⟩
            have lt : ∀ i k, i < k → k < n → F i k ≤ F i j + F j k := fun i k hik hk => by
              have := List.all_eq_true.mp (List.all_eq_true.mp (List.all_eq_true.mp all2 i (List.mem_range.mpr (by omega))) k (mem_rng.mpr ⟨by omega, hk⟩)) j (List.mem_range.mpr hj)
              rw [Bool.not_eq_true', decide_eq_false_iff_not] at this; omega
            rcases Nat.lt_trichotomy i k with h | h | h
            · exact lt i k h hk
            · subst h
              have a := ok i i hi hi
              have b := ok i j hi hj
              have c := ok j i hj hi
              have := a.2.2 rfl
              omega
            · have a := lt k i h hi
              have b1 := (ok i k hi hk).1
              have b2 := (ok i j hi hj).1
              have b3 := (ok j k hj hk).1
              omega
          · cases hc
      · cases hc
  obtain ⟨b, h1, h2⟩ := body
  exact ⟨b, defFin_v hw (fz_bl _ _) h1, h2⟩
end Lw90
namespace Lw90
open PySem PD
variable {st : Sto}
/-! ### what is no mend -/
/-- an odd thing: no pair within its ones of one -/
inductive Sh : D → Prop
  | nt {x : D} : ntD x = true → Sh x
  | nil : Sh (.tup [])
  | tup {x : D} : Sh x → Sh (.tup [x])
theorem sized_sh (hw : WF st) {x : D} (h : Sh x) (k : Int) (hk : 2 ≤ k) (hi : Int) : F_is_sized [x, .int k, .int hi] st = .ok (.bl false) st := by
  cases h with
  | nt h => exact is_sized_nt hw h _ _
  | nil => rw [is_sized_t hw]; congr 2; simp; omega
  | tup h => rw [is_sized_t hw]; congr 2; simp; omega
theorem is_share_sh (hw : WF st) {x : D} (h : Sh x) : F_is_share [x] st = .ok (.bl false) st := defFin_v hw (fz_bl _ _) (by
  have h0 : (startD 2 [x])[0]? = some (some x) := rfl
  generalize startD 2 [x] = ρ at h0
  unfold b_is_share
  simp_arith! [h0, sized_sh hw h 2 (by decide)])
theorem ty_sh {x : D} (h : Sh x) : ∃ b, isTy .tuple x = some b ∧ (b = true → ∃ xs, x = .tup xs ∧ xs.length ≤ 1) := by
  cases h with
  | nt h => exact ⟨false, ty_nt h, fun q => by cases q⟩
  | nil => exact ⟨true, rfl, fun _ => ⟨_, rfl, by simp⟩⟩
  | tup h => exact ⟨true, rfl, fun _ => ⟨_, rfl, by simp⟩⟩
theorem is_mend_of_nt (hw : WF st) {x : D} (h : ntD x = true) (n : Int) : F_is_mend_of [.int n, x] st = .ok (.bl false) st := defFin_v hw (fz_bl _ _) (by
  have h0 : (startD 7 [.int n, x])[0]? = some (some (.int n)) := rfl
  have h1 : (startD 7 [.int n, x])[1]? = some (some x) := rfl
  generalize startD 7 [.int n, x] = ρ at h0 h1
  unfold b_is_mend_of
  simp_arith! [h0, h1, is_sized_nt hw h])
theorem is_mend_of_len (hw : WF st) {xs : List D} {n : Nat} (h : xs.length ≠ n) : F_is_mend_of [.int (n : Int), .tup xs] st = .ok (.bl false) st := defFin_v hw (fz_bl _ _) (by
  have h0 : (startD 7 [.int (n : Int), .tup xs])[0]? = some (some (.int (n : Int))) := rfl
  have h1 : (startD 7 [.int (n : Int), .tup xs])[1]? = some (some (.tup xs)) := rfl
  generalize startD 7 [.int (n : Int), .tup xs] = ρ at h0 h1
  unfold b_is_mend_of
  have e : decide ((n : Int) ≤ xs.length ∧ (xs.length : Int) ≤ n) = false := decide_eq_false (by omega)
  simp_arith! [h0, h1, is_sized_t hw, e])
/-- one row, and that is none of one -/
theorem is_mend_of_1 (hw : WF st) {y : D} (h : F_is_sized [y, .int 1, .int 1] st = .ok (.bl false) st) : F_is_mend_of [.int 1, .tup [y]] st = .ok (.bl false) st := defFin_v hw (fz_bl _ _) (by
  have z2 := sizeLine_eq
  have h0 : (startD 7 [.int 1, .tup [y]])[0]? = some (some (.int 1)) := rfl
  have h1 : (startD 7 [.int 1, .tup [y]])[1]? = some (some (.tup [y])) := rfl
  have hl : (startD 7 [.int 1, .tup [y]]).length = 7 := rfl
  generalize startD 7 [.int 1, .tup [y]] = ρ at h0 h1 hl
  unfold b_is_mend_of
  have e : (decide ((1 : Int) ≤ (([y].length : Nat) : Int) ∧ (([y].length : Nat) : Int) ≤ 1)) = true := by simp
  have sz := is_sized_t hw [y] 1 1
  rw [e] at sz
  simp_arith! [h0, h1, sz]
  rw [sLC_map (dy := none) (g := gN 3) [y] (fun d => d) (fun _ => D.bl false) (by simp_arith! [iSeq_e, h1]; rfl) (still_none _ _) (by simp; omega) fun i hi => ⟨_, rfl, by
    rw [List.mem_singleton] at hi
    subst hi
    simp_arith! [h0, hl, h]⟩]
  have ba := fun s => bAll_map (fun _ : D => false) [y] s
  have e2 : ([y].all fun _ => false) = false := rfl
  rw [e2] at ba
  simp_arith! [ba])
theorem is_mend_of_11 (hw : WF st) {z : D} (h : F_is_share [z] st = .ok (.bl false) st) : F_is_mend_of [.int 1, .tup [.tup [z]]] st = .ok (.bl false) st := defFin_v hw (fz_bl _ _) (by
  have z2 := sizeLine_eq
  have h0 : (startD 7 [.int 1, .tup [.tup [z]]])[0]? = some (some (.int 1)) := rfl
  have h1 : (startD 7 [.int 1, .tup [.tup [z]]])[1]? = some (some (.tup [.tup [z]])) := rfl
  have hl : (startD 7 [.int 1, .tup [.tup [z]]]).length = 7 := rfl
  generalize startD 7 [.int 1, .tup [.tup [z]]] = ρ at h0 h1 hl
  unfold b_is_mend_of
  have e : ∀ y : D, (decide ((1 : Int) ≤ (([y].length : Nat) : Int) ∧ (([y].length : Nat) : Int) ≤ 1)) = true := fun y => by simp
  have sz := fun y => is_sized_t hw [y] 1 1
  simp only [e] at sz
  simp_arith! [h0, h1, sz]
  rw [sLC_map (dy := none) (g := gN 3) [D.tup [z]] (fun d => d) (fun _ => D.bl true) (by simp_arith! [iSeq_e, h1]; rfl) (still_none _ _) (by simp; omega) fun i hi => ⟨_, rfl, by
    rw [List.mem_singleton] at hi
    subst hi
    simp_arith! [h0, hl, sz]⟩]
  have ba := fun s => bAll_map (fun _ : D => true) [D.tup [z]] s
  have e2 : ([D.tup [z]].all fun _ => true) = true := rfl
  rw [e2] at ba
  simp_arith! [ba, iEnum_e, h1, enumFromD, loopFor, fetch, hl, h])
theorem is_mend_of_sh (hw : WF st) {x : D} (h : Sh x) {n : Nat} (n1 : 1 ≤ n) : F_is_mend_of [.int (n : Int), x] st = .ok (.bl false) st := by
  cases h with
  | nt h => exact is_mend_of_nt hw h _
  | nil => exact is_mend_of_len hw (by simp; omega)
  | tup h =>
    by_cases e : n = 1
    · subst e
      cases h with
      | nt h => exact is_mend_of_1 hw (is_sized_nt hw h _ _)
      | nil => exact is_mend_of_1 hw (by rw [is_sized_t hw]; rfl)
      | tup h => exact is_mend_of_11 hw (is_share_sh hw h)
    · exact is_mend_of_len hw (by simp; omega)
end Lw90
namespace Lw90
open PySem PD
variable {st : Sto}
theorem is_share_i (hw : WF st) (i : Int) : F_is_share [.int i] st = .ok (.bl false) st := is_share_sh hw (.nt rfl)
theorem range_succ' (m : Nat) : List.range (m + 1) = 0 :: (List.range m).map (· + 1) := List.range_succ_eq_map
theorem is_mend_of_tab (hw : WF st) {n : Nat} (n1 : 1 ≤ n) (n7 : n ≤ 7) (f : Nat → Nat → Int) : F_is_mend_of [.int (n : Int), tabT n f] st = .ok (.bl false) st := defFin_v hw (fz_bl _ _) (by
  have z2 := sizeLine_eq
  have h0 : (startD 7 [.int (n : Int), tabT n f])[0]? = some (some (.int (n : Int))) := rfl
  have h1 : (startD 7 [.int (n : Int), tabT n f])[1]? = some (some (tabT n f)) := rfl
  have hl : (startD 7 [.int (n : Int), tabT n f]).length = 7 := rfl
  generalize startD 7 [.int (n : Int), tabT n f] = ρ at h0 h1 hl
  unfold b_is_mend_of
  simp_arith! [h0, h1, is_sized_t hw, List.length_range, Int.le_refl]
  rw [sLC_map (dy := none) (List.range n) (fun i => rowT n f i) (fun _ => D.bl true) (by simp_arith! [iSeq_e, h1]) (still_none _ _) (by simp; omega) fun i hi => ⟨_, rfl, by
    simp_arith! [h0, hl, is_sized_t hw, List.length_range, Int.le_refl]⟩]
  have ba := fun s => bAll_map (fun _ : Nat => true) (List.range n) s
  simp only [all_true] at ba
  simp_arith! [ba, h1, iEnum_e, enum_range, List.length_range]
  obtain ⟨m, rfl⟩ : ∃ m, n = m + 1 := ⟨n - 1, by omega⟩
  have sp : ∀ φ : Nat → D, (List.range (m + 1)).map φ = φ 0 :: ((List.range m).map (· + 1)).map φ := fun φ => by rw [range_succ' m, List.map_cons]
  rw [sp fun i => D.tpl [.int (i : Int), rowT (m + 1) f i], loopFor]
  simp_arith! [fetch, hl, h1, iEnum_e]
  rw [enum_range, sp fun j => D.tpl [.int (j : Int), .int (f 0 j)], loopFor]
  simp_arith! [fetch, hl, is_share_i hw])
end Lw90
namespace Lw90
open PySem PD
variable {st : Sto}
/-! ### lists that a def makes -/
theorem fin_list {n : Nat} {b : SS} {ds : List D} {st : Sto} (xs : List D) (hw : WF st) (hx : ∀ x ∈ xs, Fz 59 x) (h : b (startD n ds) st = some (.rt (.ref st.length), st ++ [.lst xs])) : defFin n b ds st = .ok (.lst xs) st :=
  defFin_rt (ex := [.lst xs]) h rfl hw (by
    rw [frzD]
    simp only [Nat.lt_irrefl, if_false, sto_get1]
    rw [allSome_id fun d hd => hx d hd _ _]
    rfl)
def pairsL (n : Nat) : List (Nat × Nat) := (List.range n).flatMap fun i => (rng (i + 1) n).map fun j => (i, j)
theorem mem_pairsL {n : Nat} {p : Nat × Nat} (h : p ∈ pairsL n) : p.1 < p.2 ∧ p.2 < n := by
  obtain ⟨i, hi, h⟩ := List.mem_flatMap.mp h
  obtain ⟨j, hj, rfl⟩ := List.mem_map.mp h
  have := mem_rng.mp hj
  exact ⟨by show i < j; omega, this.2⟩
theorem pairsL_len {n : Nat} (h : n ≤ 7) : (pairsL n).length ≤ 100 := by
  match n, h with
  | 0, _ => decide
  | 1, _ => decide
  | 2, _ => decide
  | 3, _ => decide
  | 4, _ => decide
  | 5, _ => decide
  | 6, _ => decide
  | 7, _ => decide
abbrev pD (p : Nat × Nat) : D := .tup [.int (p.1 : Int), .int (p.2 : Int)]
theorem fExtend_at {S : Sto} {xs ys : List D} (h : xs.length + ys.length ≤ 16777216) : fExtend (.ref S.length) (.lst ys) (S ++ [.lst xs]) = .ok .non (S ++ [.lst (xs ++ ys)]) := by
  have z2 := sizeLine_eq
  unfold fExtend
  simp only [sto_get1, litems_lst]
  rw [if_pos (by omega), sto_set1]
theorem flat_pre {α : Type} (n : Nat) (g : Nat → List α) (hn : ∀ i, i < n → (g i).length ≤ 1000) : ∀ i, i ≤ n → ((List.range i).flatMap g).length ≤ 1000 * i
  | 0, _ => by simp
  | i + 1, h => by
    have := flat_pre n g hn i (by omega)
    have := hn i (by omega)
    rw [List.range_succ, List.flatMap_append, List.length_append]
    simp only [List.flatMap_cons, List.flatMap_nil, List.append_nil]
    omega
theorem flat_succ {α : Type} (g : Nat → List α) (i : Nat) : (List.range (i + 1)).flatMap g = (List.range i).flatMap g ++ g i := by
  rw [List.range_succ, List.flatMap_append]
  simp
/-! the greatest, the sum -/
def mx (l : List Int) : Int := l.foldl (fun b x => if b < x then x else b) 0
def sm (l : List Int) : Int := l.foldl (fun b x => b + x) 0
theorem fold_ge : ∀ (l : List Int) (b : Int), b ≤ l.foldl (fun b x => if b < x then x else b) b ∧ (∀ x ∈ l, x ≤ l.foldl (fun b x => if b < x then x else b) b) ∧ (l.foldl (fun b x => if b < x then x else b) b = b ∨ l.foldl (fun b x => if b < x then x else b) b ∈ l)
  | [], b => ⟨Int.le_refl _, fun x hx => by simp at hx, .inl rfl⟩
  | a :: l, b => by
    obtain ⟨h1, h2, h3⟩ := fold_ge l (if b < a then a else b)
    rw [List.foldl_cons]
    have hb : b ≤ (if b < a then a else b) ∧ a ≤ (if b < a then a else b) ∧ ((if b < a then a else b) = b ∨ (if b < a then a else b) = a) := by
      split <;> omega
    refine ⟨by omega, fun x hx => ?_, ?_⟩
    · rcases List.mem_cons.mp hx with rfl | hx
      · omega
      · exact h2 x hx
    · rcases h3 with h3 | h3
      · rw [h3]
        rcases hb.2.2 with e | e
        · exact .inl e
        · rw [e]; exact .inr List.mem_cons_self
      · exact .inr (List.mem_cons_of_mem _ h3)
theorem mx_le {l : List Int} {T : Int} (h0 : 0 ≤ T) : mx l ≤ T ↔ ∀ x ∈ l, x ≤ T := by
  obtain ⟨h1, h2, h3⟩ := fold_ge l 0
  unfold mx
  constructor
  · intro h x hx
    have := h2 x hx
    omega
  · intro h
    rcases h3 with e | e
    · omega
    · exact h _ e
theorem mx_nn (l : List Int) : 0 ≤ mx l := (fold_ge l 0).1
theorem mx_ge {l : List Int} {x : Int} (h : x ∈ l) : x ≤ mx l := (fold_ge l 0).2.1 x h
theorem mx_mem (l : List Int) : mx l = 0 ∨ mx l ∈ l := (fold_ge l 0).2.2
end Lw90
namespace Lw90
open PySem PD
variable {st : Sto}
/-! ### triples -/
abbrev tD3 (t : Nat × Nat × Nat) : D := .tup [.int (t.1 : Int), .int (t.2.1 : Int), .int (t.2.2 : Int)]
/-- the triples of i, j in order of k -/
def tripsK (n i j : Nat) : List (Nat × Nat × Nat) := ((rng (i + 1) n).filter fun k => !decide (j = i ∨ j = k)).map fun k => (i, j, k)
def trips (n : Nat) : List (Nat × Nat × Nat) := (List.range n).flatMap fun i => (List.range n).flatMap fun j => tripsK n i j
def lackN (f : Nat → Nat → Int) (t : Nat × Nat × Nat) : Int := f t.1 t.2.2 - f t.1 t.2.1 - f t.2.1 t.2.2
theorem mem_trips {n : Nat} {t : Nat × Nat × Nat} : t ∈ trips n ↔ t.1 < t.2.2 ∧ t.2.2 < n ∧ t.2.1 < n ∧ t.2.1 ≠ t.1 ∧ t.2.1 ≠ t.2.2 := by
  obtain ⟨i, j, k⟩ := t
  unfold trips tripsK
  simp only [List.mem_flatMap, List.mem_range, List.mem_map, List.mem_filter, mem_rng]
  constructor
  · rintro ⟨a, ha, b, hb, c, ⟨⟨h1, h2⟩, h3⟩, e⟩
    cases e
    simp at h3
    exact ⟨by show i < k; omega, h2, hb, h3.1, h3.2⟩
  · rintro ⟨h1, h2, h3, h4, h5⟩
    exact ⟨i, by omega, j, h3, k, ⟨⟨by omega, h2⟩, by simp; exact ⟨h4, h5⟩⟩, rfl⟩
theorem lack_at_t (hw : WF st) {n : Nat} (f : Nat → Nat → Int) {t : Nat × Nat × Nat} (h1 : t.1 < n) (h2 : t.2.1 < n) (h3 : t.2.2 < n) : F_lack_at [tabT n f, tD3 t] st = .ok (.int (lackN f t)) st := defFin_v hw (fz_int _ _) (by
  have k0 : (startD 5 [tabT n f, tD3 t])[0]? = some (some (tabT n f)) := rfl
  have k1 : (startD 5 [tabT n f, tD3 t])[1]? = some (some (tD3 t)) := rfl
  have k : (startD 5 [tabT n f, tD3 t]).length = 5 := rfl
  generalize startD 5 [tabT n f, tD3 t] = ρ at k0 k1 k
  unfold b_lack_at lackN
  simp_arith! [k0, k1, k, fIx_range h1, fIx_range h2, fIx_range h3])
theorem tripsK_len (n i j : Nat) : (tripsK n i j).length ≤ n := by
  unfold tripsK
  rw [List.length_map]
  have := List.length_filter_le (fun k => !decide (j = i ∨ j = k)) (rng (i + 1) n)
  rw [rng_len] at this
  omega
theorem fz_tD3 (t : Nat × Nat × Nat) (f : Nat) : Fz (f + 1) (tD3 t) := fz_tup fun d hd => by
  simp only [List.mem_cons, List.not_mem_nil, or_false] at hd
  rcases hd with rfl | rfl | rfl <;> exact fz_int _ _
theorem all_triples_t (hw : WF st) {n : Nat} (n7 : n ≤ 7) : F_all_triples [.int (n : Int)] st = .ok (.lst ((trips n).map tD3)) st := by
  refine fin_list _ hw (fun x hx => ?_) ?_
  · obtain ⟨t, _, rfl⟩ := List.mem_map.mp hx
    exact fz_tD3 t 58
  have z2 := sizeLine_eq
  have h0 : (startD 5 [.int (n : Int)])[0]? = some (some (.int (n : Int))) := rfl
  have hl : (startD 5 [.int (n : Int)]).length = 5 := rfl
  generalize startD 5 [.int (n : Int)] = ρ at h0 hl
  unfold b_all_triples
  simp_arith! []
  rw [iRange_n (n := n) (by simp_arith! [h0, hl])]
  simp_arith! [List.length_range]
  generalize hL : loopFor _ _ _ _ _ _ _ _ = R
  obtain ⟨ρ', st', rfl, i, hd, k0, k1, kl, rfl⟩ := for_all_e hL (List.range n) (fun i : Nat => D.int (i : Int)) rfl (by simp) (fun r ρ st' => ∃ i, List.range n = List.range i ++ r ∧ ρ[0]? = some (some (.int (n : Int))) ∧ ρ[1]? = some (some (.ref st.length)) ∧ ρ.length = 5 ∧ st' = st ++ [.lst (((List.range i).flatMap fun i => (List.range n).flatMap fun j => tripsK n i j).map tD3)]) (fun _ _ _ _ => still_none _ _) ⟨0, by simp, by simp_arith! [h0], by simp_arith! [hl], by simp_arith! [hl], by simp⟩ (by
    rintro x r ρ st' ⟨i, hd, h0, h1, hl, rfl⟩
    obtain ⟨rfl, hi, hd⟩ := range_step hd
    have l1 := flat_pre n (fun i => (List.range n).flatMap fun j => tripsK n i j) (fun i hi => by
      have := flat_pre n (fun j => tripsK n i j) (fun j hj => by have := tripsK_len n i j; omega) n (Nat.le_refl _)
      have e : ∀ m, m ≤ n → ((List.range m).flatMap fun j => tripsK n i j).length ≤ n * m := fun m hm => by
        induction m with
        | zero => simp
        | succ m ih =>
          have := ih (by omega)
          have := tripsK_len n i m
          rw [flat_succ, List.length_append, Nat.mul_succ]; omega
      have := e n (Nat.le_refl _)
      have : n * n ≤ 7 * 7 := Nat.mul_le_mul n7 n7
      omega) x (by omega)
    rw [show ((List.range x).flatMap fun i => (List.range n).flatMap fun j => tripsK n i j) = (List.range x).flatMap (fun i => (List.range n).flatMap fun j => tripsK n i j) from rfl]
    generalize hP : (List.range x).flatMap (fun i => (List.range n).flatMap fun j => tripsK n i j) = P at l1
    refine ⟨_, rfl, ?_⟩
    simp_arith! []
    rw [iRange_n (n := n) (by simp_arith! [h0, hl])]
    simp_arith! [List.length_range]
    generalize hM : loopFor _ _ _ _ _ _ _ _ = R2
    obtain ⟨ρ', st', rfl, j, hq, k0, k1, k2, kl, rfl⟩ := for_all_e hM (List.range n) (fun i : Nat => D.int (i : Int)) rfl (by simp) (fun r ρ st' => ∃ j, List.range n = List.range j ++ r ∧ ρ[0]? = some (some (.int (n : Int))) ∧ ρ[1]? = some (some (.ref st.length)) ∧ ρ[2]? = some (some (.int (x : Int))) ∧ ρ.length = 5 ∧ st' = st ++ [.lst ((P ++ (List.range j).flatMap fun j => tripsK n x j).map tD3)]) (fun _ _ _ _ => still_none _ _) ⟨0, by simp, by simp_arith! [h0], by simp_arith! [h1], by simp_arith! [hl], by simp_arith! [hl], by simp⟩ (by
      rintro y r ρ st' ⟨j, hq, h0, h1, h2, hl, rfl⟩
      obtain ⟨rfl, hj, hq⟩ := range_step hq
      have l2 := flat_pre n (fun j => tripsK n x j) (fun j hj => by have := tripsK_len n x j; omega) y (by omega)
      have l3 := tripsK_len n x y
      refine ⟨_, rfl, ρ.set 3 (some (.int (y : Int))), _, .inl ?_, y + 1, hq, by simp_arith! [h0], by simp_arith! [h1], by simp_arith! [h2], by simp_arith! [hl], rfl⟩
      rw [qExpr_e, sM_e]
      simp_arith! [h1, litems_last]
      rw [sLC_if (dy := none) (rng (x + 1) n) (fun k : Nat => D.int (k : Int)) (fun k => !decide (y = x ∨ y = k)) (fun k => tD3 (x, y, k)) (iRange2_n (i := x + 1) (n := n) (by simp_arith! [h0, h2, hl, Int.natCast_add]; rfl)) (still_none _ _) (by rw [rng_len]; omega) fun k hk => ⟨_, rfl, by
        simp_arith! [h2, hl, fNotIn_2]
        exact fun _ => trivial⟩]
      have e : ((rng (x + 1) n).filter fun k => !decide (y = x ∨ y = k)).map (fun k => tD3 (x, y, k)) = (tripsK n x y).map tD3 := by
        unfold tripsK
        rw [List.map_map]
        rfl
      rw [e, newL_f]
      simp_arith! [fExtend_at (S := st) (xs := (P ++ (List.range y).flatMap fun j => tripsK n x j).map tD3) (ys := (tripsK n x y).map tD3) (by simp only [List.length_map, List.length_append]; omega)]
      rw [flat_succ, ← List.append_assoc, List.map_append (l₂ := tripsK n x y)])
    have := range_end hq
    subst this
    exact ⟨_, _, .inl rfl, x + 1, hd, k0, k1, kl, by rw [flat_succ, hP]⟩)
  have := range_end hd
  subst this
  simp_arith! [k1]
  rfl
theorem raw_short_t (hw : WF st) {n : Nat} (n7 : n ≤ 7) (f : Nat → Nat → Int) : F_raw_short [tabT n f] st = .ok (.lst (((trips n).filter fun t => decide (0 < lackN f t)).map tD3)) st := defFin_v hw (fz_lst fun d hd => by
    obtain ⟨t, _, rfl⟩ := List.mem_map.mp hd
    exact fz_tD3 t 58) (by
  have z2 := sizeLine_eq
  have h0 : (startD 2 [tabT n f])[0]? = some (some (tabT n f)) := rfl
  have hl : (startD 2 [tabT n f]).length = 2 := rfl
  generalize startD 2 [tabT n f] = ρ at h0 hl
  unfold b_raw_short
  have tl : (trips n).length ≤ 1000 := by
    match n, n7 with
    | 0, _ => decide
    | 1, _ => decide
    | 2, _ => decide
    | 3, _ => decide +kernel
    | 4, _ => decide +kernel
    | 5, _ => decide +kernel
    | 6, _ => decide +kernel
    | 7, _ => decide +kernel
  simp_arith! []
  rw [sLC_if (dy := none) (trips n) tD3 (fun t => decide (0 < lackN f t)) tD3 (by simp_arith! [iSeq_e, h0, List.length_range, all_triples_t hw n7]) (still_none _ _) (by omega) fun t ht => ⟨_, rfl, by
    obtain ⟨h1, h2, h3, _⟩ := mem_trips.mp ht
    simp_arith! [h0, hl, lack_at_t hw f (show t.1 < n by omega) h3 h2]
    exact fun _ => trivial⟩]
  simp_arith! [])
end Lw90
namespace Lw90
open PySem PD
variable {st : Sto}
/-- the short ones of i, j -/
def shortK (f : Nat → Nat → Int) (n i j : Nat) : List (Nat × Nat × Nat) := (tripsK n i j).filter fun t => decide (0 < lackN f t)
def shorts (n : Nat) (f : Nat → Nat → Int) : List (Nat × Nat × Nat) := (trips n).filter fun t => decide (0 < lackN f t)
theorem shorts_eq (n : Nat) (f : Nat → Nat → Int) : shorts n f = (List.range n).flatMap fun i => (List.range n).flatMap fun j => shortK f n i j := by
  unfold shorts trips shortK
  rw [List.filter_flatMap]
  congr 1
  funext i
  exact List.filter_flatMap ..
theorem shortK_len (f : Nat → Nat → Int) (n i j : Nat) : (shortK f n i j).length ≤ n := Nat.le_trans (List.length_filter_le _ _) (tripsK_len n i j)
theorem law_triples_t (hw : WF st) {n : Nat} (n7 : n ≤ 7) (f : Nat → Nat → Int) : F_law_triples [tabT n f] st = .ok (.lst ((shorts n f).map tD3)) st := by
  refine fin_list _ hw (fun x hx => ?_) ?_
  · obtain ⟨t, _, rfl⟩ := List.mem_map.mp hx
    exact fz_tD3 t 58
  rw [shorts_eq]
  have z2 := sizeLine_eq
  have h0 : (startD 6 [tabT n f])[0]? = some (some (tabT n f)) := rfl
  have hl : (startD 6 [tabT n f]).length = 6 := rfl
  generalize startD 6 [tabT n f] = ρ at h0 hl
  unfold b_law_triples
  simp_arith! [h0, hl, List.length_range]
  rw [iRange_n (n := n) (by simp_arith! [hl])]
  simp_arith! [List.length_range]
  generalize hL : loopFor _ _ _ _ _ _ _ _ = R
  obtain ⟨ρ', st', rfl, i, hd, k0, k1, k2, kl, rfl⟩ := for_all_e hL (List.range n) (fun i : Nat => D.int (i : Int)) rfl (by simp) (fun r ρ st' => ∃ i, List.range n = List.range i ++ r ∧ ρ[0]? = some (some (tabT n f)) ∧ ρ[1]? = some (some (.ref st.length)) ∧ ρ[2]? = some (some (.int (n : Int))) ∧ ρ.length = 6 ∧ st' = st ++ [.lst (((List.range i).flatMap fun i => (List.range n).flatMap fun j => shortK f n i j).map tD3)]) (fun _ _ _ _ => still_none _ _) ⟨0, by simp, by simp_arith! [h0], by simp_arith! [hl], by simp_arith! [hl], by simp_arith! [hl], by simp⟩ (by
    rintro x r ρ st' ⟨i, hd, h0, h1, h2, hl, rfl⟩
    obtain ⟨rfl, hi, hd⟩ := range_step hd
    have l1 := flat_pre n (fun i => (List.range n).flatMap fun j => shortK f n i j) (fun i hi => by
      have e : ∀ m, m ≤ n → ((List.range m).flatMap fun j => shortK f n i j).length ≤ n * m := fun m hm => by
        induction m with
        | zero => simp
        | succ m ih =>
          have := ih (by omega)
          have := shortK_len f n i m
          rw [flat_succ, List.length_append, Nat.mul_succ]; omega
      have := e n (Nat.le_refl _)
      have : n * n ≤ 7 * 7 := Nat.mul_le_mul n7 n7
      omega) x (by omega)
    generalize hP : (List.range x).flatMap (fun i => (List.range n).flatMap fun j => shortK f n i j) = P at l1
    refine ⟨_, rfl, ?_⟩
    simp_arith! []
    rw [iRange_n (n := n) (by simp_arith! [h2, hl])]
    simp_arith! [List.length_range]
    generalize hM : loopFor _ _ _ _ _ _ _ _ = R2
    obtain ⟨ρ', st', rfl, j, hq, k0, k1, k2, k3, kl, rfl⟩ := for_all_e hM (List.range n) (fun i : Nat => D.int (i : Int)) rfl (by simp) (fun r ρ st' => ∃ j, List.range n = List.range j ++ r ∧ ρ[0]? = some (some (tabT n f)) ∧ ρ[1]? = some (some (.ref st.length)) ∧ ρ[2]? = some (some (.int (n : Int))) ∧ ρ[3]? = some (some (.int (x : Int))) ∧ ρ.length = 6 ∧ st' = st ++ [.lst ((P ++ (List.range j).flatMap fun j => shortK f n x j).map tD3)]) (fun _ _ _ _ => still_none _ _) ⟨0, by simp, by simp_arith! [h0], by simp_arith! [h1], by simp_arith! [h2], by simp_arith! [hl], by simp_arith! [hl], by simp⟩ (by
      rintro y r ρ st' ⟨j, hq, h0, h1, h2, h3, hl, rfl⟩
      obtain ⟨rfl, hj, hq⟩ := range_step hq
      have l2 := flat_pre n (fun j => shortK f n x j) (fun j hj => by have := shortK_len f n x j; omega) y (by omega)
      generalize hQ : P ++ (List.range y).flatMap (fun j => shortK f n x j) = Q
      have lQ : Q.length ≤ 14000 := by rw [← hQ, List.length_append]; omega
      refine ⟨_, rfl, ?_⟩
      simp_arith! []
      rw [iRange2_n (i := x + 1) (n := n) (by simp_arith! [h2, h3, hl, Int.natCast_add]; rfl)]
      simp_arith! [rng_len]
      generalize hN : loopFor _ _ _ _ _ _ _ _ = R3
      obtain ⟨ρ', st', rfl, q, hk, i0, i1, i2, i3, i4, il, rfl⟩ := for_all_e hN (rng (x + 1) n) (fun i : Nat => D.int (i : Int)) rfl (by rw [rng_len]) (fun r ρ st' => ∃ q, rng (x + 1) n = q ++ r ∧ ρ[0]? = some (some (tabT n f)) ∧ ρ[1]? = some (some (.ref st.length)) ∧ ρ[2]? = some (some (.int (n : Int))) ∧ ρ[3]? = some (some (.int (x : Int))) ∧ ρ[4]? = some (some (.int (y : Int))) ∧ ρ.length = 6 ∧ st' = st ++ [.lst ((Q ++ (((q.filter fun k => !decide (y = x ∨ y = k)).map fun k => (x, y, k)).filter fun t => decide (0 < lackN f t))).map tD3)]) (fun _ _ _ _ => still_none _ _) ⟨[], rfl, by simp_arith! [h0], by simp_arith! [h1], by simp_arith! [h2], by simp_arith! [h3], by simp_arith! [hl], by simp_arith! [hl], by simp⟩ (by
        rintro k r ρ st' ⟨q, hk, h0, h1, h2, h3, h4, hl, rfl⟩
        have hkn : k < n := (mem_rng (a := x + 1) (b := n) (x := k).mp (by rw [hk]; simp)).2
        have ql : (q ++ k :: r).length = n - (x + 1) := by rw [← hk, rng_len]
        rw [List.length_append] at ql
        have fl := Nat.le_trans (List.length_filter_le (fun t => decide (0 < lackN f t)) ((q.filter fun k => !decide (y = x ∨ y = k)).map fun k => (x, y, k))) (by rw [List.length_map]; exact List.length_filter_le _ q)
        have ap := fun w : D => fAppend_last (S := st) (ws := (Q ++ (((q.filter fun k => !decide (y = x ∨ y = k)).map fun k => (x, y, k)).filter fun t => decide (0 < lackN f t))).map tD3) (w := w) (by rw [List.length_map, List.length_append]; omega)
        refine ⟨_, rfl, ρ.set 5 (some (.int (k : Int))), _, .inl ?_, q ++ [k], by rw [hk]; simp, by simp_arith! [h0], by simp_arith! [h1], by simp_arith! [h2], by simp_arith! [h3], by simp_arith! [h4], by simp_arith! [hl], rfl⟩
        have ed : decide (f x y + f y k < f x k) = decide (0 < lackN f (x, y, k)) := decide_eq_decide.mpr (by unfold lackN; simp only; omega)
        have eW : (Q ++ ((((q ++ [k]).filter fun k => !decide (y = x ∨ y = k)).map fun k => (x, y, k)).filter fun t => decide (0 < lackN f t))) = (Q ++ (((q.filter fun k => !decide (y = x ∨ y = k)).map fun k => (x, y, k)).filter fun t => decide (0 < lackN f t))) ++ (if y = x ∨ y = k then [] else if 0 < lackN f (x, y, k) then [(x, y, k)] else []) := by
          rw [List.filter_append, List.map_append, List.filter_append, ← List.append_assoc]
          congr 1
          by_cases c : y = x ∨ y = k
          · rw [if_pos c]
            simp only [List.filter_cons, decide_eq_true c, Bool.not_true, Bool.false_eq_true, if_false, List.filter_nil, List.map_nil]
          · rw [if_neg c]
            simp only [List.filter_cons, decide_eq_false c, Bool.not_false, if_true, List.filter_nil, List.map_cons, List.map_nil]
            by_cases c2 : 0 < lackN f (x, y, k)
            · rw [if_pos c2, decide_eq_true c2, if_pos rfl]
            · rw [if_neg c2, decide_eq_false c2]
              rfl
        rw [eW]
        clear eW fl
        generalize (Q ++ (((q.filter fun k => !decide (y = x ∨ y = k)).map fun k => (x, y, k)).filter fun t => decide (0 < lackN f t))) = Wl at ap ⊢
        by_cases c : y = x ∨ y = k
        · rw [if_pos c, List.append_nil]
          simp_arith! [h3, h4, hl, fNotIn_2, decide_eq_true c]
        · rw [if_neg c]
          simp_arith! [h0, h1, h3, h4, hl, fNotIn_2, decide_eq_false c, fIx_range hi, fIx_range hj, fIx_range hkn, ed]
          by_cases c2 : 0 < lackN f (x, y, k)
          · rw [if_pos c2, decide_eq_true c2, List.map_append]
            simp_arith! [h1, h3, h4, hl, litems_last, ap]
            rfl
          · rw [if_neg c2, decide_eq_false c2, List.append_nil]
            simp_arith! [])
      rw [List.append_nil] at hk
      subst hk
      refine ⟨_, _, .inl rfl, y + 1, hq, i0, i1, i2, i3, il, ?_⟩
      rw [flat_succ, ← List.append_assoc, hQ]
      rfl)
    have := range_end hq
    subst this
    exact ⟨_, _, .inl rfl, x + 1, hd, k0, k1, k2, kl, by rw [flat_succ, hP]⟩)
  have := range_end hd
  subst this
  simp_arith! [k1]
end Lw90
namespace Lw90
open PySem PD
variable {st : Sto}
/-! ### lots, by size (after wip/k80/K80T.lean) -/
theorem fAdd_lst3 {xs ys : List D} {st : Sto} (h : xs.length + ys.length ≤ 16777216) : fAdd (.lst xs) (.lst ys) st = .ok (.lst (xs ++ ys)) st := by
  have z2 := sizeLine_eq
  unfold fAdd
  simp only [litems_lst]
  rw [if_pos (by omega)]
def baseLots : Nat → List (List Nat)
  | 0 => [[]]
  | k + 1 => baseLots k ++ (baseLots k).map fun lot => lot ++ [k]
def key2 (lot : List Nat) : List (List Int) := [[1, (lot.length : Int)], 0 :: lot.map fun m : Nat => (m : Int)]
def allLots (n : Nat) : List (List Nat) := sortZ ((baseLots n).map key2) (baseLots n)
theorem base_len : ∀ n : Nat, (baseLots n).length = 2 ^ n
  | 0 => rfl
  | n + 1 => by rw [baseLots, List.length_append, List.length_map, base_len n, Nat.pow_succ]; omega
theorem base_lot : ∀ (n : Nat), ∀ lot ∈ baseLots n, lot.length ≤ n
  | 0, lot, h => by
    rw [List.mem_singleton.mp h]; simp
  | n + 1, lot, h => by
    rcases List.mem_append.mp h with h | h
    · have := base_lot n lot h; omega
    · obtain ⟨l, hl, rfl⟩ := List.mem_map.mp h
      have := base_lot n l hl
      simp; omega
theorem allInt_nat (l : List Nat) : allInt (l.map fun m : Nat => D.int (m : Int)) = some (l.map fun m : Nat => (m : Int)) := allInt_map (fun m : Nat => (m : Int)) l
theorem fz_lots (f : Nat) (l : List (List Nat)) : Fz (f + 2) (.lst (l.map nats)) := fz_mapL _ _ _ fun w _ => fz_nats f w
theorem allLots_len0 (n : Nat) : (allLots n).length = 2 ^ n := by
  unfold allLots
  rw [sortZ_length (by simp), base_len]
theorem iKey_2 (lot : List Nat) : iKey (.tup [.int (lot.length : Int), nats lot]) = some (key2 lot) := by
  unfold iKey
  simp only [List.map_cons, List.map_nil, cKey, allInt_nat]
  rfl
theorem law_lots_t (hw : WF st) {n : Nat} (hn : n < 7) : F_law_lots [.int (n : Int)] st = .ok (.lst ((allLots n).map nats)) st := by
  have z2 := sizeLine_eq
  have pw : 2 ^ n ≤ 64 := Nat.pow_le_pow_right (by omega) (show n ≤ 6 by omega)
  have body : b_law_lots (startD 5 [.int (n : Int)]) st = some (.rt (.lst ((allLots n).map nats)), st) := by
    simp only [b_law_lots, startD]
    simp only [qSeq_e, qFor_e]
    simp [sizeLine_eq]
    rw [if_pos (by omega), rangeL_n]
    simp only [st_ok, List.length_map]
    generalize hL : loopFor _ _ _ _ _ _ _ _ = R
    obtain ⟨ρ', st2, rfl, i, a, b, c, hd, rfl, e2⟩ := for_all_e hL (List.range n) (fun i : Nat => D.int (i : Int)) rfl (by simp) (fun r ρ st' => ∃ i a b c, List.range n = List.range i ++ r ∧ ρ = [some (.int (n : Int)), some (.lst ((baseLots i).map nats)), a, b, c] ∧ st' = st) (fun _ _ _ _ => still_none _ _) ⟨0, _, _, _, rfl, rfl, rfl⟩ (by
      rintro i' r ρ st2 ⟨i, a, b, c, hd, rfl, e2⟩
      subst e2
      have hii : i' = i := by
        have h1 := congrArg (fun l : List Nat => l[i]?) hd
        have h2 := congrArg List.length hd
        simp at h1 h2
        rw [List.getElem?_range (by omega)] at h1
        exact (Option.some.inj h1).symm
      subst hii
      have hi : i' < n := List.mem_range.mp (by rw [hd]; simp)
      have pi : 2 ^ i' ≤ 64 := Nat.pow_le_pow_right (by omega) (show i' ≤ 6 by omega)
      have bl := base_len i'
      refine ⟨_, rfl, _, _, .inl ?_, i' + 1, some (.int (i' : Int)), b, c, by rw [hd, List.range_succ]; simp, rfl, rfl⟩
      simp only [qSet_e, s2_e, sVar_e, List.set_cons_succ, List.set_cons_zero, List.getElem?_cons_succ, List.getElem?_cons_zero, bind_ok]
      rw [sLC_map (dy := none) (baseLots i') nats (fun lot => nats (lot ++ [i'])) (by simp) (still_none _ _) (by omega) fun lot hl => ⟨_, rfl, by
        have := base_lot _ lot hl
        simp [sizeLine_eq, fAdd]
        rw [if_pos (by omega), nats_snoc]⟩]
      simp only [newL_f, bind_ok]
      rw [fAdd_lst3 (by simp; omega)]
      simp [baseLots])
    rw [e2] at hL ⊢
    clear e2 st2
    have hi : i = n := by
      have := congrArg List.length hd
      simp at this
      exact this.symm
    subst hi
    have bl := base_len i
    have srt : bSorted false [.lst ((baseLots i).map fun lot => D.tup [.int (lot.length : Int), nats lot])] st = .ok (.lst ((allLots i).map fun lot => D.tup [.int (lot.length : Int), nats lot])) st := by
      unfold bSorted
      simp only [litems_lst]
      have e2 : allSome (((baseLots i).map fun lot => D.tup [.int (lot.length : Int), nats lot]).map iKey) = some ((baseLots i).map key2) := by
        rw [List.map_map]
        exact allSome_map fun m _ => iKey_2 m
      have e1 : allSome (((baseLots i).map fun lot => D.tup [.int (lot.length : Int), nats lot]).map iiKey) = none := by
        cases hq : baseLots i with
        | nil =>
          rw [hq] at bl
          have := Nat.pow_pos (n := i) (show 0 < 2 by omega)
          simp at bl
          omega
        | cons x y => rfl
      rw [e1]
      simp only [e2]
      rw [if_pos, newL_f, sortZ_map]
      · rfl
      right
      unfold compats
      refine List.all_eq_true.mpr fun k hk => ?_
      obtain ⟨y, hy, rfl⟩ := List.mem_map.mp hk
      refine Bool.and_eq_true_iff.mpr ⟨rfl, List.all_eq_true.mpr fun k2 hk2 => ?_⟩
      obtain ⟨z, _, rfl⟩ := List.mem_map.mp hk2
      rfl
    simp only [then_nx, qRet_e]
    rw [sLC_map (dy := none) (allLots i) (fun lot => D.tup [.int (lot.length : Int), nats lot]) nats (by
      simp only [iSeq_e, sB_e, aCons_e]
      rw [sLC_map (dy := none) (baseLots i) nats (fun lot => D.tup [.int (lot.length : Int), nats lot]) (by simp) (still_none _ _) (by omega) fun lot hl => ⟨_, rfl, by
        simp [sizeLine_eq]⟩]
      simp [srt]) (still_none _ _) (by rw [allLots_len0]; omega) fun lot hl => ⟨_, rfl, by simp⟩]
    simp
  exact defFin_v hw (fz_lots 58 _) body
end Lw90
namespace Lw90
open PySem PD
variable {st : Sto}
theorem all_lots_t (hw : WF st) {n : Nat} (hn : n < 7) : F_all_lots [.lst ((List.range n).map fun i : Nat => D.int (i : Int))] st = .ok (.lst ((allLots n).map nats)) st := by
  have z2 := sizeLine_eq
  have pw : 2 ^ n ≤ 64 := Nat.pow_le_pow_right (by omega) (show n ≤ 6 by omega)
  have body : b_all_lots (startD 5 [.lst ((List.range n).map fun i : Nat => D.int (i : Int))]) st = some (.rt (.lst ((allLots n).map nats)), st) := by
    simp only [b_all_lots, startD]
    simp only [qSeq_e, qFor_e]
    simp [sizeLine_eq]
    generalize hL : loopFor _ _ _ _ _ _ _ _ = R
    obtain ⟨ρ', st2, rfl, i, a, b, c, hd, rfl, e2⟩ := for_all_e hL (List.range n) (fun i : Nat => D.int (i : Int)) rfl (by simp) (fun r ρ st' => ∃ i a b c, List.range n = List.range i ++ r ∧ ρ = [some (.lst ((List.range n).map fun i : Nat => D.int (i : Int))), some (.lst ((baseLots i).map nats)), a, b, c] ∧ st' = st) (fun _ _ _ _ => still_none _ _) ⟨0, _, _, _, rfl, rfl, rfl⟩ (by
      rintro i' r ρ st2 ⟨i, a, b, c, hd, rfl, e2⟩
      subst e2
      have hii : i' = i := by
        have h1 := congrArg (fun l : List Nat => l[i]?) hd
        have h2 := congrArg List.length hd
        simp at h1 h2
        rw [List.getElem?_range (by omega)] at h1
        exact (Option.some.inj h1).symm
      subst hii
      have hi : i' < n := List.mem_range.mp (by rw [hd]; simp)
      have pi : 2 ^ i' ≤ 64 := Nat.pow_le_pow_right (by omega) (show i' ≤ 6 by omega)
      have bl := base_len i'
      refine ⟨_, rfl, _, _, .inl ?_, i' + 1, some (.int (i' : Int)), b, c, by rw [hd, List.range_succ]; simp, rfl, rfl⟩
      simp only [qSet_e, s2_e, sVar_e, List.set_cons_succ, List.set_cons_zero, List.getElem?_cons_succ, List.getElem?_cons_zero, bind_ok]
      rw [sLC_map (dy := none) (baseLots i') nats (fun lot => nats (lot ++ [i'])) (by simp) (still_none _ _) (by omega) fun lot hl => ⟨_, rfl, by
        have := base_lot _ lot hl
        simp [sizeLine_eq, fAdd]
        rw [if_pos (by omega), nats_snoc]⟩]
      simp only [newL_f, bind_ok]
      rw [fAdd_lst3 (by simp; omega)]
      simp [baseLots])
    rw [e2] at hL ⊢
    clear e2 st2
    have hi : i = n := by
      have := congrArg List.length hd
      simp at this
      exact this.symm
    subst hi
    have bl := base_len i
    have srt : bSorted false [.lst ((baseLots i).map fun lot => D.tup [.int (lot.length : Int), nats lot])] st = .ok (.lst ((allLots i).map fun lot => D.tup [.int (lot.length : Int), nats lot])) st := by
      unfold bSorted
      simp only [litems_lst]
      have e2 : allSome (((baseLots i).map fun lot => D.tup [.int (lot.length : Int), nats lot]).map iKey) = some ((baseLots i).map key2) := by
        rw [List.map_map]
        exact allSome_map fun m _ => iKey_2 m
      have e1 : allSome (((baseLots i).map fun lot => D.tup [.int (lot.length : Int), nats lot]).map iiKey) = none := by
        cases hq : baseLots i with
        | nil =>
          rw [hq] at bl
          have := Nat.pow_pos (n := i) (show 0 < 2 by omega)
          simp at bl
          omega
        | cons x y => rfl
      rw [e1]
      simp only [e2]
      rw [if_pos, newL_f, sortZ_map]
      · rfl
      right
      unfold compats
      refine List.all_eq_true.mpr fun k hk => ?_
      obtain ⟨y, hy, rfl⟩ := List.mem_map.mp hk
      refine Bool.and_eq_true_iff.mpr ⟨rfl, List.all_eq_true.mpr fun k2 hk2 => ?_⟩
      obtain ⟨z, _, rfl⟩ := List.mem_map.mp hk2
      rfl
    simp only [then_nx, qRet_e]
    rw [sLC_map (dy := none) (allLots i) (fun lot => D.tup [.int (lot.length : Int), nats lot]) nats (by
      simp only [iSeq_e, sB_e, aCons_e]
      rw [sLC_map (dy := none) (baseLots i) nats (fun lot => D.tup [.int (lot.length : Int), nats lot]) (by simp) (still_none _ _) (by omega) fun lot hl => ⟨_, rfl, by
        simp [sizeLine_eq]⟩]
      simp [srt]) (still_none _ _) (by rw [allLots_len0]; omega) fun lot hl => ⟨_, rfl, by simp⟩]
    simp
  exact defFin_v hw (fz_lots 58 _) body
end Lw90
namespace Lw90
open PySem PD
variable {st : Sto}
/-! ### the part of a table -/
def partF (f : Nat → Nat → Int) (lot : List Nat) : Nat → Nat → Int := fun a b => f (lot.getD a 0) (lot.getD b 0)
theorem map_getD {α : Type} (lot : List Nat) (g : Nat → α) : lot.map g = (List.range lot.length).map fun a => g (lot.getD a 0) := by
  apply List.ext_getElem
  · simp
  · intro i h1 h2
    simp at h1
    simp [h1]
theorem raw_part_t (hw : WF st) {n : Nat} (f : Nat → Nat → Int) {lot : List Nat} (ll : lot.length ≤ 1000) (hl' : ∀ x ∈ lot, x < n) : F_raw_part [tabT n f, nats lot] st = .ok (tabT lot.length (partF f lot)) st := defFin_v hw (fz_tabT 58 _ _) (by
  have z2 := sizeLine_eq
  have h0 : (startD 4 [tabT n f, nats lot])[0]? = some (some (tabT n f)) := rfl
  have h1 : (startD 4 [tabT n f, nats lot])[1]? = some (some (nats lot)) := rfl
  have hl : (startD 4 [tabT n f, nats lot]).length = 4 := rfl
  generalize startD 4 [tabT n f, nats lot] = ρ at h0 h1 hl
  unfold b_raw_part
  rw [qRet_e, sB_e, aCons_e, sLC_map (dy := none) lot (fun m : Nat => D.int (m : Int)) (fun i => D.tup (lot.map fun j => D.int (f i j))) (by simp_arith! [iSeq_e, h1]) (still_none _ _) (by omega) fun i hi => ⟨_, rfl, by
    have hi := hl' i hi
    rw [sB_e, aCons_e, sLC_map (dy := none) lot (fun m : Nat => D.int (m : Int)) (fun j => D.int (f i j)) (by simp_arith! [iSeq_e, h1, hl]) (still_none _ _) (by omega) fun j hj => ⟨_, rfl, by
      have hj := hl' j hj
      simp_arith! [h0, h1, hl, fIx_range hi, fIx_range hj]⟩]
    simp_arith! []⟩]
  simp_arith! []
  congr 3
  rw [map_getD lot]
  refine congrArg D.tup (List.map_congr_left fun a _ => ?_)
  show D.tup _ = D.tup _
  rw [map_getD lot]
  rfl)
end Lw90
namespace Lw90
open PySem PD
variable {st : Sto}
theorem base_lt : ∀ (n : Nat), ∀ lot ∈ baseLots n, ∀ x ∈ lot, x < n
  | 0, lot, h, x, hx => by
    rw [List.mem_singleton.mp h] at hx; cases hx
  | n + 1, lot, h, x, hx => by
    rcases List.mem_append.mp h with h | h
    · have := base_lt n lot h x hx; omega
    · obtain ⟨l, hl, rfl⟩ := List.mem_map.mp h
      rcases List.mem_append.mp hx with hx | hx
      · have := base_lt n l hl x hx; omega
      · rw [List.mem_singleton.mp hx]; omega
theorem lots_mem {n : Nat} {lot : List Nat} (h : lot ∈ allLots n) : lot ∈ baseLots n := (sortZ_perm (ks := (baseLots n).map key2) (by simp)).mem_iff.mp h
/-- the lots whose part has no short triple -/
def soundL (n : Nat) (f : Nat → Nat → Int) : List (List Nat) := ((allLots n).drop 1).filter fun lot => (shortT lot.length (partF f lot)).isNone
theorem raw_sound_t (hw : WF st) {n : Nat} (hn : n < 7) (f : Nat → Nat → Int) : F_raw_sound [tabT n f] st = .ok (.lst ((soundL n f).map nats)) st := defFin_v hw (fz_lots 58 _) (by
  have z2 := sizeLine_eq
  have pw : 2 ^ n ≤ 64 := Nat.pow_le_pow_right (by omega) (show n ≤ 6 by omega)
  have al := allLots_len0 n
  have h0 : (startD 3 [tabT n f])[0]? = some (some (tabT n f)) := rfl
  have hl : (startD 3 [tabT n f]).length = 3 := rfl
  generalize startD 3 [tabT n f] = ρ at h0 hl
  have rl : rangeL 0 ((n : Int)).toNat = (List.range n).map fun i : Nat => D.int (i : Int) := rangeL_0 n
  have ao := all_lots_t hw hn
  have c0 : (0 : Int) ≤ (n : Int) := by omega
  have c1 : (n : Int) ≤ ((16777216 : Nat) : Int) := by omega
  unfold b_raw_sound
  simp_arith! [h0, hl, List.length_range, c0, c1, rl, ao, cut_1]
  rw [sLC_if (dy := none) ((allLots n).drop 1) nats (fun lot => (shortT lot.length (partF f lot)).isNone) nats (by simp_arith! [iSeq_e, hl, List.map_drop]) (still_none _ _) (by rw [List.length_drop]; omega) fun lot hlot => ⟨_, rfl, by
    have hb := lots_mem (List.mem_of_mem_drop hlot)
    have b1 := base_lot n lot hb
    have b2 := base_lt n lot hb
    simp_arith! [h0, hl, raw_part_t hw f (lot := lot) (by omega) b2, short_triple_T hw (partF f lot) (show lot.length ≤ 7 by omega), fIsN2_tri]
    exact fun _ => trivial⟩]
  simp_arith! []
  rfl)
end Lw90
namespace Lw90
open PySem PD
variable {st : Sto}
def keyN (lot : List Nat) : List (List Int) := lot.map fun m : Nat => [1, (m : Int)]
def sortL (l : List (List Nat)) : List (List Nat) := sortZ (l.map keyN) l
theorem iKey_nats (l : List Nat) : iKey (nats l) = some (keyN l) := by
  unfold iKey nats keyN
  simp only [List.map_map]
  exact allSome_map fun m _ => rfl
theorem compat_keyN : ∀ a b : List Nat, compat (keyN a) (keyN b) = true
  | [], _ => by unfold keyN compat; rfl
  | _ :: _, [] => by unfold keyN compat; rfl
  | x :: a, y :: b => by
    have ih := compat_keyN a b
    unfold keyN at ih ⊢
    rw [List.map_cons, List.map_cons, compat, ih]
    rfl
theorem sorted_lots {st : Sto} {x : D} {l : List (List Nat)} (hx : litems st x = some (l.map nats)) (h : l.length < 2 ∨ ∀ y ∈ l, y ≠ []) : bSorted false [x] st = .ok (.lst ((sortL l).map nats)) st := by
  unfold bSorted
  simp only [hx]
  cases l with
  | nil => rfl
  | cons a l =>
    have e1 : allSome (((a :: l).map nats).map iiKey) = none := rfl
    have e2 : allSome (((a :: l).map nats).map iKey) = some ((a :: l).map keyN) := by
      rw [List.map_map]
      exact allSome_map fun m _ => iKey_nats m
    rw [e1]
    simp only [e2]
    rw [if_pos]
    · rw [newL_f, sortZ_map]
      rfl
    · rcases h with h | h
      · exact .inl (by simpa using h)
      · right
        unfold compats
        refine List.all_eq_true.mpr fun k hk => ?_
        obtain ⟨y, hy, rfl⟩ := List.mem_map.mp hk
        refine Bool.and_eq_true_iff.mpr ⟨?_, List.all_eq_true.mpr fun k2 hk2 => ?_⟩
        · have := h y hy
          cases y with
          | nil => exact absurd rfl this
          | cons p q => rfl
        · obtain ⟨z, _, rfl⟩ := List.mem_map.mp hk2
          exact compat_keyN y z
/-- lots that stand in no other that came before -/
def wholeG (F : List (List Nat)) (lot : List Nat) : List (List Nat) := if (F.any fun o => lot.all fun p => decide (p ∈ o)) = true then F else F ++ [lot]
def wholeS (l : List (List Nat)) : List (List Nat) := l.foldl wholeG []
theorem wholeS_snoc (l : List (List Nat)) (x : List Nat) : wholeS (l ++ [x]) = wholeG (wholeS l) x := by
  unfold wholeS; rw [List.foldl_append]; rfl
theorem wholeS_mem : ∀ (l : List (List Nat)) (F : List (List Nat)), ∀ x ∈ l.foldl wholeG F, x ∈ F ∨ x ∈ l
  | [], F, x, h => .inl h
  | a :: l, F, x, h => by
    rcases wholeS_mem l _ x h with h | h
    · unfold wholeG at h
      split at h
      · exact .inl h
      · rcases List.mem_append.mp h with h | h
        · exact .inl h
        · exact .inr (by rw [List.mem_singleton.mp h]; exact List.mem_cons_self)
    · exact .inr (List.mem_cons_of_mem _ h)
theorem wholeS_len : ∀ (l : List (List Nat)) (F : List (List Nat)), (l.foldl wholeG F).length ≤ F.length + l.length
  | [], F => by simp
  | a :: l, F => by
    have := wholeS_len l (wholeG F a)
    have : (wholeG F a).length ≤ F.length + 1 := by
      unfold wholeG
      split <;> simp
    rw [List.foldl_cons, List.length_cons]
    omega
theorem lots_ne0 : (List.range 7).all (fun n => ((allLots n).drop 1).all fun x => decide (1 ≤ x.length)) = true := by decide +kernel
theorem lots_ne {n : Nat} (h : n < 7) {x : List Nat} (hx : x ∈ (allLots n).drop 1) : x ≠ [] := fun e => by
  have := of_decide_eq_true (List.all_eq_true.mp (List.all_eq_true.mp lots_ne0 n (List.mem_range.mpr h)) x hx)
  rw [e] at this
  simp at this
theorem sound_lots_t (hw : WF st) {n : Nat} (hn : n < 7) {f : Nat → Nat → Int} (v : TabP n f) : F_sound_lots [tabT n f] st = .ok (.tup ((sortL (wholeS (soundL n f).reverse)).map nats)) st := by
  have z2 := sizeLine_eq
  have pw : 2 ^ n ≤ 64 := Nat.pow_le_pow_right (by omega) (show n ≤ 6 by omega)
  have sl : (soundL n f).length ≤ 64 := by
    have := List.length_filter_le (fun lot => (shortT lot.length (partF f lot)).isNone) ((allLots n).drop 1)
    rw [List.length_drop, allLots_len0] at this
    unfold soundL; omega
  have ne : ∀ y ∈ wholeS (soundL n f).reverse, y ≠ [] := fun y hy => by
    rcases wholeS_mem _ _ y hy with h | h
    · cases h
    · have h1 := List.mem_filter.mp (List.mem_reverse.mp h)
      exact lots_ne hn h1.1
  have body : b_sound_lots (startD 5 [tabT n f]) st = some (.rt (.tup ((sortL (wholeS (soundL n f).reverse)).map nats)), st ++ [.lst ((wholeS (soundL n f).reverse).map nats)]) := by
    have h0 : (startD 5 [tabT n f])[0]? = some (some (tabT n f)) := rfl
    have hl : (startD 5 [tabT n f]).length = 5 := rfl
    generalize startD 5 [tabT n f] = ρ at h0 hl
    have w1 : WF (st ++ [.lst []]) := hw.app rfl
    unfold b_sound_lots
    simp_arith! [h0, hl, check_table_T hw v, iSeq_e, sRev_e, raw_sound_t w1 hn f]
    generalize hL : loopFor _ _ _ _ _ _ _ _ = R
    obtain ⟨ρ', st', rfl, q, hd, k1, kl, rfl⟩ := for_all_e hL (soundL n f).reverse nats (by rw [List.map_reverse]) (by simp) (fun r ρ st' => ∃ q, (soundL n f).reverse = q ++ r ∧ ρ[1]? = some (some (.ref st.length)) ∧ ρ.length = 5 ∧ st' = st ++ [.lst ((wholeS q).map nats)]) (fun _ _ _ _ => still_none _ _) ⟨[], rfl, by simp_arith! [hl], by simp_arith! [hl], rfl⟩ (by
      rintro lot r ρ st' ⟨q, hd, h1, hl, rfl⟩
      have ql : q.length ≤ 64 := by
        have := congrArg List.length hd
        rw [List.length_reverse, List.length_append] at this
        omega
      have fl := wholeS_len q []
      have ll : lot.length ≤ 7 := by
        have hm : lot ∈ soundL n f := List.mem_reverse.mp (by rw [hd]; simp)
        have := base_lot n lot (lots_mem (List.mem_of_mem_drop (List.mem_filter.mp hm).1))
        omega
      refine ⟨_, rfl, ρ.set 2 (some (nats lot)), _, .inl ?_, q ++ [lot], by rw [hd]; simp, by simp_arith! [h1], by simp_arith! [hl], rfl⟩
      rw [wholeS_snoc]
      unfold wholeS at fl ⊢
      generalize q.foldl wholeG [] = F at fl ⊢
      simp only [List.length_nil, Nat.zero_add] at fl
      simp_arith! [hl]
      rw [sLC_map (dy := some (.inl st.length)) F nats (fun o => D.bl (lot.all fun p => decide (p ∈ o))) (by simp_arith! [iSeq_e, h1, items_ref (sto_get1 _ _)]) (sto_get1 _ _) (by omega) fun o ho => ⟨_, rfl, by
        simp_arith! []
        rw [sLC_map (dy := none) lot (fun m : Nat => D.int (m : Int)) (fun p => D.bl (decide (p ∈ o))) (by simp_arith! [iSeq_e, hl]) (still_none _ _) (by omega) fun p hp => ⟨_, rfl, by
          simp_arith! [hl, fIn_nats]⟩]
        have ba := fun s => bAll_map (fun p : Nat => decide (p ∈ o)) lot s
        simp_arith! [ba]⟩]
      have bn := fun s => bAny_map (fun o : List Nat => lot.all fun p => decide (p ∈ o)) F s
      simp_arith! [bn]
      unfold wholeG
      cases (F.any fun o => lot.all fun p => decide (p ∈ o))
      · simp_arith! [h1, hl, litems_last, fAppend_last (S := st) (ws := F.map nats) (w := nats lot) (by rw [List.length_map]; omega)]
        rw [List.map_append]
        rfl
      · simp_arith! [])
    rw [List.append_nil] at hd
    subst hd
    have so := sorted_lots (st := st ++ [.lst ((wholeS (soundL n f).reverse).map nats)]) (x := .ref st.length) (litems_ref (sto_get1 _ _)) (.inr ne)
    simp_arith! [k1, so]
  exact defFin_rt body rfl hw (fz_map 59 _ _ (fun w _ => fz_nats 58 w) _ _)
end Lw90
namespace Lw90
open PySem PD
variable {st : Sto}
abbrev natL (lot : List Nat) : D := .lst (lot.map fun m : Nat => D.int (m : Int))
theorem raw_part_l (hw : WF st) {n : Nat} (f : Nat → Nat → Int) {lot : List Nat} (ll : lot.length ≤ 1000) (hl' : ∀ x ∈ lot, x < n) : F_raw_part [tabT n f, natL lot] st = .ok (tabT lot.length (partF f lot)) st := defFin_v hw (fz_tabT 58 _ _) (by
  have z2 := sizeLine_eq
  have h0 : (startD 4 [tabT n f, natL lot])[0]? = some (some (tabT n f)) := rfl
  have h1 : (startD 4 [tabT n f, natL lot])[1]? = some (some (natL lot)) := rfl
  have hl : (startD 4 [tabT n f, natL lot]).length = 4 := rfl
  generalize startD 4 [tabT n f, natL lot] = ρ at h0 h1 hl
  unfold b_raw_part
  rw [qRet_e, sB_e, aCons_e, sLC_map (dy := none) lot (fun m : Nat => D.int (m : Int)) (fun i => D.tup (lot.map fun j => D.int (f i j))) (by simp_arith! [iSeq_e, h1]) (still_none _ _) (by omega) fun i hi => ⟨_, rfl, by
    have hi := hl' i hi
    rw [sB_e, aCons_e, sLC_map (dy := none) lot (fun m : Nat => D.int (m : Int)) (fun j => D.int (f i j)) (by simp_arith! [iSeq_e, h1, hl]) (still_none _ _) (by omega) fun j hj => ⟨_, rfl, by
      have hj := hl' j hj
      simp_arith! [h0, h1, hl, fIx_range hi, fIx_range hj]⟩]
    simp_arith! []⟩]
  simp_arith! []
  congr 3
  rw [map_getD lot]
  refine congrArg D.tup (List.map_congr_left fun a _ => ?_)
  show D.tup _ = D.tup _
  rw [map_getD lot]
  rfl)
/-! ### the fewest left out -/
def restL (n : Nat) (lot : List Nat) : List Nat := (List.range n).filter fun p => !decide (p ∈ lot)
def outB (n : Nat) (f : Nat → Nat → Int) (lot : List Nat) : Bool := !(restL n lot).isEmpty && (shortT (restL n lot).length (partF f (restL n lot))).isNone
def lotD (lot : List Nat) : D := .tup [.int (lot.length : Int), nats lot]
def fewO (n : Nat) (f : Nat → Nat → Int) : Option (List Nat) := (allLots n).find? (outB n f)
def fewD : Option (List Nat) → D
  | none => .non
  | some lot => lotD lot
theorem fz_lotD (lot : List Nat) : Fz 60 (lotD lot) := fz_tup fun d hd => by
  simp only [List.mem_cons, List.not_mem_nil, or_false] at hd
  rcases hd with rfl | rfl
  · exact fz_int _ _
  · exact fz_nats 58 lot
theorem fewest_out_t (hw : WF st) {n : Nat} (hn : n < 7) {f : Nat → Nat → Int} (v : TabP n f) : F_fewest_out [tabT n f] st = .ok (fewD (fewO n f)) st := by
  have z2 := sizeLine_eq
  have pw : 2 ^ n ≤ 64 := Nat.pow_le_pow_right (by omega) (show n ≤ 6 by omega)
  have al := allLots_len0 n
  have body : b_fewest_out (startD 5 [tabT n f]) st = some (.rt (fewD (fewO n f)), st) := by
    have h0 : (startD 5 [tabT n f])[0]? = some (some (tabT n f)) := rfl
    have hl : (startD 5 [tabT n f]).length = 5 := rfl
    generalize startD 5 [tabT n f] = ρ at h0 hl
    have rl : rangeL 0 ((n : Int)).toNat = (List.range n).map fun i : Nat => D.int (i : Int) := rangeL_0 n
    have ao := all_lots_t hw hn
    have c0 : (0 : Int) ≤ (n : Int) := by omega
    have c1 : (n : Int) ≤ ((16777216 : Nat) : Int) := by omega
    unfold b_fewest_out
    simp_arith! [h0, hl, check_table_T hw v, List.length_range, c0, c1, rl, ao, iSeq_e]
    generalize hL : loopFor _ _ _ _ _ _ _ _ = R
    have q := for_some_e hL (allLots n) nats rfl (by simp) (still_none _ _) (fun ρ => ρ[0]? = some (some (tabT n f)) ∧ ρ[1]? = some (some (.lst ((List.range n).map fun i : Nat => D.int (i : Int)))) ∧ ρ.length = 5) (fun lot => if outB n f lot = true then some (lotD lot) else none) (by simp_arith! [h0, hl]) (by
      rintro lot hlot ρ ⟨h0, h1, hl⟩
      have ll := base_lot n lot (lots_mem hlot)
      refine ⟨_, rfl, ?_⟩
      simp_arith! []
      rw [sLC_if (dy := none) (List.range n) (fun i : Nat => D.int (i : Int)) (fun p => !decide (p ∈ lot)) (fun i : Nat => D.int (i : Int)) (by simp_arith! [iSeq_e, h1]) (still_none _ _) (by simp; omega) fun p hp => ⟨_, rfl, by
        simp_arith! [hl, fNotIn_nats]
        exact fun _ => trivial⟩]
      rw [show (List.range n).filter (fun p => !decide (p ∈ lot)) = restL n lot from rfl]
      have rlen : (restL n lot).length ≤ n := by
        have := List.length_filter_le (fun p => !decide (p ∈ lot)) (List.range n)
        rw [List.length_range] at this
        exact this
      have rlt : ∀ x ∈ restL n lot, x < n := fun x hx => List.mem_range.mp (List.mem_filter.mp hx).1
      have tr : truD st (.lst ((restL n lot).map fun i : Nat => D.int (i : Int))) = some (!(restL n lot).isEmpty) := by
        show some _ = _
        rw [List.isEmpty_map]
      have rp := raw_part_l hw f (lot := restL n lot) (by omega) rlt
      have sh := short_triple_T hw (partF f (restL n lot)) (show (restL n lot).length ≤ 7 by omega)
      unfold outB
      simp_arith! [hl, tr]
      cases (restL n lot).isEmpty with
      | true =>
        refine .inr ⟨rfl, (ρ.set 2 (some (nats lot))).set 3 (some (natL (restL n lot))), .inl ?_, by simp_arith! [h0], by simp_arith! [h1], by simp_arith! [hl]⟩
        simp_arith! []
      | false =>
        simp_arith! [h0, hl, rp, sh, fIsN2_tri]
        cases (shortT (restL n lot).length (partF f (restL n lot))).isNone with
        | true =>
          refine .inl ⟨lotD lot, rfl, ?_⟩
          simp_arith! [hl]
          rfl
        | false =>
          refine .inr ⟨rfl, (ρ.set 2 (some (nats lot))).set 3 (some (natL (restL n lot))), .inl ?_, by simp_arith! [h0], by simp_arith! [h1], by simp_arith! [hl]⟩
          simp_arith! [])
    have fs := find_findSome (outB n f) lotD (allLots n)
    rcases q with ⟨d, hc, rfl⟩ | ⟨hc, ρ', rfl, _⟩
    · rw [fs] at hc
      unfold fewO
      cases h : (allLots n).find? (outB n f) with
      | none => rw [h] at hc; cases hc
      | some lot => rw [h] at hc; cases hc; rfl
    · rw [fs] at hc
      unfold fewO
      cases h : (allLots n).find? (outB n f) with
      | none => simp_arith! []; rfl
      | some lot => rw [h] at hc; cases hc
  refine defFin_v hw ?_ body
  unfold fewD
  split
  · exact fz_non _
  · exact fz_lotD _
end Lw90
namespace Lw90
open PySem PD
variable {st : Sto}
/-! ### triples stand in order -/
def key3 (t : Nat × Nat × Nat) : List (List Int) := [[1, (t.1 : Int)], [1, (t.2.1 : Int)], [1, (t.2.2 : Int)]]
theorem sortB_id {α : Type} {lt : α → α → Bool} : ∀ {l : List α}, l.Pairwise (fun a b => lt b a = false) → sortB lt l = l
  | [], _ => rfl
  | x :: l, h => by
    rw [List.pairwise_cons] at h
    rw [sortB, sortB_id h.2]
    cases l with
    | nil => rfl
    | cons y l => rw [insB, h.1 y List.mem_cons_self]; rfl
def ordB (l : List (Nat × Nat × Nat)) : Bool := match l with
  | [] => true
  | a :: r => r.all (fun b => !ltK (key3 b) (key3 a)) && ordB r
theorem ordB_pw : ∀ {l : List (Nat × Nat × Nat)}, ordB l = true → l.Pairwise fun a b => ltK (key3 b) (key3 a) = false
  | [], _ => List.Pairwise.nil
  | a :: r, h => by
    unfold ordB at h
    rw [Bool.and_eq_true] at h
    exact List.Pairwise.cons (fun b hb => by simpa using List.all_eq_true.mp h.1 b hb) (ordB_pw h.2)
theorem trips_ord0 : (List.range 7).all (fun n => ordB (trips n)) = true := by decide +kernel
theorem shorts_ord {n : Nat} (hn : n < 7) (f : Nat → Nat → Int) : (shorts n f).Pairwise fun a b => ltK (key3 b) (key3 a) = false :=
  (ordB_pw (List.all_eq_true.mp trips_ord0 n (List.mem_range.mpr hn))).filter _
theorem sorted_shorts {n : Nat} (hn : n < 7) (f : Nat → Nat → Int) (st : Sto) : bSorted false [.lst ((shorts n f).map tD3)] st = .ok (.lst ((shorts n f).map tD3)) st := by
  have pw := shorts_ord hn f
  unfold bSorted
  simp only [litems_lst]
  generalize shorts n f = l at pw ⊢
  cases l with
  | nil => rfl
  | cons a l =>
    have e1 : allSome (((a :: l).map tD3).map iiKey) = none := rfl
    have e2 : allSome (((a :: l).map tD3).map iKey) = some ((a :: l).map key3) := by
      rw [List.map_map]
      exact allSome_map fun m _ => rfl
    rw [e1]
    simp only [e2]
    rw [if_pos]
    · rw [newL_f, sortZ_map]
      have ez : ((a :: l).map key3).zip (a :: l) = (a :: l).map fun t => (key3 t, t) := by
        generalize a :: l = m
        induction m with
        | nil => rfl
        | cons x m ih => rw [List.map_cons, List.zip_cons_cons, ih]; rfl
      have es : sortZ ((a :: l).map key3) (a :: l) = a :: l := by
        unfold sortZ
        have pz : ((a :: l).map fun t => (key3 t, t)).Pairwise (fun p q => (fun (p q : List (List Int) × Nat × Nat × Nat) => ltK p.1 q.1) q p = false) := List.pairwise_map.mpr pw
        rw [ez, sortB_id pz, List.map_map]
        exact List.map_id' _
      rw [es]
    · right
      unfold compats
      refine List.all_eq_true.mpr fun k hk => ?_
      obtain ⟨y, hy, rfl⟩ := List.mem_map.mp hk
      refine Bool.and_eq_true_iff.mpr ⟨rfl, List.all_eq_true.mpr fun k2 hk2 => ?_⟩
      obtain ⟨z, _, rfl⟩ := List.mem_map.mp hk2
      rfl
theorem short_triples_t (hw : WF st) {n : Nat} (hn : n < 7) {f : Nat → Nat → Int} (v : TabP n f) : F_short_triples [tabT n f] st = .ok (.tup ((shorts n f).map tD3)) st := defFin_v hw (fz_map 59 _ _ fun t _ => fz_tD3 t 58) (by
  have h0 : (startD 1 [tabT n f])[0]? = some (some (tabT n f)) := rfl
  generalize startD 1 [tabT n f] = ρ at h0
  have rs := raw_short_t hw (n := n) (by omega) f
  rw [show (trips n).filter (fun t => decide (0 < lackN f t)) = shorts n f from rfl] at rs
  unfold b_short_triples
  simp_arith! [h0, check_table_T hw v, rs, sorted_shorts hn f])
end Lw90
namespace Lw90
open PySem PD
variable {st : Sto}
/-! ### the table raised, and closed -/
def rz (f : Nat → Nat → Int) (T : Int) : Nat → Nat → Int := fun i j => if i = j then 0 else 60 * f i j + T
theorem rz_met {n : Nat} {f : Nat → Nat → Int} {T : Int} (h0 : 0 ≤ T) (hf : ∀ i j, i < n → j < n → 0 ≤ f i j) : Met n (rz f T) := ⟨fun a _ => by unfold rz; rw [if_pos rfl], fun a b ha hb => by
  have := hf a b ha hb
  unfold rz
  split <;> omega⟩
/-- what nearest_mend tells -/
def toldD (n : Nat) (F : Nat → Nat → Int) (b : Int × Option (List Nat)) : D := .tup [fr b.1, tabF n F, wayO b.2]
theorem fz_toldD (n : Nat) (F : Nat → Nat → Int) (b : Int × Option (List Nat)) : Fz 60 (toldD n F b) := fz_tup fun d hd => by
  simp only [List.mem_cons, List.not_mem_nil, or_false] at hd
  rcases hd with rfl | rfl | rfl
  · exact fz_fr _ _
  · exact fz_tabF 56 _ _
  · cases b.2 with
    | none => exact fz_non _
    | some w => exact fz_nats 58 w
/-! ### the law's tables -/
structure RawU (n i j : Nat) (top : Int) (f : Nat → Nat → Int) : Prop where
  dg : ∀ a, f a a = 0
  sy : ∀ a b, f a b = f b a
  po : ∀ a b, a < b → b < n → (a < i ∨ a = i ∧ b < j) → 1 ≤ f a b ∧ f a b ≤ top
theorem RawU.next {n i j : Nat} {top v : Int} {f : Nat → Nat → Int} (h : RawU n i j top f) (hj : i < j) (h1 : 1 ≤ v) (h2 : v ≤ top) : RawU n i (j + 1) top (upd1 (upd1 f i j v) j i v) := by
  refine ⟨fun a => ?_, fun a b => ?_, fun a b hb hbn hab => ?_⟩
  · unfold upd1
    rw [if_neg (by omega), if_neg (by omega)]
    exact h.dg a
  · unfold upd1
    by_cases c1 : a = j ∧ b = i
    · rw [if_pos c1]
      by_cases c2 : b = j ∧ a = i
      · omega
      · rw [if_neg c2, if_pos ⟨c1.2, c1.1⟩]
    · rw [if_neg c1]
      by_cases c2 : a = i ∧ b = j
      · rw [if_pos c2, if_pos ⟨c2.2, c2.1⟩]
      · rw [if_neg c2, if_neg fun q => c2 ⟨q.2, q.1⟩, if_neg fun q => c1 ⟨q.2, q.1⟩]
        exact h.sy a b
  · unfold upd1
    by_cases c1 : a = j ∧ b = i
    · omega
    · rw [if_neg c1]
      by_cases c2 : a = i ∧ b = j
      · rw [if_pos c2]; exact ⟨h1, h2⟩
      · rw [if_neg c2]
        exact h.po a b hb hbn (by omega)
theorem RawU.fin {n : Nat} {top : Int} {f : Nat → Nat → Int} (h : RawU n n 0 top f) : RawF n top f :=
  ⟨h.dg, fun a b _ _ => h.sy a b, fun a b ha hb hne => by
    by_cases c : a < b
    · exact h.po a b c hb (by omega)
    · rw [h.sy a b]
      exact h.po b a (by omega) ha (by omega)⟩
theorem rng_step {a n x : Nat} {q r : List Nat} (h : rng a n = q ++ x :: r) : x = a + q.length ∧ x < n := by
  have hl := congrArg List.length h
  rw [rng_len, List.length_append, List.length_cons] at hl
  have hx := congrArg (fun l : List Nat => l[q.length]?) h
  unfold rng at hx
  simp only [List.getElem?_map] at hx
  rw [List.getElem?_append_right (Nat.le_refl _), Nat.sub_self, List.getElem?_cons_zero, List.getElem?_range (by omega)] at hx
  have : a + q.length = x := Option.some.inj hx
  omega
theorem rng_end {a n : Nat} {q : List Nat} (h : rng a n = q ++ []) : a + q.length = a + (n - a) := by
  have := congrArg List.length h
  rw [List.append_nil, rng_len] at this
  omega
theorem law_table_t {o : MO} {rest : Sto} (hw : WF (o :: rest)) (ho : HandO o) {n : Nat} (hn : n ≤ 7) {top : Int} (h0 : 0 < top) (h1 : top < 1000000) :
    ∃ o' f, HandO o' ∧ RawF n top f ∧ F_law_table [.ref 0, .int (n : Int), .int top] (o :: rest) = .ok (tabT n f) (o' :: rest) := by
  have z2 := sizeLine_eq
  have body : ∃ o' f, HandO o' ∧ RawF n top f ∧ b_law_table (startD 9 [.ref 0, .int (n : Int), .int top]) (o :: rest) = some (.rt (tabT n f), (o' :: rest) ++ rowsG n (intG f)) := by
    have h0' : (startD 9 [.ref 0, .int (n : Int), .int top])[0]? = some (some (.ref 0)) := rfl
    have h1' : (startD 9 [.ref 0, .int (n : Int), .int top])[1]? = some (some (.int (n : Int))) := rfl
    have h2' : (startD 9 [.ref 0, .int (n : Int), .int top])[2]? = some (some (.int top)) := rfl
    have hl : (startD 9 [.ref 0, .int (n : Int), .int top]).length = 9 := rfl
    generalize startD 9 [.ref 0, .int (n : Int), .int top] = ρ at h0' h1' h2' hl
    unfold b_law_table
    rw [qSeq_e, qSet_e]
    rw [sLC_alloc (List.range n) (fun i : Nat => D.int (i : Int)) (fun _ => .lst (rowG n fun _ => .int 0)) (iRange_n (by simp_arith! [h1'])) (by simp; omega) fun a _ st => ⟨_, rfl, by
      simp_arith! [hl, h1', fRep_G n (by omega)]⟩]
    rw [show ((List.range n).map fun _ => MO.lst (rowG n fun _ => D.int 0)) = rowsG n (intG fun _ _ => 0) from rfl]
    simp_arith! [List.length_range]
    rw [iRange_n (n := n) (by simp_arith! [hl, h1'])]
    have hRL : (o :: rest).length = rest.length + 1 := rfl
    simp_arith! []
    generalize hL : loopFor _ _ _ _ _ _ _ _ = R
    obtain ⟨ρ', st', rfl, i, o', f, hd, ho', hf, kl, k0, k1, k2, k3, rfl⟩ := for_all_e hL (List.range n) (fun i : Nat => D.int (i : Int)) rfl (by simp) (fun r ρ st' => ∃ i o' f, List.range n = List.range i ++ r ∧ HandO o' ∧ RawU n i 0 top f ∧ ρ.length = 9 ∧ ρ[0]? = some (some (.ref 0)) ∧ ρ[1]? = some (some (.int (n : Int))) ∧ ρ[2]? = some (some (.int top)) ∧ ρ[3]? = some (some (refsL (rest.length + 1) n)) ∧ st' = (o' :: rest) ++ rowsG n (intG f)) (fun _ _ _ _ => still_none _ _) ⟨0, o, fun _ _ => 0, by simp, ho, ⟨fun _ => rfl, fun _ _ => rfl, fun a b hb hbn hi => by omega⟩, by simp_arith! [hl], by simp_arith! [h0'], by simp_arith! [h1'], by simp_arith! [h2'], by simp_arith! [hl], rfl⟩ (by
      rintro x r ρ st' ⟨i, o', f, hd, ho', hf, kl, k0, k1, k2, k3, rfl⟩
      obtain ⟨rfl, hi, hd⟩ := range_step hd
      refine ⟨_, rfl, ?_⟩
      generalize hM : qFor _ _ _ _ _ = R2
      rw [qFor_e, iRange2_n (i := x + 1) (n := n) (by simp_arith! [kl, k1, Int.natCast_add]; rfl)] at hM
      simp_arith! [] at hM
      obtain ⟨ρ', st', rfl, q, o2, f2, hd2, ho2, hf2, jl, j0, j1, j2, j3, j4, rfl⟩ := for_all_e hM (rng (x + 1) n) (fun i : Nat => D.int (i : Int)) rfl (by simp) (fun r ρ st' => ∃ q o' f, rng (x + 1) n = q ++ r ∧ HandO o' ∧ RawU n x (x + 1 + q.length) top f ∧ ρ.length = 9 ∧ ρ[0]? = some (some (.ref 0)) ∧ ρ[1]? = some (some (.int (n : Int))) ∧ ρ[2]? = some (some (.int top)) ∧ ρ[3]? = some (some (refsL (rest.length + 1) n)) ∧ ρ[4]? = some (some (.int (x : Int))) ∧ st' = (o' :: rest) ++ rowsG n (intG f)) (fun _ _ _ _ => still_none _ _) ⟨[], o', f, rfl, ho', ⟨hf.dg, hf.sy, fun a b hab hbn h => hf.po a b hab hbn (by simp at h; omega)⟩, by simp_arith! [kl], by simp_arith! [k0], by simp_arith! [k1], by simp_arith! [k2], by simp_arith! [k3], by simp_arith! [kl], rfl⟩ (by
        rintro y r2 ρ st' ⟨q, o2, f2, hd2, ho2, hf2, jl, j0, j1, j2, j3, j4, rfl⟩
        obtain ⟨ey, hy⟩ := rng_step hd2
        rw [← ey] at hf2
        have wo2 := wf_hand hw ho2
        obtain ⟨o3, v, ho3, v0, v1, hdr⟩ := draw_t (rest := rest ++ rowsG n (intG f2)) (wf_rowsG wo2 (noRef_intG f2)) ho2 h0 (by omega)
        refine ⟨_, rfl, (ρ.set 5 (some (.int (y : Int)))).set 6 (some (.int (1 + v))), (o3 :: rest) ++ rowsG n (intG (upd1 (upd1 f2 x y (1 + v)) y x (1 + v))), .inl ?_, q ++ [y], o3, _, by rw [hd2]; simp, ho3, by
          have := hf2.next (by omega) (v := 1 + v) (by omega) (by omega)
          rw [List.length_append, List.length_singleton, ← Nat.add_assoc, ← ey]
          exact this, by simp_arith! [jl], by simp_arith! [j0], by simp_arith! [j1], by simp_arith! [j2], by simp_arith! [j3], by simp_arith! [j4], rfl⟩
        rw [show (o2 :: rest) ++ rowsG n (intG f2) = o2 :: (rest ++ rowsG n (intG f2)) from rfl]
        have c2 : ∀ (a : Nat) (f : Nat → Nat → Int) (v : Int), a < n → ∀ b, b < n → fSetIx (.ref (rest.length + 1 + a)) (.int (b : Int)) (.int v) (o3 :: (rest ++ rowsG n (intG f))) = some (o3 :: (rest ++ rowsG n (intG (upd1 f a b v)))) := fun a f v ha b hb => by
          have := fSetIx_rowG (st := o3 :: rest) (F := intG f) (v := .int v) ha hb
          rw [updG_int] at this
          exact this
        simp_arith! [jl, j0, j1, j2, j3, j4, hdr, fIx_refs hi, fIx_refs hy, c2 x _ _ hi y hy, c2 y _ _ hy x hi]
        rfl)
      have e := rng_end hd2
      refine ⟨_, _, .inl rfl, x + 1, o2, f2, hd, ho2, ⟨hf2.dg, hf2.sy, fun a b hab hbn h => hf2.po a b hab hbn (by omega)⟩, jl, j0, j1, j2, j3, rfl⟩)
    have := range_end hd
    subst this
    refine ⟨o', f, ho', hf.fin, ?_⟩
    simp_arith! []
    rw [tup_rowsG (st := o' :: rest) (by omega) k3 (by rw [kl]; decide)]
    simp_arith! []
  obtain ⟨o', f, h2, h3, h4⟩ := body
  exact ⟨o', f, h2, h3, defFin_rt h4 rfl (wf_hand hw h2) (fz_tabT 58 _ _ _ _)⟩
theorem law_closing_t (hw : WF st) {n : Nat} (hn : n ≤ 1000) {f : Nat → Nat → Int} (hf : Met n f) : F_law_closing [tabT n f] st = .ok (tabT n (fw f n)) st := by
  have z2 := sizeLine_eq
  have body : b_law_closing (startD 7 [tabT n f]) st = some (.rt (tabT n (fw f n)), st ++ rowsG n (intG (fw f n))) := by
    have h0 : (startD 7 [tabT n f])[0]? = some (some (tabT n f)) := rfl
    have hl : (startD 7 [tabT n f]).length = 7 := rfl
    generalize startD 7 [tabT n f] = ρ at h0 hl
    unfold b_law_closing
    rw [qSeq_e, qSet_e]
    rw [sLC_alloc2 (List.range n) (fun a => rowT n f a) (fun a => .lst (rowG n (intG f a))) (by simp_arith! [iSeq_e, h0]) (by simp; omega) fun a ha ex => ⟨_, rfl, by
      simp_arith! [hl]
      rfl⟩]
    rw [show ((List.range n).map fun a => MO.lst (rowG n (intG f a))) = rowsG n (intG f) from rfl]
    simp_arith! [List.length_range, hl]
    rw [iRange_n (n := n) (by simp_arith! [hl, List.length_range])]
    simp_arith! []
    generalize hL : loopFor _ _ _ _ _ _ _ _ = R
    obtain ⟨ρ', st', rfl, m, hd, kl, k1, k2, rfl⟩ := for_all_e hL (List.range n) (fun i : Nat => D.int (i : Int)) rfl (by simp) (fun r ρ st' => ∃ m, List.range n = List.range m ++ r ∧ ρ.length = 7 ∧ ρ[1]? = some (some (refsL st.length n)) ∧ ρ[2]? = some (some (.int (n : Int))) ∧ st' = st ++ rowsG n (intG (fw f m))) (fun _ _ _ _ => still_none _ _) ⟨0, by simp, by simp_arith! [hl], by simp_arith! [hl], by simp_arith! [hl], rfl⟩ (by
      rintro m r ρ st' ⟨m', hd, kl, k1, k2, rfl⟩
      obtain ⟨rfl, hm, hd⟩ := range_step hd
      have mt := hf.fw m (by omega)
      refine ⟨_, rfl, ?_⟩
      generalize hM : qFor _ _ _ _ _ = R2
      rw [qFor_e, iRange_n (n := n) (by simp_arith! [kl, k2])] at hM
      simp_arith! [] at hM
      obtain ⟨ρ', st', rfl, i, f2, hd2, hf2, jl, j1, j2, j3, rfl⟩ := for_all_e hM (List.range n) (fun i : Nat => D.int (i : Int)) rfl (by simp) (fun r ρ st' => ∃ i f2, List.range n = List.range i ++ r ∧ Pass (fw f m) n m i 0 f2 ∧ ρ.length = 7 ∧ ρ[1]? = some (some (refsL st.length n)) ∧ ρ[2]? = some (some (.int (n : Int))) ∧ ρ[3]? = some (some (.int (m : Int))) ∧ st' = st ++ rowsG n (intG f2)) (fun _ _ _ _ => still_none _ _) ⟨0, fw f m, by simp, ⟨fun a b ha hb => by rw [if_neg (by omega)]⟩, by simp_arith! [kl], by simp_arith! [k1], by simp_arith! [k2], by simp_arith! [kl], rfl⟩ (by
        rintro i r2 ρ st' ⟨i', f2, hd2, hf2, jl, j1, j2, j3, rfl⟩
        obtain ⟨rfl, hi, hd2⟩ := range_step hd2
        refine ⟨_, rfl, ?_⟩
        generalize hN : qFor _ _ _ _ _ = R3
        rw [qFor_e, iRange_n (n := n) (by simp_arith! [jl, j2])] at hN
        simp_arith! [] at hN
        obtain ⟨ρ', st', rfl, j, f3, hd3, hf3, il, i1, i2, i3, i4, rfl⟩ := for_all_e hN (List.range n) (fun i : Nat => D.int (i : Int)) rfl (by simp) (fun r ρ st' => ∃ j f3, List.range n = List.range j ++ r ∧ Pass (fw f m) n m i j f3 ∧ ρ.length = 7 ∧ ρ[1]? = some (some (refsL st.length n)) ∧ ρ[2]? = some (some (.int (n : Int))) ∧ ρ[3]? = some (some (.int (m : Int))) ∧ ρ[4]? = some (some (.int (i : Int))) ∧ st' = st ++ rowsG n (intG f3)) (fun _ _ _ _ => still_none _ _) ⟨0, f2, by simp, hf2, by simp_arith! [jl], by simp_arith! [j1], by simp_arith! [j2], by simp_arith! [j3], by simp_arith! [jl], rfl⟩ (by
          rintro j r3 ρ st' ⟨j', f3, hd3, hf3, il, i1, i2, i3, i4, rfl⟩
          obtain ⟨rfl, hj, hd3⟩ := range_step hd3
          refine ⟨_, rfl, ρ.set 5 (some (.int (j : Int))), st ++ rowsG n (intG (upd1 f3 i j (if f3 i m + f3 m j < f3 i j then f3 i m + f3 m j else f3 i j))), .inl ?_, j + 1, _, hd3, hf3.next mt hm hi hj, by simp_arith! [il], by simp_arith! [i1], by simp_arith! [i2], by simp_arith! [i3], by simp_arith! [i4], rfl⟩
          simp_arith! [il, i1, i2, i3, i4, fIx_refs hi, fIx_refs hm, fIx_rowG hi hj, fIx_rowG hi hm, fIx_rowG hm hj, fSetIx_rowG hi hj, updG_int])
        have := range_end hd3
        subst this
        exact ⟨_, _, .inl rfl, i + 1, f3, hd2, hf3.up, il, i1, i2, i3, rfl⟩)
      have := range_end hd2
      subst this
      refine ⟨_, _, .inl rfl, m + 1, hd, jl, j1, j2, ?_⟩
      rw [rowsG_congr (F := intG f2) (G := intG (fw f (m + 1))) fun a b ha hb => by
        show D.int _ = D.int _
        rw [hf2.fin a b ha hb]
        rfl])
    have := range_end hd
    subst this
    simp_arith! []
    rw [tup_rowsG (by omega) k1 (by rw [kl]; decide)]
    simp_arith! []
  exact defFin_rt body rfl hw (fz_tabT 58 _ _ _ _)
end Lw90
namespace Lw90
open PySem PD
variable {st : Sto}
/-! ### _law_is, whatever stands for its call of itself -/
theorem is_int (F : List D → Sto → Out D) (hw : WF st) (a b : Int) : defFin 5 (bb_law_is F) [.int a, .int b] st = .ok (.bl (decide (a = b))) st := defFin_v hw (fz_bl _ _) (by
  have h0 : (startD 5 [.int a, .int b])[0]? = some (some (.int a)) := rfl
  have h1 : (startD 5 [.int a, .int b])[1]? = some (some (.int b)) := rfl
  generalize startD 5 [.int a, .int b] = ρ at h0 h1
  have t1 : ∀ x : Int, isTy .list (.int x) = some false := fun _ => rfl
  have t2 : ∀ x : Int, isTy .dict (.int x) = some false := fun _ => rfl
  have t3 : ∀ x : Int, isTy .str (.int x) = some false := fun _ => rfl
  have t4 : ∀ x : Int, isTy .tuple (.int x) = some false := fun _ => rfl
  have t5 : ∀ x : Int, isTy .bool (.int x) = some false := fun _ => rfl
  have t6 : ∀ x : Int, isTy .int (.int x) = some true := fun _ => rfl
  have ni : ∀ x st, fIsN2 (.int x) .non st = .ok (.bl false) st := fun _ _ => rfl
  unfold bb_law_is
  simp_arith! [h0, h1, sIsT_e, t1, t2, t3, t4, t5, t6, ni, Bool.or_false])
theorem is_non (F : List D → Sto → Out D) (hw : WF st) : defFin 5 (bb_law_is F) [.non, .non] st = .ok (.bl true) st := defFin_v hw (fz_bl _ _) (by
  have h0 : (startD 5 [.non, .non])[0]? = some (some .non) := rfl
  have h1 : (startD 5 [.non, .non])[1]? = some (some .non) := rfl
  generalize startD 5 [.non, .non] = ρ at h0 h1
  have t1 : isTy .list .non = some false := rfl
  have t2 : isTy .dict .non = some false := rfl
  have t3 : isTy .str .non = some false := rfl
  have t4 : isTy .tuple .non = some false := rfl
  have fe : fEq .non .non st = .ok (.bl true) st := by unfold fEq; simp [PyData.eqv]
  unfold bb_law_is
  simp_arith! [h0, h1, sIsT_e, t1, t2, t3, t4, Bool.or_false, fe])
theorem zip_self {α : Type} : ∀ l : List α, l.zip l = l.map fun a => (a, a)
  | [] => rfl
  | a :: l => by rw [List.zip_cons_cons, zip_self l]; rfl
theorem is_tupF (F : List D → Sto → Out D) (hw : WF st) {α : Type} (l : List α) (φ ψ : α → D) (P : α → Bool) (ll : l.length ≤ 10000) (h : ∀ a ∈ l, F [φ a, ψ a] st = .ok (.bl (P a)) st) :
    defFin 5 (bb_law_is F) [.tup (l.map φ), .tup (l.map ψ)] st = .ok (.bl (l.all P)) st := defFin_v hw (fz_bl _ _) (by
  have z2 := sizeLine_eq
  have h0 : (startD 5 [.tup (l.map φ), .tup (l.map ψ)])[0]? = some (some (.tup (l.map φ))) := rfl
  have h1 : (startD 5 [.tup (l.map φ), .tup (l.map ψ)])[1]? = some (some (.tup (l.map ψ))) := rfl
  have hl : (startD 5 [.tup (l.map φ), .tup (l.map ψ)]).length = 5 := rfl
  generalize startD 5 [.tup (l.map φ), .tup (l.map ψ)] = ρ at h0 h1 hl
  have t1 : ∀ xs : List D, isTy .list (.tup xs) = some false := fun _ => rfl
  have t4 : ∀ xs : List D, isTy .tuple (.tup xs) = some true := fun _ => rfl
  unfold bb_law_is
  simp_arith! [h0, h1, sIsT_e, t1, t4, Bool.or_false]
  rw [sLC_map (dy := none) l (fun a => D.tpl [φ a, ψ a]) (fun a => D.bl (P a)) (by
    simp_arith! [iZip_e, h0, h1, zip_map]
    rw [zip_self, List.map_map]
    rfl) (still_none _ _) (by omega) fun a ha => ⟨_, rfl, by
    simp_arith! [hl, h a ha]⟩]
  have ba := fun s => bAll_map P l s
  simp_arith! [ba])
theorem is_tupS (F : List D → Sto → Out D) (hw : WF st) (xs : List D) (ll : xs.length ≤ 10000) (h : ∀ x ∈ xs, F [x, x] st = .ok (.bl true) st) : defFin 5 (bb_law_is F) [.tup xs, .tup xs] st = .ok (.bl true) st := by
  have := is_tupF F hw xs (fun d => d) (fun d => d) (fun _ => true) ll h
  rw [List.map_id'' (fun _ => rfl), all_true] at this
  exact this
end Lw90
namespace Lw90
open PySem PD
open PySem.W (alike dataLt)
variable {st : Sto}
/-! ### min of data -/
theorem bestP_map {α β : Type} (f : PyData → PyData → Bool) (P : α → PyData) (φ : α → β) : ∀ (l : List α) (a : α), bestP f (P a, φ a) ((l.map P).zip (l.map φ)) = (P (l.foldl (fun a y => if f (P y) (P a) then y else a) a), φ (l.foldl (fun a y => if f (P y) (P a) then y else a) a))
  | [], a => rfl
  | b :: l, a => by
    have ih := bestP_map f P φ l (if f (P b) (P a) then b else a)
    unfold bestP at ih ⊢
    rw [List.map_cons, List.map_cons, List.zip_cons_cons, List.foldl_cons, List.foldl_cons, ← ih]
    congr 1
    dsimp only
    split <;> rfl
theorem bMinP_map {α : Type} (P : α → PyData) (φ : α → D) (a : α) (l : List α) {x : D} {st : Sto} (hx : litems st x = some ((a :: l).map φ)) (h1 : ∀ y ∈ a :: l, toPy st 59 (φ y) = some (P y)) (h2 : ∀ y ∈ a :: l, ∀ z ∈ a :: l, alike (P y) (P z) = true) (h3 : ∀ y ∈ a :: l, P y ≠ .none) :
    bMinP [x] st = .ok (φ (l.foldl (fun a y => if dataLt (P y) (P a) then y else a) a)) st := by
  unfold bMinP bBestP
  have e : toPys st 59 ((a :: l).map φ) = some ((a :: l).map P) := by
    unfold toPys
    rw [List.map_map]
    exact allSome_map fun y hy => h1 y hy
  simp only [hx, List.map_cons] at e ⊢
  simp only [e]
  rw [if_pos]
  · have := bestP_map (fun y a => dataLt y a) P φ l a
    rw [this]
  · unfold alikeB
    rw [Bool.and_eq_true]
    refine ⟨List.all_eq_true.mpr fun p hp => List.all_eq_true.mpr fun q hq => ?_, List.all_eq_true.mpr fun p hp => ?_⟩
    · obtain ⟨y, hy, rfl⟩ := List.mem_map.mp (show p ∈ (a :: l).map P from hp)
      obtain ⟨z, hz, rfl⟩ := List.mem_map.mp (show q ∈ (a :: l).map P from hq)
      exact h2 y hy z hz
    · obtain ⟨y, hy, rfl⟩ := List.mem_map.mp (show p ∈ (a :: l).map P from hp)
      have := h3 y hy
      cases h : P y <;> first | rfl | exact absurd h this
theorem is_sound_t (hw : WF st) {n : Nat} {f : Nat → Nat → Int} (v : TabP n f) : F_is_sound [tabT n f] st = .ok (.bl (shortT n f).isNone) st := defFin_v hw (fz_bl _ _) (by
  have h0 : (startD 1 [tabT n f])[0]? = some (some (tabT n f)) := rfl
  generalize startD 1 [tabT n f] = ρ at h0
  unfold b_is_sound
  simp_arith! [h0, check_table_T hw v, short_triple_T hw f v.n7, fIsN2_tri])
/-- no short ones: it is sound -/
theorem shorts_nil {n : Nat} {f : Nat → Nat → Int} (v : TabP n f) : shorts n f = [] ↔ shortT n f = none := by
  rw [shortT_none v]
  unfold shorts
  rw [List.filter_eq_nil_iff]
  constructor
  · intro h i j k hi hj hk
    have a := v.lo i j hi hj
    have b := v.lo j k hj hk
    have s1 := v.sy i k hi hk
    have s2 := v.sy i j hi hj
    have s3 := v.sy j k hj hk
    by_cases e1 : j = i
    · subst e1; have := (v.dg j j hj hj).mpr rfl; omega
    by_cases e2 : j = k
    · subst e2; have := (v.dg j j hj hj).mpr rfl; omega
    by_cases e3 : i = k
    · subst e3; have := (v.dg i i hi hi).mpr rfl; omega
    by_cases e4 : i < k
    · have q := h (i, j, k) (mem_trips.mpr ⟨e4, hk, hj, e1, e2⟩)
      have : ¬ 0 < f i k - f i j - f j k := fun z => q (decide_eq_true z)
      omega
    · have q := h (k, j, i) (mem_trips.mpr ⟨by show k < i; omega, hi, hj, e2, e1⟩)
      have : ¬ 0 < f k i - f k j - f j i := fun z => q (decide_eq_true z)
      omega
  · intro h t ht
    obtain ⟨h1, h2, h3, _⟩ := mem_trips.mp ht
    have := h t.1 t.2.1 t.2.2 (by omega) h3 h2
    intro hd
    have q := of_decide_eq_true hd
    unfold lackN at q
    omega
/-! ### the worst triple -/
abbrev Tr := Nat × Nat × Nat
def l3 (t : Tr) : List Int := [(t.1 : Int), (t.2.1 : Int), (t.2.2 : Int)]
def p3 (t : Tr) : PyData := .tuple ((l3 t).map PyData.int)
def ordX (l : List Tr) : Bool := match l with
  | [] => true
  | a :: r => r.all (fun b => !decide (l3 b < l3 a)) && ordX r
theorem ordX_pw : ∀ {l : List Tr}, ordX l = true → l.Pairwise fun a b => decide (l3 b < l3 a) = false
  | [], _ => List.Pairwise.nil
  | a :: r, h => by
    unfold ordX at h
    rw [Bool.and_eq_true] at h
    exact List.Pairwise.cons (fun b hb => by simpa using List.all_eq_true.mp h.1 b hb) (ordX_pw h.2)
theorem trips_ordX : (List.range 7).all (fun n => ordX (trips n)) = true := by decide +kernel
theorem alike_intsD : ∀ xs ys : List Int, PySem.W.alikeAll (xs.map PyData.int) (ys.map PyData.int) = true
  | [], _ => by rw [List.map_nil, PySem.W.alikeAll]
  | _ :: _, [] => by rw [List.map_nil, List.map_cons, PySem.W.alikeAll]
  | x :: xs, y :: ys => by
    rw [List.map_cons, List.map_cons, PySem.W.alikeAll, alike_intsD xs ys]
    simp [alike]
theorem alike_tupI (xs ys : List Int) : alike (.tuple (xs.map PyData.int)) (.tuple (ys.map PyData.int)) = true := by
  rw [alike]
  exact alike_intsD xs ys
theorem dataLt_tupI (xs ys : List Int) : dataLt (.tuple (xs.map PyData.int)) (.tuple (ys.map PyData.int)) = decide (xs < ys) := (PySem.W.dataLt_tuple _ _).trans (PySem.W.dataLt_ints xs ys)
theorem eqv_tupI : ∀ (l m : List Int), PyData.eqv (.tuple (l.map PyData.int)) (.tuple (m.map PyData.int)) = decide (l = m) := by
  have key : ∀ l m : List Int, PyData.eqvAll (l.map PyData.int) (m.map PyData.int) = decide (l = m) := by
    intro l
    induction l with
    | nil => intro m; cases m <;> rfl
    | cons x l ih =>
      intro m
      cases m with
      | nil => rfl
      | cons y m =>
        rw [List.map_cons, List.map_cons, PyData.eqvAll, ih m, eqv_int]
        by_cases h : x = y <;> simp [h]
  intro l m
  rw [PyData.eqv]
  exact key l m
/-- pairs of a number and a row -/
theorem dataLt_pI (i j : Int) (xs ys : List Int) : dataLt (.tuple [.int i, .tuple (xs.map PyData.int)]) (.tuple [.int j, .tuple (ys.map PyData.int)]) = if i = j then (if xs = ys then false else decide (xs < ys)) else decide (i < j) := by
  rw [PySem.W.dataLt_pair (by simp [alike]) (alike_tupI xs ys), eqv_int, eqv_tupI, dataLt_tupI, PySem.W.dataLt_int]
  by_cases h : i = j <;> by_cases h2 : xs = ys <;> simp [h, h2]
theorem alike_pI (i j : Int) (xs ys : List Int) : alike (.tuple [.int i, .tuple (xs.map PyData.int)]) (.tuple [.int j, .tuple (ys.map PyData.int)]) = true := by
  have h := alike_tupI xs ys
  simp only [alike, PySem.W.alikeAll] at h ⊢
  simp [h]
def wF (f : Nat → Nat → Int) (p : Int × Option Tr) (t : Tr) : Int × Option Tr := if p.1 < lackN f t then (lackN f t, some t) else p
def wst (n : Nat) (f : Nat → Nat → Int) : Int × Option Tr := (shorts n f).foldl (wF f) (0, none)
def triO : Option Tr → D
  | none => .non
  | some t => tD3 t
def worstD (p : Int × Option Tr) : D := .tup [.int p.1, triO p.2]
def wP (f : Nat → Nat → Int) (t : Tr) : PyData := .tuple [.int (0 - lackN f t), p3 t]
theorem wst_fold (f : Nat → Nat → Int) : ∀ (r : List Tr) (a : Tr), (a :: r).Pairwise (fun a b => decide (l3 b < l3 a) = false) → r.foldl (wF f) (lackN f a, some a) = (lackN f (r.foldl (fun a y => if dataLt (wP f y) (wP f a) then y else a) a), some (r.foldl (fun a y => if dataLt (wP f y) (wP f a) then y else a) a))
  | [], a, _ => rfl
  | b :: r, a, h => by
    rw [List.pairwise_cons] at h
    have hb := h.1 b List.mem_cons_self
    have e : dataLt (wP f b) (wP f a) = decide (lackN f a < lackN f b) := by
      unfold wP p3
      rw [dataLt_pI]
      split
      · rename_i e
        rw [decide_eq_false (show ¬ lackN f a < lackN f b by omega)]
        split
        · rfl
        · exact hb
      · exact decide_eq_decide.mpr (by omega)
    rw [List.foldl_cons, List.foldl_cons, e]
    unfold wF
    by_cases c : lackN f a < lackN f b
    · rw [if_pos c, if_pos (decide_eq_true c)]
      exact wst_fold f r b h.2
    · rw [if_neg c, if_neg (by simpa using c)]
      exact wst_fold f r a (List.Pairwise.cons (fun y hy => h.1 y (List.mem_cons_of_mem _ hy)) (List.pairwise_cons.mp h.2).2)
theorem toPy_tD3 (st : Sto) (n : Nat) (t : Tr) : toPy st (n + 1) (tD3 t) = some (p3 t) := toPy_tupInts st n (l3 t)
theorem fz_worstD (p : Int × Option Tr) : Fz 60 (worstD p) := fz_tup fun d hd => by
  simp only [List.mem_cons, List.not_mem_nil, or_false] at hd
  rcases hd with rfl | rfl
  · exact fz_int _ _
  · unfold triO
    split
    · exact fz_non _
    · exact fz_tD3 _ _
theorem shorts_len {n : Nat} (n7 : n < 7) (f : Nat → Nat → Int) : (shorts n f).length ≤ 1000 := by
  have h1 := List.length_filter_le (fun t => decide (0 < lackN f t)) (trips n)
  have tl : (trips n).length ≤ 1000 := by
    match n, n7 with
    | 0, _ => decide
    | 1, _ => decide
    | 2, _ => decide
    | 3, _ => decide +kernel
    | 4, _ => decide +kernel
    | 5, _ => decide +kernel
    | 6, _ => decide +kernel
  unfold shorts; omega
theorem worst_triple_t (hw : WF st) {n : Nat} (hn : n < 7) {f : Nat → Nat → Int} (v : TabP n f) : F_worst_triple [tabT n f] st = .ok (worstD (wst n f)) st := defFin_v hw (fz_worstD _) (by
  have z2 := sizeLine_eq
  have sl := shorts_len hn f
  have h0 : (startD 3 [tabT n f])[0]? = some (some (tabT n f)) := rfl
  have hl : (startD 3 [tabT n f]).length = 3 := rfl
  generalize startD 3 [tabT n f] = ρ at h0 hl
  have rs := raw_short_t hw (n := n) (by omega) f
  rw [show (trips n).filter (fun t => decide (0 < lackN f t)) = shorts n f from rfl] at rs
  have mem : ∀ t ∈ shorts n f, t.1 < n ∧ t.2.1 < n ∧ t.2.2 < n ∧ 0 < lackN f t := fun t ht => by
    have h := List.mem_filter.mp ht
    obtain ⟨h1, h2, h3, _⟩ := mem_trips.mp h.1
    exact ⟨by omega, h3, h2, of_decide_eq_true h.2⟩
  unfold b_worst_triple
  simp_arith! [h0, check_table_T hw v]
  rw [sLC_map (dy := none) (shorts n f) tD3 (fun t => .tup [.int (0 - lackN f t), tD3 t]) (by simp_arith! [iSeq_e, h0, rs]) (still_none _ _) (by omega) fun t ht => ⟨_, rfl, by
    obtain ⟨a1, a2, a3, _⟩ := mem t ht
    simp_arith! [h0, hl, lack_at_t hw f a1 a2 a3]⟩]
  have pw := (ordX_pw (List.all_eq_true.mp trips_ordX n (List.mem_range.mpr hn))).filter (fun t => decide (0 < lackN f t))
  rw [show (trips n).filter (fun t => decide (0 < lackN f t)) = shorts n f from rfl] at pw
  unfold wst
  generalize shorts n f = l at mem pw
  cases l with
  | nil =>
    have tr : truD st (.lst (([] : List Tr).map fun t => D.tup [.int (0 - lackN f t), tD3 t])) = some false := rfl
    simp_arith! [hl, tr]
    rfl
  | cons a r =>
    have tr : truD st (.lst ((a :: r).map fun t => D.tup [.int (0 - lackN f t), tD3 t])) = some true := rfl
    have bm := bMinP_map (st := st) (wP f) (fun t => D.tup [.int (0 - lackN f t), tD3 t]) a r (x := .lst ((a :: r).map fun t => D.tup [.int (0 - lackN f t), tD3 t])) rfl (fun y _ => by
      have e := toPy_tD3 st 57 y
      show (allSome ([D.int (0 - lackN f y), tD3 y].map (toPy st 58))).map PyData.tuple = _
      rw [List.map_cons, List.map_cons, toPy_int, e]
      rfl) (fun y _ z _ => alike_pI _ _ _ _) (fun y _ e => by cases e)
    rw [List.foldl_cons, show wF f (0, none) a = (lackN f a, some a) from if_pos (mem a List.mem_cons_self).2.2.2, wst_fold f r a pw]
    generalize r.foldl (fun a y => if dataLt (wP f y) (wP f a) then y else a) a = b at bm
    have i0 : ∀ st, fIx (.tup [.int (0 - lackN f b), tD3 b]) (.int 0) st = .ok (.int (0 - lackN f b)) st := fun st => fIx_tup (i := 0) rfl
    have i1 : ∀ st, fIx (.tup [.int (0 - lackN f b), tD3 b]) (.int 1) st = .ok (tD3 b) st := fun st => fIx_tup (i := 1) rfl
    simp_arith! [hl, tr, bm, i0, i1]
    rw [show (0 : Int) - (0 - lackN f b) = lackN f b by omega]
    rfl)
end Lw90
namespace Lw90
open PySem PD
open PySem.W (alike dataLt)
variable {st : Sto}
/-! ### the law's good lots -/
def inLot (lot : List Nat) (t : Tr) : Bool := [t.1, t.2.1, t.2.2].all fun p => decide (p ∈ lot)
def goodB (n : Nat) (f : Nat → Nat → Int) (lot : List Nat) : Bool := !((shorts n f).any (inLot lot))
theorem lots_nd0 : (List.range 7).all (fun n => (allLots n).all fun x => decide x.Nodup) = true := by decide +kernel
theorem lots_nd {n : Nat} (h : n < 7) {x : List Nat} (hx : x ∈ allLots n) : x.Nodup := of_decide_eq_true (List.all_eq_true.mp (List.all_eq_true.mp lots_nd0 n (List.mem_range.mpr h)) x hx)
theorem getD_mem {l : List Nat} {a : Nat} (h : a < l.length) : l.getD a 0 ∈ l := by
  rw [List.getD_eq_getElem?_getD, List.getElem?_eq_getElem h]
  exact List.getElem_mem h
theorem getD_inj {l : List Nat} (nd : l.Nodup) {a b : Nat} (ha : a < l.length) (hb : b < l.length) (e : l.getD a 0 = l.getD b 0) : a = b := by
  rw [List.getD_eq_getElem?_getD, List.getElem?_eq_getElem ha, List.getD_eq_getElem?_getD, List.getElem?_eq_getElem hb] at e
  exact (List.getElem_inj nd).mp e
theorem part_tab {n : Nat} {f : Nat → Nat → Int} (v : TabP n f) {lot : List Nat} (nd : lot.Nodup) (h0 : lot ≠ []) (hl : lot.length ≤ 7) (lt : ∀ x ∈ lot, x < n) : TabP lot.length (partF f lot) where
  n1 := List.length_pos_iff.mpr h0
  n7 := hl
  lo := fun i j hi hj => v.lo _ _ (lt _ (getD_mem hi)) (lt _ (getD_mem hj))
  dg := fun i j hi hj => by
    refine (v.dg _ _ (lt _ (getD_mem hi)) (lt _ (getD_mem hj))).trans ⟨fun e => getD_inj nd hi hj e, fun e => by rw [e]⟩
  sy := fun i j hi hj => v.sy _ _ (lt _ (getD_mem hi)) (lt _ (getD_mem hj))
theorem good_eq {n : Nat} {f : Nat → Nat → Int} (v : TabP n f) {lot : List Nat} (nd : lot.Nodup) (h0 : lot ≠ []) (hl : lot.length ≤ 7) (lt : ∀ x ∈ lot, x < n) : goodB n f lot = (shortT lot.length (partF f lot)).isNone := by
  have pt := part_tab v nd h0 hl lt
  have sn := shortT_none pt
  rw [Bool.eq_iff_iff, Option.isNone_iff_eq_none, sn]
  unfold goodB
  rw [Bool.not_eq_true', List.any_eq_false]
  constructor
  · intro h i j k hi hj hk
    have mi := getD_mem hi
    have mj := getD_mem hj
    have mk := getD_mem hk
    unfold partF
    generalize lot.getD i 0 = x at mi
    generalize lot.getD j 0 = y at mj
    generalize lot.getD k 0 = z at mk
    have lx := lt x mi
    have ly := lt y mj
    have lz := lt z mk
    have a := v.lo x y lx ly
    have b := v.lo y z ly lz
    have s1 := v.sy x z lx lz
    have s2 := v.sy x y lx ly
    have s3 := v.sy y z ly lz
    by_cases e1 : y = x
    · subst e1; have := (v.dg y y ly ly).mpr rfl; omega
    by_cases e2 : y = z
    · subst e2; have := (v.dg y y ly ly).mpr rfl; omega
    by_cases e3 : x = z
    · subst e3; have := (v.dg x x lx lx).mpr rfl; omega
    have no : ∀ t ∈ trips n, inLot lot t = true → ¬ 0 < lackN f t := fun t ht hi hq => h t (List.mem_filter.mpr ⟨ht, decide_eq_true hq⟩) hi
    by_cases e4 : x < z
    · have q := no (x, y, z) (mem_trips.mpr ⟨e4, lz, ly, e1, e2⟩) (by simp [inLot, mi, mj, mk])
      have : ¬ 0 < f x z - f x y - f y z := q
      omega
    · have q := no (z, y, x) (mem_trips.mpr ⟨by show z < x; omega, lx, ly, e2, e1⟩) (by simp [inLot, mi, mj, mk])
      have : ¬ 0 < f z x - f z y - f y x := q
      omega
  · intro h t ht hi
    have q := List.mem_filter.mp ht
    have hq : 0 < f t.1 t.2.2 - f t.1 t.2.1 - f t.2.1 t.2.2 := of_decide_eq_true q.2
    simp only [inLot, List.all_cons, List.all_nil, Bool.and_true, Bool.and_eq_true, decide_eq_true_eq] at hi
    obtain ⟨m1, m2, m3⟩ := hi
    have pos : ∀ x ∈ lot, ∃ a, a < lot.length ∧ lot.getD a 0 = x := fun x hx => by
      obtain ⟨a, ha, e⟩ := List.mem_iff_getElem.mp hx
      exact ⟨a, ha, by rw [List.getD_eq_getElem?_getD, List.getElem?_eq_getElem ha]; exact e⟩
    obtain ⟨a, ha, ea⟩ := pos _ m1
    obtain ⟨b, hb, eb⟩ := pos _ m2
    obtain ⟨c, hc, ec⟩ := pos _ m3
    have := h a b c ha hb hc
    unfold partF at this
    rw [ea, eb, ec] at this
    omega
def goodL (n : Nat) (f : Nat → Nat → Int) : List (List Nat) := ((allLots n).drop 1).filter (goodB n f)
theorem goodL_eq {n : Nat} (hn : n < 7) {f : Nat → Nat → Int} (v : TabP n f) : goodL n f = soundL n f := by
  unfold goodL soundL
  refine List.filter_congr fun lot h => ?_
  have h2 := List.mem_of_mem_drop h
  exact good_eq v (lots_nd hn h2) (lots_ne hn h) (by have := base_lot n lot (lots_mem h2); omega) (base_lt n lot (lots_mem h2))
theorem goodL_mem {n : Nat} (hn : n < 7) {f : Nat → Nat → Int} {lot : List Nat} (h : lot ∈ goodL n f) : lot ∈ allLots n ∧ lot ≠ [] ∧ lot.length ≤ n ∧ ∀ x ∈ lot, x < n := by
  have h1 := (List.mem_filter.mp h).1
  have h2 := List.mem_of_mem_drop h1
  exact ⟨h2, lots_ne hn h1, base_lot n lot (lots_mem h2), base_lt n lot (lots_mem h2)⟩
/-! ### the fewest left out: of the law's list -/
def restB (n : Nat) : Bool := (allLots n).all fun lot => decide (restL n lot ∈ allLots n) && (decide (restL n (restL n lot) = lot) && (decide ((restL n lot).length + lot.length = n) && (decide (lot = []) || decide (lot ∈ (allLots n).drop 1))))
theorem rest_0 : (List.range 7).all restB = true := by decide +kernel
def ltO (a b : List Nat) : Bool := if a.length = b.length then (if a = b then false else decide ((a.map fun m : Nat => (m : Int)) < b.map fun m : Nat => (m : Int))) else decide (a.length < b.length)
def ordO (l : List (List Nat)) : Bool := match l with
  | [] => true
  | a :: r => r.all (fun b => ltO a b && !ltO b a) && ordO r
theorem ordO_pw : ∀ {l : List (List Nat)}, ordO l = true → l.Pairwise fun a b => ltO a b = true ∧ ltO b a = false
  | [], _ => List.Pairwise.nil
  | a :: r, h => by
    unfold ordO at h
    rw [Bool.and_eq_true] at h
    exact List.Pairwise.cons (fun b hb => by simpa using List.all_eq_true.mp h.1 b hb) (ordO_pw h.2)
theorem lots_ordO : (List.range 7).all (fun n => ordO (allLots n)) = true := by decide +kernel
theorem sing_0 : (List.range 7).all (fun n => decide (n = 0) || decide ([0] ∈ (allLots n).drop 1)) = true := by decide +kernel
theorem good_ne {n : Nat} (hn : n < 7) (n1 : 1 ≤ n) {f : Nat → Nat → Int} : [0] ∈ goodL n f := by
  refine List.mem_filter.mpr ⟨?_, ?_⟩
  · have := List.all_eq_true.mp sing_0 n (List.mem_range.mpr hn)
    simp only [Bool.or_eq_true, decide_eq_true_eq] at this
    rcases this with h | h
    · omega
    · exact h
  · unfold goodB
    rw [Bool.not_eq_true', List.any_eq_false]
    intro t ht hi
    have q := (List.mem_filter.mp ht).1
    obtain ⟨h1, _, _, h4, _⟩ := mem_trips.mp q
    simp [inLot] at hi
    omega
def lotP (lot : List Nat) : PyData := .tuple [.int (lot.length : Int), .tuple ((lot.map fun m : Nat => (m : Int)).map PyData.int)]
theorem natI_inj : ∀ {a b : List Nat}, (a.map fun m : Nat => (m : Int)) = (b.map fun m : Nat => (m : Int)) ↔ a = b := by
  intro a b
  constructor
  · intro h
    exact (List.map_inj_right (fun x y e => by omega)).mp h
  · intro h; rw [h]
theorem lt_lotP (a b : List Nat) : dataLt (lotP a) (lotP b) = ltO a b := by
  unfold lotP ltO
  rw [dataLt_pI]
  by_cases h1 : a.length = b.length
  · rw [if_pos (by rw [h1]), if_pos h1]
    by_cases h2 : a = b
    · rw [if_pos (by rw [h2]), if_pos h2]
    · rw [if_neg (fun e => h2 (natI_inj.mp e)), if_neg h2]
  · rw [if_neg (fun e => h1 (by omega)), if_neg h1]
    exact decide_eq_decide.mpr (by omega)
theorem toPy_lotD (st : Sto) (lot : List Nat) : toPy st 59 (lotD lot) = some (lotP lot) := by
  have e : toPy st 58 (nats lot) = some (.tuple ((lot.map fun m : Nat => (m : Int)).map PyData.int)) := by
    rw [nats_row]
    exact toPy_tupInts st 57 _
  show (allSome ([D.int (lot.length : Int), nats lot].map (toPy st 58))).map PyData.tuple = _
  rw [List.map_cons, List.map_cons, toPy_int, e]
  rfl
/-- the least, if one is less than all others -/
theorem fold_min {α : Type} (lt : α → α → Bool) (r : α) : ∀ (l : List α) (a : α), r ∈ a :: l → (∀ y ∈ a :: l, y = r ∨ (lt r y = true ∧ lt y r = false)) → l.foldl (fun a y => if lt y a then y else a) a = r
  | [], a, h, _ => (List.mem_singleton.mp h).symm
  | b :: l, a, h, ho => by
    rw [List.foldl_cons]
    refine fold_min lt r l _ ?_ ?_
    · rcases List.mem_cons.mp h with e | h
      · subst e
        rcases ho b (by simp) with e | ⟨_, e⟩
        · subst e; split <;> exact List.mem_cons_self
        · rw [e]; exact List.mem_cons_self
      · rcases List.mem_cons.mp h with e | h
        · subst e
          rcases ho a (by simp) with e | ⟨e, _⟩
          · subst e; split <;> exact List.mem_cons_self
          · rw [e]; exact List.mem_cons_self
        · exact List.mem_cons_of_mem _ h
    · intro y hy
      rcases List.mem_cons.mp hy with e | hy
      · subst e
        split
        · exact ho b (by simp)
        · exact ho a (by simp)
      · exact ho y (by simp [hy])
theorem few_least {n : Nat} (hn : n < 7) {f : Nat → Nat → Int} (v : TabP n f) : ∃ r, fewO n f = some r ∧ (∃ g ∈ goodL n f, restL n g = r) ∧ ∀ g ∈ goodL n f, restL n g = r ∨ (ltO r (restL n g) = true ∧ ltO (restL n g) r = false) := by
  have rb := List.all_eq_true.mp (List.all_eq_true.mp rest_0 n (List.mem_range.mpr hn))
  simp only [Bool.and_eq_true, Bool.or_eq_true, decide_eq_true_eq] at rb
  have fwd : ∀ g ∈ goodL n f, restL n g ∈ allLots n ∧ outB n f (restL n g) = true := fun g hg => by
    obtain ⟨h1, h2, h3, h4⟩ := goodL_mem hn hg
    obtain ⟨r1, r2, r3, r4⟩ := rb g h1
    refine ⟨r1, ?_⟩
    unfold outB
    rw [r2]
    have := (List.mem_filter.mp hg).2
    rw [good_eq v (lots_nd hn h1) h2 (by omega) h4] at this
    rw [this, Bool.and_true]
    cases g with
    | nil => exact absurd rfl h2
    | cons _ _ => rfl
  unfold fewO
  cases hf : (allLots n).find? (outB n f) with
  | none =>
    obtain ⟨h1, h2⟩ := fwd [0] (good_ne hn v.n1)
    have := List.find?_eq_none.mp hf _ h1
    exact absurd h2 this
  | some r =>
    obtain ⟨hr, as, bs, e, hno⟩ := List.find?_eq_some_iff_append.mp hf
    have hm : r ∈ allLots n := by rw [e]; simp
    obtain ⟨r1, r2, r3, r4⟩ := rb r hm
    refine ⟨r, rfl, ⟨restL n r, List.mem_filter.mpr ⟨?_, ?_⟩, r2⟩, fun g hg => ?_⟩
    · obtain ⟨q1, q2, q3, q4⟩ := rb _ r1
      rcases q4 with q4 | q4
      · unfold outB at hr
        rw [q4] at hr
        cases hr
      · exact q4
    · unfold outB at hr
      rw [Bool.and_eq_true] at hr
      have ne : restL n r ≠ [] := fun e => by rw [e] at hr; cases hr.1
      rw [good_eq v (lots_nd hn r1) ne (by have := base_lot n _ (lots_mem r1); omega) (base_lt n _ (lots_mem r1))]
      exact hr.2
    · obtain ⟨h1, h2⟩ := fwd g hg
      rw [e] at h1
      rcases List.mem_append.mp h1 with h1 | h1
      · have := hno _ h1
        rw [h2] at this
        cases this
      · rcases List.mem_cons.mp h1 with h1 | h1
        · exact .inl h1
        · have pw := ordO_pw (List.all_eq_true.mp lots_ordO n (List.mem_range.mpr hn))
          rw [e] at pw
          exact .inr ((List.pairwise_cons.mp (List.pairwise_append.mp pw).2.1).1 _ h1)
theorem rest_len {n : Nat} (hn : n < 7) {f : Nat → Nat → Int} {g : List Nat} (hg : g ∈ goodL n f) : (restL n g).length + g.length = n := by
  have rb := List.all_eq_true.mp (List.all_eq_true.mp rest_0 n (List.mem_range.mpr hn)) g (goodL_mem hn hg).1
  simp only [Bool.and_eq_true, Bool.or_eq_true, decide_eq_true_eq] at rb
  exact rb.2.2.1
theorem min_outs {n : Nat} (hn : n < 7) {f : Nat → Nat → Int} (v : TabP n f) {x : D} {st : Sto} (hx : litems st x = some ((goodL n f).map fun g => lotD (restL n g))) : bMinP [x] st = .ok (fewD (fewO n f)) st := by
  obtain ⟨r, e, ⟨g0, hg0, e0⟩, hall⟩ := few_least hn v
  rw [e]
  generalize goodL n f = l at hx hg0 hall
  cases l with
  | nil => cases hg0
  | cons a l =>
    have bm := bMinP_map (fun g => lotP (restL n g)) (fun g => lotD (restL n g)) a l hx (fun y _ => toPy_lotD st _) (fun y _ z _ => alike_pI _ _ _ _) (fun y _ e => by cases e)
    have fm := fold_min (fun x y : List Nat => ltO x y) r (l.map (restL n)) (restL n a) (by
      have : restL n g0 ∈ (a :: l).map (restL n) := List.mem_map.mpr ⟨g0, hg0, rfl⟩
      rw [e0] at this
      exact this) (fun y hy => by
      obtain ⟨g, hg, rfl⟩ := List.mem_map.mp (show y ∈ (a :: l).map (restL n) from hy)
      exact hall g hg)
    have e2 : ∀ (l : List (List Nat)) (a : List Nat), restL n (l.foldl (fun a y => if dataLt (lotP (restL n y)) (lotP (restL n a)) then y else a) a) = (l.map (restL n)).foldl (fun a y => if ltO y a then y else a) (restL n a) := by
      intro l
      induction l with
      | nil => intro a; rfl
      | cons b l ih =>
        intro a
        rw [List.map_cons, List.foldl_cons, List.foldl_cons, ih, lt_lotP]
        congr 1
        split <;> rfl
    rw [bm, e2, fm]
    rfl
end Lw90
namespace Lw90
open PySem PD
variable {st : Sto}
/-! ### what is no table -/
theorem is_table_G (hw : WF st) {n : Nat} {f : Nat → Nat → Int} (n1 : 1 ≤ n) (n7 : n ≤ 7) (lo : ∀ i j, i < n → j < n → 0 ≤ f i j ∧ f i j ≤ 1000) (h : (∃ i j, i < n ∧ j < n ∧ decide (f i j = 0) ≠ decide (i = j)) ∨ ((∀ i j, i < n → j < n → (f i j = 0 ↔ i = j)) ∧ ∃ i j, i < n ∧ j < i ∧ f i j ≠ f j i)) : F_is_table [tabT n f] st = .ok (.bl false) st := defFin_v hw (fz_bl _ _) (by
  have z2 := sizeLine_eq
  have h0 : (startD 5 [tabT n f])[0]? = some (some (tabT n f)) := rfl
  have hl : (startD 5 [tabT n f]).length = 5 := rfl
  generalize startD 5 [tabT n f] = ρ at h0 hl
  unfold b_is_table
  simp_arith! [h0, is_sized_t hw, List.length_range, decide_eq_true (show (1 : Int) ≤ n ∧ (n : Int) ≤ 7 by omega)]
  rw [sLC_map (dy := none) (List.range n) (fun i => rowT n f i) (fun _ => D.bl true) (by simp_arith! [iSeq_e, h0]) (still_none _ _) (by simp; omega) fun i hi => ⟨_, rfl, by
    simp_arith! [h0, hl, is_sized_t hw, List.length_range, Int.le_refl]⟩]
  have ba := fun s => bAll_map (fun _ : Nat => true) (List.range n) s
  simp only [all_true] at ba
  simp_arith! [ba, h0, iEnum_e, enum_range, List.length_range]
  generalize hL : loopFor _ _ _ _ _ _ _ _ = R
  have q := for_some_e hL (List.range n) (fun i : Nat => D.tpl [.int (i : Int), rowT n f i]) rfl (by simp) (still_none _ _) (fun ρ => ρ[0]? = some (some (tabT n f)) ∧ ρ.length = 5) (fun i => if ((List.range n).any fun j => !decide (decide (f i j = 0) = decide ((i : Int) = (j : Int)))) = true then some (.bl false) else none) ⟨h0, hl⟩ (by
    rintro i hi ρ ⟨h0, hl⟩
    have hi := List.mem_range.mp hi
    refine ⟨_, rfl, ?_⟩
    have bn := fun s => bAny_map (fun j : Nat => !decide (decide (f i j = 0) = decide ((i : Int) = (j : Int)))) (List.range n) s
    simp_arith! [hl]
    rw [sLC_map (dy := none) (List.range n) (fun j => D.int (f i j)) (fun _ => D.bl true) (by simp_arith! [iSeq_e, hl]) (still_none _ _) (by simp; omega) fun j hj => ⟨_, rfl, by
      have hj := List.mem_range.mp hj
      simp_arith! [hl, is_within_i hw, decide_eq_true (lo i j hi hj)]⟩]
    simp_arith! [ba, hl]
    rw [sLC_map (dy := none) (List.range n) (fun j : Nat => D.tpl [.int (j : Int), .int (f i j)]) (fun j => D.bl (!decide (decide (f i j = 0) = decide ((i : Int) = (j : Int))))) (by simp_arith! [iEnum_e, hl, enum_range]) (still_none _ _) (by simp; omega) fun j hj => ⟨_, rfl, by simp_arith! [hl]⟩]
    simp_arith! [bn, hl]
    generalize ((List.range n).any fun j => !decide (decide (f i j = 0) = decide ((i : Int) = (j : Int)))) = b
    cases b with
    | true => exact .inl ⟨_, rfl, by simp_arith! []⟩
    | false => exact .inr ⟨rfl, (ρ.set 1 (some (.int (i : Int)))).set 2 (some (rowT n f i)), .inl (by simp_arith! []), by simp_arith! [h0, hl]⟩)
  rcases q with ⟨d, hc, rfl⟩ | ⟨hc, ρ', rfl, k0, kl⟩
  · obtain ⟨i, _, hi⟩ := List.exists_of_findSome?_eq_some hc
    split at hi
    · cases hi; simp_arith! []
    · cases hi
  · rw [List.findSome?_eq_none_iff] at hc
    have dg : ∀ i j, i < n → j < n → decide (f i j = 0) = decide (i = j) := fun i j hi hj => by
      have := hc i (List.mem_range.mpr hi)
      split at this
      · cases this
      · rename_i h
        rw [Bool.not_eq_true, List.any_eq_false] at h
        have := h j (List.mem_range.mpr hj)
        simp only [Bool.not_eq_true, Bool.not_eq_false', decide_eq_true_eq] at this
        rw [this]
        exact decide_eq_decide.mpr (by omega)
    rcases h with ⟨i, j, hi, hj, h⟩ | ⟨_, i0, j0, hi0, hj0, h⟩
    · exact absurd (dg i j hi hj) h
    · clear hL
      simp_arith! []
      rw [sLC_map (dy := none) (List.range n) (fun i : Nat => D.tpl [.int (i : Int), rowT n f i]) (fun i => D.bl ((List.range i).all fun j => decide (f i j = f j i))) (by simp_arith! [iEnum_e, k0, enum_range]) (still_none _ _) (by simp; omega) fun i hi => ⟨_, rfl, by
        have hi := List.mem_range.mp hi
        simp_arith! [kl, k0]
        rw [sLC_map (dy := none) (List.range i) (fun j : Nat => D.int (j : Int)) (fun j => D.bl (decide (f i j = f j i))) (iRange_n (by simp_arith! [kl, k0])) (still_none _ _) (by simp; omega) fun j hj => ⟨_, rfl, by
          have hj := List.mem_range.mp hj
          have hjn : j < n := by omega
          simp_arith! [kl, k0, fIx_range hjn, fIx_range hi]⟩]
        have ba := bAll_map (fun j : Nat => decide (f i j = f j i)) (List.range i) st
        simp_arith! [ba]⟩]
      have ba := bAll_map (fun i : Nat => (List.range i).all fun j => decide (f i j = f j i)) (List.range n) st
      have ef : ((List.range n).all fun i : Nat => (List.range i).all fun j => decide (f i j = f j i)) = false := by
        rw [List.all_eq_false]
        refine ⟨i0, List.mem_range.mpr hi0, ?_⟩
        rw [Bool.not_eq_true, List.all_eq_false]
        exact ⟨j0, List.mem_range.mpr hj0, by simpa using h⟩
      rw [ef] at ba
      simp_arith! [ba])
theorem is_table_0 (hw : WF st) : F_is_table [.tup []] st = .ok (.bl false) st := defFin_v hw (fz_bl _ _) (by
  have h0 : (startD 5 [.tup []])[0]? = some (some (.tup [])) := rfl
  generalize startD 5 [.tup []] = ρ at h0
  have e : decide ((1 : Int) ≤ ((([] : List D).length : Nat) : Int) ∧ ((([] : List D).length : Nat) : Int) ≤ 7) = false := by decide
  have s := is_sized_t hw [] 1 7
  rw [e] at s
  unfold b_is_table
  simp_arith! [h0, s])
def BadT (x : D) : Prop := ∀ st, WF st → F_is_table [x] st = .ok (.bl false) st
def g1 : Nat → Nat → Int := fun _ _ => 1
def g2 : Nat → Nat → Int := fun i j => if i = j then 0 else if i = 0 then 1 else 2
def g0 : Nat → Nat → Int := fun _ _ => 0
theorem g2_lo (i j : Nat) : 0 ≤ g2 i j ∧ g2 i j ≤ 1000 := by
  unfold g2
  split
  · omega
  · split <;> omega
theorem bad_t {n : Nat} {f : Nat → Nat → Int} {x : D} (h : x ∈ [D.non, .tup [], .lst ((List.range n).map fun i => rowT n f i), tabT 1 g1, tabT 2 g2, tabT 2 g0]) : BadT x := fun st hw => by
  simp only [List.mem_cons, List.not_mem_nil, or_false] at h
  rcases h with rfl | rfl | rfl | rfl | rfl | rfl
  · exact is_table_nt hw rfl
  · exact is_table_0 hw
  · exact is_table_nt hw rfl
  · exact is_table_G (n := 1) (f := g1) hw (by omega) (by omega) (fun i j _ _ => by unfold g1; omega) (.inl ⟨0, 0, by omega, by omega, by decide⟩)
  · refine is_table_G (n := 2) (f := g2) hw (by omega) (by omega) (fun i j _ _ => g2_lo i j) (.inr ⟨fun i j hi hj => ?_, 1, 0, by omega, by omega, by decide⟩)
    unfold g2
    split
    · rename_i e; exact ⟨fun _ => e, fun _ => rfl⟩
    · rename_i e; split <;> exact ⟨fun h => absurd h (by omega), fun h => absurd h e⟩
  · exact is_table_G (n := 2) (f := g0) hw (by omega) (by omega) (fun i j _ _ => by unfold g0; omega) (.inl ⟨0, 1, by omega, by omega, by decide⟩)
theorem then_ex (n : Str) (fs : List (Str × D)) (ρ : Ev) (st : Sto) (b : SS) : thenS (some (.ex n fs ρ, st)) b = some (.ex n fs ρ, st) := rfl
theorem check_bad (hw : WF st) {x : D} (h : BadT x) : F_check_table [x] st = .exc "NoTable" [] st := defFin_ex (ρ := startD 1 [x]) hw (by
  have h0 : (startD 1 [x])[0]? = some (some x) := rfl
  generalize startD 1 [x] = ρ at h0
  unfold b_check_table
  simp_arith! [h0, h st hw]
  rfl)
theorem few_bad (hw : WF st) {x : D} (h : BadT x) : F_check_few [x] st = .exc "NoTable" [] st := defFin_ex (ρ := startD 1 [x]) hw (by
  have h0 : (startD 1 [x])[0]? = some (some x) := rfl
  generalize startD 1 [x] = ρ at h0
  unfold b_check_few
  simp_arith! [h0, check_bad hw h, then_ex])
theorem mend_bad (hw : WF st) {x y : D} (h : BadT x) : F_check_mend [x, y] st = .exc "NoTable" [] st := defFin_ex (ρ := startD 2 [x, y]) hw (by
  have h0 : (startD 2 [x, y])[0]? = some (some x) := rfl
  generalize startD 2 [x, y] = ρ at h0
  unfold b_check_mend
  simp_arith! [h0, check_bad hw h, then_ex])
theorem few_six (hw : WF st) {f : Nat → Nat → Int} {n : Nat} (v : TabP n f) (hn : 5 < n) : F_check_few [tabT n f] st = .exc "TooMany" [("most", .int 5)] st := by
  unfold F_check_few defFin defRaw
  have h0 : (startD 1 [tabT n f])[0]? = some (some (tabT n f)) := rfl
  generalize startD 1 [tabT n f] = ρ at h0
  have e : decide ((5 : Int) < (n : Int)) = true := decide_eq_true (by omega)
  have e2 : b_check_few ρ st = some (.ex "TooMany" [("most", .int 5)] ρ, st) := by
    unfold b_check_few
    simp_arith! [h0, check_table_T hw v, List.length_range, e, sMk]
  rw [e2]
  unfold endRaw fin
  simp only [List.all_cons, List.all_nil, noRef, Bool.true_and, List.take_length]
  rw [if_pos]
  exact hw
end Lw90
namespace Lw90
open PySem PD
variable {st : Sto}
/-! ### refusals -/
theorem no_nearest_mend (hw : WF st) {x : D} (h : BadT x) : F_nearest_mend [x] st = .exc "NoTable" [] st := defFin_ex (ρ := startD 3 [x]) hw (by
  have h0 : (startD 3 [x])[0]? = some (some x) := rfl
  generalize startD 3 [x] = ρ at h0
  unfold b_nearest_mend
  simp_arith! [h0, check_bad hw h, then_ex])
theorem no_least_cut (hw : WF st) {x : D} (h : BadT x) : F_least_cut [x] st = .exc "NoTable" [] st := defFin_ex (ρ := startD 4 [x]) hw (by
  have h0 : (startD 4 [x])[0]? = some (some x) := rfl
  generalize startD 4 [x] = ρ at h0
  unfold b_least_cut
  simp_arith! [h0, check_bad hw h, then_ex])
theorem no_short_triples (hw : WF st) {x : D} (h : BadT x) : F_short_triples [x] st = .exc "NoTable" [] st := defFin_ex (ρ := startD 1 [x]) hw (by
  have h0 : (startD 1 [x])[0]? = some (some x) := rfl
  generalize startD 1 [x] = ρ at h0
  unfold b_short_triples
  simp_arith! [h0, check_bad hw h, then_ex])
theorem no_worst_triple (hw : WF st) {x : D} (h : BadT x) : F_worst_triple [x] st = .exc "NoTable" [] st := defFin_ex (ρ := startD 3 [x]) hw (by
  have h0 : (startD 3 [x])[0]? = some (some x) := rfl
  generalize startD 3 [x] = ρ at h0
  unfold b_worst_triple
  simp_arith! [h0, check_bad hw h, then_ex])
theorem no_sound_lots (hw : WF st) {x : D} (h : BadT x) : F_sound_lots [x] st = .exc "NoTable" [] st := defFin_ex (ρ := startD 5 [x]) hw (by
  have h0 : (startD 5 [x])[0]? = some (some x) := rfl
  generalize startD 5 [x] = ρ at h0
  unfold b_sound_lots
  simp_arith! [h0, check_bad hw h, then_ex])
theorem no_fewest_out (hw : WF st) {x : D} (h : BadT x) : F_fewest_out [x] st = .exc "NoTable" [] st := defFin_ex (ρ := startD 5 [x]) hw (by
  have h0 : (startD 5 [x])[0]? = some (some x) := rfl
  generalize startD 5 [x] = ρ at h0
  unfold b_fewest_out
  simp_arith! [h0, check_bad hw h, then_ex])
theorem no_least_raise (hw : WF st) {x : D} (h : BadT x) : F_least_raise [x] st = .exc "NoTable" [] st := defFin_ex (ρ := startD 16 [x]) hw (by
  have h0 : (startD 16 [x])[0]? = some (some x) := rfl
  generalize startD 16 [x] = ρ at h0
  unfold b_least_raise
  simp_arith! [h0, few_bad hw h, then_ex])
theorem no_least_pairs (hw : WF st) {x : D} (h : BadT x) : F_least_pairs [x] st = .exc "NoTable" [] st := defFin_ex (ρ := startD 5 [x]) hw (by
  have h0 : (startD 5 [x])[0]? = some (some x) := rfl
  generalize startD 5 [x] = ρ at h0
  unfold b_least_pairs
  simp_arith! [h0, few_bad hw h, then_ex])
theorem no_needed_pairs (hw : WF st) {x : D} (h : BadT x) : F_needed_pairs [x] st = .exc "NoTable" [] st := defFin_ex (ρ := startD 4 [x]) hw (by
  have h0 : (startD 4 [x])[0]? = some (some x) := rfl
  generalize startD 4 [x] = ρ at h0
  unfold b_needed_pairs
  simp_arith! [h0, few_bad hw h, then_ex])
theorem no_is_mend (hw : WF st) {x y : D} (h : BadT x) : F_is_mend [x, y] st = .exc "NoTable" [] st := defFin_ex (ρ := startD 2 [x, y]) hw (by
  have h0 : (startD 2 [x, y])[0]? = some (some x) := rfl
  have h1 : (startD 2 [x, y])[1]? = some (some y) := rfl
  generalize startD 2 [x, y] = ρ at h0 h1
  unfold b_is_mend
  simp_arith! [h0, h1, check_bad hw h, then_ex])
theorem no_is_nearest_mend (hw : WF st) {x y : D} (h : BadT x) : F_is_nearest_mend [x, y] st = .exc "NoTable" [] st := defFin_ex (ρ := startD 4 [x, y]) hw (by
  have h0 : (startD 4 [x, y])[0]? = some (some x) := rfl
  have h1 : (startD 4 [x, y])[1]? = some (some y) := rfl
  generalize startD 4 [x, y] = ρ at h0 h1
  unfold b_is_nearest_mend
  simp_arith! [h0, h1, check_bad hw h, then_ex])
theorem no_is_least_raise (hw : WF st) {x y : D} (h : BadT x) : F_is_least_raise [x, y] st = .exc "NoTable" [] st := defFin_ex (ρ := startD 4 [x, y]) hw (by
  have h0 : (startD 4 [x, y])[0]? = some (some x) := rfl
  have h1 : (startD 4 [x, y])[1]? = some (some y) := rfl
  generalize startD 4 [x, y] = ρ at h0 h1
  unfold b_is_least_raise
  simp_arith! [h0, h1, few_bad hw h, then_ex])
theorem no_is_least_pairs (hw : WF st) {x y : D} (h : BadT x) : F_is_least_pairs [x, y] st = .exc "NoTable" [] st := defFin_ex (ρ := startD 7 [x, y]) hw (by
  have h0 : (startD 7 [x, y])[0]? = some (some x) := rfl
  have h1 : (startD 7 [x, y])[1]? = some (some y) := rfl
  generalize startD 7 [x, y] = ρ at h0 h1
  unfold b_is_least_pairs
  simp_arith! [h0, h1, few_bad hw h, then_ex])
theorem no_off_most (hw : WF st) {x y : D} (h : BadT x) : F_off_most [x, y] st = .exc "NoTable" [] st := defFin_ex (ρ := startD 2 [x, y]) hw (by
  have h0 : (startD 2 [x, y])[0]? = some (some x) := rfl
  have h1 : (startD 2 [x, y])[1]? = some (some y) := rfl
  generalize startD 2 [x, y] = ρ at h0 h1
  unfold b_off_most
  simp_arith! [h0, h1, mend_bad hw h, then_ex])
theorem no_off_sum (hw : WF st) {x y : D} (h : BadT x) : F_off_sum [x, y] st = .exc "NoTable" [] st := defFin_ex (ρ := startD 2 [x, y]) hw (by
  have h0 : (startD 2 [x, y])[0]? = some (some x) := rfl
  have h1 : (startD 2 [x, y])[1]? = some (some y) := rfl
  generalize startD 2 [x, y] = ρ at h0 h1
  unfold b_off_sum
  simp_arith! [h0, h1, mend_bad hw h, then_ex])
theorem no_off_pairs (hw : WF st) {x y : D} (h : BadT x) : F_off_pairs [x, y] st = .exc "NoTable" [] st := defFin_ex (ρ := startD 3 [x, y]) hw (by
  have h0 : (startD 3 [x, y])[0]? = some (some x) := rfl
  have h1 : (startD 3 [x, y])[1]? = some (some y) := rfl
  generalize startD 3 [x, y] = ρ at h0 h1
  unfold b_off_pairs
  simp_arith! [h0, h1, mend_bad hw h, then_ex])
theorem defFin_exF {n : Nat} {b : SS} {ds : List D} {st : Sto} {ρ : Ev} {k : Str} {fs : List (Str × D)} (hw : WF st) (hf : (fs.all fun p => noRef st.length p.2) = true) (h : b (startD n ds) st = some (.ex k fs ρ, st)) : defFin n b ds st = .exc k fs st := by
  unfold defFin defRaw
  rw [h]
  show fin st.length (.exc k fs st) = _
  unfold fin
  have e : st.take st.length = st := by simp
  simp only [e, hf, Bool.true_and]
  exact if_pos hw
theorem six_least_raise (hw : WF st) {f : Nat → Nat → Int} {n : Nat} (v : TabP n f) (hn : 5 < n) : F_least_raise [tabT n f] st = .exc "TooMany" [("most", .int 5)] st := defFin_exF hw rfl (ρ := startD 16 [tabT n f]) (by
  have h0 : (startD 16 [tabT n f])[0]? = some (some (tabT n f)) := rfl
  generalize startD 16 [tabT n f] = ρ at h0
  unfold b_least_raise
  simp_arith! [h0, few_six hw v hn, then_ex])
theorem six_least_pairs (hw : WF st) {f : Nat → Nat → Int} {n : Nat} (v : TabP n f) (hn : 5 < n) : F_least_pairs [tabT n f] st = .exc "TooMany" [("most", .int 5)] st := defFin_exF hw rfl (ρ := startD 5 [tabT n f]) (by
  have h0 : (startD 5 [tabT n f])[0]? = some (some (tabT n f)) := rfl
  generalize startD 5 [tabT n f] = ρ at h0
  unfold b_least_pairs
  simp_arith! [h0, few_six hw v hn, then_ex])
theorem six_needed_pairs (hw : WF st) {f : Nat → Nat → Int} {n : Nat} (v : TabP n f) (hn : 5 < n) : F_needed_pairs [tabT n f] st = .exc "TooMany" [("most", .int 5)] st := defFin_exF hw rfl (ρ := startD 4 [tabT n f]) (by
  have h0 : (startD 4 [tabT n f])[0]? = some (some (tabT n f)) := rfl
  generalize startD 4 [tabT n f] = ρ at h0
  unfold b_needed_pairs
  simp_arith! [h0, few_six hw v hn, then_ex])
/-! what is no mend -/
def BadM (n : Nat) (x : D) : Prop := ∀ st, WF st → F_is_mend_of [.int (n : Int), x] st = .ok (.bl false) st
theorem is_mend_of_rows (hw : WF st) {n m : Nat} (n1 : 1 ≤ n) (n7 : n ≤ 7) (h : m ≠ n) (r : List D) (hr : r.length = m) : F_is_mend_of [.int (n : Int), .tup (List.replicate n (.tup r))] st = .ok (.bl false) st := defFin_v hw (fz_bl _ _) (by
  have z2 := sizeLine_eq
  have h0 : (startD 7 [.int (n : Int), .tup (List.replicate n (.tup r))])[0]? = some (some (.int (n : Int))) := rfl
  have h1 : (startD 7 [.int (n : Int), .tup (List.replicate n (.tup r))])[1]? = some (some (.tup (List.replicate n (.tup r)))) := rfl
  have hl : (startD 7 [.int (n : Int), .tup (List.replicate n (.tup r))]).length = 7 := rfl
  generalize startD 7 [.int (n : Int), .tup (List.replicate n (.tup r))] = ρ at h0 h1 hl
  have e : List.replicate n (D.tup r) = (List.range n).map fun _ => D.tup r := by
    rw [List.map_const', List.length_range]
  unfold b_is_mend_of
  simp_arith! [h0, h1, is_sized_t hw, List.length_replicate, Int.le_refl]
  rw [sLC_map (dy := none) (List.range n) (fun _ => D.tup r) (fun _ => D.bl false) (by simp_arith! [iSeq_e, h1, e]) (still_none _ _) (by simp; omega) fun i hi => ⟨_, rfl, by
    have q : decide ((n : Int) ≤ (r.length : Int) ∧ (r.length : Int) ≤ (n : Int)) = false := decide_eq_false (by omega)
    simp_arith! [h0, hl, is_sized_t hw, q]⟩]
  have ba := bAll_map (fun _ : Nat => false) (List.range n) st
  have ef : ((List.range n).all fun _ : Nat => false) = false := by
    rw [List.all_eq_false]
    exact ⟨0, List.mem_range.mpr (by omega), by simp⟩
  rw [ef] at ba
  simp_arith! [ba])
theorem badM_t {n : Nat} (n1 : 1 ≤ n) (n7 : n ≤ 7) {f : Nat → Nat → Int} {x : D} (h : x ∈ [D.non, .tup [], tabT n f, .tup (List.replicate n (.tup [.int 1, .int 1])), .tup (List.replicate n (.tup (List.replicate (n + 1) (.tup [.int 0, .int 1]))))]) : BadM n x := fun st hw => by
  simp only [List.mem_cons, List.not_mem_nil, or_false] at h
  rcases h with rfl | rfl | rfl | rfl | rfl
  · exact is_mend_of_nt hw rfl _
  · exact is_mend_of_len hw (by simp; omega)
  · exact is_mend_of_tab hw n1 n7 f
  · by_cases h : n = 2
    · subst h
      exact is_mend_of_tab hw n1 n7 (fun _ _ => 1)
    · exact is_mend_of_rows hw n1 n7 (m := 2) (by omega) _ rfl
  · exact is_mend_of_rows hw n1 n7 (m := n + 1) (by omega) _ (by simp)
theorem check_mend_bad (hw : WF st) {n : Nat} {f : Nat → Nat → Int} (v : TabP n f) {x : D} (h : BadM n x) : F_check_mend [tabT n f, x] st = .exc "NoMend" [] st := defFin_ex (ρ := startD 2 [tabT n f, x]) hw (by
  have h0 : (startD 2 [tabT n f, x])[0]? = some (some (tabT n f)) := rfl
  have h1 : (startD 2 [tabT n f, x])[1]? = some (some x) := rfl
  generalize startD 2 [tabT n f, x] = ρ at h0 h1
  unfold b_check_mend
  simp_arith! [h0, h1, check_table_T hw v, List.length_range, h st hw]
  rfl)
theorem nom_off_most (hw : WF st) {f : Nat → Nat → Int} {n : Nat} (v : TabP n f) {x : D} (h : BadM n x) : F_off_most [tabT n f, x] st = .exc "NoMend" [] st := defFin_ex (ρ := startD 2 [tabT n f, x]) hw (by
  have h0 : (startD 2 [tabT n f, x])[0]? = some (some (tabT n f)) := rfl
  have h1 : (startD 2 [tabT n f, x])[1]? = some (some x) := rfl
  generalize startD 2 [tabT n f, x] = ρ at h0 h1
  unfold b_off_most
  simp_arith! [h0, h1, check_mend_bad hw v h, then_ex])
theorem nom_off_sum (hw : WF st) {f : Nat → Nat → Int} {n : Nat} (v : TabP n f) {x : D} (h : BadM n x) : F_off_sum [tabT n f, x] st = .exc "NoMend" [] st := defFin_ex (ρ := startD 2 [tabT n f, x]) hw (by
  have h0 : (startD 2 [tabT n f, x])[0]? = some (some (tabT n f)) := rfl
  have h1 : (startD 2 [tabT n f, x])[1]? = some (some x) := rfl
  generalize startD 2 [tabT n f, x] = ρ at h0 h1
  unfold b_off_sum
  simp_arith! [h0, h1, check_mend_bad hw v h, then_ex])
theorem nom_off_pairs (hw : WF st) {f : Nat → Nat → Int} {n : Nat} (v : TabP n f) {x : D} (h : BadM n x) : F_off_pairs [tabT n f, x] st = .exc "NoMend" [] st := defFin_ex (ρ := startD 3 [tabT n f, x]) hw (by
  have h0 : (startD 3 [tabT n f, x])[0]? = some (some (tabT n f)) := rfl
  have h1 : (startD 3 [tabT n f, x])[1]? = some (some x) := rfl
  generalize startD 3 [tabT n f, x] = ρ at h0 h1
  unfold b_off_pairs
  simp_arith! [h0, h1, check_mend_bad hw v h, then_ex])
/-! the words -/
theorem ca_1 : ca_law_word "NoTable" = some true ∧ ca_law_word "NoMend" = some true ∧ ca_law_word "TooMany" = some true := by decide +kernel
theorem sub_1 : sub_law_word "NoTable" "NoTable" = true ∧ sub_law_word "NoTable" "NoMend" = false ∧ sub_law_word "NoTable" "TooMany" = false := by decide +kernel
theorem sub_2 : sub_law_word "NoMend" "NoTable" = false ∧ sub_law_word "NoMend" "NoMend" = true ∧ sub_law_word "NoMend" "TooMany" = false := by decide +kernel
theorem sub_3 : sub_law_word "TooMany" "NoTable" = false ∧ sub_law_word "TooMany" "NoMend" = false ∧ sub_law_word "TooMany" "TooMany" = true := by decide +kernel
theorem lam_table {fb : SE} {ρ : Ev} (h : fb ρ st = .exc "NoTable" [] st) : sLam F_law_word fb ρ st = .ok (.str "table") st := by
  simp [sLam, F_law_word, b_law_word, qTryAs, qExprW, noneEv, h, ca_1, res_law_word, h_law_word, sub_1, cleanS, sIsE, sizeLine_eq, fCountB, allBl, fIndexD, toPys, allSome, firstIx, eqv_bl, fIx, ixD, endRaw, List.replicate]
theorem lam_mend {fb : SE} {ρ : Ev} (h : fb ρ st = .exc "NoMend" [] st) : sLam F_law_word fb ρ st = .ok (.str "mend") st := by
  simp [sLam, F_law_word, b_law_word, qTryAs, qExprW, noneEv, h, ca_1, res_law_word, h_law_word, sub_2, cleanS, sIsE, sizeLine_eq, fCountB, allBl, fIndexD, toPys, allSome, firstIx, eqv_bl, fIx, ixD, endRaw, List.replicate]
theorem lam_many {fb : SE} {ρ : Ev} (h : fb ρ st = .exc "TooMany" [("most", .int 5)] st) : sLam F_law_word fb ρ st = .ok (.str "many") st := by
  simp [sLam, F_law_word, b_law_word, qTryAs, qExprW, noneEv, h, ca_1, res_law_word, h_law_word, sub_3, cleanS, sIsE, sizeLine_eq, fCountB, allBl, fIndexD, toPys, allSome, firstIx, eqv_bl, fIx, ixD, endRaw, List.replicate]
theorem callV_f {tab : FnTab} {n i : Nat} {x : Str} {F : List D → Sto → Out D} {as : SA} {ρ : Ev} {xs : List D} (h : ρ[i]? = some (some (.fn x))) (hf : tab.find? (fun p => p.1 == x) = some (x, n, F)) (ha : as ρ st = .ok xs st) (hl : xs.length = n) : sCallV tab n i as ρ st = F xs st := by
  unfold sCallV
  simp only [h, hf, if_true, ha, bind_ok, hl]
end Lw90
namespace Lw90
open PySem PD
variable {st : Sto}
theorem repL_one (x : D) : ∀ n : Nat, repL [x] n = List.replicate n x
  | 0 => rfl
  | n + 1 => by
    have ih := repL_one x n
    unfold repL at ih ⊢
    rw [List.replicate_succ, List.replicate_succ, List.flatten_cons, ih]
    rfl
theorem fRepT_one {x : D} {n : Nat} (h1 : 1 ≤ n) (h : n ≤ 1000) (st : Sto) : fRepT (.tup [x]) (.int (n : Int)) st = .ok (.tup (List.replicate n x)) st := by
  have z2 := sizeLine_eq
  have c : 1 ≤ (n : Int) ∧ (n : Int) ≤ 1000 ∧ 0 < [x].length ∧ [x].length ≤ 1000 := ⟨by omega, by omega, by simp, by simp⟩
  unfold fRepT
  dsimp only
  rw [if_pos c, Int.toNat_natCast, repL_one]
theorem fRep_one {x : D} {n : Nat} (h : n ≤ 1000) (st : Sto) : fRep false (.lst [x]) (.int (n : Int)) st = .ok (.lst (List.replicate n x)) st := by
  have z2 := sizeLine_eq
  unfold fRep
  simp only [litems_lst]
  have c : -1000000 ≤ (n : Int) ∧ (n : Int) ≤ 1000000 ∧ [x].length * ((n : Int)).toNat ≤ sizeLine := ⟨by omega, by omega, by rw [Int.toNat_natCast, List.length_cons, List.length_nil]; omega⟩
  rw [if_pos c, Int.toNat_natCast, repL_one, newL_f]
theorem toPys_wordsL (st : Sto) (n : Nat) (ws : List Str) (h : ws.all (fun w => PyData.canLay0 (.str w)) = true) : toPy st (n + 1) (.lst (ws.map D.str)) = some (.list (ws.map PyData.str)) := by
  rw [toPy]
  simp only [toPys_words _ _ ws h, Option.map_some]
theorem fEq_wordsL (st : Sto) (ws vs : List Str) (h : ws.all (fun w => PyData.canLay0 (.str w)) = true) (h2 : vs.all (fun w => PyData.canLay0 (.str w)) = true) : fEq (.lst (ws.map D.str)) (.lst (vs.map D.str)) st = .ok (.bl (decide (ws = vs))) st := by
  unfold fEq
  rw [toPys_wordsL st 59 ws h, toPys_wordsL st 59 vs h2]
  simp [PyData.eqv, eqvAll_words]
theorem fNe_wordsL (st : Sto) (ws vs : List Str) (h : ws.all (fun w => PyData.canLay0 (.str w)) = true) (h2 : vs.all (fun w => PyData.canLay0 (.str w)) = true) : fNe (.lst (ws.map D.str)) (.lst (vs.map D.str)) st = .ok (.bl (!decide (ws = vs))) st := by
  unfold fNe
  rw [toPys_wordsL st 59 ws h, toPys_wordsL st 59 vs h2]
  simp [PyData.eqv, eqvAll_words]
theorem fAdd_tup {xs ys : List D} {st : Sto} (h : xs.length + ys.length ≤ 16777216) : fAdd (.tup xs) (.tup ys) st = .ok (.tup (xs ++ ys)) st := by
  have z2 := sizeLine_eq
  unfold fAdd
  dsimp only
  rw [if_pos (by omega)]
theorem law_refused_t {o : MO} {rest : Sto} (hw : WF (o :: rest)) (ho : HandO o) {n : Nat} (hn : n < 7) {f : Nat → Nat → Int} (v : TabP n f) : ∃ o', HandO o' ∧ F_law_refused [.ref 0, tabT n f] (o :: rest) = .ok (.bl true) (o' :: rest) := by
  have z2 := sizeLine_eq
  have n1 := v.n1
  have body : ∃ o', HandO o' ∧ b_law_refused (startD 8 [.ref 0, tabT n f]) (o :: rest) = some (.rt (.bl true), o' :: rest) := by
    have h0 : (startD 8 [.ref 0, tabT n f])[0]? = some (some (.ref 0)) := rfl
    have h1 : (startD 8 [.ref 0, tabT n f])[1]? = some (some (tabT n f)) := rfl
    have hl : (startD 8 [.ref 0, tabT n f]).length = 8 := rfl
    generalize startD 8 [.ref 0, tabT n f] = ρ at h0 h1 hl
    have bl : ∀ xs st, bList false [.tup xs] st = .ok (.lst xs) st := fun _ _ => rfl
    obtain ⟨o1, x1, ho1, hx1, e1⟩ := law_some_t hw ho [D.non, .tup [], .lst ((List.range n).map fun i => rowT n f i), tabT 1 g1, tabT 2 g2, tabT 2 g0] (by simp) (by simp) (fun x hx => by
      simp only [List.mem_cons, List.not_mem_nil, or_false] at hx
      rcases hx with rfl | rfl | rfl | rfl | rfl | rfl
      · exact fz_non _
      · exact fz_map 59 ([] : List Nat) (fun _ => D.non) (fun _ h => by cases h)
      · exact fz_mapL 59 _ _ fun _ _ => fz_rowT 58 _ _ _
      · exact fz_tabT 58 _ _
      · exact fz_tabT 58 _ _
      · exact fz_tabT 58 _ _)
    have e1 : F_law_some [.ref 0, .lst [D.non, .tup [], .lst ((List.range n).map fun i => rowT n f i), .tup [.tup [.int 1]], .tup [.tup [.int 0, .int 1], .tup [.int 2, .int 0]], .tup [.tup [.int 0, .int 0], .tup [.int 0, .int 0]]]] (o :: rest) = .ok x1 (o1 :: rest) := e1
    have hw1 := wf_hand hw ho1
    have bad := bad_t hx1
    obtain ⟨o2, x2, ho2, hx2, e2⟩ := law_some_t hw1 ho1 [D.non, .tup [], tabT n f, .tup (List.replicate n (.tup [.int 1, .int 1])), .tup (List.replicate n (.tup (List.replicate (n + 1) (.tup [.int 0, .int 1]))))] (by simp) (by simp) (fun x hx => by
      have pair : ∀ a b : Int, Fz 58 (.tup [.int a, .int b]) := fun a b => fz_tup fun d hd => by
        simp only [List.mem_cons, List.not_mem_nil, or_false] at hd
        rcases hd with rfl | rfl <;> exact fz_int _ _
      simp only [List.mem_cons, List.not_mem_nil, or_false] at hx
      rcases hx with rfl | rfl | rfl | rfl | rfl
      · exact fz_non _
      · exact fz_map 59 ([] : List Nat) (fun _ => D.non) (fun _ h => by cases h)
      · exact fz_tabT 58 _ _
      · refine fz_tup fun d hd => ?_
        rw [List.eq_of_mem_replicate hd]
        exact fz_tup (f := 58) fun d hd => by
          simp only [List.mem_cons, List.not_mem_nil, or_false] at hd
          rcases hd with rfl | rfl <;> exact fz_int _ _
      · refine fz_tup fun d hd => ?_
        rw [List.eq_of_mem_replicate hd]
        refine fz_tup (f := 58) fun d hd => ?_
        rw [List.eq_of_mem_replicate hd]
        exact fz_tup (f := 57) fun d hd => by
          simp only [List.mem_cons, List.not_mem_nil, or_false] at hd
          rcases hd with rfl | rfl <;> exact fz_int _ _)
    have hw2 := wf_hand hw1 ho2
    have badM := badM_t n1 v.n7 hx2
    have r1 := fun s => fRepT_one (x := .tup [.int 1, .int 1]) (n := n) (by omega) (by omega) s
    have r2 := fun s => fRepT_one (x := .tup [.int 0, .int 1]) (n := n + 1) (by omega) (by omega) s
    have r3 := fun s => fRepT_one (x := .tup (List.replicate (n + 1) (.tup [.int 0, .int 1]))) (n := n) (by omega) (by omega) s
    have cn : ((n + 1 : Nat) : Int) = (n : Int) + 1 := by omega
    rw [cn] at r2
    refine ⟨o2, ho2, ?_⟩
    unfold b_law_refused
    generalize hR : (qSeq (qSet 5 _) _) = R
    simp_arith! [h0, h1, hl, List.length_range, bl, e1, r1, r2, r3, e2]
    generalize hρ : List.set _ 4 _ = ρ1
    have k1 : ρ1[1]? = some (some (tabT n f)) := by rw [← hρ]; simp_arith! [h1, hl]
    have k3 : ρ1[3]? = some (some x1) := by rw [← hρ]; simp_arith! [hl]
    have k4 : ρ1[4]? = some (some x2) := by rw [← hρ]; simp_arith! [hl]
    have kl : ρ1.length = 8 := by rw [← hρ]; simp_arith! [hl]
    subst hR
    clear hρ h0 h1 hl e1 e2 r1 r2 r3
    have fa := fun s => fAdd_tup (st := s) (xs := [D.fn "nearest_mend", .fn "least_raise", .fn "least_cut", .fn "least_pairs", .fn "needed_pairs", .fn "short_triples", .fn "worst_triple", .fn "sound_lots"]) (ys := [.fn "fewest_out"]) (by simp)
    simp_arith! [kl]
    rw [sLC_map (dy := none) (["nearest_mend", "least_raise", "least_cut", "least_pairs", "needed_pairs", "short_triples", "worst_triple", "sound_lots", "fewest_out"] : List Str) D.fn (fun _ => D.str "table") (by simp_arith! [iSeq_e, kl, fa]; rfl) (still_none _ _) (by simp; omega) fun x hx => ⟨_, rfl, lam_table (by
      simp only [List.mem_cons, List.not_mem_nil, or_false] at hx
      rcases hx with rfl | rfl | rfl | rfl | rfl | rfl | rfl | rfl | rfl
      · exact (callV_f (x := "nearest_mend") (by simp_arith! [kl]) rfl (by simp_arith! [k3, kl]) rfl).trans (no_nearest_mend hw2 bad)
      · exact (callV_f (x := "least_raise") (by simp_arith! [kl]) rfl (by simp_arith! [k3, kl]) rfl).trans (no_least_raise hw2 bad)
      · exact (callV_f (x := "least_cut") (by simp_arith! [kl]) rfl (by simp_arith! [k3, kl]) rfl).trans (no_least_cut hw2 bad)
      · exact (callV_f (x := "least_pairs") (by simp_arith! [kl]) rfl (by simp_arith! [k3, kl]) rfl).trans (no_least_pairs hw2 bad)
      · exact (callV_f (x := "needed_pairs") (by simp_arith! [kl]) rfl (by simp_arith! [k3, kl]) rfl).trans (no_needed_pairs hw2 bad)
      · exact (callV_f (x := "short_triples") (by simp_arith! [kl]) rfl (by simp_arith! [k3, kl]) rfl).trans (no_short_triples hw2 bad)
      · exact (callV_f (x := "worst_triple") (by simp_arith! [kl]) rfl (by simp_arith! [k3, kl]) rfl).trans (no_worst_triple hw2 bad)
      · exact (callV_f (x := "sound_lots") (by simp_arith! [kl]) rfl (by simp_arith! [k3, kl]) rfl).trans (no_sound_lots hw2 bad)
      · exact (callV_f (x := "fewest_out") (by simp_arith! [kl]) rfl (by simp_arith! [k3, kl]) rfl).trans (no_fewest_out hw2 bad))⟩]
    simp_arith! [kl]
    rw [sLC_map (dy := none) (["is_mend", "is_nearest_mend", "is_least_raise", "is_least_pairs", "off_most", "off_sum", "off_pairs"] : List Str) D.fn (fun _ => D.str "table") (by simp_arith! [iSeq_e, kl]; rfl) (still_none _ _) (by simp; omega) fun x hx => ⟨_, rfl, lam_table (by
      simp only [List.mem_cons, List.not_mem_nil, or_false] at hx
      rcases hx with rfl | rfl | rfl | rfl | rfl | rfl | rfl
      · exact (callV_f (x := "is_mend") (by simp_arith! [kl]) rfl (by simp_arith! [k3, k4, kl]) rfl).trans (no_is_mend (y := x2) hw2 bad)
      · exact (callV_f (x := "is_nearest_mend") (by simp_arith! [kl]) rfl (by simp_arith! [k3, k4, kl]) rfl).trans (no_is_nearest_mend (y := x2) hw2 bad)
      · exact (callV_f (x := "is_least_raise") (by simp_arith! [kl]) rfl (by simp_arith! [k3, k4, kl]) rfl).trans (no_is_least_raise (y := x2) hw2 bad)
      · exact (callV_f (x := "is_least_pairs") (by simp_arith! [kl]) rfl (by simp_arith! [k3, k4, kl]) rfl).trans (no_is_least_pairs (y := x2) hw2 bad)
      · exact (callV_f (x := "off_most") (by simp_arith! [kl]) rfl (by simp_arith! [k3, k4, kl]) rfl).trans (no_off_most (y := x2) hw2 bad)
      · exact (callV_f (x := "off_sum") (by simp_arith! [kl]) rfl (by simp_arith! [k3, k4, kl]) rfl).trans (no_off_sum (y := x2) hw2 bad)
      · exact (callV_f (x := "off_pairs") (by simp_arith! [kl]) rfl (by simp_arith! [k3, k4, kl]) rfl).trans (no_off_pairs (y := x2) hw2 bad))⟩]
    simp_arith! [kl, fAdd_lst3]
    rw [sLC_map (dy := none) (["off_most", "off_sum", "off_pairs"] : List Str) D.fn (fun _ => D.str "mend") (by simp_arith! [iSeq_e, kl]; rfl) (still_none _ _) (by simp; omega) fun x hx => ⟨_, rfl, lam_mend (by
      simp only [List.mem_cons, List.not_mem_nil, or_false] at hx
      rcases hx with rfl | rfl | rfl
      · exact (callV_f (x := "off_most") (by simp_arith! [kl]) rfl (by simp_arith! [k1, k4, kl]) rfl).trans (nom_off_most hw2 v badM)
      · exact (callV_f (x := "off_sum") (by simp_arith! [kl]) rfl (by simp_arith! [k1, k4, kl]) rfl).trans (nom_off_sum hw2 v badM)
      · exact (callV_f (x := "off_pairs") (by simp_arith! [kl]) rfl (by simp_arith! [k1, k4, kl]) rfl).trans (nom_off_pairs hw2 v badM))⟩]
    have q1 := fun s => fRep_one (x := .str "table") (n := 16) (by omega) s
    have q2 := fun s => fRep_one (x := .str "mend") (n := 3) (by omega) s
    have q1 : ∀ s, fRep false (.lst [.str "table"]) (.int 16) s = .ok (.lst (List.replicate 16 (.str "table"))) s := q1
    have q2 : ∀ s, fRep false (.lst [.str "mend"]) (.int 3) s = .ok (.lst (List.replicate 3 (.str "mend"))) s := q2
    simp_arith! [kl, fAdd_lst3, q1, q2, List.map_cons, List.map_nil, List.cons_append, List.nil_append, List.length_replicate]
    have fe := fEq_wordsL (o2 :: rest) (List.replicate 16 ("table" : Str) ++ List.replicate 3 ("mend" : Str)) (List.replicate 16 ("table" : Str) ++ List.replicate 3 ("mend" : Str)) (by decide +kernel) (by decide +kernel)
    rw [decide_eq_true rfl] at fe
    have fe : fEq (.lst [.str "table", .str "table", .str "table", .str "table", .str "table", .str "table", .str "table", .str "table", .str "table", .str "table", .str "table", .str "table", .str "table", .str "table", .str "table", .str "table", .str "mend", .str "mend", .str "mend"]) (.lst (List.replicate 16 (.str "table") ++ List.replicate 3 (.str "mend"))) (o2 :: rest) = .ok (.bl true) (o2 :: rest) := fe
    simp_arith! [fe]
  obtain ⟨o', ho', e⟩ := body
  refine ⟨o', ho', ?_⟩
  have hw' := wf_hand hw ho'
  unfold F_law_refused defFin defRaw
  rw [e]
  unfold endRaw fin
  have tk : (o' :: rest).take (o :: rest).length = o' :: rest := by simp
  have fz : frzD (o' :: rest) (o :: rest).length 60 (.bl true) = some (.bl true) := rfl
  simp only [fz, tk]
  rw [if_pos]
  exact hw'
end Lw90
namespace Lw90
open PySem PD
variable {st : Sto}
/-! ### drawn doubts -/
structure DI (i j : Nat) (top : Int) (lo hi : Nat → Nat → Int) : Prop where
  dg : ∀ a, lo a a = 0 ∧ hi a a = 0
  sl : ∀ a b, lo a b = lo b a
  sh : ∀ a b, hi a b = hi b a
  po : ∀ a b, b < a → (a < i ∨ a = i ∧ b < j) → 1 ≤ lo a b ∧ lo a b ≤ hi a b ∧ hi a b ≤ top
theorem upd2_sy {f : Nat → Nat → Int} {i j : Nat} {v : Int} (h : ∀ a b, f a b = f b a) : ∀ a b, upd1 (upd1 f i j v) j i v a b = upd1 (upd1 f i j v) j i v b a := fun a b => by
  unfold upd1
  by_cases c1 : a = j ∧ b = i
  · rw [if_pos c1]
    by_cases c2 : b = j ∧ a = i
    · rw [if_pos c2]
    · rw [if_neg c2, if_pos ⟨c1.2, c1.1⟩]
  · rw [if_neg c1]
    by_cases c2 : a = i ∧ b = j
    · rw [if_pos c2, if_pos ⟨c2.2, c2.1⟩]
    · rw [if_neg c2, if_neg fun q => c2 ⟨q.2, q.1⟩, if_neg fun q => c1 ⟨q.2, q.1⟩]
      exact h a b
theorem upd2_at {f : Nat → Nat → Int} {i j : Nat} {v : Int} (hj : j < i) {a b : Nat} (hb : b < a) : upd1 (upd1 f i j v) j i v a b = if a = i ∧ b = j then v else f a b := by
  unfold upd1
  rw [if_neg (by omega)]
theorem DI.next {i j : Nat} {top l h : Int} {lo hi : Nat → Nat → Int} (d : DI i j top lo hi) (hj : j < i) (h1 : 1 ≤ l) (h2 : l ≤ h) (h3 : h ≤ top) : DI i (j + 1) top (upd1 (upd1 lo i j l) j i l) (upd1 (upd1 hi i j h) j i h) where
  dg := fun a => by
    unfold upd1
    rw [if_neg (by omega), if_neg (by omega), if_neg (by omega), if_neg (by omega)]
    exact d.dg a
  sl := upd2_sy d.sl
  sh := upd2_sy d.sh
  po := fun a b hb hab => by
    rw [upd2_at hj hb, upd2_at hj hb]
    by_cases c : a = i ∧ b = j
    · rw [if_pos c, if_pos c]; exact ⟨h1, h2, h3⟩
    · rw [if_neg c, if_neg c]; exact d.po a b hb (by omega)
theorem DI.up {i : Nat} {top : Int} {lo hi : Nat → Nat → Int} (h : DI i i top lo hi) : DI (i + 1) 0 top lo hi := ⟨h.dg, h.sl, h.sh, fun a b hb hab => h.po a b hb (by omega)⟩
theorem DI.dbt {n : Nat} {top : Int} {lo hi : Nat → Nat → Int} (h : DI n 0 top lo hi) (n1 : 1 ≤ n) (n7 : n ≤ 7) (ht : top ≤ 1000) : Dbt n lo hi where
  n1 := n1
  n7 := n7
  dg := fun i _ => h.dg i
  ps := fun i j hi' hj e => by
    by_cases c : j < i
    · have := h.po i j c (by omega); omega
    · have := h.po j i (by omega) (by omega)
      rw [h.sl i j, h.sh i j]; omega
  sl := fun i j _ _ => h.sl i j
  sh := fun i j _ _ => h.sh i j
theorem updG_pair (lo hi : Nat → Nat → Int) (i j : Nat) (a b : Int) : updG (pairG lo hi) i j (pairI a b) = pairG (upd1 lo i j a) (upd1 hi i j b) := by
  funext x y
  unfold updG pairG upd1
  split <;> rfl
theorem noRef_pairG (lo hi : Nat → Nat → Int) : ∀ a b m, noRef m (pairG lo hi a b) = true := fun _ _ _ => rfl
/-! ### equal tables -/
def sameT (n : Nat) (f g : Nat → Nat → Int) : Bool := (List.range n).all fun i => (List.range n).all fun j => decide (f i j = g i j)
theorem sameT_iff {n : Nat} {f g : Nat → Nat → Int} : sameT n f g = true ↔ ∀ i j, i < n → j < n → f i j = g i j := by
  unfold sameT
  simp only [List.all_eq_true, List.mem_range, decide_eq_true_eq]
  exact ⟨fun h i j hi hj => h i hi j hj, fun h i hi j hj => h i j hi hj⟩
theorem toPy_map {α : Type} (st : Sto) (n : Nat) (l : List α) (φ : α → D) (ψ : α → PyData) (h : ∀ a ∈ l, toPy st n (φ a) = some (ψ a)) : toPy st (n + 1) (.tup (l.map φ)) = some (.tuple (l.map ψ)) := by
  rw [toPy]
  simp only [List.map_map]
  rw [allSome_map (f := toPy st n ∘ φ) (g := ψ) h]
  rfl
theorem toPy_mapL {α : Type} (st : Sto) (n : Nat) (l : List α) (φ : α → D) (ψ : α → PyData) (h : ∀ a ∈ l, toPy st n (φ a) = some (ψ a)) : toPy st (n + 1) (.lst (l.map φ)) = some (.list (l.map ψ)) := by
  rw [toPy]
  simp only [List.map_map]
  rw [allSome_map (f := toPy st n ∘ φ) (g := ψ) h]
  try rfl
theorem eqvAll_map {α : Type} (φ ψ : α → PyData) : ∀ l : List α, PyData.eqvAll (l.map φ) (l.map ψ) = l.all fun a => PyData.eqv (φ a) (ψ a)
  | [] => rfl
  | a :: l => by rw [List.map_cons, List.map_cons, PyData.eqvAll, eqvAll_map φ ψ l, List.all_cons]
abbrev tabP (n : Nat) (f : Nat → Nat → Int) : PyData := .tuple ((List.range n).map fun i => .tuple ((List.range n).map fun j => .int (f i j)))
theorem toPy_tabT (st : Sto) (k n : Nat) (f : Nat → Nat → Int) : toPy st (k + 2) (tabT n f) = some (tabP n f) := toPy_map st (k + 1) _ _ _ fun i _ => toPy_map st k _ _ _ fun j _ => toPy_int st k _
theorem eqv_tabP (n : Nat) (f g : Nat → Nat → Int) : PyData.eqv (tabP n f) (tabP n g) = sameT n f g := by
  unfold sameT tabP
  rw [PyData.eqv, eqvAll_map]
  congr 1
  funext i
  rw [PyData.eqv, eqvAll_map]
  simp only [eqv_int]
theorem fEq_tab (st : Sto) (n : Nat) (f g : Nat → Nat → Int) : fEq (tabT n f) (tabT n g) st = .ok (.bl (sameT n f g)) st := by
  unfold fEq
  rw [toPy_tabT st 58, toPy_tabT st 58, ]
  simp only [eqv_tabP]
theorem fNe_tab (st : Sto) (n : Nat) (f g : Nat → Nat → Int) : fNe (tabT n f) (tabT n g) st = .ok (.bl (!sameT n f g)) st := by
  unfold fNe
  rw [toPy_tabT st 58, toPy_tabT st 58, ]
  simp only [eqv_tabP]
theorem sameT_fw {n : Nat} {g : Nat → Nat → Int} (h : Met n g) : sameT n (fw g n) g = true ↔ Tri n g := by
  rw [sameT_iff]
  constructor
  · intro e i j k hi hj hk
    have := fw_tr h i j k hi hj hk
    rw [e i k hi hk, e i j hi hj, e j k hj hk] at this
    exact this
  · intro t i j hi hj
    exact fw_id t n (Nat.le_refl _) i j hi hj
theorem sameT_fw2 {n : Nat} {g : Nat → Nat → Int} (h : Met n g) (v : TabP n g) : sameT n (fw g n) g = (shortT n g).isNone := by
  apply Bool.eq_iff_iff.mpr
  rw [sameT_fw h, Option.isNone_iff_eq_none, shortT_none v]
theorem TabP.met {n : Nat} {g : Nat → Nat → Int} (v : TabP n g) : Met n g := ⟨fun a ha => (v.dg a a ha ha).mpr rfl, fun a b ha hb => (v.lo a b ha hb).1⟩
theorem fw_tabP {n : Nat} {g : Nat → Nat → Int} (v : TabP n g) : TabP n (fw g n) where
  n1 := v.n1
  n7 := v.n7
  lo := fun i j hi hj => ⟨(v.met.fw n (Nat.le_refl _)).nn i j hi hj, Int.le_trans (fw_le (n := n) n i j) (v.lo i j hi hj).2⟩
  dg := fun i j hi hj => by
    constructor
    · intro e
      by_cases q : i = j
      · exact q
      · have := fw_po v.met (fun a b ha hb hne => by
          have := (v.lo a b ha hb).1
          have h2 : ¬ g a b = 0 := fun z => hne ((v.dg a b ha hb).mp z)
          omega) n (Nat.le_refl _) i j hi hj q
        omega
    · rintro rfl
      exact (v.met.fw n (Nat.le_refl _)).dg i hi
  sy := fun i j hi hj => fw_sy v.sy n (Nat.le_refl _) i j hi hj
theorem Dbt.tabP {n : Nat} {lo hi : Nat → Nat → Int} (v : Dbt n lo hi) : TabP n hi where
  n1 := v.n1
  n7 := v.n7
  lo := fun i j hi' hj => by
    by_cases e : i = j
    · subst e; rw [(v.dg i hi').2]; decide
    · have := v.ps i j hi' hj e; omega
  dg := fun i j hi' hj => by
    constructor
    · intro e
      by_cases q : i = j
      · exact q
      · have := v.ps i j hi' hj q; omega
    · rintro rfl; exact (v.dg i hi').2
  sy := v.sh
theorem fitB_iff {n : Nat} {lo hi g : Nat → Nat → Int} : fitB n lo hi g = true ↔ ∀ i j, i < n → j < n → lo i j ≤ g i j ∧ g i j ≤ hi i j := by
  unfold fitB
  simp only [List.all_eq_true, List.mem_range, Bool.and_eq_true, decide_eq_true_eq]
  exact ⟨fun h i j hi hj => h i hi j hj, fun h i hi j hj => h i j hi hj⟩
/-- the greatest fits just where no way is too short -/
theorem fits_short {n : Nat} {lo hi : Nat → Nat → Int} (v : Dbt n lo hi) : (sameT n (fw (fw hi n) n) (fw hi n) && fitB n lo hi (fw hi n)) = (shortW n lo hi).isNone := by
  have e : sameT n (fw (fw hi n) n) (fw hi n) = true := (sameT_fw (v.met.fw n (Nat.le_refl _))).mpr (fw_tr v.met)
  rw [e, Bool.true_and]
  apply Bool.eq_iff_iff.mpr
  rw [Option.isNone_iff_eq_none, shortW_none v.met fun a ha => by rw [(v.dg a ha).1]; exact Int.le_refl _, fitB_iff]
  exact ⟨fun h i j hi' hj => (h i j hi' hj).1, fun h i j hi' hj => ⟨h i j hi' hj, fw_le (n := n) n i j⟩⟩
end Lw90
namespace Lw90
open PySem PD
variable {st : Sto}
/-! ### a list in the middle of the store -/
theorem sto_mid (S : Sto) (o : MO) (J : Sto) : (S ++ o :: J)[S.length]? = some o := by
  rw [List.getElem?_append_right (Nat.le_refl _), Nat.sub_self]
  rfl
theorem sto_mid_set (S : Sto) (o o' : MO) (J : Sto) : (S ++ o :: J).set S.length o' = S ++ o' :: J := by
  rw [List.set_append_right (h := Nat.le_refl _), Nat.sub_self]
  rfl
theorem litems_mid (S : Sto) (ws : List D) (J : Sto) : litems (S ++ .lst ws :: J) (.ref S.length) = some ws := litems_ref (sto_mid _ _ _)
theorem fAppend_mid {S J : Sto} {ws : List D} {w : D} (h : ws.length ≤ 10000) : fAppend (.ref S.length) w (S ++ .lst ws :: J) = .ok .non (S ++ .lst (ws ++ [w]) :: J) := by
  have z2 := sizeLine_eq
  rw [fAppend_ref (sto_mid _ _ _) (by omega), sto_mid_set]
theorem noRefs_nats (n : Nat) (l : List (List Nat)) : noRefs n (l.map nats) = true := noRefs_all fun d hd => by
  obtain ⟨w, _, rfl⟩ := List.mem_map.mp hd
  unfold noRef
  exact noRefs_all fun d hd => by
    obtain ⟨w, _, rfl⟩ := List.mem_map.mp hd
    rfl
end Lw90
namespace Lw90
open PySem PD
variable {st : Sto}
/-! ### _law_is of what the law compares -/
theorem is1 (hw : WF st) (i : Int) : F_law_is_1 [.int i, .int i] st = .ok (.bl true) st := by
  have h := is_int F_law_is_0 hw i i
  rw [decide_eq_true rfl] at h
  exact h
theorem is2 (hw : WF st) (i : Int) : F_law_is_2 [.int i, .int i] st = .ok (.bl true) st := by
  have h := is_int F_law_is_1 hw i i
  rw [decide_eq_true rfl] at h
  exact h
theorem is2_row (hw : WF st) (xs : List Int) (hl : xs.length ≤ 10000) : F_law_is_2 [.tup (xs.map D.int), .tup (xs.map D.int)] st = .ok (.bl true) st :=
  is_tupS F_law_is_1 hw _ (by rw [List.length_map]; exact hl) fun x hx => by
    obtain ⟨i, _, rfl⟩ := List.mem_map.mp hx
    exact is1 hw i
theorem is3_tup (hw : WF st) (xs : List D) (hl : xs.length ≤ 10000) (h : ∀ x ∈ xs, F_law_is_2 [x, x] st = .ok (.bl true) st) : F_law_is [.tup xs, .tup xs] st = .ok (.bl true) st := is_tupS F_law_is_2 hw xs hl h
theorem is2_tD3 (hw : WF st) (t : Tr) : F_law_is_2 [tD3 t, tD3 t] st = .ok (.bl true) st := is2_row hw (l3 t) (by simp [l3])
theorem is2_nats (hw : WF st) (l : List Nat) (hl : l.length ≤ 10000) : F_law_is_2 [nats l, nats l] st = .ok (.bl true) st := by
  have := is2_row hw (l.map fun m : Nat => (m : Int)) (by rw [List.length_map]; exact hl)
  rw [List.map_map] at this
  exact this
theorem is_worst (hw : WF st) (p : Int × Option Tr) : F_law_is [worstD p, worstD p] st = .ok (.bl true) st := is3_tup hw _ (by simp) fun x hx => by
  simp only [List.mem_cons, List.not_mem_nil, or_false] at hx
  rcases hx with rfl | rfl
  · exact is2 hw _
  · unfold triO
    split
    · exact is_non F_law_is_1 hw
    · exact is2_tD3 hw _
theorem is_few (hw : WF st) (r : Option (List Nat)) (hl : ∀ l, r = some l → l.length ≤ 10000) : F_law_is [fewD r, fewD r] st = .ok (.bl true) st := by
  cases r with
  | none => exact is_non F_law_is_2 hw
  | some l =>
    refine is3_tup hw _ (by simp) fun x hx => ?_
    simp only [List.mem_cons, List.not_mem_nil, or_false] at hx
    rcases hx with rfl | rfl
    · exact is2 hw _
    · exact is2_nats hw _ (hl l rfl)
theorem fsub (st : Sto) (i j : Int) : fSub (.int i) (.int j) st = .ok (.int (i - j)) st := rfl
theorem law_plain (ns : List Int) (hn : ns.length ≤ 63) : ∃ st', F_law [.fz (ns.map D.int)] [] = .ok (.bl true) st' := by
  have z2 := sizeLine_eq
  have body : ∃ ex, b_law (startD 21 [.fz (ns.map D.int)]) [] = some (.rt (.bl true), [] ++ ex) := by
    obtain ⟨o, ho, e1⟩ := hand_t ns hn
    have hl0 : (startD 21 [.fz (ns.map D.int)]).length = 21 := rfl
    have h00 : (startD 21 [.fz (ns.map D.int)])[0]? = some (some (.fz (ns.map D.int))) := rfl
    generalize startD 21 [.fz (ns.map D.int)] = ρ0 at hl0 h00
    generalize D.fz (ns.map D.int) = x0 at e1 h00
    have wfo : WF [o] := by
      obtain ⟨cs', p', q', r', k', rfl, _⟩ := ho
      exact WF.nil.app (noRef_hand _ cs' p' q' r' k')
    unfold b_law
    rw [qSeq_e]
    simp_arith! [h00, e1, hl0]
    rw [iRange1_nat (j := 5) (by simp_arith! []; rfl) (by omega)]
    simp_arith! []
    generalize hL : loopFor _ _ _ _ _ _ _ _ = R
    obtain ⟨ρ', st', rfl, hfin⟩ := for_all_e hL (List.range 5) (fun i : Nat => D.int (i : Int)) rfl (by simp) (fun r ρ st' => ∃ o' rest, HandO o' ∧ WF (o' :: rest) ∧ ρ.length = 21 ∧ ρ[1]? = some (some (.ref 0)) ∧ st' = o' :: rest) (fun _ _ _ _ => still_none _ _) ⟨o, [], ho, wfo, by simp_arith! [hl0], by simp_arith! [hl0], rfl⟩ (by
      rintro tn r ρ st' ⟨o1, rest, ho1, hw1, hl, h1, rfl⟩
      clear hL
      refine ⟨_, rfl, ?_⟩
      generalize hN : qSeq _ _ _ _ = R2
      obtain ⟨o2, d1, ho2, l1, e2⟩ := draw_n hw1 ho1 (m := 6) (by omega) (by omega)
      have e2 : F_law_draw [.ref 0, .int 6] (o1 :: rest) = .ok (.int (d1 : Int)) (o2 :: rest) := e2
      have hw2 := wf_hand hw1 ho2
      obtain ⟨o3, x3, ho3, hx3, e3⟩ := law_some_t hw2 ho2 [.int 3, .int 9, .int 40, .int 1000] (by simp) (by simp) fun x hx => by
        simp only [List.mem_cons, List.not_mem_nil, or_false] at hx
        rcases hx with rfl | rfl | rfl | rfl <;> exact fz_int _ _
      obtain ⟨top, t0, t1, rfl⟩ : ∃ top : Int, 1 ≤ top ∧ top ≤ 1000 ∧ x3 = .int top := by
        simp only [List.mem_cons, List.not_mem_nil, or_false] at hx3
        rcases hx3 with rfl | rfl | rfl | rfl
        · exact ⟨3, by omega, by omega, rfl⟩
        · exact ⟨9, by omega, by omega, rfl⟩
        · exact ⟨40, by omega, by omega, rfl⟩
        · exact ⟨1000, by omega, by omega, rfl⟩
      have hw3 := wf_hand hw2 ho3
      obtain ⟨n, hn1, hn6, en⟩ : ∃ n : Nat, 1 ≤ n ∧ n ≤ 6 ∧ (1 : Int) + (d1 : Int) = (n : Int) := ⟨1 + d1, by omega, by omega, by omega⟩
      obtain ⟨o4, f, ho4, rf, e4⟩ := law_table_t hw3 ho3 (n := n) (by omega) (top := top) (by omega) (by omega)
      have hw4 := wf_hand hw3 ho4
      have vf : TabP n f := rf.tab hn1 (by omega) (by omega)
      obtain ⟨o5, d2, ho5, l2, e5⟩ := draw_n hw4 ho4 (m := 4) (by omega) (by omega)
      have e5 : F_law_draw [.ref 0, .int 4] (o4 :: rest) = .ok (.int (d2 : Int)) (o5 :: rest) := e5
      have hw5 := wf_hand hw4 ho5
      have cl := law_closing_t hw5 (n := n) (by omega) vf.met
      clear hw1 hw2 hw3
      simp_arith! [hl, h1, e2, e3, en, e4, e5] at hN
      obtain ⟨g, v, eg⟩ : ∃ g, TabP n g ∧ (if decide ((d2 : Int) = 0) = true then F_law_closing [tabT n f] (o5 :: rest) else Out.ok (tabT n f) (o5 :: rest)) = .ok (tabT n g) (o5 :: rest) := by
        by_cases c : (d2 : Int) = 0
        · exact ⟨fw f n, fw_tabP vf, by rw [decide_eq_true c, if_pos rfl, cl]⟩
        · exact ⟨f, vf, by rw [decide_eq_false c, if_neg Bool.false_ne_true]⟩
      rw [eg] at hN
      have hn7 : n < 7 := by omega
      have sl := shorts_len hn7 g
      have lt := law_triples_t hw5 (n := n) (by omega) g
      have st1 := short_triples_t hw5 hn7 v
      have is1 := is3_tup hw5 ((shorts n g).map tD3) (by rw [List.length_map]; omega) fun x hx => by
        obtain ⟨t, _, rfl⟩ := List.mem_map.mp hx
        exact is2_tD3 hw5 t
      have so := is_sound_t hw5 v
      have es : (shortT n g).isNone = decide (((shorts n g).length : Int) = 0) := by
        have := shorts_nil v
        cases h : shorts n g with
        | nil => rw [h] at this; rw [this.mp rfl]; rfl
        | cons a l =>
          have h2 : shortT n g ≠ none := fun e => by have := this.mpr e; rw [h] at this; cases this
          cases h3 : shortT n g with
          | none => exact absurd h3 h2
          | some _ => exact (decide_eq_false (by rw [List.length_cons]; omega)).symm
      rw [es] at so
      simp_arith! [hl, h1, List.length_range, lt, st1, is1, so] at hN
      generalize hρ1 : List.set _ 7 _ = ρ1 at hN
      have k0 : ρ1.length = 21 := by rw [← hρ1]; simp_arith! [hl]
      have k1 : ρ1[1]? = some (some (.ref 0)) := by rw [← hρ1]; simp_arith! [hl, h1]
      have k3 : ρ1[3]? = some (some (tabT n g)) := by rw [← hρ1]; simp_arith! [hl]
      have k4 : ρ1[4]? = some (some (.int (n : Int))) := by rw [← hρ1]; simp_arith! [hl]
      have k5 : ρ1[5]? = some (some (.lst ((shorts n g).map tD3))) := by rw [← hρ1]; simp_arith! [hl]
      have k6 : ρ1[6]? = some (some (.int 0)) := by rw [← hρ1]; simp_arith! [hl]
      have k7 : ρ1[7]? = some (some (worstD (0, none))) := by rw [← hρ1]; simp_arith! [hl]; rfl
      clear hρ1 e2 e3 e4 e5 cl lt st1 so is1
      simp_arith! [iSeq_e, k5] at hN
      generalize hL : loopFor _ _ _ _ _ _ _ _ = R at hN
      obtain ⟨ρ2, st2, rfl, q, hd, j0, j1, j3, j4, j5, j7, rfl⟩ := for_all_e hL (shorts n g) tD3 rfl (by simp) (fun r ρ st' => ∃ q, shorts n g = q ++ r ∧ ρ.length = 21 ∧ ρ[1]? = some (some (.ref 0)) ∧ ρ[3]? = some (some (tabT n g)) ∧ ρ[4]? = some (some (.int (n : Int))) ∧ ρ[5]? = some (some (.lst ((shorts n g).map tD3))) ∧ (ρ[6]? = some (some (.int (q.foldl (wF g) (0, none)).1)) ∧ ρ[7]? = some (some (worstD (q.foldl (wF g) (0, none))))) ∧ st' = o5 :: rest) (fun _ _ _ _ => still_none _ _) ⟨[], rfl, k0, k1, k3, k4, k5, ⟨k6, k7⟩, rfl⟩ (by
        rintro t r ρ st' ⟨q, hd, j0, j1, j3, j4, j5, ⟨j6, j7⟩, rfl⟩
        have ht : t ∈ shorts n g := by rw [hd]; simp
        obtain ⟨a1, a2, a3, _⟩ := mem_trips.mp (List.mem_filter.mp ht).1
        have b1 : t.1 < n := by omega
        have ef : (q ++ [t]).foldl (wF g) (0, none) = wF g (q.foldl (wF g) (0, none)) t := by rw [List.foldl_append]; rfl
        refine ⟨_, rfl, ?_⟩
        simp_arith! [j0, j3, j6, fIx_range b1, fIx_range a2, fIx_range a3]
        rw [show g t.1 t.2.2 - g t.1 t.2.1 - g t.2.1 t.2.2 = lackN g t from rfl]
        generalize q.foldl (wF g) (0, none) = p at j6 j7 ef
        by_cases c : p.1 < lackN g t
        · have ew : wF g p t = (lackN g t, some t) := if_pos c
          rw [decide_eq_true c]
          refine ⟨_, _, .inl (by simp_arith! [j0]; rfl), q ++ [t], by rw [hd]; simp, by simp_arith! [j0], by simp_arith! [j1], by simp_arith! [j3], by simp_arith! [j4], by simp_arith! [j5], ⟨by simp_arith! [j0, ef, ew], by simp_arith! [j0, ef, ew]; rfl⟩, rfl⟩
        · have ew : wF g p t = p := if_neg c
          rw [decide_eq_false c]
          refine ⟨_, _, .inl (by simp_arith! []; rfl), q ++ [t], by rw [hd]; simp, by simp_arith! [j0], by simp_arith! [j1], by simp_arith! [j3], by simp_arith! [j4], by simp_arith! [j5], ⟨by simp_arith! [j6, ef, ew], by simp_arith! [j7, ef, ew]⟩, rfl⟩)
      rw [List.append_nil] at hd
      subst hd
      clear hL k0 k1 k3 k4 k5 k6 k7
      have wt := worst_triple_t hw5 hn7 v
      have iw := is_worst hw5 (wst n g)
      have ll := law_lots_t hw5 (n := n) hn7
      have al := allLots_len0 n
      have pw : 2 ^ n ≤ 64 := Nat.pow_le_pow_right (by omega) (show n ≤ 6 by omega)
      unfold wst at wt iw
      obtain ⟨j6, j7⟩ := j7
      generalize hS0 : o5 :: rest = S0 at *
      have hw6 : WF (S0 ++ [.lst ([] : List D)]) := hw5.app rfl
      have ll := law_lots_t hw6 (n := n) hn7
      simp_arith! [j0, j3, j4, j7, wt, iw, ll, iSeq_e, cut_1] at hN
      generalize hρ3 : List.set ρ2 12 _ = ρ3 at hN
      have k0 : ρ3.length = 21 := by rw [← hρ3]; simp_arith! [j0]
      have k1 : ρ3[1]? = some (some (.ref 0)) := by rw [← hρ3]; simp_arith! [j1]
      have k3 : ρ3[3]? = some (some (tabT n g)) := by rw [← hρ3]; simp_arith! [j3]
      have k4 : ρ3[4]? = some (some (.int (n : Int))) := by rw [← hρ3]; simp_arith! [j4]
      have k5 : ρ3[5]? = some (some (.lst ((shorts n g).map tD3))) := by rw [← hρ3]; simp_arith! [j5]
      have k12 : ρ3[12]? = some (some (.ref S0.length)) := by rw [← hρ3]; simp_arith! [j0]
      clear hρ3 j0 j1 j3 j4 j5 j6 j7 wt iw
      generalize hL : loopFor _ _ _ _ _ _ _ _ = R at hN
      obtain ⟨ρ4, st4, rfl, q, hd, j0, j1, j3, j4, j5, j12, rfl⟩ := for_all_e hL ((allLots n).drop 1) nats (by rw [List.map_drop]) (by simp) (fun r ρ st' => ∃ q, (allLots n).drop 1 = q ++ r ∧ ρ.length = 21 ∧ ρ[1]? = some (some (.ref 0)) ∧ ρ[3]? = some (some (tabT n g)) ∧ ρ[4]? = some (some (.int (n : Int))) ∧ ρ[5]? = some (some (.lst ((shorts n g).map tD3))) ∧ ρ[12]? = some (some (.ref S0.length)) ∧ st' = S0 ++ [.lst ((q.filter (goodB n g)).map nats)]) (fun _ _ _ _ => still_none _ _) ⟨[], rfl, k0, k1, k3, k4, k5, k12, rfl⟩ (by
        rintro lot r ρ st' ⟨q, hd, j0, j1, j3, j4, j5, j12, rfl⟩
        have hq : q.length ≤ 64 := by
          have := congrArg List.length hd
          rw [List.length_drop, List.length_append, al] at this
          omega
        have hf := List.length_filter_le (goodB n g) q
        refine ⟨_, rfl, ρ.set 13 (some (nats lot)), _, .inl ?_, q ++ [lot], by rw [hd]; simp, by simp_arith! [j0], by simp_arith! [j1], by simp_arith! [j3], by simp_arith! [j4], by simp_arith! [j5], by simp_arith! [j12], rfl⟩
        simp_arith! [j0]
        rw [sLC_map (dy := none) (shorts n g) tD3 (fun t => D.bl (inLot lot t)) (by simp_arith! [iSeq_e, j5]) (still_none _ _) (by omega) fun t ht => ⟨_, rfl, by
          simp_arith! []
          rw [sLC_map (dy := none) [t.1, t.2.1, t.2.2] (fun m : Nat => D.int (m : Int)) (fun p => D.bl (decide (p ∈ lot))) (by simp_arith! [iSeq_e, j0]; rfl) (still_none _ _) (by simp; omega) fun p hp => ⟨_, rfl, by
            simp_arith! [j0, fIn_nats]⟩]
          have ba := fun s => bAll_map (fun p : Nat => decide (p ∈ lot)) [t.1, t.2.1, t.2.2] s
          simp_arith! [ba]
          rfl⟩]
        have bn := fun s => bAny_map (inLot lot) (shorts n g) s
        simp_arith! [bn]
        rw [List.filter_append, List.map_append]
        have eg : goodB n g lot = !((shorts n g).any (inLot lot)) := rfl
        generalize (shorts n g).any (inLot lot) = b at eg
        cases b with
        | true =>
          have : [lot].filter (goodB n g) = [] := by rw [List.filter_cons, eg]; rfl
          rw [this]
          simp_arith! []
          rw [List.map_nil, List.append_nil]
        | false =>
          have : [lot].filter (goodB n g) = [lot] := by rw [List.filter_cons, eg]; rfl
          rw [this]
          simp_arith! [j0, j12, litems_last, fAppend_last (S := S0) (ws := (q.filter (goodB n g)).map nats) (w := nats lot) (by rw [List.length_map]; omega)]
          rfl)
      rw [List.append_nil] at hd
      subst hd
      clear hL k0 k1 k3 k4 k5 k12
      rw [show (((allLots n).drop 1).filter (goodB n g)) = goodL n g from rfl] at hN
      have ge := goodL_eq hn7 v
      have gm : ∀ lot ∈ goodL n g, lot.length ≤ 7 := fun lot h => by have := (goodL_mem hn7 h).2.2.1; omega
      have gl : (goodL n g).length ≤ 64 := by
        have := List.length_filter_le (goodB n g) ((allLots n).drop 1)
        rw [List.length_drop, al] at this
        unfold goodL; omega
      have hw7 : WF (S0 ++ [.lst ((goodL n g).map nats)]) := hw5.app (noRefs_nats _ _)
      generalize hl12 : S0.length = l at j12
      generalize hS1 : S0 ++ [MO.lst ((goodL n g).map nats)] = S1 at hN hw7
      have g12 : ∀ J, (S1 ++ J)[l]? = some (.lst ((goodL n g).map nats)) := fun J => by
        rw [← hS1, ← hl12, List.append_assoc, List.cons_append, List.nil_append]
        exact sto_mid _ _ _
      have i12 : ∀ J, litems (S1 ++ J) (.ref l) = some ((goodL n g).map nats) := fun J => litems_ref (g12 J)
      have hw8 : WF (S1 ++ [.lst ([] : List D)]) := hw7.app rfl
      simp_arith! [j0, j12, i12, iSeq_e, sRev_e] at hN
      generalize hρ5 : List.set ρ4 14 _ = ρ5 at hN
      have k0 : ρ5.length = 21 := by rw [← hρ5]; simp_arith! [j0]
      have k1 : ρ5[1]? = some (some (.ref 0)) := by rw [← hρ5]; simp_arith! [j1]
      have k3 : ρ5[3]? = some (some (tabT n g)) := by rw [← hρ5]; simp_arith! [j3]
      have k4 : ρ5[4]? = some (some (.int (n : Int))) := by rw [← hρ5]; simp_arith! [j4]
      have k12 : ρ5[12]? = some (some (.ref l)) := by rw [← hρ5]; simp_arith! [j12]
      have k14 : ρ5[14]? = some (some (.ref S1.length)) := by rw [← hρ5]; simp_arith! [j0]
      clear hρ5 j0 j1 j3 j4 j5 j12
      generalize hL : loopFor _ _ _ _ _ _ _ _ = R at hN
      obtain ⟨ρ6, st6, rfl, q, hd, j0, j1, j3, j4, j12, j14, rfl⟩ := for_all_e hL (goodL n g).reverse nats (by rw [List.map_reverse]) (by simp) (fun r ρ st' => ∃ q, (goodL n g).reverse = q ++ r ∧ ρ.length = 21 ∧ ρ[1]? = some (some (.ref 0)) ∧ ρ[3]? = some (some (tabT n g)) ∧ ρ[4]? = some (some (.int (n : Int))) ∧ ρ[12]? = some (some (.ref l)) ∧ ρ[14]? = some (some (.ref S1.length)) ∧ st' = S1 ++ [.lst ((wholeS q).map nats)]) (fun _ _ _ _ => still_none _ _) ⟨[], rfl, k0, k1, k3, k4, k12, k14, rfl⟩ (by
        rintro lot r ρ st' ⟨q, hd, j0, j1, j3, j4, j12, j14, rfl⟩
        have hq : q.length ≤ 64 := by
          have := congrArg List.length hd
          rw [List.length_reverse, List.length_append] at this
          omega
        have fl := wholeS_len q []
        have hll : lot.length ≤ 7 := gm lot (List.mem_reverse.mp (by rw [hd]; simp))
        refine ⟨_, rfl, ρ.set 13 (some (nats lot)), _, .inl ?_, q ++ [lot], by rw [hd]; simp, by simp_arith! [j0], by simp_arith! [j1], by simp_arith! [j3], by simp_arith! [j4], by simp_arith! [j12], by simp_arith! [j14], rfl⟩
        rw [wholeS_snoc]
        unfold wholeS at fl ⊢
        generalize q.foldl wholeG [] = F at fl ⊢
        simp only [List.length_nil, Nat.zero_add] at fl
        simp_arith! [j0]
        rw [sLC_map (dy := some (.inl S1.length)) F nats (fun o => D.bl (lot.all fun p => decide (p ∈ o))) (by simp_arith! [iSeq_e, j14, items_ref (sto_get1 _ _)]) (sto_get1 _ _) (by omega) fun o ho => ⟨_, rfl, by
          simp_arith! []
          rw [sLC_map (dy := none) lot (fun m : Nat => D.int (m : Int)) (fun p => D.bl (decide (p ∈ o))) (by simp_arith! [iSeq_e, j0]) (still_none _ _) (by omega) fun p hp => ⟨_, rfl, by
            simp_arith! [j0, fIn_nats]⟩]
          have ba := fun s => bAll_map (fun p : Nat => decide (p ∈ o)) lot s
          simp_arith! [ba]⟩]
        have bn := fun s => bAny_map (fun o : List Nat => lot.all fun p => decide (p ∈ o)) F s
        simp_arith! [bn]
        unfold wholeG
        cases (F.any fun o => lot.all fun p => decide (p ∈ o))
        · simp_arith! [j0, j14, litems_last, fAppend_last (S := S1) (ws := F.map nats) (w := nats lot) (by rw [List.length_map]; omega)]
          rw [List.map_append]
          rfl
        · simp_arith! [])
      rw [List.append_nil] at hd
      subst hd
      clear hL k0 k1 k3 k4 k12 k14
      have sw : ∀ s, WF s → F_sound_lots [tabT n g] s = .ok (.tup ((sortL (wholeS (goodL n g).reverse)).map nats)) s := fun s hs => by rw [ge]; exact sound_lots_t hs hn7 v
      have wm : ∀ y ∈ wholeS (goodL n g).reverse, y ∈ goodL n g := fun y hy => by
        rcases wholeS_mem _ _ y hy with h | h
        · cases h
        · exact List.mem_reverse.mp h
      have wl := wholeS_len (goodL n g).reverse []
      rw [List.length_reverse] at wl
      have wl : (wholeS (goodL n g).reverse).length ≤ 64 := by unfold wholeS; simp only [List.length_nil] at wl; omega
      generalize wholeS (goodL n g).reverse = W at hN sw wm wl
      have hw9 : WF (S1 ++ [.lst (W.map nats)]) := hw7.app (noRefs_nats _ _)
      have sp := sortZ_perm (ks := W.map keyN) (xs := W) (by simp)
      have sr := sorted_lots (st := S1 ++ [.lst (W.map nats)]) (x := .ref S1.length) (litems_ref (sto_get1 _ _)) (.inr fun y hy => (goodL_mem hn7 (wm y hy)).2.1)
      have isw := is3_tup hw9 ((sortL W).map nats) (by rw [List.length_map]; unfold sortL; rw [sp.length_eq]; omega) fun x hx => by
        obtain ⟨y, hy, rfl⟩ := List.mem_map.mp hx
        have : y ∈ W := sp.mem_iff.mp hy
        exact is2_nats hw9 y (by have := gm y (wm y this); omega)
      have sw := sw _ hw9
      simp_arith! [j0, j3, j14, sw, sr, isw] at hN
      have g12' : ∀ J, (S1 ++ [MO.lst (W.map nats)] ++ J)[l]? = some (.lst ((goodL n g).map nats)) := fun J => by rw [List.append_assoc]; exact g12 _
      generalize hS2 : S1 ++ [MO.lst (W.map nats)] = S2 at hN hw9 g12'
      have i12 : ∀ J, items (S2 ++ J) (.ref l) = some ((goodL n g).map nats) := fun J => items_ref (g12' J)
      simp_arith! [j0, j12, i12, iSeq_e] at hN
      generalize hρ7 : List.set ρ6 15 _ = ρ7 at hN
      have k0 : ρ7.length = 21 := by rw [← hρ7]; simp_arith! [j0]
      have k1 : ρ7[1]? = some (some (.ref 0)) := by rw [← hρ7]; simp_arith! [j1]
      have k3 : ρ7[3]? = some (some (tabT n g)) := by rw [← hρ7]; simp_arith! [j3]
      have k4 : ρ7[4]? = some (some (.int (n : Int))) := by rw [← hρ7]; simp_arith! [j4]
      have k15 : ρ7[15]? = some (some (.ref S2.length)) := by rw [← hρ7]; simp_arith! [j0]
      clear hρ7 j0 j1 j3 j4 j12 j14
      generalize hL : loopFor _ _ _ _ _ _ _ _ = R at hN
      obtain ⟨ρ8, st8, rfl, q, hd, j0, j1, j3, j4, j15, rfl⟩ := for_all_e hL (goodL n g) nats rfl (by simp) (fun r ρ st' => ∃ q, goodL n g = q ++ r ∧ ρ.length = 21 ∧ ρ[1]? = some (some (.ref 0)) ∧ ρ[3]? = some (some (tabT n g)) ∧ ρ[4]? = some (some (.int (n : Int))) ∧ ρ[15]? = some (some (.ref S2.length)) ∧ st' = S2 ++ [.lst (q.map fun lot => lotD (restL n lot))]) (fun _ _ _ ⟨_, _, _, _, _, _, _, e⟩ => by rw [e]; exact g12' _) ⟨[], rfl, k0, k1, k3, k4, k15, rfl⟩ (by
        rintro lot r ρ st' ⟨q, hd, j0, j1, j3, j4, j15, rfl⟩
        have hq : q.length ≤ 64 := by
          have := congrArg List.length hd
          rw [List.length_append] at this
          omega
        have hm : lot ∈ goodL n g := by rw [hd]; simp
        have rl := rest_len hn7 hm
        have er : ((n : Int) - (lot.length : Int)) = ((restL n lot).length : Int) := by omega
        refine ⟨_, rfl, ρ.set 13 (some (nats lot)), _, .inl ?_, q ++ [lot], by rw [hd]; simp, by simp_arith! [j0], by simp_arith! [j1], by simp_arith! [j3], by simp_arith! [j4], by simp_arith! [j15], rfl⟩
        simp_arith! [j0, j4, j15, litems_last]
        rw [sLC_if (dy := none) (List.range n) (fun i : Nat => D.int (i : Int)) (fun p => !decide (p ∈ lot)) (fun i : Nat => D.int (i : Int)) (iRange_n (by simp_arith! [j4])) (still_none _ _) (by simp; omega) fun p hp => ⟨_, rfl, by
          simp_arith! [j0, fNotIn_nats]
          exact fun _ => trivial⟩]
        rw [show (List.range n).filter (fun p => !decide (p ∈ lot)) = restL n lot from rfl, er]
        have fA := fAppend_last (S := S2) (ws := q.map fun lot => lotD (restL n lot)) (w := lotD (restL n lot)) (by rw [List.length_map]; omega)
        have fA : fAppend (.ref S2.length) (.tup [.int ((restL n lot).length : Int), .tup ((restL n lot).map fun i : Nat => D.int (i : Int))]) (S2 ++ [.lst (q.map fun lot => lotD (restL n lot))]) = .ok .non (S2 ++ [.lst ((q.map fun lot => lotD (restL n lot)) ++ [lotD (restL n lot)])]) := fA
        simp_arith! [fA]
        rw [List.map_append]
        rfl)
      rw [List.append_nil] at hd
      subst hd
      clear hL k0 k1 k3 k4 k15
      have hw10 : WF (S2 ++ [.lst ((goodL n g).map fun lot => lotD (restL n lot))]) := hw9.app (noRefs_all fun d hd => by
        obtain ⟨lot, _, rfl⟩ := List.mem_map.mp hd
        unfold lotD
        unfold noRef
        rw [noRefs, noRefs, noRefs]
        unfold noRef
        rw [Bool.true_and, Bool.and_true]
        exact noRefs_all fun d hd => by
          obtain ⟨w, _, rfl⟩ := List.mem_map.mp hd
          rfl)
      have mo := min_outs hn7 v (x := .ref S2.length) (st := S2 ++ [.lst ((goodL n g).map fun lot => lotD (restL n lot))]) (litems_ref (sto_get1 _ _))
      obtain ⟨rest3, hrest3⟩ : ∃ r, S2 ++ [MO.lst ((goodL n g).map fun lot => lotD (restL n lot))] = o5 :: r := ⟨_, by rw [← hS2, ← hS1, ← hS0]; rfl⟩
      rw [hrest3] at hN hw10 mo
      have fo := fewest_out_t hw10 hn7 v
      have isf := is_few hw10 (fewO n g) (fun l hl => by
        have h1 := List.mem_of_find?_eq_some hl
        have := base_lot n l (lots_mem h1)
        omega)
      obtain ⟨o6, ho6, er⟩ := law_refused_t hw10 ho5 hn7 v
      have hw11 := wf_hand hw10 ho6
      simp_arith! [j0, j1, j3, j4, j15, fo, mo, isf, er] at hN
      by_cases c : (5 : Int) < (n : Int)
      · have h5 : 5 < n := by omega
        rw [decide_eq_true c] at hN
        simp_arith! [] at hN
        rw [sLC_map (dy := none) (["least_raise", "least_pairs", "needed_pairs"] : List Str) D.fn (fun _ => D.str "many") (by simp_arith! [iSeq_e, j0]; rfl) (still_none _ _) (by simp; omega) fun x hx => ⟨_, rfl, lam_many (by
          simp only [List.mem_cons, List.not_mem_nil, or_false] at hx
          rcases hx with rfl | rfl | rfl
          · exact (callV_f (x := "least_raise") (by simp_arith! [j0]) rfl (by simp_arith! [j3, j0]) rfl).trans (six_least_raise hw11 v h5)
          · exact (callV_f (x := "least_pairs") (by simp_arith! [j0]) rfl (by simp_arith! [j3, j0]) rfl).trans (six_least_pairs hw11 v h5)
          · exact (callV_f (x := "needed_pairs") (by simp_arith! [j0]) rfl (by simp_arith! [j3, j0]) rfl).trans (six_needed_pairs hw11 v h5))⟩] at hN
        have q2 := fun s => fRep_one (x := .str "many") (n := 3) (by omega) s
        have q2 : ∀ s, fRep false (.lst [.str "many"]) (.int 3) s = .ok (.lst (List.replicate 3 (.str "many"))) s := q2
        have fe := fNe_wordsL (o6 :: rest3) (List.replicate 3 ("many" : Str)) (List.replicate 3 ("many" : Str)) (by decide +kernel) (by decide +kernel)
        rw [decide_eq_true rfl] at fe
        have fe : fNe (.lst [.str "many", .str "many", .str "many"]) (.lst (List.replicate 3 (.str "many"))) (o6 :: rest3) = .ok (.bl false) (o6 :: rest3) := fe
        simp_arith! [j0, q2, List.map_cons, List.map_nil, fe] at hN
        exact ⟨_, _, .inl hN.symm, o6, rest3, ho6, hw11, by simp_arith! [j0], by simp_arith! [j1], rfl⟩
      · rw [decide_eq_false c] at hN
        simp_arith! [] at hN
        exact ⟨_, _, .inl hN.symm, o6, rest3, ho6, hw11, by simp_arith! [j0], by simp_arith! [j1], rfl⟩)
    obtain ⟨_, _, _, _, _, _, rfl⟩ := hfin
    exact ⟨_, by simp_arith! []; rfl⟩
  obtain ⟨ex, h⟩ := body
  exact ⟨[], defFin_rt h rfl WF.nil (fz_bl _ _ _ _)⟩
end Lw90
namespace Lw90
open PySem PySem.Spec PyProof.Rows L2 PD
def topS (i : Nat) : Stmt := PySem.Challenge.pw_farhouse_k90_whole_short_triples_and_ref.main.body.getD i (.Pass ⟨0, 0, 0, 0⟩)
abbrev s_is_integer : Stmt := topS 1
abbrev s_is_within : Stmt := topS 2
abbrev s_is_sized : Stmt := topS 3
abbrev s_is_table : Stmt := topS 34
abbrev s_check_table : Stmt := topS 35
abbrev s_short_triple : Stmt := topS 36
abbrev s_is_sound : Stmt := topS 37
abbrev s_check_few : Stmt := topS 71
abbrev s_least_raise : Stmt := topS 72
abbrev s_least_pairs : Stmt := topS 79
abbrev s_needed_pairs : Stmt := topS 81
abbrev s_all_triples : Stmt := topS 68
abbrev s_lack_at : Stmt := topS 70
abbrev s_raw_short : Stmt := topS 82
abbrev s_short_triples : Stmt := topS 83
abbrev s_worst_triple : Stmt := topS 84
abbrev s_all_lots : Stmt := topS 4
abbrev s_raw_part : Stmt := topS 40
abbrev s_raw_sound : Stmt := topS 85
abbrev s_sound_lots : Stmt := topS 86
abbrev s_fewest_out : Stmt := topS 87
abbrev s_law_hand : Stmt := topS 89
abbrev s_law_draw : Stmt := topS 90
abbrev s_law_some : Stmt := topS 91
abbrev s_law_table : Stmt := topS 92
abbrev s_law_closing : Stmt := topS 93
abbrev s_law_lots : Stmt := topS 94
abbrev s_law_is : Stmt := topS 95
abbrev s_law_word : Stmt := topS 96
abbrev s_law_triples : Stmt := topS 97
abbrev s_is_mend : Stmt := topS 54
abbrev s_common : Stmt := topS 14
abbrev s_is_share : Stmt := topS 16
abbrev s_share : Stmt := topS 15
abbrev s_plus : Stmt := topS 17
abbrev s_is_less : Stmt := topS 21
abbrev s_is_mend_of : Stmt := topS 53
abbrev s_check_mend : Stmt := topS 56
abbrev s_off_most : Stmt := topS 59
abbrev s_off_sum : Stmt := topS 60
abbrev s_off_pairs : Stmt := topS 61
abbrev s_nearest_mend : Stmt := topS 66
abbrev s_is_nearest_mend : Stmt := topS 67
abbrev s_is_least_raise : Stmt := topS 75
abbrev s_least_cut : Stmt := topS 76
abbrev s_is_least_pairs : Stmt := topS 80
abbrev s_law_refused : Stmt := topS 98
abbrev s_law : Stmt := topS 99
theorem sc_is_integer : FnScope ["thing"] ["thing"] (defScope s_is_integer) := ⟨rfl, rfl, rfl, by decide +kernel, rfl, by decide +kernel, by decide +kernel⟩
theorem sc_is_within : FnScope ["thing", "low", "high"] ["thing", "low", "high"] (defScope s_is_within) := ⟨rfl, rfl, rfl, by decide +kernel, rfl, by decide +kernel, by decide +kernel⟩
theorem sc_is_sized : FnScope ["thing", "low", "high"] ["thing", "low", "high"] (defScope s_is_sized) := ⟨rfl, rfl, rfl, by decide +kernel, rfl, by decide +kernel, by decide +kernel⟩
theorem sc_is_table : FnScope ["thing", "i", "row", "one", "j"] ["thing"] (defScope s_is_table) := ⟨rfl, rfl, rfl, by decide +kernel, rfl, by decide +kernel, by decide +kernel⟩
theorem sc_check_table : FnScope ["thing"] ["thing"] (defScope s_check_table) := ⟨rfl, rfl, rfl, by decide +kernel, rfl, by decide +kernel, by decide +kernel⟩
theorem sc_short_triple : FnScope ["table", "places", "i", "j", "k"] ["table"] (defScope s_short_triple) := ⟨rfl, rfl, rfl, by decide +kernel, rfl, by decide +kernel, by decide +kernel⟩
theorem sc_is_sound : FnScope ["table"] ["table"] (defScope s_is_sound) := ⟨rfl, rfl, rfl, by decide +kernel, rfl, by decide +kernel, by decide +kernel⟩
theorem sc_check_few : FnScope ["table"] ["table"] (defScope s_check_few) := ⟨rfl, rfl, rfl, by decide +kernel, rfl, by decide +kernel, by decide +kernel⟩
theorem sc_least_raise : FnScope ["table", "pairs", "triples", "rows", "told", "more", "mend", "i", "row", "j", "far", "worths", "triple", "pair", "amount", "worth"] ["table"] (defScope s_least_raise) := ⟨rfl, rfl, rfl, by decide +kernel, rfl, by decide +kernel, by decide +kernel⟩
theorem sc_least_pairs : FnScope ["table", "lot", "rows", "row", "far"] ["table"] (defScope s_least_pairs) := ⟨rfl, rfl, rfl, by decide +kernel, rfl, by decide +kernel, by decide +kernel⟩
theorem sc_needed_pairs : FnScope ["table", "lots", "pair", "lot"] ["table"] (defScope s_needed_pairs) := ⟨rfl, rfl, rfl, by decide +kernel, rfl, by decide +kernel, by decide +kernel⟩
theorem sc_all_triples : FnScope ["n", "found", "i", "j", "k"] ["n"] (defScope s_all_triples) := ⟨rfl, rfl, rfl, by decide +kernel, rfl, by decide +kernel, by decide +kernel⟩
theorem sc_lack_at : FnScope ["table", "triple", "i", "j", "k"] ["table", "triple"] (defScope s_lack_at) := ⟨rfl, rfl, rfl, by decide +kernel, rfl, by decide +kernel, by decide +kernel⟩
theorem sc_raw_short : FnScope ["table", "triple"] ["table"] (defScope s_raw_short) := ⟨rfl, rfl, rfl, by decide +kernel, rfl, by decide +kernel, by decide +kernel⟩
theorem sc_short_triples : FnScope ["table"] ["table"] (defScope s_short_triples) := ⟨rfl, rfl, rfl, by decide +kernel, rfl, by decide +kernel, by decide +kernel⟩
theorem sc_worst_triple : FnScope ["table", "some", "triple"] ["table"] (defScope s_worst_triple) := ⟨rfl, rfl, rfl, by decide +kernel, rfl, by decide +kernel, by decide +kernel⟩
theorem sc_all_lots : FnScope ["some", "found", "one", "lot", "size"] ["some"] (defScope s_all_lots) := ⟨rfl, rfl, rfl, by decide +kernel, rfl, by decide +kernel, by decide +kernel⟩
theorem sc_raw_part : FnScope ["table", "lot", "i", "j"] ["table", "lot"] (defScope s_raw_part) := ⟨rfl, rfl, rfl, by decide +kernel, rfl, by decide +kernel, by decide +kernel⟩
theorem sc_raw_sound : FnScope ["table", "lots", "lot"] ["table"] (defScope s_raw_sound) := ⟨rfl, rfl, rfl, by decide +kernel, rfl, by decide +kernel, by decide +kernel⟩
theorem sc_sound_lots : FnScope ["table", "found", "lot", "other", "place"] ["table"] (defScope s_sound_lots) := ⟨rfl, rfl, rfl, by decide +kernel, rfl, by decide +kernel, by decide +kernel⟩
theorem sc_fewest_out : FnScope ["table", "places", "lot", "rest", "place"] ["table"] (defScope s_fewest_out) := ⟨rfl, rfl, rfl, by decide +kernel, rfl, by decide +kernel, by decide +kernel⟩
theorem sc_law_hand : FnScope ["script", "cells", "cell"] ["script"] (defScope s_law_hand) := ⟨rfl, rfl, rfl, by decide +kernel, rfl, by decide +kernel, by decide +kernel⟩
theorem sc_law_draw : FnScope ["hand", "many", "cell", "figure", "number"] ["hand", "many"] (defScope s_law_draw) := ⟨rfl, rfl, rfl, by decide +kernel, rfl, by decide +kernel, by decide +kernel⟩
theorem sc_law_some : FnScope ["hand", "things"] ["hand", "things"] (defScope s_law_some) := ⟨rfl, rfl, rfl, by decide +kernel, rfl, by decide +kernel, by decide +kernel⟩
theorem sc_law_table : FnScope ["hand", "many", "most", "rows", "i", "j", "number", "place", "row"] ["hand", "many", "most"] (defScope s_law_table) := ⟨rfl, rfl, rfl, by decide +kernel, rfl, by decide +kernel, by decide +kernel⟩
theorem sc_law_closing : FnScope ["table", "rows", "many", "middle", "i", "j", "row"] ["table"] (defScope s_law_closing) := ⟨rfl, rfl, rfl, by decide +kernel, rfl, by decide +kernel, by decide +kernel⟩
theorem sc_law_lots : FnScope ["many", "found", "one", "lot", "size"] ["many"] (defScope s_law_lots) := ⟨rfl, rfl, rfl, by decide +kernel, rfl, by decide +kernel, by decide +kernel⟩
theorem sc_law_is : FnScope ["told", "due", "one", "two", "key"] ["told", "due"] (defScope s_law_is) := ⟨rfl, rfl, rfl, by decide +kernel, rfl, by decide +kernel, by decide +kernel⟩
theorem sc_law_word : FnScope ["call", "error", "some"] ["call"] (defScope s_law_word) := ⟨rfl, rfl, rfl, by decide +kernel, rfl, by decide +kernel, by decide +kernel⟩
theorem sc_law_triples : FnScope ["table", "found", "many", "i", "j", "k"] ["table"] (defScope s_law_triples) := ⟨rfl, rfl, rfl, by decide +kernel, rfl, by decide +kernel, by decide +kernel⟩
theorem sc_is_mend : FnScope ["table", "thing"] ["table", "thing"] (defScope s_is_mend) := ⟨rfl, rfl, rfl, by decide +kernel, rfl, by decide +kernel, by decide +kernel⟩
theorem sc_common : FnScope ["one", "other"] ["one", "other"] (defScope s_common) := ⟨rfl, rfl, rfl, by decide +kernel, rfl, by decide +kernel, by decide +kernel⟩
theorem sc_is_share : FnScope ["thing", "one"] ["thing"] (defScope s_is_share) := ⟨rfl, rfl, rfl, by decide +kernel, rfl, by decide +kernel, by decide +kernel⟩
theorem sc_share : FnScope ["top", "bottom", "divisor"] ["top", "bottom"] (defScope s_share) := ⟨rfl, rfl, rfl, by decide +kernel, rfl, by decide +kernel, by decide +kernel⟩
theorem sc_plus : FnScope ["one", "other"] ["one", "other"] (defScope s_plus) := ⟨rfl, rfl, rfl, by decide +kernel, rfl, by decide +kernel, by decide +kernel⟩
theorem sc_is_less : FnScope ["one", "other"] ["one", "other"] (defScope s_is_less) := ⟨rfl, rfl, rfl, by decide +kernel, rfl, by decide +kernel, by decide +kernel⟩
theorem sc_is_mend_of : FnScope ["n", "thing", "i", "row", "j", "far", "k"] ["n", "thing"] (defScope s_is_mend_of) := ⟨rfl, rfl, rfl, by decide +kernel, rfl, by decide +kernel, by decide +kernel⟩
theorem sc_check_mend : FnScope ["table", "mend"] ["table", "mend"] (defScope s_check_mend) := ⟨rfl, rfl, rfl, by decide +kernel, rfl, by decide +kernel, by decide +kernel⟩
theorem sc_off_most : FnScope ["table", "mend"] ["table", "mend"] (defScope s_off_most) := ⟨rfl, rfl, rfl, by decide +kernel, rfl, by decide +kernel, by decide +kernel⟩
theorem sc_off_sum : FnScope ["table", "mend"] ["table", "mend"] (defScope s_off_sum) := ⟨rfl, rfl, rfl, by decide +kernel, rfl, by decide +kernel, by decide +kernel⟩
theorem sc_off_pairs : FnScope ["table", "mend", "gap"] ["table", "mend"] (defScope s_off_pairs) := ⟨rfl, rfl, rfl, by decide +kernel, rfl, by decide +kernel, by decide +kernel⟩
theorem sc_nearest_mend : FnScope ["table", "t", "way"] ["table"] (defScope s_nearest_mend) := ⟨rfl, rfl, rfl, by decide +kernel, rfl, by decide +kernel, by decide +kernel⟩
theorem sc_is_nearest_mend : FnScope ["table", "thing", "n", "place"] ["table", "thing"] (defScope s_is_nearest_mend) := ⟨rfl, rfl, rfl, by decide +kernel, rfl, by decide +kernel, by decide +kernel⟩
theorem sc_is_least_raise : FnScope ["table", "thing", "i", "j"] ["table", "thing"] (defScope s_is_least_raise) := ⟨rfl, rfl, rfl, by decide +kernel, rfl, by decide +kernel, by decide +kernel⟩
theorem sc_least_cut : FnScope ["table", "mend", "row", "far"] ["table"] (defScope s_least_cut) := ⟨rfl, rfl, rfl, by decide +kernel, rfl, by decide +kernel, by decide +kernel⟩
theorem sc_is_least_pairs : FnScope ["table", "thing", "n", "lot", "i", "j", "pair"] ["table", "thing"] (defScope s_is_least_pairs) := ⟨rfl, rfl, rfl, by decide +kernel, rfl, by decide +kernel, by decide +kernel⟩
theorem sc_law_refused : FnScope ["hand", "table", "many", "bad", "no", "calls", "words", "call"] ["hand", "table"] (defScope s_law_refused) := ⟨rfl, rfl, rfl, by decide +kernel, rfl, by decide +kernel, by decide +kernel⟩
theorem sc_law : FnScope ["script", "hand", "turn", "table", "many", "some", "most", "told", "i", "j", "k", "over_v", "good", "lot", "whole", "outs", "words", "triple", "place", "other", "call"] ["script"] (defScope s_law) := ⟨rfl, rfl, rfl, by decide +kernel, rfl, by decide +kernel, by decide +kernel⟩
def clsBody (s : Stmt) : List Stmt := match s with
  | .ClassDef _ _ _ b _ _ _ _ _ _ _ => b
  | _ => []
abbrev s_ini_TooMany : Stmt := (clsBody (topS 10)).getD 0 (.Pass ⟨0, 0, 0, 0⟩)
theorem sc_ini_TooMany : FnScope ["self", "most"] ["self", "most"] (defScope s_ini_TooMany) := ⟨rfl, rfl, rfl, by decide +kernel, rfl, by decide +kernel, by decide +kernel⟩
structure Tx (K : PySem.W.Frag) (mg : Str → Option Value) where
  a_is_integer : Addr
  d_is_integer : FuncData
  F_is_integer : Fun K "is_integer" "is_integer" s_is_integer a_is_integer d_is_integer
  b_is_integer : Binds K d_is_integer ["thing"] []
  m_is_integer : mg "is_integer" = some (.ref a_is_integer)
  a_is_within : Addr
  d_is_within : FuncData
  F_is_within : Fun K "is_within" "is_within" s_is_within a_is_within d_is_within
  b_is_within : Binds K d_is_within ["thing", "low", "high"] []
  m_is_within : mg "is_within" = some (.ref a_is_within)
  a_is_sized : Addr
  d_is_sized : FuncData
  F_is_sized : Fun K "is_sized" "is_sized" s_is_sized a_is_sized d_is_sized
  b_is_sized : Binds K d_is_sized ["thing", "low", "high"] []
  m_is_sized : mg "is_sized" = some (.ref a_is_sized)
  a_is_table : Addr
  d_is_table : FuncData
  F_is_table : Fun K "is_table" "is_table" s_is_table a_is_table d_is_table
  b_is_table : Binds K d_is_table ["thing"] []
  m_is_table : mg "is_table" = some (.ref a_is_table)
  a_check_table : Addr
  d_check_table : FuncData
  F_check_table : Fun K "check_table" "check_table" s_check_table a_check_table d_check_table
  b_check_table : Binds K d_check_table ["thing"] []
  m_check_table : mg "check_table" = some (.ref a_check_table)
  a_short_triple : Addr
  d_short_triple : FuncData
  F_short_triple : Fun K "short_triple" "short_triple" s_short_triple a_short_triple d_short_triple
  b_short_triple : Binds K d_short_triple ["table"] []
  m_short_triple : mg "short_triple" = some (.ref a_short_triple)
  a_is_sound : Addr
  d_is_sound : FuncData
  F_is_sound : Fun K "is_sound" "is_sound" s_is_sound a_is_sound d_is_sound
  b_is_sound : Binds K d_is_sound ["table"] []
  m_is_sound : mg "is_sound" = some (.ref a_is_sound)
  a_check_few : Addr
  d_check_few : FuncData
  F_check_few : Fun K "check_few" "check_few" s_check_few a_check_few d_check_few
  b_check_few : Binds K d_check_few ["table"] []
  m_check_few : mg "check_few" = some (.ref a_check_few)
  a_least_raise : Addr
  d_least_raise : FuncData
  F_least_raise : Fun K "least_raise" "least_raise" s_least_raise a_least_raise d_least_raise
  b_least_raise : Binds K d_least_raise ["table"] []
  m_least_raise : mg "least_raise" = some (.ref a_least_raise)
  a_least_pairs : Addr
  d_least_pairs : FuncData
  F_least_pairs : Fun K "least_pairs" "least_pairs" s_least_pairs a_least_pairs d_least_pairs
  b_least_pairs : Binds K d_least_pairs ["table"] []
  m_least_pairs : mg "least_pairs" = some (.ref a_least_pairs)
  a_needed_pairs : Addr
  d_needed_pairs : FuncData
  F_needed_pairs : Fun K "needed_pairs" "needed_pairs" s_needed_pairs a_needed_pairs d_needed_pairs
  b_needed_pairs : Binds K d_needed_pairs ["table"] []
  m_needed_pairs : mg "needed_pairs" = some (.ref a_needed_pairs)
  a_all_triples : Addr
  d_all_triples : FuncData
  F_all_triples : Fun K "all_triples" "all_triples" s_all_triples a_all_triples d_all_triples
  b_all_triples : Binds K d_all_triples ["n"] []
  m_all_triples : mg "all_triples" = some (.ref a_all_triples)
  a_lack_at : Addr
  d_lack_at : FuncData
  F_lack_at : Fun K "lack_at" "lack_at" s_lack_at a_lack_at d_lack_at
  b_lack_at : Binds K d_lack_at ["table", "triple"] []
  m_lack_at : mg "lack_at" = some (.ref a_lack_at)
  a_raw_short : Addr
  d_raw_short : FuncData
  F_raw_short : Fun K "raw_short" "raw_short" s_raw_short a_raw_short d_raw_short
  b_raw_short : Binds K d_raw_short ["table"] []
  m_raw_short : mg "raw_short" = some (.ref a_raw_short)
  a_short_triples : Addr
  d_short_triples : FuncData
  F_short_triples : Fun K "short_triples" "short_triples" s_short_triples a_short_triples d_short_triples
  b_short_triples : Binds K d_short_triples ["table"] []
  m_short_triples : mg "short_triples" = some (.ref a_short_triples)
  a_worst_triple : Addr
  d_worst_triple : FuncData
  F_worst_triple : Fun K "worst_triple" "worst_triple" s_worst_triple a_worst_triple d_worst_triple
  b_worst_triple : Binds K d_worst_triple ["table"] []
  m_worst_triple : mg "worst_triple" = some (.ref a_worst_triple)
  a_all_lots : Addr
  d_all_lots : FuncData
  F_all_lots : Fun K "all_lots" "all_lots" s_all_lots a_all_lots d_all_lots
  b_all_lots : Binds K d_all_lots ["some"] []
  m_all_lots : mg "all_lots" = some (.ref a_all_lots)
  a_raw_part : Addr
  d_raw_part : FuncData
  F_raw_part : Fun K "raw_part" "raw_part" s_raw_part a_raw_part d_raw_part
  b_raw_part : Binds K d_raw_part ["table", "lot"] []
  m_raw_part : mg "raw_part" = some (.ref a_raw_part)
  a_raw_sound : Addr
  d_raw_sound : FuncData
  F_raw_sound : Fun K "raw_sound" "raw_sound" s_raw_sound a_raw_sound d_raw_sound
  b_raw_sound : Binds K d_raw_sound ["table"] []
  m_raw_sound : mg "raw_sound" = some (.ref a_raw_sound)
  a_sound_lots : Addr
  d_sound_lots : FuncData
  F_sound_lots : Fun K "sound_lots" "sound_lots" s_sound_lots a_sound_lots d_sound_lots
  b_sound_lots : Binds K d_sound_lots ["table"] []
  m_sound_lots : mg "sound_lots" = some (.ref a_sound_lots)
  a_fewest_out : Addr
  d_fewest_out : FuncData
  F_fewest_out : Fun K "fewest_out" "fewest_out" s_fewest_out a_fewest_out d_fewest_out
  b_fewest_out : Binds K d_fewest_out ["table"] []
  m_fewest_out : mg "fewest_out" = some (.ref a_fewest_out)
  a_law_hand : Addr
  d_law_hand : FuncData
  F_law_hand : Fun K "_law_hand" "_law_hand" s_law_hand a_law_hand d_law_hand
  b_law_hand : Binds K d_law_hand ["script"] []
  m_law_hand : mg "_law_hand" = some (.ref a_law_hand)
  a_law_draw : Addr
  d_law_draw : FuncData
  F_law_draw : Fun K "_law_draw" "_law_draw" s_law_draw a_law_draw d_law_draw
  b_law_draw : Binds K d_law_draw ["hand", "many"] []
  m_law_draw : mg "_law_draw" = some (.ref a_law_draw)
  a_law_some : Addr
  d_law_some : FuncData
  F_law_some : Fun K "_law_some" "_law_some" s_law_some a_law_some d_law_some
  b_law_some : Binds K d_law_some ["hand", "things"] []
  m_law_some : mg "_law_some" = some (.ref a_law_some)
  a_law_table : Addr
  d_law_table : FuncData
  F_law_table : Fun K "_law_table" "_law_table" s_law_table a_law_table d_law_table
  b_law_table : Binds K d_law_table ["hand", "many", "most"] []
  m_law_table : mg "_law_table" = some (.ref a_law_table)
  a_law_closing : Addr
  d_law_closing : FuncData
  F_law_closing : Fun K "_law_closing" "_law_closing" s_law_closing a_law_closing d_law_closing
  b_law_closing : Binds K d_law_closing ["table"] []
  m_law_closing : mg "_law_closing" = some (.ref a_law_closing)
  a_law_lots : Addr
  d_law_lots : FuncData
  F_law_lots : Fun K "_law_lots" "_law_lots" s_law_lots a_law_lots d_law_lots
  b_law_lots : Binds K d_law_lots ["many"] []
  m_law_lots : mg "_law_lots" = some (.ref a_law_lots)
  a_law_is : Addr
  d_law_is : FuncData
  F_law_is : Fun K "_law_is" "_law_is" s_law_is a_law_is d_law_is
  b_law_is : Binds K d_law_is ["told", "due"] []
  m_law_is : mg "_law_is" = some (.ref a_law_is)
  a_law_word : Addr
  d_law_word : FuncData
  F_law_word : Fun K "_law_word" "_law_word" s_law_word a_law_word d_law_word
  b_law_word : Binds K d_law_word ["call"] []
  m_law_word : mg "_law_word" = some (.ref a_law_word)
  a_law_triples : Addr
  d_law_triples : FuncData
  F_law_triples : Fun K "_law_triples" "_law_triples" s_law_triples a_law_triples d_law_triples
  b_law_triples : Binds K d_law_triples ["table"] []
  m_law_triples : mg "_law_triples" = some (.ref a_law_triples)
  a_is_mend : Addr
  d_is_mend : FuncData
  F_is_mend : Fun K "is_mend" "is_mend" s_is_mend a_is_mend d_is_mend
  b_is_mend : Binds K d_is_mend ["table", "thing"] []
  m_is_mend : mg "is_mend" = some (.ref a_is_mend)
  a_common : Addr
  d_common : FuncData
  F_common : Fun K "common" "common" s_common a_common d_common
  b_common : Binds K d_common ["one", "other"] []
  m_common : mg "common" = some (.ref a_common)
  a_is_share : Addr
  d_is_share : FuncData
  F_is_share : Fun K "is_share" "is_share" s_is_share a_is_share d_is_share
  b_is_share : Binds K d_is_share ["thing"] []
  m_is_share : mg "is_share" = some (.ref a_is_share)
  a_share : Addr
  d_share : FuncData
  F_share : Fun K "share" "share" s_share a_share d_share
  b_share : Binds K d_share ["top", "bottom"] []
  m_share : mg "share" = some (.ref a_share)
  a_plus : Addr
  d_plus : FuncData
  F_plus : Fun K "plus" "plus" s_plus a_plus d_plus
  b_plus : Binds K d_plus ["one", "other"] []
  m_plus : mg "plus" = some (.ref a_plus)
  a_is_less : Addr
  d_is_less : FuncData
  F_is_less : Fun K "is_less" "is_less" s_is_less a_is_less d_is_less
  b_is_less : Binds K d_is_less ["one", "other"] []
  m_is_less : mg "is_less" = some (.ref a_is_less)
  a_is_mend_of : Addr
  d_is_mend_of : FuncData
  F_is_mend_of : Fun K "is_mend_of" "is_mend_of" s_is_mend_of a_is_mend_of d_is_mend_of
  b_is_mend_of : Binds K d_is_mend_of ["n", "thing"] []
  m_is_mend_of : mg "is_mend_of" = some (.ref a_is_mend_of)
  a_check_mend : Addr
  d_check_mend : FuncData
  F_check_mend : Fun K "check_mend" "check_mend" s_check_mend a_check_mend d_check_mend
  b_check_mend : Binds K d_check_mend ["table", "mend"] []
  m_check_mend : mg "check_mend" = some (.ref a_check_mend)
  a_off_most : Addr
  d_off_most : FuncData
  F_off_most : Fun K "off_most" "off_most" s_off_most a_off_most d_off_most
  b_off_most : Binds K d_off_most ["table", "mend"] []
  m_off_most : mg "off_most" = some (.ref a_off_most)
  a_off_sum : Addr
  d_off_sum : FuncData
  F_off_sum : Fun K "off_sum" "off_sum" s_off_sum a_off_sum d_off_sum
  b_off_sum : Binds K d_off_sum ["table", "mend"] []
  m_off_sum : mg "off_sum" = some (.ref a_off_sum)
  a_off_pairs : Addr
  d_off_pairs : FuncData
  F_off_pairs : Fun K "off_pairs" "off_pairs" s_off_pairs a_off_pairs d_off_pairs
  b_off_pairs : Binds K d_off_pairs ["table", "mend"] []
  m_off_pairs : mg "off_pairs" = some (.ref a_off_pairs)
  a_nearest_mend : Addr
  d_nearest_mend : FuncData
  F_nearest_mend : Fun K "nearest_mend" "nearest_mend" s_nearest_mend a_nearest_mend d_nearest_mend
  b_nearest_mend : Binds K d_nearest_mend ["table"] []
  m_nearest_mend : mg "nearest_mend" = some (.ref a_nearest_mend)
  a_is_nearest_mend : Addr
  d_is_nearest_mend : FuncData
  F_is_nearest_mend : Fun K "is_nearest_mend" "is_nearest_mend" s_is_nearest_mend a_is_nearest_mend d_is_nearest_mend
  b_is_nearest_mend : Binds K d_is_nearest_mend ["table", "thing"] []
  m_is_nearest_mend : mg "is_nearest_mend" = some (.ref a_is_nearest_mend)
  a_is_least_raise : Addr
  d_is_least_raise : FuncData
  F_is_least_raise : Fun K "is_least_raise" "is_least_raise" s_is_least_raise a_is_least_raise d_is_least_raise
  b_is_least_raise : Binds K d_is_least_raise ["table", "thing"] []
  m_is_least_raise : mg "is_least_raise" = some (.ref a_is_least_raise)
  a_least_cut : Addr
  d_least_cut : FuncData
  F_least_cut : Fun K "least_cut" "least_cut" s_least_cut a_least_cut d_least_cut
  b_least_cut : Binds K d_least_cut ["table"] []
  m_least_cut : mg "least_cut" = some (.ref a_least_cut)
  a_is_least_pairs : Addr
  d_is_least_pairs : FuncData
  F_is_least_pairs : Fun K "is_least_pairs" "is_least_pairs" s_is_least_pairs a_is_least_pairs d_is_least_pairs
  b_is_least_pairs : Binds K d_is_least_pairs ["table", "thing"] []
  m_is_least_pairs : mg "is_least_pairs" = some (.ref a_is_least_pairs)
  a_law_refused : Addr
  d_law_refused : FuncData
  F_law_refused : Fun K "_law_refused" "_law_refused" s_law_refused a_law_refused d_law_refused
  b_law_refused : Binds K d_law_refused ["hand", "table"] []
  m_law_refused : mg "_law_refused" = some (.ref a_law_refused)
  a_law : Addr
  d_law : FuncData
  F_law : Fun K "law" "law" s_law a_law d_law
  b_law : Binds K d_law ["script"] []
  m_law : mg "law" = some (.ref a_law)
  n_fewest_out : PySem.W.nsIn K mainGlobals "fewest_out" = some (some (.ref a_fewest_out))
  n_is_least_pairs : PySem.W.nsIn K mainGlobals "is_least_pairs" = some (some (.ref a_is_least_pairs))
  n_is_least_raise : PySem.W.nsIn K mainGlobals "is_least_raise" = some (some (.ref a_is_least_raise))
  n_is_mend : PySem.W.nsIn K mainGlobals "is_mend" = some (some (.ref a_is_mend))
  n_is_nearest_mend : PySem.W.nsIn K mainGlobals "is_nearest_mend" = some (some (.ref a_is_nearest_mend))
  n_least_cut : PySem.W.nsIn K mainGlobals "least_cut" = some (some (.ref a_least_cut))
  n_least_pairs : PySem.W.nsIn K mainGlobals "least_pairs" = some (some (.ref a_least_pairs))
  n_least_raise : PySem.W.nsIn K mainGlobals "least_raise" = some (some (.ref a_least_raise))
  n_nearest_mend : PySem.W.nsIn K mainGlobals "nearest_mend" = some (some (.ref a_nearest_mend))
  n_needed_pairs : PySem.W.nsIn K mainGlobals "needed_pairs" = some (some (.ref a_needed_pairs))
  n_off_most : PySem.W.nsIn K mainGlobals "off_most" = some (some (.ref a_off_most))
  n_off_pairs : PySem.W.nsIn K mainGlobals "off_pairs" = some (some (.ref a_off_pairs))
  n_off_sum : PySem.W.nsIn K mainGlobals "off_sum" = some (some (.ref a_off_sum))
  n_short_triples : PySem.W.nsIn K mainGlobals "short_triples" = some (some (.ref a_short_triples))
  n_sound_lots : PySem.W.nsIn K mainGlobals "sound_lots" = some (some (.ref a_sound_lots))
  n_worst_triple : PySem.W.nsIn K mainGlobals "worst_triple" = some (some (.ref a_worst_triple))
  z_abs : mg "abs" = none
  z_all : mg "all" = none
  z_any : mg "any" = none
  z_bool : mg "bool" = none
  z_dict : mg "dict" = none
  z_enumerate : mg "enumerate" = none
  z_int : mg "int" = none
  z_isinstance : mg "isinstance" = none
  z_len : mg "len" = none
  z_list : mg "list" = none
  z_min : mg "min" = none
  z_range : mg "range" = none
  z_sorted : mg "sorted" = none
  z_str : mg "str" = none
  z_tuple : mg "tuple" = none
  z_zip : mg "zip" = none
  e_FarError : Addr
  e_NoMend : Addr
  e_NoTable : Addr
  e_TooMany : Addr
  g_FarError : mg "FarError" = some (.ref e_FarError)
  g_NoMend : mg "NoMend" = some (.ref e_NoMend)
  g_NoTable : mg "NoTable" = some (.ref e_NoTable)
  g_TooMany : mg "TooMany" = some (.ref e_TooMany)
  o_NoMend : OwnE K mg "NoMend" e_NoMend
  c_NoMend : ExcC K e_NoMend
  x_NoMend : PySem.W.exmOne K (.ref e_NoMend) (.ref e_FarError) = some true
  k_NoMend_NoMend : PySem.W.kitOne K (.ref e_NoMend) (.ref e_NoMend) = some true
  k_NoMend_NoTable : PySem.W.kitOne K (.ref e_NoMend) (.ref e_NoTable) = some false
  k_NoMend_TooMany : PySem.W.kitOne K (.ref e_NoMend) (.ref e_TooMany) = some false
  o_NoTable : OwnE K mg "NoTable" e_NoTable
  c_NoTable : ExcC K e_NoTable
  x_NoTable : PySem.W.exmOne K (.ref e_NoTable) (.ref e_FarError) = some true
  k_NoTable_NoMend : PySem.W.kitOne K (.ref e_NoTable) (.ref e_NoMend) = some false
  k_NoTable_NoTable : PySem.W.kitOne K (.ref e_NoTable) (.ref e_NoTable) = some true
  k_NoTable_TooMany : PySem.W.kitOne K (.ref e_NoTable) (.ref e_TooMany) = some false
  a_ini_TooMany : Addr
  d_ini_TooMany : FuncData
  F_ini_TooMany : Fun K "__init__" "TooMany.__init__" s_ini_TooMany a_ini_TooMany d_ini_TooMany
  b_ini_TooMany : Binds K d_ini_TooMany ["self", "most"] []
  i_TooMany : OwnI K mg "TooMany" "most" e_TooMany a_ini_TooMany
  c_TooMany : ExcC K e_TooMany
  x_TooMany : PySem.W.exmOne K (.ref e_TooMany) (.ref e_FarError) = some true
  k_TooMany_NoMend : PySem.W.kitOne K (.ref e_TooMany) (.ref e_NoMend) = some false
  k_TooMany_NoTable : PySem.W.kitOne K (.ref e_TooMany) (.ref e_NoTable) = some false
  k_TooMany_TooMany : PySem.W.kitOne K (.ref e_TooMany) (.ref e_TooMany) = some true
  c_MOST_FAR : ∃ t, mg "MOST_FAR" = some (.int 1000 t)
  c_MOST_PLACES : ∃ t, mg "MOST_PLACES" = some (.int 7 t)
  c_MOST_RAISED : ∃ t, mg "MOST_RAISED" = some (.int 5 t)
  c_ZERO : ∃ q, mg "ZERO" = some (.ref q) ∧ TupK K q [0, 1]
def suiteOf (st : Stmt) : List Stmt := ((defBody st).filterMap fun s => match s with | .Try _ hs _ _ _ => (match hs with | .ExceptHandler _ _ b _ :: _ => some b | _ => none) | _ => none).headD []
theorem hu100 {A : Around} {k : Nat} (hr : Room k A) : A.units + 100 < cLine := by have := hr.un; omega
theorem hu65 {A : Around} {k : Nat} (hr : Room k A) : A.units + 65 < cLine := by have := hr.un; omega
section
variable {P : Program} {w : World} {K : PySem.W.Frag} {mg : Str → Option Value} {base : Heap} {T : List (Addr × Str)}
theorem ok_ini_TooMany (t : Tx K mg) : FnOk P w K mg base (L2.CX P w) 1 t.a_ini_TooMany t.d_ini_TooMany ["self", "most"] (spI K t.e_TooMany "most") :=
  init_ok (k := 0) t.i_TooMany t.F_ini_TooMany sc_ini_TooMany rfl fun cdv A outer s H E =>
    pss_one (ps_ost (pe_var (i := 0) rfl (Or.inl rfl)) (pe_var (i := 1) rfl (Or.inl rfl)))
theorem ok_is_integer (t : Tx K mg) : FnOk P w K mg base (L2.CX P w) 1 t.a_is_integer t.d_is_integer ["thing"] (spD ⟨K, T, mg⟩ 1 F_is_integer) :=
  def_fin (k := 0) t.F_is_integer sc_is_integer fun cdv A outer s H E hr =>
    (qs_one (ps_retD (pe_andD (pd_isI (t := .int) rfl t.z_isinstance rfl t.z_int (by decide +kernel) (pvD 0)) (pe_oneD (pe_notD (pd_isI (t := .bool) rfl t.z_isinstance rfl t.z_bool (by decide +kernel) (pvD 0)))))))
theorem ok_is_within (t : Tx K mg) : FnOk P w K mg base (L2.CX P w) 2 t.a_is_within t.d_is_within ["thing", "low", "high"] (spD ⟨K, T, mg⟩ 3 F_is_within) :=
  def_fin (k := 1) t.F_is_within sc_is_within fun cdv A outer s H E hr =>
    (qs_one (ps_retD (pe_andD (pd_call (ok_is_integer t) (takes_of rfl rfl rfl rfl) (hr.mono (by decide)) rfl t.m_is_integer t.F_is_integer.kp t.b_is_integer (pa_consD (pvD 0) pa_nilD)) (pe_oneD (pe_chainD op_le op_le does_cmp does_cmp (pvD 1) (pvD 0) (pvD 2))))))
theorem ok_is_sized (t : Tx K mg) : FnOk P w K mg base (L2.CX P w) 1 t.a_is_sized t.d_is_sized ["thing", "low", "high"] (spD ⟨K, T, mg⟩ 3 F_is_sized) :=
  def_fin (k := 0) t.F_is_sized sc_is_sized fun cdv A outer s H E hr =>
    (qs_one (ps_retD (pe_andD (pd_isI (t := .tuple) rfl t.z_isinstance rfl t.z_tuple (by decide +kernel) (pvD 0)) (pe_oneD (pe_chainD op_le op_le does_cmp does_cmp (pvD 1) (pd_callB call_len_seq does_len rfl t.z_len boot_len (pa_consD (pvD 0) pa_nilD)) (pvD 2))))))
theorem ok_is_table (t : Tx K mg) : FnOk P w K mg base (L2.CX P w) 3 t.a_is_table t.d_is_table ["thing"] (spD ⟨K, T, mg⟩ 1 F_is_table) :=
  def_fin (k := 2) t.F_is_table sc_is_table fun cdv A outer s H E hr =>
    (qs_cons (ps_ifD (pt_pw (pw_orD (pt_notD (pt_tru (pd_call (ok_is_sized t) (takes_of rfl rfl rfl rfl) (hr.mono (by decide)) rfl t.m_is_sized t.F_is_sized.kp t.b_is_sized (pa_consD (pvD 0) (pa_consD pd_int (pa_consD (pd_gint rfl t.c_MOST_PLACES) pa_nilD)))))) (pw_orD1 (pt_notD (pt_tru (pd_callB (cr_all rfl) does_all rfl t.z_all boot_all (pa_consD (pd_lc (own := [("row", 2)]) false rfl sc_is_table.nd (pi_seqD (pvD 0)) (blkOk_by (N := ["thing", "i", "row", "one", "j"]) (sc := (defScope s_is_table)) (own := [("row", 2)]) (by decide +kernel)) (tg_name _ 2) (by decide) (fun _ _ _ _ _ => (pg_name (i := 2) sc_is_table.nd rfl (by first | exact .inl rfl | exact .inr rfl))) (fun _ _ _ _ _ => pts_nilD) (fun _ _ _ _ _ => (pd_call (ok_is_sized t) takes0 (hr.mono (by decide)) rfl t.m_is_sized t.F_is_sized.kp t.b_is_sized (pa_consD (pvD 2) (pa_consD (pd_callB call_len_seq does_len rfl t.z_len boot_len (pa_consD (pvD 0) pa_nilD)) (pa_consD (pd_callB call_len_seq does_len rfl t.z_len boot_len (pa_consD (pvD 0) pa_nilD)) pa_nilD)))))) pa_nilD))))))) (qs_one (ps_retD pd_bl)) qs_nil)
    (qs_cons (ps_forD (passes_of rfl) rfl (tg_two (tg_name _ 1) (tg_name _ 2)) (pi_enumD rfl t.z_enumerate (pa_consD (pvD 0) pa_nilD)) (pg_tup rfl (pgs_cons (pg_name (i := 1) sc_is_table.nd rfl (by first | exact .inl rfl | exact .inr rfl)) (pgs_cons (pg_name (i := 2) sc_is_table.nd rfl (by first | exact .inl rfl | exact .inr rfl)) pgs_nil)))
    (qs_cons (ps_ifD (pt_notD (pt_tru (pd_callB (cr_all rfl) does_all rfl t.z_all boot_all (pa_consD (pd_lc (own := [("one", 3)]) false rfl sc_is_table.nd (pi_seqD (pvD 2)) (blkOk_by (N := ["thing", "i", "row", "one", "j"]) (sc := (defScope s_is_table)) (own := [("one", 3)]) (by decide +kernel)) (tg_name _ 3) (by decide) (fun _ _ _ _ _ => (pg_name (i := 3) sc_is_table.nd rfl (by first | exact .inl rfl | exact .inr rfl))) (fun _ _ _ _ _ => pts_nilD) (fun _ _ _ _ _ => (pd_call (ok_is_within t) takes0 (hr.mono (by decide)) rfl t.m_is_within t.F_is_within.kp t.b_is_within (pa_consD (pvD 3) (pa_consD pd_int (pa_consD (pd_gint rfl t.c_MOST_FAR) pa_nilD)))))) pa_nilD)))) (qs_one (ps_retD pd_bl)) qs_nil)
    (qs_one (ps_ifD (pt_tru (pd_callB (cr_any rfl) does_any rfl t.z_any boot_any (pa_consD (pd_lc (own := [("j", 4), ("one", 3)]) false rfl sc_is_table.nd (pi_enumD rfl t.z_enumerate (pa_consD (pvD 2) pa_nilD)) (blkOk_by (N := ["thing", "i", "row", "one", "j"]) (sc := (defScope s_is_table)) (own := [("j", 4), ("one", 3)]) (by decide +kernel)) (tg_two (tg_name _ 4) (tg_name _ 3)) (by decide) (fun _ _ _ _ _ => (pg_tup rfl (pgs_cons (pg_name (i := 4) sc_is_table.nd rfl (by first | exact .inl rfl | exact .inr rfl)) (pgs_cons (pg_name (i := 3) sc_is_table.nd rfl (by first | exact .inl rfl | exact .inr rfl)) pgs_nil)))) (fun _ _ _ _ _ => pts_nilD) (fun _ _ _ _ _ => (pd_cmp (op_neD hr.units) does_ne (pd_cmp (op_eqD hr.units) does_eq (pvD 3) pd_int (nomark _)) (pd_cmp (op_eqD hr.units) does_eq (pvD 1) (pvD 4) (nomark _)) (nomark _)))) pa_nilD))) (qs_one (ps_retD pd_bl)) qs_nil))))
    (qs_one (ps_retD (pd_callB (cr_all rfl) does_all rfl t.z_all boot_all (pa_consD (pd_lc (own := [("i", 1), ("row", 2)]) false rfl sc_is_table.nd (pi_enumD rfl t.z_enumerate (pa_consD (pvD 0) pa_nilD)) (blkOk_by (N := ["thing", "i", "row", "one", "j"]) (sc := (defScope s_is_table)) (own := [("i", 1), ("row", 2)]) (by decide +kernel)) (tg_two (tg_name _ 1) (tg_name _ 2)) (by decide) (fun _ _ _ _ _ => (pg_tup rfl (pgs_cons (pg_name (i := 1) sc_is_table.nd rfl (by first | exact .inl rfl | exact .inr rfl)) (pgs_cons (pg_name (i := 2) sc_is_table.nd rfl (by first | exact .inl rfl | exact .inr rfl)) pgs_nil)))) (fun _ _ _ _ _ => pts_nilD) (fun _ _ _ _ _ => (pd_callB (cr_all rfl) does_all rfl t.z_all boot_all (pa_consD (pd_lcN (own := [("j", 4)]) false rfl sc_is_table.nd (pi_rangeD1 rfl t.z_range (pa_consD (pvD 1) pa_nilD)) (blkOk_by (N := ["thing", "i", "row", "one", "j"]) (own := [("j", 4)]) (by decide +kernel)) (tg_name _ 4) (by decide) (fun _ _ _ _ _ => (pg_name (i := 4) sc_is_table.nd rfl (by first | exact .inl rfl | exact .inr rfl))) (fun _ _ _ _ _ => pts_nilD) (fun _ _ _ _ _ => (pd_cmp (op_eqD hr.units) does_eq (pd_ix (pvD 2) (pvD 4)) (pd_ix (pd_ix (pvD 0) (pvD 4)) (pvD 1)) (nomark _)))) pa_nilD)))) pa_nilD))))))
theorem ok_check_table (t : Tx K mg) : FnOk P w K mg base (L2.CX P w) 4 t.a_check_table t.d_check_table ["thing"] (spD ⟨K, T, mg⟩ 1 F_check_table) :=
  def_fin (k := 3) t.F_check_table sc_check_table fun cdv A outer s H E hr =>
    (qs_one (ps_ifD (pt_notD (pt_tru (pd_call (ok_is_table t) (takes_of rfl rfl rfl rfl) (hr.mono (by decide)) rfl t.m_is_table t.F_is_table.kp t.b_is_table (pa_consD (pvD 0) pa_nilD)))) (qs_one (ps_raiseD t.o_NoTable rfl (takes_of rfl rfl rfl rfl) rfl)) qs_nil))
theorem ok_short_triple (t : Tx K mg) : FnOk P w K mg base (L2.CX P w) 1 t.a_short_triple t.d_short_triple ["table"] (spD ⟨K, T, mg⟩ 1 F_short_triple) :=
  def_fin (k := 0) t.F_short_triple sc_short_triple fun cdv A outer s H E hr =>
    (qs_cons (ps_setD (i := 1) sc_short_triple.nd rfl (by first | exact .inl rfl | exact .inr rfl) (pd_listR1 false rfl rfl t.z_list rfl t.z_range (pd_callB call_len_seq does_len rfl t.z_len boot_len (pa_consD (pvD 0) pa_nilD))))
    (qs_cons (ps_forD (passes_of rfl) rfl (tg_name _ 2) (pi_seqD (pvD 1)) (pg_name (i := 2) sc_short_triple.nd rfl (by first | exact .inl rfl | exact .inr rfl))
    (qs_one (ps_forD (passes_of rfl) rfl (tg_name _ 3) (pi_seqD (pvD 1)) (pg_name (i := 3) sc_short_triple.nd rfl (by first | exact .inl rfl | exact .inr rfl))
    (qs_one (ps_forD (passes_of rfl) rfl (tg_name _ 4) (pi_seqD (pvD 1)) (pg_name (i := 4) sc_short_triple.nd rfl (by first | exact .inl rfl | exact .inr rfl))
    (qs_one (ps_ifD (pt_pw (pw_andD (pt_cmpD (or_notIn (hu65 hr)) does_notIn (pvD 3) (pd_tup (pa_consD (pvD 2) (pa_consD (pvD 4) pa_nilD))) (by with_unfolding_all rfl)) (pw_andD (pt_cmpD op_lt does_cmp (pvD 2) (pvD 4) (nomark _)) (pw_andD1 (pt_cmpD op_gt does_cmp (pd_ix (pd_ix (pvD 0) (pvD 2)) (pvD 4)) (pd_add (pd_ix (pd_ix (pvD 0) (pvD 2)) (pvD 3)) (pd_ix (pd_ix (pvD 0) (pvD 3)) (pvD 4))) (nomark _)))))) (qs_one (ps_retD (pd_tup (pa_consD (pvD 2) (pa_consD (pvD 3) (pa_consD (pvD 4) pa_nilD)))))) qs_nil)))))))
    (qs_one (ps_retD pd_non))))
theorem ok_is_sound (t : Tx K mg) : FnOk P w K mg base (L2.CX P w) 5 t.a_is_sound t.d_is_sound ["table"] (spD ⟨K, T, mg⟩ 1 F_is_sound) :=
  def_fin (k := 4) t.F_is_sound sc_is_sound fun cdv A outer s H E hr =>
    (qs_cons (ps_exprD (pd_call (ok_check_table t) (takes_of rfl rfl rfl rfl) (hr.mono (by decide)) rfl t.m_check_table t.F_check_table.kp t.b_check_table (pa_consD (pvD 0) pa_nilD)))
    (qs_one (ps_retD (pd_cmp op_isN does_isN (pd_call (ok_short_triple t) (takes_of rfl rfl rfl rfl) (hr.mono (by decide)) rfl t.m_short_triple t.F_short_triple.kp t.b_short_triple (pa_consD (pvD 0) pa_nilD)) pd_non (nomark _)))))
theorem ok_check_few (t : Tx K mg) : FnOk P w K mg base (L2.CX P w) 5 t.a_check_few t.d_check_few ["table"] (spD ⟨K, T, mg⟩ 1 F_check_few) :=
  def_fin (k := 4) t.F_check_few sc_check_few fun cdv A outer s H E hr =>
    (qs_cons (ps_exprD (pd_call (ok_check_table t) (takes_of rfl rfl rfl rfl) (hr.mono (by decide)) rfl t.m_check_table t.F_check_table.kp t.b_check_table (pa_consD (pvD 0) pa_nilD)))
    (qs_one (ps_ifD (pt_cmpD op_gt does_cmp (pd_callB call_len_seq does_len rfl t.z_len boot_len (pa_consD (pvD 0) pa_nilD)) (pd_gint rfl t.c_MOST_RAISED) (nomark _)) (qs_one (ps_raiseI t.i_TooMany (ok_ini_TooMany t) t.b_ini_TooMany (hr.mono (by decide)) rfl (takes_of rfl rfl rfl rfl) rfl (pd_gint rfl t.c_MOST_RAISED))) qs_nil)))
theorem ok_least_raise (t : Tx K mg) : FnOk P w K mg base (L2.CX P w) 6 t.a_least_raise t.d_least_raise ["table"] (spD ⟨K, T, mg⟩ 1 F_least_raise) :=
  def_fin (k := 5) t.F_least_raise sc_least_raise fun cdv A outer s H E hr =>
    (qs_cons (ps_exprD (pd_call (ok_check_few t) (takes_of rfl rfl rfl rfl) (hr.mono (by decide)) rfl t.m_check_few t.F_check_few.kp t.b_check_few (pa_consD (pvD 0) pa_nilD))) (qs_cons ps_neverD (qs_cons ps_neverD (qs_cons ps_neverD (qs_cons ps_neverD (qs_cons ps_neverD (qs_cons ps_neverD (qs_cons ps_neverD (qs_one ps_neverD)))))))))
theorem ok_least_pairs (t : Tx K mg) : FnOk P w K mg base (L2.CX P w) 6 t.a_least_pairs t.d_least_pairs ["table"] (spD ⟨K, T, mg⟩ 1 F_least_pairs) :=
  def_fin (k := 5) t.F_least_pairs sc_least_pairs fun cdv A outer s H E hr =>
    (qs_cons (ps_exprD (pd_call (ok_check_few t) (takes_of rfl rfl rfl rfl) (hr.mono (by decide)) rfl t.m_check_few t.F_check_few.kp t.b_check_few (pa_consD (pvD 0) pa_nilD))) (qs_cons ps_neverD (qs_cons ps_neverD (qs_one ps_neverD))))
theorem ok_needed_pairs (t : Tx K mg) : FnOk P w K mg base (L2.CX P w) 6 t.a_needed_pairs t.d_needed_pairs ["table"] (spD ⟨K, T, mg⟩ 1 F_needed_pairs) :=
  def_fin (k := 5) t.F_needed_pairs sc_needed_pairs fun cdv A outer s H E hr =>
    (qs_cons (ps_exprD (pd_call (ok_check_few t) (takes_of rfl rfl rfl rfl) (hr.mono (by decide)) rfl t.m_check_few t.F_check_few.kp t.b_check_few (pa_consD (pvD 0) pa_nilD))) (qs_cons ps_neverD (qs_one ps_neverD)))
theorem ok_all_triples (t : Tx K mg) : FnOk P w K mg base (L2.CX P w) 1 t.a_all_triples t.d_all_triples ["n"] (spD ⟨K, T, mg⟩ 1 F_all_triples) :=
  def_fin (k := 0) t.F_all_triples sc_all_triples fun cdv A outer s H E hr =>
    (qs_cons (ps_setD (i := 1) sc_all_triples.nd rfl (by first | exact .inl rfl | exact .inr rfl) (pd_lst true pa_nilD))
    (qs_cons (ps_forD (passes_of rfl) rfl (tg_name _ 2) (pi_rangeD1 rfl t.z_range (pa_consD (pvD 0) pa_nilD)) (pg_name (i := 2) sc_all_triples.nd rfl (by first | exact .inl rfl | exact .inr rfl))
    (qs_one (ps_forD (passes_of rfl) rfl (tg_name _ 3) (pi_rangeD1 rfl t.z_range (pa_consD (pvD 0) pa_nilD)) (pg_name (i := 3) sc_all_triples.nd rfl (by first | exact .inl rfl | exact .inr rfl))
    (qs_one (ps_exprD (pd_extend (pvD 1) (pd_lc (own := [("k", 4)]) false rfl sc_all_triples.nd (pi_rangeD2 rfl t.z_range (pa_consD (pd_add (pvD 2) pd_int) (pa_consD (pvD 0) pa_nilD))) (blkOk_by (N := ["n", "found", "i", "j", "k"]) (sc := (defScope s_all_triples)) (own := [("k", 4)]) (by decide +kernel)) (tg_name _ 4) (by decide) (fun _ _ _ _ _ => (pg_name (i := 4) sc_all_triples.nd rfl (by first | exact .inl rfl | exact .inr rfl))) (fun _ _ _ _ _ => (pts_oneD (pt_cmpD (or_notIn (hu65 hr)) does_notIn (pvD 3) (pd_tup (pa_consD (pvD 2) (pa_consD (pvD 4) pa_nilD))) (by with_unfolding_all rfl)))) (fun _ _ _ _ _ => (pd_tup (pa_consD (pvD 2) (pa_consD (pvD 3) (pa_consD (pvD 4) pa_nilD))))))))))))
    (qs_one (ps_retD (pvD 1)))))
theorem ok_lack_at (t : Tx K mg) : FnOk P w K mg base (L2.CX P w) 1 t.a_lack_at t.d_lack_at ["table", "triple"] (spD ⟨K, T, mg⟩ 2 F_lack_at) :=
  def_fin (k := 0) t.F_lack_at sc_lack_at fun cdv A outer s H E hr =>
    (qs_cons (ps_asgD (tg_three (tg_name _ 2) (tg_name _ 3) (tg_name _ 4)) (pvD 1) (pg_tup rfl (pgs_cons (pg_name (i := 2) sc_lack_at.nd rfl (by first | exact .inl rfl | exact .inr rfl)) (pgs_cons (pg_name (i := 3) sc_lack_at.nd rfl (by first | exact .inl rfl | exact .inr rfl)) (pgs_cons (pg_name (i := 4) sc_lack_at.nd rfl (by first | exact .inl rfl | exact .inr rfl)) pgs_nil)))))
    (qs_one (ps_retD (pd_sub (pd_sub (pd_ix (pd_ix (pvD 0) (pvD 2)) (pvD 4)) (pd_ix (pd_ix (pvD 0) (pvD 2)) (pvD 3))) (pd_ix (pd_ix (pvD 0) (pvD 3)) (pvD 4))))))
theorem ok_raw_short (t : Tx K mg) : FnOk P w K mg base (L2.CX P w) 2 t.a_raw_short t.d_raw_short ["table"] (spD ⟨K, T, mg⟩ 1 F_raw_short) :=
  def_fin (k := 1) t.F_raw_short sc_raw_short fun cdv A outer s H E hr =>
    (qs_one (ps_retD (pd_lc (own := [("triple", 1)]) false rfl sc_raw_short.nd (pi_seqD (pd_call (ok_all_triples t) (takes_of rfl rfl rfl rfl) (hr.mono (by decide)) rfl t.m_all_triples t.F_all_triples.kp t.b_all_triples (pa_consD (pd_callB call_len_seq does_len rfl t.z_len boot_len (pa_consD (pvD 0) pa_nilD)) pa_nilD))) (blkOk_by (N := ["table", "triple"]) (sc := (defScope s_raw_short)) (own := [("triple", 1)]) (by decide +kernel)) (tg_name _ 1) (by decide) (fun _ _ _ _ _ => (pg_name (i := 1) sc_raw_short.nd rfl (by first | exact .inl rfl | exact .inr rfl))) (fun _ _ _ _ _ => (pts_oneD (pt_cmpD op_gt does_cmp (pd_call (ok_lack_at t) takes0 (hr.mono (by decide)) rfl t.m_lack_at t.F_lack_at.kp t.b_lack_at (pa_consD (pvD 0) (pa_consD (pvD 1) pa_nilD))) pd_int (nomark _)))) (fun _ _ _ _ _ => (pvD 1)))))
theorem ok_short_triples (t : Tx K mg) : FnOk P w K mg base (L2.CX P w) 5 t.a_short_triples t.d_short_triples ["table"] (spD ⟨K, T, mg⟩ 1 F_short_triples) :=
  def_fin (k := 4) t.F_short_triples sc_short_triples fun cdv A outer s H E hr =>
    (qs_cons (ps_exprD (pd_call (ok_check_table t) (takes_of rfl rfl rfl rfl) (hr.mono (by decide)) rfl t.m_check_table t.F_check_table.kp t.b_check_table (pa_consD (pvD 0) pa_nilD)))
    (qs_one (ps_retD (pd_callT call_tuple_ofN does_tuple rfl t.z_tuple boot_tuple (pa_consD (pd_callB (cr_sortedD (hu65 hr)) (does_sorted false) rfl t.z_sorted boot_sorted (pa_consD (pd_call (ok_raw_short t) (takes_of rfl rfl rfl rfl) (hr.mono (by decide)) rfl t.m_raw_short t.F_raw_short.kp t.b_raw_short (pa_consD (pvD 0) pa_nilD)) pa_nilD)) pa_nilD)))))
theorem ok_worst_triple (t : Tx K mg) : FnOk P w K mg base (L2.CX P w) 5 t.a_worst_triple t.d_worst_triple ["table"] (spD ⟨K, T, mg⟩ 1 F_worst_triple) :=
  def_fin (k := 4) t.F_worst_triple sc_worst_triple fun cdv A outer s H E hr =>
    (qs_cons (ps_exprD (pd_call (ok_check_table t) (takes_of rfl rfl rfl rfl) (hr.mono (by decide)) rfl t.m_check_table t.F_check_table.kp t.b_check_table (pa_consD (pvD 0) pa_nilD)))
    (qs_cons (ps_setLcD (own := [("triple", 2)]) (i := 1) false rfl sc_worst_triple.nd rfl rfl (sw_true rfl rfl rfl (by decide +kernel)) (pi_seqD (pd_call (ok_raw_short t) (takes_of rfl rfl rfl rfl) (hr.mono (by decide)) rfl t.m_raw_short t.F_raw_short.kp t.b_raw_short (pa_consD (pvD 0) pa_nilD))) (blkOk_by (N := ["table", "some", "triple"]) (sc := (defScope s_worst_triple)) (own := [("triple", 2)]) (by decide +kernel)) (tg_name _ 2) (by decide) (fun _ _ _ _ _ => (pg_name (i := 2) sc_worst_triple.nd rfl (by first | exact .inl rfl | exact .inr rfl))) (fun _ _ _ _ _ => pts_nilD) (fun _ _ _ _ _ => (pd_tup (pa_consD (pd_sub pd_int (pd_call (ok_lack_at t) takes0 (hr.mono (by decide)) rfl t.m_lack_at t.F_lack_at.kp t.b_lack_at (pa_consD (pvD 0) (pa_consD (pvD 2) pa_nilD)))) (pa_consD (pvD 2) pa_nilD)))))
    (qs_one (ps_retD (pe_ifD (pt_tru (pvD 1)) (pd_tup (pa_consD (pd_sub pd_int (pd_ix (pd_callB (cr_minP rfl (hu65 hr)) (does_bestP _) rfl t.z_min boot_min (pa_consD (pvD 1) pa_nilD)) pd_int)) (pa_consD (pd_ix (pd_callB (cr_minP rfl (hu65 hr)) (does_bestP _) rfl t.z_min boot_min (pa_consD (pvD 1) pa_nilD)) pd_int) pa_nilD))) (pd_tup (pa_consD pd_int (pa_consD pd_non pa_nilD))))))))
theorem ok_all_lots (t : Tx K mg) : FnOk P w K mg base (L2.CX P w) 1 t.a_all_lots t.d_all_lots ["some"] (spD ⟨K, T, mg⟩ 1 F_all_lots) :=
  def_fin (k := 0) t.F_all_lots sc_all_lots fun cdv A outer s H E hr =>
    (qs_cons (ps_setD (i := 1) sc_all_lots.nd rfl (by first | exact .inl rfl | exact .inr rfl) (pd_lst false (pa_consD (pd_tup pa_nilD) pa_nilD)))
    (qs_cons (ps_forD (passes_of rfl) rfl (tg_name _ 2) (pi_seqD (pvD 0)) (pg_name (i := 2) sc_all_lots.nd rfl (by first | exact .inl rfl | exact .inr rfl))
    (qs_one (ps_setD (i := 1) sc_all_lots.nd rfl (by first | exact .inl rfl | exact .inr rfl) (pd_add (pvD 1) (pd_lc (own := [("lot", 3)]) false rfl sc_all_lots.nd (pi_seqD (pvD 1)) (blkOk_by (N := ["some", "found", "one", "lot", "size"]) (sc := (defScope s_all_lots)) (own := [("lot", 3)]) (by decide +kernel)) (tg_name _ 3) (by decide) (fun _ _ _ _ _ => (pg_name (i := 3) sc_all_lots.nd rfl (by first | exact .inl rfl | exact .inr rfl))) (fun _ _ _ _ _ => pts_nilD) (fun _ _ _ _ _ => (pd_add (pvD 3) (pd_tup (pa_consD (pvD 2) pa_nilD)))))))))
    (qs_one (ps_retD (pd_lc (own := [("size", 4), ("lot", 3)]) false rfl sc_all_lots.nd (pi_seqD (pd_callB (cr_sortedD (hu65 hr)) (does_sorted false) rfl t.z_sorted boot_sorted (pa_consD (pd_lc (own := [("lot", 3)]) false rfl sc_all_lots.nd (pi_seqD (pvD 1)) (blkOk_by (N := ["some", "found", "one", "lot", "size"]) (sc := (defScope s_all_lots)) (own := [("lot", 3)]) (by decide +kernel)) (tg_name _ 3) (by decide) (fun _ _ _ _ _ => (pg_name (i := 3) sc_all_lots.nd rfl (by first | exact .inl rfl | exact .inr rfl))) (fun _ _ _ _ _ => pts_nilD) (fun _ _ _ _ _ => (pd_tup (pa_consD (pd_callB call_len_seq does_len rfl t.z_len boot_len (pa_consD (pvD 3) pa_nilD)) (pa_consD (pvD 3) pa_nilD))))) pa_nilD))) (blkOk_by (N := ["some", "found", "one", "lot", "size"]) (sc := (defScope s_all_lots)) (own := [("size", 4), ("lot", 3)]) (by decide +kernel)) (tg_two (tg_name _ 4) (tg_name _ 3)) (by decide) (fun _ _ _ _ _ => (pg_tup rfl (pgs_cons (pg_name (i := 4) sc_all_lots.nd rfl (by first | exact .inl rfl | exact .inr rfl)) (pgs_cons (pg_name (i := 3) sc_all_lots.nd rfl (by first | exact .inl rfl | exact .inr rfl)) pgs_nil)))) (fun _ _ _ _ _ => pts_nilD) (fun _ _ _ _ _ => (pvD 3)))))))
theorem ok_raw_part (t : Tx K mg) : FnOk P w K mg base (L2.CX P w) 1 t.a_raw_part t.d_raw_part ["table", "lot"] (spD ⟨K, T, mg⟩ 2 F_raw_part) :=
  def_fin (k := 0) t.F_raw_part sc_raw_part fun cdv A outer s H E hr =>
    (qs_one (ps_retD (pd_callT call_tuple_ofN does_tuple rfl t.z_tuple boot_tuple (pa_consD (pd_lc (own := [("i", 2)]) false rfl sc_raw_part.nd (pi_seqD (pvD 1)) (blkOk_by (N := ["table", "lot", "i", "j"]) (sc := (defScope s_raw_part)) (own := [("i", 2)]) (by decide +kernel)) (tg_name _ 2) (by decide) (fun _ _ _ _ _ => (pg_name (i := 2) sc_raw_part.nd rfl (by first | exact .inl rfl | exact .inr rfl))) (fun _ _ _ _ _ => pts_nilD) (fun _ _ _ _ _ => (pd_callT call_tuple_ofN does_tuple rfl t.z_tuple boot_tuple (pa_consD (pd_lcN (own := [("j", 3)]) false rfl sc_raw_part.nd (pi_seqD (pvD 1)) (blkOk_by (N := ["table", "lot", "i", "j"]) (own := [("j", 3)]) (by decide +kernel)) (tg_name _ 3) (by decide) (fun _ _ _ _ _ => (pg_name (i := 3) sc_raw_part.nd rfl (by first | exact .inl rfl | exact .inr rfl))) (fun _ _ _ _ _ => pts_nilD) (fun _ _ _ _ _ => (pd_ix (pd_ix (pvD 0) (pvD 2)) (pvD 3)))) pa_nilD)))) pa_nilD))))
theorem ok_raw_sound (t : Tx K mg) : FnOk P w K mg base (L2.CX P w) 2 t.a_raw_sound t.d_raw_sound ["table"] (spD ⟨K, T, mg⟩ 1 F_raw_sound) :=
  def_fin (k := 1) t.F_raw_sound sc_raw_sound fun cdv A outer s H E hr =>
    (qs_cons (ps_setD (i := 1) sc_raw_sound.nd rfl (by first | exact .inl rfl | exact .inr rfl) (pd_slice false (pd_call (ok_all_lots t) (takes_of rfl rfl rfl rfl) (hr.mono (by decide)) rfl t.m_all_lots t.F_all_lots.kp t.b_all_lots (pa_consD (pd_listR1 false rfl rfl t.z_list rfl t.z_range (pd_callB call_len_seq does_len rfl t.z_len boot_len (pa_consD (pvD 0) pa_nilD))) pa_nilD)) (po_someD pd_int) po_noneD))
    (qs_one (ps_retD (pd_lc (own := [("lot", 2)]) false rfl sc_raw_sound.nd (pi_seqD (pvD 1)) (blkOk_by (N := ["table", "lots", "lot"]) (sc := (defScope s_raw_sound)) (own := [("lot", 2)]) (by decide +kernel)) (tg_name _ 2) (by decide) (fun _ _ _ _ _ => (pg_name (i := 2) sc_raw_sound.nd rfl (by first | exact .inl rfl | exact .inr rfl))) (fun _ _ _ _ _ => (pts_oneD (pt_cmpD op_isN does_isN (pd_call (ok_short_triple t) takes0 (hr.mono (by decide)) rfl t.m_short_triple t.F_short_triple.kp t.b_short_triple (pa_consD (pd_call (ok_raw_part t) takes0 (hr.mono (by decide)) rfl t.m_raw_part t.F_raw_part.kp t.b_raw_part (pa_consD (pvD 0) (pa_consD (pvD 2) pa_nilD))) pa_nilD)) pd_non (nomark _)))) (fun _ _ _ _ _ => (pvD 2))))))
theorem ok_sound_lots (t : Tx K mg) : FnOk P w K mg base (L2.CX P w) 5 t.a_sound_lots t.d_sound_lots ["table"] (spD ⟨K, T, mg⟩ 1 F_sound_lots) :=
  def_fin (k := 4) t.F_sound_lots sc_sound_lots fun cdv A outer s H E hr =>
    (qs_cons (ps_exprD (pd_call (ok_check_table t) (takes_of rfl rfl rfl rfl) (hr.mono (by decide)) rfl t.m_check_table t.F_check_table.kp t.b_check_table (pa_consD (pvD 0) pa_nilD)))
    (qs_cons (ps_setD (i := 1) sc_sound_lots.nd rfl (by first | exact .inl rfl | exact .inr rfl) (pd_lst true pa_nilD))
    (qs_cons (ps_forD (passes_of rfl) rfl (tg_name _ 2) (pi_seqD (pd_rev false (pd_call (ok_raw_sound t) (takes_of rfl rfl rfl rfl) (hr.mono (by decide)) rfl t.m_raw_sound t.F_raw_sound.kp t.b_raw_sound (pa_consD (pvD 0) pa_nilD)))) (pg_name (i := 2) sc_sound_lots.nd rfl (by first | exact .inl rfl | exact .inr rfl))
    (qs_one (ps_ifD (pt_notD (pt_tru (pd_callB (cr_any rfl) does_any rfl t.z_any boot_any (pa_consD (pd_lc (own := [("other", 3)]) false rfl sc_sound_lots.nd (pi_seqD (pvD 1)) (blkOk_by (N := ["table", "found", "lot", "other", "place"]) (sc := (defScope s_sound_lots)) (own := [("other", 3)]) (by decide +kernel)) (tg_name _ 3) (by decide) (fun _ _ _ _ _ => (pg_name (i := 3) sc_sound_lots.nd rfl (by first | exact .inl rfl | exact .inr rfl))) (fun _ _ _ _ _ => pts_nilD) (fun _ _ _ _ _ => (pd_callB (cr_all rfl) does_all rfl t.z_all boot_all (pa_consD (pd_lcN (own := [("place", 4)]) false rfl sc_sound_lots.nd (pi_seqD (pvD 2)) (blkOk_by (N := ["table", "found", "lot", "other", "place"]) (own := [("place", 4)]) (by decide +kernel)) (tg_name _ 4) (by decide) (fun _ _ _ _ _ => (pg_name (i := 4) sc_sound_lots.nd rfl (by first | exact .inl rfl | exact .inr rfl))) (fun _ _ _ _ _ => pts_nilD) (fun _ _ _ _ _ => (pd_cmp (or_in (hu65 hr)) does_in (pvD 4) (pvD 3) (by with_unfolding_all rfl)))) pa_nilD)))) pa_nilD)))) (qs_one (ps_exprD (pd_append (pvD 1) (pvD 2)))) qs_nil)))
    (qs_one (ps_retD (pd_callT call_tuple_ofN does_tuple rfl t.z_tuple boot_tuple (pa_consD (pd_callB (cr_sortedD (hu65 hr)) (does_sorted false) rfl t.z_sorted boot_sorted (pa_consD (pvD 1) pa_nilD)) pa_nilD)))))))
theorem ok_fewest_out (t : Tx K mg) : FnOk P w K mg base (L2.CX P w) 5 t.a_fewest_out t.d_fewest_out ["table"] (spD ⟨K, T, mg⟩ 1 F_fewest_out) :=
  def_fin (k := 4) t.F_fewest_out sc_fewest_out fun cdv A outer s H E hr =>
    (qs_cons (ps_exprD (pd_call (ok_check_table t) (takes_of rfl rfl rfl rfl) (hr.mono (by decide)) rfl t.m_check_table t.F_check_table.kp t.b_check_table (pa_consD (pvD 0) pa_nilD)))
    (qs_cons (ps_setD (i := 1) sc_fewest_out.nd rfl (by first | exact .inl rfl | exact .inr rfl) (pd_listR1 false rfl rfl t.z_list rfl t.z_range (pd_callB call_len_seq does_len rfl t.z_len boot_len (pa_consD (pvD 0) pa_nilD))))
    (qs_cons (ps_forD (passes_of rfl) rfl (tg_name _ 2) (pi_seqD (pd_call (ok_all_lots t) (takes_of rfl rfl rfl rfl) (hr.mono (by decide)) rfl t.m_all_lots t.F_all_lots.kp t.b_all_lots (pa_consD (pvD 1) pa_nilD))) (pg_name (i := 2) sc_fewest_out.nd rfl (by first | exact .inl rfl | exact .inr rfl))
    (qs_cons (ps_setLcD (own := [("place", 4)]) (i := 3) false rfl sc_fewest_out.nd rfl rfl (sw_true rfl rfl rfl (by decide +kernel)) (pi_seqD (pvD 1)) (blkOk_by (N := ["table", "places", "lot", "rest", "place"]) (sc := (defScope s_fewest_out)) (own := [("place", 4)]) (by decide +kernel)) (tg_name _ 4) (by decide) (fun _ _ _ _ _ => (pg_name (i := 4) sc_fewest_out.nd rfl (by first | exact .inl rfl | exact .inr rfl))) (fun _ _ _ _ _ => (pts_oneD (pt_cmpD (or_notIn (hu65 hr)) does_notIn (pvD 4) (pvD 2) (by with_unfolding_all rfl)))) (fun _ _ _ _ _ => (pvD 4)))
    (qs_one (ps_ifD (pt_pw (pw_andD (pt_tru (pvD 3)) (pw_andD1 (pt_cmpD op_isN does_isN (pd_call (ok_short_triple t) (takes_of rfl rfl rfl rfl) (hr.mono (by decide)) rfl t.m_short_triple t.F_short_triple.kp t.b_short_triple (pa_consD (pd_call (ok_raw_part t) (takes_of rfl rfl rfl rfl) (hr.mono (by decide)) rfl t.m_raw_part t.F_raw_part.kp t.b_raw_part (pa_consD (pvD 0) (pa_consD (pvD 3) pa_nilD))) pa_nilD)) pd_non (nomark _))))) (qs_one (ps_retD (pd_tup (pa_consD (pd_callB call_len_seq does_len rfl t.z_len boot_len (pa_consD (pvD 2) pa_nilD)) (pa_consD (pvD 2) pa_nilD))))) qs_nil))))
    (qs_one (ps_retD pd_non)))))
theorem ok_law_hand (t : Tx K mg) : FnOk P w K mg base (L2.CX P w) 1 t.a_law_hand t.d_law_hand ["script"] (spD ⟨K, T, mg⟩ 1 F_law_hand) :=
  def_raw (k := 0) t.F_law_hand sc_law_hand fun cdv A outer s H E hr =>
    (qs_cons (ps_setLcD (own := [("cell", 2)]) (i := 1) false rfl sc_law_hand.nd rfl rfl (sw_true rfl rfl rfl (by decide +kernel)) (pi_seqD (pd_slice false (pvD 0) po_noneD (po_someD pd_int))) (blkOk_by (N := ["script", "cells", "cell"]) (sc := (defScope s_law_hand)) (own := [("cell", 2)]) (by decide +kernel)) (tg_name _ 2) (by decide) (fun _ _ _ _ _ => (pg_name (i := 2) sc_law_hand.nd rfl (by first | exact .inl rfl | exact .inr rfl))) (fun _ _ _ _ _ => pts_nilD) (fun _ _ _ _ _ => (pd_callB call_abs does_abs rfl t.z_abs boot_abs (pa_consD (pd_callT call_int1 does_int rfl t.z_int boot_int (pa_consD (pvD 2) pa_nilD)) pa_nilD))))
    (qs_one (ps_retD (pd_lst true (pa_consD (pvD 1) (pa_consD pd_int (pa_consD pd_int (pa_consD (pd_add pd_int (pd_mul pd_int (pd_callB call_len_seq does_len rfl t.z_len boot_len (pa_consD (pvD 1) pa_nilD)))) (pa_consD pd_int pa_nilD)))))))))
theorem ok_law_draw (t : Tx K mg) : FnOk P w K mg base (L2.CX P w) 1 t.a_law_draw t.d_law_draw ["hand", "many"] (spD ⟨K, T, mg⟩ 2 F_law_draw) :=
  def_fin (k := 0) t.F_law_draw sc_law_draw fun cdv A outer s H E hr =>
    (qs_cons (ps_ifD (pt_pw (pw_andD (pt_cmpD (op_eqD hr.units) does_eq (pd_ix (pvD 0) pd_int) pd_int (nomark _)) (pw_andD1 (pt_cmpD op_lt does_cmp (pd_ix (pvD 0) pd_int) (pd_callB call_len_seq does_len rfl t.z_len boot_len (pa_consD (pd_ix (pvD 0) pd_int) pa_nilD)) (nomark _))))) (qs_cons (ps_setD (i := 2) sc_law_draw.nd rfl (by first | exact .inl rfl | exact .inr rfl) (pd_ix (pd_ix (pvD 0) pd_int) (pd_ix (pvD 0) pd_int)))
    (qs_cons (ps_setIxD (pvD 0) pd_int (pd_add (pd_ix (pvD 0) pd_int) pd_int))
    (qs_cons (ps_setIxD (pvD 0) pd_int (pd_mod (pd_callT call_int1 does_int rfl t.z_int boot_int (pa_consD (pd_add (pd_add (pd_mul (pd_ix (pvD 0) pd_int) pd_int) (pvD 2)) pd_int) pa_nilD)) pd_int))
    (qs_one (ps_ifD (pt_cmpD op_ge does_cmp (pvD 2) (pd_pow pd_int pd_int) (nomark _)) (qs_one (ps_setIxD (pvD 0) pd_int (pvD 2))) qs_nil))))) qs_nil)
    (qs_cons (ps_ifD (pt_cmpD op_gt does_cmp (pd_ix (pvD 0) pd_int) pd_int (nomark _)) (qs_cons (ps_setD (i := 3) sc_law_draw.nd rfl (by first | exact .inl rfl | exact .inr rfl) (pd_mod (pd_callT call_int1 does_int rfl t.z_int boot_int (pa_consD (pd_ix (pvD 0) pd_int) pa_nilD)) (pvD 1)))
    (qs_cons (ps_setIxD (pvD 0) pd_int (pd_div (pd_ix (pvD 0) pd_int) (pvD 1)))
    (qs_one (ps_retD (pvD 3))))) qs_nil)
    (qs_cons (ps_setIxD (pvD 0) pd_int (pd_add (pd_ix (pvD 0) pd_int) pd_int))
    (qs_cons (ps_setD (i := 4) sc_law_draw.nd rfl (by first | exact .inl rfl | exact .inr rfl) (pd_mod (pd_callT call_int1 does_int rfl t.z_int boot_int (pa_consD (pd_mul (pd_callT call_int1 does_int rfl t.z_int boot_int (pa_consD (pd_add (pd_ix (pvD 0) pd_int) (pd_mul pd_int (pd_ix (pvD 0) pd_int))) pa_nilD)) pd_int) pa_nilD)) pd_int))
    (qs_cons (ps_setD (i := 4) sc_law_draw.nd rfl (by first | exact .inl rfl | exact .inr rfl) (pd_mod (pd_callT call_int1 does_int rfl t.z_int boot_int (pa_consD (pd_mul (pvD 4) (pd_add (pd_div (pvD 4) pd_int) pd_int)) pa_nilD)) pd_int))
    (qs_cons (ps_setD (i := 4) sc_law_draw.nd rfl (by first | exact .inl rfl | exact .inr rfl) (pd_mod (pd_callT call_int1 does_int rfl t.z_int boot_int (pa_consD (pd_mul (pvD 4) (pd_add (pd_div (pvD 4) pd_int) pd_int)) pa_nilD)) pd_int))
    (qs_one (ps_retD (pd_mod (pd_callT call_int1 does_int rfl t.z_int boot_int (pa_consD (pd_div (pvD 4) pd_int) pa_nilD)) (pvD 1))))))))))
theorem ok_law_some (t : Tx K mg) : FnOk P w K mg base (L2.CX P w) 2 t.a_law_some t.d_law_some ["hand", "things"] (spD ⟨K, T, mg⟩ 2 F_law_some) :=
  def_fin (k := 1) t.F_law_some sc_law_some fun cdv A outer s H E hr =>
    (qs_one (ps_retD (pd_ix (pvD 1) (pd_call (ok_law_draw t) (takes_of rfl rfl rfl rfl) (hr.mono (by decide)) rfl t.m_law_draw t.F_law_draw.kp t.b_law_draw (pa_consD (pvD 0) (pa_consD (pd_callB call_len_seq does_len rfl t.z_len boot_len (pa_consD (pvD 1) pa_nilD)) pa_nilD))))))
theorem ok_law_table (t : Tx K mg) : FnOk P w K mg base (L2.CX P w) 2 t.a_law_table t.d_law_table ["hand", "many", "most"] (spD ⟨K, T, mg⟩ 3 F_law_table) :=
  def_fin (k := 1) t.F_law_table sc_law_table fun cdv A outer s H E hr =>
    (qs_cons (ps_setLcD (own := [("place", 7)]) (i := 3) false rfl sc_law_table.nd rfl rfl (sw_true rfl rfl rfl (by decide +kernel)) (pi_rangeD1 rfl t.z_range (pa_consD (pvD 1) pa_nilD)) (blkOk_by (N := ["hand", "many", "most", "rows", "i", "j", "number", "place", "row"]) (sc := (defScope s_law_table)) (own := [("place", 7)]) (by decide +kernel)) (tg_name _ 7) (by decide) (fun _ _ _ _ _ => (pg_name (i := 7) sc_law_table.nd rfl (by first | exact .inl rfl | exact .inr rfl))) (fun _ _ _ _ _ => pts_nilD) (fun _ _ _ _ _ => (pd_rep true (pd_lst false (pa_consD pd_int pa_nilD)) (pvD 1))))
    (qs_cons (ps_forD (passes_of rfl) rfl (tg_name _ 4) (pi_rangeD1 rfl t.z_range (pa_consD (pvD 1) pa_nilD)) (pg_name (i := 4) sc_law_table.nd rfl (by first | exact .inl rfl | exact .inr rfl))
    (qs_one (ps_forD (passes_of rfl) rfl (tg_name _ 5) (pi_rangeD2 rfl t.z_range (pa_consD (pd_add (pvD 4) pd_int) (pa_consD (pvD 1) pa_nilD))) (pg_name (i := 5) sc_law_table.nd rfl (by first | exact .inl rfl | exact .inr rfl))
    (qs_cons (ps_setD (i := 6) sc_law_table.nd rfl (by first | exact .inl rfl | exact .inr rfl) (pd_add pd_int (pd_call (ok_law_draw t) (takes_of rfl rfl rfl rfl) (hr.mono (by decide)) rfl t.m_law_draw t.F_law_draw.kp t.b_law_draw (pa_consD (pvD 0) (pa_consD (pvD 2) pa_nilD)))))
    (qs_one (ps_asgS (u_two u_sub u_sub) (pd_tup (pa_consD (pvD 6) (pa_consD (pvD 6) pa_nilD))) (pg_tup rfl (pgs_cons (pg_subD (pd_ix (pvD 3) (pvD 4)) (pvD 5)) (pgs_cons (pg_subD (pd_ix (pvD 3) (pvD 5)) (pvD 4)) pgs_nil)))))))))
    (qs_one (ps_retD (pd_callT call_tuple_ofN does_tuple rfl t.z_tuple boot_tuple (pa_consD (pd_lc (own := [("row", 8)]) false rfl sc_law_table.nd (pi_seqD (pvD 3)) (blkOk_by (N := ["hand", "many", "most", "rows", "i", "j", "number", "place", "row"]) (sc := (defScope s_law_table)) (own := [("row", 8)]) (by decide +kernel)) (tg_name _ 8) (by decide) (fun _ _ _ _ _ => (pg_name (i := 8) sc_law_table.nd rfl (by first | exact .inl rfl | exact .inr rfl))) (fun _ _ _ _ _ => pts_nilD) (fun _ _ _ _ _ => (pd_callT call_tuple_ofN does_tuple rfl t.z_tuple boot_tuple (pa_consD (pvD 8) pa_nilD)))) pa_nilD))))))
theorem ok_law_closing (t : Tx K mg) : FnOk P w K mg base (L2.CX P w) 1 t.a_law_closing t.d_law_closing ["table"] (spD ⟨K, T, mg⟩ 1 F_law_closing) :=
  def_fin (k := 0) t.F_law_closing sc_law_closing fun cdv A outer s H E hr =>
    (qs_cons (ps_setLcD (own := [("row", 6)]) (i := 1) false rfl sc_law_closing.nd rfl rfl (sw_true rfl rfl rfl (by decide +kernel)) (pi_seqD (pvD 0)) (blkOk_by (N := ["table", "rows", "many", "middle", "i", "j", "row"]) (sc := (defScope s_law_closing)) (own := [("row", 6)]) (by decide +kernel)) (tg_name _ 6) (by decide) (fun _ _ _ _ _ => (pg_name (i := 6) sc_law_closing.nd rfl (by first | exact .inl rfl | exact .inr rfl))) (fun _ _ _ _ _ => pts_nilD) (fun _ _ _ _ _ => (pd_callT call_list_of (does_list true) rfl t.z_list boot_list (pa_consD (pvD 6) pa_nilD))))
    (qs_cons (ps_setD (i := 2) sc_law_closing.nd rfl (by first | exact .inl rfl | exact .inr rfl) (pd_callB call_len_seq does_len rfl t.z_len boot_len (pa_consD (pvD 1) pa_nilD)))
    (qs_cons (ps_forD (passes_of rfl) rfl (tg_name _ 3) (pi_rangeD1 rfl t.z_range (pa_consD (pvD 2) pa_nilD)) (pg_name (i := 3) sc_law_closing.nd rfl (by first | exact .inl rfl | exact .inr rfl))
    (qs_one (ps_forD (passes_of rfl) rfl (tg_name _ 4) (pi_rangeD1 rfl t.z_range (pa_consD (pvD 2) pa_nilD)) (pg_name (i := 4) sc_law_closing.nd rfl (by first | exact .inl rfl | exact .inr rfl))
    (qs_one (ps_forD (passes_of rfl) rfl (tg_name _ 5) (pi_rangeD1 rfl t.z_range (pa_consD (pvD 2) pa_nilD)) (pg_name (i := 5) sc_law_closing.nd rfl (by first | exact .inl rfl | exact .inr rfl))
    (qs_one (ps_setIxD (pd_ix (pvD 1) (pvD 4)) (pvD 5) (pd_callB (call_min2 rfl) does_min2 rfl t.z_min boot_min (pa_consD (pd_ix (pd_ix (pvD 1) (pvD 4)) (pvD 5)) (pa_consD (pd_add (pd_ix (pd_ix (pvD 1) (pvD 4)) (pvD 3)) (pd_ix (pd_ix (pvD 1) (pvD 3)) (pvD 5))) pa_nilD))))))))))
    (qs_one (ps_retD (pd_callT call_tuple_ofN does_tuple rfl t.z_tuple boot_tuple (pa_consD (pd_lc (own := [("row", 6)]) false rfl sc_law_closing.nd (pi_seqD (pvD 1)) (blkOk_by (N := ["table", "rows", "many", "middle", "i", "j", "row"]) (sc := (defScope s_law_closing)) (own := [("row", 6)]) (by decide +kernel)) (tg_name _ 6) (by decide) (fun _ _ _ _ _ => (pg_name (i := 6) sc_law_closing.nd rfl (by first | exact .inl rfl | exact .inr rfl))) (fun _ _ _ _ _ => pts_nilD) (fun _ _ _ _ _ => (pd_callT call_tuple_ofN does_tuple rfl t.z_tuple boot_tuple (pa_consD (pvD 6) pa_nilD)))) pa_nilD)))))))
theorem ok_law_lots (t : Tx K mg) : FnOk P w K mg base (L2.CX P w) 1 t.a_law_lots t.d_law_lots ["many"] (spD ⟨K, T, mg⟩ 1 F_law_lots) :=
  def_fin (k := 0) t.F_law_lots sc_law_lots fun cdv A outer s H E hr =>
    (qs_cons (ps_setD (i := 1) sc_law_lots.nd rfl (by first | exact .inl rfl | exact .inr rfl) (pd_lst false (pa_consD (pd_tup pa_nilD) pa_nilD)))
    (qs_cons (ps_forD (passes_of rfl) rfl (tg_name _ 2) (pi_rangeD1 rfl t.z_range (pa_consD (pvD 0) pa_nilD)) (pg_name (i := 2) sc_law_lots.nd rfl (by first | exact .inl rfl | exact .inr rfl))
    (qs_one (ps_setD (i := 1) sc_law_lots.nd rfl (by first | exact .inl rfl | exact .inr rfl) (pd_add (pvD 1) (pd_lc (own := [("lot", 3)]) false rfl sc_law_lots.nd (pi_seqD (pvD 1)) (blkOk_by (N := ["many", "found", "one", "lot", "size"]) (sc := (defScope s_law_lots)) (own := [("lot", 3)]) (by decide +kernel)) (tg_name _ 3) (by decide) (fun _ _ _ _ _ => (pg_name (i := 3) sc_law_lots.nd rfl (by first | exact .inl rfl | exact .inr rfl))) (fun _ _ _ _ _ => pts_nilD) (fun _ _ _ _ _ => (pd_add (pvD 3) (pd_tup (pa_consD (pvD 2) pa_nilD)))))))))
    (qs_one (ps_retD (pd_lc (own := [("size", 4), ("lot", 3)]) false rfl sc_law_lots.nd (pi_seqD (pd_callB (cr_sortedD (hu65 hr)) (does_sorted false) rfl t.z_sorted boot_sorted (pa_consD (pd_lc (own := [("lot", 3)]) false rfl sc_law_lots.nd (pi_seqD (pvD 1)) (blkOk_by (N := ["many", "found", "one", "lot", "size"]) (sc := (defScope s_law_lots)) (own := [("lot", 3)]) (by decide +kernel)) (tg_name _ 3) (by decide) (fun _ _ _ _ _ => (pg_name (i := 3) sc_law_lots.nd rfl (by first | exact .inl rfl | exact .inr rfl))) (fun _ _ _ _ _ => pts_nilD) (fun _ _ _ _ _ => (pd_tup (pa_consD (pd_callB call_len_seq does_len rfl t.z_len boot_len (pa_consD (pvD 3) pa_nilD)) (pa_consD (pvD 3) pa_nilD))))) pa_nilD))) (blkOk_by (N := ["many", "found", "one", "lot", "size"]) (sc := (defScope s_law_lots)) (own := [("size", 4), ("lot", 3)]) (by decide +kernel)) (tg_two (tg_name _ 4) (tg_name _ 3)) (by decide) (fun _ _ _ _ _ => (pg_tup rfl (pgs_cons (pg_name (i := 4) sc_law_lots.nd rfl (by first | exact .inl rfl | exact .inr rfl)) (pgs_cons (pg_name (i := 3) sc_law_lots.nd rfl (by first | exact .inl rfl | exact .inr rfl)) pgs_nil)))) (fun _ _ _ _ _ => pts_nilD) (fun _ _ _ _ _ => (pvD 3)))))))
theorem ok_law_is_0 (t : Tx K mg) : FnOk P w K mg base (L2.CX P w) 0 t.a_law_is t.d_law_is ["told", "due"] (spD ⟨K, T, mg⟩ 2 F_law_is_0) := fn_none
theorem ok_law_is_1 (t : Tx K mg) : FnOk P w K mg base (L2.CX P w) 1 t.a_law_is t.d_law_is ["told", "due"] (spD ⟨K, T, mg⟩ 2 F_law_is_1) :=
  def_fin (k := 0) t.F_law_is sc_law_is fun cdv A outer s H E hr =>
    (qs_cons (ps_ifD (pt_tru (pd_isT (t := .tuple) (u := .list) rfl t.z_isinstance rfl t.z_tuple (by decide +kernel) rfl t.z_list (by decide +kernel) (pvD 1))) (qs_cons (ps_ifD (pt_pw (pw_orD (pt_cmpD (op_neD hr.units) does_ne (pd_isI (t := .tuple) rfl t.z_isinstance rfl t.z_tuple (by decide +kernel) (pvD 0)) (pd_isI (t := .tuple) rfl t.z_isinstance rfl t.z_tuple (by decide +kernel) (pvD 1)) (nomark _)) (pw_orD1 (pt_notD (pt_tru (pd_isT (t := .tuple) (u := .list) rfl t.z_isinstance rfl t.z_tuple (by decide +kernel) rfl t.z_list (by decide +kernel) (pvD 0))))))) (qs_one (ps_retD pd_bl)) qs_nil)
    (qs_one (ps_retD (pe_andD (pd_cmp (op_eqD hr.units) does_eq (pd_callB call_len_seq does_len rfl t.z_len boot_len (pa_consD (pvD 0) pa_nilD)) (pd_callB call_len_seq does_len rfl t.z_len boot_len (pa_consD (pvD 1) pa_nilD)) (nomark _)) (pe_oneD (pd_callB (cr_all rfl) does_all rfl t.z_all boot_all (pa_consD (pd_lc (own := [("one", 2), ("two", 3)]) false rfl sc_law_is.nd (pi_zipD rfl t.z_zip (pa_consD (pvD 0) (pa_consD (pvD 1) pa_nilD))) (blkOk_by (N := ["told", "due", "one", "two", "key"]) (sc := (defScope s_law_is)) (own := [("one", 2), ("two", 3)]) (by decide +kernel)) (tg_two (tg_name _ 2) (tg_name _ 3)) (by decide) (fun _ _ _ _ _ => (pg_tup rfl (pgs_cons (pg_name (i := 2) sc_law_is.nd rfl (by first | exact .inl rfl | exact .inr rfl)) (pgs_cons (pg_name (i := 3) sc_law_is.nd rfl (by first | exact .inl rfl | exact .inr rfl)) pgs_nil)))) (fun _ _ _ _ _ => pts_nilD) (fun _ _ _ _ _ => (pd_call (ok_law_is_0 t) takes0 (hr.mono (by decide)) rfl t.m_law_is t.F_law_is.kp t.b_law_is (pa_consD (pvD 2) (pa_consD (pvD 3) pa_nilD))))) pa_nilD))))))) qs_nil)
    (qs_cons (ps_ifD (pt_tru (pd_isI (t := .dict) rfl t.z_isinstance rfl t.z_dict (by decide +kernel) (pvD 1))) (qs_cons ps_neverD (qs_one ps_neverD)) qs_nil)
    (qs_cons (ps_ifD (pt_pw (pw_orD (pt_tru (pd_isI (t := .str) rfl t.z_isinstance rfl t.z_str (by decide +kernel) (pvD 1))) (pw_orD1 (pt_cmpD op_isN does_isN (pvD 1) pd_non (nomark _))))) (qs_one (ps_retD (pe_andD (pd_cmp (op_eqD hr.units) does_eq (pd_isI (t := .str) rfl t.z_isinstance rfl t.z_str (by decide +kernel) (pvD 0)) (pd_isI (t := .str) rfl t.z_isinstance rfl t.z_str (by decide +kernel) (pvD 1)) (nomark _)) (pe_oneD (pd_cmp (op_eqD hr.units) does_eq (pvD 0) (pvD 1) (nomark _)))))) qs_nil)
    (qs_one (ps_retD (pe_andD (pd_isI (t := .int) rfl t.z_isinstance rfl t.z_int (by decide +kernel) (pvD 0)) (pe_andD (pd_cmp (op_eqD hr.units) does_eq (pd_isI (t := .bool) rfl t.z_isinstance rfl t.z_bool (by decide +kernel) (pvD 0)) (pd_isI (t := .bool) rfl t.z_isinstance rfl t.z_bool (by decide +kernel) (pvD 1)) (nomark _)) (pe_oneD (pd_cmp (op_eqD hr.units) does_eq (pvD 0) (pvD 1) (nomark _))))))))))
theorem ok_law_is_2 (t : Tx K mg) : FnOk P w K mg base (L2.CX P w) 2 t.a_law_is t.d_law_is ["told", "due"] (spD ⟨K, T, mg⟩ 2 F_law_is_2) :=
  def_fin (k := 1) t.F_law_is sc_law_is fun cdv A outer s H E hr =>
    (qs_cons (ps_ifD (pt_tru (pd_isT (t := .tuple) (u := .list) rfl t.z_isinstance rfl t.z_tuple (by decide +kernel) rfl t.z_list (by decide +kernel) (pvD 1))) (qs_cons (ps_ifD (pt_pw (pw_orD (pt_cmpD (op_neD hr.units) does_ne (pd_isI (t := .tuple) rfl t.z_isinstance rfl t.z_tuple (by decide +kernel) (pvD 0)) (pd_isI (t := .tuple) rfl t.z_isinstance rfl t.z_tuple (by decide +kernel) (pvD 1)) (nomark _)) (pw_orD1 (pt_notD (pt_tru (pd_isT (t := .tuple) (u := .list) rfl t.z_isinstance rfl t.z_tuple (by decide +kernel) rfl t.z_list (by decide +kernel) (pvD 0))))))) (qs_one (ps_retD pd_bl)) qs_nil)
    (qs_one (ps_retD (pe_andD (pd_cmp (op_eqD hr.units) does_eq (pd_callB call_len_seq does_len rfl t.z_len boot_len (pa_consD (pvD 0) pa_nilD)) (pd_callB call_len_seq does_len rfl t.z_len boot_len (pa_consD (pvD 1) pa_nilD)) (nomark _)) (pe_oneD (pd_callB (cr_all rfl) does_all rfl t.z_all boot_all (pa_consD (pd_lc (own := [("one", 2), ("two", 3)]) false rfl sc_law_is.nd (pi_zipD rfl t.z_zip (pa_consD (pvD 0) (pa_consD (pvD 1) pa_nilD))) (blkOk_by (N := ["told", "due", "one", "two", "key"]) (sc := (defScope s_law_is)) (own := [("one", 2), ("two", 3)]) (by decide +kernel)) (tg_two (tg_name _ 2) (tg_name _ 3)) (by decide) (fun _ _ _ _ _ => (pg_tup rfl (pgs_cons (pg_name (i := 2) sc_law_is.nd rfl (by first | exact .inl rfl | exact .inr rfl)) (pgs_cons (pg_name (i := 3) sc_law_is.nd rfl (by first | exact .inl rfl | exact .inr rfl)) pgs_nil)))) (fun _ _ _ _ _ => pts_nilD) (fun _ _ _ _ _ => (pd_call (ok_law_is_1 t) takes0 (hr.mono (by decide)) rfl t.m_law_is t.F_law_is.kp t.b_law_is (pa_consD (pvD 2) (pa_consD (pvD 3) pa_nilD))))) pa_nilD))))))) qs_nil)
    (qs_cons (ps_ifD (pt_tru (pd_isI (t := .dict) rfl t.z_isinstance rfl t.z_dict (by decide +kernel) (pvD 1))) (qs_cons ps_neverD (qs_one ps_neverD)) qs_nil)
    (qs_cons (ps_ifD (pt_pw (pw_orD (pt_tru (pd_isI (t := .str) rfl t.z_isinstance rfl t.z_str (by decide +kernel) (pvD 1))) (pw_orD1 (pt_cmpD op_isN does_isN (pvD 1) pd_non (nomark _))))) (qs_one (ps_retD (pe_andD (pd_cmp (op_eqD hr.units) does_eq (pd_isI (t := .str) rfl t.z_isinstance rfl t.z_str (by decide +kernel) (pvD 0)) (pd_isI (t := .str) rfl t.z_isinstance rfl t.z_str (by decide +kernel) (pvD 1)) (nomark _)) (pe_oneD (pd_cmp (op_eqD hr.units) does_eq (pvD 0) (pvD 1) (nomark _)))))) qs_nil)
    (qs_one (ps_retD (pe_andD (pd_isI (t := .int) rfl t.z_isinstance rfl t.z_int (by decide +kernel) (pvD 0)) (pe_andD (pd_cmp (op_eqD hr.units) does_eq (pd_isI (t := .bool) rfl t.z_isinstance rfl t.z_bool (by decide +kernel) (pvD 0)) (pd_isI (t := .bool) rfl t.z_isinstance rfl t.z_bool (by decide +kernel) (pvD 1)) (nomark _)) (pe_oneD (pd_cmp (op_eqD hr.units) does_eq (pvD 0) (pvD 1) (nomark _))))))))))
theorem ok_law_is_3 (t : Tx K mg) : FnOk P w K mg base (L2.CX P w) 3 t.a_law_is t.d_law_is ["told", "due"] (spD ⟨K, T, mg⟩ 2 F_law_is_3) :=
  def_fin (k := 2) t.F_law_is sc_law_is fun cdv A outer s H E hr =>
    (qs_cons (ps_ifD (pt_tru (pd_isT (t := .tuple) (u := .list) rfl t.z_isinstance rfl t.z_tuple (by decide +kernel) rfl t.z_list (by decide +kernel) (pvD 1))) (qs_cons (ps_ifD (pt_pw (pw_orD (pt_cmpD (op_neD hr.units) does_ne (pd_isI (t := .tuple) rfl t.z_isinstance rfl t.z_tuple (by decide +kernel) (pvD 0)) (pd_isI (t := .tuple) rfl t.z_isinstance rfl t.z_tuple (by decide +kernel) (pvD 1)) (nomark _)) (pw_orD1 (pt_notD (pt_tru (pd_isT (t := .tuple) (u := .list) rfl t.z_isinstance rfl t.z_tuple (by decide +kernel) rfl t.z_list (by decide +kernel) (pvD 0))))))) (qs_one (ps_retD pd_bl)) qs_nil)
    (qs_one (ps_retD (pe_andD (pd_cmp (op_eqD hr.units) does_eq (pd_callB call_len_seq does_len rfl t.z_len boot_len (pa_consD (pvD 0) pa_nilD)) (pd_callB call_len_seq does_len rfl t.z_len boot_len (pa_consD (pvD 1) pa_nilD)) (nomark _)) (pe_oneD (pd_callB (cr_all rfl) does_all rfl t.z_all boot_all (pa_consD (pd_lc (own := [("one", 2), ("two", 3)]) false rfl sc_law_is.nd (pi_zipD rfl t.z_zip (pa_consD (pvD 0) (pa_consD (pvD 1) pa_nilD))) (blkOk_by (N := ["told", "due", "one", "two", "key"]) (sc := (defScope s_law_is)) (own := [("one", 2), ("two", 3)]) (by decide +kernel)) (tg_two (tg_name _ 2) (tg_name _ 3)) (by decide) (fun _ _ _ _ _ => (pg_tup rfl (pgs_cons (pg_name (i := 2) sc_law_is.nd rfl (by first | exact .inl rfl | exact .inr rfl)) (pgs_cons (pg_name (i := 3) sc_law_is.nd rfl (by first | exact .inl rfl | exact .inr rfl)) pgs_nil)))) (fun _ _ _ _ _ => pts_nilD) (fun _ _ _ _ _ => (pd_call (ok_law_is_2 t) takes0 (hr.mono (by decide)) rfl t.m_law_is t.F_law_is.kp t.b_law_is (pa_consD (pvD 2) (pa_consD (pvD 3) pa_nilD))))) pa_nilD))))))) qs_nil)
    (qs_cons (ps_ifD (pt_tru (pd_isI (t := .dict) rfl t.z_isinstance rfl t.z_dict (by decide +kernel) (pvD 1))) (qs_cons ps_neverD (qs_one ps_neverD)) qs_nil)
    (qs_cons (ps_ifD (pt_pw (pw_orD (pt_tru (pd_isI (t := .str) rfl t.z_isinstance rfl t.z_str (by decide +kernel) (pvD 1))) (pw_orD1 (pt_cmpD op_isN does_isN (pvD 1) pd_non (nomark _))))) (qs_one (ps_retD (pe_andD (pd_cmp (op_eqD hr.units) does_eq (pd_isI (t := .str) rfl t.z_isinstance rfl t.z_str (by decide +kernel) (pvD 0)) (pd_isI (t := .str) rfl t.z_isinstance rfl t.z_str (by decide +kernel) (pvD 1)) (nomark _)) (pe_oneD (pd_cmp (op_eqD hr.units) does_eq (pvD 0) (pvD 1) (nomark _)))))) qs_nil)
    (qs_one (ps_retD (pe_andD (pd_isI (t := .int) rfl t.z_isinstance rfl t.z_int (by decide +kernel) (pvD 0)) (pe_andD (pd_cmp (op_eqD hr.units) does_eq (pd_isI (t := .bool) rfl t.z_isinstance rfl t.z_bool (by decide +kernel) (pvD 0)) (pd_isI (t := .bool) rfl t.z_isinstance rfl t.z_bool (by decide +kernel) (pvD 1)) (nomark _)) (pe_oneD (pd_cmp (op_eqD hr.units) does_eq (pvD 0) (pvD 1) (nomark _))))))))))
theorem ok_law_is (t : Tx K mg) : FnOk P w K mg base (L2.CX P w) 3 t.a_law_is t.d_law_is ["told", "due"] (spD ⟨K, T, mg⟩ 2 F_law_is) := ok_law_is_3 t
theorem hand_law_word {X : Cx} {T : List (Addr × Str)} (t : Tx X.K X.mg) (hu : X.A.units + 100 < cLine) {n : Str} {D a : Addr} {dx : Option Addr} {oe : Obj} {pn : List (Addr × Obj)} (ec : ExcC X.K D) (hz : Zc (.ref D) dx oe) (hf : ∃ vs, oe.data = .fields vs) (k_NoMend : PySem.W.kitOne X.K (.ref D) (.ref t.e_NoMend) = some (sub_law_word n "NoMend")) (k_NoTable : PySem.W.kitOne X.K (.ref D) (.ref t.e_NoTable) = some (sub_law_word n "NoTable")) (k_TooMany : PySem.W.kitOne X.K (.ref D) (.ref t.e_TooMany) = some (sub_law_word n "TooMany")) {g : Addr} {cdg : Value} {s : Shared} {H : Hp} :
    PSs ((cxOf C8.CX0 X.prog X.w X.K X.mg X.base ["call", "error", "some"] "_law_word" (defScope s_law_word) g cdg X.A X.stack s H C8.E0).nox.suite a ((a, oe) :: pn)) (suiteOf s_law_word) (tDS (zX X T) W0 (h_law_word n a dx)) :=
  (qs_cons (ps_setD (i := 2) sc_law_word.nd rfl (by first | exact .inl rfl | exact .inr rfl) (pd_lst false (pa_consD (pd_isE ec hz hf k_NoMend rfl (by first | exact Or.inl rfl | exact Or.inr (Or.inl rfl) | exact Or.inr (Or.inr rfl)) rfl t.z_isinstance rfl t.g_NoMend) (pa_consD (pd_isE ec hz hf k_NoTable rfl (by first | exact Or.inl rfl | exact Or.inr (Or.inl rfl) | exact Or.inr (Or.inr rfl)) rfl t.z_isinstance rfl t.g_NoTable) (pa_consD (pd_isE ec hz hf k_TooMany rfl (by first | exact Or.inl rfl | exact Or.inr (Or.inl rfl) | exact Or.inr (Or.inr rfl)) rfl t.z_isinstance rfl t.g_TooMany) pa_nilD)))))
    (qs_one (ps_retD (pe_ifD (pt_cmpD (op_eqD (Nat.lt_of_succ_lt (hu_suite hu))) does_eq (pd_countB (pvD 2) pd_bl) pd_int (nomark _)) (pd_ix (pd_lst false (pa_consD pd_str (pa_consD pd_str (pa_consD pd_str pa_nilD)))) (pd_index (hu_suite hu) (pvD 2) pd_bl)) pd_str))))
theorem hct_law_word {X : Cx} {T : List (Addr × Str)} (t : Tx X.K X.mg) (n : Str) (b : Bool) (h : ca_law_word n = some b) : PySem.W.exmOne X.K (clsV (zX X T) n) (.ref t.e_FarError) = some b := by
  unfold ca_law_word at h
  split at h
  · rename_i e; subst e; cases h
    rw [clsV_own (z := zX X T) t.o_NoMend.g]; exact t.x_NoMend
  · skip
    split at h
    · rename_i e; subst e; cases h
      rw [clsV_own (z := zX X T) t.o_NoTable.g]; exact t.x_NoTable
    · skip
      split at h
      · rename_i e; subst e; cases h
        rw [clsV_own (z := zX X T) t.i_TooMany.g]; exact t.x_TooMany
      · skip
        cases h
theorem hres_law_word (n : Str) (fs : List (Str × D)) (a : Addr) (d : Option Addr) (ρ : Ev) (st : Sto) (hd : fs = [] ∧ d = none ∨ fs ≠ [] ∧ d ≠ none) (hl : ρ.length = 3) : cleanS 1 (h_law_word n a d (ρ.set 1 (some (excD a d fs))) st) = res_law_word n fs ρ st := by
  match ρ, hl with
  | [r0, r1, r2], _ =>
    rcases hd with ⟨rfl, rfl⟩ | ⟨hn, hd⟩
    · simp only [res_law_word, h_law_word, excD]
      generalize sub_law_word n "NoMend" = b0
      generalize sub_law_word n "NoTable" = b1
      generalize sub_law_word n "TooMany" = b2
      cases b0 <;> cases b1 <;> cases b2 <;> simp [sIsE, sizeLine_eq, fCountB, allBl, fIndexD, toPys, allSome, firstIx, eqv_bl, fIx, ixD, cleanS]
    cases d with
    | none => exact absurd rfl hd
    | some d =>
    cases fs with
    | nil => exact absurd rfl hn
    | cons p fs =>
    simp only [res_law_word, h_law_word, excD]
    generalize sub_law_word n "NoMend" = b0
    generalize sub_law_word n "NoTable" = b1
    generalize sub_law_word n "TooMany" = b2
    cases b0 <;> cases b1 <;> cases b2 <;> simp [sIsE, sizeLine_eq, fCountB, allBl, fIndexD, toPys, allSome, firstIx, eqv_bl, fIx, ixD, cleanS]
theorem hsu_law_word {X : Cx} {T : List (Addr × Str)} (t : Tx X.K X.mg) (hu : X.A.units + 100 < cLine) {g : Addr} {cdg : Value} {s : Shared} {H : Hp} (n : Str) (a : Addr) (dx : Option Addr) (oe : Obj) (pn : List (Addr × Obj)) (h : ca_law_word n = some true) (hz : Zc (clsV (zX X T) n) dx oe) (hf : ∃ vs, oe.data = .fields vs) :
    PSs ((cxOf C8.CX0 X.prog X.w X.K X.mg X.base ["call", "error", "some"] "_law_word" (defScope s_law_word) g cdg X.A X.stack s H C8.E0).nox.suite a ((a, oe) :: pn)) (suiteOf s_law_word) (tDS (zX X T) W0 (h_law_word n a dx)) := by
  unfold ca_law_word at h
  split at h
  · rename_i e; subst e; cases h
    rw [clsV_own (z := zX X T) t.o_NoMend.g] at hz
    exact hand_law_word t hu t.c_NoMend hz hf (by rw [show sub_law_word "NoMend" "NoMend" = true from by decide +kernel]; exact t.k_NoMend_NoMend) (by rw [show sub_law_word "NoMend" "NoTable" = false from by decide +kernel]; exact t.k_NoMend_NoTable) (by rw [show sub_law_word "NoMend" "TooMany" = false from by decide +kernel]; exact t.k_NoMend_TooMany)
  · skip
    split at h
    · rename_i e; subst e; cases h
      rw [clsV_own (z := zX X T) t.o_NoTable.g] at hz
      exact hand_law_word t hu t.c_NoTable hz hf (by rw [show sub_law_word "NoTable" "NoMend" = false from by decide +kernel]; exact t.k_NoTable_NoMend) (by rw [show sub_law_word "NoTable" "NoTable" = true from by decide +kernel]; exact t.k_NoTable_NoTable) (by rw [show sub_law_word "NoTable" "TooMany" = false from by decide +kernel]; exact t.k_NoTable_TooMany)
    · skip
      split at h
      · rename_i e; subst e; cases h
        rw [clsV_own (z := zX X T) t.i_TooMany.g] at hz
        exact hand_law_word t hu t.c_TooMany hz hf (by rw [show sub_law_word "TooMany" "NoMend" = false from by decide +kernel]; exact t.k_TooMany_NoMend) (by rw [show sub_law_word "TooMany" "NoTable" = false from by decide +kernel]; exact t.k_TooMany_NoTable) (by rw [show sub_law_word "TooMany" "TooMany" = true from by decide +kernel]; exact t.k_TooMany_TooMany)
      · skip
        cases h
theorem gv_law_word {X : Cx} {T : List (Addr × Str)} (t : Tx X.K X.mg) (hu : X.A.units + 100 < cLine) (q : Str) (cdv : Value) : LamX.GivesTo X ["call", "error", "some"] "_law_word" (defScope s_law_word) t.a_law_word cdv (defBody s_law_word) "call" q (TTw (zX X T) F_law_word) :=
  gives_of (by decide) fun f c' s H g0 O tl acts hact =>
    (qsR_cons (ps_tryAsR (i := 1) (m := 3) rfl rfl sc_law_word.nd rfl rfl ⟨rfl, by decide, .inl t.g_FarError⟩ takes0 (hct_law_word (T := T) t) (fun W pn xe tk _ => pss_one (ps_actR acts tk (fun W E tk2 hW => hact W pn xe E _ _ tk2 hW))) h_law_word (hsu_law_word t hu) (fun n fs a d ρ st _ hd hl => hres_law_word n fs a d ρ st hd hl)) (qs_one (ps_retD pd_str)))
theorem ok_law_triples (t : Tx K mg) : FnOk P w K mg base (L2.CX P w) 1 t.a_law_triples t.d_law_triples ["table"] (spD ⟨K, T, mg⟩ 1 F_law_triples) :=
  def_fin (k := 0) t.F_law_triples sc_law_triples fun cdv A outer s H E hr =>
    (qs_cons (ps_parD (i := 1) (j := 2) rfl sc_law_triples.nd rfl rfl (by decide) rfl rfl (pa_consD (pd_lst true pa_nilD) (pa_consD (pd_callB call_len_seq does_len rfl t.z_len boot_len (pa_consD (pvD 0) pa_nilD)) pa_nilD)) rfl)
    (qs_cons (ps_forD (passes_of rfl) rfl (tg_name _ 3) (pi_rangeD1 rfl t.z_range (pa_consD (pvD 2) pa_nilD)) (pg_name (i := 3) sc_law_triples.nd rfl (by first | exact .inl rfl | exact .inr rfl))
    (qs_one (ps_forD (passes_of rfl) rfl (tg_name _ 4) (pi_rangeD1 rfl t.z_range (pa_consD (pvD 2) pa_nilD)) (pg_name (i := 4) sc_law_triples.nd rfl (by first | exact .inl rfl | exact .inr rfl))
    (qs_one (ps_forD (passes_of rfl) rfl (tg_name _ 5) (pi_rangeD2 rfl t.z_range (pa_consD (pd_add (pvD 3) pd_int) (pa_consD (pvD 2) pa_nilD))) (pg_name (i := 5) sc_law_triples.nd rfl (by first | exact .inl rfl | exact .inr rfl))
    (qs_one (ps_ifD (pt_pw (pw_andD (pt_cmpD (or_notIn (hu65 hr)) does_notIn (pvD 4) (pd_tup (pa_consD (pvD 3) (pa_consD (pvD 5) pa_nilD))) (by with_unfolding_all rfl)) (pw_andD1 (pt_cmpD op_gt does_cmp (pd_ix (pd_ix (pvD 0) (pvD 3)) (pvD 5)) (pd_add (pd_ix (pd_ix (pvD 0) (pvD 3)) (pvD 4)) (pd_ix (pd_ix (pvD 0) (pvD 4)) (pvD 5))) (nomark _))))) (qs_one (ps_exprD (pd_append (pvD 1) (pd_tup (pa_consD (pvD 3) (pa_consD (pvD 4) (pa_consD (pvD 5) pa_nilD))))))) qs_nil)))))))
    (qs_one (ps_retD (pvD 1)))))
theorem ok_is_mend (t : Tx K mg) : FnOk P w K mg base (L2.CX P w) 5 t.a_is_mend t.d_is_mend ["table", "thing"] (spD ⟨K, T, mg⟩ 2 F_is_mend) :=
  def_fin (k := 4) t.F_is_mend sc_is_mend fun cdv A outer s H E hr =>
    (qs_cons (ps_exprD (pd_call (ok_check_table t) (takes_of rfl rfl rfl rfl) (hr.mono (by decide)) rfl t.m_check_table t.F_check_table.kp t.b_check_table (pa_consD (pvD 0) pa_nilD))) (qs_one ps_neverD))
theorem ok_common (t : Tx K mg) : FnOk P w K mg base (L2.CX P w) 1 t.a_common t.d_common ["one", "other"] (spD ⟨K, T, mg⟩ 2 F_common) :=
  def_fin (k := 0) t.F_common sc_common fun cdv A outer s H E hr =>
    (qs_cons (ps_whileD (passes_of rfl) (pt_cmpD (op_neD hr.units) does_ne (pvD 1) pd_int (nomark _))
    (qs_one (ps_parD (i := 0) (j := 1) rfl sc_common.nd rfl rfl (by decide) rfl rfl (pa_consD (pvD 1) (pa_consD (pd_mod (pvD 0) (pvD 1)) pa_nilD)) rfl)))
    (qs_one (ps_retD (pd_callB call_abs does_abs rfl t.z_abs boot_abs (pa_consD (pvD 0) pa_nilD)))))
theorem ok_is_share (t : Tx K mg) : FnOk P w K mg base (L2.CX P w) 2 t.a_is_share t.d_is_share ["thing"] (spD ⟨K, T, mg⟩ 1 F_is_share) :=
  def_fin (k := 1) t.F_is_share sc_is_share fun cdv A outer s H E hr =>
    (qs_cons (ps_ifD (pt_pw (pw_orD (pt_notD (pt_tru (pd_call (ok_is_sized t) (takes_of rfl rfl rfl rfl) (hr.mono (by decide)) rfl t.m_is_sized t.F_is_sized.kp t.b_is_sized (pa_consD (pvD 0) (pa_consD pd_int (pa_consD pd_int pa_nilD)))))) (pw_orD1 (pt_notD (pt_tru (pd_callB (cr_all rfl) does_all rfl t.z_all boot_all (pa_consD (pd_lc (own := [("one", 1)]) false rfl sc_is_share.nd (pi_seqD (pvD 0)) (blkOk_by (N := ["thing", "one"]) (sc := (defScope s_is_share)) (own := [("one", 1)]) (by decide +kernel)) (tg_name _ 1) (by decide) (fun _ _ _ _ _ => (pg_name (i := 1) sc_is_share.nd rfl (by first | exact .inl rfl | exact .inr rfl))) (fun _ _ _ _ _ => pts_nilD) (fun _ _ _ _ _ => (pd_call (ok_is_integer t) takes0 (hr.mono (by decide)) rfl t.m_is_integer t.F_is_integer.kp t.b_is_integer (pa_consD (pvD 1) pa_nilD)))) pa_nilD))))))) (qs_one (ps_retD pd_bl)) qs_nil)
    (qs_one (ps_retD (pe_andD (pd_cmp op_gt does_cmp (pd_ix (pvD 0) pd_int) pd_int (nomark _)) (pe_oneD (pd_cmp (op_eqD hr.units) does_eq (pd_call (ok_common t) (takes_of rfl rfl rfl rfl) (hr.mono (by decide)) rfl t.m_common t.F_common.kp t.b_common (pa_consD (pd_ix (pvD 0) pd_int) (pa_consD (pd_ix (pvD 0) pd_int) pa_nilD))) pd_int (nomark _)))))))
theorem ok_share (t : Tx K mg) : FnOk P w K mg base (L2.CX P w) 2 t.a_share t.d_share ["top", "bottom"] (spD ⟨K, T, mg⟩ 2 F_share) :=
  def_fin (k := 1) t.F_share sc_share fun cdv A outer s H E hr =>
    (qs_cons (ps_setD (i := 2) sc_share.nd rfl (by first | exact .inl rfl | exact .inr rfl) (pd_call (ok_common t) (takes_of rfl rfl rfl rfl) (hr.mono (by decide)) rfl t.m_common t.F_common.kp t.b_common (pa_consD (pvD 0) (pa_consD (pvD 1) pa_nilD))))
    (qs_cons (ps_setD (i := 2) sc_share.nd rfl (by first | exact .inl rfl | exact .inr rfl) (pe_ifD (pt_cmpD op_gt does_cmp (pvD 1) pd_int (nomark _)) (pvD 2) (pd_sub pd_int (pvD 2))))
    (qs_one (ps_retD (pd_tup (pa_consD (pd_div (pvD 0) (pvD 2)) (pa_consD (pd_div (pvD 1) (pvD 2)) pa_nilD)))))))
theorem ok_plus (t : Tx K mg) : FnOk P w K mg base (L2.CX P w) 3 t.a_plus t.d_plus ["one", "other"] (spD ⟨K, T, mg⟩ 2 F_plus) :=
  def_fin (k := 2) t.F_plus sc_plus fun cdv A outer s H E hr =>
    (qs_one (ps_retD (pd_call (ok_share t) (takes_of rfl rfl rfl rfl) (hr.mono (by decide)) rfl t.m_share t.F_share.kp t.b_share (pa_consD (pd_add (pd_mul (pd_ix (pvD 0) pd_int) (pd_ix (pvD 1) pd_int)) (pd_mul (pd_ix (pvD 1) pd_int) (pd_ix (pvD 0) pd_int))) (pa_consD (pd_mul (pd_ix (pvD 0) pd_int) (pd_ix (pvD 1) pd_int)) pa_nilD)))))
theorem ok_is_less (t : Tx K mg) : FnOk P w K mg base (L2.CX P w) 1 t.a_is_less t.d_is_less ["one", "other"] (spD ⟨K, T, mg⟩ 2 F_is_less) :=
  def_fin (k := 0) t.F_is_less sc_is_less fun cdv A outer s H E hr =>
    (qs_one (ps_retD (pd_cmp op_lt does_cmp (pd_mul (pd_ix (pvD 0) pd_int) (pd_ix (pvD 1) pd_int)) (pd_mul (pd_ix (pvD 1) pd_int) (pd_ix (pvD 0) pd_int)) (nomark _))))
theorem ok_is_mend_of (t : Tx K mg) : FnOk P w K mg base (L2.CX P w) 4 t.a_is_mend_of t.d_is_mend_of ["n", "thing"] (spD ⟨K, T, mg⟩ 2 F_is_mend_of) :=
  def_fin (k := 3) t.F_is_mend_of sc_is_mend_of fun cdv A outer s H E hr =>
    (qs_cons (ps_ifD (pt_pw (pw_orD (pt_notD (pt_tru (pd_call (ok_is_sized t) (takes_of rfl rfl rfl rfl) (hr.mono (by decide)) rfl t.m_is_sized t.F_is_sized.kp t.b_is_sized (pa_consD (pvD 1) (pa_consD (pvD 0) (pa_consD (pvD 0) pa_nilD)))))) (pw_orD1 (pt_notD (pt_tru (pd_callB (cr_all rfl) does_all rfl t.z_all boot_all (pa_consD (pd_lc (own := [("row", 3)]) false rfl sc_is_mend_of.nd (pi_seqD (pvD 1)) (blkOk_by (N := ["n", "thing", "i", "row", "j", "far", "k"]) (sc := (defScope s_is_mend_of)) (own := [("row", 3)]) (by decide +kernel)) (tg_name _ 3) (by decide) (fun _ _ _ _ _ => (pg_name (i := 3) sc_is_mend_of.nd rfl (by first | exact .inl rfl | exact .inr rfl))) (fun _ _ _ _ _ => pts_nilD) (fun _ _ _ _ _ => (pd_call (ok_is_sized t) takes0 (hr.mono (by decide)) rfl t.m_is_sized t.F_is_sized.kp t.b_is_sized (pa_consD (pvD 3) (pa_consD (pvD 0) (pa_consD (pvD 0) pa_nilD)))))) pa_nilD))))))) (qs_one (ps_retD pd_bl)) qs_nil)
    (qs_cons (ps_forD (passes_of rfl) rfl (tg_two (tg_name _ 2) (tg_name _ 3)) (pi_enumD rfl t.z_enumerate (pa_consD (pvD 1) pa_nilD)) (pg_tup rfl (pgs_cons (pg_name (i := 2) sc_is_mend_of.nd rfl (by first | exact .inl rfl | exact .inr rfl)) (pgs_cons (pg_name (i := 3) sc_is_mend_of.nd rfl (by first | exact .inl rfl | exact .inr rfl)) pgs_nil)))
    (qs_one (ps_forD (passes_of rfl) rfl (tg_two (tg_name _ 4) (tg_name _ 5)) (pi_enumD rfl t.z_enumerate (pa_consD (pvD 3) pa_nilD)) (pg_tup rfl (pgs_cons (pg_name (i := 4) sc_is_mend_of.nd rfl (by first | exact .inl rfl | exact .inr rfl)) (pgs_cons (pg_name (i := 5) sc_is_mend_of.nd rfl (by first | exact .inl rfl | exact .inr rfl)) pgs_nil)))
    (qs_one (ps_ifD (pt_pw (pw_orD (pt_notD (pt_tru (pd_call (ok_is_share t) (takes_of rfl rfl rfl rfl) (hr.mono (by decide)) rfl t.m_is_share t.F_is_share.kp t.b_is_share (pa_consD (pvD 5) pa_nilD)))) (pw_orD (pt_cmpD (op_neD hr.units) does_ne (pvD 5) (pd_ix (pd_ix (pvD 1) (pvD 4)) (pvD 2)) (nomark _)) (pw_orD (pt_cmpD op_lt does_cmp (pd_ix (pvD 5) pd_int) pd_int (nomark _)) (pw_orD1 (pt_pw (pw_andD (pt_cmpD (op_eqD hr.units) does_eq (pvD 2) (pvD 4) (nomark _)) (pw_andD1 (pt_cmpD (op_neD hr.units) does_ne (pvD 5) (pd_gtup rfl t.c_ZERO) (nomark _)))))))))) (qs_one (ps_retD pd_bl)) qs_nil)))))
    (qs_cons (ps_forD (passes_of rfl) rfl (tg_name _ 2) (pi_rangeD1 rfl t.z_range (pa_consD (pvD 0) pa_nilD)) (pg_name (i := 2) sc_is_mend_of.nd rfl (by first | exact .inl rfl | exact .inr rfl))
    (qs_one (ps_forD (passes_of rfl) rfl (tg_name _ 6) (pi_rangeD2 rfl t.z_range (pa_consD (pd_add (pvD 2) pd_int) (pa_consD (pvD 0) pa_nilD))) (pg_name (i := 6) sc_is_mend_of.nd rfl (by first | exact .inl rfl | exact .inr rfl))
    (qs_one (ps_ifD (pt_tru (pd_callB (cr_any rfl) does_any rfl t.z_any boot_any (pa_consD (pd_lc (own := [("j", 4)]) false rfl sc_is_mend_of.nd (pi_rangeD1 rfl t.z_range (pa_consD (pvD 0) pa_nilD)) (blkOk_by (N := ["n", "thing", "i", "row", "j", "far", "k"]) (sc := (defScope s_is_mend_of)) (own := [("j", 4)]) (by decide +kernel)) (tg_name _ 4) (by decide) (fun _ _ _ _ _ => (pg_name (i := 4) sc_is_mend_of.nd rfl (by first | exact .inl rfl | exact .inr rfl))) (fun _ _ _ _ _ => pts_nilD) (fun _ _ _ _ _ => (pd_call (ok_is_less t) takes0 (hr.mono (by decide)) rfl t.m_is_less t.F_is_less.kp t.b_is_less (pa_consD (pd_call (ok_plus t) takes0 (hr.mono (by decide)) rfl t.m_plus t.F_plus.kp t.b_plus (pa_consD (pd_ix (pd_ix (pvD 1) (pvD 2)) (pvD 4)) (pa_consD (pd_ix (pd_ix (pvD 1) (pvD 4)) (pvD 6)) pa_nilD))) (pa_consD (pd_ix (pd_ix (pvD 1) (pvD 2)) (pvD 6)) pa_nilD))))) pa_nilD))) (qs_one (ps_retD pd_bl)) qs_nil)))))
    (qs_one (ps_retD pd_bl)))))
theorem ok_check_mend (t : Tx K mg) : FnOk P w K mg base (L2.CX P w) 5 t.a_check_mend t.d_check_mend ["table", "mend"] (spD ⟨K, T, mg⟩ 2 F_check_mend) :=
  def_fin (k := 4) t.F_check_mend sc_check_mend fun cdv A outer s H E hr =>
    (qs_cons (ps_exprD (pd_call (ok_check_table t) (takes_of rfl rfl rfl rfl) (hr.mono (by decide)) rfl t.m_check_table t.F_check_table.kp t.b_check_table (pa_consD (pvD 0) pa_nilD)))
    (qs_one (ps_ifD (pt_notD (pt_tru (pd_call (ok_is_mend_of t) (takes_of rfl rfl rfl rfl) (hr.mono (by decide)) rfl t.m_is_mend_of t.F_is_mend_of.kp t.b_is_mend_of (pa_consD (pd_callB call_len_seq does_len rfl t.z_len boot_len (pa_consD (pvD 0) pa_nilD)) (pa_consD (pvD 1) pa_nilD))))) (qs_one (ps_raiseD t.o_NoMend rfl (takes_of rfl rfl rfl rfl) rfl)) qs_nil)))
theorem ok_off_most (t : Tx K mg) : FnOk P w K mg base (L2.CX P w) 6 t.a_off_most t.d_off_most ["table", "mend"] (spD ⟨K, T, mg⟩ 2 F_off_most) :=
  def_fin (k := 5) t.F_off_most sc_off_most fun cdv A outer s H E hr =>
    (qs_cons (ps_exprD (pd_call (ok_check_mend t) (takes_of rfl rfl rfl rfl) (hr.mono (by decide)) rfl t.m_check_mend t.F_check_mend.kp t.b_check_mend (pa_consD (pvD 0) (pa_consD (pvD 1) pa_nilD)))) (qs_one ps_neverD))
theorem ok_off_sum (t : Tx K mg) : FnOk P w K mg base (L2.CX P w) 6 t.a_off_sum t.d_off_sum ["table", "mend"] (spD ⟨K, T, mg⟩ 2 F_off_sum) :=
  def_fin (k := 5) t.F_off_sum sc_off_sum fun cdv A outer s H E hr =>
    (qs_cons (ps_exprD (pd_call (ok_check_mend t) (takes_of rfl rfl rfl rfl) (hr.mono (by decide)) rfl t.m_check_mend t.F_check_mend.kp t.b_check_mend (pa_consD (pvD 0) (pa_consD (pvD 1) pa_nilD)))) (qs_one ps_neverD))
theorem ok_off_pairs (t : Tx K mg) : FnOk P w K mg base (L2.CX P w) 6 t.a_off_pairs t.d_off_pairs ["table", "mend"] (spD ⟨K, T, mg⟩ 2 F_off_pairs) :=
  def_fin (k := 5) t.F_off_pairs sc_off_pairs fun cdv A outer s H E hr =>
    (qs_cons (ps_exprD (pd_call (ok_check_mend t) (takes_of rfl rfl rfl rfl) (hr.mono (by decide)) rfl t.m_check_mend t.F_check_mend.kp t.b_check_mend (pa_consD (pvD 0) (pa_consD (pvD 1) pa_nilD)))) (qs_one ps_neverD))
theorem ok_nearest_mend (t : Tx K mg) : FnOk P w K mg base (L2.CX P w) 5 t.a_nearest_mend t.d_nearest_mend ["table"] (spD ⟨K, T, mg⟩ 1 F_nearest_mend) :=
  def_fin (k := 4) t.F_nearest_mend sc_nearest_mend fun cdv A outer s H E hr =>
    (qs_cons (ps_exprD (pd_call (ok_check_table t) (takes_of rfl rfl rfl rfl) (hr.mono (by decide)) rfl t.m_check_table t.F_check_table.kp t.b_check_table (pa_consD (pvD 0) pa_nilD))) (qs_cons ps_neverD (qs_one ps_neverD)))
theorem ok_is_nearest_mend (t : Tx K mg) : FnOk P w K mg base (L2.CX P w) 5 t.a_is_nearest_mend t.d_is_nearest_mend ["table", "thing"] (spD ⟨K, T, mg⟩ 2 F_is_nearest_mend) :=
  def_fin (k := 4) t.F_is_nearest_mend sc_is_nearest_mend fun cdv A outer s H E hr =>
    (qs_cons (ps_exprD (pd_call (ok_check_table t) (takes_of rfl rfl rfl rfl) (hr.mono (by decide)) rfl t.m_check_table t.F_check_table.kp t.b_check_table (pa_consD (pvD 0) pa_nilD))) (qs_cons ps_neverD (qs_cons ps_neverD (qs_cons ps_neverD (qs_cons ps_neverD (qs_cons ps_neverD (qs_cons ps_neverD (qs_one ps_neverD))))))))
theorem ok_is_least_raise (t : Tx K mg) : FnOk P w K mg base (L2.CX P w) 6 t.a_is_least_raise t.d_is_least_raise ["table", "thing"] (spD ⟨K, T, mg⟩ 2 F_is_least_raise) :=
  def_fin (k := 5) t.F_is_least_raise sc_is_least_raise fun cdv A outer s H E hr =>
    (qs_cons (ps_exprD (pd_call (ok_check_few t) (takes_of rfl rfl rfl rfl) (hr.mono (by decide)) rfl t.m_check_few t.F_check_few.kp t.b_check_few (pa_consD (pvD 0) pa_nilD))) (qs_cons ps_neverD (qs_cons ps_neverD (qs_one ps_neverD))))
theorem ok_least_cut (t : Tx K mg) : FnOk P w K mg base (L2.CX P w) 5 t.a_least_cut t.d_least_cut ["table"] (spD ⟨K, T, mg⟩ 1 F_least_cut) :=
  def_fin (k := 4) t.F_least_cut sc_least_cut fun cdv A outer s H E hr =>
    (qs_cons (ps_exprD (pd_call (ok_check_table t) (takes_of rfl rfl rfl rfl) (hr.mono (by decide)) rfl t.m_check_table t.F_check_table.kp t.b_check_table (pa_consD (pvD 0) pa_nilD))) (qs_cons ps_neverD (qs_one ps_neverD)))
theorem ok_is_least_pairs (t : Tx K mg) : FnOk P w K mg base (L2.CX P w) 6 t.a_is_least_pairs t.d_is_least_pairs ["table", "thing"] (spD ⟨K, T, mg⟩ 2 F_is_least_pairs) :=
  def_fin (k := 5) t.F_is_least_pairs sc_is_least_pairs fun cdv A outer s H E hr =>
    (qs_cons (ps_exprD (pd_call (ok_check_few t) (takes_of rfl rfl rfl rfl) (hr.mono (by decide)) rfl t.m_check_few t.F_check_few.kp t.b_check_few (pa_consD (pvD 0) pa_nilD))) (qs_cons ps_neverD (qs_cons ps_neverD (qs_cons ps_neverD (qs_cons ps_neverD (qs_one ps_neverD))))))
theorem ok_law_refused (t : Tx K mg) {c_law_refused P_law_refused : Addr} (tb_law_refused : LamX.TabB base mg c_law_refused P_law_refused) (hc_law_refused : t.d_law_refused.code = .ref c_law_refused) (hmT_law_refused : (P_law_refused, ("_law_refused.<locals>.<lambda>" : Str)) ∈ T) (huT_law_refused : ∀ p ∈ T, p.1 = P_law_refused → p.2 = ("_law_refused.<locals>.<lambda>" : Str)) : FnOk P w K mg base (L2.CX P w) 9 t.a_law_refused t.d_law_refused ["hand", "table"] (spD ⟨K, T, mg⟩ 2 F_law_refused) :=
  def_finC (k := 8) t.F_law_refused sc_law_refused fun cdv hcode A outer s H E hr => by
    have hcode := hcode.symm.trans hc_law_refused
    subst hcode
    have hcode : (Value.ref c_law_refused) = .ref c_law_refused := rfl
    have gv_law_wordX := fun (q : Str) (cdv : Value) => gv_law_word (X := cxOf (L2.CX P w) P w K mg base ["hand", "table", "many", "bad", "no", "calls", "words", "call"] "_law_refused" (defScope s_law_refused) t.a_law_refused (.ref c_law_refused) A outer s H E) (T := T) t (hu100 hr) q cdv
    exact (qs_cons (ps_setD (i := 2) sc_law_refused.nd rfl (by first | exact .inl rfl | exact .inr rfl) (pd_callB call_len_seq does_len rfl t.z_len boot_len (pa_consD (pvD 1) pa_nilD)))
    (qs_cons (ps_setD (i := 3) sc_law_refused.nd rfl (by first | exact .inl rfl | exact .inr rfl) (pd_call (ok_law_some t) (takes_of rfl rfl rfl rfl) (hr.mono (by decide)) rfl t.m_law_some t.F_law_some.kp t.b_law_some (pa_consD (pvD 0) (pa_consD (pd_lst false (pa_consD pd_non (pa_consD (pd_tup pa_nilD) (pa_consD (pd_callT call_list_of (does_list false) rfl t.z_list boot_list (pa_consD (pvD 1) pa_nilD)) (pa_consD (pd_tup (pa_consD (pd_tup (pa_consD pd_int pa_nilD)) pa_nilD)) (pa_consD (pd_tup (pa_consD (pd_tup (pa_consD pd_int (pa_consD pd_int pa_nilD))) (pa_consD (pd_tup (pa_consD pd_int (pa_consD pd_int pa_nilD))) pa_nilD))) (pa_consD (pd_tup (pa_consD (pd_tup (pa_consD pd_int (pa_consD pd_int pa_nilD))) (pa_consD (pd_tup (pa_consD pd_int (pa_consD pd_int pa_nilD))) pa_nilD))) pa_nilD))))))) pa_nilD))))
    (qs_cons (ps_setD (i := 4) sc_law_refused.nd rfl (by first | exact .inl rfl | exact .inr rfl) (pd_call (ok_law_some t) (takes_of rfl rfl rfl rfl) (hr.mono (by decide)) rfl t.m_law_some t.F_law_some.kp t.b_law_some (pa_consD (pvD 0) (pa_consD (pd_lst false (pa_consD pd_non (pa_consD (pd_tup pa_nilD) (pa_consD (pvD 1) (pa_consD (pd_repT (pd_tup (pa_consD (pd_tup (pa_consD pd_int (pa_consD pd_int pa_nilD))) pa_nilD)) (pvD 2)) (pa_consD (pd_repT (pd_tup (pa_consD (pd_repT (pd_tup (pa_consD (pd_tup (pa_consD pd_int (pa_consD pd_int pa_nilD))) pa_nilD)) (pd_add (pvD 2) pd_int)) pa_nilD)) (pvD 2)) pa_nilD)))))) pa_nilD))))
    (qs_cons (ps_setD (i := 5) sc_law_refused.nd rfl (by first | exact .inl rfl | exact .inr rfl) (pd_tup (pa_consD (pd_gfn rfl ⟨_, t.m_nearest_mend, t.n_nearest_mend⟩) (pa_consD (pd_gfn rfl ⟨_, t.m_least_raise, t.n_least_raise⟩) (pa_consD (pd_gfn rfl ⟨_, t.m_least_cut, t.n_least_cut⟩) (pa_consD (pd_gfn rfl ⟨_, t.m_least_pairs, t.n_least_pairs⟩) (pa_consD (pd_gfn rfl ⟨_, t.m_needed_pairs, t.n_needed_pairs⟩) (pa_consD (pd_gfn rfl ⟨_, t.m_short_triples, t.n_short_triples⟩) (pa_consD (pd_gfn rfl ⟨_, t.m_worst_triple, t.n_worst_triple⟩) (pa_consD (pd_gfn rfl ⟨_, t.m_sound_lots, t.n_sound_lots⟩) pa_nilD))))))))))
    (qs_cons (ps_setLcD (own := [("call", 7)]) (i := 6) false rfl sc_law_refused.nd rfl rfl (sw_true rfl rfl rfl (by decide +kernel)) (pi_seqD (pd_add (pvD 5) (pd_tup (pa_consD (pd_gfn rfl ⟨_, t.m_fewest_out, t.n_fewest_out⟩) pa_nilD)))) (blkOk_by (N := ["hand", "table", "many", "bad", "no", "calls", "words", "call"]) (sc := (defScope s_law_refused)) (own := [("call", 7)]) (by decide +kernel)) (tg_name _ 7) (by decide) (fun _ _ _ _ _ => (pg_name (i := 7) sc_law_refused.nd rfl (by first | exact .inl rfl | exact .inr rfl))) (fun _ _ _ _ _ => pts_nilD) (fun _ _ _ _ _ => (pd_lamF (k := 6) t.F_law_word t.b_law_word sc_law_word t.m_law_word (fun cdv => gv_law_wordX _ cdv) rfl rfl (Or.inl rfl) tb_law_refused hcode hmT_law_refused huT_law_refused (hr.mono (by decide)) (LamX.lamS_by (by kernel_rfl)) (fun A outer s H E f c' hr => (pd_callV (k := 6) (tabOk_cons (ok_nearest_mend t) (by decide) t.n_nearest_mend t.F_nearest_mend.kp t.b_nearest_mend (tabOk_cons (ok_least_raise t) (by decide) t.n_least_raise t.F_least_raise.kp t.b_least_raise (tabOk_cons (ok_least_cut t) (by decide) t.n_least_cut t.F_least_cut.kp t.b_least_cut (tabOk_cons (ok_least_pairs t) (by decide) t.n_least_pairs t.F_least_pairs.kp t.b_least_pairs (tabOk_cons (ok_needed_pairs t) (by decide) t.n_needed_pairs t.F_needed_pairs.kp t.b_needed_pairs (tabOk_cons (ok_short_triples t) (by decide) t.n_short_triples t.F_short_triples.kp t.b_short_triples (tabOk_cons (ok_worst_triple t) (by decide) t.n_worst_triple t.F_worst_triple.kp t.b_worst_triple (tabOk_cons (ok_sound_lots t) (by decide) t.n_sound_lots t.F_sound_lots.kp t.b_sound_lots (tabOk_cons (ok_fewest_out t) (by decide) t.n_fewest_out t.F_fewest_out.kp t.b_fewest_out tabOk_nil))))))))) (takes_of rfl rfl rfl rfl) (hr.mono (by decide)) rfl (by first | exact .inl rfl | exact .inr (.inl rfl) | exact .inr (.inr rfl)) (pa_consD (pvD 3) pa_nilD))))))
    (qs_cons (ps_setD (i := 5) sc_law_refused.nd rfl (by first | exact .inl rfl | exact .inr rfl) (pd_tup (pa_consD (pd_gfn rfl ⟨_, t.m_is_mend, t.n_is_mend⟩) (pa_consD (pd_gfn rfl ⟨_, t.m_is_nearest_mend, t.n_is_nearest_mend⟩) (pa_consD (pd_gfn rfl ⟨_, t.m_is_least_raise, t.n_is_least_raise⟩) (pa_consD (pd_gfn rfl ⟨_, t.m_is_least_pairs, t.n_is_least_pairs⟩) (pa_consD (pd_gfn rfl ⟨_, t.m_off_most, t.n_off_most⟩) (pa_consD (pd_gfn rfl ⟨_, t.m_off_sum, t.n_off_sum⟩) (pa_consD (pd_gfn rfl ⟨_, t.m_off_pairs, t.n_off_pairs⟩) pa_nilD)))))))))
    (qs_cons (ps_setD (i := 6) sc_law_refused.nd rfl (by first | exact .inl rfl | exact .inr rfl) (pd_add (pvD 6) (pd_lc (own := [("call", 7)]) false rfl sc_law_refused.nd (pi_seqD (pvD 5)) (blkOk_by (N := ["hand", "table", "many", "bad", "no", "calls", "words", "call"]) (sc := (defScope s_law_refused)) (own := [("call", 7)]) (by decide +kernel)) (tg_name _ 7) (by decide) (fun _ _ _ _ _ => (pg_name (i := 7) sc_law_refused.nd rfl (by first | exact .inl rfl | exact .inr rfl))) (fun _ _ _ _ _ => pts_nilD) (fun _ _ _ _ _ => (pd_lamF (k := 6) t.F_law_word t.b_law_word sc_law_word t.m_law_word (fun cdv => gv_law_wordX _ cdv) rfl rfl (Or.inl rfl) tb_law_refused hcode hmT_law_refused huT_law_refused (hr.mono (by decide)) (LamX.lamS_by (by kernel_rfl)) (fun A outer s H E f c' hr => (pd_callV (k := 6) (tabOk_cons (ok_is_mend t) (by decide) t.n_is_mend t.F_is_mend.kp t.b_is_mend (tabOk_cons (ok_is_nearest_mend t) (by decide) t.n_is_nearest_mend t.F_is_nearest_mend.kp t.b_is_nearest_mend (tabOk_cons (ok_is_least_raise t) (by decide) t.n_is_least_raise t.F_is_least_raise.kp t.b_is_least_raise (tabOk_cons (ok_is_least_pairs t) (by decide) t.n_is_least_pairs t.F_is_least_pairs.kp t.b_is_least_pairs (tabOk_cons (ok_off_most t) (by decide) t.n_off_most t.F_off_most.kp t.b_off_most (tabOk_cons (ok_off_sum t) (by decide) t.n_off_sum t.F_off_sum.kp t.b_off_sum (tabOk_cons (ok_off_pairs t) (by decide) t.n_off_pairs t.F_off_pairs.kp t.b_off_pairs tabOk_nil))))))) (takes_of rfl rfl rfl rfl) (hr.mono (by decide)) rfl (by first | exact .inl rfl | exact .inr (.inl rfl) | exact .inr (.inr rfl)) (pa_consD (pvD 3) (pa_consD (pvD 4) pa_nilD)))))))))
    (qs_cons (ps_setD (i := 6) sc_law_refused.nd rfl (by first | exact .inl rfl | exact .inr rfl) (pd_add (pvD 6) (pd_lc (own := [("call", 7)]) false rfl sc_law_refused.nd (pi_seqD (pd_tup (pa_consD (pd_gfn rfl ⟨_, t.m_off_most, t.n_off_most⟩) (pa_consD (pd_gfn rfl ⟨_, t.m_off_sum, t.n_off_sum⟩) (pa_consD (pd_gfn rfl ⟨_, t.m_off_pairs, t.n_off_pairs⟩) pa_nilD))))) (blkOk_by (N := ["hand", "table", "many", "bad", "no", "calls", "words", "call"]) (sc := (defScope s_law_refused)) (own := [("call", 7)]) (by decide +kernel)) (tg_name _ 7) (by decide) (fun _ _ _ _ _ => (pg_name (i := 7) sc_law_refused.nd rfl (by first | exact .inl rfl | exact .inr rfl))) (fun _ _ _ _ _ => pts_nilD) (fun _ _ _ _ _ => (pd_lamF (k := 6) t.F_law_word t.b_law_word sc_law_word t.m_law_word (fun cdv => gv_law_wordX _ cdv) rfl rfl (Or.inl rfl) tb_law_refused hcode hmT_law_refused huT_law_refused (hr.mono (by decide)) (LamX.lamS_by (by kernel_rfl)) (fun A outer s H E f c' hr => (pd_callV (k := 6) (tabOk_cons (ok_is_mend t) (by decide) t.n_is_mend t.F_is_mend.kp t.b_is_mend (tabOk_cons (ok_is_nearest_mend t) (by decide) t.n_is_nearest_mend t.F_is_nearest_mend.kp t.b_is_nearest_mend (tabOk_cons (ok_is_least_raise t) (by decide) t.n_is_least_raise t.F_is_least_raise.kp t.b_is_least_raise (tabOk_cons (ok_is_least_pairs t) (by decide) t.n_is_least_pairs t.F_is_least_pairs.kp t.b_is_least_pairs (tabOk_cons (ok_off_most t) (by decide) t.n_off_most t.F_off_most.kp t.b_off_most (tabOk_cons (ok_off_sum t) (by decide) t.n_off_sum t.F_off_sum.kp t.b_off_sum (tabOk_cons (ok_off_pairs t) (by decide) t.n_off_pairs t.F_off_pairs.kp t.b_off_pairs tabOk_nil))))))) (takes_of rfl rfl rfl rfl) (hr.mono (by decide)) rfl (by first | exact .inl rfl | exact .inr (.inl rfl) | exact .inr (.inr rfl)) (pa_consD (pvD 1) (pa_consD (pvD 4) pa_nilD)))))))))
    (qs_one (ps_retD (pd_cmp (op_eqD hr.units) does_eq (pvD 6) (pd_add (pd_rep false (pd_lst false (pa_consD pd_str pa_nilD)) pd_int) (pd_rep false (pd_lst false (pa_consD pd_str pa_nilD)) pd_int)) (nomark _))))))))))))
theorem ok_law (t : Tx K mg) {c_law_refused P_law_refused : Addr} (tb_law_refused : LamX.TabB base mg c_law_refused P_law_refused) (hc_law_refused : t.d_law_refused.code = .ref c_law_refused) (hmT_law_refused : (P_law_refused, ("_law_refused.<locals>.<lambda>" : Str)) ∈ T) (huT_law_refused : ∀ p ∈ T, p.1 = P_law_refused → p.2 = ("_law_refused.<locals>.<lambda>" : Str)) {c_law P_law : Addr} (tb_law : LamX.TabB base mg c_law P_law) (hc_law : t.d_law.code = .ref c_law) (hmT_law : (P_law, ("law.<locals>.<lambda>" : Str)) ∈ T) (huT_law : ∀ p ∈ T, p.1 = P_law → p.2 = ("law.<locals>.<lambda>" : Str)) : FnOk P w K mg base (L2.CX P w) 12 t.a_law t.d_law ["script"] (spD ⟨K, T, mg⟩ 1 F_law) :=
  def_finC (k := 11) t.F_law sc_law fun cdv hcode A outer s H E hr => by
    have hcode := hcode.symm.trans hc_law
    subst hcode
    have hcode : (Value.ref c_law) = .ref c_law := rfl
    have gv_law_wordX := fun (q : Str) (cdv : Value) => gv_law_word (X := cxOf (L2.CX P w) P w K mg base ["script", "hand", "turn", "table", "many", "some", "most", "told", "i", "j", "k", "over_v", "good", "lot", "whole", "outs", "words", "triple", "place", "other", "call"] "law" (defScope s_law) t.a_law (.ref c_law) A outer s H E) (T := T) t (hu100 hr) q cdv
    exact (qs_cons (ps_setD (i := 1) sc_law.nd rfl (by first | exact .inl rfl | exact .inr rfl) (pd_call (ok_law_hand t) (takes_of rfl rfl rfl rfl) (hr.mono (by decide)) rfl t.m_law_hand t.F_law_hand.kp t.b_law_hand (pa_consD (pvD 0) pa_nilD)))
    (qs_cons (ps_forD (passes_of rfl) rfl (tg_name _ 2) (pi_rangeD1 rfl t.z_range (pa_consD pd_int pa_nilD)) (pg_name (i := 2) sc_law.nd rfl (by first | exact .inl rfl | exact .inr rfl))
    (qs_cons (ps_setD (i := 3) sc_law.nd rfl (by first | exact .inl rfl | exact .inr rfl) (pd_call (ok_law_table t) (takes_of rfl rfl rfl rfl) (hr.mono (by decide)) rfl t.m_law_table t.F_law_table.kp t.b_law_table (pa_consD (pvD 1) (pa_consD (pd_add pd_int (pd_call (ok_law_draw t) (takes_of rfl rfl rfl rfl) (hr.mono (by decide)) rfl t.m_law_draw t.F_law_draw.kp t.b_law_draw (pa_consD (pvD 1) (pa_consD pd_int pa_nilD)))) (pa_consD (pd_call (ok_law_some t) (takes_of rfl rfl rfl rfl) (hr.mono (by decide)) rfl t.m_law_some t.F_law_some.kp t.b_law_some (pa_consD (pvD 1) (pa_consD (pd_lst false (pa_consD pd_int (pa_consD pd_int (pa_consD pd_int (pa_consD pd_int pa_nilD))))) pa_nilD))) pa_nilD)))))
    (qs_cons (ps_setD (i := 3) sc_law.nd rfl (by first | exact .inl rfl | exact .inr rfl) (pe_ifD (pt_cmpD (op_eqD hr.units) does_eq (pd_call (ok_law_draw t) (takes_of rfl rfl rfl rfl) (hr.mono (by decide)) rfl t.m_law_draw t.F_law_draw.kp t.b_law_draw (pa_consD (pvD 1) (pa_consD pd_int pa_nilD))) pd_int (nomark _)) (pd_call (ok_law_closing t) (takes_of rfl rfl rfl rfl) (hr.mono (by decide)) rfl t.m_law_closing t.F_law_closing.kp t.b_law_closing (pa_consD (pvD 3) pa_nilD)) (pvD 3)))
    (qs_cons (ps_parD (i := 4) (j := 5) rfl sc_law.nd rfl rfl (by decide) rfl rfl (pa_consD (pd_callB call_len_seq does_len rfl t.z_len boot_len (pa_consD (pvD 3) pa_nilD)) (pa_consD (pd_call (ok_law_triples t) (takes_of rfl rfl rfl rfl) (hr.mono (by decide)) rfl t.m_law_triples t.F_law_triples.kp t.b_law_triples (pa_consD (pvD 3) pa_nilD)) pa_nilD)) rfl)
    (qs_cons (ps_ifD (pt_pw (pw_orD (pt_notD (pt_tru (pd_call (ok_law_is t) (takes_of rfl rfl rfl rfl) (hr.mono (by decide)) rfl t.m_law_is t.F_law_is.kp t.b_law_is (pa_consD (pd_call (ok_short_triples t) (takes_of rfl rfl rfl rfl) (hr.mono (by decide)) rfl t.m_short_triples t.F_short_triples.kp t.b_short_triples (pa_consD (pvD 3) pa_nilD)) (pa_consD (pd_callT call_tuple_ofN does_tuple rfl t.z_tuple boot_tuple (pa_consD (pvD 5) pa_nilD)) pa_nilD))))) (pw_orD1 (pt_cmpD (op_neD hr.units) does_ne (pd_call (ok_is_sound t) (takes_of rfl rfl rfl rfl) (hr.mono (by decide)) rfl t.m_is_sound t.F_is_sound.kp t.b_is_sound (pa_consD (pvD 3) pa_nilD)) (pd_cmp (op_eqD hr.units) does_eq (pd_callB call_len_seq does_len rfl t.z_len boot_len (pa_consD (pvD 5) pa_nilD)) pd_int (nomark _)) (nomark _))))) (qs_one (ps_retD pd_bl)) qs_nil)
    (qs_cons (ps_asgD (tg_two (tg_name _ 6) (tg_name _ 7)) (pd_tup (pa_consD pd_int (pa_consD (pd_tup (pa_consD pd_int (pa_consD pd_non pa_nilD))) pa_nilD))) (pg_tup rfl (pgs_cons (pg_name (i := 6) sc_law.nd rfl (by first | exact .inl rfl | exact .inr rfl)) (pgs_cons (pg_name (i := 7) sc_law.nd rfl (by first | exact .inl rfl | exact .inr rfl)) pgs_nil))))
    (qs_cons (ps_forD (passes_of rfl) rfl (tg_three (tg_name _ 8) (tg_name _ 9) (tg_name _ 10)) (pi_seqD (pvD 5)) (pg_tup rfl (pgs_cons (pg_name (i := 8) sc_law.nd rfl (by first | exact .inl rfl | exact .inr rfl)) (pgs_cons (pg_name (i := 9) sc_law.nd rfl (by first | exact .inl rfl | exact .inr rfl)) (pgs_cons (pg_name (i := 10) sc_law.nd rfl (by first | exact .inl rfl | exact .inr rfl)) pgs_nil))))
    (qs_cons (ps_setD (i := 11) sc_law.nd rfl (by first | exact .inl rfl | exact .inr rfl) (pd_sub (pd_sub (pd_ix (pd_ix (pvD 3) (pvD 8)) (pvD 10)) (pd_ix (pd_ix (pvD 3) (pvD 8)) (pvD 9))) (pd_ix (pd_ix (pvD 3) (pvD 9)) (pvD 10))))
    (qs_one (ps_ifD (pt_cmpD op_gt does_cmp (pvD 11) (pvD 6) (nomark _)) (qs_one (ps_parD (i := 6) (j := 7) rfl sc_law.nd rfl rfl (by decide) rfl rfl (pa_consD (pvD 11) (pa_consD (pd_tup (pa_consD (pvD 11) (pa_consD (pd_tup (pa_consD (pvD 8) (pa_consD (pvD 9) (pa_consD (pvD 10) pa_nilD)))) pa_nilD))) pa_nilD)) rfl)) qs_nil))))
    (qs_cons (ps_ifD (pt_notD (pt_tru (pd_call (ok_law_is t) (takes_of rfl rfl rfl rfl) (hr.mono (by decide)) rfl t.m_law_is t.F_law_is.kp t.b_law_is (pa_consD (pd_call (ok_worst_triple t) (takes_of rfl rfl rfl rfl) (hr.mono (by decide)) rfl t.m_worst_triple t.F_worst_triple.kp t.b_worst_triple (pa_consD (pvD 3) pa_nilD)) (pa_consD (pvD 7) pa_nilD))))) (qs_one (ps_retD pd_bl)) qs_nil)
    (qs_cons (ps_setD (i := 12) sc_law.nd rfl (by first | exact .inl rfl | exact .inr rfl) (pd_lst true pa_nilD))
    (qs_cons (ps_forD (passes_of rfl) rfl (tg_name _ 13) (pi_seqD (pd_slice false (pd_call (ok_law_lots t) (takes_of rfl rfl rfl rfl) (hr.mono (by decide)) rfl t.m_law_lots t.F_law_lots.kp t.b_law_lots (pa_consD (pvD 4) pa_nilD)) (po_someD pd_int) po_noneD)) (pg_name (i := 13) sc_law.nd rfl (by first | exact .inl rfl | exact .inr rfl))
    (qs_one (ps_ifD (pt_notD (pt_tru (pd_callB (cr_any rfl) does_any rfl t.z_any boot_any (pa_consD (pd_lc (own := [("triple", 17)]) false rfl sc_law.nd (pi_seqD (pvD 5)) (blkOk_by (N := ["script", "hand", "turn", "table", "many", "some", "most", "told", "i", "j", "k", "over_v", "good", "lot", "whole", "outs", "words", "triple", "place", "other", "call"]) (sc := (defScope s_law)) (own := [("triple", 17)]) (by decide +kernel)) (tg_name _ 17) (by decide) (fun _ _ _ _ _ => (pg_name (i := 17) sc_law.nd rfl (by first | exact .inl rfl | exact .inr rfl))) (fun _ _ _ _ _ => pts_nilD) (fun _ _ _ _ _ => (pd_callB (cr_all rfl) does_all rfl t.z_all boot_all (pa_consD (pd_lcN (own := [("place", 18)]) false rfl sc_law.nd (pi_seqD (pvD 17)) (blkOk_by (N := ["script", "hand", "turn", "table", "many", "some", "most", "told", "i", "j", "k", "over_v", "good", "lot", "whole", "outs", "words", "triple", "place", "other", "call"]) (own := [("place", 18)]) (by decide +kernel)) (tg_name _ 18) (by decide) (fun _ _ _ _ _ => (pg_name (i := 18) sc_law.nd rfl (by first | exact .inl rfl | exact .inr rfl))) (fun _ _ _ _ _ => pts_nilD) (fun _ _ _ _ _ => (pd_cmp (or_in (hu65 hr)) does_in (pvD 18) (pvD 13) (by with_unfolding_all rfl)))) pa_nilD)))) pa_nilD)))) (qs_one (ps_exprD (pd_append (pvD 12) (pvD 13)))) qs_nil)))
    (qs_cons (ps_setD (i := 14) sc_law.nd rfl (by first | exact .inl rfl | exact .inr rfl) (pd_lst true pa_nilD))
    (qs_cons (ps_forD (passes_of rfl) rfl (tg_name _ 13) (pi_seqD (pd_rev false (pvD 12))) (pg_name (i := 13) sc_law.nd rfl (by first | exact .inl rfl | exact .inr rfl))
    (qs_one (ps_ifD (pt_notD (pt_tru (pd_callB (cr_any rfl) does_any rfl t.z_any boot_any (pa_consD (pd_lc (own := [("other", 19)]) false rfl sc_law.nd (pi_seqD (pvD 14)) (blkOk_by (N := ["script", "hand", "turn", "table", "many", "some", "most", "told", "i", "j", "k", "over_v", "good", "lot", "whole", "outs", "words", "triple", "place", "other", "call"]) (sc := (defScope s_law)) (own := [("other", 19)]) (by decide +kernel)) (tg_name _ 19) (by decide) (fun _ _ _ _ _ => (pg_name (i := 19) sc_law.nd rfl (by first | exact .inl rfl | exact .inr rfl))) (fun _ _ _ _ _ => pts_nilD) (fun _ _ _ _ _ => (pd_callB (cr_all rfl) does_all rfl t.z_all boot_all (pa_consD (pd_lcN (own := [("place", 18)]) false rfl sc_law.nd (pi_seqD (pvD 13)) (blkOk_by (N := ["script", "hand", "turn", "table", "many", "some", "most", "told", "i", "j", "k", "over_v", "good", "lot", "whole", "outs", "words", "triple", "place", "other", "call"]) (own := [("place", 18)]) (by decide +kernel)) (tg_name _ 18) (by decide) (fun _ _ _ _ _ => (pg_name (i := 18) sc_law.nd rfl (by first | exact .inl rfl | exact .inr rfl))) (fun _ _ _ _ _ => pts_nilD) (fun _ _ _ _ _ => (pd_cmp (or_in (hu65 hr)) does_in (pvD 18) (pvD 19) (by with_unfolding_all rfl)))) pa_nilD)))) pa_nilD)))) (qs_one (ps_exprD (pd_append (pvD 14) (pvD 13)))) qs_nil)))
    (qs_cons (ps_ifD (pt_notD (pt_tru (pd_call (ok_law_is t) (takes_of rfl rfl rfl rfl) (hr.mono (by decide)) rfl t.m_law_is t.F_law_is.kp t.b_law_is (pa_consD (pd_call (ok_sound_lots t) (takes_of rfl rfl rfl rfl) (hr.mono (by decide)) rfl t.m_sound_lots t.F_sound_lots.kp t.b_sound_lots (pa_consD (pvD 3) pa_nilD)) (pa_consD (pd_callT call_tuple_ofN does_tuple rfl t.z_tuple boot_tuple (pa_consD (pd_callB (cr_sortedD (hu65 hr)) (does_sorted false) rfl t.z_sorted boot_sorted (pa_consD (pvD 14) pa_nilD)) pa_nilD)) pa_nilD))))) (qs_one (ps_retD pd_bl)) qs_nil)
    (qs_cons (ps_setD (i := 15) sc_law.nd rfl (by first | exact .inl rfl | exact .inr rfl) (pd_lst true pa_nilD))
    (qs_cons (ps_forD (passes_of rfl) rfl (tg_name _ 13) (pi_seqD (pvD 12)) (pg_name (i := 13) sc_law.nd rfl (by first | exact .inl rfl | exact .inr rfl))
    (qs_one (ps_exprD (pd_append (pvD 15) (pd_tup (pa_consD (pd_sub (pvD 4) (pd_callB call_len_seq does_len rfl t.z_len boot_len (pa_consD (pvD 13) pa_nilD))) (pa_consD (pd_callT call_tuple_ofN does_tuple rfl t.z_tuple boot_tuple (pa_consD (pd_lc (own := [("place", 18)]) false rfl sc_law.nd (pi_rangeD1 rfl t.z_range (pa_consD (pvD 4) pa_nilD)) (blkOk_by (N := ["script", "hand", "turn", "table", "many", "some", "most", "told", "i", "j", "k", "over_v", "good", "lot", "whole", "outs", "words", "triple", "place", "other", "call"]) (sc := (defScope s_law)) (own := [("place", 18)]) (by decide +kernel)) (tg_name _ 18) (by decide) (fun _ _ _ _ _ => (pg_name (i := 18) sc_law.nd rfl (by first | exact .inl rfl | exact .inr rfl))) (fun _ _ _ _ _ => (pts_oneD (pt_cmpD (or_notIn (hu65 hr)) does_notIn (pvD 18) (pvD 13) (by with_unfolding_all rfl)))) (fun _ _ _ _ _ => (pvD 18))) pa_nilD)) pa_nilD)))))))
    (qs_cons (ps_ifD (pt_notD (pt_tru (pd_call (ok_law_is t) (takes_of rfl rfl rfl rfl) (hr.mono (by decide)) rfl t.m_law_is t.F_law_is.kp t.b_law_is (pa_consD (pd_call (ok_fewest_out t) (takes_of rfl rfl rfl rfl) (hr.mono (by decide)) rfl t.m_fewest_out t.F_fewest_out.kp t.b_fewest_out (pa_consD (pvD 3) pa_nilD)) (pa_consD (pd_callB (cr_minP rfl (hu65 hr)) (does_bestP _) rfl t.z_min boot_min (pa_consD (pvD 15) pa_nilD)) pa_nilD))))) (qs_one (ps_retD pd_bl)) qs_nil)
    (qs_cons (ps_ifD (pt_notD (pt_tru (pd_call (ok_law_refused t tb_law_refused hc_law_refused hmT_law_refused huT_law_refused) (takes_of rfl rfl rfl rfl) (hr.mono (by decide)) rfl t.m_law_refused t.F_law_refused.kp t.b_law_refused (pa_consD (pvD 1) (pa_consD (pvD 3) pa_nilD))))) (qs_one (ps_retD pd_bl)) qs_nil)
    (qs_one (ps_ifD (pt_cmpD op_gt does_cmp (pvD 4) pd_int (nomark _)) (qs_cons (ps_setLcD (own := [("call", 20)]) (i := 16) false rfl sc_law.nd rfl rfl (sw_true rfl rfl rfl (by decide +kernel)) (pi_seqD (pd_tup (pa_consD (pd_gfn rfl ⟨_, t.m_least_raise, t.n_least_raise⟩) (pa_consD (pd_gfn rfl ⟨_, t.m_least_pairs, t.n_least_pairs⟩) (pa_consD (pd_gfn rfl ⟨_, t.m_needed_pairs, t.n_needed_pairs⟩) pa_nilD))))) (blkOk_by (N := ["script", "hand", "turn", "table", "many", "some", "most", "told", "i", "j", "k", "over_v", "good", "lot", "whole", "outs", "words", "triple", "place", "other", "call"]) (sc := (defScope s_law)) (own := [("call", 20)]) (by decide +kernel)) (tg_name _ 20) (by decide) (fun _ _ _ _ _ => (pg_name (i := 20) sc_law.nd rfl (by first | exact .inl rfl | exact .inr rfl))) (fun _ _ _ _ _ => pts_nilD) (fun _ _ _ _ _ => (pd_lamF (k := 9) t.F_law_word t.b_law_word sc_law_word t.m_law_word (fun cdv => gv_law_wordX _ cdv) rfl rfl (Or.inl rfl) tb_law hcode hmT_law huT_law (hr.mono (by decide)) (LamX.lamS_by (by kernel_rfl)) (fun A outer s H E f c' hr => (pd_callV (k := 6) (tabOk_cons (ok_least_raise t) (by decide) t.n_least_raise t.F_least_raise.kp t.b_least_raise (tabOk_cons (ok_least_pairs t) (by decide) t.n_least_pairs t.F_least_pairs.kp t.b_least_pairs (tabOk_cons (ok_needed_pairs t) (by decide) t.n_needed_pairs t.F_needed_pairs.kp t.b_needed_pairs tabOk_nil))) (takes_of rfl rfl rfl rfl) (hr.mono (by decide)) rfl (by first | exact .inl rfl | exact .inr (.inl rfl) | exact .inr (.inr rfl)) (pa_consD (pvD 3) pa_nilD))))))
    (qs_one (ps_ifD (pt_cmpD (op_neD hr.units) does_ne (pvD 16) (pd_rep false (pd_lst false (pa_consD pd_str pa_nilD)) pd_int) (nomark _)) (qs_one (ps_retD pd_bl)) qs_nil))) qs_nil)))))))))))))))))))
    (qs_one (ps_retD pd_bl))))
end
end Lw90
namespace Lw90
open PySem PySem.Spec PyProof.Rows L2 PD
theorem all_mk {w : World} {K : PySem.W.Frag} {h : Heap} {mg : Str → Option Value} {fa : Addr} (X : K.In h) (G : h.Ns mainGlobals mg) (hfa : mg "law" = some (.ref fa)) (own : ∀ (y : Str) (fy : Addr), ((recsOf PySem.Challenge.rw_farhouse_k90_whole_short_triples_and_ref.prog).any fun e => e.name == y) = true → mg y = some (.ref fy) → LamX.OwnTab K fy h)
    {cL_law Pt_law : Addr} {eL_law : Value} {ddL_law : Option Addr} {vsL_law : Array Value} {slL_law : Array (Option Value)}
    {cL_law_refused Pt_law_refused : Addr} {eL_law_refused : Value} {ddL_law_refused : Option Addr} {vsL_law_refused : Array Value} {slL_law_refused : Array (Option Value)}
    {f_is_integer : Addr} {od_is_integer an_is_integer : Option Addr} {sl_is_integer : Array (Option Value)} {oc_is_integer kV_is_integer dc_is_integer pm_is_integer cd_is_integer ct_is_integer : Value}
    {f_is_within : Addr} {od_is_within an_is_within : Option Addr} {sl_is_within : Array (Option Value)} {oc_is_within kV_is_within dc_is_within pm_is_within cd_is_within ct_is_within : Value}
    {f_is_sized : Addr} {od_is_sized an_is_sized : Option Addr} {sl_is_sized : Array (Option Value)} {oc_is_sized kV_is_sized dc_is_sized pm_is_sized cd_is_sized ct_is_sized : Value}
    {f_is_table : Addr} {od_is_table an_is_table : Option Addr} {sl_is_table : Array (Option Value)} {oc_is_table kV_is_table dc_is_table pm_is_table cd_is_table ct_is_table : Value}
    {f_check_table : Addr} {od_check_table an_check_table : Option Addr} {sl_check_table : Array (Option Value)} {oc_check_table kV_check_table dc_check_table pm_check_table cd_check_table ct_check_table : Value}
    {f_short_triple : Addr} {od_short_triple an_short_triple : Option Addr} {sl_short_triple : Array (Option Value)} {oc_short_triple kV_short_triple dc_short_triple pm_short_triple cd_short_triple ct_short_triple : Value}
    {f_is_sound : Addr} {od_is_sound an_is_sound : Option Addr} {sl_is_sound : Array (Option Value)} {oc_is_sound kV_is_sound dc_is_sound pm_is_sound cd_is_sound ct_is_sound : Value}
    {f_check_few : Addr} {od_check_few an_check_few : Option Addr} {sl_check_few : Array (Option Value)} {oc_check_few kV_check_few dc_check_few pm_check_few cd_check_few ct_check_few : Value}
    {f_least_raise : Addr} {od_least_raise an_least_raise : Option Addr} {sl_least_raise : Array (Option Value)} {oc_least_raise kV_least_raise dc_least_raise pm_least_raise cd_least_raise ct_least_raise : Value}
    {f_least_pairs : Addr} {od_least_pairs an_least_pairs : Option Addr} {sl_least_pairs : Array (Option Value)} {oc_least_pairs kV_least_pairs dc_least_pairs pm_least_pairs cd_least_pairs ct_least_pairs : Value}
    {f_needed_pairs : Addr} {od_needed_pairs an_needed_pairs : Option Addr} {sl_needed_pairs : Array (Option Value)} {oc_needed_pairs kV_needed_pairs dc_needed_pairs pm_needed_pairs cd_needed_pairs ct_needed_pairs : Value}
    {f_all_triples : Addr} {od_all_triples an_all_triples : Option Addr} {sl_all_triples : Array (Option Value)} {oc_all_triples kV_all_triples dc_all_triples pm_all_triples cd_all_triples ct_all_triples : Value}
    {f_lack_at : Addr} {od_lack_at an_lack_at : Option Addr} {sl_lack_at : Array (Option Value)} {oc_lack_at kV_lack_at dc_lack_at pm_lack_at cd_lack_at ct_lack_at : Value}
    {f_raw_short : Addr} {od_raw_short an_raw_short : Option Addr} {sl_raw_short : Array (Option Value)} {oc_raw_short kV_raw_short dc_raw_short pm_raw_short cd_raw_short ct_raw_short : Value}
    {f_short_triples : Addr} {od_short_triples an_short_triples : Option Addr} {sl_short_triples : Array (Option Value)} {oc_short_triples kV_short_triples dc_short_triples pm_short_triples cd_short_triples ct_short_triples : Value}
    {f_worst_triple : Addr} {od_worst_triple an_worst_triple : Option Addr} {sl_worst_triple : Array (Option Value)} {oc_worst_triple kV_worst_triple dc_worst_triple pm_worst_triple cd_worst_triple ct_worst_triple : Value}
    {f_all_lots : Addr} {od_all_lots an_all_lots : Option Addr} {sl_all_lots : Array (Option Value)} {oc_all_lots kV_all_lots dc_all_lots pm_all_lots cd_all_lots ct_all_lots : Value}
    {f_raw_part : Addr} {od_raw_part an_raw_part : Option Addr} {sl_raw_part : Array (Option Value)} {oc_raw_part kV_raw_part dc_raw_part pm_raw_part cd_raw_part ct_raw_part : Value}
    {f_raw_sound : Addr} {od_raw_sound an_raw_sound : Option Addr} {sl_raw_sound : Array (Option Value)} {oc_raw_sound kV_raw_sound dc_raw_sound pm_raw_sound cd_raw_sound ct_raw_sound : Value}
    {f_sound_lots : Addr} {od_sound_lots an_sound_lots : Option Addr} {sl_sound_lots : Array (Option Value)} {oc_sound_lots kV_sound_lots dc_sound_lots pm_sound_lots cd_sound_lots ct_sound_lots : Value}
    {f_fewest_out : Addr} {od_fewest_out an_fewest_out : Option Addr} {sl_fewest_out : Array (Option Value)} {oc_fewest_out kV_fewest_out dc_fewest_out pm_fewest_out cd_fewest_out ct_fewest_out : Value}
    {f_law_hand : Addr} {od_law_hand an_law_hand : Option Addr} {sl_law_hand : Array (Option Value)} {oc_law_hand kV_law_hand dc_law_hand pm_law_hand cd_law_hand ct_law_hand : Value}
    {f_law_draw : Addr} {od_law_draw an_law_draw : Option Addr} {sl_law_draw : Array (Option Value)} {oc_law_draw kV_law_draw dc_law_draw pm_law_draw cd_law_draw ct_law_draw : Value}
    {f_law_some : Addr} {od_law_some an_law_some : Option Addr} {sl_law_some : Array (Option Value)} {oc_law_some kV_law_some dc_law_some pm_law_some cd_law_some ct_law_some : Value}
    {f_law_table : Addr} {od_law_table an_law_table : Option Addr} {sl_law_table : Array (Option Value)} {oc_law_table kV_law_table dc_law_table pm_law_table cd_law_table ct_law_table : Value}
    {f_law_closing : Addr} {od_law_closing an_law_closing : Option Addr} {sl_law_closing : Array (Option Value)} {oc_law_closing kV_law_closing dc_law_closing pm_law_closing cd_law_closing ct_law_closing : Value}
    {f_law_lots : Addr} {od_law_lots an_law_lots : Option Addr} {sl_law_lots : Array (Option Value)} {oc_law_lots kV_law_lots dc_law_lots pm_law_lots cd_law_lots ct_law_lots : Value}
    {f_law_is : Addr} {od_law_is an_law_is : Option Addr} {sl_law_is : Array (Option Value)} {oc_law_is kV_law_is dc_law_is pm_law_is cd_law_is ct_law_is : Value}
    {f_law_word : Addr} {od_law_word an_law_word : Option Addr} {sl_law_word : Array (Option Value)} {oc_law_word kV_law_word dc_law_word pm_law_word cd_law_word ct_law_word : Value}
    {f_law_triples : Addr} {od_law_triples an_law_triples : Option Addr} {sl_law_triples : Array (Option Value)} {oc_law_triples kV_law_triples dc_law_triples pm_law_triples cd_law_triples ct_law_triples : Value}
    {f_is_mend : Addr} {od_is_mend an_is_mend : Option Addr} {sl_is_mend : Array (Option Value)} {oc_is_mend kV_is_mend dc_is_mend pm_is_mend cd_is_mend ct_is_mend : Value}
    {f_common : Addr} {od_common an_common : Option Addr} {sl_common : Array (Option Value)} {oc_common kV_common dc_common pm_common cd_common ct_common : Value}
    {f_is_share : Addr} {od_is_share an_is_share : Option Addr} {sl_is_share : Array (Option Value)} {oc_is_share kV_is_share dc_is_share pm_is_share cd_is_share ct_is_share : Value}
    {f_share : Addr} {od_share an_share : Option Addr} {sl_share : Array (Option Value)} {oc_share kV_share dc_share pm_share cd_share ct_share : Value}
    {f_plus : Addr} {od_plus an_plus : Option Addr} {sl_plus : Array (Option Value)} {oc_plus kV_plus dc_plus pm_plus cd_plus ct_plus : Value}
    {f_is_less : Addr} {od_is_less an_is_less : Option Addr} {sl_is_less : Array (Option Value)} {oc_is_less kV_is_less dc_is_less pm_is_less cd_is_less ct_is_less : Value}
    {f_is_mend_of : Addr} {od_is_mend_of an_is_mend_of : Option Addr} {sl_is_mend_of : Array (Option Value)} {oc_is_mend_of kV_is_mend_of dc_is_mend_of pm_is_mend_of cd_is_mend_of ct_is_mend_of : Value}
    {f_check_mend : Addr} {od_check_mend an_check_mend : Option Addr} {sl_check_mend : Array (Option Value)} {oc_check_mend kV_check_mend dc_check_mend pm_check_mend cd_check_mend ct_check_mend : Value}
    {f_off_most : Addr} {od_off_most an_off_most : Option Addr} {sl_off_most : Array (Option Value)} {oc_off_most kV_off_most dc_off_most pm_off_most cd_off_most ct_off_most : Value}
    {f_off_sum : Addr} {od_off_sum an_off_sum : Option Addr} {sl_off_sum : Array (Option Value)} {oc_off_sum kV_off_sum dc_off_sum pm_off_sum cd_off_sum ct_off_sum : Value}
    {f_off_pairs : Addr} {od_off_pairs an_off_pairs : Option Addr} {sl_off_pairs : Array (Option Value)} {oc_off_pairs kV_off_pairs dc_off_pairs pm_off_pairs cd_off_pairs ct_off_pairs : Value}
    {f_nearest_mend : Addr} {od_nearest_mend an_nearest_mend : Option Addr} {sl_nearest_mend : Array (Option Value)} {oc_nearest_mend kV_nearest_mend dc_nearest_mend pm_nearest_mend cd_nearest_mend ct_nearest_mend : Value}
    {f_is_nearest_mend : Addr} {od_is_nearest_mend an_is_nearest_mend : Option Addr} {sl_is_nearest_mend : Array (Option Value)} {oc_is_nearest_mend kV_is_nearest_mend dc_is_nearest_mend pm_is_nearest_mend cd_is_nearest_mend ct_is_nearest_mend : Value}
    {f_is_least_raise : Addr} {od_is_least_raise an_is_least_raise : Option Addr} {sl_is_least_raise : Array (Option Value)} {oc_is_least_raise kV_is_least_raise dc_is_least_raise pm_is_least_raise cd_is_least_raise ct_is_least_raise : Value}
    {f_least_cut : Addr} {od_least_cut an_least_cut : Option Addr} {sl_least_cut : Array (Option Value)} {oc_least_cut kV_least_cut dc_least_cut pm_least_cut cd_least_cut ct_least_cut : Value}
    {f_is_least_pairs : Addr} {od_is_least_pairs an_is_least_pairs : Option Addr} {sl_is_least_pairs : Array (Option Value)} {oc_is_least_pairs kV_is_least_pairs dc_is_least_pairs pm_is_least_pairs cd_is_least_pairs ct_is_least_pairs : Value}
    {f_law_refused : Addr} {od_law_refused an_law_refused : Option Addr} {sl_law_refused : Array (Option Value)} {oc_law_refused kV_law_refused dc_law_refused pm_law_refused ct_law_refused : Value}
    {f_law : Addr} {od_law an_law : Option Addr} {sl_law : Array (Option Value)} {oc_law kV_law dc_law pm_law ct_law : Value}
    {tk_MOST_FAR : Tok}
    {tk_MOST_PLACES : Tok}
    {tk_MOST_RAISED : Tok}
    {q_ZERO : Addr} {tk_ZERO_0 tk_ZERO_1 : Tok} {nn_ZERO : Nat} {sl_ZERO : Array (Option Value)}
    {e_FarError : Addr}
    {e_NoMend : Addr}
    {e_NoTable : Addr}
    {e_TooMany : Addr}
    {f_ini_TooMany : Addr} {od_ini_TooMany an_ini_TooMany : Option Addr} {sl_ini_TooMany : Array (Option Value)} {oc_ini_TooMany kV_ini_TooMany dc_ini_TooMany pm_ini_TooMany cd_ini_TooMany ct_ini_TooMany : Value}
    (a_is_integer : PySem.W.nsIn K mainGlobals "is_integer" = some (some (.ref f_is_integer))) (l_is_integer : K.lookup f_is_integer = some ⟨oc_is_integer, od_is_integer, .func (PySem.W.fnOf "is_integer" "is_integer" (defArgs s_is_integer) (defBody s_is_integer) (defScope s_is_integer) .none kV_is_integer dc_is_integer pm_is_integer an_is_integer cd_is_integer ct_is_integer), sl_is_integer⟩) (c_is_integer : PySem.W.codeIn K cd_is_integer "is_integer" = true) (k_is_integer : PySem.W.keepIn K (.ref f_is_integer) = true)
    (a_is_within : PySem.W.nsIn K mainGlobals "is_within" = some (some (.ref f_is_within))) (l_is_within : K.lookup f_is_within = some ⟨oc_is_within, od_is_within, .func (PySem.W.fnOf "is_within" "is_within" (defArgs s_is_within) (defBody s_is_within) (defScope s_is_within) .none kV_is_within dc_is_within pm_is_within an_is_within cd_is_within ct_is_within), sl_is_within⟩) (c_is_within : PySem.W.codeIn K cd_is_within "is_within" = true) (k_is_within : PySem.W.keepIn K (.ref f_is_within) = true)
    (a_is_sized : PySem.W.nsIn K mainGlobals "is_sized" = some (some (.ref f_is_sized))) (l_is_sized : K.lookup f_is_sized = some ⟨oc_is_sized, od_is_sized, .func (PySem.W.fnOf "is_sized" "is_sized" (defArgs s_is_sized) (defBody s_is_sized) (defScope s_is_sized) .none kV_is_sized dc_is_sized pm_is_sized an_is_sized cd_is_sized ct_is_sized), sl_is_sized⟩) (c_is_sized : PySem.W.codeIn K cd_is_sized "is_sized" = true) (k_is_sized : PySem.W.keepIn K (.ref f_is_sized) = true)
    (a_is_table : PySem.W.nsIn K mainGlobals "is_table" = some (some (.ref f_is_table))) (l_is_table : K.lookup f_is_table = some ⟨oc_is_table, od_is_table, .func (PySem.W.fnOf "is_table" "is_table" (defArgs s_is_table) (defBody s_is_table) (defScope s_is_table) .none kV_is_table dc_is_table pm_is_table an_is_table cd_is_table ct_is_table), sl_is_table⟩) (c_is_table : PySem.W.codeIn K cd_is_table "is_table" = true) (k_is_table : PySem.W.keepIn K (.ref f_is_table) = true)
    (a_check_table : PySem.W.nsIn K mainGlobals "check_table" = some (some (.ref f_check_table))) (l_check_table : K.lookup f_check_table = some ⟨oc_check_table, od_check_table, .func (PySem.W.fnOf "check_table" "check_table" (defArgs s_check_table) (defBody s_check_table) (defScope s_check_table) .none kV_check_table dc_check_table pm_check_table an_check_table cd_check_table ct_check_table), sl_check_table⟩) (c_check_table : PySem.W.codeIn K cd_check_table "check_table" = true) (k_check_table : PySem.W.keepIn K (.ref f_check_table) = true)
    (a_short_triple : PySem.W.nsIn K mainGlobals "short_triple" = some (some (.ref f_short_triple))) (l_short_triple : K.lookup f_short_triple = some ⟨oc_short_triple, od_short_triple, .func (PySem.W.fnOf "short_triple" "short_triple" (defArgs s_short_triple) (defBody s_short_triple) (defScope s_short_triple) .none kV_short_triple dc_short_triple pm_short_triple an_short_triple cd_short_triple ct_short_triple), sl_short_triple⟩) (c_short_triple : PySem.W.codeIn K cd_short_triple "short_triple" = true) (k_short_triple : PySem.W.keepIn K (.ref f_short_triple) = true)
    (a_is_sound : PySem.W.nsIn K mainGlobals "is_sound" = some (some (.ref f_is_sound))) (l_is_sound : K.lookup f_is_sound = some ⟨oc_is_sound, od_is_sound, .func (PySem.W.fnOf "is_sound" "is_sound" (defArgs s_is_sound) (defBody s_is_sound) (defScope s_is_sound) .none kV_is_sound dc_is_sound pm_is_sound an_is_sound cd_is_sound ct_is_sound), sl_is_sound⟩) (c_is_sound : PySem.W.codeIn K cd_is_sound "is_sound" = true) (k_is_sound : PySem.W.keepIn K (.ref f_is_sound) = true)
    (a_check_few : PySem.W.nsIn K mainGlobals "check_few" = some (some (.ref f_check_few))) (l_check_few : K.lookup f_check_few = some ⟨oc_check_few, od_check_few, .func (PySem.W.fnOf "check_few" "check_few" (defArgs s_check_few) (defBody s_check_few) (defScope s_check_few) .none kV_check_few dc_check_few pm_check_few an_check_few cd_check_few ct_check_few), sl_check_few⟩) (c_check_few : PySem.W.codeIn K cd_check_few "check_few" = true) (k_check_few : PySem.W.keepIn K (.ref f_check_few) = true)
    (a_least_raise : PySem.W.nsIn K mainGlobals "least_raise" = some (some (.ref f_least_raise))) (l_least_raise : K.lookup f_least_raise = some ⟨oc_least_raise, od_least_raise, .func (PySem.W.fnOf "least_raise" "least_raise" (defArgs s_least_raise) (defBody s_least_raise) (defScope s_least_raise) .none kV_least_raise dc_least_raise pm_least_raise an_least_raise cd_least_raise ct_least_raise), sl_least_raise⟩) (c_least_raise : PySem.W.codeIn K cd_least_raise "least_raise" = true) (k_least_raise : PySem.W.keepIn K (.ref f_least_raise) = true)
    (a_least_pairs : PySem.W.nsIn K mainGlobals "least_pairs" = some (some (.ref f_least_pairs))) (l_least_pairs : K.lookup f_least_pairs = some ⟨oc_least_pairs, od_least_pairs, .func (PySem.W.fnOf "least_pairs" "least_pairs" (defArgs s_least_pairs) (defBody s_least_pairs) (defScope s_least_pairs) .none kV_least_pairs dc_least_pairs pm_least_pairs an_least_pairs cd_least_pairs ct_least_pairs), sl_least_pairs⟩) (c_least_pairs : PySem.W.codeIn K cd_least_pairs "least_pairs" = true) (k_least_pairs : PySem.W.keepIn K (.ref f_least_pairs) = true)
    (a_needed_pairs : PySem.W.nsIn K mainGlobals "needed_pairs" = some (some (.ref f_needed_pairs))) (l_needed_pairs : K.lookup f_needed_pairs = some ⟨oc_needed_pairs, od_needed_pairs, .func (PySem.W.fnOf "needed_pairs" "needed_pairs" (defArgs s_needed_pairs) (defBody s_needed_pairs) (defScope s_needed_pairs) .none kV_needed_pairs dc_needed_pairs pm_needed_pairs an_needed_pairs cd_needed_pairs ct_needed_pairs), sl_needed_pairs⟩) (c_needed_pairs : PySem.W.codeIn K cd_needed_pairs "needed_pairs" = true) (k_needed_pairs : PySem.W.keepIn K (.ref f_needed_pairs) = true)
    (a_all_triples : PySem.W.nsIn K mainGlobals "all_triples" = some (some (.ref f_all_triples))) (l_all_triples : K.lookup f_all_triples = some ⟨oc_all_triples, od_all_triples, .func (PySem.W.fnOf "all_triples" "all_triples" (defArgs s_all_triples) (defBody s_all_triples) (defScope s_all_triples) .none kV_all_triples dc_all_triples pm_all_triples an_all_triples cd_all_triples ct_all_triples), sl_all_triples⟩) (c_all_triples : PySem.W.codeIn K cd_all_triples "all_triples" = true) (k_all_triples : PySem.W.keepIn K (.ref f_all_triples) = true)
    (a_lack_at : PySem.W.nsIn K mainGlobals "lack_at" = some (some (.ref f_lack_at))) (l_lack_at : K.lookup f_lack_at = some ⟨oc_lack_at, od_lack_at, .func (PySem.W.fnOf "lack_at" "lack_at" (defArgs s_lack_at) (defBody s_lack_at) (defScope s_lack_at) .none kV_lack_at dc_lack_at pm_lack_at an_lack_at cd_lack_at ct_lack_at), sl_lack_at⟩) (c_lack_at : PySem.W.codeIn K cd_lack_at "lack_at" = true) (k_lack_at : PySem.W.keepIn K (.ref f_lack_at) = true)
    (a_raw_short : PySem.W.nsIn K mainGlobals "raw_short" = some (some (.ref f_raw_short))) (l_raw_short : K.lookup f_raw_short = some ⟨oc_raw_short, od_raw_short, .func (PySem.W.fnOf "raw_short" "raw_short" (defArgs s_raw_short) (defBody s_raw_short) (defScope s_raw_short) .none kV_raw_short dc_raw_short pm_raw_short an_raw_short cd_raw_short ct_raw_short), sl_raw_short⟩) (c_raw_short : PySem.W.codeIn K cd_raw_short "raw_short" = true) (k_raw_short : PySem.W.keepIn K (.ref f_raw_short) = true)
    (a_short_triples : PySem.W.nsIn K mainGlobals "short_triples" = some (some (.ref f_short_triples))) (l_short_triples : K.lookup f_short_triples = some ⟨oc_short_triples, od_short_triples, .func (PySem.W.fnOf "short_triples" "short_triples" (defArgs s_short_triples) (defBody s_short_triples) (defScope s_short_triples) .none kV_short_triples dc_short_triples pm_short_triples an_short_triples cd_short_triples ct_short_triples), sl_short_triples⟩) (c_short_triples : PySem.W.codeIn K cd_short_triples "short_triples" = true) (k_short_triples : PySem.W.keepIn K (.ref f_short_triples) = true)
    (a_worst_triple : PySem.W.nsIn K mainGlobals "worst_triple" = some (some (.ref f_worst_triple))) (l_worst_triple : K.lookup f_worst_triple = some ⟨oc_worst_triple, od_worst_triple, .func (PySem.W.fnOf "worst_triple" "worst_triple" (defArgs s_worst_triple) (defBody s_worst_triple) (defScope s_worst_triple) .none kV_worst_triple dc_worst_triple pm_worst_triple an_worst_triple cd_worst_triple ct_worst_triple), sl_worst_triple⟩) (c_worst_triple : PySem.W.codeIn K cd_worst_triple "worst_triple" = true) (k_worst_triple : PySem.W.keepIn K (.ref f_worst_triple) = true)
    (a_all_lots : PySem.W.nsIn K mainGlobals "all_lots" = some (some (.ref f_all_lots))) (l_all_lots : K.lookup f_all_lots = some ⟨oc_all_lots, od_all_lots, .func (PySem.W.fnOf "all_lots" "all_lots" (defArgs s_all_lots) (defBody s_all_lots) (defScope s_all_lots) .none kV_all_lots dc_all_lots pm_all_lots an_all_lots cd_all_lots ct_all_lots), sl_all_lots⟩) (c_all_lots : PySem.W.codeIn K cd_all_lots "all_lots" = true) (k_all_lots : PySem.W.keepIn K (.ref f_all_lots) = true)
    (a_raw_part : PySem.W.nsIn K mainGlobals "raw_part" = some (some (.ref f_raw_part))) (l_raw_part : K.lookup f_raw_part = some ⟨oc_raw_part, od_raw_part, .func (PySem.W.fnOf "raw_part" "raw_part" (defArgs s_raw_part) (defBody s_raw_part) (defScope s_raw_part) .none kV_raw_part dc_raw_part pm_raw_part an_raw_part cd_raw_part ct_raw_part), sl_raw_part⟩) (c_raw_part : PySem.W.codeIn K cd_raw_part "raw_part" = true) (k_raw_part : PySem.W.keepIn K (.ref f_raw_part) = true)
    (a_raw_sound : PySem.W.nsIn K mainGlobals "raw_sound" = some (some (.ref f_raw_sound))) (l_raw_sound : K.lookup f_raw_sound = some ⟨oc_raw_sound, od_raw_sound, .func (PySem.W.fnOf "raw_sound" "raw_sound" (defArgs s_raw_sound) (defBody s_raw_sound) (defScope s_raw_sound) .none kV_raw_sound dc_raw_sound pm_raw_sound an_raw_sound cd_raw_sound ct_raw_sound), sl_raw_sound⟩) (c_raw_sound : PySem.W.codeIn K cd_raw_sound "raw_sound" = true) (k_raw_sound : PySem.W.keepIn K (.ref f_raw_sound) = true)
    (a_sound_lots : PySem.W.nsIn K mainGlobals "sound_lots" = some (some (.ref f_sound_lots))) (l_sound_lots : K.lookup f_sound_lots = some ⟨oc_sound_lots, od_sound_lots, .func (PySem.W.fnOf "sound_lots" "sound_lots" (defArgs s_sound_lots) (defBody s_sound_lots) (defScope s_sound_lots) .none kV_sound_lots dc_sound_lots pm_sound_lots an_sound_lots cd_sound_lots ct_sound_lots), sl_sound_lots⟩) (c_sound_lots : PySem.W.codeIn K cd_sound_lots "sound_lots" = true) (k_sound_lots : PySem.W.keepIn K (.ref f_sound_lots) = true)
    (a_fewest_out : PySem.W.nsIn K mainGlobals "fewest_out" = some (some (.ref f_fewest_out))) (l_fewest_out : K.lookup f_fewest_out = some ⟨oc_fewest_out, od_fewest_out, .func (PySem.W.fnOf "fewest_out" "fewest_out" (defArgs s_fewest_out) (defBody s_fewest_out) (defScope s_fewest_out) .none kV_fewest_out dc_fewest_out pm_fewest_out an_fewest_out cd_fewest_out ct_fewest_out), sl_fewest_out⟩) (c_fewest_out : PySem.W.codeIn K cd_fewest_out "fewest_out" = true) (k_fewest_out : PySem.W.keepIn K (.ref f_fewest_out) = true)
    (a_law_hand : PySem.W.nsIn K mainGlobals "_law_hand" = some (some (.ref f_law_hand))) (l_law_hand : K.lookup f_law_hand = some ⟨oc_law_hand, od_law_hand, .func (PySem.W.fnOf "_law_hand" "_law_hand" (defArgs s_law_hand) (defBody s_law_hand) (defScope s_law_hand) .none kV_law_hand dc_law_hand pm_law_hand an_law_hand cd_law_hand ct_law_hand), sl_law_hand⟩) (c_law_hand : PySem.W.codeIn K cd_law_hand "_law_hand" = true) (k_law_hand : PySem.W.keepIn K (.ref f_law_hand) = true)
    (a_law_draw : PySem.W.nsIn K mainGlobals "_law_draw" = some (some (.ref f_law_draw))) (l_law_draw : K.lookup f_law_draw = some ⟨oc_law_draw, od_law_draw, .func (PySem.W.fnOf "_law_draw" "_law_draw" (defArgs s_law_draw) (defBody s_law_draw) (defScope s_law_draw) .none kV_law_draw dc_law_draw pm_law_draw an_law_draw cd_law_draw ct_law_draw), sl_law_draw⟩) (c_law_draw : PySem.W.codeIn K cd_law_draw "_law_draw" = true) (k_law_draw : PySem.W.keepIn K (.ref f_law_draw) = true)
    (a_law_some : PySem.W.nsIn K mainGlobals "_law_some" = some (some (.ref f_law_some))) (l_law_some : K.lookup f_law_some = some ⟨oc_law_some, od_law_some, .func (PySem.W.fnOf "_law_some" "_law_some" (defArgs s_law_some) (defBody s_law_some) (defScope s_law_some) .none kV_law_some dc_law_some pm_law_some an_law_some cd_law_some ct_law_some), sl_law_some⟩) (c_law_some : PySem.W.codeIn K cd_law_some "_law_some" = true) (k_law_some : PySem.W.keepIn K (.ref f_law_some) = true)
    (a_law_table : PySem.W.nsIn K mainGlobals "_law_table" = some (some (.ref f_law_table))) (l_law_table : K.lookup f_law_table = some ⟨oc_law_table, od_law_table, .func (PySem.W.fnOf "_law_table" "_law_table" (defArgs s_law_table) (defBody s_law_table) (defScope s_law_table) .none kV_law_table dc_law_table pm_law_table an_law_table cd_law_table ct_law_table), sl_law_table⟩) (c_law_table : PySem.W.codeIn K cd_law_table "_law_table" = true) (k_law_table : PySem.W.keepIn K (.ref f_law_table) = true)
    (a_law_closing : PySem.W.nsIn K mainGlobals "_law_closing" = some (some (.ref f_law_closing))) (l_law_closing : K.lookup f_law_closing = some ⟨oc_law_closing, od_law_closing, .func (PySem.W.fnOf "_law_closing" "_law_closing" (defArgs s_law_closing) (defBody s_law_closing) (defScope s_law_closing) .none kV_law_closing dc_law_closing pm_law_closing an_law_closing cd_law_closing ct_law_closing), sl_law_closing⟩) (c_law_closing : PySem.W.codeIn K cd_law_closing "_law_closing" = true) (k_law_closing : PySem.W.keepIn K (.ref f_law_closing) = true)
    (a_law_lots : PySem.W.nsIn K mainGlobals "_law_lots" = some (some (.ref f_law_lots))) (l_law_lots : K.lookup f_law_lots = some ⟨oc_law_lots, od_law_lots, .func (PySem.W.fnOf "_law_lots" "_law_lots" (defArgs s_law_lots) (defBody s_law_lots) (defScope s_law_lots) .none kV_law_lots dc_law_lots pm_law_lots an_law_lots cd_law_lots ct_law_lots), sl_law_lots⟩) (c_law_lots : PySem.W.codeIn K cd_law_lots "_law_lots" = true) (k_law_lots : PySem.W.keepIn K (.ref f_law_lots) = true)
    (a_law_is : PySem.W.nsIn K mainGlobals "_law_is" = some (some (.ref f_law_is))) (l_law_is : K.lookup f_law_is = some ⟨oc_law_is, od_law_is, .func (PySem.W.fnOf "_law_is" "_law_is" (defArgs s_law_is) (defBody s_law_is) (defScope s_law_is) .none kV_law_is dc_law_is pm_law_is an_law_is cd_law_is ct_law_is), sl_law_is⟩) (c_law_is : PySem.W.codeIn K cd_law_is "_law_is" = true) (k_law_is : PySem.W.keepIn K (.ref f_law_is) = true)
    (a_law_word : PySem.W.nsIn K mainGlobals "_law_word" = some (some (.ref f_law_word))) (l_law_word : K.lookup f_law_word = some ⟨oc_law_word, od_law_word, .func (PySem.W.fnOf "_law_word" "_law_word" (defArgs s_law_word) (defBody s_law_word) (defScope s_law_word) .none kV_law_word dc_law_word pm_law_word an_law_word cd_law_word ct_law_word), sl_law_word⟩) (c_law_word : PySem.W.codeIn K cd_law_word "_law_word" = true) (k_law_word : PySem.W.keepIn K (.ref f_law_word) = true)
    (a_law_triples : PySem.W.nsIn K mainGlobals "_law_triples" = some (some (.ref f_law_triples))) (l_law_triples : K.lookup f_law_triples = some ⟨oc_law_triples, od_law_triples, .func (PySem.W.fnOf "_law_triples" "_law_triples" (defArgs s_law_triples) (defBody s_law_triples) (defScope s_law_triples) .none kV_law_triples dc_law_triples pm_law_triples an_law_triples cd_law_triples ct_law_triples), sl_law_triples⟩) (c_law_triples : PySem.W.codeIn K cd_law_triples "_law_triples" = true) (k_law_triples : PySem.W.keepIn K (.ref f_law_triples) = true)
    (a_is_mend : PySem.W.nsIn K mainGlobals "is_mend" = some (some (.ref f_is_mend))) (l_is_mend : K.lookup f_is_mend = some ⟨oc_is_mend, od_is_mend, .func (PySem.W.fnOf "is_mend" "is_mend" (defArgs s_is_mend) (defBody s_is_mend) (defScope s_is_mend) .none kV_is_mend dc_is_mend pm_is_mend an_is_mend cd_is_mend ct_is_mend), sl_is_mend⟩) (c_is_mend : PySem.W.codeIn K cd_is_mend "is_mend" = true) (k_is_mend : PySem.W.keepIn K (.ref f_is_mend) = true)
    (a_common : PySem.W.nsIn K mainGlobals "common" = some (some (.ref f_common))) (l_common : K.lookup f_common = some ⟨oc_common, od_common, .func (PySem.W.fnOf "common" "common" (defArgs s_common) (defBody s_common) (defScope s_common) .none kV_common dc_common pm_common an_common cd_common ct_common), sl_common⟩) (c_common : PySem.W.codeIn K cd_common "common" = true) (k_common : PySem.W.keepIn K (.ref f_common) = true)
    (a_is_share : PySem.W.nsIn K mainGlobals "is_share" = some (some (.ref f_is_share))) (l_is_share : K.lookup f_is_share = some ⟨oc_is_share, od_is_share, .func (PySem.W.fnOf "is_share" "is_share" (defArgs s_is_share) (defBody s_is_share) (defScope s_is_share) .none kV_is_share dc_is_share pm_is_share an_is_share cd_is_share ct_is_share), sl_is_share⟩) (c_is_share : PySem.W.codeIn K cd_is_share "is_share" = true) (k_is_share : PySem.W.keepIn K (.ref f_is_share) = true)
    (a_share : PySem.W.nsIn K mainGlobals "share" = some (some (.ref f_share))) (l_share : K.lookup f_share = some ⟨oc_share, od_share, .func (PySem.W.fnOf "share" "share" (defArgs s_share) (defBody s_share) (defScope s_share) .none kV_share dc_share pm_share an_share cd_share ct_share), sl_share⟩) (c_share : PySem.W.codeIn K cd_share "share" = true) (k_share : PySem.W.keepIn K (.ref f_share) = true)
    (a_plus : PySem.W.nsIn K mainGlobals "plus" = some (some (.ref f_plus))) (l_plus : K.lookup f_plus = some ⟨oc_plus, od_plus, .func (PySem.W.fnOf "plus" "plus" (defArgs s_plus) (defBody s_plus) (defScope s_plus) .none kV_plus dc_plus pm_plus an_plus cd_plus ct_plus), sl_plus⟩) (c_plus : PySem.W.codeIn K cd_plus "plus" = true) (k_plus : PySem.W.keepIn K (.ref f_plus) = true)
    (a_is_less : PySem.W.nsIn K mainGlobals "is_less" = some (some (.ref f_is_less))) (l_is_less : K.lookup f_is_less = some ⟨oc_is_less, od_is_less, .func (PySem.W.fnOf "is_less" "is_less" (defArgs s_is_less) (defBody s_is_less) (defScope s_is_less) .none kV_is_less dc_is_less pm_is_less an_is_less cd_is_less ct_is_less), sl_is_less⟩) (c_is_less : PySem.W.codeIn K cd_is_less "is_less" = true) (k_is_less : PySem.W.keepIn K (.ref f_is_less) = true)
    (a_is_mend_of : PySem.W.nsIn K mainGlobals "is_mend_of" = some (some (.ref f_is_mend_of))) (l_is_mend_of : K.lookup f_is_mend_of = some ⟨oc_is_mend_of, od_is_mend_of, .func (PySem.W.fnOf "is_mend_of" "is_mend_of" (defArgs s_is_mend_of) (defBody s_is_mend_of) (defScope s_is_mend_of) .none kV_is_mend_of dc_is_mend_of pm_is_mend_of an_is_mend_of cd_is_mend_of ct_is_mend_of), sl_is_mend_of⟩) (c_is_mend_of : PySem.W.codeIn K cd_is_mend_of "is_mend_of" = true) (k_is_mend_of : PySem.W.keepIn K (.ref f_is_mend_of) = true)
    (a_check_mend : PySem.W.nsIn K mainGlobals "check_mend" = some (some (.ref f_check_mend))) (l_check_mend : K.lookup f_check_mend = some ⟨oc_check_mend, od_check_mend, .func (PySem.W.fnOf "check_mend" "check_mend" (defArgs s_check_mend) (defBody s_check_mend) (defScope s_check_mend) .none kV_check_mend dc_check_mend pm_check_mend an_check_mend cd_check_mend ct_check_mend), sl_check_mend⟩) (c_check_mend : PySem.W.codeIn K cd_check_mend "check_mend" = true) (k_check_mend : PySem.W.keepIn K (.ref f_check_mend) = true)
    (a_off_most : PySem.W.nsIn K mainGlobals "off_most" = some (some (.ref f_off_most))) (l_off_most : K.lookup f_off_most = some ⟨oc_off_most, od_off_most, .func (PySem.W.fnOf "off_most" "off_most" (defArgs s_off_most) (defBody s_off_most) (defScope s_off_most) .none kV_off_most dc_off_most pm_off_most an_off_most cd_off_most ct_off_most), sl_off_most⟩) (c_off_most : PySem.W.codeIn K cd_off_most "off_most" = true) (k_off_most : PySem.W.keepIn K (.ref f_off_most) = true)
    (a_off_sum : PySem.W.nsIn K mainGlobals "off_sum" = some (some (.ref f_off_sum))) (l_off_sum : K.lookup f_off_sum = some ⟨oc_off_sum, od_off_sum, .func (PySem.W.fnOf "off_sum" "off_sum" (defArgs s_off_sum) (defBody s_off_sum) (defScope s_off_sum) .none kV_off_sum dc_off_sum pm_off_sum an_off_sum cd_off_sum ct_off_sum), sl_off_sum⟩) (c_off_sum : PySem.W.codeIn K cd_off_sum "off_sum" = true) (k_off_sum : PySem.W.keepIn K (.ref f_off_sum) = true)
    (a_off_pairs : PySem.W.nsIn K mainGlobals "off_pairs" = some (some (.ref f_off_pairs))) (l_off_pairs : K.lookup f_off_pairs = some ⟨oc_off_pairs, od_off_pairs, .func (PySem.W.fnOf "off_pairs" "off_pairs" (defArgs s_off_pairs) (defBody s_off_pairs) (defScope s_off_pairs) .none kV_off_pairs dc_off_pairs pm_off_pairs an_off_pairs cd_off_pairs ct_off_pairs), sl_off_pairs⟩) (c_off_pairs : PySem.W.codeIn K cd_off_pairs "off_pairs" = true) (k_off_pairs : PySem.W.keepIn K (.ref f_off_pairs) = true)
    (a_nearest_mend : PySem.W.nsIn K mainGlobals "nearest_mend" = some (some (.ref f_nearest_mend))) (l_nearest_mend : K.lookup f_nearest_mend = some ⟨oc_nearest_mend, od_nearest_mend, .func (PySem.W.fnOf "nearest_mend" "nearest_mend" (defArgs s_nearest_mend) (defBody s_nearest_mend) (defScope s_nearest_mend) .none kV_nearest_mend dc_nearest_mend pm_nearest_mend an_nearest_mend cd_nearest_mend ct_nearest_mend), sl_nearest_mend⟩) (c_nearest_mend : PySem.W.codeIn K cd_nearest_mend "nearest_mend" = true) (k_nearest_mend : PySem.W.keepIn K (.ref f_nearest_mend) = true)
    (a_is_nearest_mend : PySem.W.nsIn K mainGlobals "is_nearest_mend" = some (some (.ref f_is_nearest_mend))) (l_is_nearest_mend : K.lookup f_is_nearest_mend = some ⟨oc_is_nearest_mend, od_is_nearest_mend, .func (PySem.W.fnOf "is_nearest_mend" "is_nearest_mend" (defArgs s_is_nearest_mend) (defBody s_is_nearest_mend) (defScope s_is_nearest_mend) .none kV_is_nearest_mend dc_is_nearest_mend pm_is_nearest_mend an_is_nearest_mend cd_is_nearest_mend ct_is_nearest_mend), sl_is_nearest_mend⟩) (c_is_nearest_mend : PySem.W.codeIn K cd_is_nearest_mend "is_nearest_mend" = true) (k_is_nearest_mend : PySem.W.keepIn K (.ref f_is_nearest_mend) = true)
    (a_is_least_raise : PySem.W.nsIn K mainGlobals "is_least_raise" = some (some (.ref f_is_least_raise))) (l_is_least_raise : K.lookup f_is_least_raise = some ⟨oc_is_least_raise, od_is_least_raise, .func (PySem.W.fnOf "is_least_raise" "is_least_raise" (defArgs s_is_least_raise) (defBody s_is_least_raise) (defScope s_is_least_raise) .none kV_is_least_raise dc_is_least_raise pm_is_least_raise an_is_least_raise cd_is_least_raise ct_is_least_raise), sl_is_least_raise⟩) (c_is_least_raise : PySem.W.codeIn K cd_is_least_raise "is_least_raise" = true) (k_is_least_raise : PySem.W.keepIn K (.ref f_is_least_raise) = true)
    (a_least_cut : PySem.W.nsIn K mainGlobals "least_cut" = some (some (.ref f_least_cut))) (l_least_cut : K.lookup f_least_cut = some ⟨oc_least_cut, od_least_cut, .func (PySem.W.fnOf "least_cut" "least_cut" (defArgs s_least_cut) (defBody s_least_cut) (defScope s_least_cut) .none kV_least_cut dc_least_cut pm_least_cut an_least_cut cd_least_cut ct_least_cut), sl_least_cut⟩) (c_least_cut : PySem.W.codeIn K cd_least_cut "least_cut" = true) (k_least_cut : PySem.W.keepIn K (.ref f_least_cut) = true)
    (a_is_least_pairs : PySem.W.nsIn K mainGlobals "is_least_pairs" = some (some (.ref f_is_least_pairs))) (l_is_least_pairs : K.lookup f_is_least_pairs = some ⟨oc_is_least_pairs, od_is_least_pairs, .func (PySem.W.fnOf "is_least_pairs" "is_least_pairs" (defArgs s_is_least_pairs) (defBody s_is_least_pairs) (defScope s_is_least_pairs) .none kV_is_least_pairs dc_is_least_pairs pm_is_least_pairs an_is_least_pairs cd_is_least_pairs ct_is_least_pairs), sl_is_least_pairs⟩) (c_is_least_pairs : PySem.W.codeIn K cd_is_least_pairs "is_least_pairs" = true) (k_is_least_pairs : PySem.W.keepIn K (.ref f_is_least_pairs) = true)
    (a_law_refused : PySem.W.nsIn K mainGlobals "_law_refused" = some (some (.ref f_law_refused))) (l_law_refused : K.lookup f_law_refused = some ⟨oc_law_refused, od_law_refused, .func (PySem.W.fnOf "_law_refused" "_law_refused" (defArgs s_law_refused) (defBody s_law_refused) (defScope s_law_refused) .none kV_law_refused dc_law_refused pm_law_refused an_law_refused (.ref cL_law_refused) ct_law_refused), sl_law_refused⟩) (c_law_refused : PySem.W.codeIn K (.ref cL_law_refused) "_law_refused" = true) (k_law_refused : PySem.W.keepIn K (.ref f_law_refused) = true)
    (a_law : PySem.W.nsIn K mainGlobals "law" = some (some (.ref f_law))) (l_law : K.lookup f_law = some ⟨oc_law, od_law, .func (PySem.W.fnOf "law" "law" (defArgs s_law) (defBody s_law) (defScope s_law) .none kV_law dc_law pm_law an_law (.ref cL_law) ct_law), sl_law⟩) (c_law : PySem.W.codeIn K (.ref cL_law) "law" = true) (k_law : PySem.W.keepIn K (.ref f_law) = true)
    (lL_law_refused : K.lookup cL_law_refused = some ⟨eL_law_refused, ddL_law_refused, .fields vsL_law_refused, slL_law_refused⟩) (vL_law_refused : vsL_law_refused[11]? = some (.ref Pt_law_refused)) (nL_law_refused : K.lookup Pt_law_refused = none) (hL_law_refused : PySem.W.codeHdIn K cL_law_refused Pt_law_refused = true)
    (lL_law : K.lookup cL_law = some ⟨eL_law, ddL_law, .fields vsL_law, slL_law⟩) (vL_law : vsL_law[11]? = some (.ref Pt_law)) (nL_law : K.lookup Pt_law = none) (hL_law : PySem.W.codeHdIn K cL_law Pt_law = true)
    (dL_law_refused_law : Pt_law_refused ≠ Pt_law)
    (z_abs : PySem.W.nsIn K mainGlobals "abs" = some none)
    (z_all : PySem.W.nsIn K mainGlobals "all" = some none)
    (z_any : PySem.W.nsIn K mainGlobals "any" = some none)
    (z_bool : PySem.W.nsIn K mainGlobals "bool" = some none)
    (z_dict : PySem.W.nsIn K mainGlobals "dict" = some none)
    (z_enumerate : PySem.W.nsIn K mainGlobals "enumerate" = some none)
    (z_int : PySem.W.nsIn K mainGlobals "int" = some none)
    (z_isinstance : PySem.W.nsIn K mainGlobals "isinstance" = some none)
    (z_len : PySem.W.nsIn K mainGlobals "len" = some none)
    (z_list : PySem.W.nsIn K mainGlobals "list" = some none)
    (z_min : PySem.W.nsIn K mainGlobals "min" = some none)
    (z_range : PySem.W.nsIn K mainGlobals "range" = some none)
    (z_sorted : PySem.W.nsIn K mainGlobals "sorted" = some none)
    (z_str : PySem.W.nsIn K mainGlobals "str" = some none)
    (z_tuple : PySem.W.nsIn K mainGlobals "tuple" = some none)
    (z_zip : PySem.W.nsIn K mainGlobals "zip" = some none)
    (c_MOST_FAR : PySem.W.nsIn K mainGlobals "MOST_FAR" = some (some (.int 1000 tk_MOST_FAR)))
    (c_MOST_PLACES : PySem.W.nsIn K mainGlobals "MOST_PLACES" = some (some (.int 7 tk_MOST_PLACES)))
    (c_MOST_RAISED : PySem.W.nsIn K mainGlobals "MOST_RAISED" = some (some (.int 5 tk_MOST_RAISED)))
    (c_ZERO : PySem.W.nsIn K mainGlobals "ZERO" = some (some (.ref q_ZERO))) (l_ZERO : K.lookup q_ZERO = some ⟨.type "tuple", none, .seq #[.int 0 tk_ZERO_0, .int 1 tk_ZERO_1] nn_ZERO, sl_ZERO⟩)
    (g_FarError : PySem.W.nsIn K mainGlobals "FarError" = some (some (.ref e_FarError)))
    (g_NoMend : PySem.W.nsIn K mainGlobals "NoMend" = some (some (.ref e_NoMend)))
    (g_NoTable : PySem.W.nsIn K mainGlobals "NoTable" = some (some (.ref e_NoTable)))
    (g_TooMany : PySem.W.nsIn K mainGlobals "TooMany" = some (some (.ref e_TooMany)))
    (o1_NoMend : PySem.W.keepIn K (.ref e_NoMend) = true) (o2_NoMend : PySem.W.excIn K e_NoMend [.type "ValueError", .type "Exception", .type "BaseException", .type "object"] "ValueError.__new__" = true) (o3_NoMend : PySem.W.subIn K (.ref e_NoMend) (.type "BaseException") = some true) (o4_NoMend : PySem.W.typeIn K (.ref e_NoMend) = some (.type "type"))
    (q1_NoMend : PySem.W.findIn K (.ref e_NoMend) "__getattribute__" = some (some (.builtin "BaseException.__getattribute__"))) (q2_NoMend : PySem.W.findIn K (.ref e_NoMend) "__getattr__" = some none) (q4_NoMend : PySem.W.hasDictIn K e_NoMend = true) (q5_NoMend : PySem.W.findIn K (.ref e_NoMend) "__class__" = some (some (.builtin "object.__class__"))) (q6_NoMend : PySem.W.specialIn K (.builtin "object.__class__") "__get__" = some (some (.builtin "getset_descriptor.__get__"))) (q7_NoMend : PySem.W.takesIn K (.builtin "object.__class__") = some true) (q8_NoMend : PySem.W.mroIn K e_NoMend (.type "object") = some true) (x_NoMend : PySem.W.exmOne K (.ref e_NoMend) (.ref e_FarError) = some true)
    (k_NoMend_NoMend : PySem.W.kitOne K (.ref e_NoMend) (.ref e_NoMend) = some true)
    (k_NoMend_NoTable : PySem.W.kitOne K (.ref e_NoMend) (.ref e_NoTable) = some false)
    (k_NoMend_TooMany : PySem.W.kitOne K (.ref e_NoMend) (.ref e_TooMany) = some false)
    (o1_NoTable : PySem.W.keepIn K (.ref e_NoTable) = true) (o2_NoTable : PySem.W.excIn K e_NoTable [.type "ValueError", .type "Exception", .type "BaseException", .type "object"] "ValueError.__new__" = true) (o3_NoTable : PySem.W.subIn K (.ref e_NoTable) (.type "BaseException") = some true) (o4_NoTable : PySem.W.typeIn K (.ref e_NoTable) = some (.type "type"))
    (q1_NoTable : PySem.W.findIn K (.ref e_NoTable) "__getattribute__" = some (some (.builtin "BaseException.__getattribute__"))) (q2_NoTable : PySem.W.findIn K (.ref e_NoTable) "__getattr__" = some none) (q4_NoTable : PySem.W.hasDictIn K e_NoTable = true) (q5_NoTable : PySem.W.findIn K (.ref e_NoTable) "__class__" = some (some (.builtin "object.__class__"))) (q6_NoTable : PySem.W.specialIn K (.builtin "object.__class__") "__get__" = some (some (.builtin "getset_descriptor.__get__"))) (q7_NoTable : PySem.W.takesIn K (.builtin "object.__class__") = some true) (q8_NoTable : PySem.W.mroIn K e_NoTable (.type "object") = some true) (x_NoTable : PySem.W.exmOne K (.ref e_NoTable) (.ref e_FarError) = some true)
    (k_NoTable_NoMend : PySem.W.kitOne K (.ref e_NoTable) (.ref e_NoMend) = some false)
    (k_NoTable_NoTable : PySem.W.kitOne K (.ref e_NoTable) (.ref e_NoTable) = some true)
    (k_NoTable_TooMany : PySem.W.kitOne K (.ref e_NoTable) (.ref e_TooMany) = some false)
    (p1_TooMany : PySem.W.findIn K (.ref e_TooMany) "__init__" = some (some (.ref f_ini_TooMany)))
    (l_ini_TooMany : K.lookup f_ini_TooMany = some ⟨oc_ini_TooMany, od_ini_TooMany, .func (PySem.W.fnOf "__init__" "TooMany.__init__" (defArgs s_ini_TooMany) (defBody s_ini_TooMany) (defScope s_ini_TooMany) .none kV_ini_TooMany dc_ini_TooMany pm_ini_TooMany an_ini_TooMany cd_ini_TooMany ct_ini_TooMany), sl_ini_TooMany⟩) (c_ini_TooMany : PySem.W.codeIn K cd_ini_TooMany "TooMany.__init__" = true) (k_ini_TooMany : PySem.W.keepIn K (.ref f_ini_TooMany) = true)
    (p2_TooMany : oexIn K e_TooMany = true) (p3_TooMany : PySem.W.findIn K (.ref e_TooMany) "__setattr__" = some (some (.builtin "object.__setattr__"))) (o3_TooMany : PySem.W.subIn K (.ref e_TooMany) (.type "BaseException") = some true) (o4_TooMany : PySem.W.typeIn K (.ref e_TooMany) = some (.type "type")) (o1_TooMany : PySem.W.keepIn K (.ref e_TooMany) = true) (p4_TooMany : PySem.W.typeIn K (.ref f_ini_TooMany) = some (.type "function")) (p5_TooMany : PySem.W.findIn K (.ref e_TooMany) "most" = some none)
    (q1_TooMany : PySem.W.findIn K (.ref e_TooMany) "__getattribute__" = some (some (.builtin "BaseException.__getattribute__"))) (q2_TooMany : PySem.W.findIn K (.ref e_TooMany) "__getattr__" = some none) (q4_TooMany : PySem.W.hasDictIn K e_TooMany = true) (q5_TooMany : PySem.W.findIn K (.ref e_TooMany) "__class__" = some (some (.builtin "object.__class__"))) (q6_TooMany : PySem.W.specialIn K (.builtin "object.__class__") "__get__" = some (some (.builtin "getset_descriptor.__get__"))) (q7_TooMany : PySem.W.takesIn K (.builtin "object.__class__") = some true) (q8_TooMany : PySem.W.mroIn K e_TooMany (.type "object") = some true) (x_TooMany : PySem.W.exmOne K (.ref e_TooMany) (.ref e_FarError) = some true)
    (k_TooMany_NoMend : PySem.W.kitOne K (.ref e_TooMany) (.ref e_NoMend) = some false)
    (k_TooMany_NoTable : PySem.W.kitOne K (.ref e_TooMany) (.ref e_NoTable) = some false)
    (k_TooMany_TooMany : PySem.W.kitOne K (.ref e_TooMany) (.ref e_TooMany) = some true) :
    LamX.LawAtS PySem.Challenge.rw_farhouse_k90_whole_short_triples_and_ref w K (L2.CX PySem.Challenge.rw_farhouse_k90_whole_short_triples_and_ref.prog w) 12 63 "script" mg fa h := by
  have e := hfa.symm.trans (PySem.W.mg_of X G a_law)
  cases e
  let t : Tx K mg := {
    a_is_integer := f_is_integer, d_is_integer := _, F_is_integer := fun_mk (st := s_is_integer) l_is_integer c_is_integer k_is_integer, b_is_integer := (fun_mk (st := s_is_integer) l_is_integer c_is_integer k_is_integer).binds (ps := ["thing"]) (fun _ _ _ _ _ _ us hl => match us, hl with | [_], _ => rfl), m_is_integer := PySem.W.mg_of X G a_is_integer,
    a_is_within := f_is_within, d_is_within := _, F_is_within := fun_mk (st := s_is_within) l_is_within c_is_within k_is_within, b_is_within := (fun_mk (st := s_is_within) l_is_within c_is_within k_is_within).binds (ps := ["thing", "low", "high"]) (fun _ _ _ _ _ _ us hl => match us, hl with | [_, _, _], _ => rfl), m_is_within := PySem.W.mg_of X G a_is_within,
    a_is_sized := f_is_sized, d_is_sized := _, F_is_sized := fun_mk (st := s_is_sized) l_is_sized c_is_sized k_is_sized, b_is_sized := (fun_mk (st := s_is_sized) l_is_sized c_is_sized k_is_sized).binds (ps := ["thing", "low", "high"]) (fun _ _ _ _ _ _ us hl => match us, hl with | [_, _, _], _ => rfl), m_is_sized := PySem.W.mg_of X G a_is_sized,
    a_is_table := f_is_table, d_is_table := _, F_is_table := fun_mk (st := s_is_table) l_is_table c_is_table k_is_table, b_is_table := (fun_mk (st := s_is_table) l_is_table c_is_table k_is_table).binds (ps := ["thing"]) (fun _ _ _ _ _ _ us hl => match us, hl with | [_], _ => rfl), m_is_table := PySem.W.mg_of X G a_is_table,
    a_check_table := f_check_table, d_check_table := _, F_check_table := fun_mk (st := s_check_table) l_check_table c_check_table k_check_table, b_check_table := (fun_mk (st := s_check_table) l_check_table c_check_table k_check_table).binds (ps := ["thing"]) (fun _ _ _ _ _ _ us hl => match us, hl with | [_], _ => rfl), m_check_table := PySem.W.mg_of X G a_check_table,
    a_short_triple := f_short_triple, d_short_triple := _, F_short_triple := fun_mk (st := s_short_triple) l_short_triple c_short_triple k_short_triple, b_short_triple := (fun_mk (st := s_short_triple) l_short_triple c_short_triple k_short_triple).binds (ps := ["table"]) (fun _ _ _ _ _ _ us hl => match us, hl with | [_], _ => rfl), m_short_triple := PySem.W.mg_of X G a_short_triple,
    a_is_sound := f_is_sound, d_is_sound := _, F_is_sound := fun_mk (st := s_is_sound) l_is_sound c_is_sound k_is_sound, b_is_sound := (fun_mk (st := s_is_sound) l_is_sound c_is_sound k_is_sound).binds (ps := ["table"]) (fun _ _ _ _ _ _ us hl => match us, hl with | [_], _ => rfl), m_is_sound := PySem.W.mg_of X G a_is_sound,
    a_check_few := f_check_few, d_check_few := _, F_check_few := fun_mk (st := s_check_few) l_check_few c_check_few k_check_few, b_check_few := (fun_mk (st := s_check_few) l_check_few c_check_few k_check_few).binds (ps := ["table"]) (fun _ _ _ _ _ _ us hl => match us, hl with | [_], _ => rfl), m_check_few := PySem.W.mg_of X G a_check_few,
    a_least_raise := f_least_raise, d_least_raise := _, F_least_raise := fun_mk (st := s_least_raise) l_least_raise c_least_raise k_least_raise, b_least_raise := (fun_mk (st := s_least_raise) l_least_raise c_least_raise k_least_raise).binds (ps := ["table"]) (fun _ _ _ _ _ _ us hl => match us, hl with | [_], _ => rfl), m_least_raise := PySem.W.mg_of X G a_least_raise,
    a_least_pairs := f_least_pairs, d_least_pairs := _, F_least_pairs := fun_mk (st := s_least_pairs) l_least_pairs c_least_pairs k_least_pairs, b_least_pairs := (fun_mk (st := s_least_pairs) l_least_pairs c_least_pairs k_least_pairs).binds (ps := ["table"]) (fun _ _ _ _ _ _ us hl => match us, hl with | [_], _ => rfl), m_least_pairs := PySem.W.mg_of X G a_least_pairs,
    a_needed_pairs := f_needed_pairs, d_needed_pairs := _, F_needed_pairs := fun_mk (st := s_needed_pairs) l_needed_pairs c_needed_pairs k_needed_pairs, b_needed_pairs := (fun_mk (st := s_needed_pairs) l_needed_pairs c_needed_pairs k_needed_pairs).binds (ps := ["table"]) (fun _ _ _ _ _ _ us hl => match us, hl with | [_], _ => rfl), m_needed_pairs := PySem.W.mg_of X G a_needed_pairs,
    a_all_triples := f_all_triples, d_all_triples := _, F_all_triples := fun_mk (st := s_all_triples) l_all_triples c_all_triples k_all_triples, b_all_triples := (fun_mk (st := s_all_triples) l_all_triples c_all_triples k_all_triples).binds (ps := ["n"]) (fun _ _ _ _ _ _ us hl => match us, hl with | [_], _ => rfl), m_all_triples := PySem.W.mg_of X G a_all_triples,
    a_lack_at := f_lack_at, d_lack_at := _, F_lack_at := fun_mk (st := s_lack_at) l_lack_at c_lack_at k_lack_at, b_lack_at := (fun_mk (st := s_lack_at) l_lack_at c_lack_at k_lack_at).binds (ps := ["table", "triple"]) (fun _ _ _ _ _ _ us hl => match us, hl with | [_, _], _ => rfl), m_lack_at := PySem.W.mg_of X G a_lack_at,
    a_raw_short := f_raw_short, d_raw_short := _, F_raw_short := fun_mk (st := s_raw_short) l_raw_short c_raw_short k_raw_short, b_raw_short := (fun_mk (st := s_raw_short) l_raw_short c_raw_short k_raw_short).binds (ps := ["table"]) (fun _ _ _ _ _ _ us hl => match us, hl with | [_], _ => rfl), m_raw_short := PySem.W.mg_of X G a_raw_short,
    a_short_triples := f_short_triples, d_short_triples := _, F_short_triples := fun_mk (st := s_short_triples) l_short_triples c_short_triples k_short_triples, b_short_triples := (fun_mk (st := s_short_triples) l_short_triples c_short_triples k_short_triples).binds (ps := ["table"]) (fun _ _ _ _ _ _ us hl => match us, hl with | [_], _ => rfl), m_short_triples := PySem.W.mg_of X G a_short_triples,
    a_worst_triple := f_worst_triple, d_worst_triple := _, F_worst_triple := fun_mk (st := s_worst_triple) l_worst_triple c_worst_triple k_worst_triple, b_worst_triple := (fun_mk (st := s_worst_triple) l_worst_triple c_worst_triple k_worst_triple).binds (ps := ["table"]) (fun _ _ _ _ _ _ us hl => match us, hl with | [_], _ => rfl), m_worst_triple := PySem.W.mg_of X G a_worst_triple,
    a_all_lots := f_all_lots, d_all_lots := _, F_all_lots := fun_mk (st := s_all_lots) l_all_lots c_all_lots k_all_lots, b_all_lots := (fun_mk (st := s_all_lots) l_all_lots c_all_lots k_all_lots).binds (ps := ["some"]) (fun _ _ _ _ _ _ us hl => match us, hl with | [_], _ => rfl), m_all_lots := PySem.W.mg_of X G a_all_lots,
    a_raw_part := f_raw_part, d_raw_part := _, F_raw_part := fun_mk (st := s_raw_part) l_raw_part c_raw_part k_raw_part, b_raw_part := (fun_mk (st := s_raw_part) l_raw_part c_raw_part k_raw_part).binds (ps := ["table", "lot"]) (fun _ _ _ _ _ _ us hl => match us, hl with | [_, _], _ => rfl), m_raw_part := PySem.W.mg_of X G a_raw_part,
    a_raw_sound := f_raw_sound, d_raw_sound := _, F_raw_sound := fun_mk (st := s_raw_sound) l_raw_sound c_raw_sound k_raw_sound, b_raw_sound := (fun_mk (st := s_raw_sound) l_raw_sound c_raw_sound k_raw_sound).binds (ps := ["table"]) (fun _ _ _ _ _ _ us hl => match us, hl with | [_], _ => rfl), m_raw_sound := PySem.W.mg_of X G a_raw_sound,
    a_sound_lots := f_sound_lots, d_sound_lots := _, F_sound_lots := fun_mk (st := s_sound_lots) l_sound_lots c_sound_lots k_sound_lots, b_sound_lots := (fun_mk (st := s_sound_lots) l_sound_lots c_sound_lots k_sound_lots).binds (ps := ["table"]) (fun _ _ _ _ _ _ us hl => match us, hl with | [_], _ => rfl), m_sound_lots := PySem.W.mg_of X G a_sound_lots,
    a_fewest_out := f_fewest_out, d_fewest_out := _, F_fewest_out := fun_mk (st := s_fewest_out) l_fewest_out c_fewest_out k_fewest_out, b_fewest_out := (fun_mk (st := s_fewest_out) l_fewest_out c_fewest_out k_fewest_out).binds (ps := ["table"]) (fun _ _ _ _ _ _ us hl => match us, hl with | [_], _ => rfl), m_fewest_out := PySem.W.mg_of X G a_fewest_out,
    a_law_hand := f_law_hand, d_law_hand := _, F_law_hand := fun_mk (st := s_law_hand) l_law_hand c_law_hand k_law_hand, b_law_hand := (fun_mk (st := s_law_hand) l_law_hand c_law_hand k_law_hand).binds (ps := ["script"]) (fun _ _ _ _ _ _ us hl => match us, hl with | [_], _ => rfl), m_law_hand := PySem.W.mg_of X G a_law_hand,
    a_law_draw := f_law_draw, d_law_draw := _, F_law_draw := fun_mk (st := s_law_draw) l_law_draw c_law_draw k_law_draw, b_law_draw := (fun_mk (st := s_law_draw) l_law_draw c_law_draw k_law_draw).binds (ps := ["hand", "many"]) (fun _ _ _ _ _ _ us hl => match us, hl with | [_, _], _ => rfl), m_law_draw := PySem.W.mg_of X G a_law_draw,
    a_law_some := f_law_some, d_law_some := _, F_law_some := fun_mk (st := s_law_some) l_law_some c_law_some k_law_some, b_law_some := (fun_mk (st := s_law_some) l_law_some c_law_some k_law_some).binds (ps := ["hand", "things"]) (fun _ _ _ _ _ _ us hl => match us, hl with | [_, _], _ => rfl), m_law_some := PySem.W.mg_of X G a_law_some,
    a_law_table := f_law_table, d_law_table := _, F_law_table := fun_mk (st := s_law_table) l_law_table c_law_table k_law_table, b_law_table := (fun_mk (st := s_law_table) l_law_table c_law_table k_law_table).binds (ps := ["hand", "many", "most"]) (fun _ _ _ _ _ _ us hl => match us, hl with | [_, _, _], _ => rfl), m_law_table := PySem.W.mg_of X G a_law_table,
    a_law_closing := f_law_closing, d_law_closing := _, F_law_closing := fun_mk (st := s_law_closing) l_law_closing c_law_closing k_law_closing, b_law_closing := (fun_mk (st := s_law_closing) l_law_closing c_law_closing k_law_closing).binds (ps := ["table"]) (fun _ _ _ _ _ _ us hl => match us, hl with | [_], _ => rfl), m_law_closing := PySem.W.mg_of X G a_law_closing,
    a_law_lots := f_law_lots, d_law_lots := _, F_law_lots := fun_mk (st := s_law_lots) l_law_lots c_law_lots k_law_lots, b_law_lots := (fun_mk (st := s_law_lots) l_law_lots c_law_lots k_law_lots).binds (ps := ["many"]) (fun _ _ _ _ _ _ us hl => match us, hl with | [_], _ => rfl), m_law_lots := PySem.W.mg_of X G a_law_lots,
    a_law_is := f_law_is, d_law_is := _, F_law_is := fun_mk (st := s_law_is) l_law_is c_law_is k_law_is, b_law_is := (fun_mk (st := s_law_is) l_law_is c_law_is k_law_is).binds (ps := ["told", "due"]) (fun _ _ _ _ _ _ us hl => match us, hl with | [_, _], _ => rfl), m_law_is := PySem.W.mg_of X G a_law_is,
    a_law_word := f_law_word, d_law_word := _, F_law_word := fun_mk (st := s_law_word) l_law_word c_law_word k_law_word, b_law_word := (fun_mk (st := s_law_word) l_law_word c_law_word k_law_word).binds (ps := ["call"]) (fun _ _ _ _ _ _ us hl => match us, hl with | [_], _ => rfl), m_law_word := PySem.W.mg_of X G a_law_word,
    a_law_triples := f_law_triples, d_law_triples := _, F_law_triples := fun_mk (st := s_law_triples) l_law_triples c_law_triples k_law_triples, b_law_triples := (fun_mk (st := s_law_triples) l_law_triples c_law_triples k_law_triples).binds (ps := ["table"]) (fun _ _ _ _ _ _ us hl => match us, hl with | [_], _ => rfl), m_law_triples := PySem.W.mg_of X G a_law_triples,
    a_is_mend := f_is_mend, d_is_mend := _, F_is_mend := fun_mk (st := s_is_mend) l_is_mend c_is_mend k_is_mend, b_is_mend := (fun_mk (st := s_is_mend) l_is_mend c_is_mend k_is_mend).binds (ps := ["table", "thing"]) (fun _ _ _ _ _ _ us hl => match us, hl with | [_, _], _ => rfl), m_is_mend := PySem.W.mg_of X G a_is_mend,
    a_common := f_common, d_common := _, F_common := fun_mk (st := s_common) l_common c_common k_common, b_common := (fun_mk (st := s_common) l_common c_common k_common).binds (ps := ["one", "other"]) (fun _ _ _ _ _ _ us hl => match us, hl with | [_, _], _ => rfl), m_common := PySem.W.mg_of X G a_common,
    a_is_share := f_is_share, d_is_share := _, F_is_share := fun_mk (st := s_is_share) l_is_share c_is_share k_is_share, b_is_share := (fun_mk (st := s_is_share) l_is_share c_is_share k_is_share).binds (ps := ["thing"]) (fun _ _ _ _ _ _ us hl => match us, hl with | [_], _ => rfl), m_is_share := PySem.W.mg_of X G a_is_share,
    a_share := f_share, d_share := _, F_share := fun_mk (st := s_share) l_share c_share k_share, b_share := (fun_mk (st := s_share) l_share c_share k_share).binds (ps := ["top", "bottom"]) (fun _ _ _ _ _ _ us hl => match us, hl with | [_, _], _ => rfl), m_share := PySem.W.mg_of X G a_share,
    a_plus := f_plus, d_plus := _, F_plus := fun_mk (st := s_plus) l_plus c_plus k_plus, b_plus := (fun_mk (st := s_plus) l_plus c_plus k_plus).binds (ps := ["one", "other"]) (fun _ _ _ _ _ _ us hl => match us, hl with | [_, _], _ => rfl), m_plus := PySem.W.mg_of X G a_plus,
    a_is_less := f_is_less, d_is_less := _, F_is_less := fun_mk (st := s_is_less) l_is_less c_is_less k_is_less, b_is_less := (fun_mk (st := s_is_less) l_is_less c_is_less k_is_less).binds (ps := ["one", "other"]) (fun _ _ _ _ _ _ us hl => match us, hl with | [_, _], _ => rfl), m_is_less := PySem.W.mg_of X G a_is_less,
    a_is_mend_of := f_is_mend_of, d_is_mend_of := _, F_is_mend_of := fun_mk (st := s_is_mend_of) l_is_mend_of c_is_mend_of k_is_mend_of, b_is_mend_of := (fun_mk (st := s_is_mend_of) l_is_mend_of c_is_mend_of k_is_mend_of).binds (ps := ["n", "thing"]) (fun _ _ _ _ _ _ us hl => match us, hl with | [_, _], _ => rfl), m_is_mend_of := PySem.W.mg_of X G a_is_mend_of,
    a_check_mend := f_check_mend, d_check_mend := _, F_check_mend := fun_mk (st := s_check_mend) l_check_mend c_check_mend k_check_mend, b_check_mend := (fun_mk (st := s_check_mend) l_check_mend c_check_mend k_check_mend).binds (ps := ["table", "mend"]) (fun _ _ _ _ _ _ us hl => match us, hl with | [_, _], _ => rfl), m_check_mend := PySem.W.mg_of X G a_check_mend,
    a_off_most := f_off_most, d_off_most := _, F_off_most := fun_mk (st := s_off_most) l_off_most c_off_most k_off_most, b_off_most := (fun_mk (st := s_off_most) l_off_most c_off_most k_off_most).binds (ps := ["table", "mend"]) (fun _ _ _ _ _ _ us hl => match us, hl with | [_, _], _ => rfl), m_off_most := PySem.W.mg_of X G a_off_most,
    a_off_sum := f_off_sum, d_off_sum := _, F_off_sum := fun_mk (st := s_off_sum) l_off_sum c_off_sum k_off_sum, b_off_sum := (fun_mk (st := s_off_sum) l_off_sum c_off_sum k_off_sum).binds (ps := ["table", "mend"]) (fun _ _ _ _ _ _ us hl => match us, hl with | [_, _], _ => rfl), m_off_sum := PySem.W.mg_of X G a_off_sum,
    a_off_pairs := f_off_pairs, d_off_pairs := _, F_off_pairs := fun_mk (st := s_off_pairs) l_off_pairs c_off_pairs k_off_pairs, b_off_pairs := (fun_mk (st := s_off_pairs) l_off_pairs c_off_pairs k_off_pairs).binds (ps := ["table", "mend"]) (fun _ _ _ _ _ _ us hl => match us, hl with | [_, _], _ => rfl), m_off_pairs := PySem.W.mg_of X G a_off_pairs,
    a_nearest_mend := f_nearest_mend, d_nearest_mend := _, F_nearest_mend := fun_mk (st := s_nearest_mend) l_nearest_mend c_nearest_mend k_nearest_mend, b_nearest_mend := (fun_mk (st := s_nearest_mend) l_nearest_mend c_nearest_mend k_nearest_mend).binds (ps := ["table"]) (fun _ _ _ _ _ _ us hl => match us, hl with | [_], _ => rfl), m_nearest_mend := PySem.W.mg_of X G a_nearest_mend,
    a_is_nearest_mend := f_is_nearest_mend, d_is_nearest_mend := _, F_is_nearest_mend := fun_mk (st := s_is_nearest_mend) l_is_nearest_mend c_is_nearest_mend k_is_nearest_mend, b_is_nearest_mend := (fun_mk (st := s_is_nearest_mend) l_is_nearest_mend c_is_nearest_mend k_is_nearest_mend).binds (ps := ["table", "thing"]) (fun _ _ _ _ _ _ us hl => match us, hl with | [_, _], _ => rfl), m_is_nearest_mend := PySem.W.mg_of X G a_is_nearest_mend,
    a_is_least_raise := f_is_least_raise, d_is_least_raise := _, F_is_least_raise := fun_mk (st := s_is_least_raise) l_is_least_raise c_is_least_raise k_is_least_raise, b_is_least_raise := (fun_mk (st := s_is_least_raise) l_is_least_raise c_is_least_raise k_is_least_raise).binds (ps := ["table", "thing"]) (fun _ _ _ _ _ _ us hl => match us, hl with | [_, _], _ => rfl), m_is_least_raise := PySem.W.mg_of X G a_is_least_raise,
    a_least_cut := f_least_cut, d_least_cut := _, F_least_cut := fun_mk (st := s_least_cut) l_least_cut c_least_cut k_least_cut, b_least_cut := (fun_mk (st := s_least_cut) l_least_cut c_least_cut k_least_cut).binds (ps := ["table"]) (fun _ _ _ _ _ _ us hl => match us, hl with | [_], _ => rfl), m_least_cut := PySem.W.mg_of X G a_least_cut,
    a_is_least_pairs := f_is_least_pairs, d_is_least_pairs := _, F_is_least_pairs := fun_mk (st := s_is_least_pairs) l_is_least_pairs c_is_least_pairs k_is_least_pairs, b_is_least_pairs := (fun_mk (st := s_is_least_pairs) l_is_least_pairs c_is_least_pairs k_is_least_pairs).binds (ps := ["table", "thing"]) (fun _ _ _ _ _ _ us hl => match us, hl with | [_, _], _ => rfl), m_is_least_pairs := PySem.W.mg_of X G a_is_least_pairs,
    a_law_refused := f_law_refused, d_law_refused := _, F_law_refused := fun_mk (st := s_law_refused) l_law_refused c_law_refused k_law_refused, b_law_refused := (fun_mk (st := s_law_refused) l_law_refused c_law_refused k_law_refused).binds (ps := ["hand", "table"]) (fun _ _ _ _ _ _ us hl => match us, hl with | [_, _], _ => rfl), m_law_refused := PySem.W.mg_of X G a_law_refused,
    a_law := fa, d_law := _, F_law := fun_mk (st := s_law) l_law c_law k_law, b_law := (fun_mk (st := s_law) l_law c_law k_law).binds (ps := ["script"]) (fun _ _ _ _ _ _ us hl => match us, hl with | [_], _ => rfl), m_law := PySem.W.mg_of X G a_law,
    n_fewest_out := a_fewest_out,
    n_is_least_pairs := a_is_least_pairs,
    n_is_least_raise := a_is_least_raise,
    n_is_mend := a_is_mend,
    n_is_nearest_mend := a_is_nearest_mend,
    n_least_cut := a_least_cut,
    n_least_pairs := a_least_pairs,
    n_least_raise := a_least_raise,
    n_nearest_mend := a_nearest_mend,
    n_needed_pairs := a_needed_pairs,
    n_off_most := a_off_most,
    n_off_pairs := a_off_pairs,
    n_off_sum := a_off_sum,
    n_short_triples := a_short_triples,
    n_sound_lots := a_sound_lots,
    n_worst_triple := a_worst_triple,
    z_abs := PySem.W.mg_none_of X G z_abs,
    z_all := PySem.W.mg_none_of X G z_all,
    z_any := PySem.W.mg_none_of X G z_any,
    z_bool := PySem.W.mg_none_of X G z_bool,
    z_dict := PySem.W.mg_none_of X G z_dict,
    z_enumerate := PySem.W.mg_none_of X G z_enumerate,
    z_int := PySem.W.mg_none_of X G z_int,
    z_isinstance := PySem.W.mg_none_of X G z_isinstance,
    z_len := PySem.W.mg_none_of X G z_len,
    z_list := PySem.W.mg_none_of X G z_list,
    z_min := PySem.W.mg_none_of X G z_min,
    z_range := PySem.W.mg_none_of X G z_range,
    z_sorted := PySem.W.mg_none_of X G z_sorted,
    z_str := PySem.W.mg_none_of X G z_str,
    z_tuple := PySem.W.mg_none_of X G z_tuple,
    z_zip := PySem.W.mg_none_of X G z_zip,
    c_MOST_FAR := ⟨tk_MOST_FAR, PySem.W.mg_of X G c_MOST_FAR⟩,
    c_MOST_PLACES := ⟨tk_MOST_PLACES, PySem.W.mg_of X G c_MOST_PLACES⟩,
    c_MOST_RAISED := ⟨tk_MOST_RAISED, PySem.W.mg_of X G c_MOST_RAISED⟩,
    c_ZERO := ⟨q_ZERO, PySem.W.mg_of X G c_ZERO, _, _, _, l_ZERO, rfl, rfl, rfl, Nat.le_of_ble_eq_true rfl, (.cons ⟨tk_ZERO_0, rfl⟩ (.cons ⟨tk_ZERO_1, rfl⟩ .nil))⟩,
    e_FarError := e_FarError,
    e_NoMend := e_NoMend,
    e_NoTable := e_NoTable,
    e_TooMany := e_TooMany,
    g_FarError := PySem.W.mg_of X G g_FarError,
    g_NoMend := PySem.W.mg_of X G g_NoMend,
    g_NoTable := PySem.W.mg_of X G g_NoTable,
    g_TooMany := PySem.W.mg_of X G g_TooMany,
    o_NoMend := ⟨PySem.W.mg_of X G g_NoMend, o1_NoMend, o2_NoMend, o3_NoMend, o4_NoMend⟩,
    c_NoMend := ⟨q1_NoMend, q2_NoMend, o3_NoMend, q4_NoMend, q5_NoMend, q6_NoMend, q7_NoMend, q8_NoMend⟩, x_NoMend := x_NoMend,
    k_NoMend_NoMend := k_NoMend_NoMend,
    k_NoMend_NoTable := k_NoMend_NoTable,
    k_NoMend_TooMany := k_NoMend_TooMany,
    o_NoTable := ⟨PySem.W.mg_of X G g_NoTable, o1_NoTable, o2_NoTable, o3_NoTable, o4_NoTable⟩,
    c_NoTable := ⟨q1_NoTable, q2_NoTable, o3_NoTable, q4_NoTable, q5_NoTable, q6_NoTable, q7_NoTable, q8_NoTable⟩, x_NoTable := x_NoTable,
    k_NoTable_NoMend := k_NoTable_NoMend,
    k_NoTable_NoTable := k_NoTable_NoTable,
    k_NoTable_TooMany := k_NoTable_TooMany,
    a_ini_TooMany := f_ini_TooMany, d_ini_TooMany := _, F_ini_TooMany := fun_mk (st := s_ini_TooMany) l_ini_TooMany c_ini_TooMany k_ini_TooMany, b_ini_TooMany := (fun_mk (st := s_ini_TooMany) l_ini_TooMany c_ini_TooMany k_ini_TooMany).binds (ps := ["self", "most"]) (fun _ _ _ _ _ _ us hl => match us, hl with | [_, _], _ => rfl),
    i_TooMany := ⟨PySem.W.mg_of X G g_TooMany, ⟨oex_cls p2_TooMany, p3_TooMany, o3_TooMany, o4_TooMany, o1_TooMany⟩, p1_TooMany, p4_TooMany, p5_TooMany⟩,
    c_TooMany := ⟨q1_TooMany, q2_TooMany, o3_TooMany, q4_TooMany, q5_TooMany, q6_TooMany, q7_TooMany, q8_TooMany⟩, x_TooMany := x_TooMany,
    k_TooMany_NoMend := k_TooMany_NoMend,
    k_TooMany_NoTable := k_TooMany_NoTable,
    k_TooMany_TooMany := k_TooMany_TooMany }
  have hu : (∀ p ∈ ([(Pt_law_refused, "_law_refused.<locals>.<lambda>"), (Pt_law, "law.<locals>.<lambda>")] : List (Addr × Str)), p.1 = Pt_law_refused → p.2 = ("_law_refused.<locals>.<lambda>" : Str)) ∧ (∀ p ∈ ([(Pt_law_refused, "_law_refused.<locals>.<lambda>"), (Pt_law, "law.<locals>.<lambda>")] : List (Addr × Str)), p.1 = Pt_law → p.2 = ("law.<locals>.<lambda>" : Str)) := by
    refine ⟨?_, ?_⟩ <;> (intro p hp e; simp only [List.mem_cons, List.not_mem_nil, or_false] at hp; rcases hp with rfl | rfl <;> simp_all)
  refine ⟨t.d_law, [(cL_law_refused, Pt_law_refused), (cL_law, Pt_law)], spD ⟨K, [(Pt_law_refused, "_law_refused.<locals>.<lambda>"), (Pt_law, "law.<locals>.<lambda>")], mg⟩ 1 F_law, List.forall_mem_cons.mpr ⟨own "_law_refused" _ (by decide +kernel) t.m_law_refused _ _ _ _ _ _ _ _ l_law_refused rfl rfl lL_law_refused vL_law_refused, List.forall_mem_cons.mpr ⟨own "law" _ (by decide +kernel) t.m_law _ _ _ _ _ _ _ _ l_law rfl rfl lL_law vL_law, fun _ h => by simp at h⟩⟩, List.forall_mem_cons.mpr ⟨nL_law_refused, List.forall_mem_cons.mpr ⟨nL_law, fun _ h => by simp at h⟩⟩, List.forall_mem_cons.mpr ⟨PySem.W.codeHd_of_K X hL_law_refused, List.forall_mem_cons.mpr ⟨PySem.W.codeHd_of_K X hL_law, fun _ h => by simp at h⟩⟩, fun s v => .of_eq rfl, fun H a ns hl _ hP hS => law_spTs law_plain hl (List.forall_mem_cons.mpr ⟨hP _ List.mem_cons_self, List.forall_mem_cons.mpr ⟨hP _ (List.mem_cons_of_mem _ List.mem_cons_self), fun _ h => by simp at h⟩⟩) hS, fun base _ _ tb => ok_law (T := [(Pt_law_refused, "_law_refused.<locals>.<lambda>"), (Pt_law, "law.<locals>.<lambda>")]) t (tb _ List.mem_cons_self) rfl List.mem_cons_self (hu.1) (tb _ (List.mem_cons_of_mem _ List.mem_cons_self)) rfl (List.mem_cons_of_mem _ List.mem_cons_self) (hu.2)⟩
end Lw90
open PySem PySem.W PyProof.Rows
set_option maxHeartbeats 0 in
theorem PySem.Challenge.cw_farhouse_k90_whole_short_triples_and_ref_holds : PySem.Challenge.rw_farhouse_k90_whole_short_triples_and_ref.Holds := by
  w_on; o_law; k_head; (case hw => w_witness2)
  k_fill
  refine PD.walk_ofAll (l := PySem.Challenge.rw_farhouse_k90_whole_short_triples_and_ref) (n := 63) (k := 12) (CX := fun w => L2.CX PySem.Challenge.rw_farhouse_k90_whole_short_triples_and_ref.prog w) (x := "script") rfl (by decide) rfl ⟨rfl, by decide, by decide⟩ (fun w h Y => PySem.W.km_in_of Y) ?F (fun _ _ _ _ _ h => PD.noCX h)
  case F =>
    intro w mg fa h Y KX G hmg own
    refine' Lw90.all_mk KX G hmg own ?a_is_integer ?l_is_integer ?c_is_integer ?k_is_integer ?a_is_within ?l_is_within ?c_is_within ?k_is_within ?a_is_sized ?l_is_sized ?c_is_sized ?k_is_sized ?a_is_table ?l_is_table ?c_is_table ?k_is_table ?a_check_table ?l_check_table ?c_check_table ?k_check_table ?a_short_triple ?l_short_triple ?c_short_triple ?k_short_triple ?a_is_sound ?l_is_sound ?c_is_sound ?k_is_sound ?a_check_few ?l_check_few ?c_check_few ?k_check_few ?a_least_raise ?l_least_raise ?c_least_raise ?k_least_raise ?a_least_pairs ?l_least_pairs ?c_least_pairs ?k_least_pairs ?a_needed_pairs ?l_needed_pairs ?c_needed_pairs ?k_needed_pairs ?a_all_triples ?l_all_triples ?c_all_triples ?k_all_triples ?a_lack_at ?l_lack_at ?c_lack_at ?k_lack_at ?a_raw_short ?l_raw_short ?c_raw_short ?k_raw_short ?a_short_triples ?l_short_triples ?c_short_triples ?k_short_triples ?a_worst_triple ?l_worst_triple ?c_worst_triple ?k_worst_triple ?a_all_lots ?l_all_lots ?c_all_lots ?k_all_lots ?a_raw_part ?l_raw_part ?c_raw_part ?k_raw_part ?a_raw_sound ?l_raw_sound ?c_raw_sound ?k_raw_sound ?a_sound_lots ?l_sound_lots ?c_sound_lots ?k_sound_lots ?a_fewest_out ?l_fewest_out ?c_fewest_out ?k_fewest_out ?a_law_hand ?l_law_hand ?c_law_hand ?k_law_hand ?a_law_draw ?l_law_draw ?c_law_draw ?k_law_draw ?a_law_some ?l_law_some ?c_law_some ?k_law_some ?a_law_table ?l_law_table ?c_law_table ?k_law_table ?a_law_closing ?l_law_closing ?c_law_closing ?k_law_closing ?a_law_lots ?l_law_lots ?c_law_lots ?k_law_lots ?a_law_is ?l_law_is ?c_law_is ?k_law_is ?a_law_word ?l_law_word ?c_law_word ?k_law_word ?a_law_triples ?l_law_triples ?c_law_triples ?k_law_triples ?a_is_mend ?l_is_mend ?c_is_mend ?k_is_mend ?a_common ?l_common ?c_common ?k_common ?a_is_share ?l_is_share ?c_is_share ?k_is_share ?a_share ?l_share ?c_share ?k_share ?a_plus ?l_plus ?c_plus ?k_plus ?a_is_less ?l_is_less ?c_is_less ?k_is_less ?a_is_mend_of ?l_is_mend_of ?c_is_mend_of ?k_is_mend_of ?a_check_mend ?l_check_mend ?c_check_mend ?k_check_mend ?a_off_most ?l_off_most ?c_off_most ?k_off_most ?a_off_sum ?l_off_sum ?c_off_sum ?k_off_sum ?a_off_pairs ?l_off_pairs ?c_off_pairs ?k_off_pairs ?a_nearest_mend ?l_nearest_mend ?c_nearest_mend ?k_nearest_mend ?a_is_nearest_mend ?l_is_nearest_mend ?c_is_nearest_mend ?k_is_nearest_mend ?a_is_least_raise ?l_is_least_raise ?c_is_least_raise ?k_is_least_raise ?a_least_cut ?l_least_cut ?c_least_cut ?k_least_cut ?a_is_least_pairs ?l_is_least_pairs ?c_is_least_pairs ?k_is_least_pairs ?a_law_refused ?l_law_refused ?c_law_refused ?k_law_refused ?a_law ?l_law ?c_law ?k_law ?lL_law_refused ?vL_law_refused ?nL_law_refused ?hL_law_refused ?lL_law ?vL_law ?nL_law ?hL_law ?dL_law_refused_law ?z_abs ?z_all ?z_any ?z_bool ?z_dict ?z_enumerate ?z_int ?z_isinstance ?z_len ?z_list ?z_min ?z_range ?z_sorted ?z_str ?z_tuple ?z_zip ?c_MOST_FAR ?c_MOST_PLACES ?c_MOST_RAISED ?c_ZERO ?l_ZERO ?g_FarError ?g_NoMend ?g_NoTable ?g_TooMany ?o1_NoMend ?o2_NoMend ?o3_NoMend ?o4_NoMend ?q1_NoMend ?q2_NoMend ?q4_NoMend ?q5_NoMend ?q6_NoMend ?q7_NoMend ?q8_NoMend ?x_NoMend ?k_NoMend_NoMend ?k_NoMend_NoTable ?k_NoMend_TooMany ?o1_NoTable ?o2_NoTable ?o3_NoTable ?o4_NoTable ?q1_NoTable ?q2_NoTable ?q4_NoTable ?q5_NoTable ?q6_NoTable ?q7_NoTable ?q8_NoTable ?x_NoTable ?k_NoTable_NoMend ?k_NoTable_NoTable ?k_NoTable_TooMany ?p1_TooMany ?l_ini_TooMany ?c_ini_TooMany ?k_ini_TooMany ?p2_TooMany ?p3_TooMany ?o3_TooMany ?o4_TooMany ?o1_TooMany ?p4_TooMany ?p5_TooMany ?q1_TooMany ?q2_TooMany ?q4_TooMany ?q5_TooMany ?q6_TooMany ?q7_TooMany ?q8_TooMany ?x_TooMany ?k_TooMany_NoMend ?k_TooMany_NoTable ?k_TooMany_TooMany
    (case a_is_integer => k_is)
    (case l_is_integer => k_is)
    (case c_is_integer => k_is)
    (case k_is_integer => k_is)
    (case a_is_within => k_is)
    (case l_is_within => k_is)
    (case c_is_within => k_is)
    (case k_is_within => k_is)
    (case a_is_sized => k_is)
    (case l_is_sized => k_is)
    (case c_is_sized => k_is)
    (case k_is_sized => k_is)
    (case a_is_table => k_is)
    (case l_is_table => k_is)
    (case c_is_table => k_is)
    (case k_is_table => k_is)
    (case a_check_table => k_is)
    (case l_check_table => k_is)
    (case c_check_table => k_is)
    (case k_check_table => k_is)
    (case a_short_triple => k_is)
    (case l_short_triple => k_is)
    (case c_short_triple => k_is)
    (case k_short_triple => k_is)
    (case a_is_sound => k_is)
    (case l_is_sound => k_is)
    (case c_is_sound => k_is)
    (case k_is_sound => k_is)
    (case a_check_few => k_is)
    (case l_check_few => k_is)
    (case c_check_few => k_is)
    (case k_check_few => k_is)
    (case a_least_raise => k_is)
    (case l_least_raise => k_is)
    (case c_least_raise => k_is)
    (case k_least_raise => k_is)
    (case a_least_pairs => k_is)
    (case l_least_pairs => k_is)
    (case c_least_pairs => k_is)
    (case k_least_pairs => k_is)
    (case a_needed_pairs => k_is)
    (case l_needed_pairs => k_is)
    (case c_needed_pairs => k_is)
    (case k_needed_pairs => k_is)
    (case a_all_triples => k_is)
    (case l_all_triples => k_is)
    (case c_all_triples => k_is)
    (case k_all_triples => k_is)
    (case a_lack_at => k_is)
    (case l_lack_at => k_is)
    (case c_lack_at => k_is)
    (case k_lack_at => k_is)
    (case a_raw_short => k_is)
    (case l_raw_short => k_is)
    (case c_raw_short => k_is)
    (case k_raw_short => k_is)
    (case a_short_triples => k_is)
    (case l_short_triples => k_is)
    (case c_short_triples => k_is)
    (case k_short_triples => k_is)
    (case a_worst_triple => k_is)
    (case l_worst_triple => k_is)
    (case c_worst_triple => k_is)
    (case k_worst_triple => k_is)
    (case a_all_lots => k_is)
    (case l_all_lots => k_is)
    (case c_all_lots => k_is)
    (case k_all_lots => k_is)
    (case a_raw_part => k_is)
    (case l_raw_part => k_is)
    (case c_raw_part => k_is)
    (case k_raw_part => k_is)
    (case a_raw_sound => k_is)
    (case l_raw_sound => k_is)
    (case c_raw_sound => k_is)
    (case k_raw_sound => k_is)
    (case a_sound_lots => k_is)
    (case l_sound_lots => k_is)
    (case c_sound_lots => k_is)
    (case k_sound_lots => k_is)
    (case a_fewest_out => k_is)
    (case l_fewest_out => k_is)
    (case c_fewest_out => k_is)
    (case k_fewest_out => k_is)
    (case a_law_hand => k_is)
    (case l_law_hand => k_is)
    (case c_law_hand => k_is)
    (case k_law_hand => k_is)
    (case a_law_draw => k_is)
    (case l_law_draw => k_is)
    (case c_law_draw => k_is)
    (case k_law_draw => k_is)
    (case a_law_some => k_is)
    (case l_law_some => k_is)
    (case c_law_some => k_is)
    (case k_law_some => k_is)
    (case a_law_table => k_is)
    (case l_law_table => k_is)
    (case c_law_table => k_is)
    (case k_law_table => k_is)
    (case a_law_closing => k_is)
    (case l_law_closing => k_is)
    (case c_law_closing => k_is)
    (case k_law_closing => k_is)
    (case a_law_lots => k_is)
    (case l_law_lots => k_is)
    (case c_law_lots => k_is)
    (case k_law_lots => k_is)
    (case a_law_is => k_is)
    (case l_law_is => k_is)
    (case c_law_is => k_is)
    (case k_law_is => k_is)
    (case a_law_word => k_is)
    (case l_law_word => k_is)
    (case c_law_word => k_is)
    (case k_law_word => k_is)
    (case a_law_triples => k_is)
    (case l_law_triples => k_is)
    (case c_law_triples => k_is)
    (case k_law_triples => k_is)
    (case a_is_mend => k_is)
    (case l_is_mend => k_is)
    (case c_is_mend => k_is)
    (case k_is_mend => k_is)
    (case a_common => k_is)
    (case l_common => k_is)
    (case c_common => k_is)
    (case k_common => k_is)
    (case a_is_share => k_is)
    (case l_is_share => k_is)
    (case c_is_share => k_is)
    (case k_is_share => k_is)
    (case a_share => k_is)
    (case l_share => k_is)
    (case c_share => k_is)
    (case k_share => k_is)
    (case a_plus => k_is)
    (case l_plus => k_is)
    (case c_plus => k_is)
    (case k_plus => k_is)
    (case a_is_less => k_is)
    (case l_is_less => k_is)
    (case c_is_less => k_is)
    (case k_is_less => k_is)
    (case a_is_mend_of => k_is)
    (case l_is_mend_of => k_is)
    (case c_is_mend_of => k_is)
    (case k_is_mend_of => k_is)
    (case a_check_mend => k_is)
    (case l_check_mend => k_is)
    (case c_check_mend => k_is)
    (case k_check_mend => k_is)
    (case a_off_most => k_is)
    (case l_off_most => k_is)
    (case c_off_most => k_is)
    (case k_off_most => k_is)
    (case a_off_sum => k_is)
    (case l_off_sum => k_is)
    (case c_off_sum => k_is)
    (case k_off_sum => k_is)
    (case a_off_pairs => k_is)
    (case l_off_pairs => k_is)
    (case c_off_pairs => k_is)
    (case k_off_pairs => k_is)
    (case a_nearest_mend => k_is)
    (case l_nearest_mend => k_is)
    (case c_nearest_mend => k_is)
    (case k_nearest_mend => k_is)
    (case a_is_nearest_mend => k_is)
    (case l_is_nearest_mend => k_is)
    (case c_is_nearest_mend => k_is)
    (case k_is_nearest_mend => k_is)
    (case a_is_least_raise => k_is)
    (case l_is_least_raise => k_is)
    (case c_is_least_raise => k_is)
    (case k_is_least_raise => k_is)
    (case a_least_cut => k_is)
    (case l_least_cut => k_is)
    (case c_least_cut => k_is)
    (case k_least_cut => k_is)
    (case a_is_least_pairs => k_is)
    (case l_is_least_pairs => k_is)
    (case c_is_least_pairs => k_is)
    (case k_is_least_pairs => k_is)
    (case a_law_refused => k_is)
    (case l_law_refused => k_is)
    (case c_law_refused => k_is)
    (case k_law_refused => k_is)
    (case a_law => k_is)
    (case l_law => k_is)
    (case c_law => k_is)
    (case k_law => k_is)
    (case lL_law_refused => k_is)
    (case vL_law_refused => rfl)
    (case nL_law_refused => kernel_rfl)
    (case hL_law_refused => kernel_rfl)
    (case lL_law => k_is)
    (case vL_law => rfl)
    (case nL_law => kernel_rfl)
    (case hL_law => kernel_rfl)
    (case dL_law_refused_law => decide)
    (case z_abs => k_is)
    (case z_all => k_is)
    (case z_any => k_is)
    (case z_bool => k_is)
    (case z_dict => k_is)
    (case z_enumerate => k_is)
    (case z_int => k_is)
    (case z_isinstance => k_is)
    (case z_len => k_is)
    (case z_list => k_is)
    (case z_min => k_is)
    (case z_range => k_is)
    (case z_sorted => k_is)
    (case z_str => k_is)
    (case z_tuple => k_is)
    (case z_zip => k_is)
    (case c_MOST_FAR => k_is)
    (case c_MOST_PLACES => k_is)
    (case c_MOST_RAISED => k_is)
    (case c_ZERO => k_is)
    (case l_ZERO => k_is)
    (case g_FarError => k_is)
    (case g_NoMend => k_is)
    (case g_NoTable => k_is)
    (case g_TooMany => k_is)
    (case o1_NoMend => k_is)
    (case o2_NoMend => kernel_rfl)
    (case o3_NoMend => k_is)
    (case o4_NoMend => k_is)
    (case q1_NoMend => k_is)
    (case q2_NoMend => k_is)
    (case q4_NoMend => k_is)
    (case q5_NoMend => k_is)
    (case q6_NoMend => k_is)
    (case q7_NoMend => k_is)
    (case q8_NoMend => k_is)
    (case x_NoMend => kernel_rfl)
    (case k_NoMend_NoMend => kernel_rfl)
    (case k_NoMend_NoTable => kernel_rfl)
    (case k_NoMend_TooMany => kernel_rfl)
    (case o1_NoTable => k_is)
    (case o2_NoTable => kernel_rfl)
    (case o3_NoTable => k_is)
    (case o4_NoTable => k_is)
    (case q1_NoTable => k_is)
    (case q2_NoTable => k_is)
    (case q4_NoTable => k_is)
    (case q5_NoTable => k_is)
    (case q6_NoTable => k_is)
    (case q7_NoTable => k_is)
    (case q8_NoTable => k_is)
    (case x_NoTable => kernel_rfl)
    (case k_NoTable_NoMend => kernel_rfl)
    (case k_NoTable_NoTable => kernel_rfl)
    (case k_NoTable_TooMany => kernel_rfl)
    (case p1_TooMany => k_is)
    (case l_ini_TooMany => k_is)
    (case c_ini_TooMany => k_is)
    (case k_ini_TooMany => k_is)
    (case p2_TooMany => kernel_rfl)
    (case p3_TooMany => k_is)
    (case o3_TooMany => k_is)
    (case o4_TooMany => k_is)
    (case o1_TooMany => k_is)
    (case p4_TooMany => k_is)
    (case p5_TooMany => k_is)
    (case q1_TooMany => k_is)
    (case q2_TooMany => k_is)
    (case q4_TooMany => k_is)
    (case q5_TooMany => k_is)
    (case q6_TooMany => k_is)
    (case q7_TooMany => k_is)
    (case q8_TooMany => k_is)
    (case x_TooMany => kernel_rfl)
    (case k_TooMany_NoMend => kernel_rfl)
    (case k_TooMany_NoTable => kernel_rfl)
    (case k_TooMany_TooMany => kernel_rfl)

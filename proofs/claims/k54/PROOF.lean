import PyProof.Rows.All
import KE.SortData
import KE.DataMinMax
import PyProof.ReprReads
import PySem.Syntax
import HandS.Text
import HandS.Base
import HandS.ForMost
import HandS.Exc
import HandS.ExcOwn
import HandS.TryOnly
import HandS.WordsExc
import HandS.Flow
import KE.DataCmp
import PyProof.StrOps2
import HandS.TupAny
import HandS.Style
import HandS.Wide
import PyProof.ReprRoads
import PyProof.CallFns
import HandS.Deep
import HandS.More
import HandS.WordsDict
import KE.GoesEnum
import HandS.Codes
import HandS.Star
import HandS.IsInst
import HandS.Replace
import HandS.Gcd
import HandS.SetKeys
import HandS.SetFor
import HandS.TupSets
import HandS.Conv
import HandS.Iter
import HandS.Comp
import HandS.DictComp
import HandS.Ends
import HandS.Words
import PyProof.ReprBulk
import PySem.Challenge.RW_headsandpages_k54_whole_orders_of_glossa
set_option autoImplicit false
set_option Elab.async false
set_option linter.all false
set_option maxRecDepth 100000
/-! Dv0: a small evaluator over plain data. Values, operations, combinators. -/
namespace Dv
open PySem

abbrev D := PyData
/-- what an evaluation comes to: a value, an error of the program with its number, or nothing is said -/
inductive R (α : Type) where
  | ok (a : α) | err (c : Str) (i : Int) | bad
def R.bind {α β : Type} (x : R α) (f : α → R β) : R β :=
  match x with
  | .ok a => f a
  | .err c i => .err c i
  | .bad => .bad
@[simp] theorem R.bind_ok {α β : Type} (a : α) (f : α → R β) : (R.ok a).bind f = f a := rfl
@[simp] theorem R.bind_err {α β : Type} (c : Str) (i : Int) (f : α → R β) : (R.err c i : R α).bind f = .err c i := rfl
@[simp] theorem R.bind_bad {α β : Type} (f : α → R β) : (R.bad : R α).bind f = .bad := rfl
theorem R.bind_eq_ok {α β : Type} {x : R α} {f : α → R β} {b : β} (h : x.bind f = .ok b) : ∃ a, x = .ok a ∧ f a = .ok b := by
  cases x with
  | ok a => exact ⟨a, rfl, h⟩
  | err c i => cases h
  | bad => cases h

abbrev Env := List (Option D)
abbrev DE := Env → R D
abbrev DT := Env → R Bool
abbrev DI := Env → R (List D)

/-- the greatest length of what is made -/
def lim : Nat := 1000000

/-! ### data without dicts, of few levels -/
def fl : Nat → D → Bool
  | _, .none => true
  | _, .bool _ => true
  | _, .int _ => true
  | _, .str _ => true
  | 0, _ => false
  | n + 1, .list xs => xs.all (fl n)
  | n + 1, .tuple xs => xs.all (fl n)
  | _ + 1, .dict _ => false
def deep : Nat := 12

/-! ### operations -/
def addD : D → D → R D
  | .int i, .int j => .ok (.int (i + j))
  | .str a, .str b => if a.length + b.length ≤ lim then .ok (.str (a ++ b)) else .bad
  | .list a, .list b => if a.length + b.length ≤ lim then .ok (.list (a ++ b)) else .bad
  | .tuple a, .tuple b => if a.length + b.length ≤ lim then .ok (.tuple (a ++ b)) else .bad
  | _, _ => .bad
def subD : D → D → R D
  | .int i, .int j => .ok (.int (i - j))
  | _, _ => .bad
def small (i : Int) : Bool := decide (-(2 ^ 64) < i ∧ i < 2 ^ 64)
def repS (s : Str) (k : Nat) : Str := ⟨((List.replicate k s.cps.toList).flatten).toArray⟩
def mulD : D → D → R D
  | .int i, .int j => if small i || small j then .ok (.int (i * j)) else .bad
  | .list a, .int k => if decide (-(2 ^ 63) ≤ k ∧ k < 2 ^ 63) && decide (a.length * k.toNat ≤ lim) then .ok (.list (List.replicate k.toNat a).flatten) else .bad
  | .str a, .int k => if decide (0 ≤ k ∧ k < 2 ^ 63) && decide (a.length * k.toNat ≤ lim) then .ok (.str (repS a k.toNat)) else .bad
  | _, _ => .bad
def divD : D → D → R D
  | .int i, .int j => if 0 < j ∧ j < 18446744073709551616 then .ok (.int (i / j)) else .bad
  | _, _ => .bad
def modD : D → D → R D
  | .int i, .int j => if 0 < j then .ok (.int (i % j)) else .bad
  | _, _ => .bad
def powD : D → D → R D
  | .int i, .int j => if 0 ≤ j ∧ j ≤ 1000 ∧ i.natAbs < 2 ^ 64 then .ok (.int (i ^ j.toNat)) else .bad
  | _, _ => .bad
def binD : Operator → D → D → R D
  | .Add => addD
  | .Sub => subD
  | .Mult => mulD
  | .FloorDiv => divD
  | .Mod => modD
  | .Pow => powD
  | _ => fun _ _ => .bad
def negD : D → R D
  | .int i => .ok (.int (-i))
  | _ => .bad
def truD : D → R Bool
  | .none => .ok false
  | .bool b => .ok b
  | .int i => .ok (i != 0)
  | .str s => .ok (s.length != 0)
  | .list xs => .ok (!xs.isEmpty)
  | .tuple xs => .ok (!xs.isEmpty)
  | .dict _ => .bad
def eqD (x y : D) : R Bool := if fl deep x && fl deep y then .ok (PyData.eqv x y) else .bad
def sLt (a b : Str) : Bool := decide (a.cps.toList < b.cps.toList)
def sLe (a b : Str) : Bool := decide (a.cps.toList ≤ b.cps.toList)
def ltD : D → D → R Bool
  | .int i, .int j => .ok (decide (i < j))
  | .str a, .str b => .ok (sLt a b)
  | .list a, .list b => if W.alike (.list a) (.list b) && fl deep (.list a) && fl deep (.list b) then .ok (W.dataLt (.list a) (.list b)) else .bad
  | .tuple a, .tuple b => if W.alike (.tuple a) (.tuple b) && fl deep (.tuple a) && fl deep (.tuple b) then .ok (W.dataLt (.tuple a) (.tuple b)) else .bad
  | _, _ => .bad
def leD : D → D → R Bool
  | .int i, .int j => .ok (decide (i ≤ j))
  | .str a, .str b => .ok (sLe a b)
  | .list a, .list b => if W.alike (.list a) (.list b) && fl deep (.list a) && fl deep (.list b) then .ok (!W.dataLt (.list b) (.list a)) else .bad
  | .tuple a, .tuple b => if W.alike (.tuple a) (.tuple b) && fl deep (.tuple a) && fl deep (.tuple b) then .ok (!W.dataLt (.tuple b) (.tuple a)) else .bad
  | _, _ => .bad
def memD (x : D) (ys : List D) : R Bool := if fl deep x && ys.all (fl deep) then .ok (ys.any fun y => PyData.eqv y x) else .bad
/-- one sign, or a text, in a text -/
def inS (x y : Str) : Bool := !(Builtin.Str.occurrences y x 0 y.length 1).isEmpty
/-! ### dicts: keys are numbers and texts -/
def isK : D → Bool
  | .int _ => true
  | .str _ => true
  | _ => false
def keq : D → D → Bool
  | .int i, .int j => decide (i = j)
  | .str a, .str b => decide (a = b)
  | _, _ => false
def dGet (kvs : List (D × D)) (k : D) : Option D := (kvs.find? fun p => keq p.1 k).map (·.2)
def dHas (kvs : List (D × D)) (k : D) : Bool := kvs.any fun p => keq p.1 k
def dPut (kvs : List (D × D)) (k d : D) : List (D × D) := if dHas kvs k then kvs.map (fun p => if keq p.1 k then (p.1, d) else p) else kvs ++ [(k, d)]
def dDrop (kvs : List (D × D)) (k : D) : List (D × D) := kvs.filter fun p => !keq p.1 k
def dMerge (kvs more : List (D × D)) : List (D × D) := more.foldl (fun acc p => dPut acc p.1 p.2) kvs
def inD (x : D) : D → R Bool
  | .dict kvs => if isK x then .ok (dHas kvs x) else .bad
  | .list ys => memD x ys
  | .tuple ys => memD x ys
  | .str y => match x with
    | .str z => .ok (inS z y)
    | _ => .bad
  | _ => .bad
def isNone : D → Bool
  | .none => true
  | _ => false
def isD (x : D) : D → R Bool
  | .none => .ok (isNone x)
  | .bool b => (match x with
    | .bool c => .ok (c == b)
    | _ => .bad)
  | _ => .bad
def rnot : R Bool → R Bool
  | .ok b => .ok (!b)
  | .err c i => .err c i
  | .bad => .bad
def cmpD : CmpOp → D → D → R Bool
  | .Eq => eqD
  | .NotEq => fun x y => rnot (eqD x y)
  | .Lt => ltD
  | .LtE => leD
  | .Gt => fun x y => ltD y x
  | .GtE => fun x y => leD y x
  | .Is => isD
  | .IsNot => fun x y => rnot (isD x y)
  | .In => inD
  | .NotIn => fun x y => rnot (inD x y)

/-! ### places, cuts -/
def ixZ (n : Nat) (i : Int) : Option Nat := if 0 ≤ i then (if i < n then some i.toNat else none) else if -(n : Int) ≤ i then some (i + n).toNat else none
def atZ {α : Type} (xs : List α) (i : Int) : Option α := (ixZ xs.length i).bind fun j => xs[j]?
def oR {α : Type} : Option α → R α
  | some a => .ok a
  | none => .bad
def sgn (c : Nat) : Str := ⟨#[c]⟩
def idxD : D → D → R D
  | .list xs, .int i => oR (atZ xs i)
  | .tuple xs, .int i => oR (atZ xs i)
  | .str s, .int i => oR ((atZ s.cps.toList i).map fun c => .str (sgn c))
  | .dict kvs, k => if isK k then oR (dGet kvs k) else .bad
  | _, _ => .bad
/-- a cut's end: left out, or a number of any sign -/
def cutE (n d : Nat) : Option Int → Nat
  | none => d
  | some k => if k < 0 then (k + n).toNat else min k.toNat n
def cut {α : Type} (xs : List α) (lo hi : Option Int) : List α := (xs.drop (cutE xs.length 0 lo)).take (cutE xs.length xs.length hi - cutE xs.length 0 lo)
def slD (lo hi : Option Int) : D → R D
  | .list xs => .ok (.list (cut xs lo hi))
  | .tuple xs => .ok (.tuple (cut xs lo hi))
  | .str s => .ok (.str ⟨(cut s.cps.toList lo hi).toArray⟩)
  | _ => .bad
def revD : D → R D
  | .list xs => .ok (.list xs.reverse)
  | _ => .bad
def asInt : D → R Int
  | .int i => .ok i
  | _ => .bad
def asBool : D → R Bool
  | .bool b => .ok b
  | _ => .bad
def asList : D → R (List D)
  | .list xs => .ok xs
  | .tuple xs => .ok xs
  | _ => .bad

/-! ### combinators for expressions -/
def eBad : DE := fun _ => .bad
def eC (d : D) : DE := fun _ => .ok d
def eV (i : Nat) : DE := fun δ => match δ[i]? with
  | some (some d) => .ok d
  | _ => .bad
def eBin (op : Operator) (a b : DE) : DE := fun δ => (a δ).bind fun x => (b δ).bind fun y => binD op x y
def eNeg (a : DE) : DE := fun δ => (a δ).bind negD
def tTru (a : DE) : DT := fun δ => (a δ).bind truD
def tVal (a : DE) : DT := fun δ => (a δ).bind asBool
def eT (t : DT) : DE := fun δ => (t δ).bind fun b => .ok (.bool b)
def tNot (t : DT) : DT := fun δ => rnot (t δ)
def tAnd (a b : DT) : DT := fun δ => (a δ).bind fun x => if x then b δ else .ok false
def tOr (a b : DT) : DT := fun δ => (a δ).bind fun x => if x then .ok true else b δ
def tAnds : List DT → DT
  | [] => fun _ => .bad
  | [t] => t
  | t :: ts => tAnd t (tAnds ts)
def tOrs : List DT → DT
  | [] => fun _ => .bad
  | [t] => t
  | t :: ts => tOr t (tOrs ts)
/-- x or y, x and y as values -/
def eOr (a b : DE) : DE := fun δ => (a δ).bind fun x => (truD x).bind fun t => if t then .ok x else b δ
def eAnd (a b : DE) : DE := fun δ => (a δ).bind fun x => (truD x).bind fun t => if t then b δ else .ok x
def eOrs : List DE → DE
  | [] => eBad
  | [a] => a
  | a :: as => eOr a (eOrs as)
def eAnds : List DE → DE
  | [] => eBad
  | [a] => a
  | a :: as => eAnd a (eAnds as)
def eIf (t : DT) (a b : DE) : DE := fun δ => (t δ).bind fun x => if x then a δ else b δ
/-- a chain of comparisons -/
def cmpGo (δ : Env) (x : D) : List (CmpOp × DE) → R Bool
  | [] => .bad
  | [(op, b)] => (b δ).bind fun y => cmpD op x y
  | (op, b) :: r => (b δ).bind fun y => (cmpD op x y).bind fun t => if t then cmpGo δ y r else .ok false
def tCmp (a : DE) (r : List (CmpOp × DE)) : DT := fun δ => (a δ).bind fun x => cmpGo δ x r
def evs : List DE → Env → R (List D)
  | [], _ => .ok []
  | a :: as, δ => (a δ).bind fun x => (evs as δ).bind fun xs => .ok (x :: xs)
def eTup (as : List DE) : DE := fun δ => (evs as δ).bind fun xs => .ok (.tuple xs)
def eLst (as : List DE) : DE := fun δ => (evs as δ).bind fun xs => .ok (.list xs)
/-- with stars: what a star stands at is spliced in -/
def evsS : List (Bool × DE) → Env → R (List D)
  | [], _ => .ok []
  | (false, a) :: as, δ => (a δ).bind fun x => (evsS as δ).bind fun xs => .ok (x :: xs)
  | (true, a) :: as, δ => (a δ).bind fun x => (asList x).bind fun ys => (evsS as δ).bind fun xs => .ok (ys ++ xs)
def eLstS (as : List (Bool × DE)) : DE := fun δ => (evsS as δ).bind fun xs => if xs.length ≤ lim then .ok (.list xs) else .bad
def eTupS (as : List (Bool × DE)) : DE := fun δ => (evsS as δ).bind fun xs => if xs.length ≤ lim then .ok (.tuple xs) else .bad
def eIx (a b : DE) : DE := fun δ => (a δ).bind fun x => (b δ).bind fun y => idxD x y
def oE : Option DE → Env → R (Option Int)
  | none, _ => .ok none
  | some a, δ => (a δ).bind fun x => (asInt x).bind fun i => .ok (some i)
def eSl (a : DE) (lo hi : Option DE) : DE := fun δ => (a δ).bind fun x => (oE lo δ).bind fun l => (oE hi δ).bind fun h => slD l h x
def eRev (a : DE) : DE := fun δ => (a δ).bind revD
/-- a call of a function whose meaning is m -/
def eCall (m : List D → R D) (as : List DE) : DE := fun δ => (evs as δ).bind m

/-- a call of a method: the receiver is of the type that has it -/
def eMet (ok : D → Bool) (m : List D → R D) (o : DE) (as : List DE) : DE := fun δ => (o δ).bind fun x => if ok x then (evs as δ).bind fun xs => m (x :: xs) else .bad

/-! ### targets -/
abbrev TF := D → Env → R Env
def gNm (i : Nat) : TF := fun d δ => .ok (δ.set i (some d))
def gNo : TF := fun _ _ => .bad
def gAll : List TF → List D → Env → R Env
  | [], [], δ => .ok δ
  | t :: ts, x :: xs, δ => (t x δ).bind fun δ' => gAll ts xs δ'
  | _, _, _ => .bad
def asTup : D → R (List D)
  | .tuple xs => .ok xs
  | _ => .bad
def gTp (ts : List TF) : TF := fun d δ => (asList d).bind fun xs => gAll ts xs δ

/-! ### what is walked -/
def itemsD : D → R (List D)
  | .list xs => .ok xs
  | .tuple xs => .ok xs
  | .str s => .ok (s.cps.toList.map fun c => .str (sgn c))
  | _ => .bad
def iExp (a : DE) : DI := fun δ => (a δ).bind itemsD
def big (i : Int) : Bool := decide (-(2 ^ 30) ≤ i ∧ i < 2 ^ 30)
def intUp (lo : Int) (n : Nat) : List D := (List.range n).map fun (k : Nat) => PyData.int (lo + k)
def intDn (lo : Int) (n : Nat) : List D := (List.range n).map fun (k : Nat) => PyData.int (lo - k)
def iRng1 (a : DE) : DI := fun δ => (a δ).bind fun x => (asInt x).bind fun i => if big i then .ok (intUp 0 i.toNat) else .bad
def iRng2 (a b : DE) : DI := fun δ => (a δ).bind fun x => (b δ).bind fun y => (asInt x).bind fun i => (asInt y).bind fun j => if big i && big j then .ok (intUp i (j - i).toNat) else .bad
/-- range(a, b, -1) -/
def iRngD (a b : DE) : DI := fun δ => (a δ).bind fun x => (b δ).bind fun y => (asInt x).bind fun i => (asInt y).bind fun j => if big i && big j then .ok (intDn i (i - j).toNat) else .bad
def asLst : D → R (List D)
  | .list xs => .ok xs
  | _ => .bad
def enumL (k : Nat) : List D → List D
  | [] => []
  | x :: xs => .tuple [.int k, x] :: enumL (k + 1) xs
def iEnum (a : DE) : DI := fun δ => (a δ).bind fun x => (asList x).bind fun xs => .ok (enumL 0 xs)
def iZip (a b : DE) : DI := fun δ => (a δ).bind fun x => (b δ).bind fun y => (asLst x).bind fun xs => (asLst y).bind fun ys => .ok ((xs.zip ys).map fun p => .tuple [p.1, p.2])
def eLstI (it : DI) : DE := fun δ => (it δ).bind fun xs => if xs.length ≤ lim then .ok (.list xs) else .bad
def iBad : DI := fun _ => .bad

/-- {k: v, ..} -/
def eDct (ps : List (DE × DE)) : DE := fun δ => match ps with
  | [] => .ok (.dict [])
  | (k, v) :: r => (k δ).bind fun x => if isK x then (v δ).bind fun y => (eDct r δ).bind fun d => (match d with
      | .dict kvs => if kvs.any (fun p => keq p.1 x) then .bad else .ok (.dict ((x, y) :: kvs))
      | _ => .bad) else .bad
/-- o.get(k), o.get(k, z) -/
def eGet1 (o k : DE) : DE := fun δ => (o δ).bind fun d => match d with
  | .dict kvs => (k δ).bind fun x => if isK x then .ok ((dGet kvs x).getD .none) else .bad
  | _ => .bad
def eGet2 (o k z : DE) : DE := fun δ => (o δ).bind fun d => match d with
  | .dict kvs => (k δ).bind fun x => (z δ).bind fun y => if isK x then .ok ((dGet kvs x).getD y) else .bad
  | _ => .bad

/-! ### comprehensions -/
def wipeE (δ : Env) : List Nat → Env
  | [] => δ
  | v :: vs => (wipeE δ vs).set v none
def lcGo (g : TF) (t : DT) (e : DE) (δ : Env) : List D → R (List D)
  | [] => .ok []
  | d :: ds => (g d δ).bind fun δ' => (t δ').bind fun b => if b then (e δ').bind fun y => (lcGo g t e δ ds).bind fun ys => .ok (y :: ys) else lcGo g t e δ ds
def tYes : DT := fun _ => .ok true
def eLc (own : List Nat) (g : TF) (it : DI) (t : DT) (e : DE) : DE := fun δ => (it δ).bind fun ds => (lcGo g t e (wipeE δ own) ds).bind fun ys => if ys.length ≤ lim then .ok (.list ys) else .bad
def lcGo2 (g : TF) (t : DT) (it2 : DI) (own2 : List Nat) (g2 : TF) (t2 : DT) (e : DE) (δ : Env) : List D → R (List D)
  | [] => .ok []
  | d :: ds => (g d δ).bind fun δ' => (t δ').bind fun b =>
      if b then (it2 δ').bind fun ds2 => (lcGo g2 t2 e (wipeE δ' own2) ds2).bind fun ys => (lcGo2 g t it2 own2 g2 t2 e δ ds).bind fun zs => .ok (ys ++ zs)
      else lcGo2 g t it2 own2 g2 t2 e δ ds
def eLc2 (own : List Nat) (g : TF) (it : DI) (t : DT) (it2 : DI) (own2 : List Nat) (g2 : TF) (t2 : DT) (e : DE) : DE := fun δ =>
  (it δ).bind fun ds => (lcGo2 g t it2 own2 g2 t2 e (wipeE δ own) ds).bind fun ys => if ys.length ≤ lim then .ok (.list ys) else .bad

/-! ### {k: v for ..} -/
def dcGo (g : TF) (t : DT) (fk fv : DE) (δ : Env) : List D → List (D × D) → R (List (D × D))
  | [], acc => .ok acc
  | d :: ds, acc => (g d δ).bind fun δ' => (t δ').bind fun b => if b then (fk δ').bind fun x => (fv δ').bind fun y => if isK x && decide (acc.length < lim) then dcGo g t fk fv δ ds (dPut acc x y) else .bad else dcGo g t fk fv δ ds acc
def eDc (own : List Nat) (g : TF) (it : DI) (t : DT) (fk fv : DE) : DE := fun δ => (it δ).bind fun ds => (dcGo g t fk fv (wipeE δ own) ds []).bind fun kvs => .ok (.dict kvs)

/-! ### statements -/
inductive Out where
  | nx (δ : Env) | rt (d : D) | bk (δ : Env) | ct (δ : Env) | err (c : Str) (i : Int) | bad
abbrev DS := Env → Out
def ofR {α : Type} (x : R α) (f : α → Out) : Out :=
  match x with
  | .ok a => f a
  | .err c i => .err c i
  | .bad => .bad
@[simp] theorem ofR_ok {α : Type} (a : α) (f : α → Out) : ofR (.ok a) f = f a := rfl
@[simp] theorem ofR_err {α : Type} (c : Str) (i : Int) (f : α → Out) : ofR (.err c i : R α) f = .err c i := rfl
@[simp] theorem ofR_bad {α : Type} (f : α → Out) : ofR (.bad : R α) f = .bad := rfl
def sBad : DS := fun _ => .bad
def sPass : DS := fun δ => .nx δ
def sBrk : DS := fun δ => .bk δ
def sCnt : DS := fun δ => .ct δ
def sRet (a : DE) : DS := fun δ => ofR (a δ) .rt
def sRetN : DS := fun _ => .rt .none
def sAsg (g : TF) (a : DE) : DS := fun δ => ofR (a δ) fun x => ofR (g x δ) .nx
def sDrop (a : DE) : DS := fun δ => ofR (a δ) fun _ => .nx δ
def andThen (o : Out) (k : DS) : Out :=
  match o with
  | .nx δ => k δ
  | o => o
@[simp] theorem andThen_nx (δ : Env) (k : DS) : andThen (.nx δ) k = k δ := rfl
@[simp] theorem andThen_rt (d : D) (k : DS) : andThen (.rt d) k = .rt d := rfl
@[simp] theorem andThen_bk (δ : Env) (k : DS) : andThen (.bk δ) k = .bk δ := rfl
@[simp] theorem andThen_ct (δ : Env) (k : DS) : andThen (.ct δ) k = .ct δ := rfl
@[simp] theorem andThen_err (c : Str) (i : Int) (k : DS) : andThen (.err c i) k = .err c i := rfl
@[simp] theorem andThen_bad (k : DS) : andThen .bad k = .bad := rfl
def sSeq : List DS → DS
  | [] => sPass
  | [s] => s
  | s :: ss => fun δ => andThen (s δ) (sSeq ss)
def sIf (t : DT) (a b : DS) : DS := fun δ => ofR (t δ) fun x => if x then a δ else b δ
def forGo (g : TF) (body : DS) : List D → DS
  | [] => fun δ => .nx δ
  | d :: ds => fun δ => ofR (g d δ) fun δ1 => match body δ1 with
    | .nx δ' => forGo g body ds δ'
    | .ct δ' => forGo g body ds δ'
    | .bk δ' => .nx δ'
    | o => o
def sFor (g : TF) (it : DI) (body : DS) : DS := fun δ => ofR (it δ) fun ds => forGo g body ds δ
def whlGo (t : DT) (body : DS) : Nat → DS
  | 0 => sBad
  | n + 1 => fun δ => ofR (t δ) fun x => if x then (match body δ with
    | .nx δ' => whlGo t body n δ'
    | .ct δ' => whlGo t body n δ'
    | .bk δ' => .nx δ'
    | o => o) else .nx δ
def turns : Nat := 1000000
def sWhl (t : DT) (body : DS) : DS := whlGo t body turns
/-- x.append(e) of an own list -/
def sApp (i : Nat) (a : DE) : DS := fun δ => ofR (a δ) fun x => match δ[i]? with
  | some (some (.list xs)) => if xs.length < lim then .nx (δ.set i (some (.list (xs ++ [x])))) else .bad
  | _ => .bad
/-- x.extend(e) of an own list, e new -/
def sExt (i : Nat) (a : DE) : DS := fun δ => ofR (a δ) fun y => match δ[i]?, y with
  | some (some (.list xs)), .list ys => if xs.length + ys.length ≤ lim then .nx (δ.set i (some (.list (xs ++ ys)))) else .bad
  | _, _ => .bad
/-- o.append(e) of a list that is new and dropped -/
def sAppE (o a : DE) : DS := fun δ => ofR (o δ) fun x => ofR (a δ) fun _ => match x with
  | .list xs => if xs.length < lim then .nx δ else .bad
  | _ => .bad
/-- what has no parts -/
def atomD : D → Bool
  | .none => true
  | .bool _ => true
  | .int _ => true
  | .str _ => true
  | _ => false
def forg (keep : List Nat) (k : Nat) (d : Option D) : Option D := if keep.contains k then d else match d with
  | some x => if atomD x then some x else none
  | none => none
def forgetF (keep : List Nat) : Nat → Env → Env
  | _, [] => []
  | k, d :: r => forg keep k d :: forgetF keep (k + 1) r
/-- o.append(e) of what is told and not read behind: but for the slots that are kept, and what has no parts, nothing is known any more -/
def sDead (keep : List Nat) (o a : DE) : DS := fun δ => ofR (o δ) fun x => ofR (a δ) fun _ => match x with
  | .list xs => if xs.length < lim then .nx (forgetF keep 0 δ) else .bad
  | _ => .bad
/-- x[e] = a of an own list -/
def sSet (i : Nat) (b a : DE) : DS := fun δ => ofR (a δ) fun x => ofR (b δ) fun y => match δ[i]? with
  | some (some (.list xs)) => ofR (asInt y) fun k => match ixZ xs.length k with
    | some j => .nx (δ.set i (some (.list (xs.set j x))))
    | none => .bad
  | some (some (.dict kvs)) => if isK y && decide (kvs.length < lim) then .nx (δ.set i (some (.dict (dPut kvs y x)))) else .bad
  | _ => .bad
/-- t = x.pop() -/
def sPop (i : Nat) (g : TF) : DS := fun δ => match δ[i]? with
  | some (some (.list xs)) => (match xs[xs.length - 1]? with
    | some d => ofR (g d (δ.set i (some (.list xs.dropLast)))) .nx
    | none => .bad)
  | _ => .bad
/-- a def's body run: its parameters, room for its other names -/
def runF (np m : Nat) (body : DS) (as : List D) : R D :=
  if as.length = np then (match body (as.map some ++ List.replicate (m - np) none) with
  | .nx _ => .ok .none
  | .rt d => .ok d
  | .err c i => .err c i
  | _ => .bad) else .bad
end Dv
/-! Dv1: the evaluator's reading of the syntax; the look that tells which lists are a def's own. -/
namespace Dv
open PySem

/-- a name of the module: a datum, or a def by its meaning (own: it hands back what is new; flat: .. in which no list lies) -/
inductive GV where
  | con (d : D) | fn (m : List D → R D) (own : Nat) (flat : Bool)
structure Cfg where
  N : List Str
  ge : List (Str × GV)
  bn : List Str
  /-- names whose value is changed when it is not read any more; the slots that are kept then -/
  dd : List Str
  kp : List Nat
def Cfg.slot (c : Cfg) (x : Str) : Option Nat := c.N.findIdx? (· == x)
def vis (sc : Scope) (x : Str) : Bool := match sc.names.lookup x with
  | some .local => true
  | some .cell => true
  | some .free => true
  | _ => false
def loc (sc : Scope) (x : Str) : Bool := match sc.names.lookup x with
  | some .local => true
  | some .cell => true
  | _ => false
def glo (sc : Scope) (x : Str) : Bool := match sc.names.lookup x with
  | some .globalImplicit => true
  | _ => false
def fnOf (c : Cfg) (sc : Scope) (x : Str) : Option (List D → R D) := if glo sc x then (match c.ge.lookup x with
  | some (.fn m _ _) => some m
  | _ => none) else none
def isBn (c : Cfg) (sc : Scope) (x : Str) : Bool := glo sc x && c.bn.contains x

/-! ### built-ins by name -/
def lenD : D → R D
  | .list xs => .ok (.int xs.length)
  | .tuple xs => .ok (.int xs.length)
  | .str s => .ok (.int s.length)
  | .dict kvs => .ok (.int kvs.length)
  | _ => .bad
def absD : D → R D
  | .int i => .ok (.int (if i < 0 then -i else i))
  | _ => .bad
def intsOf : List D → Option (List Int)
  | [] => some []
  | .int i :: r => (intsOf r).map (i :: ·)
  | _ :: _ => none
def boolsOf : List D → Option (List Bool)
  | [] => some []
  | .bool i :: r => (boolsOf r).map (i :: ·)
  | _ :: _ => none
def strsOf : List D → Option (List Str)
  | [] => some []
  | .str i :: r => (strsOf r).map (i :: ·)
  | _ :: _ => none
def sumD : D → R D
  | .list xs => match intsOf xs with
    | some ns => .ok (.int ns.sum)
    | none => .bad
  | _ => .bad
def allD : D → R D
  | .list xs => match boolsOf xs with
    | some bs => .ok (.bool (bs.all id))
    | none => .bad
  | _ => .bad
def anyD : D → R D
  | .list xs => match boolsOf xs with
    | some bs => .ok (.bool (bs.any id))
    | none => .bad
  | _ => .bad
def intD : D → R D
  | .int i => .ok (.int i)
  | .bool b => .ok (.int (if b then 1 else 0))
  | .str a => if decide (a.length ≤ 640) then (match PySem.intText? a with
    | some n => .ok (.int n)
    | none => .bad) else .bad
  | _ => .bad
def strD : D → R D
  | .int i => if i.natAbs.log2 < 1900 then .ok (.str (toString i)) else .bad
  | _ => .bad
def listD : D → R D
  | .dict kvs => .ok (.list (kvs.map (·.1)))
  | .list xs => .ok (.list xs)
  | .tuple xs => .ok (.list xs)
  | _ => .bad
def tupleD : D → R D
  | .list xs => .ok (.tuple xs)
  | .tuple xs => .ok (.tuple xs)
  | _ => .bad
def isTup1 : D → Bool
  | .tuple (_ :: _) => true
  | _ => false
def notTup : D → Bool
  | .none => false
  | .tuple _ => false
  | _ => true
def sortOk (xs : List D) : Bool := decide (xs.length ≤ lim) && xs.all (fl deep) && (xs.all isTup1 || xs.all notTup) && (xs.all fun x => xs.all fun y => W.alike x y)
def sortL (xs : List D) : List D := xs.mergeSort (W.dataLe false id)
def sortedD : D → R D
  | .dict kvs => if sortOk (kvs.map (·.1)) then .ok (.list (sortL (kvs.map (·.1)))) else .bad
  | .list xs => if sortOk xs then .ok (.list (sortL xs)) else .bad
  | _ => .bad
def reprOk (d : D) : Bool := fl deep d && d.showable && decide ((PyData.shown d).length ≤ 10000000) && PyData.strOk (PyData.shown d)
def reprD (d : D) : R D := if reprOk d then .ok (.str (PyData.shown d)) else .bad
def maxI : List Int → Option Int
  | [] => none
  | x :: xs => some (xs.foldl (fun m y => if m < y then y else m) x)
def minI : List Int → Option Int
  | [] => none
  | x :: xs => some (xs.foldl (fun m y => if y < m then y else m) x)
def oInt : Option Int → R D
  | some i => .ok (.int i)
  | none => .bad
def bindO {α β : Type} (o : Option α) (f : α → R β) : R β := match o with
  | some a => f a
  | none => .bad
def flatK : D → Bool
  | .list _ => false
  | .dict _ => false
  | .none => false
  | _ => true
def moreOk (xs : List D) : Bool := xs.all (fl deep) && xs.all flatK && xs.all fun x => xs.all fun y => W.alike x y
/-- of data that are alike, the first greatest, the first least -/
def maxG : List D → R D
  | [] => .bad
  | x :: xs => if moreOk (x :: xs) then .ok (PySem.W.maxD x xs) else .bad
def minG : List D → R D
  | [] => .bad
  | x :: xs => if moreOk (x :: xs) then .ok (PySem.W.minD x xs) else .bad
def maxD : List D → R D
  | [.list xs] => (match intsOf xs with
    | some ns => oInt (maxI ns)
    | none => maxG xs)
  | [.tuple xs] => maxG xs
  | [.int i, .int j] => .ok (.int (if j > i then j else i))
  | _ => .bad
def minD : List D → R D
  | [.list xs] => (match intsOf xs with
    | some ns => oInt (minI ns)
    | none => minG xs)
  | [.tuple xs] => minG xs
  | [.int i, .int j] => .ok (.int (if j < i then j else i))
  | _ => .bad
def on1 (f : D → R D) : List D → R D
  | [a] => f a
  | _ => .bad
def pairsOf : List D → Option (List (D × D))
  | [] => some []
  | .tuple [k, v] :: r => if isK k then (pairsOf r).map ((k, v) :: ·) else none
  | _ :: _ => none
def dictD : D → R D
  | .list xs => bindO (pairsOf xs) fun ps => .ok (.dict (dMerge [] ps))
  | .dict kvs => .ok (.dict kvs)
  | _ => .bad
def callB (x : Str) (as : List D) : R D :=
  if x = "len" then on1 lenD as else if x = "abs" then on1 absD as else if x = "sum" then on1 sumD as else if x = "all" then on1 allD as
  else if x = "any" then on1 anyD as else if x = "int" then on1 intD as else if x = "str" then on1 strD as else if x = "list" then on1 listD as
  else if x = "tuple" then on1 tupleD as else if x = "sorted" then on1 sortedD as else if x = "repr" then on1 reprD as else if x = "max" then maxD as
  else if x = "min" then minD as else if x = "dict" then on1 dictD as else .bad
/-- math.gcd of two ints -/
def gcdD : List D → R D
  | [.int a, .int b] => .ok (.int ((Nat.gcd a.natAbs b.natAbs : Nat) : Int))
  | _ => .bad
/-- the value is new (a list, if it is one, has no other owner) -/
def freshB (x : Str) : Bool := x != "max" && x != "min"

/-! ### methods that change nothing -/
def indexGo (y : D) : Nat → List D → R D
  | _, [] => .bad
  | n, x :: xs => if PyData.eqv x y then .ok (.int n) else indexGo y (n + 1) xs
def indexD (x y : D) : R D := match x with
  | .list xs => if fl deep y && xs.all (fl deep) then indexGo y 0 xs else .bad
  | .str a => (match y with
    | .str b => (match Builtin.Str.occurrences a b 0 a.length 1 with
      | i :: _ => .ok (.int (i : Nat))
      | [] => .bad)
    | _ => .bad)
  | _ => .bad
def joinOk (s : Str) (ss : List Str) : Bool := decide ((ss.map (·.length)).sum + ss.length * s.length ≤ 12000000) && decide ((Txt.join s ss).length ≤ 12000000) && PyData.strOk (Txt.join s ss)
def joinD (x y : D) : R D := match x, y with
  | .str s, .list xs => bindO (strsOf xs) fun ss => if joinOk s ss then .ok (.str (Txt.join s ss)) else .bad
  | _, _ => .bad
def startsD (x y : D) : R D := match x, y with
  | .str s, .str t => .ok (.bool (Txt.startswith s t))
  | _, _ => .bad
def on2 (f : D → D → R D) : List D → R D
  | [a, b] => f a b
  | _ => .bad
def sOkB (t : Str) : Bool := decide (t.length ≤ 12000000) && PyData.strOk t
def splitD (x y : D) : R D := match x, y with
  | .str a, .str b => if b.length != 0 && (decide (a.length ≤ lim) && (Txt.split a b).all sOkB) then .ok (.list ((Txt.split a b).map .str)) else .bad
  | _, _ => .bad
def endsD (x y : D) : R D := match x, y with
  | .str s, .str t => .ok (.bool (Txt.endswith s t))
  | _, _ => .bad
def findD (x y : D) : R D := match x, y with
  | .str s, .str t => .ok (.int (Txt.find s t))
  | _, _ => .bad
def countD (x y : D) : R D := match x, y with
  | .str s, .str t => .ok (.int (Txt.count s t))
  | _, _ => .bad
def callM (m : Str) (as : List D) : R D :=
  if m = "index" then on2 indexD as else if m = "join" then on2 joinD as else if m = "startswith" then on2 startsD as else if m = "split" then on2 splitD as
  else if m = "endswith" then on2 endsD as else if m = "find" then on2 findD as else if m = "count" then on2 countD as else .bad
def metOk (m : Str) (x : D) : Bool := match x with
  | .list _ => m == "index"
  | .str _ => true
  | _ => false
def mets : List Str := ["index", "join", "startswith", "split", "endswith", "find", "count"]

/-! ### the reading -/
def rel (scope sc : Scope) : Scope :=
  { scope with names := scope.names.map fun (n, k) => if (k == .free && sc.kind == .function && sc.names.lookup n == some .cell) then (n, .cell) else (n, k) }
def ownOf (c : Cfg) (scope : Scope) : List Nat := scope.names.filterMap fun p => match p.2 with
  | .local => c.slot p.1
  | .cell => c.slot p.1
  | _ => none
def constD : Const → Option D
  | .none => some .none
  | .bool b => some (.bool b)
  | .int i => some (.int i)
  | .str s => if s.length ≤ 1000 && PyData.strOk s then some (.str s) else none
  | _ => none
def eO : Option D → DE
  | some d => eC d
  | none => eBad
def eName (c : Cfg) (sc : Scope) (x : Str) : DE :=
  if vis sc x then (match c.slot x with
    | some i => eV i
    | none => eBad)
  else if glo sc x then (match c.ge.lookup x with
    | some (.con d) => eC d
    | _ => eBad)
  else eBad
/-- a target -/
def dG (c : Cfg) : Nat → Scope → Expr → TF
  | 0, _, _ => gNo
  | n + 1, sc, e => match e with
    | .Name x _ => if loc sc x then (match c.slot x with
        | some i => gNm i
        | none => gNo) else gNo
    | .Tuple es _ _ => gTp (es.map (dG c n sc))
    | _ => gNo
/-! views of the syntax -/
def isM1 : Expr → Bool
  | .UnaryOp .USub (.Constant (.int 1) _ _) _ => true
  | _ => false
inductive ItK where
  | rng (as : List Expr) | enum (a : Expr) | zip (a b : Expr) | exp
def bnCall (c : Cfg) (sc : Scope) (e : Expr) : Option (Str × List Expr) := match e with
  | .Call (.Name x _) as [] _ => if isBn c sc x then some (x, as) else none
  | _ => none
/-- what kind of thing is walked -/
def itK (c : Cfg) (sc : Scope) (e : Expr) : ItK := match bnCall c sc e with
  | some (x, as) => if x = "range" then .rng as else if x = "enumerate" then (match as with
      | [a] => .enum a
      | _ => .exp) else if x = "zip" then (match as with
      | [a, b] => .zip a b
      | _ => .exp) else .exp
  | none => .exp
def isRng (c : Cfg) (sc : Scope) (e : Expr) : Bool := match itK c sc e with
  | .rng _ => true
  | _ => false
inductive SubK where
  | sl (lo hi : Option Expr) | rev | ix | no
def subK (i : Expr) : SubK := match i with
  | .Slice lo hi st _ => (match st with
    | none => .sl lo hi
    | some e => (match lo, hi with
      | none, none => if isM1 e then .rev else .no
      | _, _ => .no))
  | _ => .ix
def kD : L2.Key → D
  | .inl i => .int i
  | .inr x => .str x
/-- the items as keys: ints and texts -/
def keysD : List D → Option (List L2.Key)
  | [] => some []
  | .int i :: ds => (keysD ds).map (.inl i :: ·)
  | .str x :: ds => (keysD ds).map (.inr x :: ·)
  | _ :: _ => none
/-- the distinct keys, in the order in which they come first -/
def dedupK : List L2.Key → List L2.Key
  | [] => []
  | k :: ks => if ks.any (fun j => decide (j = k)) then dedupK ks else k :: dedupK ks
def setLenD : D → R D
  | .list ds => (match keysD ds with
    | some ks => if ks.length + 1 < 4096 then .ok (.int (dedupK ks).length) else .bad
    | none => .bad)
  | _ => .bad
def setSortD : D → R D
  | .list ds => (match keysD ds with
    | some ks => if decide (ks.length + 1 < 4096) && sortOk (ks.map kD) then .ok (.list (sortL ((dedupK ks).map kD))) else .bad
    | none => .bad)
  | _ => .bad
def eSet1 (g : D → R D) (f : DE) : DE := fun δ => (f δ).bind g
/-- len(set(a)), sorted(set(a)) -/
def setK (c : Cfg) (sc : Scope) (f : Expr) (as : List Expr) (kws : List Keyword) : Option (Bool × Expr) := match kws with
  | [] => (match f with
    | .Name x _ => (match as with
      | [a] => (match bnCall c sc a with
        | some (y, bs) => (match bs with
          | [b] => if (x = "len" || x = "sorted") && isBn c sc x && y = "set" then some (x = "sorted", b) else none
          | _ => none)
        | none => none)
      | _ => none)
    | _ => none)
  | _ => none
inductive CallK where
  | listI (a : Expr) | fn (x : Str) | met (o : Expr) (m : Str) | isl (a : Expr) | get1 (o k : Expr) | get2 (o k z : Expr) | no
def attK (o : Expr) (m : Str) (as : List Expr) : CallK := if m = "get" then (match as with
  | [k] => .get1 o k
  | [k, z] => .get2 o k z
  | _ => .no) else .met o m
/-- the pairs of a display -/
def dpairs : List (Option Expr) → List Expr → Option (List (Expr × Expr))
  | [], [] => some []
  | some k :: ks, v :: vs => (dpairs ks vs).map ((k, v) :: ·)
  | _, _ => none
def isNm (y : Str) : Expr → Bool
  | .Name x _ => x == y
  | _ => false
def isLst : D → Bool
  | .list _ => true
  | _ => false
/-- isinstance(x, list) -/
def eIsL (a : DE) : DE := fun δ => (a δ).bind fun x => .ok (.bool (isLst x))
def callK (c : Cfg) (sc : Scope) (f : Expr) (as : List Expr) (kws : List Keyword) : CallK := match kws with
  | [] => (match f with
    | .Name x _ => (match as with
      | [a] => if x = "list" && isBn c sc x && isRng c sc a then .listI a else .fn x
      | [a, b] => if x = "isinstance" && isBn c sc x && isNm "list" b && isBn c sc "list" then .isl a else .fn x
      | _ => .fn x)
    | .Attribute o m _ => attK o m as
    | _ => .no)
  | _ => .no
inductive GenK where
  | one (tg it : Expr) (ifs : List Expr) | two (tg it : Expr) (ifs : List Expr) (tg2 it2 : Expr) (ifs2 : List Expr) | no
def genK : List Comprehension → GenK
  | [⟨tg, it, ifs, 0⟩] => .one tg it ifs
  | [⟨tg, it, ifs, 0⟩, ⟨tg2, it2, ifs2, 0⟩] => .two tg it ifs tg2 it2 ifs2
  | _ => .no
def isSt : Expr → Bool
  | .Starred _ _ => true
  | _ => false
def unSt : Expr → Expr
  | .Starred e _ => e
  | e => e
def plainT : Expr → Bool
  | .Starred _ _ => false
  | _ => true
def tSs (f : Expr → Option (List Nat)) : List Expr → Option (List Nat)
  | [] => some []
  | e :: es => (f e).bind fun ts => (tSs f es).bind fun us => some (us ++ ts)
def tS (c : Cfg) : Nat → Scope → Expr → Option (List Nat)
  | 0, _, _ => none
  | n + 1, sc, e => match e with
    | .Name x _ => if loc sc x then (match c.slot x with
        | some i => some [i]
        | none => none) else none
    | .Tuple es _ _ => if es.all plainT then tSs (tS c n sc) es else none
    | _ => none
mutual
def dE (c : Cfg) : Nat → Scope → Expr → DE
  | 0, _, _ => eBad
  | n + 1, sc, e => match e with
    | .Constant k _ _ => eO (constD k)
    | .Name x _ => eName c sc x
    | .BinOp a op b _ => eBin op (dE c n sc a) (dE c n sc b)
    | .UnaryOp op a _ => (match op with
      | .USub => eNeg (dE c n sc a)
      | .Not => eT (tNot (tTru (dE c n sc a)))
      | _ => eBad)
    | .BoolOp op es _ => (match op with
      | .And => eAnds (es.map (dE c n sc))
      | .Or => eOrs (es.map (dE c n sc)))
    | .IfExp t a b _ => eIf (dT c n sc t) (dE c n sc a) (dE c n sc b)
    | .Compare a ops bs _ => eT (tCmp (dE c n sc a) (ops.zip (bs.map (dE c n sc))))
    | .List es _ => if es.any isSt then eLstS (es.map fun e => (isSt e, dE c n sc (unSt e))) else eLst (es.map (dE c n sc))
    | .Tuple es _ _ => if es.any isSt then eTupS (es.map fun e => (isSt e, dE c n sc (unSt e))) else eTup (es.map (dE c n sc))
    | .Subscript a i _ => (match subK i with
      | .sl lo hi => eSl (dE c n sc a) (lo.map (dE c n sc)) (hi.map (dE c n sc))
      | .rev => eRev (dE c n sc a)
      | .ix => eIx (dE c n sc a) (dE c n sc i)
      | .no => eBad)
    | .ListComp elt gens scope _ => (match genK gens with
      | .one tg it ifs => eLc (ownOf c scope) (dG c n scope tg) (dI c n sc it) (dIfs c n (rel scope sc) ifs) (dE c n (rel scope sc) elt)
      | .two tg it ifs tg2 it2 ifs2 => eLc2 (ownOf c scope) (dG c n scope tg) (dI c n sc it) (dIfs c n (rel scope sc) ifs)
          (dI c n (rel scope sc) it2) ((tS c n scope tg2).getD []) (dG c n scope tg2) (dIfs c n (rel scope sc) ifs2) (dE c n (rel scope sc) elt)
      | .no => eBad)
    | .DictComp kx vx gens scope _ => (match genK gens with
      | .one tg it ifs => eDc (ownOf c scope) (dG c n scope tg) (dI c n sc it) (dIfs c n (rel scope sc) ifs) (dE c n (rel scope sc) kx) (dE c n (rel scope sc) vx)
      | _ => eBad)
    | .Call f as kws _ => (match setK c sc f as kws with
      | some p => eSet1 (if p.1 then setSortD else setLenD) (dE c n sc p.2)
      | none => match callK c sc f as kws with
      | .listI a => eLstI (dI c n sc a)
      | .isl a => eIsL (dE c n sc a)
      | .fn x => (match fnOf c sc x with
        | some m => eCall m (as.map (dE c n sc))
        | none => if isBn c sc x then eCall (callB x) (as.map (dE c n sc)) else eBad)
      | .met o m => if mets.contains m then eMet (metOk m) (callM m) (dE c n sc o) (as.map (dE c n sc)) else eBad
      | .get1 o k => eGet1 (dE c n sc o) (dE c n sc k)
      | .get2 o k z => eGet2 (dE c n sc o) (dE c n sc k) (dE c n sc z)
      | .no => eBad)
    | .Dict ks vs _ => (match dpairs ks vs with
      | some ps => eDct (ps.map fun p => (dE c n sc p.1, dE c n sc p.2))
      | none => eBad)
    | _ => eBad
def dT (c : Cfg) : Nat → Scope → Expr → DT
  | 0, _, _ => fun _ => .bad
  | n + 1, sc, e => match e with
    | .UnaryOp op a pos => (match op with
      | .Not => tNot (dT c n sc a)
      | op => tTru (dE c n sc (.UnaryOp op a pos)))
    | .BoolOp op es _ => (match op with
      | .And => tAnds (es.map (dT c n sc))
      | .Or => tOrs (es.map (dT c n sc)))
    | .Compare a ops bs _ => tCmp (dE c n sc a) (ops.zip (bs.map (dE c n sc)))
    | .IfExp _ _ _ _ => fun _ => .bad
    | e => tTru (dE c n sc e)
def dIfs (c : Cfg) : Nat → Scope → List Expr → DT
  | 0, _, _ => fun _ => .bad
  | n + 1, sc, es => match es with
    | [] => tYes
    | [e] => dT c n sc e
    | _ => fun _ => .bad
def dI (c : Cfg) : Nat → Scope → Expr → DI
  | 0, _, _ => iBad
  | n + 1, sc, e => match itK c sc e with
    | .rng as => (match as with
      | [a] => iRng1 (dE c n sc a)
      | [a, b] => iRng2 (dE c n sc a) (dE c n sc b)
      | [a, b, s] => if isM1 s then iRngD (dE c n sc a) (dE c n sc b) else iBad
      | _ => iBad)
    | .enum a => iEnum (dE c n sc a)
    | .zip a b => iZip (dE c n sc a) (dE c n sc b)
    | .exp => iExp (dE c n sc e)
end
/-! statements -/
inductive ExK where
  | app (x : Str) (a : Expr) | ext (x : Str) (a : Expr) | appE (o a : Expr) | doc | other
/-- a statement that is an expression -/
def exK (e : Expr) : ExK := match e with
  | .Call (.Attribute o m _) [a] [] _ => if m = "append" then (match o with
      | .Name x _ => .app x a
      | o => .appE o a) else if m = "extend" then (match o with
      | .Name x _ => .ext x a
      | _ => .other) else .other
  | .Constant (.str _) _ _ => .doc
  | _ => .other
inductive TgK where
  | g (e : Expr) | set (x : Str) (i : Expr) | no
def tgK : List Expr → TgK
  | [.Name x p] => .g (.Name x p)
  | [.Tuple es k p] => .g (.Tuple es k p)
  | [.Subscript (.Name x _) i _] => .set x i
  | _ => .no
/-- x.pop() of a list -/
def popK : Expr → Option Str
  | .Call (.Attribute (.Name y _) m _) [] [] _ => if m = "pop" then some y else none
  | _ => none
def sAt (o : Option Nat) (f : Nat → DS) : DS := match o with
  | some i => f i
  | none => sBad
def dS (c : Cfg) (sc : Scope) : Nat → Stmt → DS
  | 0, _ => sBad
  | n + 1, st => match st with
    | .Pass _ => sPass
    | .Break _ => sBrk
    | .Continue _ => sCnt
    | .Return v _ => (match v with
      | some e => sRet (dE c n sc e)
      | none => sRetN)
    | .Assign tgs e _ => (match tgK tgs with
      | .g tg => (match popK e with
        | some y => if loc sc y then sAt (c.slot y) fun j => sPop j (dG c n sc tg) else sBad
        | none => sAsg (dG c n sc tg) (dE c n sc e))
      | .set x i => if loc sc x then sAt (c.slot x) fun j => sSet j (dE c n sc i) (dE c n sc e) else sBad
      | .no => sBad)
    | .Expr e _ => (match exK e with
      | .app x a => if loc sc x then sAt (c.slot x) fun j => if c.dd.contains x then sDead c.kp (eV j) (dE c n sc a) else sApp j (dE c n sc a) else sBad
      | .ext x a => if loc sc x then sAt (c.slot x) fun j => sExt j (dE c n sc a) else sBad
      | .appE o a => sAppE (dE c n sc o) (dE c n sc a)
      | .doc => sPass
      | .other => sDrop (dE c n sc e))
    | .If t a b _ => sIf (dT c n sc t) (sSeq (a.map (dS c sc n))) (sSeq (b.map (dS c sc n)))
    | .For tg it body orelse _ => (match orelse with
      | [] => sFor (dG c n sc tg) (dI c n sc it) (sSeq (body.map (dS c sc n)))
      | _ => sBad)
    | .While t body orelse _ => (match orelse with
      | [] => sWhl (dT c n sc t) (sSeq (body.map (dS c sc n)))
      | _ => sBad)
    | _ => sBad
def dB (c : Cfg) (sc : Scope) (n : Nat) (b : List Stmt) : DS := sSeq (b.map (dS c sc n))
end Dv
/-! Dv2: what stands for what: values and data, slots and names. -/
namespace Dv
open PySem PySem.Spec PyProof.Rows L2

/-- the texts that stand for data -/
def sOk (x : Str) : Prop := x.length ≤ 12000000 ∧ PyData.strOk x = true
/-- a list that is read: tracked, known, or an object of the module, plainly told -/
def SqR (K : PySem.W.Frag) (H : Hp) (a : Addr) (xs : List V) : Prop :=
  Rd H a (.lst xs) ∨ ∃ (its : List Value) (n : Nat), K.lookup a = some { cls := .type "list", data := .seq its.toArray n } ∧ its.length ≤ sizeLine ∧ Vals xs its
theorem SqR.to {K : PySem.W.Frag} {H : Hp} {a : Addr} {xs : List V} (h : SqR K H a xs) : SqL K H a xs := by
  rcases h with h | ⟨its, n, h1, h2, h3⟩
  · exact .inl h
  · exact .inr ⟨_, its.toArray, n, h1, rfl, rfl, rfl, by rw [List.size_toArray]; exact h2, by simpa using h3⟩
theorem SqR.of {K : PySem.W.Frag} {H : Hp} {a : Addr} {xs : List V} (h : H a = some (.lst xs)) : SqR K H a xs := .inl (.inl h)
theorem SqR.mono {K : PySem.W.Frag} {H H' : Hp} {a : Addr} {xs : List V} (e : Same H H') (h : SqR K H a xs) : SqR K H' a xs := by
  rcases h with (h | ⟨o, h⟩) | h
  · exact .inl (.inl (e _ _ h))
  · exact .inl (.inr ⟨o, e _ _ h⟩)
  · exact .inr h
theorem _root_.L2.Inv.lstR {X : Cx} {pins : List (Addr × Obj)} {σ : L2.St} {H : Hp} {s : Shared} {a : Addr} {xs : List V} (I : Inv X pins σ H s) (h : SqR X.K H a xs) :
    xs.length ≤ sizeLine ∧ ∃ (its : List Value) (n : Nat), Vals xs its ∧ xs.length = its.length ∧ s.heap.get? a = some { cls := .type "list", data := .seq its.toArray n } := by
  rcases h with h | ⟨its, n, h1, h2, h3⟩
  · obtain ⟨z, its, n, r, e⟩ := h.ok I.hok
    exact ⟨z, its, n, r, r.length, e⟩
  · exact ⟨by rw [h3.length]; exact h2, its, n, h3, h3.length, I.kIn a _ h1⟩
mutual
/-- v stands for d, all of it in the part F of the heap that never changes -/
inductive Rp (K : PySem.W.Frag) (F : Hp) : V → D → Prop
  | non : Rp K F .non .none
  | bl (b : Bool) : Rp K F (.bl b) (.bool b)
  | int (i : Int) : Rp K F (.int i) (.int i)
  | str {x : Str} : sOk x → Rp K F (.str x) (.str x)
  | lst {a : Addr} {xs : List V} {ds : List D} : SqR K F a xs → Rps K F xs ds → Rp K F (.ref a) (.list ds)
  | tup {a : Addr} {xs : List V} {ds : List D} : SqT K F a xs → Rps K F xs ds → Rp K F (.ref a) (.tuple ds)
  | dct {a : Addr} {ks : List (Key × V)} {kvs : List (D × D)} : F a = some (.dK ks) → Rkv K F ks kvs → Rp K F (.ref a) (.dict kvs)
inductive Rps (K : PySem.W.Frag) (F : Hp) : List V → List D → Prop
  | nil : Rps K F [] []
  | cons {v : V} {vs : List V} {d : D} {ds : List D} : Rp K F v d → Rps K F vs ds → Rps K F (v :: vs) (d :: ds)
inductive Rkv (K : PySem.W.Frag) (F : Hp) : List (Key × V) → List (D × D) → Prop
  | nil : Rkv K F [] []
  | cons {k : Key} {v : V} {d : D} {ks : List (Key × V)} {kvs : List (D × D)} : Rp K F (kV k) (kD k) → Rp K F v d → Rkv K F ks kvs → Rkv K F ((k, v) :: ks) ((kD k, d) :: kvs)
end
variable {K : PySem.W.Frag} {F F' F0 B H H' : Hp}
theorem same_t {K : PySem.W.Frag} {H H' : Hp} {a : Addr} {xs : List V} (e : Same H H') (h : SqT K H a xs) : SqT K H' a xs := by
  rcases h with (h | ⟨o, h⟩) | h
  · exact .inl (.inl (e _ _ h))
  · exact .inl (.inr ⟨o, e _ _ h⟩)
  · exact .inr h
mutual
theorem Rp.mono (e : Same F F') : ∀ (d : D) (v : V), Rp K F v d → Rp K F' v d
  | .none, _, h => by cases h; exact .non
  | .bool _, _, h => by cases h; exact .bl _
  | .int _, _, h => by cases h; exact .int _
  | .str _, _, h => by cases h with | str s => exact .str s
  | .list ds, _, h => by cases h with | lst s r => exact .lst (s.mono e) (Rps.mono e ds _ r)
  | .tuple ds, _, h => by cases h with | tup s r => exact .tup (same_t e s) (Rps.mono e ds _ r)
  | .dict kvs, _, h => by cases h with | dct s r => exact .dct (e _ _ s) (Rkv.mono e kvs _ r)
theorem Rps.mono (e : Same F F') : ∀ (ds : List D) (vs : List V), Rps K F vs ds → Rps K F' vs ds
  | [], _, h => by cases h; exact .nil
  | d :: ds, _, h => by cases h with | cons a b => exact .cons (Rp.mono e d _ a) (Rps.mono e ds _ b)
theorem Rkv.mono (e : Same F F') : ∀ (kvs : List (D × D)) (ks : List (Key × V)), Rkv K F ks kvs → Rkv K F' ks kvs
  | [], _, h => by cases h; exact .nil
  | (_, d) :: kvs, _, h => by
    cases h with
    | @cons k _ _ _ _ a b c =>
      refine .cons ?_ (Rp.mono e d _ b) (Rkv.mono e kvs _ c)
      cases k with
      | inl i => exact .int i
      | inr x =>
        have a : Rp K F (.str x) (.str x) := a
        cases a with | str s => exact .str s
end
theorem fl_all0 {n : Nat} {xs : List D} (h : fl n (.list xs) = true) : ∃ m, n = m + 1 ∧ xs.all (fl m) = true := by
  cases n with
  | zero => cases h
  | succ m => exact ⟨m, rfl, h⟩
theorem fl_all1 {n : Nat} {xs : List D} (h : fl n (.tuple xs) = true) : ∃ m, n = m + 1 ∧ xs.all (fl m) = true := by
  cases n with
  | zero => cases h
  | succ m => exact ⟨m, rfl, h⟩
theorem fl_dict {n : Nat} {kvs : List (D × D)} (h : fl n (.dict kvs) = true) : False := by cases n <;> cases h
mutual
theorem Rp.dp (e : Same F H) : ∀ (d : D) (v : V) (n : Nat), fl n d = true → Rp K F v d → Dp K H v d
  | .none, _, _, _, h => by cases h; exact .non
  | .bool _, _, _, _, h => by cases h; exact .bl _
  | .int _, _, _, _, h => by cases h; exact .int _
  | .str _, _, _, _, h => by cases h; exact .str _
  | .list ds, _, n, g, h => by
    obtain ⟨m, _, g⟩ := fl_all0 g
    cases h with | lst s r => exact .lst (e.seq s.to) (Rps.dp e ds _ m g r)
  | .tuple ds, _, n, g, h => by
    obtain ⟨m, _, g⟩ := fl_all1 g
    cases h with | tup s r => exact .tup (same_t e s) (Rps.dp e ds _ m g r)
  | .dict _, _, _, g, _ => (fl_dict g).elim
theorem Rps.dp (e : Same F H) : ∀ (ds : List D) (vs : List V) (n : Nat), ds.all (fl n) = true → Rps K F vs ds → DpAll K H vs ds
  | [], _, _, _, h => by cases h; exact .nil
  | d :: ds, _, n, g, h => by
    rw [List.all_cons, Bool.and_eq_true] at g
    cases h with | cons a b => exact .cons (Rp.dp e d _ n g.1 a) (Rps.dp e ds _ n g.2 b)
end
theorem Rps.length : ∀ {vs : List V} {ds : List D}, Rps K F vs ds → vs.length = ds.length
  | _, _, .nil => rfl
  | _, _, .cons _ t => by rw [List.length_cons, List.length_cons, Rps.length t]
theorem Rps.get : ∀ {vs : List V} {ds : List D} {i : Nat} {d : D}, Rps K F vs ds → ds[i]? = some d → ∃ v, vs[i]? = some v ∧ Rp K F v d
  | _, _, _, _, .nil, e => by simp at e
  | _, _, 0, _, .cons r _, e => by simp at e; subst e; exact ⟨_, rfl, r⟩
  | _, _, i + 1, d, .cons _ t, e => by
    obtain ⟨v, h1, h2⟩ := Rps.get (i := i) (d := d) t (by simpa using e)
    exact ⟨v, by simpa using h1, h2⟩
theorem Rps.get' {vs : List V} {ds : List D} {i : Nat} {v : V} (r : Rps K F vs ds) (e : vs[i]? = some v) : ∃ d, ds[i]? = some d ∧ Rp K F v d := by
  obtain ⟨hi, _⟩ := List.getElem?_eq_some_iff.mp e
  have hi' : i < ds.length := by rw [← r.length]; exact hi
  obtain ⟨w, e2, q⟩ := r.get (List.getElem?_eq_getElem hi')
  rw [e] at e2
  cases e2
  exact ⟨_, List.getElem?_eq_getElem hi', q⟩
theorem Rps.append : ∀ {vs ws : List V} {ds es : List D}, Rps K F vs ds → Rps K F ws es → Rps K F (vs ++ ws) (ds ++ es)
  | _, _, _, _, .nil, s => s
  | _, _, _, _, .cons r t, s => .cons r (Rps.append t s)
theorem Rps.snoc {vs : List V} {ds : List D} {v : V} {d : D} (r : Rps K F vs ds) (q : Rp K F v d) : Rps K F (vs ++ [v]) (ds ++ [d]) := r.append (.cons q .nil)
theorem Rps.take : ∀ (n : Nat) {vs : List V} {ds : List D}, Rps K F vs ds → Rps K F (vs.take n) (ds.take n)
  | 0, _, _, _ => by simp; exact .nil
  | _ + 1, _, _, .nil => by simp; exact .nil
  | n + 1, _, _, .cons r t => by rw [List.take_succ_cons, List.take_succ_cons]; exact .cons r (Rps.take n t)
theorem Rps.drop : ∀ (n : Nat) {vs : List V} {ds : List D}, Rps K F vs ds → Rps K F (vs.drop n) (ds.drop n)
  | 0, _, _, r => by simpa using r
  | _ + 1, _, _, .nil => by simp; exact .nil
  | n + 1, _, _, .cons _ t => by rw [List.drop_succ_cons, List.drop_succ_cons]; exact Rps.drop n t
theorem Rps.set : ∀ (n : Nat) {vs : List V} {ds : List D} {v : V} {d : D}, Rps K F vs ds → Rp K F v d → Rps K F (vs.set n v) (ds.set n d)
  | _, _, _, _, _, .nil, _ => .nil
  | 0, _, _, _, _, .cons _ t, q => .cons q t
  | n + 1, _, _, _, _, .cons r t, q => .cons r (Rps.set n t q)
theorem Rps.reverse {vs : List V} {ds : List D} (r : Rps K F vs ds) : Rps K F vs.reverse ds.reverse := by
  induction r using Rps.rec (motive_1 := fun _ _ _ => True) (motive_3 := fun _ _ _ => True) with
  | nil => exact .nil
  | cons a b _ ih => rw [List.reverse_cons, List.reverse_cons]; exact ih.snoc a
  | _ => trivial
theorem Rps.rep {vs : List V} {ds : List D} (r : Rps K F vs ds) : ∀ k : Nat, Rps K F (List.replicate k vs).flatten (List.replicate k ds).flatten
  | 0 => .nil
  | k + 1 => by
    rw [List.replicate_succ, List.replicate_succ, List.flatten_cons, List.flatten_cons]
    exact r.append (Rps.rep r k)
theorem Rps.each : ∀ {n : Nat} {vs : List V} {ds : List D}, vs.length = n → ds.length = n → (∀ (i : Nat) (v : V) (d : D), vs[i]? = some v → ds[i]? = some d → Rp K F v d) → Rps K F vs ds
  | 0, [], [], _, _, _ => .nil
  | n + 1, v :: vs, d :: ds, h1, h2, h => .cons (h 0 v d rfl rfl) (Rps.each (n := n) (by simpa using h1) (by simpa using h2) fun i w e a b => h (i + 1) w e (by simpa using a) (by simpa using b))

/-! ### shapes of values -/
theorem Rp.int_inv {v : V} {i : Int} (h : Rp K F v (.int i)) : v = .int i := by cases h; rfl
theorem Rp.bl_inv {v : V} {b : Bool} (h : Rp K F v (.bool b)) : v = .bl b := by cases h; rfl
theorem Rp.non_inv {v : V} (h : Rp K F v .none) : v = .non := by cases h; rfl
theorem Rp.str_inv {v : V} {x : Str} (h : Rp K F v (.str x)) : v = .str x ∧ sOk x := by cases h with | str s => exact ⟨rfl, s⟩

/-! ### a value that may be read: it stands in F, or it is a list or a dict of the def's own -/
/-- what an object of the def's own tells -/
inductive Ob (K : PySem.W.Frag) (F : Hp) : HO → D → Prop
  | lst {xs : List V} {ds : List D} : Rps K F xs ds → Ob K F (.lst xs) (.list ds)
  | dct {ks : List (Key × V)} {kvs : List (D × D)} : Rkv K F ks kvs → Ob K F (.dK ks) (.dict kvs)
def isOb : D → Bool
  | .list _ => true
  | .dict _ => true
  | _ => false
theorem Ob.mono {u : HO} {d : D} (e : Same F F') (h : Ob K F u d) : Ob K F' u d := by
  cases h with
  | lst r => exact .lst (Rps.mono e _ _ r)
  | dct r => exact .dct (Rkv.mono e _ _ r)
theorem Ob.isOb {u : HO} {d : D} (h : Ob K F u d) : isOb d = true := by cases h <;> rfl
theorem Ob.rp {p : Addr} {u : HO} {d : D} (h : Ob K F u d) (hp : F p = some u) : Rp K F (.ref p) d := by
  cases h with
  | lst r => exact .lst (SqR.of hp) r
  | dct r => exact .dct hp r
def Rh (K : PySem.W.Frag) (F H : Hp) (v : V) (d : D) : Prop := Rp K F v d ∨ ∃ p u, v = .ref p ∧ H p = some u ∧ Ob K F u d
/-- a value that is the def's own: an object at a place that neither F nor the heap at the def's entry knows; else any value -/
def Ow (K : PySem.W.Frag) (B F H : Hp) (v : V) (d : D) : Prop := if isOb d = true then ∃ p u, v = .ref p ∧ F p = none ∧ B p = none ∧ H p = some u ∧ Ob K F u d else Rp K F v d
theorem Ow.ob {v : V} {d : D} (h : Ow K B F H v d) (o : isOb d = true) : ∃ p u, v = .ref p ∧ F p = none ∧ B p = none ∧ H p = some u ∧ Ob K F u d := by
  unfold Ow at h
  rwa [if_pos o] at h
theorem Ow.no {v : V} {d : D} (h : Ow K B F H v d) (o : isOb d = false) : Rp K F v d := by
  unfold Ow at h
  rwa [if_neg (by rw [o]; exact Bool.false_ne_true)] at h
theorem Ow.of {v : V} {d : D} (o : isOb d = true) (h : ∃ p u, v = .ref p ∧ F p = none ∧ B p = none ∧ H p = some u ∧ Ob K F u d) : Ow K B F H v d := by
  unfold Ow
  rwa [if_pos o]
theorem Ow.ofNo {v : V} {d : D} (o : isOb d = false) (h : Rp K F v d) : Ow K B F H v d := by
  unfold Ow
  rwa [if_neg (by rw [o]; exact Bool.false_ne_true)]
theorem Ow.list {v : V} {ds : List D} (h : Ow K B F H v (.list ds)) : ∃ p xs, v = .ref p ∧ F p = none ∧ B p = none ∧ H p = some (.lst xs) ∧ Rps K F xs ds := by
  obtain ⟨p, u, e, f, b, hp, o⟩ := h.ob rfl
  cases o with | lst r => exact ⟨p, _, e, f, b, hp, r⟩
theorem Ow.dict {v : V} {kvs : List (D × D)} (h : Ow K B F H v (.dict kvs)) : ∃ p ks, v = .ref p ∧ F p = none ∧ B p = none ∧ H p = some (.dK ks) ∧ Rkv K F ks kvs := by
  obtain ⟨p, u, e, f, b, hp, o⟩ := h.ob rfl
  cases o with | dct r => exact ⟨p, _, e, f, b, hp, r⟩
theorem Ow.mkL {v : V} {ds : List D} (h : ∃ p xs, v = .ref p ∧ F p = none ∧ B p = none ∧ H p = some (.lst xs) ∧ Rps K F xs ds) : Ow K B F H v (.list ds) := by
  obtain ⟨p, xs, e, f, b, hp, r⟩ := h
  exact .of rfl ⟨p, _, e, f, b, hp, .lst r⟩
theorem Ow.mkD {v : V} {kvs : List (D × D)} (h : ∃ p ks, v = .ref p ∧ F p = none ∧ B p = none ∧ H p = some (.dK ks) ∧ Rkv K F ks kvs) : Ow K B F H v (.dict kvs) := by
  obtain ⟨p, xs, e, f, b, hp, r⟩ := h
  exact .of rfl ⟨p, _, e, f, b, hp, .dct r⟩
theorem Ow.rh {v : V} {d : D} (h : Ow K B F H v d) : Rh K F H v d := by
  cases o : isOb d with
  | true =>
    obtain ⟨p, u, e, _, _, a, b⟩ := h.ob o
    exact .inr ⟨p, u, e, a, b⟩
  | false => exact .inl (h.no o)
theorem Rh.mkL {v : V} {ds : List D} {p : Addr} {xs : List V} (e : v = .ref p) (hp : H p = some (.lst xs)) (r : Rps K F xs ds) : Rh K F H v (.list ds) := .inr ⟨p, _, e, hp, .lst r⟩
theorem Rh.list_inv {v : V} {ds : List D} (FH : Same F H) (h : Rh K F H v (.list ds)) : ∃ p xs, v = .ref p ∧ SqR K H p xs ∧ Rps K F xs ds := by
  rcases h with h | ⟨p, u, e, a, b⟩
  · cases h with | lst s r => exact ⟨_, _, rfl, s.mono FH, r⟩
  · cases b with | lst r => exact ⟨p, _, e, SqR.of a, r⟩
theorem Rh.dict_is {v : V} {kvs : List (D × D)} (FH : Same F H) (h : Rh K F H v (.dict kvs)) : ∃ p ks, v = .ref p ∧ H p = some (.dK ks) ∧ Rkv K F ks kvs := by
  rcases h with h | ⟨p, u, e, a, b⟩
  · cases h with | dct s r => exact ⟨_, _, rfl, FH _ _ s, r⟩
  · cases b with | dct r => exact ⟨p, _, e, a, r⟩
theorem Rh.rp {v : V} {d : D} (o : isOb d = false) (h : Rh K F H v d) : Rp K F v d := by
  rcases h with h | ⟨p, u, e, a, b⟩
  · exact h
  · rw [b.isOb] at o; cases o
theorem Rh.tup_inv {v : V} {ds : List D} (FH : Same F H) (h : Rh K F H v (.tuple ds)) : ∃ p xs, v = .ref p ∧ SqT K H p xs ∧ Rps K F xs ds := by
  have h := h.rp rfl
  cases h with | tup s r => exact ⟨_, _, rfl, same_t FH s, r⟩
theorem Rh.int_inv {v : V} {i : Int} (h : Rh K F H v (.int i)) : v = .int i := (h.rp rfl).int_inv
theorem Rh.bl_inv {v : V} {b : Bool} (h : Rh K F H v (.bool b)) : v = .bl b := (h.rp rfl).bl_inv
theorem Rh.non_inv {v : V} (h : Rh K F H v .none) : v = .non := (h.rp rfl).non_inv
theorem Rh.str_inv {v : V} {x : Str} (h : Rh K F H v (.str x)) : v = .str x ∧ sOk x := (h.rp rfl).str_inv
theorem Rh.mono {v : V} {d : D} (e1 : Same F F') (e2 : Same H H') (h : Rh K F H v d) : Rh K F' H' v d := by
  rcases h with h | ⟨p, u, e, a, b⟩
  · exact .inl (Rp.mono e1 _ _ h)
  · exact .inr ⟨p, u, e, e2 _ _ a, b.mono e1⟩
theorem Rh.dp {v : V} {d : D} {n : Nat} (g : fl n d = true) (e : Same F H) (h : Rh K F H v d) : Dp K H v d := by
  rcases h with h | ⟨p, u, rfl, a, b⟩
  · exact Rp.dp e _ _ n g h
  · cases b with
    | lst r =>
      obtain ⟨m, _, g⟩ := fl_all0 g
      exact .lst (SqL.of a) (Rps.dp e _ _ m g r)
    | dct r => exact (fl_dict g).elim

/-! ### dicts -/
theorem keq_kD (a b : Key) : keq (kD a) (kD b) = decide (a = b) := by
  cases a with
  | inl i => cases b with
    | inl j =>
      show decide (i = j) = _
      by_cases h : i = j <;> simp [h]
    | inr y => show false = _; simp
  | inr x => cases b with
    | inl j => show false = _; simp
    | inr y =>
      show decide (x = y) = _
      by_cases h : x = y <;> simp [h]
theorem key_of_isK {v : V} {d : D} (h : isK d = true) (r : Rh K F H v d) : ∃ k, v = kV k ∧ d = kD k ∧ ∀ F', Rp K F' (kV k) (kD k) := by
  cases d with
  | int i => exact ⟨.inl i, r.int_inv, rfl, fun _ => .int i⟩
  | str x => exact ⟨.inr x, r.str_inv.1, rfl, fun _ => .str r.str_inv.2⟩
  | _ => cases h
theorem Rkv.length : ∀ {ks : List (Key × V)} {kvs : List (D × D)}, Rkv K F ks kvs → ks.length = kvs.length
  | _, _, .nil => rfl
  | _, _, .cons _ _ t => by rw [List.length_cons, List.length_cons, Rkv.length t]
theorem Rkv.find (k : Key) : ∀ {ks : List (Key × V)} {kvs : List (D × D)}, Rkv K F ks kvs → (valV ks k = none ∧ dGet kvs (kD k) = none) ∨ ∃ v d, valV ks k = some v ∧ dGet kvs (kD k) = some d ∧ Rp K F v d
  | _, _, .nil => .inl ⟨rfl, rfl⟩
  | _, _, .cons (k := j) (v := v) (d := d) (kvs := kvs) _ r t => by
    have e := keq_kD j k
    by_cases h : j = k
    · refine .inr ⟨v, d, valV_pos h, ?_, r⟩
      unfold dGet
      rw [List.find?_cons_of_pos (by rw [e]; exact decide_eq_true h)]
      rfl
    · rw [valV_neg h]
      have : dGet ((kD j, d) :: kvs) (kD k) = dGet kvs (kD k) := by
        unfold dGet
        rw [List.find?_cons_of_neg (by rw [e]; simpa using h)]
      rw [this]
      exact Rkv.find k t
theorem Rkv.has (k : Key) {ks : List (Key × V)} {kvs : List (D × D)} (h : Rkv K F ks kvs) : (ks.any fun p => decide (p.1 = k)) = dHas kvs (kD k) := by
  match h with
  | .nil => rfl
  | .cons (k := j) _ _ t =>
    have ih := Rkv.has k t
    unfold dHas at ih ⊢
    rw [List.any_cons, List.any_cons, ih, keq_kD]
theorem Rkv.snoc {k : Key} {v : V} {d : D} (hk : Rp K F (kV k) (kD k)) (hv : Rp K F v d) : ∀ {ks : List (Key × V)} {kvs : List (D × D)}, Rkv K F ks kvs → Rkv K F (ks ++ [(k, v)]) (kvs ++ [(kD k, d)])
  | _, _, .nil => .cons hk hv .nil
  | _, _, .cons a b t => .cons a b (Rkv.snoc hk hv t)
theorem Rkv.repl {k : Key} {v : V} {d : D} (hv : Rp K F v d) : ∀ {ks : List (Key × V)} {kvs : List (D × D)}, Rkv K F ks kvs → Rkv K F (ks.map fun kv => if kv.1 = k then (kv.1, v) else kv) (kvs.map fun p => if keq p.1 (kD k) then (p.1, d) else p)
  | _, _, .nil => .nil
  | _, _, .cons (k := j) a b t => by
    rw [List.map_cons, List.map_cons]
    have ih := Rkv.repl (k := k) hv t
    have e := keq_kD j k
    by_cases h : j = k
    · rw [if_pos h, if_pos (by rw [e]; exact decide_eq_true h)]
      exact .cons a hv ih
    · rw [if_neg h, if_neg (by rw [e]; simpa using h)]
      exact .cons a b ih
theorem Rkv.put {k : Key} {v : V} {d : D} (hk : Rp K F (kV k) (kD k)) (hv : Rp K F v d) {ks : List (Key × V)} {kvs : List (D × D)} (h : Rkv K F ks kvs) : Rkv K F (putK ks k v) (dPut kvs (kD k) d) := by
  unfold putK dPut
  rw [h.has k]
  split
  · exact h.repl hv
  · exact h.snoc hk hv

/-! ### freezing -/
theorem same_new {p : Addr} {o : HO} (h : H p = none) : Same H (upd H p o) := fun b x e => by
  rw [upd_ne (ne_of_none e h)]
  exact e
theorem same_upd_to {p : Addr} {o : HO} (e : Same F H) (h : H p = some o) : Same (upd F p o) H := fun b x q => by
  by_cases hb : b = p
  · subst hb; rw [upd_same] at q; cases q; exact h
  · rw [upd_ne hb] at q; exact e _ _ q
/-- F' goes on from F by what is new behind B -/
def New (B F F' : Hp) : Prop := ∀ p, F' p ≠ none → F p ≠ none ∨ B p = none
theorem New.refl (B F : Hp) : New B F F := fun _ h => .inl h
theorem New.trans {F1 F2 F3 : Hp} (a : New B F1 F2) (b : New B F2 F3) : New B F1 F3 := fun p h => by
  rcases b p h with h | h
  · exact a p h
  · exact .inr h
theorem New.upd {p : Addr} {o : HO} (h : B p = none) : New B F (upd F p o) := fun q hq => by
  by_cases e : q = p
  · subst e; exact .inr h
  · rw [upd_ne e] at hq; exact .inl hq
/-- from a later entry -/
theorem New.back {B' : Hp} (e : Same B B') (h : New B' F F') : New B F F' := fun p hp => by
  rcases h p hp with h | h
  · exact .inl h
  · exact .inr (e.free h)
theorem Ow.frz {v : V} {d : D} (FH : Same F H) (h : Ow K B F H v d) : ∃ F', Same F F' ∧ Same F' H ∧ New B F F' ∧ Rp K F' v d ∧ (∀ q, F' q ≠ none → F q ≠ none ∨ (isOb d = true ∧ v = .ref q)) := by
  cases o : isOb d with
  | true =>
    obtain ⟨p, u, rfl, fp, bp, hp, r⟩ := h.ob o
    refine ⟨upd F p u, same_new fp, same_upd_to FH hp, New.upd bp, (r.mono (same_new fp)).rp upd_same, fun q hq => ?_⟩
    by_cases e : q = p
    · subst e; exact .inr ⟨rfl, rfl⟩
    · rw [upd_ne e] at hq; exact .inl hq
  | false => exact ⟨F, Same.refl F, FH, New.refl _ _, h.no o, fun q hq => .inl hq⟩

/-! ### the state of a def: F0, B the frozen part and the heap at its entry -/
/-- four marks for each slot: the def's own; as it stood behind B; its object is newer than B; so are its items -/
def bit (a : List Bool) (i : Nat) : Bool := a.getD i false
def own (a : List Bool) (i : Nat) : Bool := bit a (4 * i)
def old (a : List Bool) (i : Nat) : Bool := bit a (4 * i + 1)
def nw1 (a : List Bool) (i : Nat) : Bool := bit a (4 * i + 2)
/-- what of F stands in B as well -/
def inter (F B : Hp) : Hp := fun b => if B b = none then none else F b
theorem inter_le : Same (inter F B) F := fun b o h => by
  unfold inter at h
  split at h
  · cases h
  · exact h
theorem inter_mono (e : Same F F') : Same (inter F B) (inter F' B) := fun b o h => by
  unfold inter at h ⊢
  split at h
  · cases h
  · rename_i z; rw [if_neg z]; exact e b o h
structure SI (K : PySem.W.Frag) (F0 B F H : Hp) (σ : L2.St) (a : List Bool) (δ : Env) : Prop where
  len : σ.length = δ.length
  BH : Same B H
  FH : Same F H
  F0F : Same F0 F
  new : New B F0 F
  sl : ∀ (i : Nat) (d : D), δ[i]? = some (some d) → ∃ v, σ[i]? = some (some v) ∧ (own a i = true → Ow K B F H v d) ∧ (own a i = false → Rp K F v d)
  dj : ∀ (i j : Nat) (d e : D) (p : Addr), own a i = true → own a j = true → isOb d = true → isOb e = true → δ[i]? = some (some d) → δ[j]? = some (some e) → σ[i]? = some (some (.ref p)) → σ[j]? = some (some (.ref p)) → i = j
  ol : ∀ (i : Nat) (d : D), old a i = true → δ[i]? = some (some d) → own a i = false ∧ ∃ v, σ[i]? = some (some v) ∧ Rp K (inter F B) v d
  nf : ∀ (i : Nat) (d : D), nw1 a i = true → δ[i]? = some (some d) → ∃ v, σ[i]? = some (some v) ∧ ∀ p, isOb d = true → v = .ref p → B p = none ∧ (own a i = false → ∃ u, F p = some u ∧ Ob K F u d)
theorem Ow.mono {v : V} {d : D} (e1 : Same F F') (e2 : Same H H') (n : ∀ p, H p ≠ none → F p = none → F' p = none) (h : Ow K B F H v d) : Ow K B F' H' v d := by
  cases o : isOb d with
  | true =>
    obtain ⟨p, u, e, fp, bp, hp, r⟩ := h.ob o
    exact .of o ⟨p, u, e, n p (by rw [hp]; simp) fp, bp, e2 _ _ hp, r.mono e1⟩
  | false => exact .ofNo o (Rp.mono e1 _ _ (h.no o))
/-- a later heap, a later frozen part, what is frozen being new -/
theorem SI.later {σ : L2.St} {a : List Bool} {δ : Env} (S : SI K F0 B F H σ a δ) (e1 : Same F F') (e2 : Same H H') (e3 : Same F' H') (n : New H F F') : SI K F0 B F' H' σ a δ where
  len := S.len
  BH := S.BH.trans e2
  FH := e3
  F0F := S.F0F.trans e1
  new := S.new.trans (n.back S.BH)
  sl := fun i d h => by
    obtain ⟨v, e, h1, h2⟩ := S.sl i d h
    refine ⟨v, e, fun o => (h1 o).mono e1 e2 fun p hp fp => ?_, fun o => Rp.mono e1 _ _ (h2 o)⟩
    cases q : F' p with
    | none => rfl
    | some o =>
      rcases n p (by rw [q]; simp) with z | z
      · exact absurd fp z
      · exact absurd z hp
  dj := S.dj
  ol := fun i d o h => by
    obtain ⟨g1, v, g2, g3⟩ := S.ol i d o h
    exact ⟨g1, v, g2, Rp.mono (inter_mono e1) _ _ g3⟩
  nf := fun i d o h => by
    obtain ⟨v, g1, g2⟩ := S.nf i d o h
    refine ⟨v, g1, fun p ob e => ⟨(g2 p ob e).1, fun z => ?_⟩⟩
    obtain ⟨u, g3, g4⟩ := (g2 p ob e).2 z
    exact ⟨u, e1 _ _ g3, g4.mono e1⟩
/-- the heap grows -/
theorem SI.grow {σ : L2.St} {a : List Bool} {δ : Env} (S : SI K F0 B F H σ a δ) (e2 : Same H H') : SI K F0 B F H' σ a δ := S.later (Same.refl F) e2 (S.FH.trans e2) (New.refl _ _)
theorem SI.rh {σ : L2.St} {a : List Bool} {δ : Env} (S : SI K F0 B F H σ a δ) {i : Nat} {d : D} (h : δ[i]? = some (some d)) : ∃ v, σ[i]? = some (some v) ∧ Rh K F H v d := by
  obtain ⟨v, e, h1, h2⟩ := S.sl i d h
  cases o : own a i with
  | true => exact ⟨v, e, (h1 o).rh⟩
  | false => exact ⟨v, e, .inl (h2 o)⟩

/-! ### what is newer than B, to a depth -/
/-- v's lists, dicts and tuples to depth n are told by F; the lists and dicts among them are not in B -/
def Nw (K : PySem.W.Frag) (B F : Hp) : Nat → V → D → Prop
  | 0, _, _ => True
  | n + 1, v, d => match d with
    | .list ds => ∃ p xs, v = .ref p ∧ B p = none ∧ F p = some (.lst xs) ∧ Rps K F xs ds ∧ ∀ (i : Nat) (w : V) (e : D), xs[i]? = some w → ds[i]? = some e → Nw K B F n w e
    | .tuple ds => ∃ p xs, v = .ref p ∧ SqT K F p xs ∧ Rps K F xs ds ∧ ∀ (i : Nat) (w : V) (e : D), xs[i]? = some w → ds[i]? = some e → Nw K B F n w e
    | .dict kvs => ∃ p ks, v = .ref p ∧ B p = none ∧ F p = some (.dK ks) ∧ Rkv K F ks kvs ∧ ∀ (i : Nat) (k : Key) (w : V) (x e : D), ks[i]? = some (k, w) → kvs[i]? = some (x, e) → Nw K B F n w e
    | _ => True
theorem Nw.mono (e : Same F F') : ∀ (n : Nat) (v : V) (d : D), Nw K B F n v d → Nw K B F' n v d
  | 0, _, _, _ => trivial
  | n + 1, v, d, h => by
    cases d with
    | list ds =>
      obtain ⟨p, xs, h1, h2, h3, h4, h5⟩ := h
      exact ⟨p, xs, h1, h2, e _ _ h3, Rps.mono e _ _ h4, fun i w x a b => Nw.mono e n w x (h5 i w x a b)⟩
    | tuple ds =>
      obtain ⟨p, xs, h1, h3, h4, h5⟩ := h
      exact ⟨p, xs, h1, same_t e h3, Rps.mono e _ _ h4, fun i w x a b => Nw.mono e n w x (h5 i w x a b)⟩
    | dict kvs =>
      obtain ⟨p, xs, h1, h2, h3, h4, h5⟩ := h
      exact ⟨p, xs, h1, h2, e _ _ h3, Rkv.mono e _ _ h4, fun i k w y x a b => Nw.mono e n w x (h5 i k w y x a b)⟩
    | _ => trivial
theorem Nw.early {B' : Hp} (e : Same B B') : ∀ (n : Nat) (v : V) (d : D), Nw K B' F n v d → Nw K B F n v d
  | 0, _, _, _ => trivial
  | n + 1, v, d, h => by
    cases d with
    | list ds =>
      obtain ⟨p, xs, h1, h2, h3, h4, h5⟩ := h
      exact ⟨p, xs, h1, e.free h2, h3, h4, fun i w x a b => Nw.early e n w x (h5 i w x a b)⟩
    | tuple ds =>
      obtain ⟨p, xs, h1, h3, h4, h5⟩ := h
      exact ⟨p, xs, h1, h3, h4, fun i w x a b => Nw.early e n w x (h5 i w x a b)⟩
    | dict kvs =>
      obtain ⟨p, xs, h1, h2, h3, h4, h5⟩ := h
      exact ⟨p, xs, h1, e.free h2, h3, h4, fun i k w y x a b => Nw.early e n w x (h5 i k w y x a b)⟩
    | _ => trivial
theorem Nw.less : ∀ (n m : Nat) (v : V) (d : D), m ≤ n → Nw K B F n v d → Nw K B F m v d
  | _, 0, _, _, _, _ => trivial
  | 0, m + 1, _, _, l, _ => absurd l (by omega)
  | n + 1, m + 1, v, d, l, h => by
    have l : m ≤ n := by omega
    cases d with
    | list ds =>
      obtain ⟨p, xs, h1, h2, h3, h4, h5⟩ := h
      exact ⟨p, xs, h1, h2, h3, h4, fun i w x a b => Nw.less n m w x l (h5 i w x a b)⟩
    | tuple ds =>
      obtain ⟨p, xs, h1, h3, h4, h5⟩ := h
      exact ⟨p, xs, h1, h3, h4, fun i w x a b => Nw.less n m w x l (h5 i w x a b)⟩
    | dict kvs =>
      obtain ⟨p, xs, h1, h2, h3, h4, h5⟩ := h
      exact ⟨p, xs, h1, h2, h3, h4, fun i k w y x a b => Nw.less n m w x l (h5 i k w y x a b)⟩
    | _ => trivial
def isAt : D → Bool
  | .list _ => false
  | .tuple _ => false
  | .dict _ => false
  | _ => true
theorem Nw.atom {n : Nat} {v : V} {d : D} (h : isAt d = true) : Nw K B F n v d := by
  cases n with
  | zero => trivial
  | succ n => cases d <;> first | trivial | cases h
theorem Nw.ob1 {p : Addr} {u : HO} {d : D} (bp : B p = none) (fp : F p = some u) (r : Ob K F u d) : Nw K B F 1 (.ref p) d := by
  cases r with
  | lst r => exact ⟨p, _, rfl, bp, fp, r, fun _ _ _ _ _ => trivial⟩
  | dct r => exact ⟨p, _, rfl, bp, fp, r, fun _ _ _ _ _ _ _ => trivial⟩
theorem Nw.no1 {v : V} {d : D} (o : isOb d = false) (r : Rp K F v d) : Nw K B F 1 v d := by
  cases d with
  | list ds => cases o
  | dict kvs => cases o
  | tuple ds => cases r with | tup s r => exact ⟨_, _, rfl, s, r, fun _ _ _ _ _ => trivial⟩
  | _ => exact Nw.atom rfl
/-- the top is new -/
theorem Nw.top {n : Nat} {v : V} {d : D} {p : Addr} (h : Nw K B F (n + 1) v d) (o : isOb d = true) (e : v = .ref p) : B p = none ∧ ∃ u, F p = some u ∧ Ob K F u d := by
  cases d with
  | list ds =>
    obtain ⟨q, xs, h1, h2, h3, h4, h5⟩ := h
    rw [e] at h1
    cases h1
    exact ⟨h2, _, h3, .lst h4⟩
  | dict kvs =>
    obtain ⟨q, xs, h1, h2, h3, h4, h5⟩ := h
    rw [e] at h1
    cases h1
    exact ⟨h2, _, h3, .dct h4⟩
  | _ => cases o
end Dv
/-! Dv3: the judgements over data; names, constants, operators, calls by values. -/
namespace Dv
open PySem PySem.Spec PyProof.Rows L2

def Ans {α : Type} (r : R α) (k : α → Prop) (e : Str → Int → Prop) : Prop := match r with
  | .ok a => k a
  | .err c i => e c i
  | .bad => False
theorem Ans.bind_iff {α β : Type} {x : R α} {f : α → R β} {k : β → Prop} {e : Str → Int → Prop} : Ans (x.bind f) k e ↔ Ans x (fun a => Ans (f a) k e) e := by
  cases x <;> exact Iff.rfl
theorem Ans.mono {α : Type} {x : R α} {k k' : α → Prop} {e e' : Str → Int → Prop} (h : Ans x k e) (hk : ∀ a, x = .ok a → k a → k' a) (he : ∀ c i, e c i → e' c i) : Ans x k' e' := by
  cases x with
  | ok a => exact hk a rfl h
  | err c i => exact he c i h
  | bad => exact h
theorem Ans.imp {α : Type} {x : R α} {k k' : α → Prop} {e : Str → Int → Prop} (h : Ans x k e) (hk : ∀ a, k a → k' a) : Ans x k' e := h.mono (fun a _ => hk a) fun _ _ q => q

/-- what is wanted of an error: at the slots and a heap of which the heap behind it is a later one -/
structure Wi where
  ew : L2.St → Hp → Str → Int → Prop
  mono : ∀ σ H H' c i, Same H H' → ew σ H c i → ew σ H' c i
/-- none is let out -/
def wi0 : Wi := ⟨fun _ _ _ _ => False, fun _ _ _ _ _ _ h => h⟩

/-- what is known of a value: it is read | the def's own | frozen | new behind H -/
def Res (K : PySem.W.Frag) (k : Nat) (B H F' H' : Hp) (v : V) (d : D) : Prop := match k with
  | 0 => Rh K F' H' v d
  | 1 => Ow K B F' H' v d
  | 2 => Rp K F' v d
  | 3 => Ow K H F' H' v d
  | n + 4 => Rp K F' v d ∧ Nw K B F' n v d
variable {K : PySem.W.Frag} {F F' F0 B H H' : Hp} {v : V} {d : D} {k : Nat}
theorem Res.rh (h : Res K k B H F' H' v d) : Rh K F' H' v d := by
  match k with
  | 0 => exact h
  | 1 => exact Ow.rh h
  | 2 => exact .inl h
  | 3 => exact Ow.rh h
  | _ + 4 => exact .inl h.1
theorem Ow.early (e : Same B H) (h : Ow K H F' H' v d) : Ow K B F' H' v d := by
  cases o : isOb d with
  | true => obtain ⟨p, u, a, b, c, r⟩ := h.ob o; exact .of o ⟨p, u, a, b, e.free c, r⟩
  | false => exact .ofNo o (h.no o)

/-! ### the judgements -/
def tJ (K : PySem.W.Frag) (W : Wi) (a : List Bool) (f : DE) (k : Nat) : TE := fun σ H Q => ∃ F0 B F δ, SI K F0 B F H σ a δ ∧
  Ans (f δ) (fun d => ∀ v F' H', SI K F0 B F' H' σ a δ → Same F F' → Same H H' → New H F F' → Res K k B H F' H' v d → Q v H') (W.ew σ H)
def tJT (K : PySem.W.Frag) (W : Wi) (a : List Bool) (t : DT) : TT := fun σ H Q => ∃ F0 B F δ, SI K F0 B F H σ a δ ∧
  Ans (t δ) (fun b => ∀ F' H', SI K F0 B F' H' σ a δ → Same F F' → Same H H' → New H F F' → Q b H') (W.ew σ H)
/-- an expression, a test, arguments -/
def JE (X : Cx) (W : Wi) (a : List Bool) (e : Expr) (f : DE) (k : Nat) : Prop := PE X e (tJ X.K W a f k)
def JT (X : Cx) (W : Wi) (a : List Bool) (e : Expr) (t : DT) : Prop := PT X e (tJT X.K W a t)
theorem _root_.L2.PE.imp {X : Cx} {e : Expr} {t t' : TE} (h : PE X e t) (i : ∀ σ H Q, t' σ H Q → t σ H Q) : PE X e t' := ⟨fun pins s σ H Q I q => h.run pins s σ H Q I (i σ H Q q)⟩
theorem _root_.L2.PT.imp {X : Cx} {e : Expr} {t t' : TT} (h : PT X e t) (i : ∀ σ H Q, t' σ H Q → t σ H Q) : PT X e t' := ⟨fun pins s σ H Q I q => h.run pins s σ H Q I (i σ H Q q)⟩
theorem _root_.L2.PA.imp {X : Cx} {es : List Expr} {t t' : TA} (h : PA X es t) (i : ∀ σ H Q, t' σ H Q → t σ H Q) : PA X es t' := ⟨fun pos pins s σ H Q I q => h.run pos pins s σ H Q I (i σ H Q q)⟩
theorem _root_.L2.PS.imp {X : Cx} {st : Stmt} {t t' : TS} (h : PS X st t) (i : ∀ D σ H, t' D σ H → t D σ H) : PS X st t' := ⟨fun pins s σ H D I q => h.run pins s σ H D I (i D σ H q)⟩
theorem _root_.L2.PSs.imp {X : Cx} {st : List Stmt} {t t' : TS} (h : PSs X st t) (i : ∀ D σ H, t' D σ H → t D σ H) : PSs X st t' := ⟨fun pins s σ H D I q => h.run pins s σ H D I (i D σ H q)⟩

variable {X : Cx} {W : Wi} {a : List Bool} {e : Expr} {f : DE} {t : DT}
/-- weaker: what is new is frozen, or the def's own; what is either may be read -/
theorem JE.to0 (h : JE X W a e f k) : JE X W a e f 0 := h.imp fun σ H Q ⟨F0, B, F, δ, S, q⟩ => ⟨F0, B, F, δ, S, q.imp fun d g v F' H' S' e1 e2 n r => g v F' H' S' e1 e2 n r.rh⟩
theorem JE.to1 (h : JE X W a e f 3) : JE X W a e f 1 := h.imp fun σ H Q ⟨F0, B, F, δ, S, q⟩ => ⟨F0, B, F, δ, S, q.imp fun d g v F' H' S' e1 e2 n r => g v F' H' S' e1 e2 n (Ow.early S.BH r)⟩
/-- from the call's entry to the expression's -/
theorem Res.back {H1 : Hp} (e1 : Same B H1) (e2 : Same H H1) (h : Res K k H1 H1 F' H' v d) : Res K k B H F' H' v d := by
  match k with
  | 0 => exact h
  | 1 => exact Ow.early e1 h
  | 2 => exact h
  | 3 => exact Ow.early e2 h
  | n + 4 => exact ⟨h.1, Nw.early e1 _ _ _ h.2⟩
theorem Res.no (o : isAt d = true) (h : Rp K F' v d) : Res K k B H F' H' v d := by
  have o2 : isOb d = false := by cases d <;> first | rfl | cases o
  match k with
  | 0 => exact .inl h
  | 1 => exact .ofNo o2 h
  | 2 => exact h
  | 3 => exact .ofNo o2 h
  | n + 4 => exact ⟨h, Nw.atom o⟩
/-- freezing, in a state, of what came new behind H0 -/
theorem SI.freezeN {σ : L2.St} {δ : Env} {Fp H0 : Hp} (S0 : SI K F0 B Fp H0 σ a δ) (S : SI K F0 B F H σ a δ) (o : Ow K H0 F H v d) :
    ∃ F', Same F F' ∧ New H0 F F' ∧ Rp K F' v d ∧ SI K F0 B F' H σ a δ ∧ Nw K B F' 1 v d := by
  cases od : isOb d with
  | true =>
    obtain ⟨p, u, rfl, fp, np, hp, r⟩ := o.ob od
    have e1 : Same F (upd F p u) := same_new fp
    refine ⟨upd F p u, e1, New.upd np, (r.mono e1).rp upd_same, ⟨S.len, S.BH, same_upd_to S.FH hp, S.F0F.trans e1, S.new.trans (New.upd (S0.BH.free np)), fun i x h => ?_, S.dj, fun i x o h => (by obtain ⟨g1, v, g2, g3⟩ := S.ol i x o h; exact ⟨g1, v, g2, Rp.mono (inter_mono e1) _ _ g3⟩), fun i x o h => (by
      obtain ⟨v, g1, g2⟩ := S.nf i x o h
      refine ⟨v, g1, fun p ob e => ⟨(g2 p ob e).1, fun z => ?_⟩⟩
      obtain ⟨u, g3, g4⟩ := (g2 p ob e).2 z
      exact ⟨u, e1 _ _ g3, g4.mono e1⟩)⟩, Nw.ob1 (S0.BH.free np) upd_same (r.mono e1)⟩
    obtain ⟨w, e, h1, h2⟩ := S.sl i x h
    refine ⟨w, e, fun o => ?_, fun o => Rp.mono e1 _ _ (h2 o)⟩
    have g := h1 o
    cases ox : isOb x with
    | true =>
      obtain ⟨q, ys, rfl, fq, bq, hq, rq⟩ := g.ob ox
      obtain ⟨w', e', h1', _⟩ := S0.sl i _ h
      rw [e] at e'
      cases e'
      obtain ⟨q', ys', eq, _, _, hq', _⟩ := (h1' o).ob ox
      cases eq
      have ne : q ≠ p := ne_of_none hq' np
      exact .of ox ⟨q, ys, rfl, by rw [upd_ne ne]; exact fq, bq, hq, rq.mono e1⟩
    | false => exact .ofNo ox (Rp.mono e1 _ _ (g.no ox))
  | false => exact ⟨F, Same.refl F, New.refl _ _, o.no od, S, Nw.no1 od (o.no od)⟩
theorem SI.freeze {σ : L2.St} {δ : Env} {Fp H0 : Hp} (S0 : SI K F0 B Fp H0 σ a δ) (S : SI K F0 B F H σ a δ) (o : Ow K H0 F H v d) :
    ∃ F', Same F F' ∧ New H0 F F' ∧ Rp K F' v d ∧ SI K F0 B F' H σ a δ := by
  obtain ⟨F', h1, h2, h3, h4, _⟩ := S0.freezeN S o
  exact ⟨F', h1, h2, h3, h4⟩
theorem JE.lv (h : JE X W a e f 3) : JE X W a e f 5 := h.imp fun σ H Q ⟨F0, B, F, δ, S, q⟩ => ⟨F0, B, F, δ, S, q.imp fun d g v F' H' S' e1 e2 n r => by
  obtain ⟨F2, z1, z2, z3, z4, z5⟩ := S.freezeN S' r
  exact g v F2 H' z4 (e1.trans z1) e2 (n.trans z2) ⟨z3, z5⟩⟩
theorem JE.lv0 (h : JE X W a e f 2) : JE X W a e f 4 := h.imp fun σ H Q ⟨F0, B, F, δ, S, q⟩ => ⟨F0, B, F, δ, S, q.imp fun d g v F' H' S' e1 e2 n r => g v F' H' S' e1 e2 n ⟨r, trivial⟩⟩
theorem JE.lv2 {n : Nat} (h : JE X W a e f (n + 4)) : JE X W a e f 2 := h.imp fun σ H Q ⟨F0, B, F, δ, S, q⟩ => ⟨F0, B, F, δ, S, q.imp fun d g v F' H' S' e1 e2 n r => g v F' H' S' e1 e2 n r.1⟩
theorem JE.lvL {n m : Nat} (l : m ≤ n) (h : JE X W a e f (n + 4)) : JE X W a e f (m + 4) := h.imp fun σ H Q ⟨F0, B, F, δ, S, q⟩ => ⟨F0, B, F, δ, S, q.imp fun d g v F' H' S' e1 e2 n r => g v F' H' S' e1 e2 n ⟨r.1, Nw.less _ _ _ _ l r.2⟩⟩
theorem JE.frz (h : JE X W a e f 3) : JE X W a e f 2 := h.imp fun σ H Q ⟨F0, B, F, δ, S, q⟩ => ⟨F0, B, F, δ, S, q.imp fun d g v F' H' S' e1 e2 n r => by
  obtain ⟨F2, z1, z2, z3, z4⟩ := S.freeze S' r
  exact g v F2 H' z4 (e1.trans z1) e2 (n.trans z2) z3⟩

/-! ### names, constants -/
theorem slot_get {c : Cfg} {x : Str} {i : Nat} (h : c.slot x = some i) : c.N[i]? = some x := by
  unfold Cfg.slot at h
  obtain ⟨hi, h1, _⟩ := List.findIdx?_eq_some_iff_getElem.mp h
  rw [List.getElem?_eq_getElem hi]
  exact congrArg some (eq_of_beq h1)
theorem vis_of {sc : Scope} {x : Str} (h : vis sc x = true) : Vis sc x := by
  unfold vis at h
  split at h
  · exact .inl (by assumption)
  · exact .inr (.inl (by assumption))
  · exact .inr (.inr (by assumption))
  · cases h
theorem loc_of {sc : Scope} {x : Str} (h : loc sc x = true) : Loc sc x := by
  unfold loc at h
  split at h
  · exact .inl (by assumption)
  · exact .inr (by assumption)
  · cases h
theorem glo_of {sc : Scope} {x : Str} (h : glo sc x = true) : sc.names.lookup x = some .globalImplicit := by
  unfold glo at h
  split at h
  · assumption
  · cases h
theorem eV_ok {δ : Env} {i : Nat} {d : D} (h : eV i δ = .ok d) : δ[i]? = some (some d) := by
  unfold eV at h
  split at h
  · cases h; assumption
  · cases h
theorem Ans.eV {δ : Env} {i : Nat} {k : D → Prop} {e : Str → Int → Prop} (h : Ans (eV i δ) k e) : ∃ d, δ[i]? = some (some d) ∧ k d := by
  unfold Dv.eV at h
  split at h
  · exact ⟨_, by assumption, h⟩
  · exact h.elim
theorem je_var {i : Nat} {x : Str} {pos : Pos} (hN : X.N[i]? = some x) (hv : Vis X.env.scope x) (hd : (x == ("__debug__" : Str)) = false) (hcd : (x == ("__classdict__" : Str)) = false) :
    JE X W a (.Name x pos) (eV i) (if own a i then 1 else 2) := (pe_var hN hv hd hcd).imp fun σ H Q ⟨F0, B, F, δ, S, q⟩ => by
  obtain ⟨d, h, g⟩ := q.eV
  obtain ⟨v, e, h1, h2⟩ := S.sl i d h
  refine ⟨v, e, g v F H S (Same.refl F) (Same.refl H) (New.refl _ _) ?_⟩
  cases o : own a i with
  | true => exact h1 o
  | false => exact h2 o
theorem je_varN {i : Nat} {x : Str} {pos : Pos} (hN : X.N[i]? = some x) (hv : Vis X.env.scope x) (hd : (x == ("__debug__" : Str)) = false) (hcd : (x == ("__classdict__" : Str)) = false) (ho : own a i = false) (hn : nw1 a i = true) :
    JE X W a (.Name x pos) (eV i) 5 := (pe_var hN hv hd hcd).imp fun σ H Q ⟨F0, B, F, δ, S, q⟩ => by
  obtain ⟨d, h, g⟩ := q.eV
  obtain ⟨v, e, h1, h2⟩ := S.sl i d h
  obtain ⟨w, e2, g2⟩ := S.nf i d hn h
  rw [e] at e2
  cases e2
  refine ⟨v, e, g v F H S (Same.refl F) (Same.refl H) (New.refl _ _) ⟨h2 ho, ?_⟩⟩
  cases o : isOb d with
  | false => exact Nw.no1 o (h2 ho)
  | true =>
    obtain ⟨p, _, e3⟩ : ∃ p : Addr, True ∧ v = .ref p := by
      have r := h2 ho
      cases r with
      | lst _ _ => exact ⟨_, trivial, rfl⟩
      | dct _ _ => exact ⟨_, trivial, rfl⟩
      | _ => cases o
    subst e3
    obtain ⟨b, g3⟩ := g2 p o rfl
    obtain ⟨u, fp, ob⟩ := g3 ho
    exact Nw.ob1 b fp ob
theorem je_const {k : Const} {d : D} {j : Nat} {pos : Pos} (h : constD k = some d) : JE X W a (.Constant k j pos) (eC d) 3 := by
  have fin : ∀ {v : V}, (∀ F, Rp X.K F v d) → isOb d = false → PE X (.Constant k j pos) (tC v) → JE X W a (.Constant k j pos) (eC d) 3 := fun {v} r nl p => p.imp fun σ H Q ⟨F0, B, F, δ, S, q⟩ =>
    q v F H S (Same.refl F) (Same.refl H) (New.refl _ _) (Ow.ofNo nl (r F))
  cases k with
  | none => cases h; exact fin (fun _ => .non) rfl pe_non
  | bool b => cases h; exact fin (fun _ => .bl b) rfl pe_bl
  | int i => cases h; exact fin (fun _ => .int i) rfl pe_int
  | str s =>
    have h : (if decide (s.length ≤ 1000) && PyData.strOk s then some (PyData.str s) else none) = some d := h
    split at h
    · rename_i hs
      cases h
      rw [Bool.and_eq_true] at hs
      refine fin (fun _ => .str ⟨?_, hs.2⟩) rfl pe_str
      have := of_decide_eq_true hs.1
      omega
    · cases h
  | _ => cases h
theorem je_glob {x : Str} {pos : Pos} {d : D} {v : V} {u : Value} (hg : Gl X x) (hm : X.mg x = some u) (r : RelV v u) (rp : ∀ F, Rp X.K F v d) (hd : (x == ("__debug__" : Str)) = false) :
    JE X W a (.Name x pos) (eC d) 2 := (pe_glob hg hm r hd).imp fun σ H Q ⟨F0, B, F, δ, S, q⟩ => q v F H S (Same.refl F) (Same.refl H) (New.refl _ _) (rp F)

/-! ### operations by values -/
/-- a new value behind H -/
def OkV (K : PySem.W.Frag) (F H : Hp) (Q : VK) (z : D) : Prop := ∀ w F' H', Same F F' → Same H H' → Same F' H' → New H F F' → Ow K H F' H' w z → Q w H'
/-- an item of what was there -/
def OkF (K : PySem.W.Frag) (F H : Hp) (Q : VK) (z : D) : Prop := ∀ w, Rp K F w z → Q w H
def noE : Str → Int → Prop := fun _ _ => False
def r2 (K : PySem.W.Frag) (g : D → D → R D) : R2 := fun x y H Q => ∃ F d e, Same F H ∧ Rh K F H x d ∧ Rh K F H y e ∧ Ans (g d e) (OkV K F H Q) noE
def r2F (K : PySem.W.Frag) (g : D → D → R D) : R2 := fun x y H Q => ∃ F d e, Same F H ∧ Rh K F H x d ∧ Rh K F H y e ∧ Ans (g d e) (OkF K F H Q) noE
def r1 (K : PySem.W.Frag) (g : D → R D) : V → Hp → VK → Prop := fun x H Q => ∃ F d, Same F H ∧ Rh K F H x d ∧ Ans (g d) (OkV K F H Q) noE
inductive Rhs (K : PySem.W.Frag) (F H : Hp) : List V → List D → Prop
  | nil : Rhs K F H [] []
  | cons {v : V} {vs : List V} {d : D} {ds : List D} : Rh K F H v d → Rhs K F H vs ds → Rhs K F H (v :: vs) (d :: ds)
theorem Rhs.mono (e1 : Same F F') (e2 : Same H H') : ∀ {vs : List V} {ds : List D}, Rhs K F H vs ds → Rhs K F' H' vs ds
  | _, _, .nil => .nil
  | _, _, .cons r t => .cons (r.mono e1 e2) (Rhs.mono e1 e2 t)
def rN (K : PySem.W.Frag) (g : List D → R D) : List V → Hp → VK → Prop := fun xs H Q => ∃ F ds, Same F H ∧ Rhs K F H xs ds ∧ Ans (g ds) (OkV K F H Q) noE
def rNF (K : PySem.W.Frag) (g : List D → R D) : List V → Hp → VK → Prop := fun xs H Q => ∃ F ds, Same F H ∧ Rhs K F H xs ds ∧ Ans (g ds) (OkF K F H Q) noE

variable {a1 b1 : Expr} {fa fb : DE} {pos : Pos}
theorem OkV.fin {F0 B F H H1 : Hp} {σ : L2.St} {δ : Env} {Q : VK} {z : D} (S : SI K F0 B F H σ a δ) (e : Same H1 H) (q : ∀ v F' H', SI K F0 B F' H' σ a δ → Same F F' → Same H1 H' → New H F F' → Res K 3 B H1 F' H' v z → Q v H') : OkV K F H Q z :=
  fun w F' H' e1 e2 e3 n r => q w F' H' (S.later e1 e2 e3 n) e1 (e.trans e2) n (Ow.early e r)
theorem OkF.fin {F0 B F H H1 : Hp} {σ : L2.St} {δ : Env} {Q : VK} {z : D} (S : SI K F0 B F H σ a δ) (e : Same H1 H) (q : ∀ v F' H', SI K F0 B F' H' σ a δ → Same F F' → Same H1 H' → New H F F' → Res K 2 B H1 F' H' v z → Q v H') : OkF K F H Q z :=
  fun w r => q w F H S (Same.refl F) e (New.refl _ _) r
/-- two expressions, then what their values come to -/
theorem je_two {r : R2} {g : D → D → R D} {k : Nat} {ex : Expr}
    (hk : ∀ (F0 B F H H1 : Hp) (σ : L2.St) (δ : Env) (x y : V) (d e : D) (Q : VK), SI X.K F0 B F H σ a δ → Same H1 H → Rh X.K F H x d → Rh X.K F H y e →
      Ans (g d e) (fun z => ∀ v F' H', SI X.K F0 B F' H' σ a δ → Same F F' → Same H1 H' → New H F F' → Res X.K k B H1 F' H' v z → Q v H') noE → r x y H Q)
    (hp : ∀ ta tb, PE X a1 ta → PE X b1 tb → PE X ex (tOp r ta tb)) (ha : JE X W a a1 fa 0) (hb : JE X W a b1 fb 0)
    (ng : ∀ d e c i, g d e ≠ .err c i) : JE X W a ex (fun δ => (fa δ).bind fun x => (fb δ).bind fun y => g x y) k := (hp _ _ ha hb).imp fun σ H Q ⟨F0, B, F, δ, S, q⟩ => by
  rw [Ans.bind_iff] at q
  refine ⟨F0, B, F, δ, S, q.imp fun d q v F1 H1 S1 e1 e2 n1 r1 => ⟨F0, B, F1, δ, S1, ?_⟩⟩
  rw [Ans.bind_iff] at q
  refine q.mono (fun e _ q w F2 H2 S2 e3 e4 n2 r2 => ?_) fun c i z => W.mono _ _ _ _ _ e2 z
  refine hk F0 B F2 H2 H σ δ v w d e Q S2 (e2.trans e4) (Rh.mono e3 e4 r1) r2 ?_
  have nb := ng d e
  revert q nb
  cases g d e with
  | ok z => exact fun q _ v F' H' S' e5 e6 n3 r3 => q v F' H' S' (e1.trans (e3.trans e5)) e6 (n1.trans ((n2.back e2).trans (n3.back (e2.trans e4)))) r3
  | err c i => exact fun _ nb => absurd rfl (nb c i)
  | bad => exact fun q _ => q
theorem je_op {g : D → D → R D} {op : Operator} (ho : OpR X (binaryOp op) (r2 X.K g)) (ha : JE X W a a1 fa 0) (hb : JE X W a b1 fb 0) (ng : ∀ d e c i, g d e ≠ .err c i) :
    JE X W a (.BinOp a1 op b1 pos) (fun δ => (fa δ).bind fun x => (fb δ).bind fun y => g x y) 3 :=
  je_two (fun F0 B F H H1 σ δ x y d e Q S e1 rx ry q => ⟨F, d, e, S.FH, rx, ry, q.imp fun z q => OkV.fin S e1 q⟩) (fun _ _ p q => pe_op ho p q) ha hb ng
theorem je_ix {g : D → D → R D} (ho : IxR X (r2F X.K g)) (hs : PlainIx b1) (ha : JE X W a a1 fa 0) (hb : JE X W a b1 fb 0) (ng : ∀ d e c i, g d e ≠ .err c i) :
    JE X W a (.Subscript a1 b1 pos) (fun δ => (fa δ).bind fun x => (fb δ).bind fun y => g x y) 2 :=
  je_two (fun F0 B F H H1 σ δ x y d e Q S e1 rx ry q => ⟨F, d, e, S.FH, rx, ry, q.imp fun z q => OkF.fin S e1 q⟩) (fun _ _ p q => pe_ix ho p q hs) ha hb ng
/-- one expression, then what its value comes to -/
theorem je_one {r : V → Hp → VK → Prop} {g : D → R D} {k : Nat} {ex : Expr}
    (hk : ∀ (F0 B F H H1 : Hp) (σ : L2.St) (δ : Env) (x : V) (d : D) (Q : VK), SI X.K F0 B F H σ a δ → Same H1 H → Rh X.K F H x d →
      Ans (g d) (fun z => ∀ v F' H', SI X.K F0 B F' H' σ a δ → Same F F' → Same H1 H' → New H F F' → Res X.K k B H1 F' H' v z → Q v H') noE → r x H Q)
    (hp : ∀ ta, PE X a1 ta → PE X ex (fun σ H Q => ta σ H fun x H1 => r x H1 Q)) (ha : JE X W a a1 fa 0)
    (ng : ∀ d c i, g d ≠ .err c i) : JE X W a ex (fun δ => (fa δ).bind g) k := (hp _ ha).imp fun σ H Q ⟨F0, B, F, δ, S, q⟩ => by
  rw [Ans.bind_iff] at q
  refine ⟨F0, B, F, δ, S, q.imp fun d q v F1 H1 S1 e1 e2 n1 r1 => ?_⟩
  refine hk F0 B F1 H1 H σ δ v d Q S1 e2 r1 ?_
  have nb := ng d
  revert q nb
  cases g d with
  | ok z => exact fun q _ v F' H' S' e5 e6 n3 r3 => q v F' H' S' (e1.trans e5) e6 (n1.trans (n3.back e2)) r3
  | err c i => exact fun _ nb => absurd rfl (nb c i)
  | bad => exact fun q _ => q
theorem je_un {g : D → R D} {op : UnaryOp} (ho : UnR X (unaryOp op) (r1 X.K g)) (ha : JE X W a a1 fa 0) (ng : ∀ d c i, g d ≠ .err c i) : JE X W a (.UnaryOp op a1 pos) (fun δ => (fa δ).bind g) 3 :=
  je_one (fun F0 B F H H1 σ δ x d Q S e1 rx q => ⟨F, d, S.FH, rx, q.imp fun z q => OkV.fin S e1 q⟩) (fun _ p => pe_un ho p) ha ng

/-! ### argument lists -/
/-- all frozen | all readable -/
def tJA (K : PySem.W.Frag) (W : Wi) (a : List Bool) (fs : List DE) (P : Hp → Hp → List V → List D → Prop) : TA := fun σ H Q => ∃ F0 B F δ, SI K F0 B F H σ a δ ∧
  Ans (evs fs δ) (fun ds => ∀ vs F' H', SI K F0 B F' H' σ a δ → Same F F' → Same H H' → New H F F' → P F' H' vs ds → Q vs H') (W.ew σ H)
def JA (X : Cx) (W : Wi) (a : List Bool) (es : List Expr) (fs : List DE) : Prop := PA X es (tJA X.K W a fs fun F _ vs ds => Rps X.K F vs ds)
def JR (X : Cx) (W : Wi) (a : List Bool) (es : List Expr) (fs : List DE) : Prop := PA X es (tJA X.K W a fs fun F H vs ds => Rhs X.K F H vs ds)
theorem evs_len : ∀ (fs : List DE) (δ : Env) (ds : List D), evs fs δ = .ok ds → ds.length = fs.length
  | [], _, _, h => by cases h; rfl
  | f :: fs, δ, ds, h => by
    unfold evs at h
    obtain ⟨x, _, h⟩ := R.bind_eq_ok h
    obtain ⟨xs, h2, h⟩ := R.bind_eq_ok h
    cases h
    rw [List.length_cons, List.length_cons, evs_len fs δ xs h2]
theorem ja_nil : JA X W a [] [] := PA.imp pa_nil fun σ H Q ⟨F0, B, F, δ, S, q⟩ => q [] F H S (Same.refl F) (Same.refl H) (New.refl _ _) .nil
theorem jr_nil : JR X W a [] [] := PA.imp pa_nil fun σ H Q ⟨F0, B, F, δ, S, q⟩ => q [] F H S (Same.refl F) (Same.refl H) (New.refl _ _) .nil
theorem ja_cons {es : List Expr} {fs : List DE} (h : JE X W a e f 2) (t : JA X W a es fs) (hs : starEach (e :: es) X.env = (false, eval e X.env) :: starEach es X.env) : JA X W a (e :: es) (f :: fs) :=
  PA.imp (pa_cons h t hs) fun σ H Q ⟨F0, B, F, δ, S, q⟩ => by
    unfold evs at q
    rw [Ans.bind_iff] at q
    refine ⟨F0, B, F, δ, S, q.imp fun d q v F1 H1 S1 e1 e2 n1 r1 => ⟨F0, B, F1, δ, S1, ?_⟩⟩
    rw [Ans.bind_iff] at q
    exact q.mono (fun ds _ q vs F2 H2 S2 e3 e4 n2 r2 => q (v :: vs) F2 H2 S2 (e1.trans e3) (e2.trans e4) (n1.trans (n2.back e2)) (.cons (Rp.mono e3 _ _ r1) r2)) fun c i z => W.mono _ _ _ _ _ e2 z
theorem jr_cons {es : List Expr} {fs : List DE} (h : JE X W a e f 0) (t : JR X W a es fs) (hs : starEach (e :: es) X.env = (false, eval e X.env) :: starEach es X.env) : JR X W a (e :: es) (f :: fs) :=
  PA.imp (pa_cons h t hs) fun σ H Q ⟨F0, B, F, δ, S, q⟩ => by
    unfold evs at q
    rw [Ans.bind_iff] at q
    refine ⟨F0, B, F, δ, S, q.imp fun d q v F1 H1 S1 e1 e2 n1 r1 => ⟨F0, B, F1, δ, S1, ?_⟩⟩
    rw [Ans.bind_iff] at q
    exact q.mono (fun ds _ q vs F2 H2 S2 e3 e4 n2 r2 => q (v :: vs) F2 H2 S2 (e1.trans e3) (e2.trans e4) (n1.trans (n2.back e2)) (.cons (Rh.mono e3 e4 r1) r2)) fun c i z => W.mono _ _ _ _ _ e2 z
theorem je_list {es : List Expr} {fs : List DE} (h : JA X W a es fs) (hl : fs.length ≤ 100000) : JE X W a (.List es pos) (eLst fs) 3 := (pe_lst h).imp fun σ H Q ⟨F0, B, F, δ, S, q⟩ => by
  unfold eLst at q
  rw [Ans.bind_iff] at q
  refine ⟨F0, B, F, δ, S, q.mono (fun ds eq q vs F1 H1 S1 e1 e2 n1 r1 => ⟨?_, fun p hp => ?_⟩) fun _ _ z => z⟩
  · rw [r1.length, evs_len fs δ ds eq]
    exact Nat.le_trans hl (by decide)
  · have fp : F1 p = none := S1.FH.free hp
    have g := same_new (o := .lst vs) hp
    exact q (.ref p) F1 (upd H1 p (.lst vs)) (S1.grow g) e1 (e2.trans g) n1 (Ow.mkL ⟨p, vs, rfl, fp, e2.free hp, upd_same, r1⟩)
theorem je_tup {es : List Expr} {fs : List DE} {j : Nat} (h : JA X W a es fs) (hl : fs.length ≤ 100000) : JE X W a (.Tuple es j pos) (eTup fs) 3 := (pe_tup h).imp fun σ H Q ⟨F0, B, F, δ, S, q⟩ => by
  unfold eTup at q
  rw [Ans.bind_iff] at q
  refine ⟨F0, B, F, δ, S, q.mono (fun ds eq q vs F1 H1 S1 e1 e2 n1 r1 => ⟨?_, fun p hp => ?_⟩) fun _ _ z => z⟩
  · rw [r1.length, evs_len fs δ ds eq]
    exact Nat.le_trans hl (by decide)
  · have fp : F1 p = none := S1.FH.free hp
    have g := same_new (o := .tup vs) hp
    have g1 := same_new (o := .tup vs) fp
    refine q (.ref p) (upd F1 p (.tup vs)) (upd H1 p (.tup vs)) (S1.later g1 g (same_upd_to (S1.FH.trans g) upd_same) (New.upd hp)) (e1.trans g1) (e2.trans g) (n1.trans (New.upd (e2.free hp))) ?_
    exact Rp.tup (SqT.of upd_same) (Rps.mono g1 _ _ r1)
/-! ### a tuple of what is newer than B -/
def tJAN (K : PySem.W.Frag) (W : Wi) (a : List Bool) (n : Nat) (fs : List DE) : TA := fun σ H Q => ∃ F0 B F δ, SI K F0 B F H σ a δ ∧
  Ans (evs fs δ) (fun ds => ∀ vs F' H', SI K F0 B F' H' σ a δ → Same F F' → Same H H' → New H F F' → Rps K F' vs ds → (∀ (i : Nat) (w : V) (x : D), vs[i]? = some w → ds[i]? = some x → Nw K B F' n w x) → Q vs H') (W.ew σ H)
theorem jan_nil {n : Nat} : PA X [] (tJAN X.K W a n []) := PA.imp pa_nil fun σ H Q ⟨F0, B, F, δ, S, q⟩ => q [] F H S (Same.refl F) (Same.refl H) (New.refl _ _) .nil fun i w x h => by cases h
theorem jan_cons {n : Nat} {es : List Expr} {fs : List DE} (h : JE X W a e f (n + 4)) (t : PA X es (tJAN X.K W a n fs)) (hs : starEach (e :: es) X.env = (false, eval e X.env) :: starEach es X.env) : PA X (e :: es) (tJAN X.K W a n (f :: fs)) :=
  PA.imp (pa_cons h t hs) fun σ H Q ⟨F0, B, F, δ, S, q⟩ => by
    unfold evs at q
    rw [Ans.bind_iff] at q
    refine ⟨F0, B, F, δ, S, q.imp fun d q v F1 H1 S1 e1 e2 n1 r1 => ⟨F0, B, F1, δ, S1, ?_⟩⟩
    rw [Ans.bind_iff] at q
    refine q.mono (fun ds _ q vs F2 H2 S2 e3 e4 n2 r2 w2 => q (v :: vs) F2 H2 S2 (e1.trans e3) (e2.trans e4) (n1.trans (n2.back e2)) (.cons (Rp.mono e3 _ _ r1.1) r2) fun i w x h1 h2 => ?_) fun c i z => W.mono _ _ _ _ _ e2 z
    cases i with
    | zero =>
      simp only [List.getElem?_cons_zero, Option.some.injEq] at h1 h2
      subst h1 h2
      exact Nw.mono e3 _ _ _ r1.2
    | succ i => exact w2 i w x (by simpa using h1) (by simpa using h2)
theorem je_tupN {n : Nat} {es : List Expr} {fs : List DE} {j : Nat} (h : PA X es (tJAN X.K W a n fs)) (hl : fs.length ≤ 100000) : JE X W a (.Tuple es j pos) (eTup fs) (n + 5) := (pe_tup h).imp fun σ H Q ⟨F0, B, F, δ, S, q⟩ => by
  unfold eTup at q
  rw [Ans.bind_iff] at q
  refine ⟨F0, B, F, δ, S, q.mono (fun ds eq q vs F1 H1 S1 e1 e2 n1 r1 w1 => ⟨?_, fun p hp => ?_⟩) fun _ _ z => z⟩
  · rw [r1.length, evs_len fs δ ds eq]
    exact Nat.le_trans hl (by decide)
  · have fp : F1 p = none := S1.FH.free hp
    have g := same_new (o := .tup vs) hp
    have g1 := same_new (o := .tup vs) fp
    refine q (.ref p) (upd F1 p (.tup vs)) (upd H1 p (.tup vs)) (S1.later g1 g (same_upd_to (S1.FH.trans g) upd_same) (New.upd hp)) (e1.trans g1) (e2.trans g) (n1.trans (New.upd (e2.free hp))) ⟨Rp.tup (SqT.of upd_same) (Rps.mono g1 _ _ r1), ?_⟩
    exact ⟨p, vs, rfl, SqT.of upd_same, Rps.mono g1 _ _ r1, fun i w x h1 h2 => Nw.mono g1 _ _ _ (w1 i w x h1 h2)⟩
end Dv
/-! Dv4: operators over data. -/
namespace Dv
open PySem PySem.Spec PyProof.Rows L2
variable {K : PySem.W.Frag} {F F' F0 B H H' : Hp} {v : V} {d : D} {k : Nat}

/-! ### few levels, no dict -/
mutual
theorem Rp.lay : ∀ (d : D) (v : V) (n : Nat), fl n d = true → Rp K F v d → d.canLay0 = true
  | .none, _, _, _, _ => by simp only [PyData.canLay0]
  | .bool _, _, _, _, _ => by simp only [PyData.canLay0]
  | .int _, _, _, _, _ => by simp only [PyData.canLay0]
  | .str x, _, _, _, h => by cases h with | str s => simpa only [PyData.canLay0] using s.2
  | .list ds, _, n, g, h => by
    obtain ⟨m, _, g⟩ := fl_all0 g
    cases h with | lst _ r => simpa only [PyData.canLay0] using Rps.lay ds _ m g r
  | .tuple ds, _, n, g, h => by
    obtain ⟨m, _, g⟩ := fl_all1 g
    cases h with | tup _ r => simpa only [PyData.canLay0] using Rps.lay ds _ m g r
  | .dict _, _, _, g, _ => (fl_dict g).elim
theorem Rps.lay : ∀ (ds : List D) (vs : List V) (n : Nat), ds.all (fl n) = true → Rps K F vs ds → PyData.canLayAll0 ds = true
  | [], _, _, _, _ => by simp only [PyData.canLayAll0]
  | d :: ds, _, n, g, h => by
    rw [List.all_cons, Bool.and_eq_true] at g
    cases h with | cons a b => simp only [PyData.canLayAll0, Rp.lay d _ n g.1 a, Rps.lay ds _ n g.2 b, Bool.and_self]
end
theorem Rh.lay {v : V} {d : D} {n : Nat} (g : fl n d = true) (h : Rh K F H v d) : d.canLay0 = true := by
  rcases h with h | ⟨p, u, rfl, a, b⟩
  · exact Rp.lay _ _ n g h
  · cases b with
    | lst r =>
      obtain ⟨m, _, g⟩ := fl_all0 g
      simpa only [PyData.canLay0] using Rps.lay _ _ m g r
    | dct r => exact (fl_dict g).elim
theorem fl_depth : ∀ (n : Nat) (d : D), fl n d = true → d.depth ≤ n := by
  intro n
  induction n with
  | zero =>
    intro d h
    cases d <;> first | (simp only [PyData.depth]; exact Nat.le_refl _) | (simp [fl] at h)
  | succ n ih =>
    have all : ∀ (xs : List D), xs.all (fl n) = true → PyData.depthAll xs ≤ n := by
      intro xs
      induction xs with
      | nil => intro _; simp only [PyData.depthAll]; exact Nat.zero_le _
      | cons x xs ih2 =>
        intro h
        rw [List.all_cons, Bool.and_eq_true] at h
        simp only [PyData.depthAll]
        exact Nat.max_le.mpr ⟨ih x h.1, ih2 h.2⟩
    intro d h
    cases d with
    | list xs => simp only [fl] at h; simp only [PyData.depth]; exact Nat.succ_le_succ (all xs h)
    | tuple xs => simp only [fl] at h; simp only [PyData.depth]; exact Nat.succ_le_succ (all xs h)
    | dict kvs => simp [fl] at h
    | _ => simp only [PyData.depth]; exact Nat.zero_le _
theorem deep_depth {d : D} (h : fl deep d = true) : d.depth ≤ 64 := Nat.le_trans (fl_depth _ _ h) (by decide)
theorem shaped_of {d : D} (h : fl deep d = true) (hv : Rh K F H v d) : SeqAt.shaped d = true := by
  unfold SeqAt.shaped
  rw [hv.lay h, Bool.true_and]
  exact decide_eq_true (deep_depth h)

section
variable {X : Cx} {pins : List (Addr × Obj)} {σ : L2.St} {s : Shared} {Q : VK}
theorem Ans.if_bad {α : Type} {c : Prop} [Decidable c] {x : α} {k : α → Prop} {e : Str → Int → Prop} (h : Ans (if c then .ok x else .bad) k e) : c ∧ k x := by
  by_cases hc : c
  · rw [if_pos hc] at h; exact ⟨hc, h⟩
  · rw [if_neg hc] at h; exact h.elim
theorem okInt {F : Hp} {z : Int} (FH : Same F H) (q : OkV K F H Q (.int z)) : Q (.int z) H := q _ F H (Same.refl F) (Same.refl H) FH (New.refl _ _) (.ofNo rfl (Rp.int z))
theorem okBl {F : Hp} {z : Bool} (FH : Same F H) (q : OkV K F H Q (.bool z)) : Q (.bl z) H := q _ F H (Same.refl F) (Same.refl H) FH (New.refl _ _) (.ofNo rfl (Rp.bl z))
theorem okStr {F : Hp} {z : Str} (FH : Same F H) (z2 : sOk z) (q : OkV K F H Q (.str z)) : Q (.str z) H := q _ F H (Same.refl F) (Same.refl H) FH (New.refl _ _) (.ofNo rfl (Rp.str z2))
theorem okNon {F : Hp} (FH : Same F H) (q : OkV K F H Q .none) : Q .non H := q _ F H (Same.refl F) (Same.refl H) FH (New.refl _ _) (.ofNo rfl Rp.non)
theorem okLst {F : Hp} {p : Addr} {vs : List V} {ds : List D} (FH : Same F H) (np : H p = none) (r : Rps K F vs ds) (q : OkV K F H Q (.list ds)) : Q (.ref p) (upd H p (.lst vs)) :=
  q _ F _ (Same.refl F) (same_new np) (FH.trans (same_new np)) (New.refl _ _) (.mkL ⟨p, vs, rfl, FH.free np, np, upd_same, r⟩)
theorem okTup {F : Hp} {p : Addr} {vs : List V} {ds : List D} (FH : Same F H) (np : H p = none) (r : Rps K F vs ds) (q : OkV K F H Q (.tuple ds)) : Q (.ref p) (upd H p (.tup vs)) := by
  have g := same_new (o := .tup vs) np
  have g1 := same_new (o := .tup vs) (FH.free np)
  exact q _ (upd F p (.tup vs)) _ g1 g (same_upd_to (FH.trans g) upd_same) (New.upd np) (.ofNo rfl (Rp.tup (SqT.of upd_same) (Rps.mono g1 _ _ r)))
/-- a tuple that stands already -/
theorem okTupOld {F : Hp} {p : Addr} {vs : List V} {ds : List D} (FH : Same F H) (t : SqT K H p vs) (ds0 : List D) (h : Rh K F H (.ref p) (.tuple ds0)) (e : ds = ds0) (q : OkV K F H Q (.tuple ds)) : Q (.ref p) H := by
  subst e
  exact q _ F H (Same.refl F) (Same.refl H) FH (New.refl _ _) (.ofNo rfl (h.rp rfl))
theorem strOk_app {x y : Str} (hx : PyData.strOk x = true) (hy : PyData.strOk y = true) : PyData.strOk (x ++ y) = true := by
  unfold PyData.strOk at *
  show (x.cps ++ y.cps).all _ = true
  rw [Array.all_append, hx, hy]
  rfl
theorem len_app (x y : Str) : (x ++ y).length = x.length + y.length := by
  show (x.cps ++ y.cps).size = _
  rw [Array.size_append]
  rfl
theorem cat_list {l b : Addr} {xs zs : List V} {v u : Value} (I : Inv X pins σ H s) (h1 : SqR X.K H l xs) (h2 : SqR X.K H b zs) (rx : RelV (.ref l) v) (ry : RelV (.ref b) u) (hz : xs.length + zs.length ≤ sizeLine)
    (q : ∀ p, H p = none → Q (.ref p) (upd H p (.lst (xs ++ zs)))) : wpAny (model X.prog X.w) X.A (binaryOp .Add v u) (EP X pins σ Q) X.xe s := by
  cases rx
  cases ry
  obtain ⟨z, its, n, r, hl, e⟩ := I.lstR h1
  obtain ⟨z2, its2, n2, r2, hl2, e2⟩ := I.lstR h2
  refine PySem.P.add_list e e2 ?_ (by rw [List.size_toArray, List.size_toArray]; omega)
  rw [show its.toArray ++ its2.toArray = (its ++ its2).toArray from by simp]
  exact ⟨.ref _, _, I.lnew (t' := s.toks) (r.append r2) (by rw [List.length_append]; omega), rfl, q _ I.fresh⟩
theorem HandS_catA {a b : Addr} {xs ys : List V} {v u : Value} (I : Inv X pins σ H s) (h1 : SqT X.K H a xs) (h2 : SqT X.K H b ys) (rx : RelV (.ref a) v) (ry : RelV (.ref b) u) (hz : xs.length + ys.length ≤ sizeLine)
    (q0 : xs = [] → Q (.ref b) H) (q1 : xs ≠ [] → ys = [] → Q (.ref a) H) (q2 : xs ≠ [] → ys ≠ [] → ∀ p, H p = none → Q (.ref p) (upd H p (.tup (xs ++ ys)))) :
    wpAny (model X.prog X.w) X.A (binaryOp .Add v u) (EP X pins σ Q) X.xe s := op_catA pins s σ H _ _ v u Q I rx ry ⟨a, b, xs, ys, rfl, rfl, h1, h2, hz, q0, q1, q2⟩
theorem isNon {F : Hp} {x : V} {d : D} (h : Rh K F H x d) : decide (x = V.non) = isNone d := by
  rcases h with h | ⟨p, u, rfl, _, b⟩
  · cases h <;> rfl
  · cases b <;> rfl
theorem line_of {n : Nat} (h : n ≤ lim) : n ≤ sizeLine := Nat.le_trans h (by decide)
theorem o_add : OpR X (binaryOp .Add) (r2 X.K addD) := by
  intro pins s σ H x y v u Q I rx ry ⟨F, d, e, FH, hx, hy, q⟩
  unfold addD at q
  split at q
  · rw [hx.int_inv] at rx; rw [hy.int_inv] at ry
    exact op_add pins s σ H _ _ v u Q I rx ry ⟨_, _, rfl, rfl, okInt FH q⟩
  · obtain ⟨e1, s1⟩ := hx.str_inv
    obtain ⟨e2, s2⟩ := hy.str_inv
    rw [e1] at rx; rw [e2] at ry
    obtain ⟨hc, q⟩ := q.if_bad
    refine op_add_str pins s σ H _ _ v u Q I rx ry ⟨_, _, rfl, rfl, line_of hc, okStr FH ⟨?_, strOk_app s1.2 s2.2⟩ q⟩
    rw [len_app]
    unfold lim at hc
    omega
  · obtain ⟨p, xs, e1, h1, w1⟩ := hx.list_inv FH
    obtain ⟨p', xs', e2, h2, w2⟩ := hy.list_inv FH
    subst e1 e2
    obtain ⟨hc, q⟩ := q.if_bad
    exact cat_list I h1 h2 rx ry (by rw [w1.length, w2.length]; exact line_of hc) fun p np => okLst FH np (w1.append w2) q
  · obtain ⟨p, xs, e1, h1, w1⟩ := hx.tup_inv FH
    obtain ⟨p', xs', e2, h2, w2⟩ := hy.tup_inv FH
    subst e1 e2
    obtain ⟨hc, q⟩ := q.if_bad
    refine HandS_catA I h1 h2 rx ry (by rw [w1.length, w2.length]; exact line_of hc) (fun e => ?_) (fun _ e => ?_) fun _ _ p np => okTup FH np (w1.append w2) q
    · subst e; cases w1; exact okTupOld FH h2 _ hy (by simp) q
    · subst e; cases w2; exact okTupOld FH h1 _ hx (by simp) q
  · exact q.elim
theorem o_sub : OpR X (binaryOp .Sub) (r2 X.K subD) := by
  intro pins s σ H x y v u Q I rx ry ⟨F, d, e, FH, hx, hy, q⟩
  unfold subD at q
  split at q
  · rw [hx.int_inv] at rx; rw [hy.int_inv] at ry
    exact op_sub pins s σ H _ _ v u Q I rx ry ⟨_, _, rfl, rfl, okInt FH q⟩
  · exact q.elim
theorem o_div : OpR X (binaryOp .FloorDiv) (r2 X.K divD) := by
  intro pins s σ H x y v u Q I rx ry ⟨F, d, e, FH, hx, hy, q⟩
  unfold divD at q
  split at q
  · rw [hx.int_inv] at rx; rw [hy.int_inv] at ry
    obtain ⟨hc, q⟩ := q.if_bad
    refine op_fdivW pins s σ H _ _ v u Q I rx ry ⟨_, _, rfl, rfl, ⟨hc.1, ?_⟩, okInt FH q⟩
    have h2 := hc.2
    exact Nat.lt_trans ((Nat.log2_lt (by omega)).mpr (show _ < 2 ^ 64 by omega)) (by decide)
  · exact q.elim
theorem o_mod : OpR X (binaryOp .Mod) (r2 X.K modD) := by
  intro pins s σ H x y v u Q I rx ry ⟨F, d, e, FH, hx, hy, q⟩
  unfold modD at q
  split at q
  · rw [hx.int_inv] at rx; rw [hy.int_inv] at ry
    obtain ⟨hc, q⟩ := q.if_bad
    exact op_mod pins s σ H _ _ v u Q I rx ry ⟨_, _, rfl, rfl, hc, okInt FH q⟩
  · exact q.elim
theorem o_pow : OpR X (binaryOp .Pow) (r2 X.K powD) := by
  intro pins s σ H x y v u Q I rx ry ⟨F, d, e, FH, hx, hy, q⟩
  unfold powD at q
  split at q
  · rw [hx.int_inv] at rx; rw [hy.int_inv] at ry
    obtain ⟨hc, q⟩ := q.if_bad
    exact op_pow pins s σ H _ _ v u Q I rx ry ⟨_, _, rfl, rfl, ⟨hc.1, by omega, hc.2.2⟩, okInt FH q⟩
  · exact q.elim
theorem small_of {i : Int} (h : small i = true) : -(2 ^ 64) < i ∧ i < 2 ^ 64 := of_decide_eq_true h
theorem rep_list {l : Addr} {xs : List V} {kk : Int} {v u : Value} (I : Inv X pins σ H s) (h1 : SqR X.K H l xs) (rx : RelV (.ref l) v) (ry : RelV (.int kk) u) (b1 : -(2 ^ 63) ≤ kk) (b2 : kk < 2 ^ 63) (hz : xs.length * kk.toNat ≤ sizeLine)
    (q : ∀ p, H p = none → Q (.ref p) (upd H p (.lst (List.replicate kk.toNat xs).flatten))) : wpAny (model X.prog X.w) X.A (binaryOp .Mult v u) (EP X pins σ Q) X.xe s := by
  cases rx
  obtain ⟨t, rfl⟩ := ry
  obtain ⟨z, its, n, r, hl, e⟩ := I.lstR h1
  have hlen : its.toArray.size * kk.toNat ≤ sizeLine := by rw [List.size_toArray, ← hl]; exact hz
  have hcap : ¬ its.toArray.size * kk.toNat > (2 ^ 63 - 1) / 8 := by
    have w1 : (sizeLine : Nat) ≤ (2 ^ 63 - 1) / 8 := by decide
    omega
  have hfit : ¬ (!Builtin.List.listFitsIndex kk) = true := by
    rw [fitsIndex_both b1 b2]
    exact Bool.false_ne_true
  have hlong : ¬ Builtin.List.listTooLong (its.toArray.size * kk.toNat) = true := by
    rw [notLongL hlen]
    exact Bool.false_ne_true
  have f0 : ∀ m : Nat, List.foldl (fun a b => a ++ b) #[] (List.replicate m its.toArray) = (List.replicate m its).flatten.toArray := fun m => by
    have w2 := foldl_rep its m []
    rw [List.nil_append] at w2
    exact w2
  have hnew : List.foldl (fun a b => a ++ b) #[] (List.replicate (if its.toArray.isEmpty = true then 0 else kk.toNat) its.toArray) = (List.replicate kk.toNat its).flatten.toArray := by
    rw [f0]
    cases its with
    | nil => simp
    | cons a r' => rw [if_neg (by simp)]
  refine wpAny_binaryOp_repeat_ref (T := "list") (U := "int") (by decide) ⟨_, e, rfl⟩ (fun s' => typeIs_int s' kk t) noFill_list_mul F.fills_int_mul F.slot_int_rmul repeat_list F.slot_int_index.lookup ?_
  refine call_meets F.slot_int_rmul (typeIs_int s kk t) F.entry_int_rmul (F.args_int_rmul_2 _ _) (int___rmul___int_list kk t l its.toArray n) ⟨e, rfl, ⟨_, e, rfl⟩, ?_⟩
  refine call_meets F.slot_list_mul ⟨_, e, rfl⟩ F.entry_list_mul (F.args_list_mul_2 _ _) (AutoListH.list___mul___list_int_3 l its.toArray n kk t hfit hcap hlong) ⟨e, ?_⟩
  rw [hnew]
  exact ⟨.ref _, _, I.lnew (t' := s.toks) (r.rep kk.toNat) (by rw [PyProof.Rows.lm_len_rep_flat, Nat.mul_comm]; exact hz), rfl, q _ I.fresh⟩
theorem u_neg : UnR X (unaryOp .USub) (r1 X.K negD) := by
  intro pins s σ H x v Q I rx ⟨F, d, FH, hx, q⟩
  unfold negD at q
  split at q
  · rw [hx.int_inv] at rx
    exact un_neg pins s σ H _ v Q I rx ⟨_, rfl, okInt FH q⟩
  · exact q.elim

/-! ### comparisons -/
def r2B (K : PySem.W.Frag) (g : D → D → R Bool) : R2 := fun x y H Q => ∃ F d e, Same F H ∧ Rh K F H x d ∧ Rh K F H y e ∧ Ans (g d e) (fun b => Q (.bl b) H) noE
theorem dpr {u : Value} {n : Nat} (g : fl n d = true) (I : Inv X pins σ H s) (FH : Same F H) (h : Rh X.K F H v d) (r : RelV v u) : ∃ as, Reads s.heap u d as := Dp.reads I d v u (h.dp g FH) r
theorem units64 (hr : Room k X.A) : X.A.units + 64 < cLine := hr.units
theorem c_eq (hr : Room k X.A) : OpR X (compareOp .Eq) (r2B X.K eqD) := by
  intro pins s σ H x y v u Q I rx ry ⟨F, d, e, FH, hx, hy, q⟩
  obtain ⟨hc, q⟩ := q.if_bad
  rw [Bool.and_eq_true] at hc
  obtain ⟨as, r1⟩ := dpr hc.1 I FH hx rx
  obtain ⟨bs, r2⟩ := dpr hc.2 I FH hy ry
  exact SeqAt.compareEq_shaped r1 r2 (shaped_of hc.1 hx) (shaped_of hc.2 hy) hr.units ⟨.bl _, H, I, rfl, q⟩
theorem Ans.rnot {r : R Bool} {k : Bool → Prop} {e : Str → Int → Prop} (h : Ans (Dv.rnot r) k e) : Ans r (fun b => k (!b)) e := by
  cases r <;> exact h
theorem c_ne (hr : Room k X.A) : OpR X (compareOp .NotEq) (r2B X.K fun x y => rnot (eqD x y)) := by
  intro pins s σ H x y v u Q I rx ry ⟨F, d, e, FH, hx, hy, q⟩
  obtain ⟨hc, q⟩ := q.rnot.if_bad
  rw [Bool.and_eq_true] at hc
  obtain ⟨as, r1⟩ := dpr hc.1 I FH hx rx
  obtain ⟨bs, r2⟩ := dpr hc.2 I FH hy ry
  exact SeqAt.compareNe_shaped r1 r2 (shaped_of hc.1 hx) (shaped_of hc.2 hy) hr.units ⟨.bl _, H, I, rfl, q⟩
theorem room_min (hr : Room k X.A) {d e : D} (h : fl deep d = true) : X.A.units + min d.depth e.depth < cLine := by
  have h1 := deep_depth h
  have h2 : min d.depth e.depth ≤ d.depth := Nat.min_le_left _ _
  have h3 := hr.units
  omega
theorem alike_int (i j : Int) : PySem.W.alike (.int i) (.int j) = true := by simp [PySem.W.alike]
theorem alike_str (i j : Str) : PySem.W.alike (.str i) (.str j) = true := by simp [PySem.W.alike]
theorem lt_cases {d e : D} {kk : Bool → Prop} (q : Ans (ltD d e) kk noE) : PySem.W.alike d e = true ∧ fl deep d = true ∧ d ≠ .none ∧ fl deep e = true ∧ kk (PySem.W.dataLt d e) := by
  unfold ltD at q
  split at q
  · exact ⟨alike_int _ _, rfl, by simp, rfl, by rw [PySem.W.dataLt_int]; exact q⟩
  · exact ⟨alike_str _ _, rfl, by simp, rfl, by rw [PySem.W.dataLt_str]; exact q⟩
  · obtain ⟨hc, q⟩ := q.if_bad
    rw [Bool.and_eq_true, Bool.and_eq_true] at hc
    exact ⟨hc.1.1, hc.1.2, by simp, hc.2, q⟩
  · obtain ⟨hc, q⟩ := q.if_bad
    rw [Bool.and_eq_true, Bool.and_eq_true] at hc
    exact ⟨hc.1.1, hc.1.2, by simp, hc.2, q⟩
  · exact q.elim
theorem le_cases {d e : D} {kk : Bool → Prop} (q : Ans (leD d e) kk noE) : PySem.W.alike d e = true ∧ fl deep d = true ∧ fl deep e = true ∧ d ≠ .none ∧ e ≠ .none ∧ kk (!PySem.W.dataLt e d) := by
  unfold leD at q
  split at q
  · refine ⟨alike_int _ _, rfl, rfl, by simp, by simp, ?_⟩
    rw [PySem.W.dataLt_int, PySem.W.not_lt_int]; exact q
  · refine ⟨alike_str _ _, rfl, rfl, by simp, by simp, ?_⟩
    rw [PySem.W.dataLt_str, PySem.W.not_lt_str]; exact q
  · obtain ⟨hc, q⟩ := q.if_bad
    rw [Bool.and_eq_true, Bool.and_eq_true] at hc
    exact ⟨hc.1.1, hc.1.2, hc.2, by simp, by simp, q⟩
  · obtain ⟨hc, q⟩ := q.if_bad
    rw [Bool.and_eq_true, Bool.and_eq_true] at hc
    exact ⟨hc.1.1, hc.1.2, hc.2, by simp, by simp, q⟩
  · exact q.elim
mutual
theorem alike_symm : ∀ d e : D, PySem.W.alike d e = true → PySem.W.alike e d = true
  | .none, e, h => by cases e <;> simp_all [PySem.W.alike]
  | .bool _, e, h => by cases e <;> simp_all [PySem.W.alike]
  | .int _, e, h => by cases e <;> simp_all [PySem.W.alike]
  | .str _, e, h => by cases e <;> simp_all [PySem.W.alike]
  | .list xs, e, h => by
    cases e with
    | list ys => simp only [PySem.W.alike] at *; exact alikeAll_symm xs ys h
    | _ => simp [PySem.W.alike] at h
  | .tuple xs, e, h => by
    cases e with
    | tuple ys => simp only [PySem.W.alike] at *; exact alikeAll_symm xs ys h
    | _ => simp [PySem.W.alike] at h
  | .dict _, e, h => by cases e <;> simp [PySem.W.alike] at h
theorem alikeAll_symm : ∀ xs ys : List D, PySem.W.alikeAll xs ys = true → PySem.W.alikeAll ys xs = true
  | [], ys, _ => by cases ys <;> simp [PySem.W.alikeAll]
  | x :: xs, [], _ => by simp [PySem.W.alikeAll]
  | x :: xs, y :: ys, h => by
    simp only [PySem.W.alikeAll, Bool.and_eq_true] at *
    exact ⟨alike_symm x y h.1, alikeAll_symm xs ys h.2⟩
end
theorem c_lt (hr : Room k X.A) : OpR X (compareOp .Lt) (r2B X.K ltD) := by
  intro pins s σ H x y v u Q I rx ry ⟨F, d, e, FH, hx, hy, q⟩
  obtain ⟨h1, h2, h3, h4, q⟩ := lt_cases q
  obtain ⟨as, r1⟩ := dpr h2 I FH hx rx
  obtain ⟨bs, r2⟩ := dpr h4 I FH hy ry
  exact PySem.W.lt_data r1 r2 h1 h3 (room_min hr h2) ⟨.bl _, H, I, rfl, q⟩
theorem c_gt (hr : Room k X.A) : OpR X (compareOp .Gt) (r2B X.K fun x y => ltD y x) := by
  intro pins s σ H x y v u Q I rx ry ⟨F, d, e, FH, hx, hy, q⟩
  obtain ⟨h1, h2, h3, h4, q⟩ := lt_cases q
  obtain ⟨as, r1⟩ := dpr h4 I FH hx rx
  obtain ⟨bs, r2⟩ := dpr h2 I FH hy ry
  refine PySem.W.gt_data r1 r2 (alike_symm _ _ h1) (fun z => ?_) (by rw [Nat.min_comm]; exact room_min hr h2) ⟨.bl _, H, I, rfl, q⟩
  subst z
  cases e <;> first | exact absurd rfl h3 | simp [PySem.W.alike] at h1
theorem c_le (hr : Room k X.A) : OpR X (compareOp .LtE) (r2B X.K leD) := by
  intro pins s σ H x y v u Q I rx ry ⟨F, d, e, FH, hx, hy, q⟩
  obtain ⟨h1, h2, h3, h4, h5, q⟩ := le_cases q
  obtain ⟨as, r1⟩ := dpr h2 I FH hx rx
  obtain ⟨bs, r2⟩ := dpr h3 I FH hy ry
  exact PySem.W.le_data r1 r2 h1 h4 (room_min hr h2) ⟨.bl _, H, I, rfl, q⟩
theorem c_ge (hr : Room k X.A) : OpR X (compareOp .GtE) (r2B X.K fun x y => leD y x) := by
  intro pins s σ H x y v u Q I rx ry ⟨F, d, e, FH, hx, hy, q⟩
  obtain ⟨h1, h2, h3, h4, h5, q⟩ := le_cases q
  obtain ⟨as, r1⟩ := dpr h3 I FH hx rx
  obtain ⟨bs, r2⟩ := dpr h2 I FH hy ry
  exact PySem.W.ge_data r1 r2 (alike_symm _ _ h1) h5 (room_min hr h3) ⟨.bl _, H, I, rfl, q⟩
theorem c_is : OpR X (compareOp .Is) (r2B X.K isD) := by
  intro pins s σ H x y v u Q I rx ry ⟨F, d, e, FH, hx, hy, q⟩
  cases e with
  | none =>
    rw [hy.non_inv] at ry
    refine op_isN pins s σ H x .non v u Q I rx ry ⟨rfl, ?_⟩
    have q : Q (.bl (isNone d)) H := q
    rw [isNon hx]
    exact q
  | bool b =>
    rw [hy.bl_inv] at ry
    cases d with
    | bool c =>
      rw [hx.bl_inv] at rx
      refine op_isBl pins s σ H _ _ v u Q I rx ry ⟨c, b, rfl, rfl, ?_⟩
      have q : Q (.bl (c == b)) H := q
      rw [Bool.beq_eq_decide_eq] at q
      exact q
    | _ => exact q.elim
  | _ => exact q.elim
theorem c_isn : OpR X (compareOp .IsNot) (r2B X.K fun x y => rnot (isD x y)) := by
  intro pins s σ H x y v u Q I rx ry ⟨F, d, e, FH, hx, hy, q⟩
  have q := q.rnot
  cases e with
  | none =>
    rw [hy.non_inv] at ry
    refine op_notN pins s σ H x .non v u Q I rx ry ⟨rfl, ?_⟩
    have q : Q (.bl (!isNone d)) H := q
    rw [isNon hx]
    exact q
  | bool b =>
    rw [hy.bl_inv] at ry
    cases d with
    | bool c =>
      rw [hx.bl_inv] at rx
      refine op_notBl pins s σ H _ _ v u Q I rx ry ⟨c, b, rfl, rfl, ?_⟩
      have q : Q (.bl (!(c == b))) H := q
      rw [Bool.beq_eq_decide_eq] at q
      exact q
    | _ => exact q.elim
  | _ => exact q.elim
theorem Ans.mem {x : D} {ys : List D} {kk : Bool → Prop} (q : Ans (memD x ys) kk noE) : fl deep x = true ∧ kk (ys.any fun y => PyData.eqv y x) ∧ ys.all (fl deep) = true := by
  obtain ⟨hc, q⟩ := q.if_bad
  rw [Bool.and_eq_true] at hc
  exact ⟨hc.1, q, hc.2⟩
theorem room_in' (hr : Room k X.A) {d : D} {ys : List D} (h : fl deep d = true) : X.A.units + 1 + min (PyData.depthAll ys) d.depth < cLine := by
  have h1 := fl_depth _ _ h
  have h2 : min (PyData.depthAll ys) d.depth ≤ d.depth := Nat.min_le_right _ _
  have h3 := hr.units
  unfold deep at h1
  omega
theorem lay_list {ds : List D} (h : (PyData.list ds).canLay0 = true) : PyData.canLayAll0 ds = true := by simpa only [PyData.canLay0] using h
theorem lay_tup {ds : List D} (h : (PyData.tuple ds).canLay0 = true) : PyData.canLayAll0 ds = true := by simpa only [PyData.canLay0] using h
theorem dget_of {kvs : List (D × D)} {d : D} {x y : V} (FH : Same F H) (hk : isK d = true) (hx : Rh K F H x d) (hy : Rh K F H y (.dict kvs)) : ∃ p o, y = .ref p ∧ DGet H p x o ∧ o.isSome = dHas kvs d := by
  obtain ⟨k, rfl, rfl, _⟩ := key_of_isK hk hx
  obtain ⟨p, ks, rfl, hp, rk⟩ := hy.dict_is FH
  refine ⟨p, _, rfl, DGet.k hp, ?_⟩
  rw [← valV_any, rk.has]
theorem c_in (hr : Room k X.A) : OpR X (compareOp .In) (r2B X.K inD) := by
  intro pins s σ H x y v u Q I rx ry ⟨F, d, e, FH, hx, hy, q⟩
  cases e with
  | dict kvs =>
    obtain ⟨hk, q⟩ := Ans.if_bad (c := isK d = true) q
    obtain ⟨p, o, rfl, g, e⟩ := dget_of FH hk hx hy
    obtain rfl : u = Value.ref p := ry
    rw [← e] at q
    exact d_in (by have := hr.units; omega) I g rx fun s' I' => ⟨.bl _, H, I', rfl, q⟩
  | list ys =>
    obtain ⟨h1, q, h2⟩ := Ans.mem q
    have g : fl (deep + 1) (.list ys) = true := h2
    obtain ⟨as, r1⟩ := dpr h1 I FH hx rx
    obtain ⟨bs, r2⟩ := dpr g I FH hy ry
    exact SeqAt.in_list_reads r2 r1 (lay_list (hy.lay g)) (hx.lay h1) (room_in' hr h1) ⟨.bl _, H, I, rfl, q⟩
  | tuple ys =>
    obtain ⟨h1, q, h2⟩ := Ans.mem q
    have g : fl (deep + 1) (.tuple ys) = true := h2
    obtain ⟨as, r1⟩ := dpr h1 I FH hx rx
    obtain ⟨bs, r2⟩ := dpr g I FH hy ry
    exact SeqAt.in_tuple_reads r2 r1 (lay_tup (hy.lay g)) (hx.lay h1) (room_in' hr h1) ⟨.bl _, H, I, rfl, q⟩
  | str z =>
    obtain ⟨e2, _⟩ := hy.str_inv
    rw [e2] at ry
    cases d with
    | str w =>
      obtain ⟨e1, _⟩ := hx.str_inv
      rw [e1] at rx
      exact op_in_str pins s σ H _ _ v u Q I rx ry ⟨_, _, rfl, rfl, q⟩
    | _ => exact q.elim
  | _ => exact q.elim
theorem c_nin (hr : Room k X.A) : OpR X (compareOp .NotIn) (r2B X.K fun x y => rnot (inD x y)) := by
  intro pins s σ H x y v u Q I rx ry ⟨F, d, e, FH, hx, hy, q⟩
  have q := q.rnot
  cases e with
  | dict kvs =>
    obtain ⟨hk, q⟩ := Ans.if_bad (c := isK d = true) q
    obtain ⟨p, o, rfl, g, e⟩ := dget_of FH hk hx hy
    obtain rfl : u = Value.ref p := ry
    rw [← e] at q
    exact d_notIn (by have := hr.units; omega) I g rx fun s' I' => ⟨.bl _, H, I', rfl, q⟩
  | list ys =>
    obtain ⟨h1, q, h2⟩ := Ans.mem q
    have g : fl (deep + 1) (.list ys) = true := h2
    obtain ⟨as, r1⟩ := dpr h1 I FH hx rx
    obtain ⟨bs, r2⟩ := dpr g I FH hy ry
    exact SeqAt.notIn_list_reads r2 r1 (lay_list (hy.lay g)) (hx.lay h1) (room_in' hr h1) ⟨.bl _, H, I, rfl, q⟩
  | tuple ys =>
    obtain ⟨h1, q, h2⟩ := Ans.mem q
    have g : fl (deep + 1) (.tuple ys) = true := h2
    obtain ⟨as, r1⟩ := dpr h1 I FH hx rx
    obtain ⟨bs, r2⟩ := dpr g I FH hy ry
    exact SeqAt.notIn_tuple_reads r2 r1 (lay_tup (hy.lay g)) (hx.lay h1) (room_in' hr h1) ⟨.bl _, H, I, rfl, q⟩
  | str z =>
    obtain ⟨e2, _⟩ := hy.str_inv
    rw [e2] at ry
    cases d with
    | str w =>
      obtain ⟨e1, _⟩ := hx.str_inv
      rw [e1] at rx
      exact op_notin_str pins s σ H _ _ v u Q I rx ry ⟨_, _, rfl, rfl, q⟩
    | _ => exact q.elim
  | _ => exact q.elim
theorem c_all (hr : Room k X.A) (op : CmpOp) : OpR X (compareOp op) (r2B X.K (cmpD op)) := by
  cases op with
  | Eq => exact c_eq hr
  | NotEq => exact c_ne hr
  | Lt => exact c_lt hr
  | LtE => exact c_le hr
  | Gt => exact c_gt hr
  | GtE => exact c_ge hr
  | Is => exact c_is
  | IsNot => exact c_isn
  | In => exact c_in hr
  | NotIn => exact c_nin hr
end
end Dv
/-! Dv5: products, places, cuts, chains of comparisons, tests. -/
namespace Dv
open PySem PySem.Spec PyProof.Rows L2
variable {K : PySem.W.Frag} {F F' F0 B H H' : Hp} {v : V} {d : D} {k : Nat}
section
variable {X : Cx} {pins : List (Addr × Obj)} {σ : L2.St} {s : Shared} {Q : VK}
theorem foldl_cps (c : Array Nat) : ∀ (n : Nat) (acc : Array Nat), (List.replicate n c).foldl (fun a b => a ++ b) acc = acc ++ (List.replicate n c.toList).flatten.toArray
  | 0, acc => by simp
  | n + 1, acc => by
    rw [List.replicate_succ, List.foldl_cons, foldl_cps c n, List.replicate_succ, List.flatten_cons]
    apply Array.ext'
    simp
theorem repS_eq (x : Str) (n : Nat) : (⟨(List.replicate n x.cps).foldl (fun a b => a ++ b) #[]⟩ : Str) = repS x n := by
  rw [foldl_cps]
  simp [repS]
theorem repS_len (x : Str) (n : Nat) : (repS x n).length = x.length * n := by
  show ((List.replicate n x.cps.toList).flatten.toArray).size = x.cps.size * n
  rw [List.size_toArray, PyProof.Rows.lm_len_rep_flat, Array.length_toList, Nat.mul_comm]
theorem repS_zero (x : Str) : repS x 0 = Str.empty := rfl
theorem repS_one (x : Str) : repS x 1 = x := by
  cases x
  simp [repS]
theorem repS_nil {x : Str} (h : x.length = 0) (n : Nat) : repS x n = x := by
  have h2 : (repS x n).length = 0 := by rw [repS_len, h, Nat.zero_mul]
  have a : (repS x n).cps = #[] := Array.size_eq_zero_iff.mp h2
  have b : x.cps = #[] := Array.size_eq_zero_iff.mp h
  cases x
  simp only [Str.mk.injEq] at *
  cases hr : repS ⟨_⟩ n
  simp_all
theorem strOk_rep {x : Str} (h : PyData.strOk x = true) : ∀ n : Nat, PyData.strOk (repS x n) = true := by
  intro n
  unfold PyData.strOk at *
  unfold repS
  rw [← Array.all_toList] at h ⊢
  rw [List.all_eq_true] at *
  intro c hc
  simp only [List.mem_flatten, List.mem_replicate] at hc
  obtain ⟨l, ⟨_, rfl⟩, hc⟩ := hc
  exact h c hc
theorem o_mul : OpR X (binaryOp .Mult) (r2 X.K mulD) := by
  intro pins s σ H x y v u Q I rx ry ⟨F, d, e, FH, hx, hy, q⟩
  unfold mulD at q
  split at q
  · rw [hx.int_inv] at rx; rw [hy.int_inv] at ry
    obtain ⟨hc, q⟩ := q.if_bad
    rw [Bool.or_eq_true] at hc
    exact op_mul pins s σ H _ _ v u Q I rx ry ⟨_, _, rfl, rfl, hc.elim (fun z => .inl (small_of z)) fun z => .inr (small_of z), okInt FH q⟩
  · obtain ⟨p, xs, e1, h1, w1⟩ := hx.list_inv FH
    rw [e1] at rx; rw [hy.int_inv] at ry
    obtain ⟨hc, q⟩ := q.if_bad
    rw [Bool.and_eq_true] at hc
    have c1 := of_decide_eq_true hc.1
    exact rep_list I h1 rx ry c1.1 c1.2 (by rw [w1.length]; exact line_of (of_decide_eq_true hc.2)) fun p np => okLst FH np (w1.rep _) q
  · rename_i a kk
    obtain ⟨e1, s1⟩ := hx.str_inv
    rw [e1] at rx; rw [hy.int_inv] at ry
    obtain ⟨t, rfl⟩ := rx
    obtain ⟨t', rfl⟩ := ry
    obtain ⟨hc, q⟩ := q.if_bad
    rw [Bool.and_eq_true] at hc
    obtain ⟨c1, c2⟩ := of_decide_eq_true hc.1
    have c3 : a.length * kk.toNat ≤ lim := of_decide_eq_true hc.2
    have hz : a.length * kk.toNat ≤ sizeLine := line_of c3
    have sk : sOk (repS a kk.toNat) := ⟨by rw [repS_len]; unfold lim at c3; omega, strOk_rep s1.2 _⟩
    refine P.mul_str (by rw [decide_eq_false (by omega), decide_eq_false (by omega)]; rfl) (fun h1 h2 => ?_) (fun h1 h2 => ?_) ?_
    · have h3 : (0 : Int) < kk := by omega
      rw [Int.not_lt]
      refine (Int.le_ediv_iff_mul_le h3).mpr ?_
      have h4 : ((a.length * kk.toNat : Nat) : Int) ≤ 16777216 := by
        have := hz
        rw [sizeLine_eq] at this
        omega
      rw [Int.natCast_mul, Int.toNat_of_nonneg c1] at h4
      omega
    · show decide (a.length * kk.toNat > sizeLine) = false
      exact decide_eq_false (by omega)
    · by_cases h1 : kk < 1
      · rw [if_pos h1]
        have e0 : kk.toNat = 0 := by omega
        rw [e0, repS_zero] at q sk
        exact ⟨by decide, .str _, H, I.tok _, ⟨_, rfl⟩, okStr FH sk q⟩
      · rw [if_neg h1]
        by_cases h2 : (kk == 1 || a.length == 0) = true
        · rw [if_pos h2]
          have e0 : repS a kk.toNat = a := by
            rw [Bool.or_eq_true] at h2
            rcases h2 with h2 | h2
            · have : kk = 1 := eq_of_beq h2
              subst this
              exact repS_one a
            · exact repS_nil (eq_of_beq h2) _
          rw [e0] at q sk
          exact ⟨.str _, H, I, ⟨_, rfl⟩, okStr FH sk q⟩
        · rw [if_neg h2, repS_eq]
          refine ⟨by rw [repS_len]; exact hz, .str _, H, I.tok _, ⟨_, rfl⟩, okStr FH sk q⟩
  · exact q.elim
theorem o_all (op : Operator) : OpR X (binaryOp op) (r2 X.K (binD op)) := by
  cases op with
  | Add => exact o_add
  | Sub => exact o_sub
  | Mult => exact o_mul
  | FloorDiv => exact o_div
  | Mod => exact o_mod
  | Pow => exact o_pow
  | _ => exact fun _ _ _ _ _ _ _ _ _ _ _ _ ⟨_, _, _, _, _, _, q⟩ => q.elim

/-! ### places -/
theorem ixZ_eq (n : Nat) (i : Int) : ixZ n i = ixN n i := rfl
theorem atZ_eq {α : Type} (xs : List α) (i : Int) : atZ xs i = atI xs i := rfl
theorem at_rps {F : Hp} {vs : List V} {ds : List D} (r : Rps K F vs ds) {i : Int} {d : D} (h : atZ ds i = some d) : ∃ v, atI vs i = some v ∧ Rp K F v d := by
  unfold atZ at h
  obtain ⟨j, h1, h2⟩ := Option.bind_eq_some_iff.mp h
  obtain ⟨v, e, q⟩ := r.get h2
  refine ⟨v, ?_, q⟩
  unfold atI
  rw [r.length, ← ixZ_eq, h1]
  exact e
theorem Ans.oR {α : Type} {o : Option α} {kk : α → Prop} {e : Str → Int → Prop} (h : Ans (Dv.oR o) kk e) : ∃ a, o = some a ∧ kk a := by
  cases o with
  | none => exact h.elim
  | some a => exact ⟨a, rfl, h⟩
theorem strOk_mem {x : Str} (h : PyData.strOk x = true) {c : Nat} (hc : c ∈ x.cps.toList) : decide (c < 0x110000) = true := by
  unfold PyData.strOk at h
  rw [← Array.all_toList, List.all_eq_true] at h
  exact h c hc
theorem strOk_of {l : List Nat} (h : ∀ c ∈ l, decide (c < 0x110000) = true) : PyData.strOk ⟨l.toArray⟩ = true := by
  unfold PyData.strOk
  rw [← Array.all_toList, List.all_eq_true]
  simpa using h
theorem atI_mem {α : Type} {xs : List α} {i : Int} {v : α} (h : atI xs i = some v) : v ∈ xs := by
  unfold atI at h
  obtain ⟨j, h1, h2⟩ := Option.bind_eq_some_iff.mp h
  exact List.mem_of_getElem? h2
theorem sOk_sgn {x : Str} (s : sOk x) {c : Nat} (hc : c ∈ x.cps.toList) : sOk (sgn c) := by
  refine ⟨by show 1 ≤ _; decide, ?_⟩
  unfold sgn
  exact strOk_of (l := [c]) fun z hz => by
    rw [List.mem_singleton.mp hz]
    exact strOk_mem s.2 hc
theorem line_str {x : Str} (s : sOk x) : x.length ≤ sizeLine := Nat.le_trans s.1 (by decide)
theorem ix_dict : IxR X (fun x y H Q => ∃ F kvs e, Same F H ∧ Rh X.K F H x (.dict kvs) ∧ Rh X.K F H y e ∧ Ans (if isK e then Dv.oR (dGet kvs e) else .bad) (fun d => ∀ v, Rp X.K F v d → Q v H) noE) := by
  intro a b pins s σ H x y v u Q I rx ry ⟨F, kvs, e, FH, hx, hy, q⟩ hs
  by_cases hk : isK e = true
  · rw [if_pos hk] at q
    obtain ⟨d, hd, q2⟩ := q.oR
    clear q
    obtain ⟨k, rfl, rfl, _⟩ := key_of_isK hk hy
    obtain ⟨p, ks, rfl, hp, rk⟩ := hx.dict_is FH
    rcases rk.find k with ⟨_, z⟩ | ⟨w, d', h1, h2, r⟩
    · rw [hd] at z; cases z
    · rw [hd] at h2
      cases h2
      obtain rfl : v = Value.ref p := rx
      obtain ⟨_, _, vs, rel, dd⟩ := dk_of I.hok hp
      obtain ⟨w', hw, rw'⟩ := RelO.some_of (v := w) (o := valueAt vs k) (by rw [← h1]; exact rel.val k)
      exact tail_any dd.typeIs PySem.F.slot_dict_getitem.lookup (wpAny_getItem_of (kV_is ry) dd.mapOf hw ⟨w, H, I.tok _, rw', q2 w r⟩) hs
  · rw [if_neg hk] at q
    exact q.elim
theorem ix_all : IxR X (r2F X.K idxD) := by
  intro a b pins s σ H x y v u Q I rx ry ⟨F, d, e, FH, hx, hy, q⟩
  unfold idxD at q
  split at q
  · rw [hy.int_inv] at ry
    obtain ⟨p, xs, e1, h1, w1⟩ := hx.list_inv FH
    rw [e1] at rx
    obtain ⟨z, hz, q⟩ := q.oR
    obtain ⟨w, hw, rw'⟩ := at_rps w1 hz
    exact ix_list a b pins s σ H _ _ v u Q I rx ry ⟨p, xs, _, w, rfl, rfl, h1.to, hw, q w rw'⟩
  · rw [hy.int_inv] at ry
    obtain ⟨p, xs, e1, h1, w1⟩ := hx.tup_inv FH
    rw [e1] at rx
    obtain ⟨z, hz, q⟩ := q.oR
    obtain ⟨w, hw, rw'⟩ := at_rps w1 hz
    exact ix_tup a b pins s σ H _ _ v u Q I rx ry ⟨p, xs, _, w, rfl, rfl, h1, hw, q w rw'⟩
  · rw [hy.int_inv] at ry
    obtain ⟨e1, s1⟩ := hx.str_inv
    rw [e1] at rx
    obtain ⟨z, hz, q⟩ := q.oR
    obtain ⟨c, hc, rfl⟩ := Option.map_eq_some_iff.mp hz
    exact ix_str a b pins s σ H _ _ v u Q I rx ry ⟨_, _, c, rfl, rfl, line_str s1, hc, q _ (.str (sOk_sgn s1 (atI_mem hc)))⟩
  · exact ix_dict a b pins s σ H _ _ v u Q I rx ry ⟨F, _, _, FH, hx, hy, q⟩
  · exact q.elim

/-! ### cuts -/
theorem cutE_eq (n dd : Nat) (hd : dd ≤ n) (o : Option Int) : cutE n dd o = HT.sIx n dd o := by
  cases o with
  | none => exact (HT.sIx_none n dd).symm
  | some i =>
    have h := HT.clip_eq i n dd
    unfold cutE
    show (if i < 0 then (i + (n : Int)).toNat else min i.toNat n) = _
    by_cases hi : i < 0
    · rw [if_pos hi] at *
      omega
    · rw [if_neg hi] at *
      omega
theorem cut_eq {α : Type} (xs : List α) (lo hi : Option Int) : cut xs lo hi = (xs.drop (HT.sIx xs.length 0 lo)).take (HT.sIx xs.length xs.length hi - HT.sIx xs.length 0 lo) := by
  unfold cut
  rw [cutE_eq _ _ (Nat.zero_le _), cutE_eq _ _ (Nat.le_refl _)]
theorem cut_rps {F : Hp} {vs : List V} {ds : List D} (r : Rps K F vs ds) (lo hi : Option Int) : Rps K F (cutV vs lo hi) (cut ds lo hi) := by
  rw [cut_eq]
  unfold cutV
  rw [r.length]
  exact Rps.take _ (Rps.drop _ r)
def rSl (K : PySem.W.Frag) : V → Option Int → Option Int → Hp → VK → Prop := fun x lo hi H Q => ∃ F d, Same F H ∧ Rh K F H x d ∧ Ans (slD lo hi d) (OkV K F H Q) noE
theorem sl_all : SlR X (rSl X.K) := by
  intro pins s σ H x v vl vu lo hi sl Q I rx hs pl pu ⟨F, d, FH, hx, q⟩
  unfold slD at q
  split at q
  · obtain ⟨p, xs, e1, h1, w1⟩ := hx.list_inv FH
    rw [e1] at rx
    exact sl_list pins s σ H _ v vl vu lo hi sl Q I rx hs pl pu ⟨p, xs, rfl, h1.to, fun p np => okLst FH np (cut_rps w1 lo hi) q⟩
  · obtain ⟨p, xs, e1, h1, w1⟩ := hx.tup_inv FH
    subst e1
    refine sl_tupA pins s σ H _ v vl vu lo hi sl Q I rx hs pl pu ⟨p, xs, rfl, h1, fun hw => ?_, fun _ p np => okTup FH np (cut_rps w1 lo hi) q⟩
    refine okTupOld FH h1 _ hx ?_ q
    rw [cut_eq, ← w1.length, hw.1, hw.2, List.drop_zero, Nat.sub_zero, w1.length, List.take_length]
  · rename_i z
    obtain ⟨e1, s1⟩ := hx.str_inv
    rw [e1] at rx
    have e : cutS z lo hi = ⟨(cut z.cps.toList lo hi).toArray⟩ := by
      rw [cut_eq]
      unfold cutS
      rw [Array.length_toList]
      rfl
    refine sl_str pins s σ H _ v vl vu lo hi sl Q I rx hs pl pu ⟨z, rfl, line_str s1, ?_⟩
    rw [e]
    have q : OkV X.K F H Q (.str ⟨(cut z.cps.toList lo hi).toArray⟩) := q
    refine okStr FH ⟨?_, strOk_of fun c hc => strOk_mem s1.2 ?_⟩ q
    · rw [← e]
      exact Nat.le_trans (cutS_length z lo hi) s1.1
    · unfold cut at hc
      exact List.mem_of_mem_drop (List.mem_of_mem_take hc)
  · exact q.elim
end
end Dv
/-! Dv6: the judgements for places, cuts, comparisons, tests, choices. -/
namespace Dv
open PySem PySem.Spec PyProof.Rows L2
variable {K : PySem.W.Frag} {F F' F0 B H H' : Hp} {v : V} {d : D} {k : Nat}
variable {X : Cx} {W : Wi} {a : List Bool} {e a1 b1 : Expr} {f fa fb : DE} {t : DT} {pos : Pos}
/-- no program error comes out of an operation -/
theorem ng_all {α β : Type} {g : α → β → R D} : True := trivial
theorem ne_err_bin (op : Operator) (x y : D) (c : Str) (i : Int) : binD op x y ≠ .err c i := by
  cases op <;> (simp only [binD]; try (unfold addD; split)) <;> (try (unfold subD; split)) <;> (try (unfold mulD; split)) <;> (try (unfold divD; split)) <;> (try (unfold modD; split)) <;> (try (unfold powD; split)) <;>
    (try split) <;> (intro h; cases h)
theorem ne_err_neg (x : D) (c : Str) (i : Int) : negD x ≠ .err c i := by
  unfold negD; split <;> (intro h; cases h)
theorem ne_err_oR {α : Type} (o : Option α) (c : Str) (i : Int) : oR o ≠ .err c i := by
  cases o <;> (intro h; cases h)
theorem ne_err_idx (x y : D) (c : Str) (i : Int) : idxD x y ≠ .err c i := by
  unfold idxD; split <;> first | exact ne_err_oR _ _ _ | (split <;> first | exact ne_err_oR _ _ _ | (intro h; cases h)) | (intro h; cases h)
theorem ne_err_sl (lo hi : Option Int) (x : D) (c : Str) (i : Int) : slD lo hi x ≠ .err c i := by
  unfold slD; split <;> (intro h; cases h)
theorem je_bin {op : Operator} (ha : JE X W a a1 fa 0) (hb : JE X W a b1 fb 0) : JE X W a (.BinOp a1 op b1 pos) (eBin op fa fb) 3 := je_op (o_all op) ha hb fun d e c i => ne_err_bin op d e c i
theorem je_neg (ha : JE X W a a1 fa 0) : JE X W a (.UnaryOp .USub a1 pos) (eNeg fa) 3 := je_un u_neg ha ne_err_neg
theorem je_at (hs : PlainIx b1) (ha : JE X W a a1 fa 0) (hb : JE X W a b1 fb 0) : JE X W a (.Subscript a1 b1 pos) (eIx fa fb) 2 := je_ix ix_all hs ha hb ne_err_idx
theorem plainIx_of {i : Expr} (h : subK i = .ix) : PlainIx i := by
  intro o j
  cases i with
  | Slice lo hi st p =>
    cases st with
    | none => cases h
    | some e =>
      cases lo <;> cases hi <;> simp only [subK] at h <;> first | cases h | (split at h <;> cases h)
  | _ => rfl
/-! ### cuts -/
def tJO (K : PySem.W.Frag) (W : Wi) (a : List Bool) (o : Option DE) : TO := fun σ H Q => ∃ F0 B F δ, SI K F0 B F H σ a δ ∧
  Ans (oE o δ) (fun i => ∀ F' H', SI K F0 B F' H' σ a δ → Same F F' → Same H H' → New H F F' → Q i H') (W.ew σ H)
theorem _root_.L2.PO.imp {X : Cx} {e : Option Expr} {t t' : TO} (h : PO X e t) (i : ∀ σ H Q, t' σ H Q → t σ H Q) : PO X e t' := ⟨fun pins s σ H Q I q => h.run pins s σ H Q I (i σ H Q q)⟩
theorem jo_none : PO X none (tJO X.K W a none) := po_none.imp fun σ H Q ⟨F0, B, F, δ, S, q⟩ => q F H S (Same.refl F) (Same.refl H) (New.refl _ _)
theorem Ans.asInt {x : D} {kk : Int → Prop} {e : Str → Int → Prop} (h : Ans (Dv.asInt x) kk e) : ∃ i, x = .int i ∧ kk i := by
  unfold Dv.asInt at h
  split at h
  · exact ⟨_, rfl, h⟩
  · exact h.elim
theorem jo_some (h : JE X W a e f 0) : PO X (some e) (tJO X.K W a (some f)) := PO.imp (po_some h) fun σ H Q ⟨F0, B, F, δ, S, q⟩ => by
  unfold oE at q
  rw [Ans.bind_iff] at q
  refine ⟨F0, B, F, δ, S, q.imp fun d q v F' H' S' e1 e2 n r => ?_⟩
  rw [Ans.bind_iff] at q
  obtain ⟨i, rfl, q⟩ := q.asInt
  exact ⟨i, Rh.int_inv r, q F' H' S' e1 e2 n⟩
theorem je_slice {lo hi : Option Expr} {flo fhi : Option DE} {p2 : Pos} (ha : JE X W a a1 fa 0) (hl : PO X lo (tJO X.K W a flo)) (hh : PO X hi (tJO X.K W a fhi)) :
    JE X W a (.Subscript a1 (.Slice lo hi none p2) pos) (eSl fa flo fhi) 3 := (pe_slice sl_all ha hl hh).imp fun σ H Q ⟨F0, B, F, δ, S, q⟩ => by
  unfold eSl at q
  rw [Ans.bind_iff] at q
  refine ⟨F0, B, F, δ, S, q.imp fun d q v F1 H1 S1 e1 e2 n1 r1 => ⟨F0, B, F1, δ, S1, ?_⟩⟩
  rw [Ans.bind_iff] at q
  refine q.mono (fun l _ q F2 H2 S2 e3 e4 n2 => ⟨F0, B, F2, δ, S2, ?_⟩) fun c i z => W.mono _ _ _ _ _ e2 z
  rw [Ans.bind_iff] at q
  refine q.mono (fun u _ q F3 H3 S3 e5 e6 n3 => ⟨F3, d, S3.FH, Rh.mono (e3.trans e5) (e4.trans e6) r1, ?_⟩) fun c i z => W.mono _ _ _ _ _ (e2.trans e4) z
  have nb := ne_err_sl l u d
  revert q nb
  cases slD l u d with
  | ok z => exact fun q _ => OkV.fin S3 (e2.trans (e4.trans e6)) fun v F' H' S' e7 e8 n4 r => q v F' H' S' (e1.trans (e3.trans (e5.trans e7))) e8 (n1.trans ((n2.back e2).trans ((n3.back (e2.trans e4)).trans (n4.back (e2.trans (e4.trans e6)))))) r
  | err c i => exact fun _ nb => absurd rfl (nb c i)
  | bad => exact fun q _ => q
theorem isM1_of {e : Expr} (h : isM1 e = true) : ∃ kk p1 p2, e = .UnaryOp .USub (.Constant (.int 1) kk p1) p2 := by
  unfold isM1 at h
  split at h
  · exact ⟨_, _, _, rfl⟩
  · cases h
theorem je_rev {e2 : Expr} {p2 : Pos} (h : isM1 e2 = true) (ha : JE X W a a1 fa 0) : JE X W a (.Subscript a1 (.Slice none none (some e2) p2) pos) (eRev fa) 3 := by
  obtain ⟨kk, p1, p3, rfl⟩ := isM1_of h
  refine (pe_revL ha).imp fun σ H Q ⟨F0, B, F, δ, S, q⟩ => ?_
  unfold eRev at q
  rw [Ans.bind_iff] at q
  refine ⟨F0, B, F, δ, S, q.imp fun d q v F1 H1 S1 e1 e2 n1 r1 => ?_⟩
  unfold revD at q
  split at q
  · obtain ⟨p, xs, e4, h1, w1⟩ := Rh.list_inv S1.FH r1
    refine ⟨p, xs, e4, h1.to, fun p np => ?_⟩
    have g := same_new (o := .lst xs.reverse) np
    exact q (.ref p) F1 _ (S1.grow g) e1 (e2.trans g) n1 (Ow.mkL ⟨p, _, rfl, S1.FH.free np, e2.free np, upd_same, w1.reverse⟩)
  · exact q.elim

/-! ### tests -/
theorem jt_truth (h : JE X W a e f 0) (he : ∀ whole, isTrue e X.env whole = (do let v ← whole; standAt e.pos; holding [v] (truthy v))) : JT X W a e (tTru f) := by
  refine (pt_truth h he).imp fun σ H Q ⟨F0, B, F, δ, S, q⟩ => ?_
  unfold tTru at q
  rw [Ans.bind_iff] at q
  refine ⟨F0, B, F, δ, S, q.imp fun d q v F1 H1 S1 e1 e2 n1 r1 => ?_⟩
  unfold truD at q
  split at q
  · rw [Rh.non_inv r1]; exact ⟨false, rfl, q F1 H1 S1 e1 e2 n1⟩
  · rw [Rh.bl_inv r1]; exact ⟨_, rfl, q F1 H1 S1 e1 e2 n1⟩
  · rw [Rh.int_inv r1]; exact ⟨_, rfl, q F1 H1 S1 e1 e2 n1⟩
  · rename_i z
    obtain ⟨e4, s1⟩ := Rh.str_inv r1
    rw [e4]
    refine ⟨z.length != 0, ⟨line_str s1, ?_⟩, q F1 H1 S1 e1 e2 n1⟩
    simp [bne, BEq.beq]
  · obtain ⟨p, xs, e4, h1, w1⟩ := Rh.list_inv S1.FH r1
    rw [e4]
    refine ⟨_, .inl ⟨xs, h1.to, rfl⟩, ?_⟩
    have e5 : xs.isEmpty = (List.isEmpty ‹List D›) := by cases w1 <;> rfl
    rw [e5]
    exact q F1 H1 S1 e1 e2 n1
  · obtain ⟨p, xs, e4, h1, w1⟩ := Rh.tup_inv S1.FH r1
    rw [e4]
    refine ⟨_, .inr (.inl ⟨xs, h1, rfl⟩), ?_⟩
    have e5 : xs.isEmpty = (List.isEmpty ‹List D›) := by cases w1 <;> rfl
    rw [e5]
    exact q F1 H1 S1 e1 e2 n1
  · exact q.elim
theorem jt_not (h : JT X W a e t) : JT X W a (.UnaryOp .Not e pos) (Dv.tNot t) := (pt_not h).imp fun σ H Q ⟨F0, B, F, δ, S, q⟩ => by
  unfold Dv.tNot at q
  exact ⟨F0, B, F, δ, S, q.rnot⟩
end Dv
/-! Dv7: and, or, chains of comparisons, choices. -/
namespace Dv
open PySem PySem.Spec PyProof.Rows L2
variable {K : PySem.W.Frag} {F F' F0 B H H' : Hp} {v : V} {d : D} {k : Nat}
variable {X : Cx} {W : Wi} {a : List Bool} {e a1 b1 : Expr} {f fa fb : DE} {t : DT} {pos : Pos}
/-- one expression of a list, and its meaning -/
inductive Each2 {α β : Type} (P : α → β → Prop) : List α → List β → Prop
  | nil : Each2 P [] []
  | cons {x : α} {y : β} {xs : List α} {ys : List β} : P x y → Each2 P xs ys → Each2 P (x :: xs) (y :: ys)
theorem Each2.map {α β : Type} {P : α → β → Prop} {g : α → β} : ∀ (xs : List α), (∀ x, x ∈ xs → P x (g x)) → Each2 P xs (xs.map g)
  | [], _ => .nil
  | x :: xs, h => .cons (h x List.mem_cons_self) (Each2.map xs fun y hy => h y (List.mem_cons_of_mem _ hy))

def PWJ (X : Cx) (W : Wi) (a : List Bool) (e : Expr) (t : DT) : Prop := PW X e (tJT X.K W a t)
theorem _root_.L2.PW.imp {X : Cx} {e : Expr} {t t' : TT} (h : PW X e t) (i : ∀ σ H Q, t' σ H Q → t σ H Q) : PW X e t' := ⟨fun whole pins s σ H Q I q => h.run whole pins s σ H Q I (i σ H Q q)⟩
theorem jw_ands : ∀ {es : List Expr} {ts : List DT}, Each2 (JT X W a) es ts → es ≠ [] → PWJ X W a (.BoolOp .And es pos) (tAnds ts)
  | _, _, .nil, h => absurd rfl h
  | _, _, .cons h1 .nil, _ => pw_and1 h1
  | _, _, .cons h1 (.cons h2 hr), _ => (pw_and h1 (jw_ands (.cons h2 hr) (by simp))).imp fun σ H Q ⟨F0, B, F, δ, S, q⟩ => by
    unfold tAnds Dv.tAnd at q
    rw [Ans.bind_iff] at q
    refine ⟨F0, B, F, δ, S, q.imp fun b q F1 H1 S1 e1 e2 n1 => ?_⟩
    cases b with
    | true =>
      refine iteT ⟨F0, B, F1, δ, S1, ?_⟩
      exact Ans.mono q (fun b _ q F2 H2 S2 e3 e4 n2 => q F2 H2 S2 (e1.trans e3) (e2.trans e4) (n1.trans (n2.back e2))) fun c i z => W.mono _ _ _ _ _ e2 z
    | false => exact iteF (q F1 H1 S1 e1 e2 n1)
theorem jw_ors : ∀ {es : List Expr} {ts : List DT}, Each2 (JT X W a) es ts → es ≠ [] → PWJ X W a (.BoolOp .Or es pos) (tOrs ts)
  | _, _, .nil, h => absurd rfl h
  | _, _, .cons h1 .nil, _ => pw_or1 h1
  | _, _, .cons h1 (.cons h2 hr), _ => (pw_or h1 (jw_ors (.cons h2 hr) (by simp))).imp fun σ H Q ⟨F0, B, F, δ, S, q⟩ => by
    unfold tOrs Dv.tOr at q
    rw [Ans.bind_iff] at q
    refine ⟨F0, B, F, δ, S, q.imp fun b q F1 H1 S1 e1 e2 n1 => ?_⟩
    cases b with
    | true => exact iteT (q F1 H1 S1 e1 e2 n1)
    | false =>
      refine iteF ⟨F0, B, F1, δ, S1, ?_⟩
      exact Ans.mono q (fun b _ q F2 H2 S2 e3 e4 n2 => q F2 H2 S2 (e1.trans e3) (e2.trans e4) (n1.trans (n2.back e2))) fun c i z => W.mono _ _ _ _ _ e2 z
theorem jt_ands {es : List Expr} {ts : List DT} (h : Each2 (JT X W a) es ts) (hn : es ≠ []) : JT X W a (.BoolOp .And es pos) (tAnds ts) := PW.pt (jw_ands h hn)
theorem jt_ors {es : List Expr} {ts : List DT} (h : Each2 (JT X W a) es ts) (hn : es ≠ []) : JT X W a (.BoolOp .Or es pos) (tOrs ts) := PW.pt (jw_ors h hn)

/-! ### a value by a value's truth -/
theorem truV {F : Hp} {x : V} {d : D} {b : Bool} (FH : Same F H) (r : Rh K F H x d) (h : truD d = .ok b) : TruV K x H b := by
  unfold truD at h
  split at h
  · cases h; rw [Rh.non_inv r]; exact rfl
  · cases h; rw [Rh.bl_inv r]; exact rfl
  · cases h; rw [Rh.int_inv r]; exact rfl
  · obtain ⟨e4, s1⟩ := Rh.str_inv r
    cases h
    rw [e4]
    exact ⟨line_str s1, by simp [bne, BEq.beq]⟩
  · obtain ⟨p, xs, e4, h1, w1⟩ := Rh.list_inv FH r
    cases h
    rw [e4]
    exact .inl ⟨xs, h1.to, by cases w1 <;> rfl⟩
  · obtain ⟨p, xs, e4, h1, w1⟩ := Rh.tup_inv FH r
    cases h
    rw [e4]
    exact .inr (.inl ⟨xs, h1, by cases w1 <;> rfl⟩)
  · cases h
theorem Ans.ok_of {α : Type} {r : R α} {kk : α → Prop} {e : Str → Int → Prop} (h : Ans r kk e) (ne : ∀ c i, r ≠ .err c i) : ∃ x, r = .ok x ∧ kk x := by
  cases r with
  | ok x => exact ⟨x, rfl, h⟩
  | err c i => exact absurd rfl (ne c i)
  | bad => exact h.elim
theorem ne_err_tru (x : D) (c : Str) (i : Int) : truD x ≠ .err c i := by
  unfold truD; split <;> (intro h; cases h)
theorem Res.later {B H H1 F2 H2 : Hp} {v : V} {d : D} (e1 : Same B H) (e2 : Same H H1) (r : Res K k B H1 F2 H2 v d) : Res K k B H F2 H2 v d := by
  match k with
  | 0 => exact r
  | 1 => exact r
  | 2 => exact r
  | 3 => exact Ow.early e2 r
  | _ + 4 => exact r
theorem je_not (h : JE X W a e f 0) : JE X W a (.UnaryOp .Not e pos) (eT (Dv.tNot (tTru f))) 3 := (pe_notT h).imp fun σ H Q ⟨F0, B, F, δ, S, q⟩ => by
  unfold eT at q
  rw [Ans.bind_iff] at q
  unfold Dv.tNot tTru at q
  have q := q.rnot
  rw [Ans.bind_iff] at q
  refine ⟨F0, B, F, δ, S, q.imp fun d q v F1 H1 S1 e1 e2 n1 r1 => ?_⟩
  obtain ⟨b, hb, q⟩ := q.ok_of (ne_err_tru d)
  exact ⟨b, truV S1.FH r1 hb, q _ F1 H1 S1 e1 e2 n1 (Rp.bl _)⟩
theorem je_ors : ∀ {es : List Expr} {fs : List DE}, Each2 (fun e f => JE X W a e f k) es fs → es ≠ [] → JE X W a (.BoolOp .Or es pos) (eOrs fs) k
  | _, _, .nil, h => absurd rfl h
  | _, _, .cons h1 .nil, _ => pe_one h1
  | _, _, .cons h1 (.cons h2 hr), _ => (pe_orT h1 (je_ors (.cons h2 hr) (by simp))).imp fun σ H Q ⟨F0, B, F, δ, S, q⟩ => by
    unfold eOrs eOr at q
    rw [Ans.bind_iff] at q
    refine ⟨F0, B, F, δ, S, q.imp fun d q v F1 H1 S1 e1 e2 n1 r1 => ?_⟩
    rw [Ans.bind_iff] at q
    obtain ⟨b, hb, q⟩ := q.ok_of (ne_err_tru d)
    refine ⟨b, truV S1.FH r1.rh hb, ?_⟩
    cases b with
    | true => exact iteT (q v F1 H1 S1 e1 e2 n1 r1)
    | false =>
      refine iteF ⟨F0, B, F1, δ, S1, ?_⟩
      exact Ans.mono q (fun b _ q v F2 H2 S2 e3 e4 n2 r2 => q v F2 H2 S2 (e1.trans e3) (e2.trans e4) (n1.trans (n2.back e2)) (Res.later S.BH e2 r2)) fun c i z => W.mono _ _ _ _ _ e2 z
theorem je_ands : ∀ {es : List Expr} {fs : List DE}, Each2 (fun e f => JE X W a e f k) es fs → es ≠ [] → JE X W a (.BoolOp .And es pos) (eAnds fs) k
  | _, _, .nil, h => absurd rfl h
  | _, _, .cons h1 .nil, _ => pe_one h1
  | _, _, .cons h1 (.cons h2 hr), _ => (pe_andT h1 (je_ands (.cons h2 hr) (by simp))).imp fun σ H Q ⟨F0, B, F, δ, S, q⟩ => by
    unfold eAnds eAnd at q
    rw [Ans.bind_iff] at q
    refine ⟨F0, B, F, δ, S, q.imp fun d q v F1 H1 S1 e1 e2 n1 r1 => ?_⟩
    rw [Ans.bind_iff] at q
    obtain ⟨b, hb, q⟩ := q.ok_of (ne_err_tru d)
    refine ⟨b, truV S1.FH r1.rh hb, ?_⟩
    cases b with
    | true =>
      refine iteT ⟨F0, B, F1, δ, S1, ?_⟩
      exact Ans.mono q (fun b _ q v F2 H2 S2 e3 e4 n2 r2 => q v F2 H2 S2 (e1.trans e3) (e2.trans e4) (n1.trans (n2.back e2)) (Res.later S.BH e2 r2)) fun c i z => W.mono _ _ _ _ _ e2 z
    | false => exact iteF (q v F1 H1 S1 e1 e2 n1 r1)
theorem je_if {c : Expr} (hc : JT X W a c t) (ha : JE X W a a1 fa k) (hb : JE X W a b1 fb k) : JE X W a (.IfExp c a1 b1 pos) (eIf t fa fb) k := (pe_ifExp hc ha hb).imp fun σ H Q ⟨F0, B, F, δ, S, q⟩ => by
  unfold eIf at q
  rw [Ans.bind_iff] at q
  refine ⟨F0, B, F, δ, S, q.imp fun b q F1 H1 S1 e1 e2 n1 => ?_⟩
  cases b with
  | true =>
    refine iteT ⟨F0, B, F1, δ, S1, ?_⟩
    exact Ans.mono q (fun b _ q v F2 H2 S2 e3 e4 n2 r2 => q v F2 H2 S2 (e1.trans e3) (e2.trans e4) (n1.trans (n2.back e2)) (Res.later S.BH e2 r2)) fun c i z => W.mono _ _ _ _ _ e2 z
  | false =>
    refine iteF ⟨F0, B, F1, δ, S1, ?_⟩
    exact Ans.mono q (fun b _ q v F2 H2 S2 e3 e4 n2 r2 => q v F2 H2 S2 (e1.trans e3) (e2.trans e4) (n1.trans (n2.back e2)) (Res.later S.BH e2 r2)) fun c i z => W.mono _ _ _ _ _ e2 z

/-! ### chains -/
def notSet : Expr → Bool
  | .Set _ _ _ => false
  | _ => true
theorem behind_false {op : CmpOp} {e : Expr} (h : notSet e = true) : behindInMarks op e = false := by
  cases e <;> first | rfl | (simp [notSet] at h)
theorem lastMarks_false : ∀ (ops : List CmpOp) (es : List Expr), (∀ e ∈ es, notSet e = true) → lastMarks ops es = false
  | [], _, _ => by cases ‹List Expr› <;> rfl
  | [_], [], _ => rfl
  | [op], [e], h => behind_false (h e List.mem_cons_self)
  | [_], _ :: _ :: _, _ => by simp [lastMarks]
  | _ :: _ :: _, [], _ => rfl
  | _ :: o :: ops, e :: es, h => by
    have := lastMarks_false (o :: ops) es fun x hx => h x (List.mem_cons_of_mem _ hx)
    cases es with
    | nil => simp [lastMarks]
    | cons e2 es => simpa [lastMarks] using this
/-- what is wanted of the rest of a chain, from the value at hand -/
theorem ne_err_cmp (op : CmpOp) (x y : D) (c : Str) (i : Int) : cmpD op x y ≠ .err c i := by
  have h1 : ∀ x y : D, eqD x y ≠ .err c i := fun x y => by unfold eqD; split <;> (intro h; cases h)
  have h2 : ∀ x y : D, ltD x y ≠ .err c i := fun x y => by unfold ltD; split <;> (try split) <;> (intro h; cases h)
  have h3 : ∀ x y : D, leD x y ≠ .err c i := fun x y => by unfold leD; split <;> (try split) <;> (intro h; cases h)
  have h4 : ∀ x y : D, isD x y ≠ .err c i := fun x y => by unfold isD; split <;> (try split) <;> (intro h; cases h)
  have h5 : ∀ (x : D) (ys : List D), memD x ys ≠ .err c i := fun x ys => by unfold memD; split <;> (intro h; cases h)
  have h6 : ∀ x y : D, inD x y ≠ .err c i := fun x y => by
    unfold inD
    split
    · split <;> (intro h; cases h)
    · exact h5 _ _
    · exact h5 _ _
    · split <;> (intro h; cases h)
    · intro h; cases h
  have hn : ∀ r : R Bool, r ≠ .err c i → rnot r ≠ .err c i := fun r hr => by
    cases r <;> simp_all [rnot]
  cases op with
  | Eq => exact h1 x y
  | NotEq => exact hn _ (h1 x y)
  | Lt => exact h2 x y
  | LtE => exact h3 x y
  | Gt => exact h2 y x
  | GtE => exact h3 y x
  | Is => exact h4 x y
  | IsNot => exact hn _ (h4 x y)
  | In => exact h6 x y
  | NotIn => exact hn _ (h6 x y)
theorem ans_noE {α : Type} {r : R α} {kk : α → Prop} {e : Str → Int → Prop} (h : Ans r kk e) (ne : ∀ c i, r ≠ .err c i) : Ans r kk noE := by
  cases r with
  | ok x => exact h
  | err c i => exact absurd rfl (ne c i)
  | bad => exact h
theorem chain_run {n : Nat} (hr : Room n X.A) {p : Pos} : ∀ {ops : List CmpOp} {es : List Expr} {fs : List DE}, ops.length = es.length → Each2 (fun e f => JE X W a e f 0) es fs → es ≠ [] →
    ∀ (pins : List (Addr × Obj)) (s : Shared) (σ : L2.St) (H F0 B F : Hp) (δ : Env) (x : V) (u : Value) (d : D) (Q : VK), Inv X pins σ H s → SI X.K F0 B F H σ a δ → RelV x u → Rh X.K F H x d →
      Ans (cmpGo δ d (ops.zip fs)) (fun b => ∀ F' H', SI X.K F0 B F' H' σ a δ → Same F F' → Same H H' → New H F F' → Q (.bl b) H') (W.ew σ H) →
      wpAny (model X.prog X.w) X.A (compareChain p u ops (evalEach es X.env)) (EP X pins σ Q) X.xe s
  | _, _, _, _, .nil, hn => absurd rfl hn
  | [], _ :: _, _, hl, _, _ => by cases hl
  | [op], [b], _, _, .cons (y := fb) hb .nil, _ => fun pins s σ H F0 B F δ x u d Q I S rx r q => by
    have q : Ans ((fb δ).bind fun y => cmpD op d y) _ _ := q
    rw [Ans.bind_iff] at q
    refine chain_last (thn (hb.run pins s σ H (fun y H1 => r2B X.K (cmpD op) x y H1 Q) I ⟨F0, B, F, δ, S, q.imp fun e q w F1 H1 S1 e1 e2 n1 r1 => ?_⟩) fun w s1 ⟨y, H1, I1, r1, q1⟩ => c_all hr op pins s1 σ H1 x y u w Q I1 rx r1 q1)
    exact ⟨F1, d, e, S1.FH, Rh.mono e1 e2 r, r1, (ans_noE q (ne_err_cmp op d e)).imp fun bb q => q F1 H1 S1 e1 e2 n1⟩
  | op :: op' :: ops, b :: b' :: es, _, hl, .cons (y := fb) hb (.cons (y := fb') (ys := fs) hb' hr'), _ => fun pins s σ H F0 B F δ x u d Q I S rx r q => by
    have q : Ans ((fb δ).bind fun y => (cmpD op d y).bind fun t => if t then cmpGo δ y ((op' :: ops).zip (fb' :: fs)) else .ok false) _ _ := q
    rw [Ans.bind_iff] at q
    refine chain_link (thn (hb.run pins s σ H (fun y H1 => ∃ F1 e, SI X.K F0 B F1 H1 σ a δ ∧ Same F F1 ∧ Same H H1 ∧ New H F F1 ∧ Rh X.K F1 H1 y e ∧
      Ans ((cmpD op d e).bind fun t => if t then cmpGo δ e ((op' :: ops).zip (fb' :: fs)) else .ok false) (fun b => ∀ F' H', SI X.K F0 B F' H' σ a δ → Same F F' → Same H H' → New H F F' → Q (.bl b) H') (W.ew σ H))
      I ⟨F0, B, F, δ, S, q.imp fun e q w F1 H1 S1 e1 e2 n1 r1 => ⟨F1, e, S1, e1, e2, n1, r1, q⟩⟩) fun w s1 ⟨y, H1, I1, r1, F1, e, S1, e1, e2, n1, rh1, q1⟩ => ?_)
    rw [Ans.bind_iff] at q1
    obtain ⟨bb, hbb, q1⟩ := q1.ok_of (ne_err_cmp op d e)
    refine thn (c_all hr op pins s1 σ H1 x y u w (fun z H2 => z = .bl bb ∧ H2 = H1) I1 rx r1 ⟨F1, d, e, S1.FH, Rh.mono e1 e2 r, rh1, by rw [hbb]; exact ⟨rfl, rfl⟩⟩) fun c s2 ⟨z, H2, I2, r2, ez, eH⟩ => ?_
    subst ez eH
    cases r2
    refine wpAny_truthy_bool ?_
    cases bb with
    | false =>
      rw [if_neg Bool.false_ne_true]
      exact ⟨.bl false, H2, I2, rfl, q1 F1 H2 S1 e1 e2 n1⟩
    | true =>
      rw [if_pos rfl]
      exact chain_run hr (by simpa using hl) (.cons hb' hr') (by simp) _ _ _ _ _ _ _ _ _ _ _ _ I2 S1 r1 rh1 (Ans.mono q1 (fun b _ q F' H' S' e3 e4 n2 => q F' H' S' (e1.trans e3) (e2.trans e4) (n1.trans (n2.back e2))) fun c i z => W.mono _ _ _ _ _ e2 z)
  | [_], _ :: _ :: _, _, hl, _, _ => by simp at hl
  | _ :: _ :: _, [_], _, hl, _, _ => by simp at hl
theorem test_run {n : Nat} (hr : Room n X.A) {p : Pos} : ∀ {ops : List CmpOp} {es : List Expr} {fs : List DE}, ops.length = es.length → Each2 (fun e f => JE X W a e f 0) es fs → es ≠ [] →
    ∀ (pins : List (Addr × Obj)) (s : Shared) (σ : L2.St) (H F0 B F : Hp) (δ : Env) (x : V) (u : Value) (d : D) (Q : Bool → Hp → Prop), Inv X pins σ H s → SI X.K F0 B F H σ a δ → RelV x u → Rh X.K F H x d →
      Ans (cmpGo δ d (ops.zip fs)) (fun b => ∀ F' H', SI X.K F0 B F' H' σ a δ → Same F F' → Same H H' → New H F F' → Q b H') (W.ew σ H) →
      wpAny (model X.prog X.w) X.A (testChain p u ops (evalEach es X.env)) (TP X pins σ Q) X.xe s
  | _, _, _, _, .nil, hn => absurd rfl hn
  | [], _ :: _, _, hl, _, _ => by cases hl
  | [op], [b], _, _, .cons (y := fb) hb .nil, _ => fun pins s σ H F0 B F δ x u d Q I S rx r q => by
    have q : Ans ((fb δ).bind fun y => cmpD op d y) _ _ := q
    rw [Ans.bind_iff] at q
    refine test_last (thn (hb.run pins s σ H (fun y H1 => r2B X.K (cmpD op) x y H1 (fun z H2 => ∃ bb, z = .bl bb ∧ Q bb H2)) I ⟨F0, B, F, δ, S, q.imp fun e q w F1 H1 S1 e1 e2 n1 r1 => ?_⟩) fun w s1 ⟨y, H1, I1, r1, q1⟩ =>
      thn (c_all hr op pins s1 σ H1 x y u w _ I1 rx r1 q1) fun c s2 ⟨z, H2, I2, r2, bb, ez, q2⟩ => ?_)
    · exact ⟨F1, d, e, S1.FH, Rh.mono e1 e2 r, r1, (ans_noE q (ne_err_cmp op d e)).imp fun bb q => ⟨bb, rfl, q F1 H1 S1 e1 e2 n1⟩⟩
    · subst ez
      cases r2
      exact wpAny_truthy_bool ⟨H2, I2, q2⟩
  | op :: op' :: ops, b :: b' :: es, _, hl, .cons (y := fb) hb (.cons (y := fb') (ys := fs) hb' hr'), _ => fun pins s σ H F0 B F δ x u d Q I S rx r q => by
    have q : Ans ((fb δ).bind fun y => (cmpD op d y).bind fun t => if t then cmpGo δ y ((op' :: ops).zip (fb' :: fs)) else .ok false) _ _ := q
    rw [Ans.bind_iff] at q
    refine test_link (thn (hb.run pins s σ H (fun y H1 => ∃ F1 e, SI X.K F0 B F1 H1 σ a δ ∧ Same F F1 ∧ Same H H1 ∧ New H F F1 ∧ Rh X.K F1 H1 y e ∧
      Ans ((cmpD op d e).bind fun t => if t then cmpGo δ e ((op' :: ops).zip (fb' :: fs)) else .ok false) (fun b => ∀ F' H', SI X.K F0 B F' H' σ a δ → Same F F' → Same H H' → New H F F' → Q b H') (W.ew σ H))
      I ⟨F0, B, F, δ, S, q.imp fun e q w F1 H1 S1 e1 e2 n1 r1 => ⟨F1, e, S1, e1, e2, n1, r1, q⟩⟩) fun w s1 ⟨y, H1, I1, r1, F1, e, S1, e1, e2, n1, rh1, q1⟩ => ?_)
    rw [Ans.bind_iff] at q1
    obtain ⟨bb, hbb, q1⟩ := q1.ok_of (ne_err_cmp op d e)
    refine thn (c_all hr op pins s1 σ H1 x y u w (fun z H2 => z = .bl bb ∧ H2 = H1) I1 rx r1 ⟨F1, d, e, S1.FH, Rh.mono e1 e2 r, rh1, by rw [hbb]; exact ⟨rfl, rfl⟩⟩) fun c s2 ⟨z, H2, I2, r2, ez, eH⟩ => ?_
    subst ez eH
    cases r2
    refine wpAny_truthy_bool ?_
    cases bb with
    | false =>
      rw [if_neg Bool.false_ne_true]
      exact ⟨H2, I2, q1 F1 H2 S1 e1 e2 n1⟩
    | true =>
      rw [if_pos rfl]
      exact test_run hr (by simpa using hl) (.cons hb' hr') (by simp) _ _ _ _ _ _ _ _ _ _ _ _ I2 S1 r1 rh1 (Ans.mono q1 (fun b _ q F' H' S' e3 e4 n2 => q F' H' S' (e1.trans e3) (e2.trans e4) (n1.trans (n2.back e2))) fun c i z => W.mono _ _ _ _ _ e2 z)
  | [_], _ :: _ :: _, _, hl, _, _ => by simp at hl
  | _ :: _ :: _, [_], _, hl, _, _ => by simp at hl
theorem je_cmp {n : Nat} (hr : Room n X.A) {ops : List CmpOp} {es : List Expr} {fs : List DE} (hl : ops.length = es.length) (hs : ∀ e ∈ es, notSet e = true) (hn : es ≠ []) (ha : JE X W a a1 fa 0) (h : Each2 (fun e f => JE X W a e f 0) es fs) :
    JE X W a (.Compare a1 ops es pos) (eT (tCmp fa (ops.zip fs))) 3 := by
  refine ⟨fun pins s σ H Q I ⟨F0, B, F, δ, S, q⟩ => ?_⟩
  unfold eT tCmp at q
  rw [Ans.bind_iff, Ans.bind_iff] at q
  show wpAny _ _ (do compareChain pos (← eval a1 X.env) ops (markedEach ops es (evalEach es X.env))) _ _ s
  rw [markedEach_of_false _ _ _ (lastMarks_false ops es hs)]
  refine wpAny_bind (thn (ha.run pins s σ H (fun x H1 => ∃ F1 d, SI X.K F0 B F1 H1 σ a δ ∧ Same F F1 ∧ Same H H1 ∧ New H F F1 ∧ Rh X.K F1 H1 x d ∧
    Ans (cmpGo δ d (ops.zip fs)) (fun b => ∀ v F' H', SI X.K F0 B F' H' σ a δ → Same F F' → Same H H' → New H F F' → Res X.K 3 B H F' H' v (.bool b) → Q v H') (W.ew σ H)) I
    ⟨F0, B, F, δ, S, q.imp fun d q v F1 H1 S1 e1 e2 n1 r1 => ⟨F1, d, S1, e1, e2, n1, r1, q⟩⟩) fun u s1 ⟨x, H1, I1, r1, F1, d, S1, e1, e2, n1, rh, q1⟩ => ?_)
  exact chain_run hr hl h hn _ _ _ _ _ _ _ _ _ _ _ _ I1 S1 r1 rh (Ans.mono q1 (fun b _ q F' H' S' e3 e4 n2 => q _ F' H' S' (e1.trans e3) (e2.trans e4) (n1.trans (n2.back e2)) (Rp.bl b)) fun c i z => W.mono _ _ _ _ _ e2 z)
theorem jt_cmp {n : Nat} (hr : Room n X.A) {ops : List CmpOp} {es : List Expr} {fs : List DE} (hl : ops.length = es.length) (hs : ∀ e ∈ es, notSet e = true) (hn : es ≠ []) (ha : JE X W a a1 fa 0) (h : Each2 (fun e f => JE X W a e f 0) es fs) :
    JT X W a (.Compare a1 ops es pos) (tCmp fa (ops.zip fs)) := by
  refine ⟨fun pins s σ H Q I ⟨F0, B, F, δ, S, q⟩ => ?_⟩
  unfold tCmp at q
  rw [Ans.bind_iff] at q
  show wpAny _ _ (do testChain pos (← eval a1 X.env) ops (markedEach ops es (evalEach es X.env))) _ _ s
  rw [markedEach_of_false _ _ _ (lastMarks_false ops es hs)]
  refine wpAny_bind (thn (ha.run pins s σ H (fun x H1 => ∃ F1 d, SI X.K F0 B F1 H1 σ a δ ∧ Same F F1 ∧ Same H H1 ∧ New H F F1 ∧ Rh X.K F1 H1 x d ∧
    Ans (cmpGo δ d (ops.zip fs)) (fun b => ∀ F' H', SI X.K F0 B F' H' σ a δ → Same F F' → Same H H' → New H F F' → Q b H') (W.ew σ H)) I
    ⟨F0, B, F, δ, S, q.imp fun d q v F1 H1 S1 e1 e2 n1 r1 => ⟨F1, d, S1, e1, e2, n1, r1, q⟩⟩) fun u s1 ⟨x, H1, I1, r1, F1, d, S1, e1, e2, n1, rh, q1⟩ => ?_)
  exact test_run hr hl h hn _ _ _ _ _ _ _ _ _ _ _ _ I1 S1 r1 rh (Ans.mono q1 (fun b _ q F' H' S' e3 e4 n2 => q F' H' S' (e1.trans e3) (e2.trans e4) (n1.trans (n2.back e2))) fun c i z => W.mono _ _ _ _ _ e2 z)
end Dv
/-! Dv8: built-in functions by their values. -/
namespace Dv
open PySem PySem.Spec PyProof.Rows L2
variable {X : Cx} {K : PySem.W.Frag} {F F' F0 B H H' : Hp} {v : V} {d : D} {k : Nat} {σ : L2.St} {pins : List (Addr × Obj)} {s : Shared} {Q : VK} {e : Str → Int → Prop}

theorem Rhs.one {xs : List V} (h : Rhs K F H xs [d]) : ∃ v, xs = [v] ∧ Rh K F H v d := by
  cases h with
  | cons a t => cases t; exact ⟨_, rfl, a⟩
theorem Rhs.two {xs : List V} {d2 : D} (h : Rhs K F H xs [d, d2]) : ∃ v w, xs = [v, w] ∧ Rh K F H v d ∧ Rh K F H w d2 := by
  cases h with
  | cons a t =>
    obtain ⟨w, rfl, b⟩ := t.one
    exact ⟨_, w, rfl, a, b⟩
theorem Ans.on1 {f : D → R D} {ds : List D} {kk : D → Prop} (h : Ans (on1 f ds) kk e) : ∃ d, ds = [d] ∧ Ans (f d) kk e := by
  match ds, h with
  | [d], h => exact ⟨d, rfl, h⟩
  | [], h => exact False.elim h
  | _ :: _ :: _, h => exact False.elim h
theorem Ans.on2 {f : D → D → R D} {ds : List D} {kk : D → Prop} (h : Ans (on2 f ds) kk e) : ∃ d d2, ds = [d, d2] ∧ Ans (f d d2) kk e := by
  match ds, h with
  | [d, d2], h => exact ⟨d, d2, rfl, h⟩
  | [], h => exact False.elim h
  | [_], h => exact False.elim h
  | _ :: _ :: _ :: _, h => exact False.elim h
/-- a function of one value by what it does at the value -/
theorem b_one {f : Value} {g : D → R D} {r : List V → Hp → VK → Prop} (hc : CallR X f r)
    (h : ∀ (F H : Hp) (v : V) (d : D) (Q : VK), Same F H → Rh X.K F H v d → Ans (g d) (OkV X.K F H Q) noE → r [v] H Q) : CallR X f (rN X.K (on1 g)) := by
  intro pins s σ H xs us Q I rs q
  obtain ⟨F, ds, FH, rh, q⟩ := q
  obtain ⟨d, rfl, q⟩ := q.on1
  obtain ⟨v, rfl, rv⟩ := rh.one
  exact hc pins s σ H [v] us Q I rs (h F H v d Q FH rv q)
theorem b_len : CallR X (.builtin "len") (rN X.K (on1 lenD)) := by
  have cl : CallR X (.builtin "len") (fun xs H Q => (∃ x n, xs = [x] ∧ LenV X.K x H n ∧ Q (.int n) H) ∨ ∃ a kvs, xs = [V.ref a] ∧ H a = some (.dK kvs) ∧ Q (.int kvs.length) H) := by
    intro pins s σ H xs us Q I rs q
    rcases q with q | q
    · exact call_len pins s σ H xs us Q I rs q
    · exact call_lenD pins s σ H xs us Q I rs q
  refine b_one cl fun F H v d Q FH rv q => ?_
  cases d with
  | dict kvs =>
    obtain ⟨p, ks, rfl, hp, rk⟩ := rv.dict_is FH
    refine .inr ⟨p, ks, rfl, hp, ?_⟩
    rw [rk.length]
    exact okInt FH q
  | list ds =>
    obtain ⟨p, xs, rfl, sq, rs⟩ := rv.list_inv FH
    refine .inl ⟨_, xs.length, rfl, .inl ⟨xs, sq.to, rfl⟩, ?_⟩
    rw [rs.length]
    exact okInt FH q
  | tuple ds =>
    obtain ⟨p, xs, rfl, sq, rs⟩ := rv.tup_inv FH
    refine .inl ⟨_, xs.length, rfl, .inr ⟨xs, sq, rfl⟩, ?_⟩
    rw [rs.length]
    exact okInt FH q
  | str x =>
    obtain ⟨rfl, z⟩ := rv.str_inv
    exact .inl ⟨_, x.length, rfl, ⟨line_str z, rfl⟩, okInt FH q⟩
  | _ => exact False.elim q
theorem b_abs : CallR X (.builtin "abs") (rN X.K (on1 absD)) := b_one call_abs fun F H v d Q FH rv q => by
  cases d with
  | int i => cases rv.int_inv; exact ⟨i, rfl, okInt FH q⟩
  | _ => exact False.elim q
theorem CallR.or2 {f : Value} {r r' : List V → Hp → VK → Prop} (h : CallR X f r) (h' : CallR X f r') : CallR X f (fun xs H Q => r xs H Q ∨ r' xs H Q) := by
  intro pins s σ H xs us Q I rs q
  rcases q with q | q
  · exact h pins s σ H xs us Q I rs q
  · exact h' pins s σ H xs us Q I rs q
theorem b_int : CallR X (.type "int") (rN X.K (on1 intD)) := b_one (CallR.or2 call_int1 call_int_str) fun F H v d Q FH rv q => by
  cases d with
  | int i => cases rv.int_inv; exact .inl (.inl ⟨i, rfl, okInt FH q⟩)
  | bool b => cases rv.bl_inv; exact .inl (.inr ⟨b, rfl, okInt FH q⟩)
  | str a =>
    obtain ⟨rfl, _⟩ := rv.str_inv
    have q : Ans (if decide (a.length ≤ 640) then (match PySem.intText? a with
      | some n => Dv.R.ok (PyData.int n)
      | none => .bad) else .bad) (OkV X.K F H Q) noE := q
    by_cases h : a.length ≤ 640
    · rw [decide_eq_true h, if_pos rfl] at q
      cases e : PySem.intText? a with
      | some n => rw [e] at q; exact .inr ⟨a, n, rfl, e, h, okInt FH q⟩
      | none => rw [e] at q; exact False.elim q
    · rw [decide_eq_false h] at q; exact False.elim q
  | _ => exact False.elim q
theorem digits_ok (i : Int) (h : i.natAbs.log2 < 1900) : sOk (toString i : Str) := by
  refine ⟨Nat.le_trans ?_ (show 5000 ≤ 12000000 by decide), ?_⟩
  · have e := int_text_length_le (k := 1900) (by decide) h
    rw [PySem.ofString_length]
    omega
  · show (Str.ofString (toString i)).cps.all _ = true
    rw [Str.ofString_eq_toList, ← Array.all_toList]
    refine List.all_eq_true.mpr fun c hc => ?_
    obtain ⟨ch, _, rfl⟩ := List.mem_map.mp (by simpa using hc)
    exact decide_eq_true (by have h1 := ch.valid; have e : ch.toNat = ch.val.toNat := rfl; unfold UInt32.isValidChar Nat.isValidChar at h1; omega)
theorem b_str : CallR X (.type "str") (rN X.K (on1 strD)) := b_one call_str_int fun F H v d Q FH rv q => by
  cases d with
  | int i =>
    cases rv.int_inv
    obtain ⟨h, q⟩ := Ans.if_bad (c := i.natAbs.log2 < 1900) q
    exact ⟨i, rfl, by omega, okStr FH (digits_ok i h) q⟩
  | _ => exact False.elim q
theorem Rkv.keysR : ∀ {ks : List (Key × V)} {kvs : List (D × D)}, Rkv K F ks kvs → Rps K F (ks.map fun p => kV p.1) (kvs.map (·.1))
  | _, _, .nil => .nil
  | _, _, .cons a _ t => .cons a (Rkv.keysR t)
theorem okDct {F : Hp} {p : Addr} {ks : List (Key × V)} {kvs : List (D × D)} (FH : Same F H) (np : H p = none) (r : Rkv K F ks kvs) (q : OkV K F H Q (.dict kvs)) : Q (.ref p) (upd H p (.dK ks)) :=
  q _ F _ (Same.refl F) (same_new np) (FH.trans (same_new np)) (New.refl _ _) (.mkD ⟨p, ks, rfl, FH.free np, np, upd_same, r⟩)
theorem b_list (hc : X.calm = true) : CallR X (.type "list") (rN X.K (on1 listD)) := b_one (CallR.or2 call_list_of (call_listD hc)) fun F H v d Q FH rv q => by
  cases d with
  | dict kvs =>
    obtain ⟨p, ks, rfl, hp, rk⟩ := rv.dict_is FH
    exact .inr ⟨p, ks, rfl, .inl hp, fun l hl => okLst FH hl rk.keysR q⟩
  | list ds =>
    obtain ⟨p, xs, rfl, sq, rs⟩ := rv.list_inv FH
    exact .inl ⟨p, xs, rfl, .inl sq.to, fun l hl => okLst FH hl rs q⟩
  | tuple ds =>
    obtain ⟨p, xs, rfl, sq, rs⟩ := rv.tup_inv FH
    exact .inl ⟨p, xs, rfl, .inr sq, fun l hl => okLst FH hl rs q⟩
  | _ => exact False.elim q
theorem b_tuple : CallR X (.type "tuple") (rN X.K (on1 tupleD)) := b_one call_tuple_of fun F H v d Q FH rv q => by
  cases d with
  | list ds =>
    obtain ⟨p, xs, rfl, sq, rs⟩ := rv.list_inv FH
    exact ⟨p, xs, rfl, .inl ⟨sq.to, fun l hl => okTup FH hl rs q⟩⟩
  | tuple ds =>
    obtain ⟨p, xs, rfl, sq, rs⟩ := rv.tup_inv FH
    exact ⟨p, xs, rfl, .inr ⟨sq, okTupOld FH sq ds rv rfl q⟩⟩
  | _ => exact False.elim q
theorem Rps.intsOf {F : Hp} : ∀ {vs : List V} {ds : List D} {ns : List Int}, Rps K F vs ds → Dv.intsOf ds = some ns → vs = ns.map V.int
  | _, _, ns, .nil, h => by cases h; rfl
  | _, _, ns, .cons (d := d) a t, h => by
    cases d with
    | int i =>
      cases a.int_inv
      unfold Dv.intsOf at h
      obtain ⟨ms, h1, rfl⟩ := Option.map_eq_some_iff.mp h
      rw [List.map_cons, ← Rps.intsOf t h1]
    | _ => cases h
theorem Rps.boolsOf {F : Hp} : ∀ {vs : List V} {ds : List D} {ns : List Bool}, Rps K F vs ds → Dv.boolsOf ds = some ns → vs = ns.map V.bl
  | _, _, ns, .nil, h => by cases h; rfl
  | _, _, ns, .cons (d := d) a t, h => by
    cases d with
    | bool i =>
      cases a.bl_inv
      unfold Dv.boolsOf at h
      obtain ⟨ms, h1, rfl⟩ := Option.map_eq_some_iff.mp h
      rw [List.map_cons, ← Rps.boolsOf t h1]
    | _ => cases h
theorem Rps.strsOf {F : Hp} : ∀ {vs : List V} {ds : List D} {ns : List Str}, Rps K F vs ds → Dv.strsOf ds = some ns → vs = ns.map V.str ∧ ∀ x ∈ ns, sOk x
  | _, _, ns, .nil, h => by cases h; exact ⟨rfl, by simp⟩
  | _, _, ns, .cons (d := d) a t, h => by
    cases d with
    | str i =>
      obtain ⟨rfl, z⟩ := a.str_inv
      unfold Dv.strsOf at h
      obtain ⟨ms, h1, rfl⟩ := Option.map_eq_some_iff.mp h
      obtain ⟨h2, h3⟩ := Rps.strsOf t h1
      rw [List.map_cons, ← h2]
      refine ⟨rfl, fun x hx => ?_⟩
      rcases List.mem_cons.mp hx with rfl | hx
      · exact z
      · exact h3 x hx
    | _ => cases h
theorem Ans.bindO {α β : Type} {o : Option α} {f : α → R β} {kk : β → Prop} (h : Ans (Dv.bindO o f) kk e) : ∃ a, o = some a ∧ Ans (f a) kk e := by
  cases o with
  | none => exact False.elim h
  | some a => exact ⟨a, rfl, h⟩
theorem b_sum (hc : X.calm = true) : CallR X (.builtin "sum") (rN X.K (on1 sumD)) := b_one (cr_sum hc) fun F H v d Q FH rv q => by
  cases d with
  | list ds =>
    obtain ⟨p, xs, rfl, sq, rs⟩ := rv.list_inv FH
    have q : Ans (match intsOf ds with | some ns => R.ok (.int ns.sum) | none => .bad) (OkV X.K F H Q) noE := q
    cases h : intsOf ds with
    | none => rw [h] at q; exact False.elim q
    | some ns =>
      rw [h] at q
      exact ⟨p, ns, rfl, by rw [← rs.intsOf h]; exact sq.to, okInt FH q⟩
  | _ => exact False.elim q
theorem b_all (hc : X.calm = true) : CallR X (.builtin "all") (rN X.K (on1 allD)) := b_one (cr_all hc) fun F H v d Q FH rv q => by
  cases d with
  | list ds =>
    obtain ⟨p, xs, rfl, sq, rs⟩ := rv.list_inv FH
    have q : Ans (match boolsOf ds with | some ns => R.ok (.bool (ns.all id)) | none => .bad) (OkV X.K F H Q) noE := q
    cases h : boolsOf ds with
    | none => rw [h] at q; exact False.elim q
    | some ns =>
      rw [h] at q
      exact ⟨p, ns, rfl, by rw [← rs.boolsOf h]; exact sq.to, okBl FH q⟩
  | _ => exact False.elim q
theorem b_any (hc : X.calm = true) : CallR X (.builtin "any") (rN X.K (on1 anyD)) := b_one (cr_any hc) fun F H v d Q FH rv q => by
  cases d with
  | list ds =>
    obtain ⟨p, xs, rfl, sq, rs⟩ := rv.list_inv FH
    have q : Ans (match boolsOf ds with | some ns => R.ok (.bool (ns.any id)) | none => .bad) (OkV X.K F H Q) noE := q
    cases h : boolsOf ds with
    | none => rw [h] at q; exact False.elim q
    | some ns =>
      rw [h] at q
      exact ⟨p, ns, rfl, by rw [← rs.boolsOf h]; exact sq.to, okBl FH q⟩
  | _ => exact False.elim q
theorem maxFold : ∀ (xs : List Int) (m : Int), m ≤ xs.foldl (fun m y => if m < y then y else m) m ∧ (∀ y ∈ xs, y ≤ xs.foldl (fun m y => if m < y then y else m) m) ∧ (xs.foldl (fun m y => if m < y then y else m) m = m ∨ xs.foldl (fun m y => if m < y then y else m) m ∈ xs)
  | [], m => ⟨Int.le_refl _, by simp, .inl rfl⟩
  | x :: xs, m => by
    obtain ⟨h1, h2, h3⟩ := maxFold xs (if m < x then x else m)
    rw [List.foldl_cons]
    have hm : m ≤ (if m < x then x else m) ∧ x ≤ (if m < x then x else m) ∧ ((if m < x then x else m) = m ∨ (if m < x then x else m) = x) := by split <;> omega
    refine ⟨by omega, fun y hy => ?_, ?_⟩
    · rcases List.mem_cons.mp hy with rfl | hy
      · omega
      · exact h2 y hy
    · rcases h3 with h3 | h3
      · rw [h3]
        rcases hm.2.2 with e | e
        · exact .inl e
        · rw [e]; exact .inr (List.mem_cons_self ..)
      · exact .inr (List.mem_cons_of_mem _ h3)
theorem minFold : ∀ (xs : List Int) (m : Int), xs.foldl (fun m y => if y < m then y else m) m ≤ m ∧ (∀ y ∈ xs, xs.foldl (fun m y => if y < m then y else m) m ≤ y) ∧ (xs.foldl (fun m y => if y < m then y else m) m = m ∨ xs.foldl (fun m y => if y < m then y else m) m ∈ xs)
  | [], m => ⟨Int.le_refl _, by simp, .inl rfl⟩
  | x :: xs, m => by
    obtain ⟨h1, h2, h3⟩ := minFold xs (if x < m then x else m)
    rw [List.foldl_cons]
    have hm : (if x < m then x else m) ≤ m ∧ (if x < m then x else m) ≤ x ∧ ((if x < m then x else m) = m ∨ (if x < m then x else m) = x) := by split <;> omega
    refine ⟨by omega, fun y hy => ?_, ?_⟩
    · rcases List.mem_cons.mp hy with rfl | hy
      · omega
      · exact h2 y hy
    · rcases h3 with h3 | h3
      · rw [h3]
        rcases hm.2.2 with e | e
        · exact .inl e
        · rw [e]; exact .inr (List.mem_cons_self ..)
      · exact .inr (List.mem_cons_of_mem _ h3)
theorem maxI_is {ns : List Int} {m m' : Int} (h : maxI ns = some m) (h1 : m' ∈ ns) (h2 : ∀ y, y ∈ ns → y ≤ m') : m' = m := by
  cases ns with
  | nil => cases h
  | cons x xs =>
    obtain ⟨a, b, c⟩ := maxFold xs x
    have e : xs.foldl (fun m y => if m < y then y else m) x = m := Option.some.inj h
    rw [e] at a b c
    have h3 : m ∈ x :: xs := by
      rcases c with c | c
      · rw [c]; exact List.mem_cons_self ..
      · exact List.mem_cons_of_mem _ c
    have h4 := h2 m h3
    rcases List.mem_cons.mp h1 with rfl | h1
    · omega
    · have := b m' h1
      omega
theorem minI_is {ns : List Int} {m m' : Int} (h : minI ns = some m) (h1 : m' ∈ ns) (h2 : ∀ y, y ∈ ns → m' ≤ y) : m' = m := by
  cases ns with
  | nil => cases h
  | cons x xs =>
    obtain ⟨a, b, c⟩ := minFold xs x
    have e : xs.foldl (fun m y => if y < m then y else m) x = m := Option.some.inj h
    rw [e] at a b c
    have h3 : m ∈ x :: xs := by
      rcases c with c | c
      · rw [c]; exact List.mem_cons_self ..
      · exact List.mem_cons_of_mem _ c
    have h4 := h2 m h3
    rcases List.mem_cons.mp h1 with rfl | h1
    · omega
    · have := b m' h1
      omega
theorem oInt_some {o : Option Int} {kk : D → Prop} (h : Ans (oInt o) kk e) : ∃ m, o = some m ∧ kk (.int m) := by
  cases o with
  | none => exact False.elim h
  | some m => exact ⟨m, rfl, h⟩
/-! ### repr -/
theorem noDict_hsm' {d : PyData} {as : List Addr} (h : d.hasDict = false) : d.hasDict = true → sysModules ∉ as := fun h' => by rw [h] at h'; cases h'
theorem b_repr {n : Nat} (hr : Room n X.A) (hg : X.A.guards = some []) : CallR X (.builtin "repr") (rN X.K (on1 reprD)) := by
  intro pins s σ H xs us Q I rs q
  obtain ⟨F, ds, FH, rh, q⟩ := q
  obtain ⟨d, rfl, q⟩ := q.on1
  obtain ⟨v, rfl, rv⟩ := rh.one
  obtain ⟨u, rfl, ru⟩ := rs.one
  obtain ⟨h, q⟩ := Ans.if_bad (c := reprOk d = true) q
  unfold reprOk at h
  rw [Bool.and_eq_true, Bool.and_eq_true, Bool.and_eq_true] at h
  obtain ⟨⟨⟨h1, h2⟩, h3⟩, h4⟩ := h
  have h3 := of_decide_eq_true h3
  have hz : (PyData.shown d).length ≤ sizeLine := Nat.le_trans h3 (by decide)
  have fin : ∀ (h' : Heap) (u : Tok) (tk : Nat), (∀ b o, s.heap.get? b = some o → h'.get? b = some o) → EP X pins σ Q (.str d.shown u) { s with heap := h', toks := tk } := fun h' u tk hk =>
    ⟨.str d.shown, H, I.kept hk, ⟨_, rfl⟩, okStr FH ⟨Nat.le_trans h3 (by decide), h4⟩ q⟩
  obtain ⟨as, rd⟩ := dpr h1 I FH rv ru
  have hdep := fl_depth _ _ h1
  have e12 : deep = 12 := rfl
  have hu := units64 hr
  cases d with
  | none => cases rv.non_inv; cases ru; exact PySem.P.repr_of_none (fin _ _ _ fun _ _ e => e)
  | bool b =>
    cases rv.bl_inv; cases ru
    refine PySem.P.repr_of_bool ?_
    have := fin s.heap s.toks (s.toks + 1) fun _ _ e => e
    simpa only [PyData.shown] using this
  | int i =>
    cases rv.int_inv
    obtain ⟨t, rfl⟩ := ru
    exact PySem.P.repr_of_int (of_decide_eq_true (by simpa only [PyData.showable] using h2)) (by
      have := fin s.heap s.toks (s.toks + 1) fun _ _ e => e
      simpa only [PyData.shown] using this)
  | str x =>
    obtain ⟨rfl, z⟩ := rv.str_inv
    obtain ⟨t, rfl⟩ := ru
    exact PySem.P.repr_of_str (by
      have := fin s.heap s.toks (s.toks + 1) fun _ _ e => e
      simpa only [PyData.shown] using this) (by simpa only [PyData.shown] using hz)
  | list ds =>
    obtain ⟨p, ys, rfl, sq, rq⟩ := rv.list_inv FH
    cases ru
    exact PySem.repr_of_reads' rd h2 (noDict_hsm' (PySem.PyData.hasDict_of_canLay _ (rv.lay h1))) hg (by omega) (fun _ _ e => e) fin hz
  | tuple ds =>
    obtain ⟨p, ys, rfl, sq, rq⟩ := rv.tup_inv FH
    cases ru
    exact PySem.repr_of_reads' rd h2 (noDict_hsm' (PySem.PyData.hasDict_of_canLay _ (rv.lay h1))) hg (by omega) (fun _ _ e => e) fin hz
  | dict kvs => exact (fl_dict h1).elim
/-! ### sorted -/
def stands (K : PySem.W.Frag) (F : Hp) (u : Value) (d : D) : Prop := ∃ v, RelV v u ∧ Rp K F v d
theorem each_of {F : Hp} : ∀ {vs : List V} {us : List Value} {ds : List D}, Vals vs us → Rps K F vs ds → PySem.W.EachIs (stands K F) us ds
  | _, _, _, .nil, .nil => .nil
  | _, _, _, .cons a b, .cons c d => .cons ⟨_, a, c⟩ (each_of b d)
theorem each_to {F : Hp} : ∀ {us : List Value} {ds : List D}, PySem.W.EachIs (stands K F) us ds → ∃ vs, Vals vs us ∧ Rps K F vs ds
  | _, _, .nil => ⟨[], .nil, .nil⟩
  | _, _, .cons ⟨v, a, c⟩ t => by
    obtain ⟨vs, b, d⟩ := each_to t
    exact ⟨v :: vs, .cons a b, .cons c d⟩
theorem each_reads {F : Hp} (I : Inv X pins σ H s) (FH : Same F H) : ∀ {us : List Value} {ds : List D}, ds.all (fl deep) = true → PySem.W.EachIs (stands X.K F) us ds → PySem.W.EachIs (fun v b => ∃ as, Reads s.heap v (id b) as) us ds
  | _, _, _, .nil => .nil
  | _, _, g, .cons ⟨v, a, c⟩ t => by
    rw [List.all_cons, Bool.and_eq_true] at g
    exact .cons (dpr g.1 I FH (.inl c) a) (each_reads I FH g.2 t)
theorem sort_hyps {ds : List D} (h : sortOk ds = true) : ds.length ≤ lim ∧ ds.all (fl deep) = true ∧ PySem.W.AllAlike (ds.map id) ∧ PySem.W.Sortable (ds.map id) := by
  unfold sortOk at h
  rw [Bool.and_eq_true, Bool.and_eq_true, Bool.and_eq_true] at h
  obtain ⟨⟨⟨h0, h1⟩, h2⟩, h3⟩ := h
  refine ⟨of_decide_eq_true h0, h1, ?_, ?_⟩
  · intro a ha b hb
    rw [List.map_id] at ha hb
    exact List.all_eq_true.mp (List.all_eq_true.mp h3 a ha) b hb
  · rw [List.map_id]
    rw [Bool.or_eq_true] at h2
    rcases h2 with h2 | h2
    · refine .inl fun a ha => ?_
      have := List.all_eq_true.mp h2 a ha
      cases a with
      | tuple zs =>
        cases zs with
        | nil => cases this
        | cons x r => exact ⟨x, r, rfl⟩
      | _ => cases this
    · refine .inr fun a ha => ?_
      have := List.all_eq_true.mp h2 a ha
      cases a with
      | none => cases this
      | tuple zs => cases this
      | _ => exact ⟨by simp, by simp⟩
theorem keys_read {h : Heap} {A : Addr} : ∀ {ks : List (Key × V)} {kvs : List (D × D)} {us : List Value}, Rkv K F ks kvs → Vals (ks.map fun p => kV p.1) us → PySem.W.EachIs (fun v b => ∃ as, Reads h v (id b) as ∧ A ∉ as) us (kvs.map (·.1))
  | _, _, _, .nil, .nil => .nil
  | _, _, _, .cons (k := k) _ _ t, .cons a b => by
    refine .cons ?_ (keys_read t b)
    cases k with
    | inl i => obtain ⟨t, rfl⟩ := a; exact ⟨[], .int i t, by simp⟩
    | inr x => obtain ⟨t, rfl⟩ := a; exact ⟨[], .str x t, by simp⟩
/-- sorted(d) -/
theorem sorted_dict {n : Nat} (hr : Room n X.A) (hc : X.calm = true) : CallR X (.builtin "sorted") (fun xs H Q => ∃ (p : Addr) (F : Hp) (ks : List (Key × V)) (kvs : List (D × D)), xs = [.ref p] ∧ Same F H ∧ H p = some (.dK ks) ∧ Rkv X.K F ks kvs ∧ sortOk (kvs.map (·.1)) = true ∧ OkV X.K F H Q (.list (sortL (kvs.map (·.1))))) := by
  intro pins s σ H xs us Q I rs ⟨a, F, ks, kvs, ex, FH, hd, rk, hs, q⟩
  subst ex
  obtain ⟨u, rfl, ru⟩ := rs.one
  obtain rfl : u = Value.ref a := ru
  obtain ⟨h0, h1, hal, hso⟩ := sort_hyps hs
  obtain ⟨z, lo, vs, rel, dd⟩ := dk_of I.hok hd
  obtain ⟨ep, hat⟩ := dd.dictAt
  have hl : vs.length = kvs.length := by rw [← rel.length, rk.length]
  have hk0 : kvs.length ≤ lim := by rw [← List.length_map (f := (·.1))]; exact h0
  have h16 : vs.length ≤ sizeLine := by rw [hl]; exact line_of hk0
  refine Calls.call_function_entry PyProof.Rows.kind_sorted PyProof.Rows.plain_sorted PyProof.Rows.entry_sorted (PyProof.Rows.args_sorted1 _) ?_
  unfold Builtin.«sorted»
  refine wpAny_bind (m := checkCount "sorted" 1 1 _) (wpAny_pure ?_)
  refine wpAny_bind (PySem.W.kdu_collect (A := X.A.in1) (PySem.W.kdl_dict (knd := mixKind X.prog X.w) (kvs := vs) (ep := ep) lo) (I.ok.hd hc) hat h16 fun h' tk acc hk hacc => ?_)
  have hlen : acc.toList.length = kvs.length := by rw [Array.length_toList, hacc.1, hl]
  have hv0 : Vals (vs.map fun p => kV p.1) acc.toList := keys_at (by rw [Array.length_toList, hacc.1]) fun j v e => hacc.2 j v (by rw [← Array.getElem?_toList]; exact e)
  have hv : Vals (ks.map fun p => kV p.1) acc.toList := by
    have e : (ks.map fun p => kV p.1) = vs.map fun p => kV p.1 := by
      have := congrArg (List.map kV) rel.keys
      rw [List.map_map, List.map_map] at this
      exact this
    rw [e]; exact hv0
  have I1 : Inv X pins σ H { s with heap := h', toks := tk } := I.kept hk
  refine wpAny_bind (wpAny_newList ?_ (by rw [hlen]; exact line_of hk0))
  have hoL : (h'.push (seqObj "list" acc.toList.toArray 0)).get? h'.objs.size = some (seqObj "list" acc.toList.toArray 0) := Heap.get?_push_size _ rfl
  show wpAny _ _ _ _ _ { s with heap := h'.push (seqObj "list" acc.toList.toArray 0), toks := tk }
  have hu := units64 hr
  refine wpAny_bind (wpAny_holding (PySem.W.list_sort_data (enc := id) (R := stands X.K F) (s := { s with heap := h'.push (seqObj "list" acc.toList.toArray 0), toks := tk }) hoL (each_of hv rk.keysR) (keys_read rk hv) hal hso (by rw [List.length_map]; exact line_of hk0) ?_ fun out ho eo => ?_))
  · intro b hb
    have := fl_depth _ _ (List.all_eq_true.mp h1 b hb)
    have e12 : deep = 12 := rfl
    show _ + 1 + b.depth < _
    have : X.A.in1.units = X.A.units + 1 := rfl
    omega
  · obtain ⟨ys, rv2, rq2⟩ := each_to eo
    obtain ⟨e', he'⟩ := PyProof.Rows.sortedHeap_at (vs := acc.toList) (out := out.toArray) hoL
    have hn : ys.length ≤ sizeLine := by
      rw [rv2.length, ho, List.length_map]; exact line_of hk0
    refine wpAny_pure ⟨_, rfl, .ref h'.objs.size, upd H h'.objs.size (.lst ys), I1.laid (t' := tk) (fun b u e => ?_) (Nat.le_refl _)
      (show ObjOk X.prog X.w _ _ _ (.lst ys) from ⟨hn, out, e', rv2, he'⟩), rfl, okLst FH (I1.hok.fresh (Nat.le_refl _)) rq2 q⟩
    have hb : b < h'.objs.size := Heap.lt_size e
    rw [PyProof.Rows.sortedHeap_old (Nat.ne_of_lt hb) (by rw [size_push']; exact Nat.lt_succ_of_lt hb)]
    exact Heap.get?_push_of_some _ e
theorem b_sorted {n : Nat} (hr : Room n X.A) (hc : X.calm = true) : CallR X (.builtin "sorted") (rN X.K (on1 sortedD)) := by
  intro pins s σ H xs us Q I rs q
  obtain ⟨F, ds, FH, rh, q⟩ := q
  obtain ⟨d, rfl, q⟩ := q.on1
  obtain ⟨v, rfl, rv⟩ := rh.one
  obtain ⟨u, rfl, ru⟩ := rs.one
  cases d with
  | dict kvs =>
    obtain ⟨p, ks, rfl, hp, rk⟩ := rv.dict_is FH
    have q : Ans (if sortOk (kvs.map (·.1)) then Dv.R.ok (PyData.list (sortL (kvs.map (·.1)))) else .bad) (OkV X.K F H Q) noE := q
    obtain ⟨h, q⟩ := Ans.if_bad (c := sortOk (kvs.map (·.1)) = true) q
    exact sorted_dict hr hc pins s σ H _ _ Q I (.cons ru .nil) ⟨p, F, ks, kvs, rfl, FH, hp, rk, h, q⟩
  | list ds =>
    obtain ⟨p, ys, rfl, sq, rq⟩ := rv.list_inv FH
    cases ru
    obtain ⟨h, q⟩ := Ans.if_bad (c := sortOk ds = true) q
    unfold sortOk at h
    rw [Bool.and_eq_true, Bool.and_eq_true, Bool.and_eq_true] at h
    obtain ⟨⟨⟨h0, h1⟩, h2⟩, h3⟩ := h
    have h0 := of_decide_eq_true h0
    have hu := units64 hr
    obtain ⟨its, rv', pl, hz⟩ := I.list sq.to
    have ee := each_of rv' rq
    refine PySem.W.sorted_data (enc := id) (R := stands X.K F) pl.isList ee (each_reads I FH h1 ee) ?_ ?_ (line_of h0) ?_ fun out ho eo => ?_
    · intro a ha b hb
      rw [List.map_id] at ha hb
      exact List.all_eq_true.mp (List.all_eq_true.mp h3 a ha) b hb
    · rw [List.map_id]
      rw [Bool.or_eq_true] at h2
      rcases h2 with h2 | h2
      · refine .inl fun a ha => ?_
        have := List.all_eq_true.mp h2 a ha
        cases a with
        | tuple zs =>
          cases zs with
          | nil => cases this
          | cons x r => exact ⟨x, r, rfl⟩
        | _ => cases this
      · refine .inr fun a ha => ?_
        have := List.all_eq_true.mp h2 a ha
        cases a with
        | none => cases this
        | tuple zs => cases this
        | _ => exact ⟨by simp, by simp⟩
    · intro b hb
      have := fl_depth _ _ (List.all_eq_true.mp h1 b hb)
      have e12 : deep = 12 := rfl
      show _ + 2 + b.depth < _
      omega
    · obtain ⟨vs, rv2, rq2⟩ := each_to eo
      obtain ⟨c, hc⟩ := sortedAll_at s.heap its out.toArray
      have hn : vs.length ≤ sizeLine := by
        rw [rv2.length, ho]; exact line_of h0
      refine ⟨.ref (s.heap.objs.size + 1), _, I.laid (t' := s.toks) (o := .lst vs) (fun b o e => sortedAll_old e) (Nat.le_succ _) ⟨hn, out, c, rv2, hc⟩, rfl, ?_⟩
      exact okLst FH (I.hok.fresh (Nat.le_succ _)) rq2 q
  | _ => exact False.elim q
/-! ### max, min -/
theorem depth_all {n : Nat} : ∀ {xs : List D}, xs.all (fl n) = true → PyData.depthAll xs ≤ n
  | [], _ => Nat.zero_le _
  | x :: xs, h => by
    rw [List.all_cons, Bool.and_eq_true] at h
    have h1 := fl_depth n x h.1
    have h2 := depth_all h.2
    show max x.depth (PyData.depthAll xs) ≤ n
    omega
theorem more_hyps {xs : List D} (h : moreOk xs = true) : xs.all (fl deep) = true ∧ PySem.W.AlikeAll xs ∧ ∀ x ∈ xs, isOb x = false := by
  unfold moreOk at h
  rw [Bool.and_eq_true, Bool.and_eq_true] at h
  obtain ⟨⟨h1, h2⟩, h3⟩ := h
  refine ⟨h1, ⟨fun x hx y hy => List.all_eq_true.mp (List.all_eq_true.mp h3 x hx) y hy, fun x hx e => ?_⟩, fun x hx => ?_⟩
  · have := List.all_eq_true.mp h2 x hx
    rw [e] at this
    cases this
  · have := List.all_eq_true.mp h2 x hx
    cases x with
    | list _ => cases this
    | dict _ => cases this
    | _ => rfl
theorem each_getD {F : Hp} : ∀ {us : List Value} {ds : List D}, PySem.W.EachIs (stands K F) us ds → ∀ (i : Nat) (v : Value), us[i]? = some v → stands K F v (ds.getD i .none) ∧ ds.getD i .none ∈ ds
  | _, _, .nil, i, v, h => by cases h
  | _, _, .cons a t, 0, v, h => by cases h; exact ⟨a, .head _⟩
  | _, _, .cons a t, i + 1, v, h => by
    obtain ⟨h1, h2⟩ := each_getD t i v (by simpa using h)
    exact ⟨by simpa using h1, List.mem_cons_of_mem _ (by simpa using h2)⟩
/-- what a greatest, a least item leaves -/
theorem more_end {F : Hp} {x z : D} {xs : List D} {us : List Value} {as : List Addr} (I : Inv X pins σ H s) (FH : Same F H) (ee : PySem.W.EachIs (stands X.K F) us (x :: xs)) (hr : ReadsAll s.heap us (x :: xs) as) (hob : ∀ y ∈ x :: xs, isOb y = false) (q : OkV X.K F H Q z)
    (i : Nat) (v : Value) (h' : Heap) (tk : Nat) (bs : List Addr) (hv : us[i]? = some v) (r : Reads h' v z bs) (hk : ∀ b o, s.heap.get? b = some o → h'.get? b = some o) : EP X pins σ Q v { s with heap := h', toks := tk } := by
  obtain ⟨cs, r1, _, _, _⟩ := PySem.W.readsAll_at hr i v hv
  obtain ⟨e, _⟩ := PyProof.Rows.reads_det (fun b o h _ => hk b o h) r1 r
  obtain ⟨⟨w, rw1, rp⟩, hm⟩ := each_getD ee i v hv
  rw [← e] at rp hm
  exact ⟨w, H, I.kept hk, rw1, q w F H (Same.refl F) (Same.refl H) FH (New.refl _ _) (.ofNo (hob _ hm) rp)⟩
theorem b_max {n : Nat} (hr : Room n X.A) (hc : X.calm = true) : CallR X (.builtin "max") (rN X.K maxD) := by
  intro pins s σ H xs us Q I rs q
  obtain ⟨F, ds, FH, rh, q⟩ := q
  have hu := units64 hr
  have e12 : deep = 12 := rfl
  unfold maxD at q
  split at q
  · rename_i es
    obtain ⟨v, rfl, rv⟩ := rh.one
    obtain ⟨p, ys, rfl, sq, rq⟩ := rv.list_inv FH
    split at q
    · rename_i ns h
      obtain ⟨m, hm, q⟩ := oInt_some q
      refine cr_max hc pins s σ H _ us Q I rs ⟨p, ns, rfl, by rw [← rq.intsOf h]; exact sq.to, ?_, fun m' h1 h2 => ?_⟩
      · cases ns with
        | nil => cases hm
        | cons => simp
      · cases maxI_is hm h1 h2
        exact okInt FH q
    · unfold maxG at q
      split at q
      · exact False.elim q
      · rename_i x xs _
        obtain ⟨h, q⟩ := Ans.if_bad (c := moreOk (x :: xs) = true) q
        obtain ⟨h1, h2, h3⟩ := more_hyps h
        obtain ⟨its, rv', pl, hz⟩ := I.list sq.to
        have ee := each_of rv' rq
        obtain ⟨as, ra⟩ := PySem.W.each_readsAll id (each_reads I FH h1 ee)
        rw [List.map_id] at ra
        rw [Vals.ref1 rs]
        have hd := depth_all h1
        exact PySem.W.max_list_data (I.ok.hd hc) pl.isList (by simpa using ra) h2 (by omega) fun i v h' tk bs hv r hk => more_end I FH ee ra h3 q i v h' tk bs (by simpa using hv) r hk
  · rename_i es
    obtain ⟨v, rfl, rv⟩ := rh.one
    obtain ⟨p, ys, rfl, sq, rq⟩ := rv.tup_inv FH
    unfold maxG at q
    split at q
    · exact False.elim q
    · rename_i x xs
      obtain ⟨h, q⟩ := Ans.if_bad (c := moreOk (x :: xs) = true) q
      obtain ⟨h1, h2, h3⟩ := more_hyps h
      obtain ⟨its, rv', pl, hz⟩ := I.tuple sq
      have ee := each_of rv' rq
      obtain ⟨as, ra⟩ := PySem.W.each_readsAll id (each_reads I FH h1 ee)
      rw [List.map_id] at ra
      rw [Vals.ref1 rs]
      have hd := depth_all h1
      exact PySem.W.max_tuple_data (I.ok.hd hc) (show s.heap.IsTuple _ its.toArray from pl) (by simpa using ra) h2 (by omega) fun i v h' tk bs hv r hk => more_end I FH ee ra h3 q i v h' tk bs (by simpa using hv) r hk
  · rename_i i j
    obtain ⟨v, w, rfl, rv, rw'⟩ := rh.two
    cases rv.int_inv
    cases rw'.int_inv
    exact call_max2 hc pins s σ H _ us Q I rs ⟨i, j, rfl, okInt FH q⟩
  · exact False.elim q
theorem b_min {n : Nat} (hr : Room n X.A) (hc : X.calm = true) : CallR X (.builtin "min") (rN X.K minD) := by
  intro pins s σ H xs us Q I rs q
  obtain ⟨F, ds, FH, rh, q⟩ := q
  have hu := units64 hr
  have e12 : deep = 12 := rfl
  unfold minD at q
  split at q
  · rename_i es
    obtain ⟨v, rfl, rv⟩ := rh.one
    obtain ⟨p, ys, rfl, sq, rq⟩ := rv.list_inv FH
    split at q
    · rename_i ns h
      obtain ⟨m, hm, q⟩ := oInt_some q
      refine cr_min hc pins s σ H _ us Q I rs ⟨p, ns, rfl, by rw [← rq.intsOf h]; exact sq.to, ?_, fun m' h1 h2 => ?_⟩
      · cases ns with
        | nil => cases hm
        | cons => simp
      · cases minI_is hm h1 h2
        exact okInt FH q
    · unfold minG at q
      split at q
      · exact False.elim q
      · rename_i x xs _
        obtain ⟨h, q⟩ := Ans.if_bad (c := moreOk (x :: xs) = true) q
        obtain ⟨h1, h2, h3⟩ := more_hyps h
        obtain ⟨its, rv', pl, hz⟩ := I.list sq.to
        have ee := each_of rv' rq
        obtain ⟨as, ra⟩ := PySem.W.each_readsAll id (each_reads I FH h1 ee)
        rw [List.map_id] at ra
        rw [Vals.ref1 rs]
        have hd := depth_all h1
        exact PySem.W.min_list_data (I.ok.hd hc) pl.isList (by simpa using ra) h2 (by omega) fun i v h' tk bs hv r hk => more_end I FH ee ra h3 q i v h' tk bs (by simpa using hv) r hk
  · rename_i es
    obtain ⟨v, rfl, rv⟩ := rh.one
    obtain ⟨p, ys, rfl, sq, rq⟩ := rv.tup_inv FH
    unfold minG at q
    split at q
    · exact False.elim q
    · rename_i x xs
      obtain ⟨h, q⟩ := Ans.if_bad (c := moreOk (x :: xs) = true) q
      obtain ⟨h1, h2, h3⟩ := more_hyps h
      obtain ⟨its, rv', pl, hz⟩ := I.tuple sq
      have ee := each_of rv' rq
      obtain ⟨as, ra⟩ := PySem.W.each_readsAll id (each_reads I FH h1 ee)
      rw [List.map_id] at ra
      rw [Vals.ref1 rs]
      have hd := depth_all h1
      exact PySem.W.min_tuple_data (I.ok.hd hc) (show s.heap.IsTuple _ its.toArray from pl) (by simpa using ra) h2 (by omega) fun i v h' tk bs hv r hk => more_end I FH ee ra h3 q i v h' tk bs (by simpa using hv) r hk
  · rename_i i j
    obtain ⟨v, w, rfl, rv, rw'⟩ := rh.two
    cases rv.int_inv
    cases rw'.int_inv
    exact call_min2 hc pins s σ H _ us Q I rs ⟨i, j, rfl, okInt FH q⟩
  · exact False.elim q
/-! ### dict(pairs), dict(d) -/
theorem Rkv.merge : ∀ {more : List (Key × V)} {ms : List (D × D)} {ks : List (Key × V)} {kvs : List (D × D)}, Rkv K F more ms → Rkv K F ks kvs → Rkv K F (mergeK ks more) (dMerge kvs ms)
  | _, _, _, _, .nil, r => r
  | _, _, _, _, .cons (k := k) (v := v) (d := d) a b t, r => by
    have := Rkv.merge t (r.put a b)
    exact this
theorem pairs_is {F : Hp} (FH : Same F H) : ∀ {ds : List D} {ps : List (D × D)} {vs : List V}, pairsOf ds = some ps → Rps K F vs ds → ∃ (as : List Addr) (ks : List (Key × V)), vs = as.map V.ref ∧ Paired (fun p kv => SqT K H p [kV kv.1, kv.2]) as ks ∧ Rkv K F ks ps
  | [], _, _, h, .nil => by cases h; exact ⟨[], [], rfl, .nil, .nil⟩
  | d :: ds, ps, _, h, .cons r t => by
    unfold pairsOf at h
    split at h
    · cases ‹_ :: _ = []›
    · rename_i k v rr e
      cases e
      split at h
      · rename_i hk
        obtain ⟨ps', h1, rfl⟩ := Option.map_eq_some_iff.mp h
        obtain ⟨as, ks, e1, e2, e3⟩ := pairs_is FH h1 t
        cases r with
        | tup sq rs =>
          cases rs with
          | cons ra rs =>
            cases rs with
            | cons rb rs =>
              cases rs
              obtain ⟨kk, rfl, rfl, rkk⟩ := key_of_isK (K := K) (F := F) (H := H) hk (.inl ra)
              exact ⟨_ :: as, (kk, _) :: ks, by rw [e1]; rfl, .cons (same_t FH sq) e2, .cons (rkk F) rb e3⟩
      · cases h
    · cases h
theorem b_dict (hc : X.calm = true) : CallR X (.type "dict") (rN X.K (on1 dictD)) := b_one (CallR.or2 (call_dictP hc) call_dictD) fun F H v d Q FH rv q => by
  cases d with
  | dict kvs =>
    obtain ⟨p, ks, rfl, hp, rk⟩ := rv.dict_is FH
    exact .inr ⟨p, ks, rfl, .inl hp, fun l hl => okDct FH hl rk q⟩
  | list ds =>
    obtain ⟨p, xs, rfl, sq, rs⟩ := rv.list_inv FH
    have q : Ans (bindO (pairsOf ds) fun ps => .ok (.dict (dMerge [] ps))) (OkV X.K F H Q) noE := q
    obtain ⟨ps, h1, q⟩ := q.bindO
    obtain ⟨as, ks, rfl, e2, e3⟩ := pairs_is FH h1 rs
    exact .inl ⟨p, as, ks, rfl, sq.to, e2, fun l hl => okDct FH hl (e3.merge .nil) q⟩
  | _ => exact False.elim q
end Dv
/-! Dv9: calls of built-ins and of methods; freezing by names. -/
namespace Dv
open PySem PySem.Spec PyProof.Rows L2
variable {X : Cx} {W : Wi} {K : PySem.W.Frag} {F F' F0 B H H' : Hp} {v : V} {d : D} {k : Nat} {σ : L2.St} {δ : Env} {pins : List (Addr × Obj)} {s : Shared} {Q : VK} {e : Expr} {a : List Bool} {f : DE} {pos p : Pos}

/-! ### no stars -/
def plainE : Expr → Bool
  | .Starred _ _ => false
  | _ => true
theorem star_cons {e : Expr} {es : List Expr} {env : PySem.Env} (h : plainE e = true) : starEach (e :: es) env = (false, eval e env) :: starEach es env := by
  cases e <;> first | rfl | cases h
theorem star_any {es : List Expr} {env : PySem.Env} (pos : Pos) (h : es.all plainE = true) : (backTo pos (starEach es env)).any (·.1) = false := by
  induction es with
  | nil => rfl
  | cons e es ih =>
    rw [List.all_cons, Bool.and_eq_true] at h
    rw [star_cons h.1]
    show (false || (backTo pos (starEach es env)).any (·.1)) = false
    rw [ih h.2]
    rfl
theorem star_all {es : List Expr} {env : PySem.Env} (pos : Pos) (h : es.all plainE = true) : (backTo pos (starEach es env)).all (fun x => !x.1) = true := by
  induction es with
  | nil => rfl
  | cons e es ih =>
    rw [List.all_cons, Bool.and_eq_true] at h
    rw [star_cons h.1]
    show (true && (backTo pos (starEach es env)).all _) = true
    rw [ih h.2]
    rfl
theorem ja_all : ∀ {es : List Expr} {fs : List DE}, Each2 (fun e f => JE X W a e f 2) es fs → es.all plainE = true → JA X W a es fs
  | _, _, .nil, _ => ja_nil
  | _, _, .cons h t, hp => by
    rw [List.all_cons, Bool.and_eq_true] at hp
    exact ja_cons h (ja_all t hp.2) (star_cons hp.1)
theorem jr_all : ∀ {es : List Expr} {fs : List DE}, Each2 (fun e f => JE X W a e f 0) es fs → es.all plainE = true → JR X W a es fs
  | _, _, .nil, _ => jr_nil
  | _, _, .cons h t, hp => by
    rw [List.all_cons, Bool.and_eq_true] at hp
    exact jr_cons h (jr_all t hp.2) (star_cons hp.1)

/-! ### built-ins -/
theorem je_callB {fs : List DE} {g : List D → R D} {t : TE}
    (hc : PE X e t) (ht : ∀ σ H Q, tCB (rN X.K g) (tJA X.K W a fs fun F H vs ds => Rhs X.K F H vs ds) σ H Q → t σ H Q) (ng : ∀ ds c i, g ds ≠ .err c i) : JE X W a e (eCall g fs) 3 :=
  hc.imp fun σ H Q ⟨F0, B, F, δ, S, q⟩ => by
    refine ht σ H Q ⟨F0, B, F, δ, S, ?_⟩
    unfold eCall at q
    rw [Ans.bind_iff] at q
    exact q.imp fun ds q vs F1 H1 S1 e1 e2 n1 r1 => ⟨F1, ds, S1.FH, r1, (ans_noE q (ng ds)).imp fun z q w F' H' e3 e4 e5 n r => q w F' H' (S1.later e3 e4 e5 n) (e1.trans e3) (e2.trans e4) (n1.trans (n.back e2)) (Ow.early e2 r)⟩
theorem ne_err_on1 {f : D → R D} (h : ∀ d c i, f d ≠ .err c i) : ∀ ds c i, on1 f ds ≠ .err c i := by
  intro ds c i
  match ds with
  | [d] => exact h d c i
  | [] => intro h; cases h
  | _ :: _ :: _ => intro h; cases h
theorem ne_bindO {α β : Type} {o : Option α} {f : α → R β} (h : ∀ a c i, f a ≠ .err c i) (c : Str) (i : Int) : bindO o f ≠ .err c i := by
  cases o with
  | none => intro h; cases h
  | some a => exact h a c i
theorem ne_oInt (o : Option Int) (c : Str) (i : Int) : oInt o ≠ .err c i := by cases o <;> intro h <;> cases h
theorem ite_ne {α : Type} {c : Prop} [Decidable c] {a b z : α} (ha : a ≠ z) (hb : b ≠ z) : (if c then a else b) ≠ z := by
  by_cases h : c
  · rw [if_pos h]; exact ha
  · rw [if_neg h]; exact hb
theorem ite_is {α : Type} {c : Prop} [Decidable c] {a b z : α} (ha : a = z) (hb : b = z) : (if c then a else b) = z := by
  by_cases h : c
  · rw [if_pos h]; exact ha
  · rw [if_neg h]; exact hb
theorem ne_err_callB (x : Str) : ∀ ds c i, callB x ds ≠ .err c i := by
  intro ds c i
  unfold callB
  refine ite_ne (ne_err_on1 (fun d c i => by unfold lenD; split <;> (try split) <;> intro h <;> cases h) ds c i) ?_
  refine ite_ne (ne_err_on1 (fun d c i => by unfold absD; split <;> (try split) <;> intro h <;> cases h) ds c i) ?_
  refine ite_ne (ne_err_on1 (fun d c i => by unfold sumD; split <;> (try split) <;> intro h <;> cases h) ds c i) ?_
  refine ite_ne (ne_err_on1 (fun d c i => by unfold allD; split <;> (try split) <;> intro h <;> cases h) ds c i) ?_
  refine ite_ne (ne_err_on1 (fun d c i => by unfold anyD; split <;> (try split) <;> intro h <;> cases h) ds c i) ?_
  refine ite_ne (ne_err_on1 (fun d c i => by unfold intD; split <;> (try split) <;> (try split) <;> intro h <;> cases h) ds c i) ?_
  refine ite_ne (ne_err_on1 (fun d c i => by unfold strD; split <;> (try split) <;> intro h <;> cases h) ds c i) ?_
  refine ite_ne (ne_err_on1 (fun d c i => by unfold listD; split <;> (try split) <;> intro h <;> cases h) ds c i) ?_
  refine ite_ne (ne_err_on1 (fun d c i => by unfold tupleD; split <;> (try split) <;> intro h <;> cases h) ds c i) ?_
  refine ite_ne (ne_err_on1 (fun d c i => by unfold sortedD; split <;> (try split) <;> intro h <;> cases h) ds c i) ?_
  refine ite_ne (ne_err_on1 (fun d c i => by unfold reprD; split <;> (try split) <;> intro h <;> cases h) ds c i) ?_
  refine ite_ne (by
    unfold maxD
    split
    · split
      · exact ne_oInt _ c i
      · unfold maxG
        split
        · intro h; cases h
        · split <;> intro h <;> cases h
    · unfold maxG
      split
      · intro h; cases h
      · split <;> intro h <;> cases h
    · intro h; cases h
    · intro h; cases h) ?_
  refine ite_ne (by
    unfold minD
    split
    · split
      · exact ne_oInt _ c i
      · unfold minG
        split
        · intro h; cases h
        · split <;> intro h <;> cases h
    · unfold minG
      split
      · intro h; cases h
      · split <;> intro h <;> cases h
    · intro h; cases h
    · intro h; cases h) ?_
  refine ite_ne (ne_err_on1 (fun d c i => by unfold dictD; split <;> first | exact ne_bindO (fun a c i => by intro h; cases h) c i | (intro h; cases h)) ds c i) ?_
  intro h; cases h
/-- which built-ins are known -/
def bnames : List Str := ["len", "abs", "sum", "all", "any", "int", "str", "list", "tuple", "sorted", "repr", "max", "min", "dict"]
theorem never {t : TE} (h : ∀ σ H Q, ¬ t σ H Q) : PE X e t := ⟨fun _ _ σ H Q _ q => (h σ H Q q).elim⟩
theorem je_bad {f : DE} (h : ∀ δ, f δ = .bad) : JE X W a e f k := never fun σ H Q ⟨_, _, _, δ, _, q⟩ => by rw [h δ] at q; exact q
theorem jt_bad {t : DT} (h : ∀ δ, t δ = .bad) : JT X W a e t := ⟨fun _ _ σ H Q _ ⟨_, _, _, δ, _, q⟩ => by rw [h δ] at q; exact q.elim⟩
theorem callB_nil (x : Str) : callB x [] = .bad := by
  unfold callB
  iterate 14 refine ite_is rfl ?_
  rfl
theorem je_bn {n : Nat} (hr : Room n X.A) (hg : X.A.guards = some []) (hc : X.calm = true) {x : Str} (hx : x ∈ bnames) (gl : Gl X x) (hm : X.mg x = none) : ∀ {es : List Expr} {fs : List DE}, JR X W a es fs → es.all plainE = true → Each2 (fun _ _ => True) es fs →
    JE X W a (.Call (.Name x p) es [] pos) (eCall (callB x) fs) 3
  | [], _, _, _, .nil => je_bad fun δ => by show callB x [] = _; exact callB_nil x
  | e :: es, f :: fs, ha, hp, .cons _ _ => by
    rw [List.all_cons, Bool.and_eq_true] at hp
    have he := fun (env : PySem.Env) => star_cons (es := es) (env := env) hp.1
    have hpl := star_any (env := X.env) pos hp.2
    have ng := ne_err_callB x
    simp only [bnames, List.mem_cons, List.mem_nil_iff, or_false] at hx
    rcases hx with rfl | rfl | rfl | rfl | rfl | rfl | rfl | rfl | rfl | rfl | rfl | rfl | rfl | rfl
    · exact je_callB (pe_callB b_len gl hm rfl ha (by decide) (by decide) (he _) hpl) (fun _ _ _ q => q) ng
    · exact je_callB (pe_callB b_abs gl hm rfl ha (by decide) (by decide) (he _) hpl) (fun _ _ _ q => q) ng
    · exact je_callB (pe_callB (b_sum hc) gl hm rfl ha (by decide) (by decide) (he _) hpl) (fun _ _ _ q => q) ng
    · exact je_callB (pe_callB (b_all hc) gl hm rfl ha (by decide) (by decide) (he _) hpl) (fun _ _ _ q => q) ng
    · exact je_callB (pe_callB (b_any hc) gl hm rfl ha (by decide) (by decide) (he _) hpl) (fun _ _ _ q => q) ng
    · exact je_callB (pe_callTy b_int gl hm rfl ha (by decide) (by decide) (he _) hpl) (fun _ _ _ q => q) ng
    · exact je_callB (pe_callTy b_str gl hm rfl ha (by decide) (by decide) (he _) hpl) (fun _ _ _ q => q) ng
    · exact je_callB (pe_callTy (b_list hc) gl hm rfl ha (by decide) (by decide) (he _) hpl) (fun _ _ _ q => q) ng
    · exact je_callB (pe_callTy b_tuple gl hm rfl ha (by decide) (by decide) (he _) hpl) (fun _ _ _ q => q) ng
    · exact je_callB (pe_callB (b_sorted hr hc) gl hm rfl ha (by decide) (by decide) (he _) hpl) (fun _ _ _ q => q) ng
    · exact je_callB (pe_callB (b_repr hr hg) gl hm rfl ha (by decide) (by decide) (he _) hpl) (fun _ _ _ q => q) ng
    · exact je_callB (pe_callB (b_max hr hc) gl hm rfl ha (by decide) (by decide) (he _) hpl) (fun _ _ _ q => q) ng
    · exact je_callB (pe_callB (b_min hr hc) gl hm rfl ha (by decide) (by decide) (he _) hpl) (fun _ _ _ q => q) ng
    · exact je_callB (pe_callTy (b_dict hc) gl hm rfl ha (by decide) (by decide) (he _) hpl) (fun _ _ _ q => q) ng

/-! ### math.gcd -/
theorem b_gcd : CallR X (.builtin "math.gcd") (rN X.K gcdD) := by
  intro pins s σ H xs us Q I rs q
  obtain ⟨F, ds, FH, rh, q⟩ := q
  unfold gcdD at q
  split at q
  · rename_i i j
    obtain ⟨v, w, rfl, rv, rw'⟩ := rh.two
    cases rv.int_inv
    cases rw'.int_inv
    exact cr_gcd pins s σ H _ us Q I rs ⟨i, j, rfl, okInt FH q⟩
  · exact False.elim q
theorem ne_err_gcd : ∀ ds c i, gcdD ds ≠ .err c i := by
  intro ds c i
  unfold gcdD
  split <;> intro h <;> cases h
theorem je_gcd {x : Str} (gl : Gl X x) (hm : X.mg x = some (.builtin "math.gcd")) (hx : (x == ("__debug__" : Str)) = false) : ∀ {es : List Expr} {fs : List DE}, JR X W a es fs → es.all plainE = true → Each2 (fun _ _ => True) es fs →
    JE X W a (.Call (.Name x p) es [] pos) (eCall gcdD fs) 3
  | [], _, _, _, .nil => je_bad fun δ => rfl
  | e :: es, f :: fs, ha, hp, .cons _ _ => by
    rw [List.all_cons, Bool.and_eq_true] at hp
    have he := fun (env : PySem.Env) => star_cons (es := es) (env := env) hp.1
    have hpl := star_any (env := X.env) pos hp.2
    exact je_callB (pe_callBfun b_gcd gl hm ha hx (he _) hpl) (fun _ _ _ q => q) ne_err_gcd

/-! ### methods -/
def MR (X : Cx) (id : String) (g : List D → R D) : Prop := ∃ r : V → List V → Hp → VK → Prop, MtR X id r ∧ ∀ x xs H Q, rN X.K g (x :: xs) H Q → r x xs H Q
theorem m_starts : MR X "str.startswith" (on2 startsD) := ⟨_, mt_startswith, fun x xs H Q ⟨F, ds, FH, rh, q⟩ => by
  obtain ⟨d, d2, rfl, q2⟩ := q.on2
  obtain ⟨v, w, e, rv, rw'⟩ := rh.two
  cases e
  unfold startsD at q2
  split at q2
  · obtain ⟨rfl, z⟩ := rv.str_inv
    obtain ⟨rfl, z2⟩ := rw'.str_inv
    exact ⟨_, _, rfl, rfl, okBl FH q2⟩
  · exact False.elim q2⟩
theorem m_join : MR X "str.join" (on2 joinD) := ⟨_, mt_join, fun x xs H Q ⟨F, ds, FH, rh, q⟩ => by
  obtain ⟨d, d2, rfl, q2⟩ := q.on2
  obtain ⟨v, w, e, rv, rw'⟩ := rh.two
  cases e
  unfold joinD at q2
  split at q2
  · obtain ⟨rfl, z⟩ := rv.str_inv
    obtain ⟨a, ys, rfl, sq, rs⟩ := rw'.list_inv FH
    obtain ⟨ss, hs, q2⟩ := q2.bindO
    obtain ⟨h, q2⟩ := Ans.if_bad (c := joinOk _ ss = true) q2
    unfold joinOk at h
    rw [Bool.and_eq_true, Bool.and_eq_true] at h
    obtain ⟨⟨h1, h2⟩, h3⟩ := h
    have h1 := of_decide_eq_true h1
    have h2 := of_decide_eq_true h2
    obtain ⟨e1, _⟩ := rs.strsOf hs
    exact ⟨_, a, ss, rfl, rfl, .inl (by rw [← e1]; exact sq.to), by omega, okStr FH ⟨h2, h3⟩ q2⟩
  · exact False.elim q2⟩
theorem index_of {y : D} : ∀ {xs : List D} {n : Nat} {kk : D → Prop} {e : Str → Int → Prop}, Ans (indexGo y n xs) kk e → ∃ j z, xs[j]? = some z ∧ PyData.eqv z y = true ∧ (∀ (m : Nat) (z' : D), m < j → xs[m]? = some z' → PyData.eqv z' y = false) ∧ kk (.int ((n + j : Nat) : Int))
  | [], _, _, _, h => False.elim h
  | x :: xs, n, kk, e, h => by
    unfold indexGo at h
    by_cases hx : PyData.eqv x y = true
    · rw [if_pos hx] at h
      exact ⟨0, x, rfl, hx, fun m z hm => absurd hm (Nat.not_lt_zero m), h⟩
    · rw [if_neg hx] at h
      obtain ⟨j, z, h1, h2, h3, h4⟩ := index_of h
      refine ⟨j + 1, z, by simpa using h1, h2, fun m z' hm hz => ?_, ?_⟩
      · cases m with
        | zero => simp at hz; subst hz; simpa using hx
        | succ m => exact h3 m z' (by omega) (by simpa using hz)
      · have e1 : n + (j + 1) = n + 1 + j := by omega
        rw [e1]
        exact h4
theorem fl_mono : ∀ (n : Nat) (d : D), fl n d = true → fl (n + 1) d = true := by
  intro n
  induction n with
  | zero => intro d h; cases d <;> first | rfl | cases h
  | succ n ih =>
    intro d h
    cases d with
    | list xs =>
      unfold fl at h ⊢
      exact List.all_eq_true.mpr fun x hx => ih x (List.all_eq_true.mp h x hx)
    | tuple xs =>
      unfold fl at h ⊢
      exact List.all_eq_true.mpr fun x hx => ih x (List.all_eq_true.mp h x hx)
    | dict kvs => cases h
    | _ => rfl
theorem shaped_list {F H : Hp} {v : V} {ds : List D} (h : ds.all (fl deep) = true) (hv : Rh K F H v (.list ds)) : SeqAt.shaped (.list ds) = true := by
  have h13 : fl 13 (.list ds) = true := h
  have hd := fl_depth _ _ h13
  have hl := hv.lay h13
  unfold SeqAt.shaped
  rw [Bool.and_eq_true]
  refine ⟨?_, ?_⟩ <;> first | exact hl | exact decide_eq_true (by omega)
def indexDL (x y : D) : R D := match x with
  | .list xs => if fl deep y && xs.all (fl deep) then indexGo y 0 xs else .bad
  | _ => .bad
def indexDS (x y : D) : R D := match x with
  | .str a => (match y with
    | .str b => (match Builtin.Str.occurrences a b 0 a.length 1 with
      | i :: _ => .ok (.int (i : Nat))
      | [] => .bad)
    | _ => .bad)
  | _ => .bad
theorem m_sindex : MR X "str.index" (on2 indexDS) := ⟨_, mt_sindex, fun x xs H Q ⟨F, ds, FH, rh, q⟩ => by
  obtain ⟨d, d2, rfl, q2⟩ := q.on2
  obtain ⟨v, w, e, rv, rw'⟩ := rh.two
  cases e
  unfold indexDS at q2
  split at q2
  · split at q2
    · obtain ⟨rfl, z⟩ := rv.str_inv
      obtain ⟨rfl, z2⟩ := rw'.str_inv
      split at q2
      · rename_i i rest e
        exact ⟨_, _, i, rest, rfl, rfl, e, okInt FH q2⟩
      · exact False.elim q2
    · exact False.elim q2
  · exact False.elim q2⟩
theorem m_ends : MR X "str.endswith" (on2 endsD) := ⟨_, mt_endswith, fun x xs H Q ⟨F, ds, FH, rh, q⟩ => by
  obtain ⟨d, d2, rfl, q2⟩ := q.on2
  obtain ⟨v, w, e, rv, rw'⟩ := rh.two
  cases e
  unfold endsD at q2
  split at q2
  · obtain ⟨rfl, z⟩ := rv.str_inv
    obtain ⟨rfl, z2⟩ := rw'.str_inv
    exact ⟨_, _, rfl, rfl, okBl FH q2⟩
  · exact False.elim q2⟩
theorem m_find : MR X "str.find" (on2 findD) := ⟨_, mt_find, fun x xs H Q ⟨F, ds, FH, rh, q⟩ => by
  obtain ⟨d, d2, rfl, q2⟩ := q.on2
  obtain ⟨v, w, e, rv, rw'⟩ := rh.two
  cases e
  unfold findD at q2
  split at q2
  · obtain ⟨rfl, z⟩ := rv.str_inv
    obtain ⟨rfl, z2⟩ := rw'.str_inv
    exact ⟨_, _, rfl, rfl, okInt FH q2⟩
  · exact False.elim q2⟩
theorem m_count : MR X "str.count" (on2 countD) := ⟨_, mt_count, fun x xs H Q ⟨F, ds, FH, rh, q⟩ => by
  obtain ⟨d, d2, rfl, q2⟩ := q.on2
  obtain ⟨v, w, e, rv, rw'⟩ := rh.two
  cases e
  unfold countD at q2
  split at q2
  · obtain ⟨rfl, z⟩ := rv.str_inv
    obtain ⟨rfl, z2⟩ := rw'.str_inv
    exact ⟨_, _, rfl, rfl, okInt FH q2⟩
  · exact False.elim q2⟩
theorem strs_rps {F : Hp} : ∀ {ys : List Str}, ys.all sOkB = true → Rps K F (ys.map V.str) (ys.map PyData.str)
  | [], _ => .nil
  | y :: ys, h => by
    rw [List.all_cons, Bool.and_eq_true] at h
    have h1 := h.1
    unfold sOkB at h1
    rw [Bool.and_eq_true] at h1
    exact .cons (.str ⟨of_decide_eq_true h1.1, h1.2⟩) (strs_rps h.2)
theorem m_split : MR X "str.split" (on2 splitD) := ⟨_, mt_split, fun x xs H Q ⟨F, ds, FH, rh, q⟩ => by
  obtain ⟨d, d2, rfl, q2⟩ := q.on2
  obtain ⟨v, w, e, rv, rw'⟩ := rh.two
  cases e
  unfold splitD at q2
  split at q2
  · rename_i a b
    obtain ⟨rfl, z⟩ := rv.str_inv
    obtain ⟨rfl, z2⟩ := rw'.str_inv
    obtain ⟨hc, q2⟩ := Ans.if_bad (c := (b.length != 0 && (decide (a.length ≤ lim) && (Txt.split a b).all sOkB)) = true) q2
    rw [Bool.and_eq_true, Bool.and_eq_true] at hc
    obtain ⟨h1, h2, h3⟩ := hc
    have h2 := of_decide_eq_true h2
    refine ⟨a, b, rfl, rfl, by simpa using h1, Nat.le_trans (Nat.add_le_add_right h2 2) (by decide), fun p np => ?_⟩
    exact okLst FH np (strs_rps h3) q2
  · exact False.elim q2⟩
theorem m_index {n : Nat} (hr : Room n X.A) : MR X "list.index" (on2 indexDL) := ⟨_, mt_indexD (by have := hr.un; omega), fun x xs H Q ⟨F, ds, FH, rh, q⟩ => by
  obtain ⟨d, d2, rfl, q2⟩ := q.on2
  have q2 : Ans (indexDL d d2) (OkV X.K F H Q) noE := q2
  obtain ⟨v, w, e, rv, rw'⟩ := rh.two
  cases e
  cases d with
  | list es =>
    have q2 : Ans (if (fl deep d2 && es.all (fl deep)) = true then indexGo d2 0 es else .bad) (OkV X.K F H Q) noE := q2
    split at q2
    · rename_i h
      rw [Bool.and_eq_true] at h
      obtain ⟨j, z, h1, h2, h3, h4⟩ := index_of q2
      obtain ⟨p, ys, rfl, sq, rs⟩ := rv.list_inv FH
      rw [Nat.zero_add] at h4
      exact ⟨p, w, d2, es, j, z, rfl, rfl, rv.dp (n := deep + 1) h.2 FH, rw'.dp h.1 FH, shaped_list h.2 rv, shaped_of h.1 rw', h1, h2, h3, okInt FH h4⟩
    · exact False.elim q2
  | _ => exact False.elim q2⟩
/-- what stands ahead of a method's dot is not super() -/
def baseOk : Expr → Bool
  | .Call (.Name x _) [] [] _ => x != "super"
  | _ => true
theorem base_of {o : Expr} {m : Str} {env : PySem.Env} {whole : Sem Value} (h : baseOk o = true) : attributeBase o m env whole = whole := by
  unfold attributeBase
  split
  · rename_i x _ pos
    have h : (x != "super") = true := h
    rw [h]
    rfl
  · rfl
theorem metOk_str {m : Str} {F H : Hp} {v : V} {d : D} (h : metOk m d = true) (hm : (m == "index") = false) (r : Rh K F H v d) : tyV K "str" v H := by
  cases d with
  | str x =>
    obtain ⟨rfl, _⟩ := r.str_inv
    rfl
  | list ds =>
    have h : (m == "index") = true := h
    rw [hm] at h; cases h
  | _ => cases h
theorem ne_err_callM (m : Str) : ∀ ds c i, callM m ds ≠ .err c i := by
  have two : ∀ {f : D → D → R D}, (∀ x y c i, f x y ≠ .err c i) → ∀ ds c i, on2 f ds ≠ .err c i := by
    intro f hf ds c i
    match ds with
    | [x, y] => exact hf x y c i
    | [] => intro h; cases h
    | [_] => intro h; cases h
    | _ :: _ :: _ :: _ => intro h; cases h
  have ig : ∀ (y : D) (xs : List D) (n : Nat) (c : Str) (i : Int), indexGo y n xs ≠ .err c i := by
    intro y xs
    induction xs with
    | nil => intro n c i h; cases h
    | cons x xs ih =>
      intro n c i
      unfold indexGo
      split
      · intro h; cases h
      · exact ih _ c i
  intro ds c i
  unfold callM
  split
  · exact two (fun x y c i => by
      unfold indexD
      split
      · split
        · exact ig _ _ _ _ _
        · intro h; cases h
      · split
        · split <;> (intro h; cases h)
        · intro h; cases h
      · intro h; cases h) ds c i
  split
  · exact two (fun x y c i => by
      unfold joinD
      split
      · exact ne_bindO (fun ss c i => by split <;> intro h <;> cases h) c i
      · intro h; cases h) ds c i
  split
  · exact two (fun x y c i => by unfold startsD; split <;> intro h <;> cases h) ds c i
  split
  · exact two (fun x y c i => by
      unfold splitD
      split
      · split <;> (intro h; cases h)
      · intro h; cases h) ds c i
  split
  · exact two (fun x y c i => by unfold endsD; split <;> intro h <;> cases h) ds c i
  split
  · exact two (fun x y c i => by unfold findD; split <;> intro h <;> cases h) ds c i
  split
  · exact two (fun x y c i => by unfold countD; split <;> intro h <;> cases h) ds c i
  · intro h; cases h
theorem pe_or {t u : TE} (h : PE X e t) (h2 : PE X e u) : PE X e (fun σ H Q => t σ H Q ∨ u σ H Q) := ⟨fun pins s σ H Q I q => by
  rcases q with q | q
  · exact h.run pins s σ H Q I q
  · exact h2.run pins s σ H Q I q⟩
theorem je_met1 {m : Str} {T id : String} {o : Expr} {es : List Expr} {fo : DE} {fs : List DE} {apos : Pos} {g : List D → R D} (pa : PlainAttrs T) (slot : Slot T m id) (hty : typeOf (.builtin id) = pure (.type "method_descriptor")) (hm : MR X id g) (ok : D → Bool)
    (hok : ∀ (F H : Hp) (v : V) (d : D), Same F H → ok d = true → Rh X.K F H v d → tyV X.K T v H) (ng : ∀ ds c i, g ds ≠ .err c i)
    (ho : JE X W a o fo 0) (ha : JR X W a (e :: es) fs) (hp : (e :: es).all plainE = true) (hb : baseOk o = true) (hl : (apos.endLine == pos.line) = true) (hf : decide ((e :: es).length < 29) = true) :
    JE X W a (.Call (.Attribute o m apos) (e :: es) [] pos) (eMet ok g fo fs) 3 := by
  obtain ⟨r, hr, hg⟩ := hm
  have hp' := hp
  rw [List.all_cons, Bool.and_eq_true] at hp'
  have hf := of_decide_eq_true hf
  refine (pe_bm pa slot hty hr ho ha (base_of hb) ?_ hl (star_cons hp'.1) (star_any pos hp'.2)).imp fun σ H Q ⟨F0, B, F, δ, S, q⟩ => ?_
  · show ((backTo pos (starEach (e :: es) X.env)).all (fun x => !x.1) && true && decide ((e :: es).length + 0 + 0 < 30)) = true
    rw [star_all pos hp, decide_eq_true (by omega)]
    rfl
  · unfold eMet at q
    rw [Ans.bind_iff] at q
    refine ⟨F0, B, F, δ, S, q.imp fun d q v F1 H1 S1 e1 e2 n1 r1 => ?_⟩
    split at q
    · rename_i h
      refine ⟨hok F1 H1 v d S1.FH h r1, F0, B, F1, δ, S1, ?_⟩
      rw [Ans.bind_iff] at q
      exact q.mono (fun ds _ q vs F2 H2 S2 e3 e4 n2 r2 => hg _ _ _ _ ⟨F2, d :: ds, S2.FH, .cons (Rh.mono e3 e4 r1) r2, (ans_noE q (ng _)).imp fun z q w F' H' e5 e6 e7 n r =>
        q w F' H' (S2.later e5 e6 e7 n) (e1.trans (e3.trans e5)) ((e2.trans e4).trans e6) (n1.trans ((n2.back e2).trans (n.back (e2.trans e4)))) (Ow.early (e2.trans e4) r)⟩) fun c i z => W.mono _ _ _ _ _ e2 z
    · exact False.elim q
def isStr : D → Bool
  | .str _ => true
  | _ => false
theorem je_met {n : Nat} (hr : Room n X.A) {m : Str} {o : Expr} {fo : DE} {apos : Pos} (hm : m ∈ mets) (ho : JE X W a o fo 0) (hb : baseOk o = true) (hl : (apos.endLine == pos.line) = true) : ∀ {es : List Expr} {fs : List DE}, JR X W a es fs → es.all plainE = true → Each2 (fun _ _ => True) es fs →
    decide (es.length < 29) = true → es ≠ [] → JE X W a (.Call (.Attribute o m apos) es [] pos) (eMet (metOk m) (callM m) fo fs) 3
  | [], _, _, _, _, _, h => absurd rfl h
  | e :: es, fs, ha, hp, _, hf, _ => by
    have ng := ne_err_callM
    have hm' := hm
    simp only [mets, List.mem_cons, List.mem_nil_iff, or_false] at hm'
    rcases hm' with rfl | rfl | rfl | rfl | rfl | rfl | rfl
    · have j1 := je_met1 (a := a) (W := W) (pos := pos) PySem.F.plainAttrs_list PySem.F.slot_list_index PySem.F.type_list_index (m_index hr) isLst (fun F H v d FH h r => by
        cases d with
        | list ds =>
          obtain ⟨p, xs, rfl, sq, _⟩ := r.list_inv FH
          exact .inl ⟨rfl, xs, sq.to⟩
        | _ => cases h) (fun ds c i h => ng ("index" : Str) ds c i (by
          match ds, h with
          | [.list xs, y], h => exact h
          | [], h => cases h
          | [_], h => cases h
          | _ :: _ :: _ :: _, h => cases h
          | [.none, _], h => cases h
          | [.bool _, _], h => cases h
          | [.int _, _], h => cases h
          | [.str _, _], h => cases h
          | [.tuple _, _], h => cases h
          | [.dict _, _], h => cases h)) ho ha hp hb hl hf
      have j2 := je_met1 (a := a) (W := W) (pos := pos) PySem.F.plainAttrs_str PySem.F.slot_str_index PySem.F.type_str_index m_sindex isStr (fun F H v d FH h r => by
        cases d with
        | str x => obtain ⟨rfl, _⟩ := r.str_inv; rfl
        | _ => cases h) (fun ds c i h => ng ("index" : Str) ds c i (by
          match ds, h with
          | [.str xs, y], h => exact h
          | [], h => cases h
          | [_], h => cases h
          | _ :: _ :: _ :: _, h => cases h
          | [.none, _], h => cases h
          | [.bool _, _], h => cases h
          | [.int _, _], h => cases h
          | [.list _, _], h => cases h
          | [.tuple _, _], h => cases h
          | [.dict _, _], h => cases h)) ho ha hp hb hl hf
      refine (pe_or j1 j2).imp fun σ H Q ⟨F0, B, F, δ, S, q⟩ => ?_
      have two : ∀ ds : List D, (∀ xs, on2 indexDL (.list xs :: ds) = callM "index" (.list xs :: ds)) ∧ ∀ x, on2 indexDS (.str x :: ds) = callM "index" (.str x :: ds) := fun ds => by
        match ds with
        | [] => exact ⟨fun _ => rfl, fun _ => rfl⟩
        | [y] => exact ⟨fun _ => rfl, fun _ => rfl⟩
        | _ :: _ :: _ => exact ⟨fun _ => rfl, fun _ => rfl⟩
      unfold eMet at q
      cases hfo : fo δ with
      | err c i => exact .inl ⟨F0, B, F, δ, S, by unfold eMet; rw [hfo] at q ⊢; exact q⟩
      | bad => rw [hfo] at q; exact False.elim q
      | ok d =>
        rw [hfo] at q
        cases d with
        | list xs =>
          refine .inl ⟨F0, B, F, δ, S, ?_⟩
          unfold eMet
          rw [hfo]
          have : (fun ds => on2 indexDL (PyData.list xs :: ds)) = fun ds => callM "index" (PyData.list xs :: ds) := funext fun ds => (two ds).1 xs
          show Ans ((evs fs δ).bind fun ds => on2 indexDL (.list xs :: ds)) _ _
          rw [this]
          exact q
        | str x =>
          refine .inr ⟨F0, B, F, δ, S, ?_⟩
          unfold eMet
          rw [hfo]
          have : (fun ds => on2 indexDS (PyData.str x :: ds)) = fun ds => callM "index" (PyData.str x :: ds) := funext fun ds => (two ds).2 x
          show Ans ((evs fs δ).bind fun ds => on2 indexDS (.str x :: ds)) _ _
          rw [this]
          exact q
        | _ => exact False.elim q
    · exact je_met1 PySem.F.plainAttrs_str PySem.F.slot_str_join PySem.F.type_str_join m_join _ (fun F H v d FH h r => metOk_str h (by decide +kernel) r) (ng ("join" : Str)) ho ha hp hb hl hf
    · exact je_met1 PySem.F.plainAttrs_str PySem.F.slot_str_startswith PySem.F.type_str_startswith m_starts _ (fun F H v d FH h r => metOk_str h (by decide +kernel) r) (ng ("startswith" : Str)) ho ha hp hb hl hf
    · exact je_met1 PySem.F.plainAttrs_str PySem.F.slot_str_split PySem.F.type_str_split m_split _ (fun F H v d FH h r => metOk_str h (by decide +kernel) r) (ng ("split" : Str)) ho ha hp hb hl hf
    · exact je_met1 PySem.F.plainAttrs_str PySem.F.slot_str_endswith PySem.F.type_str_endswith m_ends _ (fun F H v d FH h r => metOk_str h (by decide +kernel) r) (ng ("endswith" : Str)) ho ha hp hb hl hf
    · exact je_met1 PySem.F.plainAttrs_str PySem.F.slot_str_find PySem.F.type_str_find m_find _ (fun F H v d FH h r => metOk_str h (by decide +kernel) r) (ng ("find" : Str)) ho ha hp hb hl hf
    · exact je_met1 PySem.F.plainAttrs_str PySem.F.slot_str_count PySem.F.type_str_count m_count _ (fun F H v d FH h r => metOk_str h (by decide +kernel) r) (ng ("count" : Str)) ho ha hp hb hl hf
def tyN : D → String
  | .none => "NoneType"
  | .bool _ => "bool"
  | .int _ => "int"
  | .str _ => "str"
  | .list _ => "list"
  | .tuple _ => "tuple"
  | .dict _ => "dict"
theorem ty_of (FH : Same F H) (h : Rh K F H v d) : TyX K H v (.type (tyN d)) := by
  cases d with
  | none => cases h.non_inv; exact .base .non
  | bool b => cases h.bl_inv; exact .base (.bl b)
  | int i => cases h.int_inv; exact .base (.int i)
  | str x => obtain ⟨rfl, _⟩ := h.str_inv; exact .base (.str x)
  | list ds =>
    obtain ⟨q, xs, rfl, sq, _⟩ := h.list_inv FH
    rcases sq with (sq | ⟨o, sq⟩) | ⟨_, _, sq, _⟩
    · exact .base (.lst sq)
    · exact .base (.frz sq)
    · exact .kList sq rfl
  | tuple ds =>
    obtain ⟨q, xs, rfl, sq, _⟩ := h.tup_inv FH
    rcases sq with (sq | ⟨o, sq⟩) | ⟨_, _, _, sq, hc, _⟩
    · exact .base (.tup sq)
    · exact .fTuple sq
    · exact .kTuple sq hc
  | dict kvs =>
    obtain ⟨q, ks, rfl, e, _⟩ := h.dict_is FH
    exact .base (.dK e)
theorem kit_list (K : PySem.W.Frag) (d : D) : PySem.W.kitOne K (.type (tyN d)) (.type "list") = some (isLst d) := by
  cases d with
  | _ => rfl
theorem je_isL {p2 : Pos} (gl : Gl X "isinstance") (hm : X.mg "isinstance" = none) (gl2 : Gl X "list") (hm2 : X.mg "list" = none) (hp : plainE e = true) (h : JE X W a e f 0) :
    JE X W a (.Call (.Name "isinstance" p) [e, .Name "list" p2] [] pos) (eIsL f) 3 :=
  (pe_callB call_isi gl hm rfl (pa_cons h (pa_cons (pe_bltn (v := .ty "list") gl2 hm2 rfl rfl) pa_nil) (star_cons hp)) (by decide) (by decide) (star_cons hp) rfl).imp fun σ H Q ⟨F0, B, F, δ, S, q⟩ => by
    unfold eIsL at q
    rw [Ans.bind_iff] at q
    refine ⟨F0, B, F, δ, S, q.imp fun d q v F1 H1 S1 e1 e2 n1 r1 => ?_⟩
    have r1 : Rh X.K F1 H1 v d := r1
    refine ⟨v, .ty "list", _, _, isLst d, rfl, .ty "list", ty_of S1.FH r1, kit_list X.K d, ?_⟩
    exact q _ F1 H1 S1 e1 e2 n1 (.ofNo rfl (Rp.bl _))
/-! ### displays with stars -/
def tJAS (K : PySem.W.Frag) (W : Wi) (a : List Bool) (fs : List (Bool × DE)) : TA := fun σ H Q => ∃ F0 B F δ, SI K F0 B F H σ a δ ∧
  Ans (evsS fs δ) (fun ds => ∀ vs F' H', SI K F0 B F' H' σ a δ → Same F F' → Same H H' → New H F F' → Rps K F' vs ds → Q vs H') (W.ew σ H)
theorem seq_of {d : D} {ys : List D} (FH : Same F H) (h : Rh K F H v d) (e : asList d = .ok ys) : ∃ p xs, v = .ref p ∧ (SqT K H p xs ∨ SqL K H p xs) ∧ Rps K F xs ys := by
  cases d with
  | list ds => cases e; obtain ⟨p, xs, e, sq, rs⟩ := h.list_inv FH; exact ⟨p, xs, e, .inr sq.to, rs⟩
  | tuple ds => cases e; obtain ⟨p, xs, e, sq, rs⟩ := h.tup_inv FH; exact ⟨p, xs, e, .inl sq, rs⟩
  | _ => cases e
theorem ja_allS : ∀ {es : List Expr} {fs : List (Bool × DE)}, Each2 (fun e p => p.1 = isSt e ∧ JE X W a (unSt e) p.2 (if p.1 then 0 else 2)) es fs → PA X es (tJAS X.K W a fs)
  | _, _, .nil => PA.imp pa_nil fun σ H Q ⟨F0, B, F, δ, S, q⟩ => q [] F H S (Same.refl F) (Same.refl H) (New.refl _ _) .nil
  | e :: es, (b, f) :: fs, .cons ⟨hb, h⟩ t => by
    have ih := ja_allS t
    cases b with
    | false =>
      have hp : plainE e = true := by
        cases e <;> first | rfl | cases hb
      have hu : unSt e = e := by
        cases e <;> first | rfl | cases hb
      rw [hu] at h
      refine PA.imp (pa_cons h ih (star_cons hp)) fun σ H Q ⟨F0, B, F, δ, S, q⟩ => ?_
      unfold evsS at q
      rw [Ans.bind_iff] at q
      refine ⟨F0, B, F, δ, S, q.imp fun d q v F1 H1 S1 e1 e2 n1 r1 => ⟨F0, B, F1, δ, S1, ?_⟩⟩
      rw [Ans.bind_iff] at q
      exact q.mono (fun ds _ q vs F2 H2 S2 e3 e4 n2 r2 => q (v :: vs) F2 H2 S2 (e1.trans e3) (e2.trans e4) (n1.trans (n2.back e2)) (.cons (Rp.mono e3 _ _ r1) r2)) fun c i z => W.mono _ _ _ _ _ e2 z
    | true =>
      obtain ⟨e', p', rfl⟩ : ∃ e' p', e = .Starred e' p' := by
        cases e <;> first | exact ⟨_, _, rfl⟩ | cases hb
      refine PA.imp (StX.pa_star h ih) fun σ H Q ⟨F0, B, F, δ, S, q⟩ => ?_
      unfold evsS at q
      rw [Ans.bind_iff] at q
      refine ⟨F0, B, F, δ, S, q.imp fun d q v F1 H1 S1 e1 e2 n1 r1 => ?_⟩
      rw [Ans.bind_iff] at q
      cases ha : asList d with
      | ok ys =>
        rw [ha] at q
        obtain ⟨p2, xs, ev, sq, rs⟩ := seq_of S1.FH r1 ha
        refine ⟨p2, xs, ev, sq, F0, B, F1, δ, S1, ?_⟩
        have q : Ans ((evsS fs δ).bind fun xs => Dv.R.ok (ys ++ xs)) _ _ := q
        rw [Ans.bind_iff] at q
        exact q.mono (fun ds _ q vs F2 H2 S2 e3 e4 n2 r2 => q (xs ++ vs) F2 H2 S2 (e1.trans e3) (e2.trans e4) (n1.trans (n2.back e2)) ((Rps.mono e3 _ _ rs).append r2)) fun c i z => W.mono _ _ _ _ _ e2 z
      | err c i => cases d <;> cases ha
      | bad => rw [ha] at q; exact q.elim
theorem je_listS {es : List Expr} {fs : List (Bool × DE)} (h : PA X es (tJAS X.K W a fs)) : JE X W a (.List es pos) (eLstS fs) 3 := (pe_lst h).imp fun σ H Q ⟨F0, B, F, δ, S, q⟩ => by
  unfold eLstS at q
  rw [Ans.bind_iff] at q
  refine ⟨F0, B, F, δ, S, q.imp fun ds q vs F1 H1 S1 e1 e2 n1 r1 => ?_⟩
  by_cases hl : ds.length ≤ lim
  · rw [if_pos hl] at q
    refine ⟨by rw [r1.length]; exact line_of hl, fun p hp => ?_⟩
    have fp : F1 p = none := S1.FH.free hp
    have g := same_new (o := .lst vs) hp
    exact q (.ref p) F1 (upd H1 p (.lst vs)) (S1.grow g) e1 (e2.trans g) n1 (.mkL ⟨p, vs, rfl, fp, e2.free hp, upd_same, r1⟩)
  · rw [if_neg hl] at q; exact q.elim
theorem je_tupS {es : List Expr} {fs : List (Bool × DE)} {j : Nat} (h : PA X es (tJAS X.K W a fs)) : JE X W a (.Tuple es j pos) (eTupS fs) 3 := (pe_tup h).imp fun σ H Q ⟨F0, B, F, δ, S, q⟩ => by
  unfold eTupS at q
  rw [Ans.bind_iff] at q
  refine ⟨F0, B, F, δ, S, q.imp fun ds q vs F1 H1 S1 e1 e2 n1 r1 => ?_⟩
  by_cases hl : ds.length ≤ lim
  · rw [if_pos hl] at q
    refine ⟨by rw [r1.length]; exact line_of hl, fun p hp => ?_⟩
    have fp : F1 p = none := S1.FH.free hp
    have g := same_new (o := .tup vs) hp
    have g1 := same_new (o := .tup vs) fp
    refine q (.ref p) (upd F1 p (.tup vs)) (upd H1 p (.tup vs)) (S1.later g1 g (same_upd_to (S1.FH.trans g) upd_same) (New.upd hp)) (e1.trans g1) (e2.trans g) (n1.trans (New.upd (e2.free hp))) ?_
    exact Rp.tup (SqT.of upd_same) (Rps.mono g1 _ _ r1)
  · rw [if_neg hl] at q; exact q.elim
/-! ### enumerate(a tuple) -/
section
open Sem (wp)
set_option maxHeartbeats 1000000 in
/-- the new pair of cells: the tuple's iterator, the counter over it -/
theorem enT_new {v : Value} {ob : Obj} {Hh : Heap → Prop} (bg : Begins v ob Hh) :
    Meets (Builtin.«enumerate.__new__» ⟨[.type "enumerate", v], []⟩) (fun _ P st => Hh st.heap ∧ P (.ok (.ret (.ref (st.heap.push ob).objs.size)))
      { st with heap := (st.heap.push ob).push { cls := .type "enumerate", data := .fields #[.none, .bool false, .ref st.heap.objs.size, rawInt 0, .none, .none] } }) :=
  .of_wp fun pr wo Ar P st hyp => by
    obtain ⟨hh, gg, dd, tt, oo⟩ := st
    obtain ⟨hy1, hy2⟩ := hyp
    have subE := sub_enumerate
    have begun : ∀ {Ar' : Around} {E1 : Value → Shared → Prop} {Q1 : Value → Shared → Prop}, Q1 (.ref hh.objs.size) ⟨hh.push ob, gg, dd, tt, oo⟩ → wpAny (model pr wo) Ar' (pyIter v) Q1 E1 ⟨hh, gg, dd, tt, oo⟩ :=
      fun z => bg.iter pr wo _ _ ⟨hh, gg, dd, tt, oo⟩ _ hy1 z
    wp_walk using begun
    refine wpAny_stack_any fun _ => wpAny_pure ?_
    split
    · rename_i cc _ _ _ _ _
      cases (cc == Value.type "enumerate")
      · (wp_walk using begun); exact ⟨_, rfl, hy2⟩
      · (wp_walk using begun); exact ⟨_, rfl, hy2⟩
    · (wp_walk using begun); exact ⟨_, rfl, hy2⟩
theorem enT_call {pr : Program} {wo : World} {Ar : Around} {E1 : Value → Shared → Prop} {st : Shared} {v : Value} {ob : Obj} {Hh : Heap → Prop} {Q1 : Value → Shared → Prop} (bg : Begins v ob Hh) (hy : Hh st.heap)
    (go : ∀ h2, IsEnum h2 (st.heap.objs.size + 1) st.heap.objs.size 0 .none → h2.get? st.heap.objs.size = some ob → h2.objs.size = st.heap.objs.size + 2 → (∀ b o, st.heap.get? b = some o → h2.get? b = some o) → Q1 (.ref (st.heap.objs.size + 1)) { st with heap := h2 }) :
    wpAny (model pr wo) Ar (call (.type "enumerate") [v]) Q1 E1 st := by
  refine callType_new F.called_enumerate (by decide) (F.typeCall_enumerate_1 _) (F.newCall_enumerate_1 _) (fun z => F.args_object_init_2 z _) F.entry_enumerate_new (enT_new bg) ⟨hy, ?_⟩
  have sz : (st.heap.push ob).objs.size = st.heap.objs.size + 1 := Heap.size_push ..
  show _ ∧ _
  rw [sz]
  have en : IsEnum ((st.heap.push ob).push { cls := .type "enumerate", data := .fields #[.none, .bool false, .ref st.heap.objs.size, rawInt 0, .none, .none] }) (st.heap.objs.size + 1) st.heap.objs.size 0 .none := by
    have z := Heap.get?_push_size (st.heap.push ob) (o := { cls := .type "enumerate", data := .fields #[.none, .bool false, .ref st.heap.objs.size, rawInt 0, .none, .none] }) rfl
    rw [sz] at z
    exact z
  exact ⟨⟨_, en, rfl⟩, go _ en (Heap.get?_push_of_some _ (Heap.get?_push_size _ bg.free)) (by rw [Heap.size_push, sz]) fun b o z => Heap.get?_push_of_some _ (Heap.get?_push_of_some _ z)⟩
end
/-- the tuple at a, each item in a new pair -/
def IteT (K : PySem.W.Frag) (a : Addr) : It :=
  ⟨fun j H => ∃ (ys : List V) (y : V), SqT K H a ys ∧ ys[j]? = some y, fun j H v H' => ∃ T y, v = .ref T ∧ H T = none ∧ H' = upd H T (.tup [.int (j : Nat), y]) ∧ ∀ ys, SqT K H a ys → ys[j]? = some y, fun j H => ∃ ys : List V, SqT K H a ys ∧ ys.length ≤ j⟩
theorem turn_enumT {P : Program} {w : World} {K : PySem.W.Frag} {elts : List Expr} {kk : Nat} {tpos : Pos} (a en it : Addr) :
    Turn P w K (.Tuple elts kk tpos) (IteT K a) [en, it] en (fun j h => (∃ old, IsEnum h en it ((j : Nat) : Int) old) ∧ h.IsTupleIter it a j ∧ en ≠ it ∧ en ≠ a ∧ a ≠ it) where
  mem := by simp
  obj := fun j h st b hb => by
    obtain ⟨⟨old, he⟩, ⟨oi, ho, hc, hd⟩, _⟩ := st
    rcases (show b = en ∨ b = it by simpa using hb) with z | z
    · subst z
      exact ⟨_, he, fun v q => by cases q⟩
    · subst z
      exact ⟨oi, ho, fun v q => by rw [hd] at q; cases q⟩
  keep := fun j h h' st kp => ⟨⟨st.1.choose, kp en (by simp) _ st.1.choose_spec⟩, st.2.1.at fun o q => kp it (by simp) o q, st.2.2⟩
  item := by
    intro X hP hw hK hc j pins s σ H E I hf st hg
    subst hP hw hK
    obtain ⟨⟨old, he⟩, hit, n1, n2, n3⟩ := st
    obtain ⟨ys, y, hq, hy⟩ := hg
    obtain ⟨its, rv, p, hz⟩ := I.tuple hq
    obtain ⟨u, hu, ru⟩ := rv.get hy
    have hel : en < s.heap.objs.size := Heap.lt_size he
    have hil : it < s.heap.objs.size := by obtain ⟨_, q, _⟩ := hit; exact Heap.lt_size q
    have hj : j < its.toArray.size := by
      have := (List.getElem?_eq_some_iff.mp hu).1
      simpa using this
    have tp : s.heap.IsTuple a its.toArray := p
    refine wpAny_pyNext_enum_itemD (Draws.tuple (A := X.A.in1) (I.ok.hd hc) it a n3 its.toArray) he ⟨hit, tp⟩ hj n1 (by simp [n1, n2]) fun x h1 tk hx ho hst hT hsz hk => ?_
    obtain ⟨hit', _⟩ := hst
    have ex : x = u := by
      have e1 : its[j]? = some x := by simpa using hx
      rw [hu] at e1
      exact (Option.some.inj e1).symm
    subst ex
    refine ⟨_, rfl, wpAny_letOwnedTupleGo_enum (s := { s with heap := h1, toks := tk + 1 }) ho fun h2 he' sb => ?_⟩
    have hT2 : h2.get? s.heap.objs.size = some { cls := .type "tuple", data := .seq #[.int j tk, x] } := (sb.2 _ (Nat.ne_of_gt hel)).trans hT
    have made : ObjOk X.prog X.w (upd H s.heap.objs.size (.tup [.int (j : Nat), y])) h2 s.heap.objs.size (.tup [.int (j : Nat), y]) :=
      ⟨by show 2 ≤ sizeLine; decide, [.int j tk, x], .cons ⟨_, rfl⟩ (.cons ru .nil), ⟨_, hT2, rfl, _, rfl⟩⟩
    have I1 : Inv X pins σ (upd H s.heap.objs.size (.tup [.int (j : Nat), y])) { s with heap := h2, toks := tk + 1 } :=
      I.turnedNew (ch := [en, it]) (fun b ob hb q => (sb.2 b (fun z => hb (by simp [z]))).trans (hk b ob (fun z => hb (by simp [z])) (fun z => hb (by simp [z])) q)) hf (Nat.le_refl _) made
    refine ⟨.ref s.heap.objs.size, _, I1, rfl, ⟨_, y, rfl, I.hok.fresh (Nat.le_refl _), rfl, fun zs hzs => by rw [I.tuple_inj hzs hq]; exact hy⟩, ⟨⟨x, ?_⟩, hit'.at fun o q => (sb.2 it (Ne.symm n1)).trans q, n1, n2, n3⟩, fun b hb => ?_⟩
    · have e1 : ((j + 1 : Nat) : Int) = (j : Int) + 1 := by omega
      rw [e1]
      exact he'
    · have hb2 : b < s.heap.objs.size := by
        rcases (show b = en ∨ b = it by simpa using hb) with z | z
        · exact z ▸ hel
        · exact z ▸ hil
      rw [upd_ne (Nat.ne_of_lt hb2)]
      exact (hf b hb).1
  done := by
    intro X hP hw hK hc j pins s σ H E I hf st hg
    subst hP hw hK
    obtain ⟨⟨old, he⟩, hit, n1, n2, n3⟩ := st
    obtain ⟨ys, hq, hy⟩ := hg
    obtain ⟨its, rv, p, hz⟩ := I.tuple hq
    obtain ⟨f0, f1, f2, f3, f4, f5⟩ := hf it (by simp)
    have hl := rv.length
    have tp : s.heap.IsTuple a its.toArray := p
    have D : Draws X.prog X.w X.A.in1 it [it, a] its.toArray.size (fun k v => its.toArray[k]? = some v) (fun k h => (h.IsTupleIter it a k ∨ (its.toArray.size = k ∧ h.IsTupleIter it a j)) ∧ h.IsTuple a its.toArray) := {
      live := fun k h z => by
        rcases z.1 with z1 | ⟨_, z1⟩
        · obtain ⟨o, ho, _⟩ := z1; exact ⟨o, ho⟩
        · obtain ⟨o, ho, _⟩ := z1; exact ⟨o, ho⟩
      frame := fun k h h' z kp => ⟨z.1.imp (fun q => q.at fun o e => kp it (by simp) o e) fun q => ⟨q.1, q.2.at fun o e => kp it (by simp) o e⟩, z.2.at fun o e => kp a (by simp) o e⟩
      item := fun k s Q E hk z hQ => by
        rcases z.1 with z1 | ⟨e1, _⟩
        · exact (Draws.tuple (prog := X.prog) (w := X.w) (A := X.A.in1) (I.ok.hd hc) it a n3 its.toArray).item k s Q E hk ⟨z1, z.2⟩ fun x h' tk h1 h2 h3 => hQ x h' tk h1 ⟨.inl h2.1, h2.2⟩ h3
        · omega
      done := fun s Q E z hE => by
        rcases z.1 with z1 | ⟨_, z1⟩
        · exact wpAny_nextOf_tuple_end (I.ok.hd hc) z1 z.2 (by simp) hE
        · exact wpAny_nextOf_tuple_end (I.ok.hd hc) z1 z.2 (by simp; omega) hE }
    exact wpAny_pyNext_enum_endD D he ⟨.inr ⟨rfl, hit⟩, tp⟩ fun h1 eb => ⟨rfl, I.turned (t' := s.toks) (fun b o hb q => eb b o hb q) f0 f1 f3 f4 f5⟩
  self := fun A j s Q E st h => by
    obtain ⟨⟨_, he⟩, _⟩ := st
    exact wpAny_pyIter_enum he h
def iEnT (K : PySem.W.Frag) (ta : TA) : TI := fun σ H R => ta σ H fun vs H1 => ∃ a ys, vs = [.ref a] ∧ SqT K H1 a ys ∧ R (IteT K a) H1
theorem pi_enT {X : Cx} {e : Expr} {ta : TA} {p pos tpos : Pos} {elts : List Expr} {kk : Nat} (hg : Gl X "enumerate") (hm : X.mg "enumerate" = none) (ha : PA X [e] ta) (hs : starEach [e] X.env = [(false, eval e X.env)]) :
    PI X (.Tuple elts kk tpos) (.Call (.Name "enumerate" p) [e] [] pos) (iEnT X.K ta) := by
  refine ⟨fun pins s σ H R I h => Call_ (ld_blt I hg hm boot_enumerate (PyProof.Rows.callWith_type1 (thn (ha.run pos pins s σ H _ I h) fun us s1 ⟨vs, H1, I1, r1, q1⟩ => ?_) hs rfl))⟩
  obtain ⟨a, ys, rfl, hq, q⟩ := q1
  cases r1 with
  | cons r rr =>
    cases rr
    cases r
    obtain ⟨its, rv, tp, hz⟩ := I1.tuple hq
    have tp : s1.heap.IsTuple a its.toArray := tp
    have ha2 : a < s1.heap.objs.size := by obtain ⟨o, z, _⟩ := tp; exact Heap.lt_size z
    refine enT_call (begins_tuple a its.toArray) tp fun h2 he hit hsz hk => wpAny_pyIter_enum he ?_
    have I2 : Inv X pins σ H1 { s1 with heap := h2 } := I1.kept (t' := s1.toks) hk
    refine ⟨s1.heap.objs.size + 1, [s1.heap.objs.size + 1, s1.heap.objs.size], _, _, H1, rfl, I2, turn_enumT a (s1.heap.objs.size + 1) s1.heap.objs.size, ⟨⟨.none, he⟩, ⟨_, hit, rfl, rfl⟩, Nat.succ_ne_self _, Nat.ne_of_gt (Nat.lt_succ_of_lt ha2), Nat.ne_of_lt ha2⟩, fun b hb => ?_, q⟩
    have hle : s1.heap.objs.size ≤ b := by
      rcases (show b = s1.heap.objs.size + 1 ∨ b = s1.heap.objs.size by simpa using hb) with z | z
      · rw [z]; exact Nat.le_succ _
      · rw [z]; exact Nat.le_refl _
    exact I1.fpOk hle (I1.hok.fresh hle)
end Dv
/-! Dv25: sets of ints and texts: made from a list, told, counted. -/
namespace Dv
open PySem PySem.Spec PyProof.Rows L2
/-- the key that a member stands for -/
def kOf (e : Int × Value) : Key := match e.2 with | .int k _ => .inl k | .str x _ => .inr x | _ => .inl 0
theorem kOf_of {e : Int × Value} {k : Key} (h : keyIs k e.2 = true) : kOf e = k := by
  unfold kOf
  rcases keyIs_shape h with ⟨i, t, rfl, q⟩ | ⟨x, t, rfl, q⟩ <;> rw [q]
theorem scan_of {v : Value} {k : Key} (h : keyIs k v = true) : v.scannable = true := by
  rcases keyIs_shape h with ⟨i, t, rfl, rfl⟩ | ⟨x, t, rfl, rfl⟩ <;> rfl
/-- the set of keys at a, its table in rising order -/
structure SetG (P : Program) (w : World) (a : Addr) (ks : List Key) (h : Heap) : Prop where
  go : ∃ o es ep t, h.get? a = some o ∧ o.ExactSet ∧ o.data = .set es ep t ∧ ElemsOf (mixKind P w) es.toList ∧ es.toList.map kOf = ks ∧ ks.Nodup ∧
    es.size < scanBound ∧ t.fits es.size = true ∧ Ris t.place.toList ∧ (w.params.followText "set-order" = true ∨ t.led = true)
section
variable {P : Program} {w : World} {A : Around} {E : Value → Shared → Prop} {s : Shared} {h h' : Heap} {a : Addr} {ks : List Key}
theorem SetG.at (R : SetG P w a ks h) (k : ∀ o, h.get? a = some o → h'.get? a = some o) : SetG P w a ks h' := by
  obtain ⟨o, es, ep, t, ho, r⟩ := R.go
  exact ⟨o, es, ep, t, k o ho, r⟩
theorem kOf_mem {l : List (Int × Value)} (g : ElemsOf (mixKind P w) l) (k : Key) : k ∈ l.map kOf ↔ ∃ e ∈ l, (mixKind P w).is k e.2 = true := by
  rw [List.mem_map]
  constructor
  · rintro ⟨e, he, q⟩
    obtain ⟨⟨k', h1, _⟩, _⟩ := g e he
    have := kOf_of h1
    rw [q] at this
    subst this
    exact ⟨e, he, h1⟩
  · rintro ⟨e, he, q⟩
    exact ⟨e, he, kOf_of q⟩
/-- the end of an addition: the new entries are stored, the table laid anew if it is too full -/
theorem setG_store {g : Bool → Sem Unit} (hg : ∀ (b : Bool) (s₁ : Shared) (Q' : Unit → Shared → Prop), Q' () s₁ → wpAny (model P w) A (g b) Q' E s₁)
    {o : Obj} {es : Array (Int × Value)} {ep : Nat} {t : SetTable} (ho : s.heap.get? a = some o) (hex : o.ExactSet) (hd : o.data = .set es ep t)
    {es1 : Array (Int × Value)} {t2 : SetTable} (g1 : ElemsOf (mixKind P w) es1.toList) (nd1 : (es1.toList.map kOf).Nodup)
    (hb1 : es1.size < scanBound) (hf2 : t2.fits es1.size = true) (hr : Ris t2.place.toList) (hl : w.params.followText "set-order" = true ∨ t2.led = true) {wasDummy : Bool} {R : Option Bool → Shared → Prop}
    (hR : ∀ h' l, Heap.SameBut a s.heap h' → l.Perm (es1.toList.map kOf) → SetG P w a l h' → R (some true) { s with heap := h' }) :
    wpAny (model P w) A (do
        storeSet a es1 t2
        if (!wasDummy && t2.tooFull) = true then do
            g (relayAll t2 es1 (SetTable.grown es1.size)).2.2
            storeSet a (relayAll t2 es1 (SetTable.grown es1.size)).1 (relayAll t2 es1 (SetTable.grown es1.size)).2.1
            pure (some true)
          else pure (some true)) R E s := by
  refine wpAny_bind (wpAny_storeSet_of ho hd ?_ (fits_of_scanBound hb1))
  have ho1 := store_at (es' := es1) (t' := t2) ho hd
  have sb1 := Heap.SameBut.update s.heap a (Obj.putSet es1 t2)
  split
  · have pm := relayAll_perm t2 es1 (SetTable.grown es1.size)
    have hf3 := relayAll_fits t2 es1 (SetTable.grown es1.size)
    have hr3 := relayAll_ris t2 es1 (SetTable.grown es1.size)
    have hl3 := relayAll_led t2 es1 (SetTable.grown es1.size)
    generalize relayAll t2 es1 (SetTable.grown es1.size) = Z at pm hf3 hr3 hl3 ⊢
    obtain ⟨es2, t3, gave⟩ := Z
    dsimp only at pm hf3 hr3 hl3 ⊢
    have hsz : es2.size = es1.size := by rw [← Array.length_toList, pm.length_eq, Array.length_toList]
    have hb2 : es2.size < scanBound := by rw [hsz]; exact hb1
    refine wpAny_bind (hg _ _ _ ?_)
    refine wpAny_bind (wpAny_storeSet_of ho1 rfl ?_ (fits_of_scanBound hb2))
    have ho2 := store_at (es' := es2) (t' := t3) ho1 rfl
    exact wpAny_pure (hR _ _ (sb1.trans (Heap.SameBut.update _ a _)) (pm.map kOf)
      ⟨_, es2, _, t3, ho2, hex, rfl, fun e he => g1 e (pm.mem_iff.mp he), rfl, (pm.map kOf).nodup_iff.mpr nd1, hb2, hf3, hr3, hl.imp id fun z => by rw [hl3]; exact z⟩)
  · exact wpAny_pure (hR _ _ sb1 (List.Perm.refl _) ⟨_, es1, _, t2, ho1, hex, rfl, g1, rfl, nd1, hb1, hf2, hr, hl⟩)
/-- a key added -/
theorem setG_add {k : Key} {v : Value} {Q : Bool → Shared → Prop} (hkey : (mixKind P w).is k v = true) (R : SetG P w a ks s.heap) (room : ks.length + 1 < scanBound)
    (hQ : ∀ b h' l, Heap.SameBut a s.heap h' → (k ∈ ks ∧ l = ks) ∨ (k ∉ ks ∧ l.Perm (k :: ks)) → SetG P w a l h' → Q b { s with heap := h' }) :
    wpAny (model P w) A (setAddHashed a v ((mixKind P w).hash k)) Q E s := by
  obtain ⟨o, es, ep, t, ho, hex, hd, g, hks, nd, hb, hf, hr, hl⟩ := R.go
  have hsc : v.scannable = true := scan_of hkey
  have hsz0 : es.size = ks.length := by rw [← hks, List.length_map, Array.length_toList]
  unfold setAddHashed setAddHashedIn
  refine wpAny_holding (wpAny_bind (wpAny_setState_of ho hd hf ?_))
  dsimp only
  rw [byScan_of hsc hb g]
  simp only [↓reduceIte]
  unfold setAddByScan
  refine wpAny_bind ?_
  refine wpAny_bind (wpAny_rule ?_)
  refine wpAny_bind (wpAny_setScan_of hkey ho hd hf g ?_)
  cases hfi : List.findIdx? (fun e => (mixKind P w).is k e.2) es.toList with
  | some j =>
    dsimp only
    obtain ⟨hj, pj, _⟩ := List.findIdx?_eq_some_iff_getElem.mp hfi
    have hk : k ∈ ks := hks ▸ (kOf_mem g k).2 ⟨es.toList[j], List.getElem_mem hj, pj⟩
    exact wpAny_pure (wpAny_pure (hQ _ s.heap ks (Heap.SameBut.refl a s.heap) (.inl ⟨hk, rfl⟩) R))
  | none =>
    dsimp only
    have hnk : k ∉ ks := fun z => by
      rw [← hks] at z
      obtain ⟨e, he, q⟩ := (kOf_mem g k).1 z
      have c := List.findIdx?_eq_none_iff.mp hfi e he
      rw [q] at c
      cases c
    have hgw : ∀ (b : Bool) {s₁ : Shared} {Q' : Unit → Shared → Prop}, Q' () s₁ → wpAny (model P w) A (match b with | true => rule "set.scan.the-table-gave-way" | false => pure ()) Q' E s₁ :=
      fun b s₁ Q' q => by cases b <;> first | exact wpAny_pure q | exact wpAny_rule q
    have pm := layNew_perm t es ((mixKind P w).hash k) v
    have hf1 := layNew_fits t es ((mixKind P w).hash k) v
    have hr1 := layNew_ris t es ((mixKind P w).hash k) v hr
    have hl1 := layNew_led t es ((mixKind P w).hash k) v
    generalize layNew t es ((mixKind P w).hash k) v = Z at pm hf1 hr1 hl1 ⊢
    obtain ⟨es1, t1, wasDummy, gave⟩ := Z
    dsimp only at pm hf1 hr1 hl1 ⊢
    rw [Array.toList_push] at pm
    have pc : es1.toList.Perm (((mixKind P w).hash k, v) :: es.toList) := pm.trans (List.perm_append_singleton _ _)
    have ek : kOf ((mixKind P w).hash k, v) = k := kOf_of hkey
    have pk : (es1.toList.map kOf).Perm (k :: ks) := by
      have := pc.map kOf
      rw [List.map_cons, ek, hks] at this
      exact this
    have g1 : ElemsOf (mixKind P w) es1.toList := fun e he => by
      rcases List.mem_cons.mp (pc.mem_iff.mp he) with z | z
      · rw [z]; exact ⟨⟨k, hkey, rfl⟩, hsc⟩
      · exact g e z
    have nd1 : (es1.toList.map kOf).Nodup := pk.nodup_iff.mpr (List.nodup_cons.mpr ⟨hnk, nd⟩)
    have hsz : es1.size = ks.length + 1 := by rw [← Array.length_toList, ← List.length_map (f := kOf), pk.length_eq, List.length_cons]
    have hb1 : es1.size < scanBound := by rw [hsz]; exact room
    have hled : w.params.followText "set-order" = true ∨ t1.led = true := hl.imp id fun z => by rw [hl1]; exact z
    have fin : ∀ h' l, Heap.SameBut a s.heap h' → l.Perm (es1.toList.map kOf) → SetG P w a l h' → Q true { s with heap := h' } := fun h' l sb pl r => hQ _ h' l sb (.inr ⟨hnk, pl.trans pk⟩) r
    refine wpAny_bind (hgw _ ?_)
    split
    · refine wpAny_bind ?_
      rw [hashByValue_scannable 8 hsc]
      refine wpAny_pure ?_
      refine setG_store ?_ ho hex hd g1 nd1 hb1 ?_ ?_ ?_ ?_
      · intro b s₁ Q' q; cases b <;> first | exact wpAny_pure q | exact wpAny_rule q
      · first | (split <;> first | exact hf1 | exact SetTable.fits_plain_off hf1) | exact hf1
      · first | (split <;> exact hr1) | exact hr1
      · first | (split <;> exact hled) | exact hled
      · intro h' l sb pl r; dsimp only; exact wpAny_pure (fin h' l sb pl r)
    · refine wpAny_bind (wpAny_pure ?_)
      simp only [↓reduceIte]
      refine setG_store ?_ ho hex hd g1 nd1 hb1 hf1 hr1 hled ?_
      · intro b s₁ Q' q; cases b <;> first | exact wpAny_pure q | exact wpAny_rule q
      · intro h' l sb pl r; dsimp only; exact wpAny_pure (fin h' l sb pl r)
theorem setG_fresh (ho : h.get? a = some { cls := .type "set", dict := none, data := .set #[] 0 (.fresh 0 0 (!w.params.followText "set-order")) }) : SetG P w a [] h :=
  ⟨_, #[], 0, _, ho, ⟨rfl, rfl, rfl⟩, rfl, (fun e he => by simp at he), rfl, List.nodup_nil, (by decide), (by rfl), List.Pairwise.nil, by
    show _ ∨ (!w.params.followText "set-order") = true
    cases w.params.followText "set-order"
    · exact .inr rfl
    · exact .inl rfl⟩
end
end Dv
/-! Dv26: set(list of keys). -/
namespace Dv
open PySem PySem.Spec PyProof.Rows L2
section
variable {P : Program} {w : World} {A : Around} {E : Value → Shared → Prop} {s : Shared} {h h' : Heap} {a : Addr} {ks : List Key}
/-- the members of what was read so far -/
structure GotK (ks : List Key) (i : Nat) (l : List Key) : Prop where
  mem : ∀ k, k ∈ l ↔ k ∈ ks.take i
  few : l.length ≤ i
theorem setG_update {I : Addr} {fp wr : List Addr} {G : Array GenState → Array GenState → Prop} {n : Nat} {Pv : Nat → Value → Prop} {St : Nat → Shared → Prop} {R : Result → Shared → Prop}
    (W : WalksS P w A.in1 I fp wr G n Pv St) (S : Addr) (hSf : S ∉ fp) (ks : List Key) (hn : n = ks.length) (hb : ks.length + 1 < scanBound) (hval : ∀ i v, Pv i v → ∃ k, ks[i]? = some k ∧ keyIs k v = true) :
    ∀ (m i : Nat) (s : Shared), n - i = m → i ≤ n → St i s → (∃ l, GotK ks i l ∧ SetG P w S l s.heap) →
      (∀ s' l, Moved (S :: wr) G s s' → GotK ks n l → SetG P w S l s'.heap → R (.ok (.ret .none)) s') →
      codeAny (model P w) A (.builtin "set.update.loop" ⟨[.ref S, .ref I], []⟩) R s := by
  have hSw : S ∉ wr := fun h => hSf (W.sub _ h)
  have hsub : ∀ b ∈ wr, b ∈ S :: wr := fun b hb => List.mem_cons_of_mem _ hb
  intro m
  induction m with
  | zero =>
    intro i s hk' hi hst ⟨l, hl, hS⟩ hR
    obtain rfl : i = n := by omega
    refine codeAny_builtin F.entry_set_update_loop ?_
    rw [Around.under_plainId F.plain_set_update_loop _]
    show wpAny _ A.in1 (pyNext (.ref I) >>= _) _ _ s
    refine wpAny_bind (W.done s _ _ hst fun s' hm => ?_)
    show wpAny _ A.in1 (ret Value.none) _ _ s'
    exact wpAny_pure (hR s' l (hm.mono hsub) hl (hS.at fun o e => hm.heap S o hSw e))
  | succ m ih =>
    intro i s hk' hi hst ⟨l, hl, hS⟩ hR
    have hlt : i < n := by omega
    refine codeAny_builtin F.entry_set_update_loop ?_
    rw [Around.under_plainId F.plain_set_update_loop _]
    show wpAny _ A.in1 (pyNext (.ref I) >>= _) _ _ s
    refine wpAny_bind (W.item i s _ _ hlt hst fun v s' hP hst' hm => ?_)
    obtain ⟨z, hz, hkz⟩ := hval i v hP
    have hS' : SetG P w S l s'.heap := hS.at fun o e => hm.heap S o hSw e
    show wpAny _ A.in1 (holding [v] (setAdd S v) >>= _) _ _ s'
    refine wpAny_bind (wpAny_holding ?_)
    unfold setAdd
    refine wpAny_holding ?_
    refine wpAny_bind ((mixKind P w).pyHash (k := z) hkz ?_)
    have hroom : l.length + 1 < scanBound := by have := hl.few; omega
    refine setG_add (s := { s' with toks := s'.toks + 1 }) hkz hS' hroom fun b h' l' hsb hp hS2 => ?_
    have hl' : GotK ks (i + 1) l' := by
      rcases hp with ⟨hz', rfl⟩ | ⟨hz', pp⟩
      · refine ⟨fun k => ?_, Nat.le_succ_of_le hl.few⟩
        rw [hl.mem, List.take_add_one, hz, Option.toList_some, List.mem_append, List.mem_singleton]
        exact ⟨.inl, fun q => q.elim id fun e => by rw [e]; exact (hl.mem z).mp hz'⟩
      · refine ⟨fun k => ?_, by rw [pp.length_eq, List.length_cons]; exact Nat.succ_le_succ hl.few⟩
        rw [pp.mem_iff, List.mem_cons, hl.mem, List.take_add_one, hz, Option.toList_some, List.mem_append, List.mem_singleton]
        exact Or.comm
    refine wpAny_pure ⟨plainId_quiet F.plain_set_update_loop _, ih (i + 1) _ (by omega) hlt (W.frame _ s' _ _ hst' (Nat.le_succ _) fun b hb o e => ?_) ⟨_, hl', hS2⟩ fun s'' l2 hm'' hl'' hS'' => ?_⟩
    · rw [hsb.2 b (fun h : b = S => hSf (by rw [← h]; exact hb))]; exact e
    · refine hR s'' l2 (Moved.trans W.gtrans ((hm.mono hsub).then_heap (Nat.le_succ _) fun b o hb e => ?_) hm'') hl'' hS''
      rw [hsb.2 b (fun h : b = S => hb (by rw [h]; exact List.mem_cons_self))]; exact e
/-- an empty set -/
abbrev mtSet (w : World) : Obj := { cls := .type "set", dict := none, data := .set #[] 0 (.fresh 0 0 (!w.params.followText "set-order")) }
set_option maxHeartbeats 3200000 in
theorem setG_list {l : Addr} {items : Array Value} {Q : Value → Shared → Prop} (hh : A.handled = none) (hl : s.heap.IsList l items) (hisz : items.size = ks.length) (hval : ∀ (i : Nat) (v : Value), items[i]? = some v → ∃ k, ks[i]? = some k ∧ keyIs k v = true)
    (hb : ks.length + 1 < scanBound)
    (h : ∀ (h' : Heap) (tk : Nat) l, SetG P w s.heap.objs.size l h' → GotK ks ks.length l → (∀ b o, s.heap.get? b = some o → h'.get? b = some o) → Q (.ref s.heap.objs.size) { s with heap := h', toks := tk }) :
    wpAny (model P w) A (call (.type "set") [.ref l]) Q E s := by
  obtain ⟨c, tl, hmro⟩ := F.called_set.mro
  have hmade := F.called_set.made
  have hsub := F.called_set.sub
  refine wpAny_call (codeAny_of_tree ?_)
  show wpAny _ _ (callAny (.type "set") _) _ _ _
  refine wpAny_pure ⟨Code.quiet_builtin _ (by decide +kernel), codeAny_builtin F.entry_type_call ?_⟩
  rw [Around.under_plain (weight_type_call_type "set" [.ref l] []) rfl]
  have h1 := F.called_set.notType
  have h2 := F.called_set.canCreate
  have hct := F.typeCall_set_1 (.ref l)
  repeat (any_goals (first | assumption | wp_step))
  refine codeAny_mono (code_set_led1 (.ref l) (E := E) (Q₁ := fun obj s₁ => obj = .ref s.heap.objs.size ∧ s₁ = { s with heap := s.heap.push (mtSet w) }) ⟨rfl, rfl⟩) fun r s₁ hr => ?_
  cases r with
  | error e => exact hr
  | ok fl =>
    cases fl with
    | ret obj =>
      obtain ⟨rfl, rfl⟩ := hr
      have hS : (s.heap.push (mtSet w)).get? s.heap.objs.size = some (mtSet w) := Heap.get?_push_size _ rfl
      have hT : Shared.TypeIs { s with heap := s.heap.push (mtSet w) } (.ref s.heap.objs.size) "set" := ⟨_, hS, rfl⟩
      have hli := F.called_set.init.lookup
      have hbi := F.called_set.init.bind (.ref s.heap.objs.size)
      repeat (any_goals (first | assumption | wp_step))
      refine codeAny_mono (codeAny_call_builtin (R := wants (fun r s₂ => r = .none ∧ ∃ h' tk l', s₂ = { s with heap := h', toks := tk } ∧ SetG P w s.heap.objs.size l' h' ∧ GotK ks ks.length l' ∧
          (∀ b o, s.heap.get? b = some o → h'.get? b = some o)) E) F.called_set.init.plain F.entry_set_init (check_set_init_1 hT ?_)) fun r₂ s₂ hr₂ => ?_
      · obtain ⟨ol, hol, hcl, nl, hdl⟩ := hl
        obtain ⟨ocls, odict, odata, oslots⟩ := ol
        simp only at hcl hdl
        subst hcl; subst hdl
        have hol' : (s.heap.push (mtSet w)).get? l = some { cls := .type "list", dict := odict, data := .seq items nl, slots := oslots } := Heap.get?_push_of_some _ hol
        have hsls := F.sub_list_set
        have hslf := F.sub_list_frozenset
        have hne : (Value.type "list" == Value.type "dict") = false := by decide
        have hl1 : (s.heap.push (mtSet w)).IsList l items := ⟨_, hol', rfl, nl, rfl⟩
        unfold Builtin.«set.__init__» noKeywords Builtin.Frozenset.updateFrom
        generalize hPI : pyIter = PI
        wp_walk
        subst hPI
        refine wpAny_pyIter_list hl1 ?_
        refine wpAny_bind (wpAny_runValue ?_)
        have hlS : l < s.heap.objs.size := Heap.lt_size hol
        have hh3 : A.in1.in1.in1.handled = none := by simp [hh]
        have hz1 : (s.heap.push (mtSet w)).objs.size = s.heap.objs.size + 1 := Heap.size_push ..
        have hneI : l ≠ (s.heap.push (mtSet w)).objs.size := by rw [Heap.size_push]; exact Nat.ne_of_lt (Nat.lt_succ_of_lt hlS)
        have hSf : s.heap.objs.size ∉ [(s.heap.push (mtSet w)).objs.size, l] := by
          rw [Heap.size_push]; simp only [List.mem_cons, List.not_mem_nil, or_false, not_or]
          exact ⟨Nat.ne_of_lt (Nat.lt_succ_self _), Nat.ne_of_gt hlS⟩
        refine setG_update ((Walks.list hh3 _ l hneI items).toS) s.heap.objs.size hSf ks hisz hb hval (items.size - 0) 0 _ (by omega) (Nat.zero_le _)
          ⟨⟨_, Heap.get?_push_size _ rfl, rfl, rfl⟩, (hl1.push _)⟩ ⟨[], ⟨fun k => (by simp), Nat.le_refl _⟩, setG_fresh (Heap.get?_push_of_some _ hS)⟩ fun s' l' hm hl' hS' => ?_
        obtain ⟨h', g2, d', tk', os'⟩ := s'
        have eg : g2 = s.gens := hm.gens
        have ed : d' = s.drawn := hm.drawn
        have eo : os' = s.os := hm.os
        subst eg; subst ed; subst eo
        show wpAny _ _ _ _ _ _
        refine wpAny_pure ?_
        show wpAny _ _ (ret Value.none) _ _ _
        rw [hisz] at hl'
        refine wpAny_pure ⟨rfl, h', tk', l', rfl, hS', hl', fun b o e => ?_⟩
        have hb0 : b < s.heap.objs.size := Heap.lt_size e
        exact hm.heap b o (by rw [Heap.size_push]; simp only [List.mem_cons, List.not_mem_nil, or_false, not_or]; exact ⟨Nat.ne_of_lt hb0, Nat.ne_of_lt (Nat.lt_succ_of_lt hb0)⟩) (Heap.get?_push_of_some _ (Heap.get?_push_of_some _ e))
      · cases r₂ with
        | error e => exact hr₂
        | ok fl₂ =>
          cases fl₂ with
          | ret r =>
            obtain ⟨rfl, h', tk, l', rfl, hS', g', hk'⟩ := hr₂
            repeat (any_goals (first | assumption | wp_step))
            exact h _ _ _ hS' g' hk'
          | _ => exact hr₂.elim
    | _ => exact hr.elim
end
end Dv
/-! Dv27: len(set(xs)), sorted(set(xs)). -/
namespace Dv
open PySem PySem.Spec PyProof.Rows L2
theorem relK {k : Key} {u : Value} (h : keyIs k u = true) : RelV (kV k) u := by
  rcases keyIs_shape h with ⟨i, t, rfl, rfl⟩ | ⟨x, t, rfl, rfl⟩ <;> exact ⟨t, rfl⟩
theorem keyK {k : Key} {u : Value} (h : RelV (kV k) u) : keyIs k u = true := by
  cases k with
  | inl i => obtain ⟨t, rfl⟩ := h; exact beq_self_eq_true i
  | inr x => obtain ⟨t, rfl⟩ := h; exact beq_self_eq_true x
theorem vals_key : ∀ {ks : List Key} {us : List Value}, Vals (ks.map kV) us → ∀ (i : Nat) (v : Value), us[i]? = some v → ∃ k, ks[i]? = some k ∧ keyIs k v = true
  | [], _, .nil, i, v, h => by cases h
  | k :: ks, _, .cons a b, i, v, h => by
    cases i with
    | zero => cases h; exact ⟨k, rfl, keyK a⟩
    | succ i => exact vals_key b i v h
section
variable {X : Cx} {pins : List (Addr × Obj)} {σ : L2.St} {H : Hp} {s : Shared} {ta : TE}
/-- len(set(e)) -/
def tLenSetK (K : PySem.W.Frag) (ta : TE) : TE := fun σ H Q => ta σ H fun x H1 => ∃ (l : Addr) (ks : List Key), x = V.ref l ∧ SqL K H1 l (ks.map kV) ∧ ks.length + 1 < scanBound ∧
  ∀ us : List Key, us.Nodup → (∀ k, k ∈ us ↔ k ∈ ks) → Q (.int us.length) H1
theorem pe_lenSetK {a : Expr} {p p2 q pos : Pos} (hc : X.calm = true) (hg : Gl X "len") (hm : X.mg "len" = none) (hg2 : Gl X "set") (hm2 : X.mg "set" = none) (ha : PE X a ta)
    (na : starEach [a] X.env = (false, eval a X.env) :: starEach [] X.env := by rfl) : PE X (.Call (.Name "len" p) [.Call (.Name "set" p2) [a] [] q] [] pos) (tLenSetK X.K ta) := by
  refine ⟨fun pins s σ H Q I h => ?_⟩
  refine Call_ (ld_blt I hg hm PySem.boot_len ?_)
  refine PyProof.Rows.callWith_builtin1 (PyProof.Rows.args_cons ?_ rfl) rfl rfl
  refine Call_ (ld_blt I hg2 hm2 PyProof.Rows.boot_set ?_)
  refine PyProof.Rows.callWith_type1 (PyProof.Rows.args_cons (thn (ha.run pins s σ H _ I h) fun v s1 ⟨x, H1, I1, r1, q1⟩ => PyProof.Rows.args_nil ?_) na) na rfl
  obtain ⟨l, ks, rfl, hq, hb, q1⟩ := q1
  cases r1
  obtain ⟨its, r, pl, hz⟩ := I1.list hq
  have hl : its.toArray.size = ks.length := by rw [List.size_toArray, ← r.length, List.length_map]
  refine setG_list (I1.ok.hd hc) pl.isList (ks := ks) hl (fun i v e => vals_key r i v (by simpa using e)) hb fun h' tk us R g hk => ?_
  refine PyProof.Rows.args_nil ?_
  obtain ⟨o, es, ep, t, ho, hex, hd, _, he, nd, hsz, hf, _⟩ := R.go
  have I2 : Inv X pins σ H1 { s1 with heap := h', toks := tk } := I1.kept fun b o e => hk b o e
  have hn : es.size = us.length := by rw [← he, List.length_map, Array.length_toList]
  have h63 : (es.size : Int) < 2 ^ 63 := by
    have : scanBound = 4096 := rfl
    omega
  refine call_len_set ho hex hd hf h63 ⟨.int us.length, H1, I2.tok _, ⟨_, by rw [hn]⟩, q1 us nd fun k => ?_⟩
  rw [g.mem, List.take_length]
/-- a member's key, told by its value -/
def kV1 (v : Value) : Key := kOf (0, v)
theorem kV1_of {v : Value} {k : Key} (h : keyIs k v = true) : kV1 v = k := kOf_of (e := (0, v)) h
theorem each_keys {P : Program} {w : World} : ∀ {vs : List Value}, (∀ v ∈ vs, ∃ k, keyIs k v = true) → PySem.W.EachIs (fun u d => ∃ k, RelV (kV k) u ∧ d = kD k) vs ((vs.map kV1).map kD)
  | [], _ => .nil
  | v :: vs, h => by
    obtain ⟨k, hk⟩ := h v List.mem_cons_self
    exact .cons ⟨k, relK hk, by rw [kV1_of hk]⟩ (each_keys (P := P) (w := w) fun u hu => h u (List.mem_cons_of_mem _ hu))
theorem each_keys_read {h : Heap} {A : Addr} : ∀ {vs : List Value}, (∀ v ∈ vs, ∃ k, keyIs k v = true) → PySem.W.EachIs (fun v b => ∃ as, Reads h v (id b) as ∧ A ∉ as) vs ((vs.map kV1).map kD)
  | [], _ => .nil
  | v :: vs, h => by
    obtain ⟨k, hk⟩ := h v List.mem_cons_self
    refine .cons ?_ (each_keys_read fun u hu => h u (List.mem_cons_of_mem _ hu))
    rw [kV1_of hk]
    cases k with
    | inl i => obtain ⟨t, rfl⟩ := relK hk; exact ⟨[], .int i t, by simp⟩
    | inr x => obtain ⟨t, rfl⟩ := relK hk; exact ⟨[], .str x t, by simp⟩
theorem each_back : ∀ {us : List Value} {ds : List D}, PySem.W.EachIs (fun u d => ∃ k, RelV (kV k) u ∧ d = kD k) us ds → ∃ zs : List Key, Vals (zs.map kV) us ∧ zs.map kD = ds
  | _, _, .nil => ⟨[], .nil, rfl⟩
  | _, _, .cons ⟨k, a, e⟩ t => by
    obtain ⟨zs, b, c⟩ := each_back t
    exact ⟨k :: zs, .cons a b, by rw [List.map_cons, c, e]⟩
/-- sorted(set(e)) -/
def tSortSetK (K : PySem.W.Frag) (ta : TE) : TE := fun σ H Q => ta σ H fun x H1 => ∃ (l : Addr) (ks : List Key), x = V.ref l ∧ SqL K H1 l (ks.map kV) ∧ ks.length + 1 < scanBound ∧
  ∀ us : List Key, us.Nodup → (∀ k, k ∈ us ↔ k ∈ ks) → sortOk (us.map kD) = true ∧ ∀ (zs : List Key) (p : Addr), zs.map kD = sortL (us.map kD) → H1 p = none → Q (.ref p) (upd H1 p (.lst (zs.map kV)))
theorem pe_sortSetK {n : Nat} (hr : Room n X.A) {a : Expr} {p p2 q pos : Pos} (hc : X.calm = true) (hg : Gl X "sorted") (hm : X.mg "sorted" = none) (hg2 : Gl X "set") (hm2 : X.mg "set" = none) (ha : PE X a ta)
    (na : starEach [a] X.env = (false, eval a X.env) :: starEach [] X.env := by rfl) : PE X (.Call (.Name "sorted" p) [.Call (.Name "set" p2) [a] [] q] [] pos) (tSortSetK X.K ta) := by
  refine ⟨fun pins s σ H Q I h => ?_⟩
  refine Call_ (ld_blt I hg hm PyProof.Rows.boot_sorted ?_)
  refine PyProof.Rows.callWith_builtin1 (PyProof.Rows.args_cons ?_ rfl) rfl rfl
  refine Call_ (ld_blt I hg2 hm2 PyProof.Rows.boot_set ?_)
  refine PyProof.Rows.callWith_type1 (PyProof.Rows.args_cons (thn (ha.run pins s σ H _ I h) fun v s1 ⟨x, H1, I1, r1, q1⟩ => PyProof.Rows.args_nil ?_) na) na rfl
  obtain ⟨l, ks, rfl, hq, hb, q1⟩ := q1
  cases r1
  obtain ⟨its, r, pl, hz⟩ := I1.list hq
  have hl : its.toArray.size = ks.length := by rw [List.size_toArray, ← r.length, List.length_map]
  refine setG_list (I1.ok.hd hc) pl.isList (ks := ks) hl (fun i v e => vals_key r i v (by simpa using e)) hb fun h' tk us0 R g hk => ?_
  refine PyProof.Rows.args_nil ?_
  have I2 : Inv X pins σ H1 { s1 with heap := h', toks := tk } := I1.kept fun b o e => hk b o e
  obtain ⟨o, es, ep, t, ho, hex, hd, gE, he, nd, hsz, hf, hri, hle⟩ := R.go
  refine Calls.call_function_entry PyProof.Rows.kind_sorted PyProof.Rows.plain_sorted PyProof.Rows.entry_sorted (PyProof.Rows.args_sorted1 _) ?_
  unfold Builtin.«sorted»
  refine wpAny_bind (m := checkCount "sorted" 1 1 _) (wpAny_pure ?_)
  refine wpAny_bind (collect_set (A := X.A.in1) (I1.ok.hd hc) ⟨o, ho, hex.1, hd⟩ hf hsz hri hle fun s2 vs k2 hz2 g2 o2 pm => ?_)
  have hkv : ∀ v ∈ vs, ∃ k, keyIs k v = true := fun v hv => by
    obtain ⟨e, hee, rfl⟩ := List.mem_map.mp (pm.mem_iff.mp hv)
    obtain ⟨⟨k, h1, _⟩, _⟩ := gE e hee
    exact ⟨k, h1⟩
  have pk : (vs.map kV1).Perm us0 := by
    rw [← he]
    refine (pm.map kV1).trans (List.Perm.of_eq ?_)
    rw [List.map_map]
    rfl
  obtain ⟨sok, q1⟩ := q1 (vs.map kV1) (pk.nodup_iff.mpr nd) fun k => by rw [pk.mem_iff, g.mem, List.take_length]
  obtain ⟨h0, h1, hal, hso⟩ := sort_hyps sok
  rw [List.length_map, List.length_map] at h0
  refine wpAny_bind (wpAny_newList ?_ (line_of h0))
  have hoL : (s2.heap.push (seqObj "list" vs.toArray 0)).get? s2.heap.objs.size = some (seqObj "list" vs.toArray 0) := Heap.get?_push_size _ rfl
  have hu := units64 hr
  refine wpAny_bind (wpAny_holding (PySem.W.list_sort_data (enc := id) (R := fun u d => ∃ k, RelV (kV k) u ∧ d = kD k) (s := { s2 with heap := s2.heap.push (seqObj "list" vs.toArray 0) }) hoL (each_keys (P := X.prog) (w := X.w) hkv) (each_keys_read hkv) hal hso (by rw [List.length_map, List.length_map]; exact line_of h0) ?_ fun out ho eo => ?_))
  · intro b hb
    have := fl_depth _ _ (List.all_eq_true.mp h1 b hb)
    have e12 : deep = 12 := rfl
    show _ + 1 + b.depth < _
    have : X.A.in1.units = X.A.units + 1 := rfl
    omega
  · obtain ⟨zs, rv2, ez⟩ := each_back eo
    obtain ⟨e', he'⟩ := PyProof.Rows.sortedHeap_at (vs := vs) (out := out.toArray) hoL
    have hn : H1 s2.heap.objs.size = none := I2.hok.fresh hz2
    have hlen : (zs.map kV).length ≤ sizeLine := by
      rw [rv2.length, ho, List.length_map, List.length_map]; exact line_of h0
    have kk : ∀ b u, h'.get? b = some u → (sortedHeap (s2.heap.push (seqObj "list" vs.toArray 0)) s2.heap.objs.size vs out.toArray).get? b = some u := fun b u e => by
      have q := k2 b u e
      have hlt := Heap.lt_size q
      rw [sortedHeap_old (Nat.ne_of_lt hlt) (by rw [size_push']; exact Nat.lt_succ_of_lt hlt)]
      exact Heap.get?_push_of_some _ q
    have J : Inv X pins σ (upd H1 s2.heap.objs.size (.lst (zs.map kV))) { s1 with heap := sortedHeap (s2.heap.push (seqObj "list" vs.toArray 0)) s2.heap.objs.size vs out.toArray, gens := s2.gens, drawn := s2.drawn, toks := s2.toks } :=
      Inv.call (s := { s1 with heap := h', toks := tk }) (ch := []) I2 (Un.laid kk hz2 hn) (I2.hok.laid kk hz2 ⟨hlen, out, e', rv2, he'⟩) (by rw [g2]; exact I2.bare) (fun _ z => nomatch z)
    have e2 : ({ s2 with heap := sortedHeap (s2.heap.push (seqObj "list" vs.toArray 0)) s2.heap.objs.size vs out.toArray } : Shared) = { s1 with heap := sortedHeap (s2.heap.push (seqObj "list" vs.toArray 0)) s2.heap.objs.size vs out.toArray, gens := s2.gens, drawn := s2.drawn, toks := s2.toks } := by
      cases s2
      cases s1
      cases o2
      rfl
    rw [e2]
    exact wpAny_pure ⟨_, rfl, .ref s2.heap.objs.size, _, J, rfl, q1 zs _ ez hn⟩
end
end Dv
/-! Dv28: the order of a set's members is told by the members alone. -/
namespace Dv
open PySem PySem.Spec PyProof.Rows L2
theorem dl_trans {x y z : D} (h1 : W.dataLt x y = true) (h2 : W.dataLt y z = true) : W.dataLt x z = true := PyProof.Rows.lex_trans _ _ _ h1 h2
theorem dl_neg {x y z : D} (h : W.dataLt x z = true) : W.dataLt x y = true ∨ W.dataLt y z = true := PyProof.Rows.lex_negTrans _ _ _ h
theorem dl_irrefl (x : D) : W.dataLt x x = false := PyProof.Rows.lex_irrefl _
theorem dl_asym {x y : D} (h : W.dataLt x y = true) : W.dataLt y x = false := by
  cases e : W.dataLt y x with
  | false => rfl
  | true => exact absurd (dl_trans h e) (by rw [dl_irrefl]; exact Bool.false_ne_true)
theorem sortL_sorted (xs : List D) : (sortL xs).Pairwise fun x y => W.dataLt y x = false := by
  have := List.pairwise_mergeSort (le := W.dataLe false id) (fun a b c h1 h2 => by
    rw [W.dataLe_eq] at h1 h2 ⊢
    simp only [id, cond_false, Bool.not_eq_true'] at h1 h2 ⊢
    cases e : W.dataLt c a with
    | false => rfl
    | true =>
      rcases dl_neg (y := b) e with q | q
      · rw [h2] at q; cases q
      · rw [h1] at q; cases q) (fun a b => by
    rw [W.dataLe_eq]
    simp only [id, cond_false]
    cases e : W.dataLt b a with
    | false => rfl
    | true => rw [dl_asym e]; rfl) xs
  refine this.imp fun h => ?_
  rw [W.dataLe_eq] at h
  simpa using h
theorem eqv_kD (a b : Key) (h : PyData.eqv (kD a) (kD b) = true) : a = b := by
  cases a <;> cases b
  · simp [kD, PyData.eqv] at h; rw [h]
  · simp [kD, PyData.eqv] at h
  · simp [kD, PyData.eqv] at h
  · simp [kD, PyData.eqv] at h; rw [h]
theorem dl_total {a b : Key} (al : W.alike (kD a) (kD b) = true) (h1 : W.dataLt (kD a) (kD b) = false) (h2 : W.dataLt (kD b) (kD a) = false) : a = b := by
  have e : PySem.W.keyToks (kD a) = PySem.W.keyToks (kD b) := PyProof.Rows.lex_total _ _ h1 h2
  have t := PySem.W.toks_eqv (kD a) (kD b) al
  cases q : PyData.eqv (kD a) (kD b) with
  | true => exact eqv_kD a b q
  | false =>
    exfalso
    have t := t.2 q [.inl 0] [.inl 1]
    rw [e, PySem.W.lex_pre, PyProof.Rows.lex_irrefl] at t
    revert t
    decide
theorem sortL_perm {us vs : List Key} (p : us.Perm vs) (al : ∀ x ∈ us, ∀ y ∈ us, W.alike (kD x) (kD y) = true) : sortL (us.map kD) = sortL (vs.map kD) := by
  have pp : (sortL (us.map kD)).Perm (sortL (vs.map kD)) := (List.mergeSort_perm _ _).trans ((p.map kD).trans (List.mergeSort_perm _ _).symm)
  refine pp.eq_of_pairwise (fun x y hx hy h1 h2 => ?_) (sortL_sorted _) (sortL_sorted _)
  obtain ⟨a, ha, rfl⟩ := List.mem_map.mp ((List.mergeSort_perm _ _).mem_iff.mp hx)
  obtain ⟨b, hb, rfl⟩ := List.mem_map.mp ((List.mergeSort_perm _ _).mem_iff.mp hy)
  rw [dl_total (al a ha b (p.mem_iff.mpr hb)) h2 h1]
theorem any_mem (k : Key) (ks : List Key) : ks.any (fun j => decide (j = k)) = true ↔ k ∈ ks := by
  rw [List.any_eq_true]
  exact ⟨fun ⟨j, h, e⟩ => of_decide_eq_true e ▸ h, fun h => ⟨k, h, decide_eq_true rfl⟩⟩
theorem mem_dedupK (x : Key) : ∀ ks : List Key, x ∈ dedupK ks ↔ x ∈ ks
  | [] => Iff.rfl
  | k :: ks => by
    unfold dedupK
    split
    · rename_i h
      rw [mem_dedupK x ks, List.mem_cons]
      exact ⟨.inr, fun q => q.elim (fun e => e ▸ (any_mem k ks).mp h) id⟩
    · rw [List.mem_cons, List.mem_cons, mem_dedupK x ks]
theorem nodup_dedupK : ∀ ks : List Key, (dedupK ks).Nodup
  | [] => List.nodup_nil
  | k :: ks => by
    unfold dedupK
    split
    · exact nodup_dedupK ks
    · rename_i h
      exact List.nodup_cons.mpr ⟨fun q => h ((any_mem k ks).mpr ((mem_dedupK k ks).mp q)), nodup_dedupK ks⟩
theorem perm_dedupK {us ks : List Key} (nd : us.Nodup) (m : ∀ k, k ∈ us ↔ k ∈ ks) : us.Perm (dedupK ks) :=
  (List.perm_ext_iff_of_nodup nd (nodup_dedupK ks)).mpr fun k => (m k).trans (mem_dedupK k ks).symm
end Dv
/-! Dv29: len(set(e)), sorted(set(e)) in the evaluator. -/
namespace Dv
open PySem PySem.Spec PyProof.Rows L2
theorem keysD_is : ∀ {ds : List D} {ks : List Key}, keysD ds = some ks → ds = ks.map kD := by
  intro ds
  induction ds with
  | nil => intro ks h; cases h; rfl
  | cons d ds ih =>
    intro ks h
    cases d with
    | int i =>
      obtain ⟨r, h1, rfl⟩ := Option.map_eq_some_iff.mp (show (keysD ds).map (Sum.inl i :: ·) = some ks from h)
      rw [ih h1]; rfl
    | str x =>
      obtain ⟨r, h1, rfl⟩ := Option.map_eq_some_iff.mp (show (keysD ds).map (Sum.inr x :: ·) = some ks from h)
      rw [ih h1]; rfl
    | _ => cases h
section
variable {X : Cx} {W : Wi} {a : List Bool} {e : Expr} {f : DE} {F F' F0 B H H' : Hp} {K : PySem.W.Frag}
theorem rps_key : ∀ {ks : List Key} {xs : List V}, Rps K F xs (ks.map kD) → xs = ks.map kV ∧ ∀ k ∈ ks, Rp K F (kV k) (kD k)
  | [], _, .nil => ⟨rfl, fun _ h => nomatch h⟩
  | k :: ks, _, .cons r t => by
    obtain ⟨rfl, ih⟩ := rps_key t
    cases k with
    | inl i =>
      cases r
      refine ⟨rfl, fun k h => ?_⟩
      rcases List.mem_cons.mp h with rfl | h
      · exact .int i
      · exact ih k h
    | inr x =>
      cases r with
      | str ok =>
        refine ⟨rfl, fun k h => ?_⟩
        rcases List.mem_cons.mp h with rfl | h
        · exact .str ok
        · exact ih k h
theorem je_lenSet {p p2 q pos : Pos} (hc : X.calm = true) (hg : Gl X "len") (hm : X.mg "len" = none) (hg2 : Gl X "set") (hm2 : X.mg "set" = none) (ha : JE X W a e f 0)
    (na : starEach [e] X.env = (false, eval e X.env) :: starEach [] X.env := by rfl) : JE X W a (.Call (.Name "len" p) [.Call (.Name "set" p2) [e] [] q] [] pos) (eSet1 setLenD f) 3 :=
  (pe_lenSetK hc hg hm hg2 hm2 ha na).imp fun σ H Q ⟨F0, B, F, δ, S, q⟩ => by
    unfold eSet1 at q
    rw [Ans.bind_iff] at q
    refine ⟨F0, B, F, δ, S, q.imp fun d q v F1 H1 S1 e1 e2 n1 r1 => ?_⟩
    have r1 : Rh X.K F1 H1 v d := r1
    cases d with
    | list ds =>
      cases hk : keysD ds with
      | none => unfold setLenD at q; simp only [hk] at q; exact False.elim q
      | some ks =>
        unfold setLenD at q
        simp only [hk] at q
        obtain ⟨hb, q⟩ := Ans.if_bad (c := ks.length + 1 < 4096) q
        have := keysD_is hk
        subst this
        obtain ⟨p, xs, rfl, sq, rq⟩ := r1.list_inv S1.FH
        obtain ⟨rfl, _⟩ := rps_key rq
        refine ⟨p, ks, rfl, sq.to, hb, fun us nd mem => ?_⟩
        have pl := (perm_dedupK nd mem).length_eq
        rw [pl]
        exact q _ F1 H1 S1 e1 e2 n1 (.ofNo rfl (Rp.int _))
    | _ => exact False.elim q
theorem je_sortSet {n : Nat} (hr : Room n X.A) {p p2 q pos : Pos} (hc : X.calm = true) (hg : Gl X "sorted") (hm : X.mg "sorted" = none) (hg2 : Gl X "set") (hm2 : X.mg "set" = none) (ha : JE X W a e f 0)
    (na : starEach [e] X.env = (false, eval e X.env) :: starEach [] X.env := by rfl) : JE X W a (.Call (.Name "sorted" p) [.Call (.Name "set" p2) [e] [] q] [] pos) (eSet1 setSortD f) 3 :=
  (pe_sortSetK hr hc hg hm hg2 hm2 ha na).imp fun σ H Q ⟨F0, B, F, δ, S, q⟩ => by
    unfold eSet1 at q
    rw [Ans.bind_iff] at q
    refine ⟨F0, B, F, δ, S, q.imp fun d q v F1 H1 S1 e1 e2 n1 r1 => ?_⟩
    have r1 : Rh X.K F1 H1 v d := r1
    cases d with
    | list ds =>
      cases hk : keysD ds with
      | none => unfold setSortD at q; simp only [hk] at q; exact False.elim q
      | some ks =>
        unfold setSortD at q
        simp only [hk] at q
        obtain ⟨hb, q⟩ := Ans.if_bad (c := (decide (ks.length + 1 < 4096) && sortOk (ks.map kD)) = true) q
        rw [Bool.and_eq_true] at hb
        obtain ⟨hb, hs⟩ := hb
        have hb := of_decide_eq_true hb
        have := keysD_is hk
        subst this
        obtain ⟨p, xs, rfl, sq, rq⟩ := r1.list_inv S1.FH
        obtain ⟨rfl, rk⟩ := rps_key rq
        refine ⟨p, ks, rfl, sq.to, hb, fun us nd mem => ?_⟩
        have sub : ∀ d ∈ us.map kD, d ∈ ks.map kD := fun d h => by
          obtain ⟨k, h1, rfl⟩ := List.mem_map.mp h
          exact List.mem_map.mpr ⟨k, (mem k).mp h1, rfl⟩
        have hlen : us.length ≤ ks.length := nd.length_le_of_subset fun k h => (mem k).mp h
        unfold sortOk at hs
        rw [Bool.and_eq_true, Bool.and_eq_true, Bool.and_eq_true] at hs
        obtain ⟨⟨⟨h0, h1⟩, h2⟩, h3⟩ := hs
        have al : ∀ x ∈ us.map kD, ∀ y ∈ us.map kD, PySem.W.alike x y = true := fun x hx y hy => List.all_eq_true.mp (List.all_eq_true.mp h3 x (sub x hx)) y (sub y hy)
        refine ⟨?_, fun zs pz ez np => ?_⟩
        · unfold sortOk
          rw [Bool.and_eq_true, Bool.and_eq_true, Bool.and_eq_true]
          have h0 := of_decide_eq_true h0
          rw [List.length_map] at h0
          refine ⟨⟨⟨decide_eq_true (by rw [List.length_map]; omega), List.all_eq_true.mpr fun x hx => List.all_eq_true.mp h1 x (sub x hx)⟩, ?_⟩, List.all_eq_true.mpr fun x hx => List.all_eq_true.mpr fun y hy => al x hx y hy⟩
          rw [Bool.or_eq_true] at h2 ⊢
          exact h2.imp (fun h => List.all_eq_true.mpr fun x hx => List.all_eq_true.mp h x (sub x hx)) fun h => List.all_eq_true.mpr fun x hx => List.all_eq_true.mp h x (sub x hx)
        · have pe : sortL (us.map kD) = sortL ((dedupK ks).map kD) := sortL_perm (perm_dedupK nd mem) fun x hx y hy => al _ (List.mem_map.mpr ⟨x, hx, rfl⟩) _ (List.mem_map.mpr ⟨y, hy, rfl⟩)
          rw [← pe, ← ez] at q
          have rz : ∀ l : List Key, (∀ k ∈ l, Rp X.K F1 (kV k) (kD k)) → Rps X.K F1 (l.map kV) (l.map kD) := fun l => by
            induction l with
            | nil => exact fun _ => .nil
            | cons k l ih => exact fun h => .cons (h k List.mem_cons_self) (ih fun j hj => h j (List.mem_cons_of_mem _ hj))
          have rr := rz zs fun k hz => by
            have h4 : kD k ∈ us.map kD := (List.mergeSort_perm _ _).mem_iff.mp (ez ▸ List.mem_map.mpr ⟨k, hz, rfl⟩ : kD k ∈ sortL (us.map kD))
            obtain ⟨j, hj, ej⟩ := List.mem_map.mp h4
            have : j = k := by
              cases j <;> cases k <;> simp [kD] at ej <;> rw [ej]
            subst this
            exact rk j ((mem j).mp hj)
          exact okLst (Q := Q) S1.FH np rr fun w F' H' e3 e4 e5 n r => q w F' H' (S1.later e3 e4 e5 n) (e1.trans e3) (e2.trans e4) (n1.trans (n.back e2)) (Ow.early e2 r)
    | _ => exact False.elim q
end
end Dv
/-! Dv10: what is walked. -/
namespace Dv
open PySem PySem.Spec PyProof.Rows L2
variable {X : Cx} {W : Wi} {K : PySem.W.Frag} {F F' F0 F1 B H H' H1 : Hp} {v : V} {d : D} {k : Nat} {σ : L2.St} {δ : Env} {pins : List (Addr × Obj)} {s : Shared} {Q : VK} {e tg a1 b1 : Expr} {a : List Bool} {f fa fb : DE} {pos p : Pos} {cm : Bool}

/-- G: what stays of the heap between the turns (of a loop: the frozen part; of a comprehension: all) -/
def ItOf (K : PySem.W.Frag) (G F : Hp) (J : It) (ds : List D) : Prop :=
  (∀ (i : Nat) (H F1 : Hp), Same F F1 → Same F1 H → Same G H → ds.length ≤ i → J.stop i H) ∧
  (∀ (i : Nat) (d : D) (H F1 : Hp), Same F F1 → Same F1 H → Same G H → ds[i]? = some d → J.go i H ∧ ∀ x H', J.yld i H x H' → ∃ F2, Same F1 F2 ∧ Same H H' ∧ Same F2 H' ∧ New H F1 F2 ∧ Rp K F2 x d)
def tJI (K : PySem.W.Frag) (W : Wi) (a : List Bool) (cm : Bool) (di : DI) : TI := fun σ H R => ∃ F0 B F δ, SI K F0 B F H σ a δ ∧
  Ans (di δ) (fun ds => ∀ J F' H', SI K F0 B F' H' σ a δ → Same F F' → Same H H' → New H F F' → ItOf K (if cm then H' else F') F' J ds → R J H') (W.ew σ H)
def JI (X : Cx) (W : Wi) (a : List Bool) (cm : Bool) (tg e : Expr) (di : DI) : Prop := PI X tg e (tJI X.K W a cm di)
theorem _root_.L2.PI.imp {X : Cx} {tg e : Expr} {t t' : TI} (h : PI X tg e t) (i : ∀ σ H R, t' σ H R → t σ H R) : PI X tg e t' := ⟨fun pins s σ H R I q => h.run pins s σ H R I (i σ H R q)⟩

theorem SqR.lenOf {a : Addr} {xs : List V} {ds : List D} (r : Rps K F xs ds) (i : Nat) : ds.length ≤ i ↔ xs.length ≤ i := by rw [r.length]
/-- a list as the library reads it has the items that it is known to have -/
theorem it_list {p : Addr} {xs : List V} {ds : List D} {G : Hp} (sq : SqR K G p xs) (rs : Rps K F xs ds) : ItOf K G F (Itl K p) ds := by
  refine ⟨fun i H F1 e1 e2 eG hi => ⟨xs, (sq.mono eG).to, by rw [rs.length]; exact hi⟩, fun i d H F1 e1 e2 eG hd => ?_⟩
  obtain ⟨v, hv, rv⟩ := rs.get hd
  refine ⟨⟨xs, v, (sq.mono eG).to, hv⟩, fun x H' ⟨eH, hx⟩ => ?_⟩
  subst eH
  have := hx xs (sq.mono eG).to
  rw [hv] at this
  cases this
  exact ⟨F1, Same.refl _, Same.refl _, e2, New.refl _ _, Rp.mono e1 _ _ rv⟩
theorem it_tup {p : Addr} {xs : List V} {ds : List D} {G : Hp} (sq : SqT K G p xs) (rs : Rps K F xs ds) : ItOf K G F (Itt K p) ds := by
  refine ⟨fun i H F1 e1 e2 eG hi => ⟨xs, same_t eG sq, by rw [rs.length]; exact hi⟩, fun i d H F1 e1 e2 eG hd => ?_⟩
  obtain ⟨v, hv, rv⟩ := rs.get hd
  refine ⟨⟨xs, v, same_t eG sq, hv⟩, fun x H' ⟨eH, hx⟩ => ?_⟩
  subst eH
  have := hx xs (same_t eG sq)
  rw [hv] at this
  cases this
  exact ⟨F1, Same.refl _, Same.refl _, e2, New.refl _ _, Rp.mono e1 _ _ rv⟩
theorem it_up {G : Hp} (lo : Int) (n : Nat) : ItOf K G F (Itr lo n) (intUp lo n) := by
  refine ⟨fun i H F1 e1 e2 eG hi => (show n ≤ i by simpa [intUp] using hi), fun i d H F1 e1 e2 eG hd => ?_⟩
  unfold intUp at hd
  rw [List.getElem?_map] at hd
  obtain ⟨j, hj, rfl⟩ := Option.map_eq_some_iff.mp hd
  obtain ⟨h1, h2⟩ := List.getElem?_eq_some_iff.mp hj
  rw [List.getElem_range] at h2
  rw [List.length_range] at h1
  subst h2
  exact ⟨h1, fun x H' ⟨eH, hx⟩ => by subst eH hx; exact ⟨F1, Same.refl _, Same.refl _, e2, New.refl _ _, .int _⟩⟩
theorem it_dn {G : Hp} (lo : Int) (n : Nat) : ItOf K G F (Itc lo (-1) n) (intDn lo n) := by
  refine ⟨fun i H F1 e1 e2 eG hi => (show n ≤ i by simpa [intDn] using hi), fun i d H F1 e1 e2 eG hd => ?_⟩
  unfold intDn at hd
  rw [List.getElem?_map] at hd
  obtain ⟨j, hj, rfl⟩ := Option.map_eq_some_iff.mp hd
  obtain ⟨h1, h2⟩ := List.getElem?_eq_some_iff.mp hj
  rw [List.getElem_range] at h2
  rw [List.length_range] at h1
  subst h2
  refine ⟨h1, fun x H' ⟨eH, hx⟩ => ?_⟩
  subst eH hx
  have e : lo + (i : Int) * -1 = lo - i := by omega
  rw [e]
  exact ⟨F1, Same.refl _, Same.refl _, e2, New.refl _ _, .int _⟩
theorem it_str {G : Hp} {x : Str} (z : sOk x) : ItOf K G F (Its x) (x.cps.toList.map fun c => .str (sgn c)) := by
  refine ⟨fun i H F1 e1 e2 eG hi => (show x.cps.size ≤ i by simpa using hi), fun i d H F1 e1 e2 eG hd => ?_⟩
  rw [List.getElem?_map] at hd
  obtain ⟨c, hc, rfl⟩ := Option.map_eq_some_iff.mp hd
  obtain ⟨h1, h2⟩ := List.getElem?_eq_some_iff.mp hc
  refine ⟨(show i < x.cps.size by simpa using h1), fun y H' ⟨eH, c', hc', hy⟩ => ?_⟩
  subst eH hy
  rw [← Array.getElem?_toList, hc] at hc'
  cases hc'
  exact ⟨F1, Same.refl _, Same.refl _, e2, New.refl _ _, .str (sOk_sgn z (List.mem_of_getElem? hc))⟩
theorem enum_get : ∀ (ds : List D) (k i : Nat) (d : D), (enumL k ds)[i]? = some d → ∃ y, ds[i]? = some y ∧ d = .tuple [.int ((k + i : Nat) : Int), y]
  | [], _, _, _, h => by simp [enumL] at h
  | x :: xs, k, 0, d, h => by
    simp [enumL] at h
    exact ⟨x, rfl, by rw [← h]; rfl⟩
  | x :: xs, k, i + 1, d, h => by
    have h' : (enumL (k + 1) xs)[i]? = some d := by simpa [enumL] using h
    obtain ⟨y, h1, h2⟩ := enum_get xs (k + 1) i d h'
    refine ⟨y, by simpa using h1, ?_⟩
    rw [h2]
    have : k + 1 + i = k + (i + 1) := by omega
    rw [this]
theorem enum_len : ∀ (ds : List D) (k : Nat), (enumL k ds).length = ds.length
  | [], _ => rfl
  | x :: xs, k => by show (enumL (k + 1) xs).length + 1 = _; rw [enum_len xs (k + 1)]; rfl
theorem pair_new {T : Addr} {x y : V} {dx dy : D} (e2 : Same F1 H) (hT : H T = none) (rx : Rp K F1 x dx) (ry : Rp K F1 y dy) :
    ∃ F2, Same F1 F2 ∧ Same H (upd H T (.tup [x, y])) ∧ Same F2 (upd H T (.tup [x, y])) ∧ New H F1 F2 ∧ Rp K F2 (.ref T) (.tuple [dx, dy]) := by
  have fT : F1 T = none := e2.free hT
  have g1 := same_new (o := .tup [x, y]) fT
  have g := same_new (o := .tup [x, y]) hT
  exact ⟨upd F1 T (.tup [x, y]), g1, g, same_upd_to (e2.trans g) upd_same, New.upd hT, .tup (SqT.of upd_same) (.cons (Rp.mono g1 _ _ rx) (.cons (Rp.mono g1 _ _ ry) .nil))⟩
theorem it_enum {p : Addr} {xs : List V} {ds : List D} {G : Hp} (sq : SqR K G p xs) (rs : Rps K F xs ds) : ItOf K G F (Ite K p) (enumL 0 ds) := by
  refine ⟨fun i H F1 e1 e2 eG hi => ⟨xs, (sq.mono eG).to, by rw [rs.length]; rw [enum_len] at hi; exact hi⟩, fun i d H F1 e1 e2 eG hd => ?_⟩
  obtain ⟨y, hy, rfl⟩ := enum_get ds 0 i d hd
  obtain ⟨v, hv, rv⟩ := rs.get hy
  refine ⟨⟨xs, v, (sq.mono eG).to, hv⟩, fun x H' ⟨T, z, ex, hT, eH, hx⟩ => ?_⟩
  have := hx xs (sq.mono eG).to
  rw [hv] at this
  cases this
  subst ex eH
  rw [Nat.zero_add]
  exact pair_new e2 hT (.int _) (Rp.mono e1 _ _ rv)
theorem it_zip {p q : Addr} {xs ys : List V} {ds es : List D} {G : Hp} (sq : SqR K G p xs) (rs : Rps K F xs ds) (sq2 : SqR K G q ys) (rs2 : Rps K F ys es) : ItOf K G F (Itz K p q) ((ds.zip es).map fun p => .tuple [p.1, p.2]) := by
  refine ⟨fun i H F1 e1 e2 eG hi => ⟨xs, ys, (sq.mono eG).to, (sq2.mono eG).to, ?_⟩, fun i d H F1 e1 e2 eG hd => ?_⟩
  · rw [List.length_map, List.length_zip] at hi
    rw [rs.length, rs2.length]
    omega
  rw [List.getElem?_map] at hd
  obtain ⟨⟨y, y2⟩, hy, rfl⟩ := Option.map_eq_some_iff.mp hd
  obtain ⟨hy1, hy2⟩ := List.getElem?_zip_eq_some.mp hy
  obtain ⟨v, hv, rv⟩ := rs.get hy1
  obtain ⟨w, hw, rw'⟩ := rs2.get hy2
  refine ⟨⟨xs, ys, v, w, (sq.mono eG).to, (sq2.mono eG).to, hv, hw⟩, fun x H' ⟨T, z, z2, ex, hT, eH, hx, hx2⟩ => ?_⟩
  have := hx xs (sq.mono eG).to
  rw [hv] at this
  cases this
  have := hx2 ys (sq2.mono eG).to
  rw [hw] at this
  cases this
  subst ex eH
  exact pair_new e2 hT (Rp.mono e1 _ _ rv) (Rp.mono e1 _ _ rw')

/-! ### the iterables -/
theorem ji_bad {di : DI} (h : ∀ δ, di δ = .bad) : JI X W a cm tg e di := ⟨fun _ _ σ H R _ ⟨_, _, _, δ, _, q⟩ => by rw [h δ] at q; exact q.elim⟩
/-- how a walked thing must be known: read, or frozen -/
def kc (cm : Bool) : Nat := if cm then 0 else 2
def gc (cm : Bool) (H F : Hp) : Hp := if cm then H else F
theorem kc_rh {B0 : Hp} (h : Res K (kc cm) B0 H F' H' v d) : Rh K F' H' v d := by
  cases cm with
  | true => exact h
  | false => exact .inl h
theorem kc_mono {B0 H0 H2 F2 : Hp} (e1 : Same F F2) (e2 : Same H' H2) (h : Res K (kc cm) B0 H F H' v d) : Res K (kc cm) B0 H0 F2 H2 v d := by
  cases cm with
  | true => exact Rh.mono e1 e2 h
  | false => exact Rp.mono e1 _ _ h
theorem kc_list {B0 : Hp} {ds : List D} (FH : Same F' H') (h : Res K (kc cm) B0 H F' H' v (.list ds)) : ∃ p xs, v = .ref p ∧ SqR K (gc cm H' F') p xs ∧ SqR K H' p xs ∧ Rps K F' xs ds := by
  cases cm with
  | true =>
    obtain ⟨p, xs, e, sq, rs⟩ := Rh.list_inv FH h
    exact ⟨p, xs, e, sq, sq, rs⟩
  | false =>
    have h : Rp K F' v (.list ds) := h
    cases h with
    | lst sq rs => exact ⟨_, _, rfl, sq, sq.mono FH, rs⟩
theorem kc_tup {B0 : Hp} {ds : List D} (FH : Same F' H') (h : Res K (kc cm) B0 H F' H' v (.tuple ds)) : ∃ p xs, v = .ref p ∧ SqT K (gc cm H' F') p xs ∧ SqT K H' p xs ∧ Rps K F' xs ds := by
  cases cm with
  | true =>
    obtain ⟨p, xs, e, sq, rs⟩ := Rh.tup_inv FH h
    exact ⟨p, xs, e, sq, sq, rs⟩
  | false =>
    have h : Rp K F' v (.tuple ds) := h
    cases h with
    | tup sq rs => exact ⟨_, _, rfl, sq, same_t FH sq, rs⟩
theorem ji_exp (h : JE X W a e f (kc cm)) : JI X W a cm tg e (iExp f) := by
  refine ⟨fun pins s σ H R I ⟨F0, B, F, δ, S, q⟩ => ?_⟩
  unfold iExp at q
  rw [Ans.bind_iff] at q
  refine thn (h.run pins s σ H (fun x H1 => ∃ (F1 : Hp) (d : D) (ds : List D), SI X.K F0 B F1 H1 σ a δ ∧ Same F F1 ∧ Same H H1 ∧ New H F F1 ∧ Res X.K (kc cm) B H F1 H1 x d ∧ itemsD d = Dv.R.ok ds ∧
    (∀ J F' H', SI X.K F0 B F' H' σ a δ → Same F F' → Same H H' → New H F F' → ItOf X.K (gc cm H' F') F' J ds → R J H')) I ⟨F0, B, F, δ, S, q.imp fun d q v F1 H1 S1 e1 e2 n1 r1 => ?_⟩) fun v s1 ⟨x, H1, I1, r1, F1, d, ds, S1, e1, e2, n1, rp, ed, q⟩ => ?_
  · cases d with
    | list xs => exact ⟨F1, _, xs, S1, e1, e2, n1, r1, rfl, q⟩
    | tuple xs => exact ⟨F1, _, xs, S1, e1, e2, n1, r1, rfl, q⟩
    | str x => exact ⟨F1, _, _, S1, e1, e2, n1, r1, rfl, q⟩
    | _ => exact False.elim q
  · cases d with
    | list xs =>
      cases ed
      obtain ⟨p, ys, rfl, sq, sqH, rs⟩ := kc_list S1.FH rp
      cases r1
      obtain ⟨its, rv, p, hz⟩ := I1.list sqH.to
      exact wpAny_pyIter_list p.isList (pi_one (tk := s1.toks) I1 _ (turn_list _ _) ⟨_, Heap.get?_push_size _ rfl, rfl, rfl⟩ (q _ F1 H1 S1 e1 e2 n1 (it_list sq rs)))
    | tuple xs =>
      cases ed
      obtain ⟨p, ys, rfl, sq, sqH, rs⟩ := kc_tup S1.FH rp
      cases r1
      obtain ⟨its, rv, p, hz⟩ := I1.tuple sqH
      exact wpAny_pyIter_tuple (show s1.heap.IsTuple _ its.toArray from p) (pi_one (tk := s1.toks) I1 _ (turn_tuple _ _) ⟨_, Heap.get?_push_size _ rfl, rfl, rfl⟩ (q _ F1 H1 S1 e1 e2 n1 (it_tup sq rs)))
    | str x =>
      cases ed
      obtain ⟨rfl, z⟩ := (kc_rh rp).str_inv
      obtain ⟨t, rfl⟩ := r1
      have q := q _ F1 H1 S1 e1 e2 n1 (it_str z)
      cases ha : x.cps.all (· < 128)
      · exact wpAny_pyIter_wide ha (pi_one (tk := s1.toks) I1 _ (turn_str _ x t "str_iterator" (.inr rfl)) ⟨_, Heap.get?_push_size _ rfl, rfl, rfl⟩ q)
      · exact wpAny_pyIter_ascii ha (pi_one (tk := s1.toks) I1 _ (turn_str _ x t "str_ascii_iterator" (.inl rfl)) ⟨_, Heap.get?_push_size _ rfl, rfl, rfl⟩ q)
    | _ => cases ed
theorem big_of {i : Int} (h : big i = true) : -(2 ^ 30) ≤ i ∧ i < 2 ^ 30 := of_decide_eq_true h
theorem ji_rng1 (gl : Gl X "range") (hm : X.mg "range" = none) (hp : plainE a1 = true) (h : JE X W a a1 fa 0) : JI X W a cm tg (.Call (.Name "range" p) [a1] [] pos) (iRng1 fa) :=
  (pi_range1 gl hm (jr_all (.cons h .nil) (by simp [hp])) (star_cons hp)).imp fun σ H R ⟨F0, B, F, δ, S, q⟩ => by
    refine ⟨F0, B, F, δ, S, ?_⟩
    unfold iRng1 at q
    rw [Ans.bind_iff] at q
    unfold evs
    rw [Ans.bind_iff]
    refine q.imp fun d q vs F1 H1 S1 e1 e2 n1 r1 => ?_
    obtain ⟨i, rfl, q2⟩ := Ans.asInt (by rw [Ans.bind_iff] at q; exact q)
    obtain ⟨v, rfl, rv⟩ := r1.one
    cases rv.int_inv
    split at q2
    · rename_i hb
      have hb := big_of hb
      exact ⟨i, rfl, by omega, by omega, q2 _ F1 H1 S1 e1 e2 n1 (it_up 0 _)⟩
    · exact False.elim q2
theorem two_args (hp : plainE a1 = true) (hp2 : plainE b1 = true) (h : JE X W a a1 fa 0) (h2 : JE X W a b1 fb 0) : JR X W a [a1, b1] [fa, fb] := jr_all (.cons h (.cons h2 .nil)) (by simp [hp, hp2])
theorem evs2 (fa fb : DE) (δ : Env) : evs [fa, fb] δ = (fa δ).bind fun x => (fb δ).bind fun y => .ok [x, y] := by
  unfold evs
  cases fa δ with
  | ok x => cases h : fb δ <;> simp [evs, h]
  | _ => rfl
theorem ji_rng2 (gl : Gl X "range") (hm : X.mg "range" = none) (hp : plainE a1 = true) (hp2 : plainE b1 = true) (h : JE X W a a1 fa 0) (h2 : JE X W a b1 fb 0) : JI X W a cm tg (.Call (.Name "range" p) [a1, b1] [] pos) (iRng2 fa fb) :=
  (pi_range2 gl hm (two_args hp hp2 h h2) (by rw [star_cons hp, star_cons hp2]; rfl) (by rw [star_cons hp2]; rfl)).imp fun σ H R ⟨F0, B, F, δ, S, q⟩ => by
    refine ⟨F0, B, F, δ, S, ?_⟩
    unfold iRng2 at q
    rw [evs2]
    rw [Ans.bind_iff] at q ⊢
    refine q.imp fun d q => ?_
    rw [Ans.bind_iff] at q ⊢
    refine q.imp fun d2 q vs F1 H1 S1 e1 e2 n1 r1 => ?_
    obtain ⟨i, rfl, q2⟩ := Ans.asInt (by rw [Ans.bind_iff] at q; exact q)
    obtain ⟨j, rfl, q3⟩ := Ans.asInt (by rw [Ans.bind_iff] at q2; exact q2)
    obtain ⟨v, w, rfl, rv, rw'⟩ := r1.two
    cases rv.int_inv
    cases rw'.int_inv
    split at q3
    · rename_i hb
      rw [Bool.and_eq_true] at hb
      have hb1 := big_of hb.1
      have hb2 := big_of hb.2
      exact ⟨i, j, rfl, ⟨by omega, by omega, by omega, by omega⟩, q3 _ F1 H1 S1 e1 e2 n1 (it_up i _)⟩
    · exact False.elim q3
theorem je_m1 {e : Expr} (h : isM1 e = true) : JE X W a e (eC (.int (-1))) 3 := by
  obtain ⟨kk, p1, p2, rfl⟩ := isM1_of h
  exact (je_neg (fa := eC (.int 1)) ((je_const rfl).to0)).imp fun σ H Q q => q
theorem ji_rngD {c1 : Expr} (gl : Gl X "range") (hm : X.mg "range" = none) (hp : plainE a1 = true) (hp2 : plainE b1 = true) (h : JE X W a a1 fa 0) (h2 : JE X W a b1 fb 0) (h3 : isM1 c1 = true) : JI X W a cm tg (.Call (.Name "range" p) [a1, b1, c1] [] pos) (iRngD fa fb) := by
  have hp3 : plainE c1 = true := by obtain ⟨kk, p1, p2, rfl⟩ := isM1_of h3; rfl
  refine (pi_range3 gl hm (jr_all (.cons h (.cons h2 (.cons (je_m1 (W := W) (a := a) h3).to0 .nil))) (by simp [hp, hp2, hp3])) (star_cons hp) (star_any _ (by simp [hp2, hp3]))).imp fun σ H R ⟨F0, B, F, δ, S, q⟩ => ?_
  refine ⟨F0, B, F, δ, S, ?_⟩
  have e3 : evs [fa, fb, eC (.int (-1))] δ = (fa δ).bind fun x => (fb δ).bind fun y => .ok [x, y, .int (-1)] := by
    unfold evs
    cases fa δ with
    | ok x => cases h : fb δ <;> simp [evs, h, eC]
    | _ => rfl
  unfold iRngD at q
  rw [e3]
  rw [Ans.bind_iff] at q ⊢
  refine q.imp fun d q => ?_
  rw [Ans.bind_iff] at q ⊢
  refine q.imp fun d2 q vs F1 H1 S1 e1 e2 n1 r1 => ?_
  obtain ⟨i, rfl, q2⟩ := Ans.asInt (by rw [Ans.bind_iff] at q; exact q)
  obtain ⟨j, rfl, q3⟩ := Ans.asInt (by rw [Ans.bind_iff] at q2; exact q2)
  cases r1 with
  | cons rv r1 =>
    obtain ⟨w, u, rfl, rw', ru⟩ := r1.two
    cases rv.int_inv
    cases rw'.int_inv
    cases ru.int_inv
    split at q3
    · rename_i hb
      rw [Bool.and_eq_true] at hb
      have hb1 := big_of hb.1
      have hb2 := big_of hb.2
      exact ⟨i, j, -1, (i - j).toNat, rfl, RgC.neg (by omega) (by omega) (by omega) (by omega), q3 _ F1 H1 S1 e1 e2 n1 (it_dn i _)⟩
    · exact False.elim q3
theorem Ans.asLst {x : D} {kk : List D → Prop} {e : Str → Int → Prop} (h : Ans (Dv.asLst x) kk e) : ∃ xs, x = .list xs ∧ kk xs := by
  cases x with
  | list xs => exact ⟨xs, rfl, h⟩
  | _ => exact False.elim h
theorem Ans.asTup {x : D} {kk : List D → Prop} {e : Str → Int → Prop} (h : Ans (Dv.asTup x) kk e) : ∃ xs, x = .tuple xs ∧ kk xs := by
  cases x with
  | tuple xs => exact ⟨xs, rfl, h⟩
  | _ => exact False.elim h
/-- one argument, known as k says -/
theorem pa_1 {k : Nat} (hp : plainE a1 = true) (h : JE X W a a1 fa k) : PA X [a1] (fun σ H Q => ∃ F0 B F δ, SI X.K F0 B F H σ a δ ∧ Ans (fa δ) (fun d => ∀ v F' H', SI X.K F0 B F' H' σ a δ → Same F F' → Same H H' → New H F F' → Res X.K k B H F' H' v d → Q [v] H') (W.ew σ H)) :=
  PA.imp (pa_cons h pa_nil (star_cons hp)) fun σ H Q ⟨F0, B, F, δ, S, q⟩ => ⟨F0, B, F, δ, S, q⟩
theorem pa_2 {k : Nat} (mono : ∀ {B0 H F H' H0 F2 H2 : Hp} {v : V} {d : D}, Same F F2 → Same H' H2 → Res X.K k B0 H F H' v d → Res X.K k B0 H0 F2 H2 v d) (hp : plainE a1 = true) (hp2 : plainE b1 = true) (h : JE X W a a1 fa k) (h2 : JE X W a b1 fb k) :
    PA X [a1, b1] (fun σ H Q => ∃ F0 B F δ, SI X.K F0 B F H σ a δ ∧ Ans ((fa δ).bind fun x => (fb δ).bind fun y => Dv.R.ok (x, y)) (fun p => ∀ v w F' H', SI X.K F0 B F' H' σ a δ → Same F F' → Same H H' → New H F F' → Res X.K k B H F' H' v p.1 → Res X.K k B H F' H' w p.2 → Q [v, w] H') (W.ew σ H)) :=
  PA.imp (pa_cons h (pa_1 hp2 h2) (star_cons hp)) fun σ H Q ⟨F0, B, F, δ, S, q⟩ => by
    rw [Ans.bind_iff] at q
    refine ⟨F0, B, F, δ, S, q.imp fun d q v F1 H1 S1 e1 e2 n1 r1 => ⟨F0, B, F1, δ, S1, ?_⟩⟩
    rw [Ans.bind_iff] at q
    exact q.mono (fun d2 _ q w F2 H2 S2 e3 e4 n2 r2 => q v w F2 H2 S2 (e1.trans e3) (e2.trans e4) (n1.trans (n2.back e2)) (mono e3 e4 r1) (mono (Same.refl _) (Same.refl _) r2)) fun c i z => W.mono _ _ _ _ _ e2 z
theorem pi_or {t u : TI} (h : PI X tg e t) (h2 : PI X tg e u) : PI X tg e (fun σ H R => t σ H R ∨ u σ H R) := ⟨fun pins s σ H R I q => q.elim (h.run pins s σ H R I) (h2.run pins s σ H R I)⟩
theorem it_enT {G : Hp} {p : Addr} {xs : List V} {ds : List D} (sq : SqT K G p xs) (rs : Rps K F xs ds) : ItOf K G F (IteT K p) (enumL 0 ds) := by
  refine ⟨fun i H F1 e1 e2 eG hi => ⟨xs, same_t eG sq, by rw [rs.length]; rw [enum_len] at hi; exact hi⟩, fun i d H F1 e1 e2 eG hd => ?_⟩
  obtain ⟨y, hy, rfl⟩ := enum_get ds 0 i d hd
  obtain ⟨v, hv, rv⟩ := rs.get hy
  refine ⟨⟨xs, v, same_t eG sq, hv⟩, fun x H' ⟨T, z, ex, hT, eH, hx⟩ => ?_⟩
  have := hx xs (same_t eG sq)
  rw [hv] at this
  cases this
  subst ex eH
  rw [Nat.zero_add]
  exact pair_new e2 hT (.int _) (Rp.mono e1 _ _ rv)
theorem ji_enum {tpos : Pos} {elts : List Expr} {kk : Nat} (gl : Gl X "enumerate") (hm : X.mg "enumerate" = none) (hp : plainE a1 = true) (h : JE X W a a1 fa (kc cm)) : JI X W a cm (.Tuple elts kk tpos) (.Call (.Name "enumerate" p) [a1] [] pos) (iEnum fa) :=
  (pi_or (pi_enum gl hm (pa_1 hp h) (star_cons hp)) (pi_enT gl hm (pa_1 hp h) (star_cons hp))).imp fun σ H R ⟨F0, B, F, δ, S, q⟩ => by
    unfold iEnum at q
    rw [Ans.bind_iff] at q
    have fin : ∀ d, (∀ ds, d ≠ .tuple ds) → Ans (fa δ) (fun d => Ans ((asList d).bind fun xs => Dv.R.ok (enumL 0 xs)) (fun ds => ∀ J F' H', SI X.K F0 B F' H' σ a δ → Same F F' → Same H H' → New H F F' → ItOf X.K (if cm then H' else F') F' J ds → R J H') (W.ew σ H)) (W.ew σ H) → fa δ = .ok d → L2.iEnum X.K (fun σ H Q => ∃ F0 B F δ, SI X.K F0 B F H σ a δ ∧ Ans (fa δ) (fun d => ∀ v F' H', SI X.K F0 B F' H' σ a δ → Same F F' → Same H H' → New H F F' → Res X.K (kc cm) B H F' H' v d → Q [v] H') (W.ew σ H)) σ H R := fun d nt q hd => by
      refine ⟨F0, B, F, δ, S, ?_⟩
      rw [hd] at q ⊢
      intro v F1 H1 S1 e1 e2 n1 r1
      have q : Ans ((asList d).bind fun xs => Dv.R.ok (enumL 0 xs)) _ _ := q
      cases d with
      | list ds =>
        obtain ⟨p, ys, rfl, sq, sqH, rs⟩ := kc_list S1.FH r1
        exact ⟨_, _, rfl, sqH.to, q _ F1 H1 S1 e1 e2 n1 (it_enum sq rs)⟩
      | tuple ds => exact absurd rfl (nt ds)
      | _ => exact q.elim
    cases hd : fa δ with
    | ok d =>
      cases d with
      | tuple ds =>
        refine .inr ⟨F0, B, F, δ, S, ?_⟩
        rw [hd] at q ⊢
        intro v F1 H1 S1 e1 e2 n1 r1
        obtain ⟨p, ys, rfl, sq, sqH, rs⟩ := kc_tup S1.FH r1
        exact ⟨_, _, rfl, sqH, q _ F1 H1 S1 e1 e2 n1 (it_enT sq rs)⟩
      | _ => exact .inl (fin _ (fun _ z => by cases z) q hd)
    | err c i =>
      refine .inl ⟨F0, B, F, δ, S, ?_⟩
      rw [hd] at q ⊢
      exact q
    | bad => rw [hd] at q; exact q.elim
theorem ji_zip {tpos : Pos} {elts : List Expr} {kk : Nat} (gl : Gl X "zip") (hm : X.mg "zip" = none) (hp : plainE a1 = true) (hp2 : plainE b1 = true) (h : JE X W a a1 fa (kc cm)) (h2 : JE X W a b1 fb (kc cm)) : JI X W a cm (.Tuple elts kk tpos) (.Call (.Name "zip" p) [a1, b1] [] pos) (iZip fa fb) :=
  (pi_zip gl hm (pa_2 kc_mono hp hp2 h h2) (star_cons hp) (star_any _ (by simp [hp2]))).imp fun σ H R ⟨F0, B, F, δ, S, q⟩ => by
    refine ⟨F0, B, F, δ, S, ?_⟩
    unfold iZip at q
    rw [Ans.bind_iff] at q ⊢
    refine q.imp fun d q => ?_
    rw [Ans.bind_iff] at q ⊢
    refine q.imp fun d2 q v w F1 H1 S1 e1 e2 n1 r1 r2 => ?_
    obtain ⟨ds, rfl, q2⟩ := Ans.asLst (by rw [Ans.bind_iff] at q; exact q)
    obtain ⟨es, rfl, q3⟩ := Ans.asLst (by rw [Ans.bind_iff] at q2; exact q2)
    obtain ⟨p, ys, rfl, sq, sqH, rs⟩ := kc_list S1.FH r1
    obtain ⟨p2, zs, rfl, sq2, sqH2, rs2⟩ := kc_list S1.FH r2
    exact ⟨_, _, _, _, rfl, sqH.to, sqH2.to, q3 _ F1 H1 S1 e1 e2 n1 (it_zip sq rs sq2 rs2)⟩

/-! ### list(range(..)) -/
theorem rps_up {F : Hp} (lo : Int) (n : Nat) : Rps K F ((List.range n).map fun (i : Nat) => V.int (lo + i)) (intUp lo n) := by
  unfold intUp
  generalize List.range n = l
  induction l with
  | nil => exact .nil
  | cons x l ih => exact .cons (.int _) ih
theorem je_lr {b : Expr} {te : L2.St → Hp → (Int → Int → Hp → Prop) → Prop} {di : DI} (hc : X.calm = true) (gl : Gl X "list") (hm : X.mg "list" = none) (hb : plainE b = true) (h : PRg X b te)
    (ht : ∀ σ H (R : Int → Int → Hp → Prop) F0 B F δ, SI X.K F0 B F H σ a δ → Ans (di δ) (fun ds => ∀ (lo hi : Int) F' H', ds = intUp lo (hi - lo).toNat → big lo = true → big hi = true → SI X.K F0 B F' H' σ a δ → Same F F' → Same H H' → New H F F' → R lo hi H') (W.ew σ H) → te σ H R) :
    JE X W a (.Call (.Name "list" p) [b] [] pos) (fun δ => (di δ).bind fun xs => if xs.length ≤ lim then .ok (.list xs) else .bad) 3 :=
  (pe_listRg hc gl hm h (star_cons hb)).imp fun σ H Q ⟨F0, B, F, δ, S, q⟩ => by
    refine ht σ H _ F0 B F δ S ?_
    rw [Ans.bind_iff] at q
    refine q.imp fun ds q lo hi F1 H1 eds hlo hhi S1 e1 e2 n1 => ?_
    obtain ⟨hl, q⟩ := Ans.if_bad (c := ds.length ≤ lim) q
    have h1 := big_of hlo
    have h2 := big_of hhi
    subst eds
    have hl : (hi - lo).toNat ≤ lim := by simpa [intUp] using hl
    have e24 : lim = 1000000 := rfl
    refine ⟨⟨by omega, by omega, by omega, by omega, by omega⟩, fun z hz => ?_⟩
    have fz : F1 z = none := S1.FH.free hz
    have g := same_new (o := .lst (rgV lo hi)) hz
    exact q (.ref z) F1 (upd H1 z (.lst (rgV lo hi))) (S1.grow g) e1 (e2.trans g) n1 (.mkL ⟨z, _, rfl, fz, e2.free hz, upd_same, rps_up lo _⟩)
theorem je_lr1 (hc : X.calm = true) (gl : Gl X "list") (hm : X.mg "list" = none) (gl2 : Gl X "range") (hm2 : X.mg "range" = none) {p2 pos2 : Pos} (hp : plainE a1 = true) (h : JE X W a a1 fa 0) :
    JE X W a (.Call (.Name "list" p) [.Call (.Name "range" p2) [a1] [] pos2] [] pos) (eLstI (iRng1 fa)) 3 :=
  je_lr hc gl hm rfl (prg_1 gl2 hm2 h (star_cons hp)) fun σ H R F0 B F δ S q => by
    refine ⟨F0, B, F, δ, S, ?_⟩
    unfold iRng1 at q
    rw [Ans.bind_iff] at q
    refine q.imp fun d q v F1 H1 S1 e1 e2 n1 r1 => ?_
    obtain ⟨i, rfl, q2⟩ := Ans.asInt (by rw [Ans.bind_iff] at q; exact q)
    have r1 : Rh X.K F1 H1 v (.int i) := r1
    cases r1.int_inv
    split at q2
    · rename_i hb
      exact ⟨i, rfl, q2 0 i F1 H1 (by rw [Int.sub_zero]) (by decide) hb S1 e1 e2 n1⟩
    · exact False.elim q2
theorem je_lr2 (hc : X.calm = true) (gl : Gl X "list") (hm : X.mg "list" = none) (gl2 : Gl X "range") (hm2 : X.mg "range" = none) {p2 pos2 : Pos} (hp : plainE a1 = true) (hp2 : plainE b1 = true) (h : JE X W a a1 fa 0) (h2 : JE X W a b1 fb 0) :
    JE X W a (.Call (.Name "list" p) [.Call (.Name "range" p2) [a1, b1] [] pos2] [] pos) (eLstI (iRng2 fa fb)) 3 :=
  je_lr hc gl hm rfl (prg_2 gl2 hm2 h h2 (star_cons hp) (star_cons hp2) (star_any _ (by simp [hp2]))) fun σ H R F0 B F δ S q => by
    refine ⟨F0, B, F, δ, S, ?_⟩
    unfold iRng2 at q
    rw [Ans.bind_iff] at q
    refine q.imp fun d q v F1 H1 S1 e1 e2 n1 r1 => ⟨F0, B, F1, δ, S1, ?_⟩
    rw [Ans.bind_iff] at q
    refine q.mono (fun d2 _ q w F2 H2 S2 e3 e4 n2 r2 => ?_) fun c i z => W.mono _ _ _ _ _ e2 z
    obtain ⟨i, rfl, q2⟩ := Ans.asInt (by rw [Ans.bind_iff] at q; exact q)
    obtain ⟨j, rfl, q3⟩ := Ans.asInt (by rw [Ans.bind_iff] at q2; exact q2)
    have r1 : Rh X.K F1 H1 v (.int i) := r1
    have r2 : Rh X.K F2 H2 w (.int j) := r2
    cases r1.int_inv
    cases r2.int_inv
    split at q3
    · rename_i hb
      rw [Bool.and_eq_true] at hb
      exact ⟨i, j, rfl, rfl, q3 i j F2 H2 rfl hb.1 hb.2 S2 (e1.trans e3) (e2.trans e4) (n1.trans (n2.back e2))⟩
    · exact False.elim q3
end Dv
/-! Dv11: targets, list comprehensions. -/
namespace Dv
open PySem PySem.Spec PyProof.Rows L2
variable {X : Cx} {W : Wi} {K : PySem.W.Frag} {F F' F0 F1 B H H' H1 : Hp} {v : V} {d : D} {k : Nat} {σ : L2.St} {δ : Env} {pins : List (Addr × Obj)} {s : Shared} {Q : VK} {e tg a1 b1 : Expr} {a : List Bool} {f fa fb : DE} {pos p : Pos}

theorem bit_set (a : List Bool) (v i : Nat) (b : Bool) (h : bit (a.set v b) i = true) : (i = v ∧ b = true) ∨ (i ≠ v ∧ bit a i = true) := by
  unfold bit at h ⊢
  by_cases e : i = v
  · subst e
    rw [List.getD_eq_getElem?_getD, List.getElem?_set] at h
    split at h
    · split at h
      · exact .inl ⟨rfl, h⟩
      · cases h
    · exact absurd rfl (by assumption)
  · right
    refine ⟨e, ?_⟩
    rw [List.getD_eq_getElem?_getD, List.getElem?_set_ne (fun z => e z.symm)] at h
    rw [List.getD_eq_getElem?_getD]
    exact h
theorem bit_ne (a : List Bool) (v i : Nat) (b : Bool) (h : i ≠ v) : bit (a.set v b) i = bit a i := by
  unfold bit
  rw [List.getD_eq_getElem?_getD, List.getElem?_set_ne (fun z => h z.symm), List.getD_eq_getElem?_getD]
theorem bit_off (a : List Bool) (v i : Nat) (h : bit (a.set v false) i = true) : bit a i = true ∧ i ≠ v := by
  rcases bit_set a v i false h with ⟨_, z⟩ | ⟨z1, z2⟩
  · cases z
  · exact ⟨z2, z1⟩
theorem bit_same (a : List Bool) (v : Nat) : bit (a.set v false) v = false := by
  cases h : bit (a.set v false) v with
  | false => rfl
  | true => exact absurd rfl (bit_off a v v h).2
/-- a slot is no longer the def's own -/
def drp (a : List Bool) (i : Nat) : List Bool := a.set (4 * i) false
/-- a slot is set to what is frozen, to what is new -/
def stF (a : List Bool) (i : Nat) : List Bool := (((a.set (4 * i) false).set (4 * i + 1) false).set (4 * i + 2) false).set (4 * i + 3) false
def stO (a : List Bool) (i : Nat) : List Bool := (((a.set (4 * i) true).set (4 * i + 1) false).set (4 * i + 2) true).set (4 * i + 3) false
def stB (a : List Bool) (i : Nat) (b : Bool) : List Bool := if b then stO a i else stF a i
theorem own_drp (a : List Bool) (v i : Nat) (h : own (drp a v) i = true) : own a i = true ∧ i ≠ v := by
  obtain ⟨h1, h2⟩ := bit_off _ _ _ h
  exact ⟨h1, fun z => h2 (by rw [z])⟩
theorem own_drp_ne (a : List Bool) (v i : Nat) (h : own (drp a v) i = false) : own a i = false ∨ i = v := by
  by_cases e : i = v
  · exact .inr e
  · left
    unfold own drp at h
    rw [bit_ne _ _ _ _ (by omega)] at h
    exact h
theorem old_drp (a : List Bool) (v i : Nat) : old (drp a v) i = old a i := bit_ne _ _ _ _ (by omega)
theorem nw_drp (a : List Bool) (v i : Nat) : nw1 (drp a v) i = nw1 a i := bit_ne _ _ _ _ (by omega)
theorem own_stF (a : List Bool) (v i : Nat) : own (stF a v) i = own (drp a v) i := by
  unfold own stF drp
  rw [bit_ne _ _ _ _ (by omega), bit_ne _ _ _ _ (by omega), bit_ne _ _ _ _ (by omega)]
theorem own_set (a : List Bool) (v i : Nat) (h : own (stF a v) i = true) : own a i = true ∧ i ≠ v := own_drp a v i (by rw [← own_stF]; exact h)
theorem own_set_ne (a : List Bool) (v i : Nat) (h : own (stF a v) i = false) : own a i = false ∨ i = v := own_drp_ne a v i (by rw [← own_stF]; exact h)
theorem own_at (a : List Bool) (v : Nat) : own (stF a v) v = false := by rw [own_stF]; exact bit_same _ _
theorem old_stF (a : List Bool) (v i : Nat) (h : old (stF a v) i = true) : old a i = true ∧ i ≠ v := by
  unfold old stF at h
  rw [bit_ne _ _ _ _ (by omega), bit_ne _ _ _ _ (by omega)] at h
  obtain ⟨h1, h2⟩ := bit_off _ _ _ h
  rw [bit_ne _ _ _ _ (by omega)] at h1
  exact ⟨h1, fun z => h2 (by rw [z])⟩
theorem nw_stF (a : List Bool) (v i : Nat) (h : nw1 (stF a v) i = true) : nw1 a i = true ∧ i ≠ v := by
  unfold nw1 stF at h
  rw [bit_ne _ _ _ _ (by omega)] at h
  obtain ⟨h1, h2⟩ := bit_off _ _ _ h
  rw [bit_ne _ _ _ _ (by omega), bit_ne _ _ _ _ (by omega)] at h1
  exact ⟨h1, fun z => h2 (by rw [z])⟩
theorem old_stO (a : List Bool) (v i : Nat) (h : old (stO a v) i = true) : old a i = true ∧ i ≠ v := by
  unfold old stO at h
  rw [bit_ne _ _ _ _ (by omega), bit_ne _ _ _ _ (by omega)] at h
  obtain ⟨h1, h2⟩ := bit_off _ _ _ h
  rw [bit_ne _ _ _ _ (by omega)] at h1
  exact ⟨h1, fun z => h2 (by rw [z])⟩
theorem nw_stO (a : List Bool) (v i : Nat) (h : nw1 (stO a v) i = true) : i = v ∨ nw1 a i = true := by
  by_cases e : i = v
  · exact .inl e
  · right
    unfold nw1 stO at h
    rw [bit_ne _ _ _ _ (by omega), bit_ne _ _ _ _ (by omega), bit_ne _ _ _ _ (by omega), bit_ne _ _ _ _ (by omega)] at h
    exact h
theorem own_true (a : List Bool) (i j : Nat) (h : own (stO a i) j = true) : j = i ∨ own a j = true := by
  by_cases e : j = i
  · exact .inl e
  · right
    unfold own stO at h
    rw [bit_ne _ _ _ _ (by omega), bit_ne _ _ _ _ (by omega), bit_ne _ _ _ _ (by omega), bit_ne _ _ _ _ (by omega)] at h
    exact h
theorem own_false (a : List Bool) (i j : Nat) (hi : own (stO a i) i = true) (h : own (stO a i) j = false) : own a j = false ∧ j ≠ i := by
  have ne : j ≠ i := fun e => by rw [e, hi] at h; cases h
  refine ⟨?_, ne⟩
  unfold own stO at h
  rw [bit_ne _ _ _ _ (by omega), bit_ne _ _ _ _ (by omega), bit_ne _ _ _ _ (by omega), bit_ne _ _ _ _ (by omega)] at h
  exact h
/-- those slots are set to what is frozen, or wiped -/
def clr (a : List Bool) : List Nat → List Bool
  | [] => a
  | v :: vs => stF (clr a vs) v
theorem own_clr : ∀ (vs : List Nat) (i : Nat), own (clr a vs) i = true → own a i = true ∧ i ∉ vs
  | [], i, h => ⟨h, by simp⟩
  | v :: vs, i, h => by
    obtain ⟨h1, h2⟩ := own_set _ _ _ h
    obtain ⟨h3, h4⟩ := own_clr vs i h1
    exact ⟨h3, by simp only [List.mem_cons, not_or]; exact ⟨h2, h4⟩⟩
theorem own_clr_ne : ∀ (vs : List Nat) (i : Nat), own (clr a vs) i = false → own a i = false ∨ i ∈ vs
  | [], i, h => .inl h
  | v :: vs, i, h => by
    rcases own_set_ne _ _ _ h with h1 | h1
    · rcases own_clr_ne vs i h1 with h2 | h2
      · exact .inl h2
      · exact .inr (List.mem_cons_of_mem _ h2)
    · exact .inr (by rw [h1]; exact List.mem_cons_self ..)
theorem own_clr_in : ∀ (vs : List Nat) (i : Nat), own a i = false → own (clr a vs) i = false := fun vs i h => by
  cases z : own (clr a vs) i with
  | false => rfl
  | true => rw [(own_clr vs i z).1] at h; cases h
theorem old_clr : ∀ (vs : List Nat) (i : Nat), old (clr a vs) i = true → old a i = true ∧ i ∉ vs
  | [], i, h => ⟨h, by simp⟩
  | v :: vs, i, h => by
    obtain ⟨h1, h2⟩ := old_stF _ _ _ h
    obtain ⟨h3, h4⟩ := old_clr vs i h1
    exact ⟨h3, by simp only [List.mem_cons, not_or]; exact ⟨h2, h4⟩⟩
theorem nw_clr : ∀ (vs : List Nat) (i : Nat), nw1 (clr a vs) i = true → nw1 a i = true ∧ i ∉ vs
  | [], i, h => ⟨h, by simp⟩
  | v :: vs, i, h => by
    obtain ⟨h1, h2⟩ := nw_stF _ _ _ h
    obtain ⟨h3, h4⟩ := nw_clr vs i h1
    exact ⟨h3, by simp only [List.mem_cons, not_or]; exact ⟨h2, h4⟩⟩
/-! ### the slots wiped -/
theorem wipeE_len : ∀ vs : List Nat, (wipeE δ vs).length = δ.length
  | [] => rfl
  | v :: vs => by unfold wipeE; rw [List.length_set, wipeE_len vs]
theorem wipe_ne {i : Nat} : ∀ (vs : List Nat), i ∉ vs → (wipe σ vs)[i]? = σ[i]?
  | [], _ => rfl
  | v :: vs, h => by
    simp only [List.mem_cons, not_or] at h
    unfold wipe
    rw [List.getElem?_set_ne (fun z => h.1 z.symm)]
    exact wipe_ne vs h.2
theorem wipeE_some {i : Nat} {x : D} : ∀ (vs : List Nat), (wipeE δ vs)[i]? = some (some x) → δ[i]? = some (some x) ∧ i ∉ vs
  | [], h => ⟨h, by simp⟩
  | v :: vs, h => by
    unfold wipeE at h
    by_cases e : v = i
    · subst e
      by_cases hv : v < (wipeE δ vs).length
      · rw [List.getElem?_set_self hv] at h; cases h
      · rw [List.getElem?_eq_none (by simpa using hv)] at h; cases h
    · rw [List.getElem?_set_ne e] at h
      obtain ⟨h1, h2⟩ := wipeE_some vs h
      exact ⟨h1, by simp only [List.mem_cons, not_or]; exact ⟨fun z => e z.symm, h2⟩⟩
theorem SI.wiped (S : SI K F0 B F H σ a δ) (vs : List Nat) : SI K F0 B F H (wipe σ vs) (clr a vs) (wipeE δ vs) where
  len := by rw [wipe_length, wipeE_len]; exact S.len
  BH := S.BH
  FH := S.FH
  F0F := S.F0F
  new := S.new
  sl := fun i d h => by
    obtain ⟨h1, h2⟩ := wipeE_some vs h
    obtain ⟨v, e, g1, g2⟩ := S.sl i d h1
    refine ⟨v, by rw [wipe_ne vs h2]; exact e, fun o => g1 (own_clr vs i o).1, fun o => ?_⟩
    rcases own_clr_ne vs i o with o | o
    · exact g2 o
    · exact absurd o h2
  dj := fun i j d e p oi oj bd be hi hj si sj => by
    obtain ⟨h1, h2⟩ := wipeE_some vs hi
    obtain ⟨h3, h4⟩ := wipeE_some vs hj
    rw [wipe_ne vs h2] at si
    rw [wipe_ne vs h4] at sj
    exact S.dj i j d e p (own_clr vs i oi).1 (own_clr vs j oj).1 bd be h1 h3 si sj
  ol := fun i d o h => by
    obtain ⟨h1, h2⟩ := wipeE_some vs h
    obtain ⟨g1, v, g2, g3⟩ := S.ol i d (old_clr vs i o).1 h1
    exact ⟨own_clr_in vs i g1, v, by rw [wipe_ne vs h2]; exact g2, g3⟩
  nf := fun i d o h => by
    obtain ⟨h1, h2⟩ := wipeE_some vs h
    obtain ⟨v, g2, g3⟩ := S.nf i d (nw_clr vs i o).1 h1
    refine ⟨v, by rw [wipe_ne vs h2]; exact g2, fun p ob e => ⟨(g3 p ob e).1, fun z => (g3 p ob e).2 ?_⟩⟩
    rcases own_clr_ne vs i z with z | z
    · exact z
    · exact absurd z h2
/-- a slot set to what is frozen -/
theorem SI.setF (S : SI K F0 B F H σ a δ) {i : Nat} (r : Rp K F v d) : SI K F0 B F H (σ.set i (some v)) (stF a i) (δ.set i (some d)) where
  len := by rw [List.length_set, List.length_set]; exact S.len
  BH := S.BH
  FH := S.FH
  F0F := S.F0F
  new := S.new
  sl := fun j x h => by
    by_cases e : i = j
    · subst e
      have hl : i < δ.length := by
        obtain ⟨h1, _⟩ := List.getElem?_eq_some_iff.mp h
        rw [List.length_set] at h1
        exact h1
      rw [List.getElem?_set_self hl] at h
      cases h
      refine ⟨v, by rw [List.getElem?_set_self (by rw [S.len]; exact hl)], fun o => absurd rfl (own_set _ _ _ o).2, fun _ => r⟩
    · rw [List.getElem?_set_ne e] at h
      obtain ⟨w, e2, g1, g2⟩ := S.sl j x h
      refine ⟨w, by rw [List.getElem?_set_ne e]; exact e2, fun o => g1 (own_set _ _ _ o).1, fun o => ?_⟩
      rcases own_set_ne _ _ _ o with o | o
      · exact g2 o
      · exact absurd o.symm e
  dj := fun x y d1 d2 p ox oy b1 b2 hx hy sx sy => by
    obtain ⟨ox, nx⟩ := own_set _ _ _ ox
    obtain ⟨oy, ny⟩ := own_set _ _ _ oy
    rw [List.getElem?_set_ne (fun z => nx z.symm)] at hx sx
    rw [List.getElem?_set_ne (fun z => ny z.symm)] at hy sy
    exact S.dj x y d1 d2 p ox oy b1 b2 hx hy sx sy
  ol := fun j x o h => by
    obtain ⟨o1, ne⟩ := old_stF _ _ _ o
    rw [List.getElem?_set_ne (fun z => ne z.symm)] at h
    obtain ⟨g1, w, g2, g3⟩ := S.ol j x o1 h
    refine ⟨?_, w, by rw [List.getElem?_set_ne (fun z => ne z.symm)]; exact g2, g3⟩
    cases z : own (stF a i) j with
    | false => rfl
    | true => rw [(own_set _ _ _ z).1] at g1; cases g1
  nf := fun j x o h => by
    obtain ⟨o1, ne⟩ := nw_stF _ _ _ o
    rw [List.getElem?_set_ne (fun z => ne z.symm)] at h
    obtain ⟨w, g2, g3⟩ := S.nf j x o1 h
    refine ⟨w, by rw [List.getElem?_set_ne (fun z => ne z.symm)]; exact g2, fun p ob e => ⟨(g3 p ob e).1, fun z => (g3 p ob e).2 ?_⟩⟩
    rcases own_set_ne _ _ _ z with z | z
    · exact z
    · exact absurd z ne
/-- the heap changes at a place that the state does not know -/
theorem SI.at_new (S : SI K F0 B F H σ a δ) {D : Addr} {o : HO} (fD : F D = none) (bD : B D = none) (ns : ∀ i d, own a i = true → isOb d = true → δ[i]? = some (some d) → σ[i]? ≠ some (some (.ref D))) : SI K F0 B F (upd H D o) σ a δ where
  len := S.len
  BH := fun b x e => by
    by_cases h : b = D
    · subst h; rw [bD] at e; cases e
    · rw [upd_ne h]; exact S.BH b x e
  FH := fun b x e => by
    by_cases h : b = D
    · subst h; rw [fD] at e; cases e
    · rw [upd_ne h]; exact S.FH b x e
  F0F := S.F0F
  new := S.new
  sl := fun i d h => by
    obtain ⟨v, e, h1, h2⟩ := S.sl i d h
    refine ⟨v, e, fun oi => ?_, h2⟩
    have g := h1 oi
    cases od : isOb d with
    | true =>
      obtain ⟨p, xs, rfl, fp, bp, hp, r⟩ := g.ob od
      have np : p ≠ D := fun z => ns i d oi od h (by rw [e, z])
      exact .of od ⟨p, xs, rfl, fp, bp, by rw [upd_ne np]; exact hp, r⟩
    | false => exact .ofNo od (g.no od)
  dj := S.dj
  ol := S.ol
  nf := S.nf

/-! ### targets of what is frozen -/
def tJG (K : PySem.W.Frag) (a : List Bool) (g : TF) (ts : List Nat) : TG := fun v σ H Q => ∃ F0 B F δ d, SI K F0 B F H σ a δ ∧ Rp K F v d ∧
  Ans (g d δ) (fun δ' => ∀ σ', SI K F0 B F H σ' (clr a ts) δ' → (∀ i, i ∉ ts → σ'[i]? = σ[i]?) → σ'.length = σ.length → Q σ' H) noE
def JG (X : Cx) (a : List Bool) (tg : Expr) (g : TF) (ts : List Nat) : Prop := PG X tg (tJG X.K a g ts)
theorem _root_.L2.PG.imp {X : Cx} {tg : Expr} {t t' : TG} (h : PG X tg t) (i : ∀ v σ H Q, t' v σ H Q → t v σ H Q) : PG X tg t' := ⟨fun pins s σ H v u Q I r q => h.run pins s σ H v u Q I r (i v σ H Q q)⟩
theorem _root_.L2.PGs.imp {X : Cx} {tg : List Expr} {t t' : TGs} (h : PGs X tg t) (i : ∀ v σ H Q, t' v σ H Q → t v σ H Q) : PGs X tg t' := ⟨fun pins s σ H v u Q I r q => h.run pins s σ H v u Q I r (i v σ H Q q)⟩
theorem jg_bad {g : TF} {ts : List Nat} (h : ∀ d δ, g d δ = .bad) : JG X a tg g ts := ⟨fun _ _ σ H v u Q _ _ ⟨_, _, _, δ, d, _, _, q⟩ => by rw [h d δ] at q; exact q.elim⟩
theorem jg_name {i : Nat} {x : Str} (nd : X.N.Nodup) (hi : X.N[i]? = some x) (hx : Loc X.env.scope x) (hf : X.fn x = true ∨ X.env.scope.names.lookup x = some .local) : JG X a (.Name x pos) (gNm i) [i] :=
  (pg_name nd hi hx hf).imp fun v σ H Q ⟨F0, B, F, δ, d, S, r, q⟩ => q (σ.set i (some v)) (S.setF r) (fun j hj => by rw [List.getElem?_set_ne (fun z => hj (by rw [z]; simp))]) (by rw [List.length_set])
def tJGs (K : PySem.W.Frag) (a : List Bool) (gs : List TF) (ts : List Nat) : TGs := fun vs σ H Q => ∃ F0 B F δ ds, SI K F0 B F H σ a δ ∧ Rps K F vs ds ∧
  Ans (gAll gs ds δ) (fun δ' => ∀ σ', SI K F0 B F H σ' (clr a ts) δ' → (∀ i, i ∉ ts → σ'[i]? = σ[i]?) → σ'.length = σ.length → Q σ' H) noE
theorem clr_app : ∀ (ts us : List Nat), clr a (ts ++ us) = clr (clr a us) ts
  | [], _ => rfl
  | t :: ts, us => by show stF (clr a (ts ++ us)) t = stF (clr (clr a us) ts) t; rw [clr_app ts us]
theorem jgs_nil : PGs X [] (tJGs X.K a [] []) := pgs_nil.imp fun vs σ H Q ⟨F0, B, F, δ, ds, S, rs, q⟩ => by
  cases ds with
  | nil => cases rs; exact ⟨rfl, q σ S (fun _ _ => rfl) rfl⟩
  | cons d ds => exact False.elim q
theorem jgs_cons {e : Expr} {es : List Expr} {g : TF} {gs : List TF} {ts us : List Nat} (h : JG X a e g ts) (t : PGs X es (tJGs X.K (clr a ts) gs us)) (hp : plainT e = true) : PGs X (e :: es) (tJGs X.K a (g :: gs) (us ++ ts)) :=
  (pgs_cons h t (by cases e <;> first | rfl | cases hp)).imp fun vs σ H Q ⟨F0, B, F, δ, ds, S, rs, q⟩ => by
    cases ds with
    | nil => exact False.elim q
    | cons d ds =>
      cases rs with
      | cons r rs =>
        unfold gAll at q
        rw [Ans.bind_iff] at q
        refine ⟨_, _, rfl, F0, B, F, δ, d, S, r, q.imp fun δ' q σ' S' hs hl => ⟨F0, B, F, δ', ds, S', rs, q.imp fun δ2 q σ2 S2 hs2 hl2 => q σ2 (by rw [clr_app]; exact S2) (fun i hi => ?_) (hl2.trans hl)⟩⟩
        rw [List.mem_append, not_or] at hi
        rw [hs2 i hi.1, hs i hi.2]
theorem gAll_len : ∀ {gs : List TF} {ds : List D} {δ : Env} {k : Env → Prop}, Ans (gAll gs ds δ) k noE → ds.length = gs.length
  | [], [], _, _, _ => rfl
  | [], _ :: _, _, _, h => False.elim h
  | _ :: _, [], _, _, h => False.elim h
  | g :: gs, d :: ds, δ, k, h => by
    unfold gAll at h
    rw [Ans.bind_iff] at h
    cases e : g d δ with
    | ok δ' =>
      rw [e] at h
      rw [List.length_cons, List.length_cons, gAll_len h]
    | err c i => rw [e] at h; exact False.elim h
    | bad => rw [e] at h; exact False.elim h
theorem each_len {es : List Expr} {env : PySem.Env} : (assignEach es env).length = es.length := by
  induction es with
  | nil => rfl
  | cons e es ih => cases e <;> (show (assignEach es env).length + 1 = _; rw [ih]; rfl)
theorem each_plain {es : List Expr} {env : PySem.Env} (h : es.all plainT = true) : (assignEach es env).findIdx? (·.1) = none := by
  rw [List.findIdx?_eq_none_iff]
  induction es with
  | nil => intro x hx; cases hx
  | cons e es ih =>
    rw [List.all_cons, Bool.and_eq_true] at h
    intro x hx
    have e2 : assignEach (e :: es) env = (false, assign e env) :: assignEach es env := by
      have h1 := h.1
      cases e <;> first | rfl | cases h1
    rw [e2] at hx
    rcases List.mem_cons.mp hx with rfl | hx
    · rfl
    · exact ih h.2 x hx
theorem pg_or {t u : TG} (h : PG X tg t) (h2 : PG X tg u) : PG X tg (fun v σ H Q => t v σ H Q ∨ u v σ H Q) := ⟨fun pins s σ H v x Q I r q => by
  rcases q with q | q
  · exact h.run pins s σ H v x Q I r q
  · exact h2.run pins s σ H v x Q I r q⟩
theorem jg_tup {es : List Expr} {gs : List TF} {ts : List Nat} {kk : Nat} (hc : X.calm = true) (hp : es.all plainT = true) (hl : gs.length = es.length) (h : PGs X es (tJGs X.K a gs ts)) : JG X a (.Tuple es kk pos) (gTp gs) ts :=
  (pg_or (pg_tup hc h (n := es.length) each_len (each_plain hp)) (pg_lst hc h (n := es.length) each_len (each_plain hp))).imp fun v σ H Q ⟨F0, B, F, δ, d, S, r, q⟩ => by
    unfold gTp at q
    rw [Ans.bind_iff] at q
    cases d with
    | tuple ds =>
      have q : Ans (gAll gs ds δ) _ noE := q
      cases r with
      | tup sq rs => exact .inl ⟨_, _, rfl, same_t S.FH sq, by rw [rs.length, gAll_len q, hl], F0, B, F, δ, ds, S, rs, q⟩
    | list ds =>
      have q : Ans (gAll gs ds δ) _ noE := q
      cases r with
      | lst sq rs => exact .inr ⟨_, _, rfl, (sq.mono S.FH).to, by rw [rs.length, gAll_len q, hl], F0, B, F, δ, ds, S, rs, q⟩
    | _ => exact False.elim q

/-! ### a list comprehension -/
def tJTs (K : PySem.W.Frag) (a : List Bool) (t : DT) : TT := tJT K wi0 a t
theorem Ans.if_t {α : Type} {b : Bool} {x y : R α} {k : α → Prop} {e : Str → Int → Prop} : Ans (if b = true then x else y) k e ↔ if b = true then Ans x k e else Ans y k e := by
  cases b <;> exact Iff.rfl
theorem wipe_set_in {vs : List Nat} {σ σ' : L2.St} (hl : σ'.length = σ.length) (h : ∀ i, i ∉ vs → σ'[i]? = σ[i]?) : wipe σ' vs = wipe σ vs := by
  apply List.ext_getElem?
  intro i
  by_cases hi : i ∈ vs
  · have key : ∀ (τ : L2.St) (us : List Nat), i ∈ us → (wipe τ us)[i]? = if i < τ.length then some none else none := by
      intro τ us
      induction us with
      | nil => intro h; cases h
      | cons u us ih =>
        intro hm
        unfold wipe
        by_cases e : u = i
        · subst e
          rw [List.getElem?_set]
          simp [wipe_length]
        · rw [List.getElem?_set_ne e]
          exact ih ((List.mem_cons.mp hm).resolve_left fun z => e z.symm)
    rw [key σ' vs hi, key σ vs hi, hl]
  · rw [wipe_ne vs hi, wipe_ne vs hi]
    exact h i hi
/-- the slots of the state that are the def's own stand for places that are known -/
theorem SI.ownAt (S : SI K F0 B F H σ a δ) {Lp : Addr} (hD : H Lp = none) : ∀ i d, own a i = true → isOb d = true → δ[i]? = some (some d) → σ[i]? ≠ some (some (.ref Lp)) := fun i d o od h z => by
  obtain ⟨v, e, h1, _⟩ := S.sl i _ h
  obtain ⟨p, xs, rfl, _, _, hp, _⟩ := (h1 o).ob od
  rw [e] at z
  cases z
  rw [hD] at hp
  cases hp
/-- a list under construction at Lp: what holds between the turns -/
structure Mk (K : PySem.W.Frag) (F0 B F1 H1 : Hp) (σ : L2.St) (a : List Bool) (δ : Env) (Lp : Addr) (F H : Hp) (acc : List V) (ys : List D) : Prop where
  S : SI K F0 B F H σ a δ
  fD : F Lp = none
  hD : H Lp = some (.lst acc)
  rs : Rps K F acc ys
  e1 : Same F1 F
  e2 : Same H1 H
  n : New H1 F1 F
theorem Mk.start (S : SI K F0 B F H σ a δ) {Lp : Addr} (hD : H Lp = none) : Mk K F0 B F H σ a δ Lp F (upd H Lp (.lst [])) [] [] :=
  ⟨S.grow (same_new hD), S.FH.free hD, upd_same, .nil, Same.refl _, same_new hD, New.refl _ _⟩
/-- later, nothing built -/
theorem Mk.later {Lp : Addr} {acc : List V} {ys : List D} {F2 H2 : Hp} (M : Mk K F0 B F1 H1 σ a δ Lp F H acc ys) (S2 : SI K F0 B F2 H2 σ a δ) (e1 : Same F F2) (e2 : Same H H2) (n : New H F F2) : Mk K F0 B F1 H1 σ a δ Lp F2 H2 acc ys := by
  refine ⟨S2, ?_, e2 _ _ M.hD, Rps.mono e1 _ _ M.rs, M.e1.trans e1, M.e2.trans e2, M.n.trans (n.back M.e2)⟩
  cases q : F2 Lp with
  | none => rfl
  | some o =>
    rcases n Lp (by rw [q]; simp) with z | z
    · exact absurd M.fD z
    · rw [M.hD] at z; cases z
theorem Mk.push {Lp : Addr} {acc : List V} {ys : List D} (M : Mk K F0 B F1 H1 σ a δ Lp F H acc ys) (h1D : H1 Lp = none) (S1 : SI K F0 B F1 H1 σ a δ) {y : V} {d : D} (r : Rp K F y d) : Mk K F0 B F1 H1 σ a δ Lp F (upd H Lp (.lst (acc ++ [y]))) (acc ++ [y]) (ys ++ [d]) := by
  refine ⟨M.S.at_new M.fD (S1.BH.free h1D) (S1.ownAt h1D), M.fD, upd_same, M.rs.snoc r, M.e1, fun b x e => ?_, M.n⟩
  have : b ≠ Lp := ne_of_none e h1D
  rw [upd_ne this]
  exact M.e2 b x e
theorem drop_cons {α : Type} {ds : List α} {i : Nat} (h : i < ds.length) : ds.drop i = ds[i] :: ds.drop (i + 1) := (List.drop_eq_getElem_cons h)
theorem wipe_twice (vs : List Nat) : wipe (wipe σ vs) vs = wipe σ vs := wipe_set_in (wipe_length σ vs) fun i hi => wipe_ne vs hi
theorem Ans.get {α : Type} {x : R α} {k : α → Prop} (h : Ans x k noE) : ∃ y, x = .ok y ∧ k y := by
  cases x with
  | ok y => exact ⟨y, rfl, h⟩
  | err c i => exact False.elim h
  | bad => exact False.elim h
theorem je_lc {iter elt : Expr} {ifs : List Expr} {scope : Scope} {ow : List (Str × Nat)} {di : DI} {g : TF} {t : DT} {ts : List Nat} (hc : X.calm = true) (nd : X.N.Nodup) (hi : JI X wi0 a true tg iter di) (ok : BlkOk X.N X.env.scope scope ow)
    (hg : ∀ (s : Shared) (H : Hp) (C : Addr) (cl : List (Str × Addr)) (fp : List Addr), JG (X.blk s H scope (compEnvC scope cl C X.env) fp) (clr a (ow.map (·.2))) tg g ts) (hts : ∀ i ∈ ts, i ∈ ow.map (·.2))
    (ht : ∀ (s : Shared) (H : Hp) (C : Addr) (cl : List (Str × Addr)) (fp : List Addr), PTs (X.blk s H scope (compEnvC scope cl C X.env) fp) ifs (tJT X.K wi0 (clr (clr a (ow.map (·.2))) ts) t))
    (he : ∀ (s : Shared) (H : Hp) (C : Addr) (cl : List (Str × Addr)) (fp : List Addr), JE (X.blk s H scope (compEnvC scope cl C X.env) fp) wi0 (clr (clr a (ow.map (·.2))) ts) elt f 2) (hs : ∀ x, foldedSetIterable iter X.env x = pure x)
    {σ : L2.St} {H : Hp} {Q : VK} (h : tJ X.K wi0 a (eLc (ow.map (·.2)) g di t f) 3 σ H Q) :
    tLc (tJI X.K wi0 a true di) (tJG X.K (clr a (ow.map (·.2))) g ts) (tJT X.K wi0 (clr (clr a (ow.map (·.2))) ts) t) (tJ X.K wi0 (clr (clr a (ow.map (·.2))) ts) f 2) (ow.map (·.2)) σ H Q := by
  obtain ⟨F0, B, F, δ, S, q⟩ := h
  unfold eLc at q
  rw [Ans.bind_iff] at q
  refine ⟨F0, B, F, δ, S, q.imp fun ds q J F1 H1 S1 e1 e2 n1 it Lp hL => ?_⟩
  rw [Ans.bind_iff] at q
  generalize hvs : ow.map (·.2) = vs at *
  have step : ∀ (ys : List D) (i : Nat), Ans (lcGo g t f (wipeE δ vs) (ds.drop i)) (fun zs => Ans (if (ys ++ zs).length ≤ lim then Dv.R.ok (PyData.list (ys ++ zs)) else .bad) (fun d => ∀ v F' H', SI X.K F0 B F' H' σ a δ → Same F F' → Same H H' → New H F F' → Res X.K 3 B H F' H' v d → Q v H') noE) noE → ys.length ≤ lim := by
    intro ys i h
    obtain ⟨zs, _, h⟩ := h.get
    obtain ⟨h, _⟩ := Ans.if_bad (c := (ys ++ zs).length ≤ lim) h
    rw [List.length_append] at h
    omega
  refine ⟨fun i m H3 => ∃ F3 acc ys, m = ds.length - i ∧ i ≤ ds.length ∧ Mk X.K F0 B F1 H1 (wipe σ vs) (clr a vs) (wipeE δ vs) Lp F3 H3 acc ys ∧
    Ans (lcGo g t f (wipeE δ vs) (ds.drop i)) (fun zs => Ans (if (ys ++ zs).length ≤ lim then Dv.R.ok (PyData.list (ys ++ zs)) else .bad) (fun d => ∀ v F' H', SI X.K F0 B F' H' σ a δ → Same F F' → Same H H' → New H F F' → Res X.K 3 B H F' H' v d → Q v H') noE) noE,
    ⟨ds.length, F1, [], [], by simp, Nat.zero_le _, Mk.start (S1.wiped vs) hL, q⟩, ?_⟩
  rintro i m H3 ⟨F3, acc, ys, rfl, hi, M, q⟩
  by_cases hlt : i < ds.length
  · have hd : ds[i]? = some ds[i] := List.getElem?_eq_getElem hlt
    obtain ⟨go, yld⟩ := it.2 i _ H3 F3 M.e1 M.S.FH M.e2 hd
    have sz := step ys i q
    rw [drop_cons hlt] at q
    unfold lcGo at q
    refine .inr ⟨go, fun H' => ∃ F3 acc ys, i + 1 ≤ ds.length ∧ Mk X.K F0 B F1 H1 (wipe σ vs) (clr a vs) (wipeE δ vs) Lp F3 H' acc ys ∧
      Ans (lcGo g t f (wipeE δ vs) (ds.drop (i + 1))) (fun zs => Ans (if (ys ++ zs).length ≤ lim then Dv.R.ok (PyData.list (ys ++ zs)) else .bad) (fun d => ∀ v F' H', SI X.K F0 B F' H' σ a δ → Same F F' → Same H H' → New H F F' → Res X.K 3 B H F' H' v d → Q v H') noE) noE,
      fun H' ⟨F4, acc4, ys4, h1, h2, h3⟩ => ⟨ds.length - (i + 1), by omega, F4, acc4, ys4, rfl, h1, h2, h3⟩, fun x H4 hy => ?_⟩
    obtain ⟨F4, e3, e4, e5, n4, rx⟩ := yld x H4 hy
    have M4 := M.later (M.S.later e3 e4 e5 n4) e3 e4 n4
    rw [Ans.bind_iff] at q
    refine ⟨F0, B, F4, wipeE δ vs, ds[i], M4.S, rx, q.imp fun δ2 q σ2 S2 hs2 hl2 => ⟨?_, F0, B, F4, δ2, S2, ?_⟩⟩
    · exact (wipe_set_in (σ := wipe σ vs) hl2 fun j hj => hs2 j fun z => hj (hts j z)).trans (wipe_twice vs)
    rw [Ans.bind_iff] at q
    refine q.imp fun b q F5 H5 S5 e6 e7 n5 => ?_
    have M5 := M4.later (M4.S.later e6 e7 S5.FH n5) e6 e7 n5
    cases b with
    | false => exact ⟨F5, acc, ys, hlt, M5, q⟩
    | true =>
      have q : Ans ((f δ2).bind fun y => (lcGo g t f (wipeE δ vs) (ds.drop (i + 1))).bind fun ys => .ok (y :: ys)) _ noE := q
      rw [Ans.bind_iff] at q
      refine ⟨F0, B, F5, δ2, S5, q.imp fun y q vy F6 H6 S6 e8 e9 n6 r6 => ?_⟩
      have M6 := M5.later (M5.S.later e8 e9 S6.FH n6) e8 e9 n6
      have la : acc.length = ys.length := M.rs.length
      refine ⟨acc, M6.hD, Nat.lt_of_le_of_lt (by rw [la]; exact sz) (by decide), F6, _, ys ++ [y], hlt, M6.push hL (S1.wiped vs) r6, ?_⟩
      rw [Ans.bind_iff] at q
      refine q.imp fun zs q => ?_
      have e10 : ys ++ [y] ++ zs = ys ++ y :: zs := by simp
      rw [e10]
      exact q
  · have ei : i = ds.length := by omega
    rw [List.drop_eq_nil_of_le (by omega)] at q
    have q : Ans (if (ys ++ []).length ≤ lim then Dv.R.ok (PyData.list (ys ++ [])) else .bad) _ noE := q
    obtain ⟨_, q⟩ := Ans.if_bad (c := (ys ++ []).length ≤ lim) q
    rw [List.append_nil] at q
    exact .inl ⟨it.1 i H3 F3 M.e1 M.S.FH M.e2 (by omega), q (.ref Lp) F3 H3 (S1.later M.e1 M.e2 M.S.FH M.n) (e1.trans M.e1) (e2.trans M.e2) (n1.trans (M.n.back e2)) (Ow.mkL ⟨Lp, acc, rfl, M.fD, e2.free hL, M.hD, M.rs⟩)⟩
/-! ### two clauses -/
theorem ans_ok {α : Type} {r : Dv.R α} {x : α} {k : α → Prop} {e : Str → Int → Prop} (h : r = .ok x) (q : k x) : Ans r k e := by subst h; exact q
theorem wipeE_ne {i : Nat} : ∀ (vs : List Nat), i ∉ vs → (wipeE δ vs)[i]? = δ[i]?
  | [], _ => rfl
  | v :: vs, h => by
    unfold wipeE
    rw [List.getElem?_set_ne (fun e => h (by rw [e]; exact .head _)), wipeE_ne vs fun m => h (.tail _ m)]
theorem Ans.ok_iff {α : Type} {x : α} {k : α → Prop} {e : Str → Int → Prop} : Ans (.ok x) k e ↔ k x := Iff.rfl
theorem je_lc2 {vs ts ts1 : List Nat} {di di1 : DI} {g g1 : TF} {t t1 : DT} (hts : ∀ i ∈ ts, i ∈ vs) (hts1 : ∀ i ∈ ts1, i ∈ vs) (hg : ∀ (d : D) (δ δ' : Env), g d δ = .ok δ' → ∀ i, i ∉ ts → δ'[i]? = δ[i]?)
    {σ : L2.St} {H : Hp} {Q : VK} (h : tJ X.K wi0 a (eLc2 vs g di t di1 ts1 g1 t1 f) 3 σ H Q) :
    tLc2 (tJI X.K wi0 a true di) (tJG X.K (clr a vs) g ts) (tJT X.K wi0 (clr (clr a vs) ts) t) (tJI X.K wi0 (clr (clr a vs) ts) false di1) (tJG X.K (clr (clr (clr a vs) ts) ts1) g1 ts1)
      (tJT X.K wi0 (clr (clr (clr (clr a vs) ts) ts1) ts1) t1) (tJ X.K wi0 (clr (clr (clr (clr a vs) ts) ts1) ts1) f 2) vs ts1 σ H Q := by
  obtain ⟨F0, B, F, δ, S, q⟩ := h
  unfold eLc2 at q
  rw [Ans.bind_iff] at q
  refine ⟨F0, B, F, δ, S, q.imp fun ds q J F1 H1 S1 e1 e2 n1 it Lp hL => ?_⟩
  rw [Ans.bind_iff] at q
  obtain ⟨Fin, hFin⟩ : ∃ Fin : List D → Prop, Fin = fun all : List D => Ans (if all.length ≤ lim then Dv.R.ok (PyData.list all) else .bad) (fun d => ∀ v F' H', SI X.K F0 B F' H' σ a δ → Same F F' → Same H H' → New H F F' → Res X.K 3 B H F' H' v d → Q v H') noE := ⟨_, rfl⟩
  have hfin : ∀ all, Fin all → all.length ≤ lim ∧ ∀ v F' H', SI X.K F0 B F' H' σ a δ → Same F F' → Same H H' → New H F F' → Res X.K 3 B H F' H' v (.list all) → Q v H' := by
    intro all h
    subst hFin
    obtain ⟨h1, h2⟩ := Ans.if_bad (c := all.length ≤ lim) h
    exact ⟨h1, h2⟩
  have start : Ans (lcGo2 g t di1 ts1 g1 t1 f (wipeE δ vs) (ds.drop 0)) (fun zs => Fin ([] ++ zs)) noE := by rw [hFin]; exact q
  clear q hFin
  have step : ∀ (ys : List D) (i : Nat), Ans (lcGo2 g t di1 ts1 g1 t1 f (wipeE δ vs) (ds.drop i)) (fun zs => Fin (ys ++ zs)) noE → ys.length ≤ lim := by
    intro ys i h
    obtain ⟨zs, _, h⟩ := h.get
    have h := (hfin _ h).1
    rw [List.length_append] at h
    omega
  refine ⟨fun i m H3 => ∃ F3 acc ys, m = ds.length - i ∧ i ≤ ds.length ∧ Mk X.K F0 B F1 H1 (wipe σ vs) (clr a vs) (wipeE δ vs) Lp F3 H3 acc ys ∧
    Ans (lcGo2 g t di1 ts1 g1 t1 f (wipeE δ vs) (ds.drop i)) (fun zs => Fin (ys ++ zs)) noE,
    ⟨ds.length, F1, [], [], by simp, Nat.zero_le _, Mk.start (S1.wiped vs) hL, start⟩, ?_⟩
  rintro i m H3 ⟨F3, acc, ys, rfl, hi, M, q⟩
  by_cases hlt : i < ds.length
  · have hd : ds[i]? = some ds[i] := List.getElem?_eq_getElem hlt
    obtain ⟨go, yld⟩ := it.2 i _ H3 F3 M.e1 M.S.FH M.e2 hd
    rw [drop_cons hlt] at q
    unfold lcGo2 at q
    refine .inr ⟨go, fun H' => ∃ F3 acc ys, i + 1 ≤ ds.length ∧ Mk X.K F0 B F1 H1 (wipe σ vs) (clr a vs) (wipeE δ vs) Lp F3 H' acc ys ∧
      Ans (lcGo2 g t di1 ts1 g1 t1 f (wipeE δ vs) (ds.drop (i + 1))) (fun zs => Fin (ys ++ zs)) noE,
      fun H' ⟨F4, acc4, ys4, h1, h2, h3⟩ => ⟨ds.length - (i + 1), by omega, F4, acc4, ys4, rfl, h1, h2, h3⟩, fun x H4 hy => ?_⟩
    obtain ⟨F4, e3, e4, e5, n4, rx⟩ := yld x H4 hy
    have M4 := M.later (M.S.later e3 e4 e5 n4) e3 e4 n4
    rw [Ans.bind_iff] at q
    obtain ⟨δ2, hgd, q⟩ := q.get
    have same := hg _ _ _ hgd
    refine ⟨F0, B, F4, wipeE δ vs, ds[i], M4.S, rx, ans_ok hgd fun σ2 S2 hs2 hl2 => ⟨?_, F0, B, F4, δ2, S2, ?_⟩⟩
    · exact (wipe_set_in (σ := wipe σ vs) hl2 fun j hj => hs2 j fun z => hj (hts j z)).trans (wipe_twice vs)
    rw [Ans.bind_iff] at q
    refine q.imp fun b q F5 H5 S5 e6 e7 n5 => ?_
    have M5 := M4.later (M4.S.later e6 e7 S5.FH n5) e6 e7 n5
    cases b with
    | false => exact ⟨F5, acc, ys, hlt, M5, q⟩
    | true =>
      have q : Ans ((di1 δ2).bind fun ds2 => (lcGo g1 t1 f (wipeE δ2 ts1) ds2).bind fun ys => (lcGo2 g t di1 ts1 g1 t1 f (wipeE δ vs) (ds.drop (i + 1))).bind fun zs => .ok (ys ++ zs)) (fun zs => Fin (ys ++ zs)) noE := q
      rw [Ans.bind_iff] at q
      refine ⟨F0, B, F5, δ2, S5, q.imp fun ds2 q J1 F6 H6 S6 e8 e9 n6 it1 => ?_⟩
      have M6 := M5.later (M5.S.later e8 e9 S6.FH n6) e8 e9 n6
      have it1 : ItOf X.K F6 F6 J1 ds2 := it1
      rw [Ans.bind_iff] at q
      have q : Ans (lcGo g1 t1 f (wipeE δ2 ts1) (ds2.drop 0)) (fun y2 => Ans (lcGo2 g t di1 ts1 g1 t1 f (wipeE δ vs) (ds.drop (i + 1))) (fun zs => Fin (ys ++ y2 ++ zs)) noE) noE := q.imp fun y2 q => by
        rw [Ans.bind_iff] at q
        exact q.imp fun zs q => by rw [List.append_assoc]; exact q
      -- the inner state at the second clause's turns
      have own2 : ∀ j l, own (clr (clr (clr a vs) ts) ts1) j = true → isOb l = true → (wipeE δ2 ts1)[j]? = some (some l) → (wipe σ2 ts1)[j]? ≠ some (some (.ref Lp)) := by
        intro j l ho ol hj
        obtain ⟨o1, o2⟩ := own_clr _ _ ho
        obtain ⟨o3, o4⟩ := own_clr _ _ o1
        rw [wipe_ne ts1 o2, hs2 j o4]
        refine (S1.wiped vs).ownAt hL j l o3 ol ?_
        rw [← same j o4, ← wipeE_ne ts1 o2]
        exact hj
      have W6 := S6.wiped ts1
      refine ⟨fun j k H7 => ∃ F7 acc7 ys7, k = ds2.length - j ∧ j ≤ ds2.length ∧ Mk X.K F0 B F1 H1 (wipe σ vs) (clr a vs) (wipeE δ vs) Lp F7 H7 acc7 ys7 ∧ SI X.K F0 B F7 H7 (wipe σ2 ts1) (clr (clr (clr a vs) ts) ts1) (wipeE δ2 ts1) ∧ Same F6 F7 ∧
        Ans (lcGo g1 t1 f (wipeE δ2 ts1) (ds2.drop j)) (fun y2 => Ans (lcGo2 g t di1 ts1 g1 t1 f (wipeE δ vs) (ds.drop (i + 1))) (fun zs => Fin (ys7 ++ y2 ++ zs)) noE) noE,
        ⟨ds2.length, F6, acc, ys, by simp, Nat.zero_le _, M6, W6, Same.refl _, q⟩, ?_⟩
      rintro j k H7 ⟨F7, acc7, ys7, rfl, hj, M7, W7, e67, q⟩
      by_cases hlt1 : j < ds2.length
      · have hd1 : ds2[j]? = some ds2[j] := List.getElem?_eq_getElem hlt1
        obtain ⟨go1, yld1⟩ := it1.2 j _ H7 F7 e67 M7.S.FH (e67.trans M7.S.FH) hd1
        have sz : ys7.length ≤ lim := by
          obtain ⟨y2, _, q⟩ := q.get
          have := step _ _ q
          rw [List.length_append] at this
          omega
        rw [drop_cons hlt1] at q
        unfold lcGo at q
        refine .inr ⟨go1, fun H' => ∃ F7 acc7 ys7, j + 1 ≤ ds2.length ∧ Mk X.K F0 B F1 H1 (wipe σ vs) (clr a vs) (wipeE δ vs) Lp F7 H' acc7 ys7 ∧ SI X.K F0 B F7 H' (wipe σ2 ts1) (clr (clr (clr a vs) ts) ts1) (wipeE δ2 ts1) ∧ Same F6 F7 ∧
          Ans (lcGo g1 t1 f (wipeE δ2 ts1) (ds2.drop (j + 1))) (fun y2 => Ans (lcGo2 g t di1 ts1 g1 t1 f (wipeE δ vs) (ds.drop (i + 1))) (fun zs => Fin (ys7 ++ y2 ++ zs)) noE) noE,
          fun H' ⟨F8, acc8, ys8, h1, h2, h3, h4, h5⟩ => ⟨ds2.length - (j + 1), by omega, F8, acc8, ys8, rfl, h1, h2, h3, h4, h5⟩, fun x H8 hy => ?_⟩
        obtain ⟨F8, a1, a2, a3, na, rx1⟩ := yld1 x H8 hy
        have W8 := W7.later a1 a2 a3 na
        have M8 := M7.later (M7.S.later a1 a2 a3 na) a1 a2 na
        rw [Ans.bind_iff] at q
        refine ⟨F0, B, F8, wipeE δ2 ts1, ds2[j], W8, rx1, q.imp fun δ3 q σ3 S3 hs3 hl3 => ⟨?_, F0, B, F8, δ3, S3, ?_⟩⟩
        · exact (wipe_set_in (σ := wipe σ2 ts1) hl3 fun l hl => hs3 l hl).trans (wipe_twice ts1)
        rw [Ans.bind_iff] at q
        refine q.imp fun b q F9 H9 S9 b1 b2 nb => ?_
        have W9 := W8.later b1 b2 S9.FH nb
        have M9 := M8.later (M8.S.later b1 b2 S9.FH nb) b1 b2 nb
        cases b with
        | false => exact ⟨F9, acc7, ys7, hlt1, M9, W9, (e67.trans a1).trans b1, q⟩
        | true =>
          have q : Ans ((f δ3).bind fun y => (lcGo g1 t1 f (wipeE δ2 ts1) (ds2.drop (j + 1))).bind fun ys => .ok (y :: ys)) _ noE := q
          rw [Ans.bind_iff] at q
          refine ⟨F0, B, F9, δ3, S9, q.imp fun y q vy F10 H10 S10 c1 c2 nc r10 => ?_⟩
          have M10 := M9.later (M9.S.later c1 c2 S10.FH nc) c1 c2 nc
          have W10 := W9.later c1 c2 S10.FH nc
          have la : acc7.length = ys7.length := M7.rs.length
          refine ⟨acc7, M10.hD, Nat.lt_of_le_of_lt (by rw [la]; exact sz) (by decide), F10, _, ys7 ++ [y], hlt1, M10.push hL (S1.wiped vs) r10, W10.at_new M10.fD (S1.BH.free hL) own2, ((e67.trans a1).trans b1).trans c1, ?_⟩
          rw [Ans.bind_iff] at q
          refine q.imp fun zs q => ?_
          have e10 : ys7 ++ [y] ++ zs = ys7 ++ y :: zs := by simp
          rw [e10]
          exact q
      · rw [List.drop_eq_nil_of_le (by omega)] at q
        have q : Ans (lcGo2 g t di1 ts1 g1 t1 f (wipeE δ vs) (ds.drop (i + 1))) (fun zs => Fin (ys7 ++ [] ++ zs)) noE := q
        rw [List.append_nil] at q
        exact .inl ⟨it1.1 j H7 F7 e67 M7.S.FH (e67.trans M7.S.FH) (by omega), F7, acc7, ys7, hlt, M7, q⟩
  · rw [List.drop_eq_nil_of_le (by omega)] at q
    have q : Fin (ys ++ []) := q
    rw [List.append_nil] at q
    exact .inl ⟨it.1 i H3 F3 M.e1 M.S.FH M.e2 (by omega), (hfin _ q).2 (.ref Lp) F3 H3 (S1.later M.e1 M.e2 M.S.FH M.n) (e1.trans M.e1) (e2.trans M.e2) (n1.trans (M.n.back e2)) (Ow.mkL ⟨Lp, acc, rfl, M.fD, e2.free hL, M.hD, M.rs⟩)⟩
end Dv
/-! Dv12: calls of defs; the context; the look at an expression. -/
namespace Dv
open PySem PySem.Spec PyProof.Rows L2
variable {X : Cx} {W : Wi} {K : PySem.W.Frag} {F F' F0 F1 B H H' H1 : Hp} {v : V} {d : D} {k : Nat} {σ : L2.St} {δ : Env} {pins : List (Addr × Obj)} {s : Shared} {Q : VK} {e tg a1 b1 : Expr} {a : List Bool} {f fa fb : DE} {pos p : Pos}

/-! ### what a def gives -/
/-- the frozen arguments' data in, the answer out; o: of which kind what it hands back is (2 frozen, 3 new, 4 + n frozen and new to the depth n) -/
def prom (K : PySem.W.Frag) (m : List D → R D) (o : Nat) : List V → Hp → VK → Prop := fun vs H Q => ∃ F ds, Same F H ∧ Rps K F vs ds ∧
  Ans (m ds) (fun d => ∀ v F' H', Same F F' → Same H H' → Same F' H' → New H F F' → Res K o H H F' H' v d → Q v H') noE
/-- a def keeps what it gives, called from code that no guard stands around -/
structure Fk (P : Program) (w : World) (K : PySem.W.Frag) (mg : Str → Option Value) (base : Heap) (k : Nat) (f : Addr) (fd : FuncData) (ps : List Str) (sp : List V → Hp → VK → Prop) : Prop where
  many : ∀ vs H Q, sp vs H Q → vs.length = ps.length
  does : ∀ (A : Around) (outer : List PySem.Env) (s : Shared) (H : Hp) (args : Args) (us : List Value) (vs : List V) (Q : VK), Room k A → A.guards = some [] → Env0 P w K mg base A outer s H →
    BindsTo s fd args (ps.zip us) → Vals vs us → sp vs H Q → codeAny (model P w) A (.call (.ref f) args) (CR CX0 outer P w H s Q E0) s
def FnAt (X : Cx) (x : Str) (m : List D → R D) (o : Nat) : Prop := ∃ (k : Nat) (f : Addr) (fd : FuncData) (ps : List Str), Fk X.prog X.w X.K X.mg X.base k f fd ps (prom X.K m o) ∧ Room k X.A ∧ X.mg x = some (.ref f) ∧
  PySem.W.keepIn X.K (.ref f) = true ∧ Binds X.K fd ps []
theorem Fk.called {f : Addr} {fd : FuncData} {ps : List Str} {sp : List V → Hp → VK → Prop} {us : List Value} {vs : List V} (fk : Fk X.prog X.w X.K X.mg X.base k f fd ps sp) (room : Room k X.A) (gu : X.A.guards = some []) (bi : Binds X.K fd ps [])
    (I : Inv X pins σ H s) (rel : Vals vs us) (q : sp vs H Q) : wpAny (model X.prog X.w) X.A (call (.ref f) us) (EP X pins σ Q) X.xe s := by
  have n : us.length = ps.length := rel.length.symm.trans (fk.many vs H Q q)
  have b := bi s us I.kIn (by rw [List.append_nil]; exact n)
  rw [List.append_nil] at b
  refine wpAny_call (codeAny_mono (fk.does X.A X.stack s H ⟨us, []⟩ us vs Q room gu I.env0 b rel q) fun res s' z => ?_)
  match res, z with
  | .ok (.ret _), z => exact I.after z
  | .ok .next, z => exact False.elim z
  | .ok .brk, z => exact False.elim z
  | .ok .cont, z => exact False.elim z
  | .error _, z => exact False.elim z
def notDbg (x : Str) : Bool := !(x == ("__debug__" : Str)) && !(x == ("__classdict__" : Str))
theorem dbg1 {x : Str} (h : notDbg x = true) : (x == ("__debug__" : Str)) = false := by
  unfold notDbg at h
  rw [Bool.and_eq_true] at h
  simpa using h.1
theorem dbg2 {x : Str} (h : notDbg x = true) : (x == ("__classdict__" : Str)) = false := by
  unfold notDbg at h
  rw [Bool.and_eq_true] at h
  simpa using h.2
def tFn (K : PySem.W.Frag) (m : List D → R D) (o : Nat) (t : TA) : TE := fun σ H Q => t σ H fun vs H1 => prom K m o vs H1 Q
theorem pe_fn0 {x : Str} {m : List D → R D} {o : Nat} (fa : FnAt X x m o) (gu : X.A.guards = some []) (gl : Gl X x) (hx : notDbg x = true) : PE X (.Call (.Name x p) [] [] pos) (tFn X.K m o L2.tNil) := by
  obtain ⟨k, f, fd, ps, fk, room, hm, keep, bi⟩ := fa
  refine ⟨fun pins s σ H Q I q => wpAny_Call_Name_kw (ld_glob I gl hm ?_ (dbg1 hx))⟩
  exact PySem.W.callWith_K0 I.kIn keep (fk.called (us := []) room gu bi I .nil q)
theorem pe_fn {x : Str} {m : List D → R D} {o : Nat} {t : TA} {es : List Expr} (fa : FnAt X x m o) (gu : X.A.guards = some []) (gl : Gl X x) (hx : notDbg x = true) (ha : PA X (e :: es) t) (hp : (e :: es).all plainE = true) : PE X (.Call (.Name x p) (e :: es) [] pos) (tFn X.K m o t) := by
  rw [List.all_cons, Bool.and_eq_true] at hp
  obtain ⟨k, f, fd, ps, fk, room, hm, keep, bi⟩ := fa
  refine ⟨fun pins s σ H Q I q => wpAny_Call_Name_kw (ld_glob I gl hm ?_ (dbg1 hx))⟩
  exact PySem.W.callWith_K (h₀ := X.base) I.ok.mod.kin keep (thn (ha.run pos pins s σ H _ I q) fun us s1 ⟨vs, H1, I1, r, q1⟩ => ⟨I1.kIn, fk.called room gu bi I1 r q1⟩) (star_cons hp.1) (star_any pos hp.2)
theorem je_fnT {m : List D → R D} {o : Nat} {fs : List DE} {t : TA} (h : PE X e (tFn X.K m o t)) (ht : ∀ σ H Q, tJA X.K wi0 a fs (fun F _ vs ds => Rps X.K F vs ds) σ H Q → t σ H Q) :
    JE X wi0 a e (eCall m fs) o := h.imp fun σ H Q ⟨F0, B, F, δ, S, q⟩ => by
  unfold eCall at q
  rw [Ans.bind_iff] at q
  refine ht σ H _ ⟨F0, B, F, δ, S, q.imp fun ds q vs F1 H1 S1 e1 e2 n1 r1 => ⟨F1, ds, S1.FH, r1, q.mono (fun d _ q v F2 H2 e3 e4 e5 n2 h1 => ?_) fun _ _ z => z⟩⟩
  exact q v F2 H2 (S1.later e3 e4 e5 n2) (e1.trans e3) (e2.trans e4) (n1.trans (n2.back e2)) (h1.back S1.BH e2)
theorem je_fn {x : Str} {m : List D → R D} {o : Nat} (fa : FnAt X x m o) (gu : X.A.guards = some []) (gl : Gl X x) (hx : notDbg x = true) : ∀ {es : List Expr} {fs : List DE}, Each2 (fun e f => JE X wi0 a e f 2) es fs → es.all plainE = true →
    JE X wi0 a (.Call (.Name x p) es [] pos) (eCall m fs) o
  | _, _, .nil, _ => je_fnT (pe_fn0 fa gu gl hx) fun σ H Q ⟨F0, B, F, δ, S, q⟩ => q [] F H S (Same.refl F) (Same.refl H) (New.refl _ _) .nil
  | _, _, .cons h t, hp => je_fnT (pe_fn fa gu gl hx (ja_all (.cons h t) hp) hp) fun σ H Q q => q

/-! ### a call that keeps nothing of its arguments -/
mutual
/-- no list lies in it -/
def nol : D → Bool
  | .none => true
  | .bool _ => true
  | .int _ => true
  | .str _ => true
  | .list _ => false
  | .tuple xs => nols xs
  | .dict _ => false
def nols : List D → Bool
  | [] => true
  | x :: xs => nol x && nols xs
end
def flatD (o : Bool) : D → Bool
  | .list xs => o && nols xs
  | .dict kvs => o && kvs.all fun p => nol p.2
  | d => nol d
def Flat (m : List D → R D) (o : Bool) : Prop := ∀ ds d, m ds = .ok d → flatD o d = true
/-- an answer that is not flat is none -/
def gFlat (o : Bool) (m : List D → R D) : List D → R D := fun ds => (m ds).bind fun d => if flatD o d then .ok d else .bad
theorem flat_g (o : Bool) (m : List D → R D) : Flat (gFlat o m) o := fun ds d h => by
  obtain ⟨x, _, h⟩ := R.bind_eq_ok h
  split at h
  · cases h; assumption
  · cases h
/-- all lists of the heap frozen for a while -/
def mu : HO → Bool
  | .lst _ => true
  | .dK _ => true
  | _ => false
def allF (F H : Hp) : Hp := fun b => match F b with
  | some o => some o
  | none => match H b with
    | some o => if mu o then some o else none
    | none => none
theorem allF_F {b : Addr} {o : HO} (h : F b = some o) : allF F H b = some o := by unfold allF; rw [h]
theorem allF_mu {b : Addr} {o : HO} (h : H b = some o) (m : mu o = true) (FH : Same F H) : allF F H b = some o := by
  cases q : F b with
  | some o' => rw [allF_F q, ← FH b o' q, h]
  | none => unfold allF; rw [q, h]; exact if_pos m
theorem allF_new {b : Addr} (h : F b = none) (h2 : allF F H b ≠ none) : ∃ o, allF F H b = some o ∧ mu o = true := by
  unfold allF at h2 ⊢
  rw [h] at h2 ⊢
  dsimp only at h2 ⊢
  cases e : H b with
  | none => rw [e] at h2; exact absurd rfl h2
  | some o =>
    rw [e] at h2
    dsimp only at h2 ⊢
    cases m : mu o with
    | true => exact ⟨o, rfl, m⟩
    | false => rw [m] at h2; exact absurd rfl h2
theorem allF_H (FH : Same F H) : Same (allF F H) H := fun b o h => by
  unfold allF at h
  split at h
  · rename_i x e; cases h; exact FH b _ e
  · split at h
    · rename_i x e
      split at h
      · cases h; exact e
      · cases h
    · cases h
theorem allF_rps (FH : Same F H) : ∀ {vs : List V} {ds : List D}, Rhs K F H vs ds → Rps K (allF F H) vs ds
  | _, _, .nil => .nil
  | _, _, .cons r t => .cons (by
      have up : Same F (allF F H) := fun b o h => allF_F h
      rcases r with r | ⟨p, u, rfl, hp, rs⟩
      · exact Rp.mono up _ _ r
      · refine (rs.mono up).rp (allF_mu hp ?_ FH)
        cases rs <;> rfl) (allF_rps FH t)
/-- thawed again -/
def thaw (F H F2 : Hp) : Hp := fun b => if F b = none ∧ allF F H b ≠ none then none else F2 b
theorem thaw_tup {F2 : Hp} (e : Same (allF F H) F2) {a : Addr} {xs : List V} (h : SqT K F2 a xs) : SqT K (thaw F H F2) a xs := by
  have at_ : ∀ {b : Addr} {o : HO}, F2 b = some o → mu o = false → thaw F H F2 b = some o := fun {b o} h nl => by
    unfold thaw
    rw [if_neg]
    · exact h
    · intro ⟨z1, z2⟩
      obtain ⟨o', z3, z4⟩ := allF_new z1 z2
      have := e b _ z3
      rw [h] at this
      cases Option.some.inj this
      rw [nl] at z4
      cases z4
  rcases h with (h | ⟨o, h⟩) | h
  · exact .inl (.inl (at_ h rfl))
  · exact .inl (.inr ⟨o, at_ h rfl⟩)
  · exact .inr h
mutual
theorem thaw_rp {F2 : Hp} (e : Same (allF F H) F2) : ∀ (d : D) (v : V), nol d = true → Rp K F2 v d → Rp K (thaw F H F2) v d
  | .none, _, _, h => by cases h; exact .non
  | .bool _, _, _, h => by cases h; exact .bl _
  | .int _, _, _, h => by cases h; exact .int _
  | .str _, _, _, h => by cases h with | str s => exact .str s
  | .list ds, _, n, _ => by cases n
  | .tuple ds, _, n, h => by cases h with | tup s r => exact .tup (thaw_tup e s) (thaw_rps e ds _ n r)
  | .dict _, _, n, _ => by cases n
theorem thaw_rps {F2 : Hp} (e : Same (allF F H) F2) : ∀ (ds : List D) (vs : List V), nols ds = true → Rps K F2 vs ds → Rps K (thaw F H F2) vs ds
  | [], _, _, h => by cases h; exact .nil
  | d :: ds, _, n, h => by
    have n : (nol d && nols ds) = true := n
    rw [Bool.and_eq_true] at n
    cases h with | cons a b => exact .cons (thaw_rp e d _ n.1 a) (thaw_rps e ds _ n.2 b)
end
theorem thaw_rkv {F2 : Hp} (e : Same (allF F H) F2) : ∀ (kvs : List (D × D)) (ks : List (Key × V)), (kvs.all fun p => nol p.2) = true → Rkv K F2 ks kvs → Rkv K (thaw F H F2) ks kvs
  | [], _, _, h => by cases h; exact .nil
  | (_, d) :: kvs, _, n, h => by
    rw [List.all_cons, Bool.and_eq_true] at n
    cases h with
    | @cons k _ _ _ _ a b c =>
      refine .cons (thaw_rp e _ _ ?_ a) (thaw_rp e d _ n.1 b) (thaw_rkv e kvs _ n.2 c)
      cases k <;> rfl
/-- the kinds of what is new, of what is not -/
def kb (o : Bool) : Nat := if o then 3 else 2
theorem je_fnBT {m : List D → R D} {o : Bool} {fs : List DE} {t : TA} (fl : Flat m o) (h : PE X e (tFn X.K m (kb o) t)) (ht : ∀ σ H Q, tJA X.K wi0 a fs (fun F H vs ds => Rhs X.K F H vs ds) σ H Q → t σ H Q) :
    JE X wi0 a e (eCall m fs) (kb o) := h.imp fun σ H Q ⟨F0, B, F, δ, S, q⟩ => by
  unfold eCall at q
  rw [Ans.bind_iff] at q
  refine ht σ H _ ⟨F0, B, F, δ, S, q.imp fun ds q vs F1 H1 S1 e1 e2 n1 r1 => ⟨allF F1 H1, ds, allF_H S1.FH, allF_rps S1.FH r1, q.mono (fun d eq q v F2 H2 e3 e4 e5 n2 h1 => ?_) fun _ _ z => z⟩⟩
  have flat := fl ds d eq
  have up : Same F1 (allF F1 H1) := fun b o h => allF_F h
  have e6 : Same F1 (thaw F1 H1 F2) := fun b o h => by
    unfold thaw
    rw [if_neg (by rw [h]; simp)]
    exact e3 b o (up b o h)
  have sub : ∀ {b}, thaw F1 H1 F2 b ≠ none → thaw F1 H1 F2 b = F2 b ∧ ¬ (F1 b = none ∧ allF F1 H1 b ≠ none) := fun {b} h => by
    unfold thaw at h ⊢
    split at h
    · exact absurd rfl h
    · rename_i z; rw [if_neg z]; exact ⟨rfl, z⟩
  have e7 : Same (thaw F1 H1 F2) H2 := fun b o h => by
    obtain ⟨z1, _⟩ := sub (by rw [h]; simp)
    rw [z1] at h
    exact e5 b o h
  have n3 : New H1 F1 (thaw F1 H1 F2) := fun b h => by
    obtain ⟨z1, z2⟩ := sub h
    rw [z1] at h
    rcases n2 b h with z | z
    · left
      intro z3
      exact z2 ⟨z3, z⟩
    · exact .inr z
  have none_of : ∀ {b}, F2 b = none → thaw F1 H1 F2 b = none := fun {b} h => by unfold thaw; split <;> first | rfl | exact h
  refine q v (thaw F1 H1 F2) H2 (S1.later e6 e4 e7 n3) (e1.trans e6) (e2.trans e4) (n1.trans (n3.back e2)) ?_
  cases o with
  | true =>
    have g : Ow X.K H1 F2 H2 v d := h1
    have g2 : Ow X.K H1 (thaw F1 H1 F2) H2 v d := by
      cases d with
      | list ds =>
        obtain ⟨p, xs, rfl, fp, bp, hp, rs⟩ := g.list
        have nl : (true && nols ds) = true := flat
        exact .mkL ⟨p, xs, rfl, none_of fp, bp, hp, thaw_rps e3 ds xs nl rs⟩
      | none => exact .ofNo rfl (thaw_rp e3 _ v flat (g.no rfl))
      | bool b => exact .ofNo rfl (thaw_rp e3 _ v flat (g.no rfl))
      | int i => exact .ofNo rfl (thaw_rp e3 _ v flat (g.no rfl))
      | str x => exact .ofNo rfl (thaw_rp e3 _ v flat (g.no rfl))
      | tuple ds => exact .ofNo rfl (thaw_rp e3 _ v flat (g.no rfl))
      | dict kvs =>
        obtain ⟨p, ks, rfl, fp, bp, hp, rs⟩ := g.dict
        have nl : (true && kvs.all fun p => nol p.2) = true := flat
        exact .mkD ⟨p, ks, rfl, none_of fp, bp, hp, thaw_rkv e3 kvs ks nl rs⟩
    exact Ow.early e2 g2
  | false =>
    have nl : nol d = true := by
      cases d with
      | list ds => cases flat
      | _ => exact flat
    exact thaw_rp e3 d v nl h1
theorem je_fnB {x : Str} {m : List D → R D} {o : Bool} (fl : Flat m o) (fa : FnAt X x m (kb o)) (gu : X.A.guards = some []) (gl : Gl X x) (hx : notDbg x = true) : ∀ {es : List Expr} {fs : List DE}, Each2 (fun e f => JE X wi0 a e f 0) es fs → es.all plainE = true →
    JE X wi0 a (.Call (.Name x p) es [] pos) (eCall m fs) (kb o)
  | _, _, .nil, _ => je_fnBT fl (pe_fn0 fa gu gl hx) fun σ H Q ⟨F0, B, F, δ, S, q⟩ => q [] F H S (Same.refl F) (Same.refl H) (New.refl _ _) .nil
  | _, _, .cons h t, hp => je_fnBT fl (pe_fn fa gu gl hx (jr_all (.cons h t) hp) hp) fun σ H Q q => q

/-! ### the context -/
structure Ctx (c : Cfg) (X : Cx) (sc : Scope) : Prop where
  hN : X.N = c.N
  nd : X.N.Nodup
  calm : X.calm = true
  room : ∃ n, Room n X.A
  gu : X.A.guards = some []
  sc : X.env.scope = sc
  gl : ∀ x d, c.ge.lookup x = some (.con d) → ∃ v u, X.mg x = some u ∧ RelV v u ∧ ∀ F, Rp X.K F v d
  fn : ∀ x m o fl, c.ge.lookup x = some (.fn m o fl) → (FnAt X x m o ∧ (fl = true → ∃ b, o = kb b ∧ Flat m b)) ∨ (X.mg x = some (.builtin "math.gcd") ∧ m = gcdD ∧ o = 3 ∧ fl = true)
  bn : ∀ x, c.bn.contains x = true → X.mg x = none
theorem Ctx.blk {c : Cfg} {sc : Scope} (C : Ctx c X sc) (s : Shared) (H : Hp) (scope : Scope) (ca : Addr) (cl : List (Str × Addr)) (fp : List Addr) : Ctx c (X.blk s H scope (compEnvC scope cl ca X.env) fp) (rel scope sc) :=
  ⟨C.hN, C.nd, C.calm, C.room, C.gu, by rw [← C.sc]; rfl, C.gl, C.fn, C.bn⟩
theorem Ctx.glo {c : Cfg} {sc : Scope} (C : Ctx c X sc) {x : Str} (h : Dv.glo sc x = true) : Gl X x := by
  have := glo_of h
  rw [← C.sc] at this
  exact this
theorem Ctx.vis {c : Cfg} {sc : Scope} (C : Ctx c X sc) {x : Str} (h : Dv.vis sc x = true) : Vis X.env.scope x := by
  have := vis_of h
  rw [← C.sc] at this
  exact this
theorem Ctx.slot {c : Cfg} {sc : Scope} (C : Ctx c X sc) {x : Str} {i : Nat} (h : c.slot x = some i) : X.N[i]? = some x := by
  rw [C.hN]
  exact slot_get h
theorem lookup_map {names : List (Str × NameKind)} {g : Str × NameKind → Str × NameKind} (hg : ∀ p, (g p).1 = p.1) (x : Str) : (names.map g).lookup x = (names.find? (fun p => x == p.1)).map fun p => (g p).2 := by
  induction names with
  | nil => rfl
  | cons p ps ih =>
    rw [List.map_cons]
    have e : g p = ((g p).1, (g p).2) := rfl
    rw [e, List.lookup_cons, hg, List.find?_cons]
    cases h : x == p.1 with
    | true => rfl
    | false => exact ih
theorem lookup_find (names : List (Str × NameKind)) (x : Str) : names.lookup x = (names.find? (fun p => x == p.1)).map fun p => p.2 := by
  have := lookup_map (names := names) (g := fun p => p) (fun _ => rfl) x
  rw [List.map_id'] at this
  exact this
theorem rel_loc {scope sc : Scope} {x : Str} {kd : NameKind} (h : scope.names.lookup x = some kd) (hk : (kd == .free) = false) : (rel scope sc).names.lookup x = some kd := by
  unfold rel
  show (scope.names.map _).lookup x = _
  rw [lookup_map (by intro ⟨n, k⟩; dsimp only; split <;> rfl)]
  rw [lookup_find] at h
  obtain ⟨⟨n, k⟩, h1, h2⟩ := Option.map_eq_some_iff.mp h
  have h2 : k = kd := h2
  subst h2
  rw [h1]
  show some _ = some _
  dsimp only
  rw [hk]
  rfl
/-- where a target's names may be stored -/
def StOk (X : Cx) (tsc : Scope) : Prop := ∀ x, Dv.loc tsc x = true → Loc X.env.scope x ∧ (X.fn x = true ∨ X.env.scope.names.lookup x = some .local)
theorem StOk.blk {c : Cfg} {sc : Scope} (C : Ctx c X sc) (s : Shared) (H : Hp) (scope : Scope) (ca : Addr) (cl : List (Str × Addr)) (fp : List Addr) : StOk (X.blk s H scope (compEnvC scope cl ca X.env) fp) scope := fun x hx => by
  have e : (compEnvC scope cl ca X.env).scope = rel scope sc := (C.blk s H scope ca cl fp).sc
  rcases loc_of hx with h | h
  · have := rel_loc (sc := sc) h rfl
    rw [← e] at this
    exact ⟨.inl this, .inr this⟩
  · have := rel_loc (sc := sc) h rfl
    rw [← e] at this
    refine ⟨.inr this, .inl ?_⟩
    show (scope.names.lookup x == some .cell) = true
    rw [h]
    rfl
/-! ### dicts -/
theorem valV_none {ks : List (Key × V)} {j : Key} (h : j ∉ ks.map (·.1)) : valV ks j = none := by
  have := valV_any j ks
  cases q : valV ks j with
  | none => rfl
  | some x =>
    rw [q] at this
    obtain ⟨p, hp, e⟩ := List.any_eq_true.mp this
    exact absurd (List.mem_map.mpr ⟨p, hp, of_decide_eq_true e⟩) h
theorem merge_new : ∀ (more acc : List (Key × V)), (∀ p ∈ more, p.1 ∉ acc.map (·.1)) → (more.map (·.1)).Nodup → mergeK acc more = acc ++ more
  | [], acc, _, _ => (List.append_nil acc).symm
  | p :: r, acc, h, hn => by
    rw [List.map_cons, List.nodup_cons] at hn
    show mergeK (putK acc p.1 p.2) r = _
    rw [putK_new _ (valV_none (h p (.head _))), merge_new r _ (fun q hq => ?_) hn.2, List.append_assoc]
    · rfl
    · rw [List.map_append, List.mem_append]
      intro z
      rcases z with z | z
      · exact h q (.tail _ hq) z
      · have : q.1 = p.1 := by simpa using z
        exact hn.1 (this ▸ List.mem_map.mpr ⟨q, hq, rfl⟩)
theorem Rkv.keys : ∀ {ks : List (Key × V)} {kvs : List (D × D)}, Rkv K F ks kvs → kvs.map (·.1) = ks.map fun p => kD p.1
  | _, _, .nil => rfl
  | _, _, .cons _ _ t => by rw [List.map_cons, List.map_cons, Rkv.keys t]
theorem Rkv.notin {k : Key} {ks : List (Key × V)} {kvs : List (D × D)} (h : Rkv K F ks kvs) (z : (kvs.any fun p => keq p.1 (kD k)) = false) : k ∉ ks.map (·.1) := fun m => by
  have := h.has k
  unfold dHas at this
  rw [z] at this
  obtain ⟨p, hp, e⟩ := List.mem_map.mp m
  rw [List.any_eq_false] at this
  exact this p hp (decide_eq_true e)
theorem pairs_go : ∀ (fs : List (DE × DE)) {σ : L2.St} {F H : Hp} {Q : List (V × V) → Hp → Prop}, SI K F0 B F H σ a δ →
    Ans (eDct fs δ) (fun d => ∀ kvs, d = .dict kvs → ∀ ks F' H', SI K F0 B F' H' σ a δ → Same F F' → Same H H' → New H F F' → Rkv K F' ks kvs → (ks.map (·.1)).Nodup → ks.length = fs.length → Q (ks.map fun kv => (kV kv.1, kv.2)) H') noE →
    tPairs (fs.map fun f => (tJ K wi0 a f.1 0, tJ K wi0 a f.2 2)) σ H Q
  | [], σ, F, H, Q, S, q => q [] rfl [] F H S (Same.refl F) (Same.refl H) (New.refl _ _) .nil List.nodup_nil rfl
  | (fk, fv) :: fs, σ, F, H, Q, S, q => by
    have q : Ans ((fk δ).bind fun x => if isK x then (fv δ).bind fun y => (eDct fs δ).bind fun d => (match d with
      | .dict kvs => if kvs.any (fun p => keq p.1 x) then .bad else Dv.R.ok (PyData.dict ((x, y) :: kvs))
      | _ => .bad) else .bad) _ noE := q
    rw [Ans.bind_iff] at q
    show tJ K wi0 a fk 0 σ H _
    refine ⟨F0, B, F, δ, S, q.imp fun x q v F1 H1 S1 e1 e2 n1 r1 => ?_⟩
    by_cases hx : isK x = true
    · rw [if_pos hx, Ans.bind_iff] at q
      refine ⟨F0, B, F1, δ, S1, q.imp fun y q w F2 H2 S2 e3 e4 n2 r2 => ?_⟩
      rw [Ans.bind_iff] at q
      refine pairs_go fs S2 (q.imp fun d q kvs ed ks F3 H3 S3 e5 e6 n3 rk hn hl => ?_)
      subst ed
      have q : Ans (if kvs.any (fun p => keq p.1 x) then .bad else Dv.R.ok (PyData.dict ((x, y) :: kvs)) : Dv.R D) _ noE := q
      cases hz : kvs.any (fun p => keq p.1 x) with
      | true => rw [hz] at q; exact q.elim
      | false =>
        rw [hz] at q
        have r1 : Rh K F1 H1 v x := r1
        have r2 : Rp K F2 w y := r2
        obtain ⟨kk, rfl, rfl, rkk⟩ := key_of_isK hx r1
        refine q _ rfl ((kk, w) :: ks) F3 H3 S3 (e1.trans (e3.trans e5)) (e2.trans (e4.trans e6)) (n1.trans ((n2.trans (n3.back e4)).back e2)) (.cons (rkk F3) (Rp.mono e5 _ _ r2) rk) ?_ (by rw [List.length_cons, List.length_cons, hl])
        rw [List.map_cons, List.nodup_cons]
        exact ⟨rk.notin hz, hn⟩
    · rw [if_neg hx] at q
      exact q.elim
inductive PPJ (X : Cx) (a : List Bool) : List (Option Expr) → List Expr → List (DE × DE) → Prop
  | nil : PPJ X a [] [] []
  | cons {k v : Expr} {fk fv : DE} {ks : List (Option Expr)} {vs : List Expr} {fs : List (DE × DE)} : JE X wi0 a k fk 0 → JE X wi0 a v fv 2 → PPJ X a ks vs fs → PPJ X a (some k :: ks) (v :: vs) ((fk, fv) :: fs)
theorem ppj_pps (pos : Pos) : ∀ {ks : List (Option Expr)} {vs : List Expr} {fs : List (DE × DE)}, PPJ X a ks vs fs → PPs X pos ks vs (fs.map fun f => (tJ X.K wi0 a f.1 0, tJ X.K wi0 a f.2 2)) ∧ ks.all (·.isSome) = true ∧ ks.length = vs.length ∧ ks.length = fs.length
  | _, _, _, .nil => ⟨pps_nil, rfl, rfl, rfl⟩
  | _, _, _, .cons h1 h2 t => by
    obtain ⟨t1, t2, t3, t4⟩ := ppj_pps pos t
    exact ⟨pps_cons h1 h2 t1, by rw [List.all_cons, t2]; rfl, by rw [List.length_cons, List.length_cons, t3], by rw [List.length_cons, List.length_cons, t4]⟩
theorem je_dct0 : JE X wi0 a (.Dict [] [] pos) (eDct []) 3 := pe_dnewK.imp fun σ H Q ⟨F0, B, F, δ, S, q⟩ p hp => by
  have g := same_new (o := .dK []) hp
  exact q (.ref p) F (upd H p (.dK [])) (S.grow g) (Same.refl F) g (New.refl _ _) (.mkD ⟨p, [], rfl, S.FH.free hp, hp, upd_same, .nil⟩)
theorem je_dct {ks : List (Option Expr)} {vs : List Expr} {fs : List (DE × DE)} (h : PPJ X a ks vs fs) (h0 : ks ≠ []) (h15 : ks.length ≤ 15) : JE X wi0 a (.Dict ks vs pos) (eDct fs) 3 := by
  obtain ⟨t1, t2, t3, t4⟩ := ppj_pps pos h
  refine (pe_disp t1 t2 t3 h0 h15).imp fun σ H Q ⟨F0, B, F, δ, S, q⟩ p hp => ?_
  have g := same_new (o := .dK []) hp
  refine pairs_go fs (S.grow g) (q.imp fun d q kvs ed ks' F' H' S' e1 e2 n1 rk hn hl => ?_)
  subst ed
  have hp2 : H' p = some (.dK []) := e2 _ _ upd_same
  have fp : F' p = none := by
    cases z : F' p with
    | none => rfl
    | some x =>
      rcases n1 p (by rw [z]; simp) with w | w
      · exact absurd (S.FH.free hp) w
      · rw [upd_same] at w; cases w
  refine ⟨hp2, ks', rfl, by omega, ?_⟩
  rw [merge_new ks' [] (fun _ _ => by simp) hn, List.nil_append]
  have up : Same H (upd H' p (.dK ks')) := fun b x e => by
    rw [upd_ne (ne_of_none e hp)]
    exact e2 _ _ (g _ _ e)
  exact q (.ref p) F' _ (S'.at_new fp (S.BH.free hp) (S.ownAt hp)) e1 up (n1.back g) (.mkD ⟨p, ks', rfl, fp, hp, upd_same, rk⟩)
theorem isd_of {kvs : List (D × D)} (FH : Same F H) (h : Rh K F H v (.dict kvs)) : ∃ p ks, v = .ref p ∧ IsD H p ∧ H p = some (.dK ks) ∧ Rkv K F ks kvs := by
  obtain ⟨p, ks, e, hp, r⟩ := h.dict_is FH
  exact ⟨p, ks, e, .inl ⟨ks, .inl hp⟩, hp, r⟩
theorem m1_of {o1 : Expr} {m : Str} {apos : Pos} (hb : baseOk o1 = true) (hp : plainE e = true) (hl : (apos.endLine == pos.line) = true) : M1 X o1 m apos e pos where
  base := base_of hb
  few := by
    show ((backTo pos (starEach [e] X.env)).all (fun x => !x.1) && true && decide (1 + 0 + 0 < 30)) = true
    rw [star_all pos (by simp [hp])]; rfl
  line := hl
  trees := by rw [star_cons hp]; rfl
theorem m2_of {o1 e2 : Expr} {m : Str} {apos : Pos} (hb : baseOk o1 = true) (hp : plainE e = true) (hp2 : plainE e2 = true) (hl : (apos.endLine == pos.line) = true) : M2 X o1 m apos e e2 pos where
  base := base_of hb
  few := by
    show ((backTo pos (starEach [e, e2] X.env)).all (fun x => !x.1) && true && decide (2 + 0 + 0 < 30)) = true
    rw [star_all pos (by simp [hp, hp2])]; rfl
  line := hl
  trees := by rw [star_cons hp, star_cons hp2]; rfl
theorem je_get1 {n : Nat} (hr : Room n X.A) {o1 : Expr} {fo fk : DE} {apos : Pos} (ho : JE X wi0 a o1 fo 0) (he : JE X wi0 a e fk 0) (hb : baseOk o1 = true) (hp : plainE e = true) (hl : (apos.endLine == pos.line) = true) :
    JE X wi0 a (.Call (.Attribute o1 "get" apos) [e] [] pos) (eGet1 fo fk) 2 := (pe_dget1 (by have := hr.units; omega) ho he (m1_of hb hp hl)).imp fun σ H Q ⟨F0, B, F, δ, S, q⟩ => by
  unfold eGet1 at q
  rw [Ans.bind_iff] at q
  refine ⟨F0, B, F, δ, S, q.imp fun d q v F1 H1 S1 e1 e2 n1 r1 => ?_⟩
  cases d with
  | dict kvs =>
    have q : Ans ((fk δ).bind fun x => if isK x then Dv.R.ok ((dGet kvs x).getD .none) else .bad) _ noE := q
    obtain ⟨p, ks, rfl, i1, h1, rk⟩ := isd_of S1.FH r1
    refine ⟨p, rfl, i1, F0, B, F1, δ, S1, ?_⟩
    rw [Ans.bind_iff] at q
    refine q.imp fun x q w F2 H2 S2 e3 e4 n2 r2 => ?_
    obtain ⟨hx, q⟩ := Ans.if_bad (c := isK x = true) q
    have r2 : Rh X.K F2 H2 w x := r2
    obtain ⟨kk, rfl, rfl, rkk⟩ := key_of_isK hx r2
    refine ⟨_, DGet.k (e4 _ _ h1), ?_⟩
    refine q _ F2 H2 S2 (e1.trans e3) (e2.trans e4) (n1.trans (n2.back e2)) ?_
    rcases rk.find kk with ⟨z1, z2⟩ | ⟨w, d', z1, z2, r⟩
    · rw [z1, z2]; exact Rp.non
    · rw [z1, z2]; exact Rp.mono e3 _ _ r
  | _ => exact False.elim q
theorem je_get2 {n : Nat} (hr : Room n X.A) {o1 e2 : Expr} {fo fk fz : DE} {apos : Pos} (ho : JE X wi0 a o1 fo 0) (he : JE X wi0 a e fk 0) (hz : JE X wi0 a e2 fz 2) (hb : baseOk o1 = true) (hp : plainE e = true) (hp2 : plainE e2 = true) (hl : (apos.endLine == pos.line) = true) :
    JE X wi0 a (.Call (.Attribute o1 "get" apos) [e, e2] [] pos) (eGet2 fo fk fz) 2 := (pe_dget2 (by have := hr.units; omega) ho he hz (m2_of hb hp hp2 hl)).imp fun σ H Q ⟨F0, B, F, δ, S, q⟩ => by
  unfold eGet2 at q
  rw [Ans.bind_iff] at q
  refine ⟨F0, B, F, δ, S, q.imp fun d q v F1 H1 S1 e1 e2 n1 r1 => ?_⟩
  cases d with
  | dict kvs =>
    have q : Ans ((fk δ).bind fun x => (fz δ).bind fun y => if isK x then Dv.R.ok ((dGet kvs x).getD y) else .bad) _ noE := q
    obtain ⟨p, ks, rfl, i1, h1, rk⟩ := isd_of S1.FH r1
    refine ⟨p, rfl, i1, F0, B, F1, δ, S1, ?_⟩
    rw [Ans.bind_iff] at q
    refine q.imp fun x q w F2 H2 S2 e3 e4 n2 r2 => ⟨F0, B, F2, δ, S2, ?_⟩
    rw [Ans.bind_iff] at q
    refine q.imp fun y q u F3 H3 S3 e5 e6 n3 r3 => ?_
    obtain ⟨hx, q⟩ := Ans.if_bad (c := isK x = true) q
    have r2 : Rh X.K F2 H2 w x := r2
    have r3 : Rp X.K F3 u y := r3
    obtain ⟨kk, rfl, rfl, rkk⟩ := key_of_isK hx r2
    refine ⟨_, DGet.k (e6 _ _ (e4 _ _ h1)), ?_⟩
    refine q _ F3 H3 S3 (e1.trans (e3.trans e5)) (e2.trans (e4.trans e6)) (n1.trans ((n2.trans (n3.back e4)).back e2)) ?_
    rcases rk.find kk with ⟨z1, z2⟩ | ⟨w, d', z1, z2, r⟩
    · rw [z1, z2]; exact r3
    · rw [z1, z2]; exact Rp.mono e5 _ _ (Rp.mono e3 _ _ r)
  | _ => exact False.elim q
end Dv
/-! Dv30: {k: v for ..}. -/
namespace Dv
open PySem PySem.Spec PyProof.Rows L2
variable {X : Cx} {W : Wi} {K : PySem.W.Frag} {F F' F0 F1 B H H' H1 : Hp} {v : V} {d : D} {k : Nat} {σ : L2.St} {δ : Env} {pins : List (Addr × Obj)} {s : Shared} {Q : VK} {e tg a1 b1 : Expr} {a : List Bool} {f fa fb : DE} {pos p : Pos}
/-- a dict under construction at Lp: what holds between the turns -/
structure MkD (K : PySem.W.Frag) (F0 B F1 H1 : Hp) (σ : L2.St) (a : List Bool) (δ : Env) (Lp : Addr) (F H : Hp) (acc : List (Key × V)) (ys : List (D × D)) : Prop where
  S : SI K F0 B F H σ a δ
  fD : F Lp = none
  hD : H Lp = some (.dK acc)
  rs : Rkv K F acc ys
  e1 : Same F1 F
  e2 : Same H1 H
  n : New H1 F1 F
theorem MkD.start (S : SI K F0 B F H σ a δ) {Lp : Addr} (hD : H Lp = none) : MkD K F0 B F H σ a δ Lp F (upd H Lp (.dK [])) [] [] :=
  ⟨S.grow (same_new hD), S.FH.free hD, upd_same, .nil, Same.refl _, same_new hD, New.refl _ _⟩
theorem MkD.later {Lp : Addr} {acc : List (Key × V)} {ys : List (D × D)} {F2 H2 : Hp} (M : MkD K F0 B F1 H1 σ a δ Lp F H acc ys) (S2 : SI K F0 B F2 H2 σ a δ) (e1 : Same F F2) (e2 : Same H H2) (n : New H F F2) : MkD K F0 B F1 H1 σ a δ Lp F2 H2 acc ys := by
  refine ⟨S2, ?_, e2 _ _ M.hD, Rkv.mono e1 _ _ M.rs, M.e1.trans e1, M.e2.trans e2, M.n.trans (n.back M.e2)⟩
  cases q : F2 Lp with
  | none => rfl
  | some o =>
    rcases n Lp (by rw [q]; simp) with z | z
    · exact absurd M.fD z
    · rw [M.hD] at z; cases z
theorem MkD.put {Lp : Addr} {acc : List (Key × V)} {ys : List (D × D)} (M : MkD K F0 B F1 H1 σ a δ Lp F H acc ys) (h1D : H1 Lp = none) (S1 : SI K F0 B F1 H1 σ a δ) {kk : Key} {y : V} {d : D} (rk : Rp K F (kV kk) (kD kk)) (r : Rp K F y d) : MkD K F0 B F1 H1 σ a δ Lp F (upd H Lp (.dK (putK acc kk y))) (putK acc kk y) (dPut ys (kD kk) d) := by
  refine ⟨M.S.at_new M.fD (S1.BH.free h1D) (S1.ownAt h1D), M.fD, upd_same, M.rs.put rk r, M.e1, fun b x e => ?_, M.n⟩
  have : b ≠ Lp := ne_of_none e h1D
  rw [upd_ne this]
  exact M.e2 b x e
theorem je_dc {iter : Expr} {ow : List (Str × Nat)} {di : DI} {g : TF} {t : DT} {fk fv : DE} {ts : List Nat} (hi : JI X wi0 a true tg iter di) (hts : ∀ i ∈ ts, i ∈ ow.map (·.2))
    {σ : L2.St} {H : Hp} {Q : VK} (h : tJ X.K wi0 a (eDc (ow.map (·.2)) g di t fk fv) 3 σ H Q) :
    tDc (tJI X.K wi0 a true di) (tJG X.K (clr a (ow.map (·.2))) g ts) (tJT X.K wi0 (clr (clr a (ow.map (·.2))) ts) t) (tJ X.K wi0 (clr (clr a (ow.map (·.2))) ts) fk 0) (tJ X.K wi0 (clr (clr a (ow.map (·.2))) ts) fv 2) (ow.map (·.2)) σ H Q := by
  obtain ⟨F0, B, F, δ, S, q⟩ := h
  unfold eDc at q
  rw [Ans.bind_iff] at q
  refine ⟨F0, B, F, δ, S, q.imp fun ds q J F1 H1 S1 e1 e2 n1 it Lp hL => ?_⟩
  rw [Ans.bind_iff] at q
  generalize hvs : ow.map (·.2) = vs at *
  obtain ⟨Fin, hFin⟩ : ∃ Fin : List (D × D) → Prop, Fin = fun kvs => ∀ v F' H', SI X.K F0 B F' H' σ a δ → Same F F' → Same H H' → New H F F' → Res X.K 3 B H F' H' v (.dict kvs) → Q v H' := ⟨_, rfl⟩
  have q : Ans (dcGo g t fk fv (wipeE δ vs) (ds.drop 0) []) (fun kvs => Fin kvs) noE := by rw [hFin]; exact q
  refine ⟨fun i m H3 => ∃ F3 acc ys, m = ds.length - i ∧ i ≤ ds.length ∧ MkD X.K F0 B F1 H1 (wipe σ vs) (clr a vs) (wipeE δ vs) Lp F3 H3 acc ys ∧ Ans (dcGo g t fk fv (wipeE δ vs) (ds.drop i) ys) (fun kvs => Fin kvs) noE,
    ⟨ds.length, F1, [], [], by simp, Nat.zero_le _, MkD.start (S1.wiped vs) hL, q⟩, ?_⟩
  rintro i m H3 ⟨F3, acc, ys, rfl, hi, M, q⟩
  by_cases hlt : i < ds.length
  · obtain ⟨go, yld⟩ := it.2 i _ H3 F3 M.e1 M.S.FH M.e2 (List.getElem?_eq_getElem hlt)
    rw [drop_cons hlt] at q
    unfold dcGo at q
    refine .inr ⟨go, fun H' => ∃ F3 acc ys, i + 1 ≤ ds.length ∧ MkD X.K F0 B F1 H1 (wipe σ vs) (clr a vs) (wipeE δ vs) Lp F3 H' acc ys ∧ Ans (dcGo g t fk fv (wipeE δ vs) (ds.drop (i + 1)) ys) (fun kvs => Fin kvs) noE,
      fun H' ⟨F4, acc4, ys4, h1, h2, h3⟩ => ⟨ds.length - (i + 1), by omega, F4, acc4, ys4, rfl, h1, h2, h3⟩, fun x H4 hy => ?_⟩
    obtain ⟨F4, e3, e4, e5, n4, rx⟩ := yld x H4 hy
    have M4 := M.later (M.S.later e3 e4 e5 n4) e3 e4 n4
    rw [Ans.bind_iff] at q
    refine ⟨F0, B, F4, wipeE δ vs, ds[i], M4.S, rx, q.imp fun δ2 q σ2 S2 hs2 hl2 => ⟨?_, F0, B, F4, δ2, S2, ?_⟩⟩
    · exact (wipe_set_in (σ := wipe σ vs) hl2 fun j hj => hs2 j fun z => hj (hts j z)).trans (wipe_twice vs)
    rw [Ans.bind_iff] at q
    refine q.imp fun b q F5 H5 S5 e6 e7 n5 => ?_
    have M5 := M4.later (M4.S.later e6 e7 S5.FH n5) e6 e7 n5
    cases b with
    | false => exact ⟨F5, acc, ys, hlt, M5, q⟩
    | true =>
      have q : Ans ((fk δ2).bind fun x => (fv δ2).bind fun y => if isK x && decide (ys.length < lim) then dcGo g t fk fv (wipeE δ vs) (ds.drop (i + 1)) (dPut ys x y) else .bad) (fun kvs => Fin kvs) noE := q
      rw [Ans.bind_iff] at q
      refine ⟨F0, B, F5, δ2, S5, q.imp fun x q vx F6 H6 S6 e8 e9 n6 r6 => ?_⟩
      have M6 := M5.later (M5.S.later e8 e9 S6.FH n6) e8 e9 n6
      rw [Ans.bind_iff] at q
      refine ⟨F0, B, F6, δ2, S6, q.imp fun y q vy F7 H7 S7 e10 e11 n7 r7 => ?_⟩
      have M7 := M6.later (M6.S.later e10 e11 S7.FH n7) e10 e11 n7
      obtain ⟨hk, q⟩ : (isK x && decide (ys.length < lim)) = true ∧ Ans (dcGo g t fk fv (wipeE δ vs) (ds.drop (i + 1)) (dPut ys x y)) (fun kvs => Fin kvs) noE := by
        cases hc : (isK x && decide (ys.length < lim)) with
        | true => rw [hc, if_pos rfl] at q; exact ⟨rfl, q⟩
        | false => rw [hc, if_neg Bool.false_ne_true] at q; exact q.elim
      rw [Bool.and_eq_true] at hk
      obtain ⟨hk, hlen⟩ := hk
      have hlen := of_decide_eq_true hlen
      have r6 : Rh X.K F6 H6 vx x := r6
      obtain ⟨kk, rfl, rfl, rkk⟩ := key_of_isK hk r6
      refine ⟨acc, kk, rfl, M7.hD, Nat.lt_of_lt_of_le (by rw [M7.rs.length]; exact hlen) (by decide), F7, _, _, hlt, M7.put hL (S1.wiped vs) (rkk F7) r7, q⟩
  · have ei : i = ds.length := by omega
    rw [List.drop_eq_nil_of_le (by omega)] at q
    have q : Fin ys := q
    rw [hFin] at q
    exact .inl ⟨it.1 i H3 F3 M.e1 M.S.FH M.e2 (by omega), q (.ref Lp) F3 H3 (S1.later M.e1 M.e2 M.S.FH M.n) (e1.trans M.e1) (e2.trans M.e2) (n1.trans (M.n.back e2)) (Ow.mkD ⟨Lp, acc, rfl, M.fD, e2.free hL, M.hD, M.rs⟩)⟩
end Dv
/-! Dv13: the look at an expression, and that it is sound. -/
namespace Dv
open PySem PySem.Spec PyProof.Rows L2

/-- the slots that a target sets (the last first) -/
def isTup : Expr → Bool
  | .Tuple _ _ _ => true
  | _ => false
def kj (k1 k2 : Nat) : Nat := if k1 = k2 then k1 else if k1 + k2 = 4 then 1 else if k1 + k2 = 5 then 2 else 0
def kjs : List Nat → Nat
  | [] => 9
  | [k] => k
  | k :: ks => kj k (kjs ks)
def kF (k : Nat) : Bool := k == 2 || k == 3
def k3 (k : Nat) : Bool := decide (k ≤ 3)
/-- what a comprehension walks is read, what a loop walks is frozen -/
def kC (cm : Bool) (k : Nat) : Bool := if cm then k3 k else kF k
def kN (c : Cfg) (a : List Bool) (sc : Scope) (x : Str) : Nat :=
  if vis sc x then (match c.slot x with
    | some i => if notDbg x then (if own a i then 1 else 2) else 9
    | none => 3)
  else if glo sc x then (match c.ge.lookup x with
    | some (.con _) => if notDbg x then 2 else 9
    | _ => 3)
  else 3
def ownP (c : Cfg) (scope : Scope) : List (Str × Nat) := scope.names.filterMap fun p => match p.2 with
  | .local => (c.slot p.1).map fun i => (p.1, i)
  | .cell => (c.slot p.1).map fun i => (p.1, i)
  | _ => none
def fnOwn (c : Cfg) (x : Str) : Nat := match c.ge.lookup x with
  | some (.fn _ o _) => o
  | _ => 0
/-- the kind of an answer, as the look at expressions knows it -/
def kk (o : Nat) : Nat := if o = 3 then 3 else if 2 ≤ o then 2 else 9
def fnFlat (c : Cfg) (x : Str) : Bool := match c.ge.lookup x with
  | some (.fn _ _ fl) => fl
  | _ => false
mutual
def kE (c : Cfg) : Nat → List Bool → Scope → Expr → Nat
  | 0, _, _, _ => 3
  | n + 1, a, sc, e => match e with
    | .Constant _ _ _ => 3
    | .Name x _ => kN c a sc x
    | .BinOp x _ y _ => if k3 (kE c n a sc x) && k3 (kE c n a sc y) then 3 else 9
    | .UnaryOp _ x _ => if k3 (kE c n a sc x) then 3 else 9
    | .BoolOp _ es _ => if es.all (fun e => k3 (kE c n a sc e)) && !es.isEmpty then kjs (es.map (kE c n a sc)) else 9
    | .IfExp t x y _ => if kT c n a sc t && k3 (kE c n a sc x) && k3 (kE c n a sc y) then kj (kE c n a sc x) (kE c n a sc y) else 9
    | .Compare x ops ys _ => if k3 (kE c n a sc x) && ys.all (fun e => k3 (kE c n a sc e)) && ys.all notSet && decide (ops.length = ys.length) && !ys.isEmpty then 3 else 9
    | .List es _ => if es.any isSt then (if es.all (fun e => if isSt e then k3 (kE c n a sc (unSt e)) else kF (kE c n a sc (unSt e))) then 3 else 9) else (if es.all (fun e => kF (kE c n a sc e)) && es.all plainE && decide (es.length ≤ 100000) then 3 else 9)
    | .Tuple es _ _ => if es.any isSt then (if es.all (fun e => if isSt e then k3 (kE c n a sc (unSt e)) else kF (kE c n a sc (unSt e))) then 3 else 9) else (if es.all (fun e => kF (kE c n a sc e)) && es.all plainE && decide (es.length ≤ 100000) then 3 else 9)
    | .Subscript x i _ => (match subK i with
      | .sl lo hi => if k3 (kE c n a sc x) && lo.all (fun e => k3 (kE c n a sc e)) && hi.all (fun e => k3 (kE c n a sc e)) then 3 else 9
      | .rev => if k3 (kE c n a sc x) then 3 else 9
      | .ix => if k3 (kE c n a sc x) && k3 (kE c n a sc i) then 2 else 9
      | .no => 3)
    | .ListComp elt gens scope _ => (match genK gens with
      | .one tg it ifs => (match tS c n scope tg with
        | some ts => if kI c n a sc true (isTup tg) it && notSet it && blkC c.N sc scope (ownP c scope) && ts.all (fun i => (ownOf c scope).contains i) &&
            kIfs c n (clr (clr a (ownOf c scope)) ts) (rel scope sc) ifs && kF (kE c n (clr (clr a (ownOf c scope)) ts) (rel scope sc) elt) then 3 else 9
        | none => 9)
      | .two tg it ifs tg2 it2 ifs2 => (match tS c n scope tg with
        | some ts => (match tS c n scope tg2 with
          | some ts1 => if kI c n a sc true (isTup tg) it && notSet it && notSet it2 && blkC c.N sc scope (ownP c scope) && ts.all (fun i => (ownOf c scope).contains i) && ts1.all (fun i => (ownOf c scope).contains i) &&
              kIfs c n (clr (clr a (ownOf c scope)) ts) (rel scope sc) ifs && kI c n (clr (clr a (ownOf c scope)) ts) (rel scope sc) false (isTup tg2) it2 &&
              kIfs c n (clr (clr (clr (clr a (ownOf c scope)) ts) ts1) ts1) (rel scope sc) ifs2 && kF (kE c n (clr (clr (clr (clr a (ownOf c scope)) ts) ts1) ts1) (rel scope sc) elt) then 3 else 9
          | none => 9)
        | none => 9)
      | .no => 3)
    | .DictComp kx vx gens scope _ => (match genK gens with
      | .one tg it ifs => (match tS c n scope tg with
        | some ts => if kI c n a sc true (isTup tg) it && notSet it && blkC c.N sc scope (ownP c scope) && ts.all (fun i => (ownOf c scope).contains i) &&
            kIfs c n (clr (clr a (ownOf c scope)) ts) (rel scope sc) ifs && k3 (kE c n (clr (clr a (ownOf c scope)) ts) (rel scope sc) kx) && kF (kE c n (clr (clr a (ownOf c scope)) ts) (rel scope sc) vx) then 3 else 9
        | none => 9)
      | _ => 3)
    | .Call f as kws _ => (match setK c sc f as kws with
      | some p => if plainE p.2 && k3 (kE c n a sc p.2) then 3 else 9
      | none => match callK c sc f as kws with
      | .listI a1 => (match itK c sc a1 with
        | .rng [_] => if kI c n a sc true false a1 then 3 else 9
        | .rng [_, _] => if kI c n a sc true false a1 then 3 else 9
        | _ => 9)
      | .isl x => if plainE x && k3 (kE c n a sc x) then 3 else 9
      | .fn x => (match fnOf c sc x with
        | some _ => if notDbg x && as.all (fun e => if fnFlat c x then k3 (kE c n a sc e) else kF (kE c n a sc e)) && as.all plainE then (kk (fnOwn c x)) else 9
        | none => if isBn c sc x then (if bnames.contains x && as.all (fun e => k3 (kE c n a sc e)) && as.all plainE then 3 else 9) else 3)
      | .met o m => if mets.contains m then (if k3 (kE c n a sc o) && as.all (fun e => k3 (kE c n a sc e)) && as.all plainE && !as.isEmpty && decide (as.length < 29) && baseOk o && f.pos.endLine == e.pos.line then 3 else 9) else 3
      | .get1 o k => if k3 (kE c n a sc o) && k3 (kE c n a sc k) && baseOk o && plainE k && f.pos.endLine == e.pos.line then 2 else 9
      | .get2 o k z => if k3 (kE c n a sc o) && k3 (kE c n a sc k) && kF (kE c n a sc z) && baseOk o && plainE k && plainE z && f.pos.endLine == e.pos.line then 2 else 9
      | .no => 3)
    | .Dict ks vs _ => (match dpairs ks vs with
      | some ps => if ps.all (fun p => k3 (kE c n a sc p.1) && kF (kE c n a sc p.2)) && decide (ps.length ≤ 15) then 3 else 9
      | none => 3)
    | _ => 3
def kT (c : Cfg) : Nat → List Bool → Scope → Expr → Bool
  | 0, _, _, _ => true
  | n + 1, a, sc, e => match e with
    | .UnaryOp op x pos => (match op with
      | .Not => kT c n a sc x
      | op => k3 (kE c n a sc (.UnaryOp op x pos)))
    | .BoolOp _ es _ => es.all (kT c n a sc) && !es.isEmpty
    | .Compare x ops ys _ => k3 (kE c n a sc x) && ys.all (fun e => k3 (kE c n a sc e)) && ys.all notSet && decide (ops.length = ys.length) && !ys.isEmpty
    | .IfExp _ _ _ _ => true
    | e => k3 (kE c n a sc e)
def kIfs (c : Cfg) : Nat → List Bool → Scope → List Expr → Bool
  | 0, _, _, _ => true
  | n + 1, a, sc, es => match es with
    | [] => true
    | [e] => kT c n a sc e
    | _ => false
def kI (c : Cfg) : Nat → List Bool → Scope → Bool → Bool → Expr → Bool
  | 0, _, _, _, _, _ => true
  | n + 1, a, sc, cm, tt, e => match itK c sc e with
    | .rng as => isBn c sc "range" && (match as with
      | [x] => plainE x && k3 (kE c n a sc x)
      | [x, y] => plainE x && plainE y && k3 (kE c n a sc x) && k3 (kE c n a sc y)
      | [x, y, z] => plainE x && plainE y && k3 (kE c n a sc x) && k3 (kE c n a sc y)
      | _ => true)
    | .enum x => tt && isBn c sc "enumerate" && plainE x && kC cm (kE c n a sc x)
    | .zip x y => tt && isBn c sc "zip" && plainE x && plainE y && kC cm (kE c n a sc x) && kC cm (kE c n a sc y)
    | .exp => kC cm (kE c n a sc e)
end
theorem ite9' {b : Bool} {k : Nat} (h : k3 (if b = true then k else 9) = true) : b = true := by
  cases b with
  | true => rfl
  | false => cases h
theorem ite9 {b : Bool} {k : Nat} (h : k3 (if b = true then k else 9) = true) : b = true := by
  cases b with
  | true => rfl
  | false => cases h
variable {X : Cx} {W : Wi} {K : PySem.W.Frag} {k : Nat} {e : Expr} {a : List Bool} {f : DE} {c : Cfg} {n : Nat} {sc : Scope} {pos p : Pos}
theorem JE.kF (h : JE X W a e f k) (hk : kF k = true) : JE X W a e f 2 := by
  unfold Dv.kF at hk
  rw [Bool.or_eq_true] at hk
  rcases hk with hk | hk
  · cases eq_of_beq hk; exact h
  · cases eq_of_beq hk; exact h.frz
theorem JE.kk {o : Nat} (h : JE X W a e f o) (hk : k3 (Dv.kk o) = true) : JE X W a e f (Dv.kk o) := by
  unfold Dv.kk at hk ⊢
  by_cases h3 : o = 3
  · rw [if_pos h3]; subst h3; exact h
  · rw [if_neg h3] at hk ⊢
    by_cases h2 : 2 ≤ o
    · rw [if_pos h2]
      match o, h, h3, h2 with
      | 2, h, _, _ => exact h
      | 3, _, h3, _ => exact absurd rfl h3
      | n + 4, h, _, _ => exact h.lv2
    · rw [if_neg h2] at hk; cases hk
theorem JE.kC {cm : Bool} (h : JE X W a e f k) (hk : kC cm k = true) : JE X W a e f (kc cm) := by
  cases cm with
  | true => exact h.to0
  | false => exact h.kF hk
theorem k3_of_kF (hk : Dv.kF k = true) : k3 k = true := by
  unfold Dv.kF at hk
  rw [Bool.or_eq_true] at hk
  rcases hk with hk | hk
  · cases eq_of_beq hk; rfl
  · cases eq_of_beq hk; rfl
theorem k3_of_kC {cm : Bool} (hk : Dv.kC cm k = true) : k3 k = true := by
  cases cm with
  | true => exact hk
  | false => exact k3_of_kF hk
def kle (k k' : Nat) : Bool := k == k' || k' == 0 || (k == 3 && (k' == 1 || k' == 2))
theorem JE.weak {k' : Nat} (h : JE X W a e f k) (hk : kle k k' = true) : JE X W a e f k' := by
  unfold kle at hk
  simp only [Bool.or_eq_true, Bool.and_eq_true, beq_iff_eq] at hk
  rcases hk with (hk | hk) | ⟨hk, hk2 | hk2⟩
  · subst hk; exact h
  · subst hk; exact h.to0
  · subst hk hk2; exact h.to1
  · subst hk hk2; exact h.frz
theorem kj_all : ∀ k1 : Fin 4, ∀ k2 : Fin 4, kle k1 (kj k1 k2) = true ∧ kle k2 (kj k1 k2) = true ∧ k3 (kj k1 k2) = true := by decide
theorem kj_of {k1 k2 : Nat} (h1 : k3 k1 = true) (h2 : k3 k2 = true) : kle k1 (kj k1 k2) = true ∧ kle k2 (kj k1 k2) = true ∧ k3 (kj k1 k2) = true := by
  have h1 := of_decide_eq_true h1
  have h2 := of_decide_eq_true h2
  exact kj_all ⟨k1, by omega⟩ ⟨k2, by omega⟩
theorem kle_all : ∀ k1 k2 k3 : Fin 4, kle k1 k2 = true → kle k2 k3 = true → kle k1 k3 = true := by decide
theorem kle_trans {k1 k2 k3' : Nat} (h1 : k3 k1 = true) (h2 : k3 k2 = true) (h3 : k3 k3' = true) (a : kle k1 k2 = true) (b : kle k2 k3' = true) : kle k1 k3' = true := by
  have h1 := of_decide_eq_true h1
  have h2 := of_decide_eq_true h2
  have h3 := of_decide_eq_true h3
  exact kle_all ⟨k1, by omega⟩ ⟨k2, by omega⟩ ⟨k3', by omega⟩ a b
theorem kle_refl (k : Nat) : kle k k = true := by unfold kle; simp
theorem kjs_of : ∀ {ks : List Nat}, (∀ k ∈ ks, k3 k = true) → ks ≠ [] → k3 (kjs ks) = true ∧ ∀ k ∈ ks, kle k (kjs ks) = true
  | [], _, h => absurd rfl h
  | [k], h, _ => ⟨h k (by simp), fun k' hk => by
    have : k' = k := by simpa using hk
    subst this
    exact kle_refl _⟩
  | k :: k2 :: ks, h, _ => by
    obtain ⟨h1, h2⟩ := kjs_of (ks := k2 :: ks) (fun k hk => h k (List.mem_cons_of_mem _ hk)) (by simp)
    have h0 := h k (List.mem_cons_self ..)
    obtain ⟨g1, g2, g3⟩ := kj_of h0 h1
    refine ⟨g3, fun k' hk => ?_⟩
    rcases List.mem_cons.mp hk with rfl | hk
    · exact g1
    · exact kle_trans (h _ (List.mem_cons_of_mem _ hk)) h1 g3 (h2 k' hk) g2
structure Sound (c : Cfg) (n : Nat) : Prop where
  E : ∀ X sc a e, Ctx c X sc → k3 (kE c n a sc e) = true → JE X wi0 a e (dE c n sc e) (kE c n a sc e)
  T : ∀ X sc a e, Ctx c X sc → kT c n a sc e = true → JT X wi0 a e (dT c n sc e)
  P : ∀ X sc a es, Ctx c X sc → kIfs c n a sc es = true → PTs X es (tJT X.K wi0 a (dIfs c n sc es))
  I : ∀ X sc a cm tg e, Ctx c X sc → kI c n a sc cm (isTup tg) e = true → JI X wi0 a cm tg e (dI c n sc e)
theorem pts_bad {es : List Expr} {t : DT} (h : ∀ δ, t δ = .bad) : PTs X es (tJT X.K W a t) := ⟨fun _ _ σ H Q _ ⟨_, _, _, δ, _, q⟩ => by rw [h δ] at q; exact q.elim⟩
theorem sound0 : Sound c 0 := ⟨fun _ _ _ _ _ _ => je_bad fun _ => by unfold dE; rfl, fun _ _ _ _ _ _ => jt_bad fun _ => by unfold dT; rfl, fun _ _ _ _ _ _ => pts_bad fun _ => by unfold dIfs; rfl, fun _ _ _ _ _ _ _ _ => ji_bad fun _ => by unfold dI; rfl⟩
theorem name_ok (C : Ctx c X sc) {x : Str} (h : k3 (kN c a sc x) = true) : JE X wi0 a (.Name x pos) (eName c sc x) (kN c a sc x) := by
  unfold kN at h ⊢
  unfold eName
  by_cases hv : vis sc x = true
  · rw [if_pos hv] at h ⊢
    rw [if_pos hv]
    cases hs : c.slot x with
    | none => exact je_bad fun _ => rfl
    | some i =>
      rw [hs] at h
      have hd := ite9 (b := notDbg x) h
      show JE X wi0 a _ (eV i) (if notDbg x = true then _ else 9)
      rw [if_pos hd]
      exact je_var (C.slot hs) (C.vis hv) (dbg1 hd) (dbg2 hd)
  · rw [if_neg hv] at h ⊢
    rw [if_neg hv]
    by_cases hg : glo sc x = true
    · rw [if_pos hg] at h ⊢
      rw [if_pos hg]
      cases hl : c.ge.lookup x with
      | none => exact je_bad fun _ => rfl
      | some gv =>
        cases gv with
        | con d =>
          rw [hl] at h
          have hd := ite9 (b := notDbg x) h
          show JE X wi0 a _ (eC d) (if notDbg x = true then 2 else 9)
          rw [if_pos hd]
          obtain ⟨v, u, hm, r, rp⟩ := C.gl x d hl
          exact je_glob (C.glo hg) hm r rp (dbg1 hd)
        | fn m o fl => exact je_bad fun _ => rfl
    · rw [if_neg hg] at h ⊢
      rw [if_neg hg]
      exact je_bad fun _ => rfl
end Dv
/-! Dv14: the look at an expression is sound. -/
namespace Dv
open PySem PySem.Spec PyProof.Rows L2
variable {X : Cx} {W : Wi} {K : PySem.W.Frag} {k : Nat} {e : Expr} {a : List Bool} {f : DE} {c : Cfg} {n : Nat} {sc : Scope} {pos p : Pos}

theorem and2 {x y : Bool} (h : (x && y) = true) : x = true ∧ y = true := by simpa using h
theorem and3 {x y z : Bool} (h : (x && y && z) = true) : x = true ∧ y = true ∧ z = true := by
  obtain ⟨h, h3⟩ := and2 h
  obtain ⟨h1, h2⟩ := and2 h
  exact ⟨h1, h2, h3⟩
theorem each_map {P : Expr → DE → Prop} {g : Expr → DE} {es : List Expr} (h : ∀ e ∈ es, P e (g e)) : Each2 P es (es.map g) := Each2.map es h
theorem each_true (es : List Expr) (g : Expr → DE) : Each2 (fun _ _ => True) es (es.map g) := Each2.map es fun _ _ => trivial
theorem ne_of_isEmpty {es : List Expr} (h : (!es.isEmpty) = true) : es ≠ [] := by
  cases es with
  | nil => cases h
  | cons e es => simp
theorem all3 (h : Sound c n) (C : Ctx c X sc) {es : List Expr} (ha : es.all (fun e => k3 (kE c n a sc e)) = true) : Each2 (fun e f => JE X wi0 a e f 0) es (es.map (dE c n sc)) :=
  each_map fun e he => (h.E X sc a e C (List.all_eq_true.mp ha e he)).to0
theorem allFr (h : Sound c n) (C : Ctx c X sc) {es : List Expr} (ha : es.all (fun e => Dv.kF (kE c n a sc e)) = true) : Each2 (fun e f => JE X wi0 a e f 2) es (es.map (dE c n sc)) :=
  each_map fun e he => (h.E X sc a e C (k3_of_kF (List.all_eq_true.mp ha e he))).kF (List.all_eq_true.mp ha e he)
theorem map_len {α β : Type} (es : List α) (g : α → β) : (es.map g).length = es.length := List.length_map ..
theorem sub_ok (h : Sound c n) (C : Ctx c X sc) {x i : Expr} (hk : k3 (kE c (n + 1) a sc (.Subscript x i pos)) = true) : JE X wi0 a (.Subscript x i pos) (dE c (n + 1) sc (.Subscript x i pos)) (kE c (n + 1) a sc (.Subscript x i pos)) := by
  unfold kE dE at *
  dsimp only at *
  cases hs : subK i with
  | sl lo hi =>
    rw [hs] at hk
    dsimp only at hk ⊢
    have hb := ite9 hk
    rw [if_pos hb]
    obtain ⟨h1, h2, h3⟩ := and3 hb
    have ei : ∃ p2, i = .Slice lo hi none p2 := by
      unfold subK at hs
      split at hs
      · split at hs
        · cases hs; exact ⟨_, rfl⟩
        · split at hs <;> (try split at hs) <;> cases hs
      · cases hs
    obtain ⟨p2, rfl⟩ := ei
    refine je_slice (h.E X sc a x C h1).to0 ?_ ?_
    · cases lo with
      | none => exact jo_none
      | some e => exact jo_some (h.E X sc a e C h2).to0
    · cases hi with
      | none => exact jo_none
      | some e => exact jo_some (h.E X sc a e C h3).to0
  | rev =>
    rw [hs] at hk
    dsimp only at hk ⊢
    have hb := ite9 hk
    rw [if_pos hb]
    have ei : ∃ e p2, i = .Slice none none (some e) p2 ∧ isM1 e = true := by
      unfold subK at hs
      split at hs
      · split at hs
        · cases hs
        · split at hs
          · split at hs
            · exact ⟨_, _, rfl, by assumption⟩
            · cases hs
          · cases hs
      · cases hs
    obtain ⟨e, p2, rfl, he⟩ := ei
    exact je_rev he (h.E X sc a x C hb).to0
  | ix =>
    rw [hs] at hk
    dsimp only at hk ⊢
    have hb : (k3 (kE c n a sc x) && k3 (kE c n a sc i)) = true := by
      cases hh : (k3 (kE c n a sc x) && k3 (kE c n a sc i)) with
      | true => rfl
      | false => rw [hh] at hk; cases hk
    rw [if_pos hb]
    obtain ⟨h1, h2⟩ := and2 hb
    exact je_at (plainIx_of hs) (h.E X sc a x C h1).to0 (h.E X sc a i C h2).to0
  | no =>
    exact je_bad fun _ => rfl
theorem ownP_snd (c : Cfg) (scope : Scope) : (ownP c scope).map (·.2) = ownOf c scope := by
  unfold ownP ownOf
  rw [List.map_filterMap]
  congr 1
  funext p
  obtain ⟨x, kd⟩ := p
  cases kd <;> (dsimp only; first | rfl | (cases c.slot x <;> rfl))
theorem slot_i {c : Cfg} {x : Str} {i : Nat} (h : c.slot x = some i) : c.N[i]? = some x := slot_get h
/-- targets -/
theorem tg_ok (C : Ctx c X sc) {tsc : Scope} (hst : StOk X tsc) : ∀ (n : Nat) (e : Expr) (ts : List Nat), tS c n tsc e = some ts → ∀ a, JG X a e (dG c n tsc e) ts := by
  intro n
  induction n with
  | zero => intro e ts h; cases h
  | succ n ih =>
    intro e ts h b
    unfold tS at h
    split at h
    · rename_i x px
      split at h
      · rename_i hl
        split at h
        · rename_i i hs
          cases h
          unfold dG
          dsimp only
          rw [if_pos hl, hs]
          obtain ⟨h1, h2⟩ := hst x hl
          exact jg_name C.nd (C.slot hs) h1 h2
        · cases h
      · cases h
    · rename_i es kk ps
      split at h
      · rename_i hp
        unfold dG
        dsimp only
        refine jg_tup C.calm hp (map_len _ _) ?_
        have key : ∀ (es : List Expr) (ts : List Nat), es.all plainT = true → tSs (tS c n tsc) es = some ts → ∀ b, PGs X es (tJGs X.K b (es.map (dG c n tsc)) ts) := by
          intro es
          induction es with
          | nil => intro ts _ h b; cases h; exact jgs_nil
          | cons e es ihs =>
            intro ts hp h b
            rw [List.all_cons] at hp
            obtain ⟨hp1, hp2⟩ := and2 hp
            unfold tSs at h
            obtain ⟨t1, e1, h⟩ := Option.bind_eq_some_iff.mp h
            obtain ⟨t2, e2, h⟩ := Option.bind_eq_some_iff.mp h
            cases h
            exact jgs_cons (ih e t1 e1 b) (ihs t2 hp2 e2 _) hp1
        exact key es ts hp h b
      · cases h
    · cases h
/-- a target sets its own slots alone -/
theorem tg_same {tsc : Scope} : ∀ (n : Nat) (e : Expr) (ts : List Nat), tS c n tsc e = some ts → ∀ (d : D) (δ δ' : Env), dG c n tsc e d δ = .ok δ' → ∀ i, i ∉ ts → δ'[i]? = δ[i]? := by
  intro n
  induction n with
  | zero => intro e ts h; cases h
  | succ n ih =>
    intro e ts h d δ δ' q i hi
    unfold tS at h
    split at h
    · rename_i x px
      split at h
      · rename_i hl
        split at h
        · rename_i j hs
          cases h
          unfold dG at q
          dsimp only at q
          rw [if_pos hl, hs] at q
          have q : Dv.R.ok (δ.set j (some d)) = .ok δ' := q
          cases q
          exact List.getElem?_set_ne fun z => hi (by rw [z]; simp)
        · cases h
      · cases h
    · rename_i es kk ps
      split at h
      · unfold dG at q
        dsimp only at q
        have key : ∀ (es : List Expr) (ts : List Nat), tSs (tS c n tsc) es = some ts → ∀ (ds : List D) (δ δ' : Env), gAll (es.map (dG c n tsc)) ds δ = .ok δ' → ∀ i, i ∉ ts → δ'[i]? = δ[i]? := by
          intro es
          induction es with
          | nil =>
            intro ts h ds δ δ' q i _
            cases ds with
            | nil => cases q; rfl
            | cons d ds => cases q
          | cons e es ihs =>
            intro ts h ds δ δ' q i hi
            unfold tSs at h
            obtain ⟨t1, e1, h⟩ := Option.bind_eq_some_iff.mp h
            obtain ⟨t2, e2, h⟩ := Option.bind_eq_some_iff.mp h
            cases h
            cases ds with
            | nil => cases q
            | cons d ds =>
              have q : (dG c n tsc e d δ).bind (fun δ1 => gAll (es.map (dG c n tsc)) ds δ1) = .ok δ' := q
              cases h1 : dG c n tsc e d δ with
              | ok δ1 =>
                rw [h1] at q
                rw [ihs t2 e2 ds δ1 δ' q i fun z => hi (List.mem_append_left _ z)]
                exact ih e t1 e1 d δ δ1 h1 i fun z => hi (List.mem_append_right _ z)
              | err c i => rw [h1] at q; cases q
              | bad => rw [h1] at q; cases q
        unfold gTp at q
        cases d with
        | tuple ds => exact key es ts h ds δ δ' q i hi
        | list ds => exact key es ts h ds δ δ' q i hi
        | _ => cases q
      · cases h
    · cases h
theorem fold_ok {it : Expr} (h : notSet it = true) (env : PySem.Env) (x : Value) : foldedSetIterable it env x = pure x := by
  cases it <;> first | rfl | cases h
theorem lc_ok (h : Sound c n) (C : Ctx c X sc) {elt : Expr} {gens : List Comprehension} {scope : Scope} (hk : k3 (kE c (n + 1) a sc (.ListComp elt gens scope pos)) = true) : JE X wi0 a (.ListComp elt gens scope pos) (dE c (n + 1) sc (.ListComp elt gens scope pos)) (kE c (n + 1) a sc (.ListComp elt gens scope pos)) := by
  unfold kE dE at *
  dsimp only at *
  cases hs : genK gens with
  | one tg it ifs =>
    rw [hs] at hk
    dsimp only at hk ⊢
    cases ht : tS c n scope tg with
    | none => rw [ht] at hk; cases hk
    | some ts =>
      rw [ht] at hk
      dsimp only at hk ⊢
      have hb := ite9 hk
      rw [if_pos hb]
      obtain ⟨hb, h6⟩ := and2 hb
      obtain ⟨hb, h5⟩ := and2 hb
      obtain ⟨hb, h4⟩ := and2 hb
      obtain ⟨h1, h2, h3⟩ := and3 hb
      have eg : gens = [⟨tg, it, ifs, 0⟩] := by
        unfold genK at hs
        split at hs <;> cases hs
        rfl
      subst eg
      rw [← C.hN, ← C.sc] at h3
      have ok := blkOk_by h3
      have eo := ownP_snd c scope
      refine PE.imp (pe_lc (wi := tJI X.K wi0 a true (dI c n sc it)) (g := tJG X.K (clr a (ownOf c scope)) (dG c n scope tg) ts) (tt := tJT X.K wi0 (clr (clr a (ownOf c scope)) ts) (dIfs c n (rel scope sc) ifs)) (te := tJ X.K wi0 (clr (clr a (ownOf c scope)) ts) (dE c n (rel scope sc) elt) 2)
        C.calm C.nd (h.I X sc a true tg it C h1) ok (fun s H ca cl fp => tg_ok (C.blk s H scope ca cl fp) (StOk.blk C s H scope ca cl fp) n tg ts ht (clr a (ownOf c scope)))
        (fun s H ca cl fp => h.P _ _ _ ifs (C.blk s H scope ca cl fp) h5) (fun s H ca cl fp => (h.E _ _ _ elt (C.blk s H scope ca cl fp) (k3_of_kF h6)).kF h6) (fold_ok h2 _)) fun σ H Q q => ?_
      have q : tJ X.K wi0 a (eLc (ownOf c scope) (dG c n scope tg) (dI c n sc it) (dIfs c n (rel scope sc) ifs) (dE c n (rel scope sc) elt)) 3 σ H Q := q
      rw [← eo] at q
      rw [← eo]
      refine je_lc C.calm C.nd (h.I X sc a true tg it C h1) ok (fun s H ca cl fp => by rw [eo]; exact tg_ok (C.blk s H scope ca cl fp) (StOk.blk C s H scope ca cl fp) n tg ts ht (clr a (ownOf c scope))) (fun i hi => ?_)
        (fun s H ca cl fp => by rw [eo]; exact h.P _ _ _ ifs (C.blk s H scope ca cl fp) h5) (fun s H ca cl fp => by rw [eo]; exact (h.E _ _ _ elt (C.blk s H scope ca cl fp) (k3_of_kF h6)).kF h6) (fold_ok h2 _) q
      have := List.all_eq_true.mp h4 i hi
      rw [eo]
      simpa using this
  | two tg it ifs tg2 it2 ifs2 =>
    rw [hs] at hk
    dsimp only at hk ⊢
    cases ht : tS c n scope tg with
    | none => rw [ht] at hk; cases hk
    | some ts =>
      rw [ht] at hk
      dsimp only at hk ⊢
      cases ht2 : tS c n scope tg2 with
      | none => rw [ht2] at hk; cases hk
      | some ts1 =>
        rw [ht2] at hk
        dsimp only at hk ⊢
        have hb := ite9 hk
        rw [if_pos hb]
        obtain ⟨hb, g10⟩ := and2 hb
        obtain ⟨hb, g9⟩ := and2 hb
        obtain ⟨hb, g8⟩ := and2 hb
        obtain ⟨hb, g7⟩ := and2 hb
        obtain ⟨hb, g6⟩ := and2 hb
        obtain ⟨hb, g5⟩ := and2 hb
        obtain ⟨hb, g4⟩ := and2 hb
        obtain ⟨g1, g2, g3⟩ := and3 hb
        have eg : gens = [⟨tg, it, ifs, 0⟩, ⟨tg2, it2, ifs2, 0⟩] := by
          unfold genK at hs
          split at hs <;> cases hs
          rfl
        subst eg
        rw [← C.hN, ← C.sc] at g4
        have ok := blkOk_by g4
        have eo := ownP_snd c scope
        have m5 : ∀ i ∈ ts, i ∈ ownOf c scope := fun i hi => by have := List.all_eq_true.mp g5 i hi; simpa using this
        have m6 : ∀ i ∈ ts1, i ∈ ownOf c scope := fun i hi => by have := List.all_eq_true.mp g6 i hi; simpa using this
        refine PE.imp (pe_lc2 (vs1 := ts1) (wi := tJI X.K wi0 a true (dI c n sc it)) (g := tJG X.K (clr a (ownOf c scope)) (dG c n scope tg) ts) (tt := tJT X.K wi0 (clr (clr a (ownOf c scope)) ts) (dIfs c n (rel scope sc) ifs))
          (wi1 := tJI X.K wi0 (clr (clr a (ownOf c scope)) ts) false (dI c n (rel scope sc) it2)) (g1 := tJG X.K (clr (clr (clr a (ownOf c scope)) ts) ts1) (dG c n scope tg2) ts1) (tt1 := tJT X.K wi0 (clr (clr (clr (clr a (ownOf c scope)) ts) ts1) ts1) (dIfs c n (rel scope sc) ifs2))
          (te := tJ X.K wi0 (clr (clr (clr (clr a (ownOf c scope)) ts) ts1) ts1) (dE c n (rel scope sc) elt) 2)
          C.calm C.nd (h.I X sc a true tg it C g1) ok (by rw [eo]; exact m6) (fun s H ca cl fp => tg_ok (C.blk s H scope ca cl fp) (StOk.blk C s H scope ca cl fp) n tg ts ht (clr a (ownOf c scope)))
          (fun s H ca cl fp => h.P _ _ _ ifs (C.blk s H scope ca cl fp) g7) (fun s H ca cl fp => h.I _ _ _ false tg2 it2 (C.blk s H scope ca cl fp) g8)
          (fun s H ca cl fp => tg_ok (C.blk s H scope ca cl fp) (StOk.blk C s H scope ca cl fp) n tg2 ts1 ht2 _) (fun s H ca cl fp => h.P _ _ _ ifs2 (C.blk s H scope ca cl fp) g9)
          (fun s H ca cl fp => (h.E _ _ _ elt (C.blk s H scope ca cl fp) (k3_of_kF g10)).kF g10) (fold_ok g2 _) (fold_ok g3)) fun σ H Q q => ?_
        rw [eo]
        exact je_lc2 m5 m6 (tg_same n tg ts ht) q
  | no => exact je_bad fun _ => rfl
theorem dc_ok (h : Sound c n) (C : Ctx c X sc) {kx vx : Expr} {gens : List Comprehension} {scope : Scope} (hk : k3 (kE c (n + 1) a sc (.DictComp kx vx gens scope pos)) = true) : JE X wi0 a (.DictComp kx vx gens scope pos) (dE c (n + 1) sc (.DictComp kx vx gens scope pos)) (kE c (n + 1) a sc (.DictComp kx vx gens scope pos)) := by
  unfold kE dE at *
  dsimp only at *
  cases hs : genK gens with
  | one tg it ifs =>
    rw [hs] at hk
    dsimp only at hk ⊢
    cases ht : tS c n scope tg with
    | none => rw [ht] at hk; cases hk
    | some ts =>
      rw [ht] at hk
      dsimp only at hk ⊢
      have hb := ite9 hk
      rw [if_pos hb]
      obtain ⟨hb, h7⟩ := and2 hb
      obtain ⟨hb, h6⟩ := and2 hb
      obtain ⟨hb, h5⟩ := and2 hb
      obtain ⟨hb, h4⟩ := and2 hb
      obtain ⟨h1, h2, h3⟩ := and3 hb
      have eg : gens = [⟨tg, it, ifs, 0⟩] := by
        unfold genK at hs
        split at hs <;> cases hs
        rfl
      subst eg
      rw [← C.hN, ← C.sc] at h3
      have ok := blkOk_by h3
      have eo := ownP_snd c scope
      refine PE.imp (pe_dc (wi := tJI X.K wi0 a true (dI c n sc it)) (g := tJG X.K (clr a (ownOf c scope)) (dG c n scope tg) ts) (tt := tJT X.K wi0 (clr (clr a (ownOf c scope)) ts) (dIfs c n (rel scope sc) ifs)) (tk := tJ X.K wi0 (clr (clr a (ownOf c scope)) ts) (dE c n (rel scope sc) kx) 0) (tv := tJ X.K wi0 (clr (clr a (ownOf c scope)) ts) (dE c n (rel scope sc) vx) 2)
        C.calm C.nd (h.I X sc a true tg it C h1) ok (fun s H ca cl fp => tg_ok (C.blk s H scope ca cl fp) (StOk.blk C s H scope ca cl fp) n tg ts ht (clr a (ownOf c scope)))
        (fun s H ca cl fp => h.P _ _ _ ifs (C.blk s H scope ca cl fp) h5) (fun s H ca cl fp => (h.E _ _ _ kx (C.blk s H scope ca cl fp) h6).to0) (fun s H ca cl fp => (h.E _ _ _ vx (C.blk s H scope ca cl fp) (k3_of_kF h7)).kF h7) (fold_ok h2 _)) fun σ H Q q => ?_
      have q : tJ X.K wi0 a (eDc (ownOf c scope) (dG c n scope tg) (dI c n sc it) (dIfs c n (rel scope sc) ifs) (dE c n (rel scope sc) kx) (dE c n (rel scope sc) vx)) 3 σ H Q := q
      rw [← eo] at q
      rw [← eo]
      refine je_dc (h.I X sc a true tg it C h1) (fun i hi => ?_) q
      have := List.all_eq_true.mp h4 i hi
      rw [eo]
      simpa using this
  | two tg it ifs tg2 it2 ifs2 => exact je_bad fun _ => rfl
  | no => exact je_bad fun _ => rfl
theorem bn_of (C : Ctx c X sc) {x : Str} (h : isBn c sc x = true) : Gl X x ∧ X.mg x = none := by
  unfold isBn at h
  obtain ⟨h1, h2⟩ := and2 h
  exact ⟨C.glo h1, C.bn x h2⟩
theorem rng_of {e : Expr} {as : List Expr} (h : itK c sc e = .rng as) : ∃ p2 pos2, e = .Call (.Name "range" p2) as [] pos2 := by
  unfold itK bnCall at h
  split at h
  · rename_i x as' hb
    split at hb
    · split at hb
      · cases hb
        split at h
        · rename_i hx
          subst hx
          cases h
          exact ⟨_, _, rfl⟩
        · split at h
          · split at h <;> cases h
          · split at h
            · split at h <;> cases h
            · cases h
      · cases hb
    · cases hb
  · cases h
theorem enum_of {e x : Expr} (h : itK c sc e = .enum x) : ∃ p2 pos2, e = .Call (.Name "enumerate" p2) [x] [] pos2 := by
  unfold itK bnCall at h
  split at h
  · rename_i y as' hb
    split at hb
    · split at hb
      · cases hb
        split at h
        · cases h
        · split at h
          · rename_i hx
            subst hx
            split at h
            · cases h; exact ⟨_, _, rfl⟩
            · cases h
          · split at h
            · split at h <;> cases h
            · cases h
      · cases hb
    · cases hb
  · cases h
theorem zip_of {e x y : Expr} (h : itK c sc e = .zip x y) : ∃ p2 pos2, e = .Call (.Name "zip" p2) [x, y] [] pos2 := by
  unfold itK bnCall at h
  split at h
  · rename_i z as' hb
    split at hb
    · split at hb
      · cases hb
        split at h
        · cases h
        · split at h
          · split at h <;> cases h
          · split at h
            · rename_i hx
              subst hx
              split at h
              · cases h; exact ⟨_, _, rfl⟩
              · cases h
            · cases h
      · cases hb
    · cases hb
  · cases h
end Dv
/-! Dv15: the look at an expression is sound: all forms. -/
namespace Dv
open PySem PySem.Spec PyProof.Rows L2
variable {X : Cx} {W : Wi} {K : PySem.W.Frag} {k : Nat} {e tg : Expr} {a : List Bool} {f : DE} {c : Cfg} {n : Nat} {sc : Scope} {pos p : Pos}

theorem zip_map (ops : List CmpOp) (es : List Expr) (g : Expr → DE) (hl : ops.length = es.length) : True := trivial
theorem cmp_e (h : Sound c n) (C : Ctx c X sc) {x : Expr} {ops : List CmpOp} {ys : List Expr} (hb : (k3 (kE c n a sc x) && ys.all (fun e => k3 (kE c n a sc e)) && ys.all notSet && decide (ops.length = ys.length) && !ys.isEmpty) = true) :
    JE X wi0 a (.Compare x ops ys pos) (eT (tCmp (dE c n sc x) (ops.zip (ys.map (dE c n sc))))) 3 ∧ JT X wi0 a (.Compare x ops ys pos) (tCmp (dE c n sc x) (ops.zip (ys.map (dE c n sc)))) := by
  obtain ⟨hb, h5⟩ := and2 hb
  obtain ⟨hb, h4⟩ := and2 hb
  obtain ⟨h1, h2, h3⟩ := and3 hb
  obtain ⟨m, hr⟩ := C.room
  have hs : ∀ e ∈ ys, notSet e = true := fun e he => List.all_eq_true.mp h3 e he
  exact ⟨je_cmp hr (of_decide_eq_true h4) hs (ne_of_isEmpty h5) (h.E X sc a x C h1).to0 (all3 h C h2), jt_cmp hr (of_decide_eq_true h4) hs (ne_of_isEmpty h5) (h.E X sc a x C h1).to0 (all3 h C h2)⟩
theorem att_of {o : Expr} {m : Str} {as : List Expr} {r : CallK} (h : attK o m as = r) : r = .met o m ∨ (∃ k, r = .get1 o k ∧ as = [k] ∧ m = "get") ∨ (∃ k z, r = .get2 o k z ∧ as = [k, z] ∧ m = "get") ∨ r = .no := by
  unfold attK at h
  split at h
  · rename_i hm
    split at h
    · exact .inr (.inl ⟨_, h.symm, rfl, hm⟩)
    · exact .inr (.inr (.inl ⟨_, _, h.symm, rfl, hm⟩))
    · exact .inr (.inr (.inr h.symm))
  · exact .inl h.symm
theorem get_of {f : Expr} {as : List Expr} {kws : List Keyword} {r : CallK} (h : callK c sc f as kws = r) (hr : (∃ o k, r = .get1 o k) ∨ ∃ o k z, r = .get2 o k z) : kws = [] ∧ ∃ o p, f = .Attribute o "get" p ∧ ((∃ k, r = .get1 o k ∧ as = [k]) ∨ ∃ k z, r = .get2 o k z ∧ as = [k, z]) := by
  have no : ∀ {x : CallK}, ((∃ o k, x = .get1 o k) ∨ ∃ o k z, x = .get2 o k z) → (∀ o k, x ≠ .get1 o k) → (∀ o k z, x ≠ .get2 o k z) → False := fun h a b => by
    rcases h with ⟨o, k, h⟩ | ⟨o, k, z, h⟩
    · exact a o k h
    · exact b o k z h
  unfold callK at h
  split at h
  · split at h
    · split at h
      · split at h <;> (subst h; exact (no hr (by intros; simp) (by intros; simp)).elim)
      · split at h <;> (subst h; exact (no hr (by intros; simp) (by intros; simp)).elim)
      · subst h; exact (no hr (by intros; simp) (by intros; simp)).elim
    · rcases att_of h with h1 | ⟨k, h1, e, hm⟩ | ⟨k, z, h1, e, hm⟩ | h1
      · clear h; subst h1; exact (no hr (by intros; simp) (by intros; simp)).elim
      · clear h; subst hm; exact ⟨rfl, _, _, rfl, .inl ⟨k, h1, e⟩⟩
      · clear h; subst hm; exact ⟨rfl, _, _, rfl, .inr ⟨k, z, h1, e⟩⟩
      · clear h; subst h1; exact (no hr (by intros; simp) (by intros; simp)).elim
    · subst h; exact (no hr (by intros; simp) (by intros; simp)).elim
  · subst h; exact (no hr (by intros; simp) (by intros; simp)).elim
theorem listI_of {f : Expr} {as : List Expr} {kws : List Keyword} {b : Expr} (h : callK c sc f as kws = .listI b) : kws = [] ∧ as = [b] ∧ isBn c sc "list" = true ∧ ∃ p, f = .Name "list" p := by
  unfold callK at h
  split at h
  · split at h
    · split at h
      · split at h
        · rename_i hb
          cases h
          rw [Bool.and_eq_true, Bool.and_eq_true, decide_eq_true_eq] at hb
          obtain ⟨⟨h1, h2⟩, h3⟩ := hb
          subst h1
          exact ⟨rfl, rfl, h2, _, rfl⟩
        · cases h
      · split at h <;> cases h
      · cases h
    · rcases att_of h with h | ⟨_, h, _⟩ | ⟨_, _, h, _⟩ | h <;> cases h
    · cases h
  · cases h
theorem isl_of {f : Expr} {as : List Expr} {kws : List Keyword} {b : Expr} (h : callK c sc f as kws = .isl b) : kws = [] ∧ isBn c sc "isinstance" = true ∧ isBn c sc "list" = true ∧ ∃ p p2, f = .Name "isinstance" p ∧ as = [b, .Name "list" p2] := by
  unfold callK at h
  split at h
  · split at h
    · split at h
      · split at h <;> cases h
      · split at h
        · rename_i b2 hb
          cases h
          rw [Bool.and_eq_true, Bool.and_eq_true, Bool.and_eq_true, decide_eq_true_eq] at hb
          obtain ⟨⟨⟨h1, h2⟩, h3⟩, h4⟩ := hb
          subst h1
          unfold isNm at h3
          split at h3
          · cases eq_of_beq h3
            exact ⟨rfl, h2, h4, _, _, rfl, rfl⟩
          · cases h3
        · cases h
      · cases h
    · rcases att_of h with h | ⟨_, h, _⟩ | ⟨_, _, h, _⟩ | h <;> cases h
    · cases h
  · cases h
theorem fn_of' {f : Expr} {as : List Expr} {kws : List Keyword} {x : Str} (h : callK c sc f as kws = .fn x) : kws = [] ∧ ∃ p, f = .Name x p := by
  unfold callK at h
  split at h
  · split at h
    · split at h
      · split at h
        · cases h
        · cases h; exact ⟨rfl, _, rfl⟩
      · split at h
        · cases h
        · cases h; exact ⟨rfl, _, rfl⟩
      · cases h; exact ⟨rfl, _, rfl⟩
    · rcases att_of h with h | ⟨_, h, _⟩ | ⟨_, _, h, _⟩ | h <;> cases h
    · cases h
  · cases h
theorem met_of {f : Expr} {as : List Expr} {kws : List Keyword} {o : Expr} {m : Str} (h : callK c sc f as kws = .met o m) : kws = [] ∧ ∃ p, f = .Attribute o m p := by
  unfold callK at h
  split at h
  · split at h
    · split at h
      · split at h <;> cases h
      · split at h <;> cases h
      · cases h
    · rcases att_of h with h | ⟨_, h, _⟩ | ⟨_, _, h, _⟩ | h
      · cases h; exact ⟨rfl, _, rfl⟩
      · cases h
      · cases h
      · cases h
    · cases h
  · cases h
theorem fnOf_of {x : Str} {m : List D → R D} (h : fnOf c sc x = some m) : glo sc x = true ∧ c.ge.lookup x = some (.fn m (fnOwn c x) (fnFlat c x)) := by
  unfold fnOf at h
  split at h
  · rename_i hg
    refine ⟨hg, ?_⟩
    unfold fnOwn fnFlat
    split at h
    · rename_i m' o fl hl
      cases h
      rw [hl]
    · cases h
  · cases h
theorem setK_of {f : Expr} {as : List Expr} {kws : List Keyword} {b : Bool} {e : Expr} (h : setK c sc f as kws = some (b, e)) : kws = [] ∧ isBn c sc "set" = true ∧ ∃ p p2 q, as = [.Call (.Name "set" p2) [e] [] q] ∧
    ((b = true ∧ isBn c sc "sorted" = true ∧ f = .Name "sorted" p) ∨ (b = false ∧ isBn c sc "len" = true ∧ f = .Name "len" p)) := by
  unfold setK at h
  split at h
  · split at h
    · rename_i x px
      split at h
      · rename_i a1
        split at h
        · rename_i y bs hb
          split at h
          · rename_i b1
            split at h
            · rename_i hc
              rw [Bool.and_eq_true, Bool.and_eq_true, Bool.or_eq_true, decide_eq_true_eq, decide_eq_true_eq, decide_eq_true_eq] at hc
              obtain ⟨⟨hx, h1⟩, h2⟩ := hc
              subst h2
              unfold bnCall at hb
              split at hb
              · split at hb
                · rename_i h3
                  cases hb
                  rcases hx with hx | hx
                  · subst hx
                    cases h
                    exact ⟨rfl, h3, _, _, _, rfl, .inr ⟨by decide, h1, rfl⟩⟩
                  · subst hx
                    cases h
                    exact ⟨rfl, h3, _, _, _, rfl, .inl ⟨by decide, h1, rfl⟩⟩
                · cases hb
              · cases hb
            · cases h
          · cases h
        · cases h
      · cases h
    · cases h
  · cases h
theorem call_ok (h : ∀ m, m ≤ n → Sound c m) (C : Ctx c X sc) {fx : Expr} {as : List Expr} {kws : List Keyword} (hk : k3 (kE c (n + 1) a sc (.Call fx as kws pos)) = true) :
    JE X wi0 a (.Call fx as kws pos) (dE c (n + 1) sc (.Call fx as kws pos)) (kE c (n + 1) a sc (.Call fx as kws pos)) := by
  have hn := h n (Nat.le_refl _)
  unfold kE dE at *
  dsimp only at *
  cases hs0 : setK c sc fx as kws with
  | some p0 =>
    obtain ⟨b0, e0⟩ := p0
    rw [hs0] at hk
    dsimp only at hk ⊢
    obtain ⟨rfl, b2, p1, p2, q1, rfl, hz⟩ := setK_of hs0
    have hb := ite9 hk
    rw [if_pos hb]
    obtain ⟨h1, h2⟩ := and2 hb
    obtain ⟨gl2, gm2⟩ := bn_of C b2
    rcases hz with ⟨rfl, b1, rfl⟩ | ⟨rfl, b1, rfl⟩
    · obtain ⟨gl, gm⟩ := bn_of C b1
      obtain ⟨q, hr⟩ := C.room
      exact je_sortSet hr C.calm gl gm gl2 gm2 (hn.E X sc a e0 C h2).to0 (star_cons h1)
    · obtain ⟨gl, gm⟩ := bn_of C b1
      exact je_lenSet C.calm gl gm gl2 gm2 (hn.E X sc a e0 C h2).to0 (star_cons h1)
  | none =>
  rw [hs0] at hk
  dsimp only at hk ⊢
  cases hs : callK c sc fx as kws with
  | listI b =>
    rw [hs] at hk
    dsimp only at hk ⊢
    obtain ⟨rfl, rfl, hl, p0, rfl⟩ := listI_of hs
    obtain ⟨gl, gm⟩ := bn_of C hl
    have run : ∀ as2 : List Expr, itK c sc b = .rng as2 → (as2.length = 1 ∨ as2.length = 2) → kI c n a sc true false b = true → JE X wi0 a (.Call (.Name "list" p0) [b] [] pos) (eLstI (dI c n sc b)) 3 := by
      intro as2 hi hl2 hb
      obtain ⟨p2, pos2, rfl⟩ := rng_of hi
      cases n with
      | zero => exact je_bad fun _ => by unfold dI; rfl
      | succ m =>
        have hm := h m (Nat.le_succ _)
        unfold kI at hb
        unfold dI
        rw [hi] at hb ⊢
        dsimp only at hb ⊢
        obtain ⟨hr, hb⟩ := and2 hb
        obtain ⟨gl2, gm2⟩ := bn_of C hr
        match as2, hl2, hb with
        | [x], _, hb =>
          obtain ⟨b1, b2⟩ := and2 hb
          exact je_lr1 C.calm gl gm gl2 gm2 b1 (hm.E X sc a x C b2).to0
        | [x, y], _, hb =>
          obtain ⟨hb, b4⟩ := and2 hb
          obtain ⟨b1, b2, b3⟩ := and3 hb
          exact je_lr2 C.calm gl gm gl2 gm2 b1 b2 (hm.E X sc a x C b3).to0 (hm.E X sc a y C b4).to0
        | [], hl2, _ => simp at hl2
        | _ :: _ :: _ :: _, hl2, _ => simp at hl2
    split at hk
    · rename_i x hi
      have hb := ite9 hk
      rw [if_pos hb]
      exact run _ hi (.inl rfl) hb
    · rename_i x y hi
      have hb := ite9 hk
      rw [if_pos hb]
      exact run _ hi (.inr rfl) hb
    · cases hk
  | fn x =>
    rw [hs] at hk
    dsimp only at hk ⊢
    obtain ⟨rfl, p0, rfl⟩ := fn_of' hs
    cases hf : fnOf c sc x with
    | some m =>
      rw [hf] at hk
      dsimp only at hk ⊢
      have hb : (notDbg x && as.all (fun e => if fnFlat c x = true then k3 (kE c n a sc e) else Dv.kF (kE c n a sc e)) && as.all plainE) = true := by
        cases hh : (notDbg x && as.all (fun e => if fnFlat c x = true then k3 (kE c n a sc e) else Dv.kF (kE c n a sc e)) && as.all plainE) with
        | true => rfl
        | false => rw [hh] at hk; cases hk
      rw [if_pos hb] at hk ⊢
      refine JE.kk ?_ hk
      obtain ⟨h1, h2, h3⟩ := and3 hb
      obtain ⟨hg, hl⟩ := fnOf_of hf
      rcases C.fn x m _ _ hl with ⟨fa, fl⟩ | ⟨g1, g2, g3, g4⟩
      · cases hfl : fnFlat c x with
        | true =>
          rw [hfl] at h2 fl
          obtain ⟨b, eb, fl⟩ := fl rfl
          rw [eb] at fa ⊢
          exact je_fnB (pos := pos) (p := p0) fl fa C.gu (C.glo hg) h1 (all3 hn C h2) h3
        | false =>
          rw [hfl] at h2
          exact je_fn (pos := pos) (p := p0) fa C.gu (C.glo hg) h1 (allFr hn C h2) h3
      · subst g2
        rw [g4] at h2
        rw [g3]
        exact je_gcd (C.glo hg) g1 (dbg1 h1) (jr_all (all3 hn C h2) h3) h3 (each_true _ _)
    | none =>
      rw [hf] at hk
      dsimp only at hk ⊢
      by_cases hb : isBn c sc x = true
      · rw [if_pos hb] at hk ⊢
        rw [if_pos hb]
        have hb2 := ite9 hk
        rw [if_pos hb2]
        obtain ⟨h1, h2, h3⟩ := and3 hb2
        obtain ⟨gl, gm⟩ := bn_of C hb
        obtain ⟨m, hr⟩ := C.room
        exact je_bn hr C.gu C.calm (by simpa using h1) gl gm (jr_all (all3 hn C h2) h3) h3 (each_true _ _)
      · rw [if_neg hb]
        exact je_bad fun _ => rfl
  | met o m =>
    rw [hs] at hk
    dsimp only at hk ⊢
    obtain ⟨rfl, p0, rfl⟩ := met_of hs
    by_cases hb : mets.contains m = true
    · rw [if_pos hb] at hk ⊢
      rw [if_pos hb]
      have hb2 := ite9 hk
      rw [if_pos hb2]
      obtain ⟨hb2, b7⟩ := and2 hb2
      obtain ⟨hb2, b6⟩ := and2 hb2
      obtain ⟨hb2, b5⟩ := and2 hb2
      obtain ⟨hb2, b4⟩ := and2 hb2
      obtain ⟨b1, b2, b3⟩ := and3 hb2
      obtain ⟨q, hr⟩ := C.room
      exact je_met hr (by simpa using hb) (hn.E X sc a o C b1).to0 b6 b7 (jr_all (all3 hn C b2) b3) b3 (each_true _ _) b5 (ne_of_isEmpty b4)
    · rw [if_neg hb]
      exact je_bad fun _ => rfl
  | isl x =>
    rw [hs] at hk
    dsimp only at hk ⊢
    obtain ⟨rfl, b1, b2, p0, p2, rfl, rfl⟩ := isl_of hs
    have hb := ite9 hk
    rw [if_pos hb]
    obtain ⟨h1, h2⟩ := and2 hb
    obtain ⟨gl, gm⟩ := bn_of C b1
    obtain ⟨gl2, gm2⟩ := bn_of C b2
    exact je_isL gl gm gl2 gm2 h1 (hn.E X sc a x C h2).to0
  | get1 o1 k1 =>
    rw [hs] at hk
    dsimp only at hk ⊢
    obtain ⟨rfl, o2, p0, rfl, z⟩ := get_of hs (.inl ⟨_, _, rfl⟩)
    rcases z with ⟨k2, e1, rfl⟩ | ⟨k2, z2, e1, _⟩
    · cases e1
      have hb := ite9' hk
      rw [if_pos hb]
      obtain ⟨hb, b5⟩ := and2 hb
      obtain ⟨hb, b4⟩ := and2 hb
      obtain ⟨b1, b2, b3⟩ := and3 hb
      obtain ⟨q, hr⟩ := C.room
      exact je_get1 hr (hn.E X sc a _ C b1).to0 (hn.E X sc a _ C b2).to0 b3 b4 b5
    · cases e1
  | get2 o1 k1 z1 =>
    rw [hs] at hk
    dsimp only at hk ⊢
    obtain ⟨rfl, o2, p0, rfl, z⟩ := get_of hs (.inr ⟨_, _, _, rfl⟩)
    rcases z with ⟨k2, e1, _⟩ | ⟨k2, z2, e1, rfl⟩
    · cases e1
    · cases e1
      have hb := ite9' hk
      rw [if_pos hb]
      obtain ⟨hb, b7⟩ := and2 hb
      obtain ⟨hb, b6⟩ := and2 hb
      obtain ⟨hb, b5⟩ := and2 hb
      obtain ⟨hb, b4⟩ := and2 hb
      obtain ⟨b1, b2, b3⟩ := and3 hb
      obtain ⟨q, hr⟩ := C.room
      exact je_get2 hr (hn.E X sc a _ C b1).to0 (hn.E X sc a _ C b2).to0 ((hn.E X sc a _ C (k3_of_kF b3)).kF b3) b4 b5 b6 b7
  | no => exact je_bad fun _ => rfl
theorem sound_I (h : Sound c n) (C : Ctx c X sc) {cm : Bool} (hk : kI c (n + 1) a sc cm (isTup tg) e = true) : JI X wi0 a cm tg e (dI c (n + 1) sc e) := by
  unfold kI at hk
  unfold dI
  cases hi : itK c sc e with
  | rng as =>
    rw [hi] at hk
    dsimp only at hk ⊢
    obtain ⟨hr, hb⟩ := and2 hk
    obtain ⟨gl, gm⟩ := bn_of C hr
    obtain ⟨p2, pos2, rfl⟩ := rng_of hi
    match as, hb with
    | [x], hb =>
      obtain ⟨b1, b2⟩ := and2 hb
      exact ji_rng1 gl gm b1 (h.E X sc a x C b2).to0
    | [x, y], hb =>
      obtain ⟨hb, b4⟩ := and2 hb
      obtain ⟨b1, b2, b3⟩ := and3 hb
      exact ji_rng2 gl gm b1 b2 (h.E X sc a x C b3).to0 (h.E X sc a y C b4).to0
    | [x, y, z], hb =>
      obtain ⟨hb, b4⟩ := and2 hb
      obtain ⟨b1, b2, b3⟩ := and3 hb
      dsimp only
      by_cases hm : isM1 z = true
      · rw [if_pos hm]
        exact ji_rngD gl gm b1 b2 (h.E X sc a x C b3).to0 (h.E X sc a y C b4).to0 hm
      · rw [if_neg hm]
        exact ji_bad fun _ => rfl
    | [], _ => exact ji_bad fun _ => rfl
    | _ :: _ :: _ :: _ :: _, _ => exact ji_bad fun _ => rfl
  | enum x =>
    rw [hi] at hk
    dsimp only at hk ⊢
    obtain ⟨hb, b4⟩ := and2 hk
    obtain ⟨b1, b2, b3⟩ := and3 hb
    obtain ⟨gl, gm⟩ := bn_of C b2
    obtain ⟨p2, pos2, rfl⟩ := enum_of hi
    cases tg with
    | Tuple es kk tp => exact ji_enum gl gm b3 ((h.E X sc a x C (k3_of_kC b4)).kC b4)
    | _ => cases b1
  | zip x y =>
    rw [hi] at hk
    dsimp only at hk ⊢
    obtain ⟨hb, b6⟩ := and2 hk
    obtain ⟨hb, b5⟩ := and2 hb
    obtain ⟨hb, b4⟩ := and2 hb
    obtain ⟨b1, b2, b3⟩ := and3 hb
    obtain ⟨gl, gm⟩ := bn_of C b2
    obtain ⟨p2, pos2, rfl⟩ := zip_of hi
    cases tg with
    | Tuple es kk tp => exact ji_zip gl gm b3 b4 ((h.E X sc a x C (k3_of_kC b5)).kC b5) ((h.E X sc a y C (k3_of_kC b6)).kC b6)
    | _ => cases b1
  | exp =>
    rw [hi] at hk
    dsimp only at hk ⊢
    exact ji_exp ((h.E X sc a e C (k3_of_kC hk)).kC hk)
theorem sound_P (h : Sound c n) (C : Ctx c X sc) {es : List Expr} (hk : kIfs c (n + 1) a sc es = true) : PTs X es (tJT X.K wi0 a (dIfs c (n + 1) sc es)) := by
  unfold kIfs at hk
  unfold dIfs
  match es, hk with
  | [], _ => exact ⟨fun pins s σ H Q I ⟨F0, B, F, δ, S, q⟩ => pts_nil.run pins s σ H Q I (q F H S (Same.refl F) (Same.refl H) (New.refl _ _))⟩
  | [e], hk => exact pts_one (h.T X sc a e C hk)
  | _ :: _ :: _, hk => cases hk
theorem bools_ok (h : Sound c n) (C : Ctx c X sc) {op : BoolOp} {es : List Expr} (hk : k3 (kE c (n + 1) a sc (.BoolOp op es pos)) = true) : JE X wi0 a (.BoolOp op es pos) (dE c (n + 1) sc (.BoolOp op es pos)) (kE c (n + 1) a sc (.BoolOp op es pos)) := by
  unfold kE dE at *
  dsimp only at *
  have hb : (es.all (fun e => k3 (kE c n a sc e)) && !es.isEmpty) = true := by
    cases hh : (es.all (fun e => k3 (kE c n a sc e)) && !es.isEmpty) with
    | true => rfl
    | false => rw [hh] at hk; cases hk
  rw [if_pos hb]
  obtain ⟨h1, h2⟩ := and2 hb
  have ne := ne_of_isEmpty h2
  have al := List.all_eq_true.mp h1
  obtain ⟨g1, g2⟩ := kjs_of (ks := es.map (kE c n a sc)) (fun k hk => by
    obtain ⟨e, he, rfl⟩ := List.mem_map.mp hk
    exact al e he) (by simpa using ne)
  have ea : Each2 (fun e f => JE X wi0 a e f (kjs (es.map (kE c n a sc)))) es (es.map (dE c n sc)) := each_map fun e he => (h.E X sc a e C (al e he)).weak (g2 _ (List.mem_map_of_mem he))
  cases op with
  | And => exact je_ands ea ne
  | Or => exact je_ors ea ne
theorem stars_of (h : Sound c n) (C : Ctx c X sc) : ∀ {es : List Expr}, es.all (fun e => if isSt e then k3 (kE c n a sc (unSt e)) else Dv.kF (kE c n a sc (unSt e))) = true →
    Each2 (fun e p => p.1 = isSt e ∧ JE X wi0 a (unSt e) p.2 (if p.1 then 0 else 2)) es (es.map fun e => (isSt e, dE c n sc (unSt e)))
  | [], _ => .nil
  | e :: es, ha => by
    rw [List.all_cons, Bool.and_eq_true] at ha
    refine .cons ⟨rfl, ?_⟩ (stars_of h C ha.2)
    have h1 := ha.1
    dsimp only
    by_cases hs : isSt e = true
    · rw [if_pos hs] at h1
      rw [if_pos hs]
      exact (h.E X sc a _ C h1).to0
    · rw [if_neg hs] at h1
      rw [if_neg hs]
      exact (h.E X sc a _ C (k3_of_kF h1)).kF h1
theorem pairs_ok (h : Sound c n) (C : Ctx c X sc) : ∀ {ks : List (Option Expr)} {vs : List Expr} {ps : List (Expr × Expr)}, dpairs ks vs = some ps → ps.all (fun p => k3 (kE c n a sc p.1) && Dv.kF (kE c n a sc p.2)) = true →
    PPJ X a ks vs (ps.map fun p => (dE c n sc p.1, dE c n sc p.2)) ∧ ks.length = ps.length
  | [], [], _, e, _ => by cases e; exact ⟨.nil, rfl⟩
  | some k :: ks, v :: vs, ps, e, hb => by
    obtain ⟨ps', e1, rfl⟩ := Option.map_eq_some_iff.mp (show (dpairs ks vs).map ((k, v) :: ·) = some ps from e)
    rw [List.all_cons, Bool.and_eq_true] at hb
    obtain ⟨t1, t2⟩ := pairs_ok h C e1 hb.2
    obtain ⟨b1, b2⟩ := and2 hb.1
    exact ⟨.cons (h.E X sc a k C b1).to0 ((h.E X sc a v C (k3_of_kF b2)).kF b2) t1, by rw [List.length_cons, List.length_cons, t2]⟩
  | [], _ :: _, _, e, _ => by cases e
  | none :: _, [], _, e, _ => by cases e
  | none :: _, _ :: _, _, e, _ => by cases e
  | some _ :: _, [], _, e, _ => by cases e
theorem sound_E (h : ∀ m, m ≤ n → Sound c m) (C : Ctx c X sc) (hk : k3 (kE c (n + 1) a sc e) = true) : JE X wi0 a e (dE c (n + 1) sc e) (kE c (n + 1) a sc e) := by
  have hn := h n (Nat.le_refl _)
  cases e with
  | Call f as kws pos => exact call_ok h C hk
  | BoolOp op es pos => exact bools_ok hn C hk
  | ListComp elt gens scope pos => exact lc_ok hn C hk
  | DictComp kx vx gens scope pos => exact dc_ok hn C hk
  | Subscript x i pos => exact sub_ok hn C hk
  | Constant k j pos =>
    unfold kE dE
    dsimp only
    cases hc : constD k with
    | none => exact je_bad fun _ => rfl
    | some d => exact je_const hc
  | Name x pos =>
    unfold kE dE at *
    exact name_ok C hk
  | BinOp x op y pos =>
    unfold kE dE at *
    dsimp only at *
    have hb := ite9 hk
    rw [if_pos hb]
    obtain ⟨h1, h2⟩ := and2 hb
    exact je_bin (hn.E X sc a x C h1).to0 (hn.E X sc a y C h2).to0
  | UnaryOp op x pos =>
    unfold kE dE at *
    dsimp only at *
    have hb := ite9 hk
    rw [if_pos hb]
    have hx := (hn.E X sc a x C hb).to0
    cases op with
    | USub => exact je_neg hx
    | Not => exact je_not hx
    | _ => exact je_bad fun _ => rfl
  | IfExp t x y pos =>
    unfold kE dE at *
    dsimp only at *
    have hb : (kT c n a sc t && k3 (kE c n a sc x) && k3 (kE c n a sc y)) = true := by
      cases hh : (kT c n a sc t && k3 (kE c n a sc x) && k3 (kE c n a sc y)) with
      | true => rfl
      | false => rw [hh] at hk; cases hk
    rw [if_pos hb]
    obtain ⟨h1, h2, h3⟩ := and3 hb
    obtain ⟨g1, g2, _⟩ := kj_of h2 h3
    exact je_if (hn.T X sc a t C h1) ((hn.E X sc a x C h2).weak g1) ((hn.E X sc a y C h3).weak g2)
  | Compare x ops ys pos =>
    unfold kE dE at *
    dsimp only at *
    have hb := ite9 hk
    rw [if_pos hb]
    exact (cmp_e hn C hb).1
  | Dict ks vs pos =>
    unfold kE dE at *
    dsimp only at *
    cases hp : dpairs ks vs with
    | none => exact je_bad fun _ => rfl
    | some ps =>
      rw [hp] at hk
      dsimp only at hk ⊢
      have hb := ite9 hk
      rw [if_pos hb]
      obtain ⟨h1, h2⟩ := and2 hb
      have h2 := of_decide_eq_true h2
      obtain ⟨g1, g2⟩ := pairs_ok hn C hp h1
      cases ks with
      | nil =>
        cases vs with
        | nil => cases hp; exact je_dct0
        | cons v vs => cases hp
      | cons k ks => exact je_dct g1 (by simp) (by omega)
  | List es pos =>
    unfold kE dE at *
    dsimp only at *
    cases hst : es.any isSt with
    | true =>
      rw [hst] at hk
      rw [if_pos rfl] at hk
      rw [if_pos rfl, if_pos rfl]
      have hb := ite9 hk
      rw [if_pos hb]
      exact je_listS (ja_allS (stars_of hn C hb))
    | false =>
    rw [hst] at hk
    rw [if_neg (by simp)] at hk
    rw [if_neg (by simp), if_neg (by simp)]
    have hb := ite9 hk
    rw [if_pos hb]
    obtain ⟨h1, h2, h3⟩ := and3 hb
    exact je_list (ja_all (allFr hn C h1) h2) (by rw [map_len]; exact of_decide_eq_true h3)
  | Tuple es kk pos =>
    unfold kE dE at *
    dsimp only at *
    cases hst : es.any isSt with
    | true =>
      rw [hst] at hk
      rw [if_pos rfl] at hk
      rw [if_pos rfl, if_pos rfl]
      have hb := ite9 hk
      rw [if_pos hb]
      exact je_tupS (ja_allS (stars_of hn C hb))
    | false =>
    rw [hst] at hk
    rw [if_neg (by simp)] at hk
    rw [if_neg (by simp), if_neg (by simp)]
    have hb := ite9 hk
    rw [if_pos hb]
    obtain ⟨h1, h2, h3⟩ := and3 hb
    exact je_tup (ja_all (allFr hn C h1) h2) (by rw [map_len]; exact of_decide_eq_true h3)
  | _ => exact je_bad fun _ => by unfold dE; rfl
theorem sound_T (h : ∀ m, m ≤ n → Sound c m) (C : Ctx c X sc) (hk : kT c (n + 1) a sc e = true) : JT X wi0 a e (dT c (n + 1) sc e) := by
  have hn := h n (Nat.le_refl _)
  cases e with
  | BoolOp op es pos =>
    unfold kT dT at *
    dsimp only at *
    obtain ⟨h1, h2⟩ := and2 hk
    have ea : Each2 (JT X wi0 a) es (es.map (dT c n sc)) := Each2.map es fun e he => hn.T X sc a e C (List.all_eq_true.mp h1 e he)
    cases op with
    | And => exact jt_ands ea (ne_of_isEmpty h2)
    | Or => exact jt_ors ea (ne_of_isEmpty h2)
  | Compare x ops ys pos =>
    unfold kT dT at *
    exact (cmp_e hn C hk).2
  | IfExp t x y pos => exact jt_bad fun _ => by unfold dT; rfl
  | UnaryOp op x pos =>
    unfold kT dT at *
    cases op with
    | Not => exact jt_not (hn.T X sc a x C hk)
    | _ => exact jt_truth (hn.E X sc a _ C hk).to0 (fun _ => rfl)
  | _ =>
    unfold kT dT at *
    exact jt_truth (hn.E X sc a _ C hk).to0 (fun _ => rfl)
theorem sound_upto (c : Cfg) : ∀ n m, m ≤ n → Sound c m
  | 0, m, h => by cases Nat.le_zero.mp h; exact sound0
  | n + 1, m, h => by
    have ih := sound_upto c n
    rcases Nat.lt_or_eq_of_le h with h | h
    · exact ih m (Nat.le_of_lt_succ h)
    · subst h
      have hn := ih n (Nat.le_refl _)
      exact ⟨fun X sc a e C hk => sound_E ih C hk, fun X sc a e C hk => sound_T ih C hk, fun X sc a es C hk => sound_P hn C hk, fun X sc a cm tg e C hk => sound_I hn C hk⟩
theorem sound (c : Cfg) (n : Nat) : Sound c n := sound_upto c n n (Nat.le_refl _)
end Dv
/-! Dv32: how new a value is: the look, and that it is sound. -/
namespace Dv
open PySem PySem.Spec PyProof.Rows L2
variable {X : Cx} {W : Wi} {K : PySem.W.Frag} {k : Nat} {e : Expr} {a : List Bool} {f : DE} {c : Cfg} {n : Nat} {sc : Scope} {pos p : Pos}

def minL : List Nat → Nat
  | [] => 9
  | k :: ks => min k (minL ks)
/-- to which depth a value is newer than the def's entry (or the group's base) -/
def kL (c : Cfg) : Nat → List Bool → Scope → Expr → Nat
  | 0, _, _, _ => 0
  | n + 1, a, sc, e => match e with
    | .Constant _ _ _ => 9
    | .Name x _ => if vis sc x then (match c.slot x with
      | some i => if notDbg x && !own a i && nw1 a i then 1 else 0
      | none => 0) else 0
    | .Tuple es _ _ => if es.all plainE then minL (es.map (kL c n a sc)) + 1 else 1
    | .IfExp _ x y _ => min (kL c n a sc x) (kL c n a sc y)
    | .Call g as kws _ => (match setK c sc g as kws with
      | some _ => 0
      | none => match callK c sc g as kws with
        | .fn x => (match fnOf c sc x with
          | some _ => if 4 ≤ fnOwn c x then fnOwn c x - 4 else if fnOwn c x = 3 then 1 else 0
          | none => 0)
        | _ => 0)
    | e => if kE c (n + 1) a sc e == 3 then 1 else 0
theorem minL_le : ∀ {ks : List Nat} {k : Nat}, k ∈ ks → minL ks ≤ k
  | k :: ks, k', h => by
    unfold minL
    rcases List.mem_cons.mp h with rfl | h
    · exact Nat.min_le_left _ _
    · exact Nat.le_trans (Nat.min_le_right _ _) (minL_le h)
theorem JE.lev (h : JE X W a e f k) (hk : Dv.kF k = true) : JE X W a e f ((if (k == 3) = true then 1 else 0) + 4) := by
  by_cases z : (k == 3) = true
  · rw [if_pos z]; cases eq_of_beq z; exact h.lv
  · rw [if_neg z]; exact (h.kF hk).lv0
theorem je_constN {k : Const} {d : D} {j m : Nat} (h : constD k = some d) : JE X W a (.Constant k j pos) (eC d) (m + 4) := by
  have fin : ∀ {v : V}, (∀ F, Rp X.K F v d) → isAt d = true → PE X (.Constant k j pos) (tC v) → JE X W a (.Constant k j pos) (eC d) (m + 4) := fun {v} r nl p => p.imp fun σ H Q ⟨F0, B, F, δ, S, q⟩ =>
    q v F H S (Same.refl F) (Same.refl H) (New.refl _ _) ⟨r F, Nw.atom nl⟩
  cases k with
  | none => cases h; exact fin (fun _ => .non) rfl pe_non
  | bool b => cases h; exact fin (fun _ => .bl b) rfl pe_bl
  | int i => cases h; exact fin (fun _ => .int i) rfl pe_int
  | str s =>
    have h : (if decide (s.length ≤ 1000) && PyData.strOk s then some (PyData.str s) else none) = some d := h
    split at h
    · rename_i hs
      cases h
      rw [Bool.and_eq_true] at hs
      refine fin (fun _ => .str ⟨?_, hs.2⟩) rfl pe_str
      have := of_decide_eq_true hs.1
      omega
    · cases h
  | _ => cases h
theorem jan_all {m : Nat} : ∀ {es : List Expr} {fs : List DE}, Each2 (fun e f => JE X W a e f (m + 4)) es fs → es.all plainE = true → PA X es (tJAN X.K W a m fs)
  | _, _, .nil, _ => jan_nil
  | _, _, .cons h t, hp => by
    rw [List.all_cons, Bool.and_eq_true] at hp
    exact jan_cons h (jan_all t hp.2) (star_cons hp.1)
theorem kF_kj : ∀ k1 k2 : Fin 4, kF (kj k1 k2) = true → kF k1 = true ∧ kF k2 = true := by decide
/-- the level stands -/
theorem kL_ok : ∀ (n : Nat) (X : Cx) (sc : Scope) (a : List Bool) (e : Expr), Ctx c X sc → kF (kE c n a sc e) = true → JE X wi0 a e (dE c n sc e) (kL c n a sc e + 4) := by
  intro n
  induction n with
  | zero => intro X sc a e C h; exact je_bad fun _ => by unfold dE; rfl
  | succ n ih =>
    intro X sc a e C h
    have h3 := k3_of_kF h
    have base := (sound c (n + 1)).E X sc a e C h3
    have lev := base.lev h
    cases e with
    | Constant k j pos =>
      unfold kL
      dsimp only
      unfold dE
      dsimp only
      cases hc : constD k with
      | none => exact je_bad fun _ => rfl
      | some d => exact je_constN hc
    | Name x pos =>
      unfold kL
      dsimp only
      have zero : JE X wi0 a (.Name x pos) (dE c (n + 1) sc (.Name x pos)) (0 + 4) := (base.kF h).lv0
      by_cases hv : vis sc x = true
      · rw [if_pos hv]
        cases hs : c.slot x with
        | none => exact zero
        | some i =>
          dsimp only
          by_cases hb : (notDbg x && !own a i && nw1 a i) = true
          · rw [if_pos hb]
            obtain ⟨h1, h2, h4⟩ := and3 hb
            have e1 : dE c (n + 1) sc (.Name x pos) = eV i := by
              unfold dE
              dsimp only
              unfold eName
              rw [if_pos hv, hs]
            rw [e1]
            exact je_varN (C.slot hs) (C.vis hv) (dbg1 h1) (dbg2 h1) (by simpa using h2) h4
          · rw [if_neg hb]; exact zero
      · rw [if_neg hv]; exact zero
    | Tuple es j pos =>
      have one : JE X wi0 a (.Tuple es j pos) (dE c (n + 1) sc (.Tuple es j pos)) (1 + 4) := by
        have e3 : kE c (n + 1) a sc (.Tuple es j pos) = 3 := by
          unfold kE at h3 ⊢
          dsimp only at h3 ⊢
          split
          · rename_i hst; rw [if_pos hst] at h3; rw [if_pos (ite9 h3)]
          · rename_i hst; rw [if_neg hst] at h3; rw [if_pos (ite9 h3)]
        rw [e3] at base
        exact base.lv
      unfold kL
      dsimp only
      by_cases hp : es.all plainE = true
      · rw [if_pos hp]
        have hns : es.any isSt = false := by
          cases z : es.any isSt with
          | false => rfl
          | true =>
            obtain ⟨e, he, hst⟩ := List.any_eq_true.mp z
            have := List.all_eq_true.mp hp e he
            cases e <;> first | (cases this; done) | (cases hst; done)
        unfold kE at h3
        unfold dE
        dsimp only at h3 ⊢
        rw [if_neg (by rw [hns]; exact Bool.false_ne_true)] at h3 ⊢
        have hb := ite9 h3
        obtain ⟨h1, _, h5⟩ := and3 hb
        refine je_tupN (jan_all (each_map fun e he => ?_) hp) (by rw [List.length_map]; exact of_decide_eq_true h5)
        exact (ih X sc a e C (List.all_eq_true.mp h1 e he)).lvL (minL_le (List.mem_map_of_mem he))
      · rw [if_neg hp]; exact one
    | IfExp t x y pos =>
      unfold kL
      dsimp only
      unfold kE at h
      unfold dE
      dsimp only at h ⊢
      have hb : (kT c n a sc t && k3 (kE c n a sc x) && k3 (kE c n a sc y)) = true := by
        cases hh : (kT c n a sc t && k3 (kE c n a sc x) && k3 (kE c n a sc y)) with
        | true => rfl
        | false => rw [hh] at h; cases h
      rw [if_pos hb] at h
      obtain ⟨h1, h2, h4⟩ := and3 hb
      have k1 := of_decide_eq_true h2
      have k2 := of_decide_eq_true h4
      obtain ⟨g1, g2⟩ := kF_kj ⟨_, by omega⟩ ⟨_, by omega⟩ h
      exact je_if ((sound c n).T X sc a t C h1) ((ih X sc a x C g1).lvL (Nat.min_le_left _ _)) ((ih X sc a y C g2).lvL (Nat.min_le_right _ _))
    | Call g as kws pos =>
      have zero : JE X wi0 a (.Call g as kws pos) (dE c (n + 1) sc (.Call g as kws pos)) (0 + 4) := (base.kF h).lv0
      unfold kL
      dsimp only
      cases hs : setK c sc g as kws with
      | some p => exact zero
      | none =>
        dsimp only
        cases hc : callK c sc g as kws with
        | fn x =>
          dsimp only
          cases hf : fnOf c sc x with
          | none => exact zero
          | some m =>
            dsimp only
            unfold kE at h3
            dsimp only at h3
            rw [hs] at h3
            dsimp only at h3
            rw [hc] at h3
            dsimp only at h3
            rw [hf] at h3
            dsimp only at h3
            have hb : (notDbg x && as.all (fun e => if fnFlat c x = true then k3 (kE c n a sc e) else Dv.kF (kE c n a sc e)) && as.all plainE) = true := by
              cases hh : (notDbg x && as.all (fun e => if fnFlat c x = true then k3 (kE c n a sc e) else Dv.kF (kE c n a sc e)) && as.all plainE) with
              | true => rfl
              | false => rw [hh] at h3; cases h3
            by_cases h4 : 4 ≤ fnOwn c x
            · rw [if_pos h4]
              obtain ⟨g1, g2, g3⟩ := and3 hb
              obtain ⟨hg, hl⟩ := fnOf_of hf
              obtain ⟨rfl, p0, rfl⟩ := fn_of' hc
              have ed : dE c (n + 1) sc (.Call (.Name x p0) as [] pos) = eCall m (as.map (dE c n sc)) := by
                unfold dE
                dsimp only
                rw [hs]
                dsimp only
                rw [hc]
                dsimp only
                rw [hf]
              rw [ed]
              rcases C.fn x m _ _ hl with ⟨fa, fl⟩ | ⟨_, _, g5, _⟩
              · cases hfl : fnFlat c x with
                | true =>
                  rw [hfl] at fl
                  obtain ⟨b, eb, _⟩ := fl rfl
                  rw [eb] at h4
                  cases b <;> (unfold kb at h4; simp at h4)
                | false =>
                  rw [hfl] at g2
                  have := je_fn (pos := pos) (p := p0) fa C.gu (C.glo hg) g1 (allFr (sound c n) C g2) g3
                  rw [show fnOwn c x - 4 + 4 = fnOwn c x by omega]
                  exact this
              · omega
            · rw [if_neg h4]
              by_cases h5 : fnOwn c x = 3
              · rw [if_pos h5]
                have e3 : kE c (n + 1) a sc (.Call g as kws pos) = 3 := by
                  unfold kE
                  dsimp only
                  rw [hs]
                  dsimp only
                  rw [hc]
                  dsimp only
                  rw [hf]
                  dsimp only
                  rw [if_pos hb, h5]
                  rfl
                rw [e3] at base
                exact base.lv
              · rw [if_neg h5]; exact zero
        | _ => exact zero
    | _ => exact lev
end Dv
/-! Dv16: statements. -/
namespace Dv
open PySem PySem.Spec PyProof.Rows L2
variable {X : Cx} {W : Wi} {K : PySem.W.Frag} {F F' F0 F1 B H H' H1 : Hp} {v : V} {d : D} {k : Nat} {σ : L2.St} {δ : Env} {pins : List (Addr × Obj)} {s : Shared} {Q : VK} {e tg a1 b1 : Expr} {a : List Bool} {f fa fb : DE} {pos p : Pos} {c : Cfg} {n : Nat} {sc : Scope} {o : Nat}

/-! ### freezing slots -/
theorem SI.ext {b : List Bool} (S : SI K F0 B F H σ a δ) (h : ∀ i, own a i = own b i) (h2 : ∀ i, old b i = true → old a i = true) (h3 : ∀ i, nw1 b i = true → nw1 a i = true) : SI K F0 B F H σ b δ :=
  ⟨S.len, S.BH, S.FH, S.F0F, S.new, fun i d e => by rw [← h i]; exact S.sl i d e, fun i j d e p oi oj => S.dj i j d e p (by rw [h i]; exact oi) (by rw [h j]; exact oj), fun i d o e => by rw [← h i]; exact S.ol i d (h2 i o) e, fun i d o e => by rw [← h i]; exact S.nf i d (h3 i o) e⟩
theorem SI.old_d (S : SI K F0 B F H σ a δ) {i : Nat} : ∀ (j : Nat) (d : D), old (drp a i) j = true → δ[j]? = some (some d) → own (drp a i) j = false ∧ ∃ v, σ[j]? = some (some v) ∧ Rp K (inter F B) v d := fun j d o e => by
  rw [old_drp] at o
  obtain ⟨g1, g2⟩ := S.ol j d o e
  refine ⟨?_, g2⟩
  cases z : own (drp a i) j with
  | false => rfl
  | true => rw [(own_drp _ _ _ z).1] at g1; cases g1
def drps (a : List Bool) : List Nat → List Bool
  | [] => a
  | v :: vs => drp (drps a vs) v
theorem own_drps : ∀ (vs : List Nat) (i : Nat), own (drps a vs) i = true → own a i = true ∧ i ∉ vs
  | [], i, h => ⟨h, by simp⟩
  | v :: vs, i, h => by
    obtain ⟨h1, h2⟩ := own_drp _ _ _ h
    obtain ⟨h3, h4⟩ := own_drps vs i h1
    exact ⟨h3, by simp only [List.mem_cons, not_or]; exact ⟨h2, h4⟩⟩
theorem own_drps_ne : ∀ (vs : List Nat) (i : Nat), own (drps a vs) i = false → own a i = false ∨ i ∈ vs
  | [], i, h => .inl h
  | v :: vs, i, h => by
    rcases own_drp_ne _ _ _ h with h1 | h1
    · rcases own_drps_ne vs i h1 with h2 | h2
      · exact .inl h2
      · exact .inr (List.mem_cons_of_mem _ h2)
    · exact .inr (by rw [h1]; exact List.mem_cons_self ..)
theorem old_drps : ∀ (vs : List Nat) (i : Nat), old (drps a vs) i = old a i
  | [], _ => rfl
  | v :: vs, i => by show old (drp (drps a vs) v) i = _; rw [old_drp, old_drps vs i]
theorem nw_drps : ∀ (vs : List Nat) (i : Nat), nw1 (drps a vs) i = nw1 a i
  | [], _ => rfl
  | v :: vs, i => by show nw1 (drp (drps a vs) v) i = _; rw [nw_drp, nw_drps vs i]
theorem SI.drop1 (S : SI K F0 B F H σ a δ) (i : Nat) : ∃ F', Same F F' ∧ SI K F0 B F' H σ (drp a i) δ := by
  have triv : (own a i = true → ∀ d, δ[i]? = some (some d) → isOb d = false ∧ ∃ v, σ[i]? = some (some v) ∧ Rp K F v d) → ∃ F', Same F F' ∧ SI K F0 B F' H σ (drp a i) δ := fun h => by
    refine ⟨F, Same.refl F, S.len, S.BH, S.FH, S.F0F, S.new, fun j d e => ?_, fun x y d1 d2 p ox oy => S.dj x y d1 d2 p (own_drp _ _ _ ox).1 (own_drp _ _ _ oy).1, S.old_d, fun j d o e => ?_⟩
    · obtain ⟨v, e2, g1, g2⟩ := S.sl j d e
      refine ⟨v, e2, fun z => g1 (own_drp _ _ _ z).1, fun z => ?_⟩
      cases q : own a j with
      | false => exact g2 q
      | true =>
        rcases own_drp_ne _ _ _ z with z | z
        · rw [q] at z; cases z
        · subst z
          obtain ⟨_, w, e3, r⟩ := h q d e
          rw [e2] at e3
          cases e3
          exact r
    · rw [nw_drp] at o
      obtain ⟨v, g1, g2⟩ := S.nf j d o e
      refine ⟨v, g1, fun p ob e2 => ⟨(g2 p ob e2).1, fun z => (g2 p ob e2).2 ?_⟩⟩
      cases q : own a j with
      | false => rfl
      | true =>
        rcases own_drp_ne _ _ _ z with z | z
        · rw [q] at z; cases z
        · subst z
          rw [(h q d e).1] at ob
          cases ob
  cases ho : own a i with
  | false => exact triv fun z => by rw [ho] at z; cases z
  | true =>
    cases hd : δ[i]? with
    | none => exact triv fun _ d z => by rw [hd] at z; cases z
    | some od =>
      cases od with
      | none => exact triv fun _ d z => by rw [hd] at z; cases z
      | some d =>
        obtain ⟨v, e2, g1, _⟩ := S.sl i d hd
        have g := g1 ho
        cases od : isOb d with
        | true =>
          obtain ⟨p, u, rfl, fp, bp, hp, r⟩ := g.ob od
          have sn := same_new (o := u) fp
          refine ⟨upd F p u, sn, S.len, S.BH, same_upd_to S.FH hp, S.F0F.trans sn, S.new.trans (New.upd bp), fun j x e => ?_, fun x y d1 d2 p ox oy => S.dj x y d1 d2 p (own_drp _ _ _ ox).1 (own_drp _ _ _ oy).1, fun j x o e => (by obtain ⟨g1, v, g2, g3⟩ := S.old_d j x o e; exact ⟨g1, v, g2, Rp.mono (inter_mono sn) _ _ g3⟩), fun j x o e => ?_⟩
          · obtain ⟨w, e3, w1, w2⟩ := S.sl j x e
            refine ⟨w, e3, fun z => ?_, fun z => ?_⟩
            · obtain ⟨z, nz⟩ := own_drp _ _ _ z
              have g := w1 z
              cases ox : isOb x with
              | true =>
                obtain ⟨q, ys, rfl, fq, bq, hq, rq⟩ := g.ob ox
                have ne : q ≠ p := fun z2 => nz (S.dj j i x d p z ho ox od e hd (by rw [← z2]; exact e3) e2)
                exact .of ox ⟨q, ys, rfl, by rw [upd_ne ne]; exact fq, bq, hq, rq.mono sn⟩
              | false => exact .ofNo ox (Rp.mono sn _ _ (g.no ox))
            · rcases own_drp_ne _ _ _ z with z | z
              · exact Rp.mono sn _ _ (w2 z)
              · subst z
                rw [hd] at e
                cases e
                rw [e2] at e3
                cases e3
                exact (r.mono sn).rp upd_same
          · rw [nw_drp] at o
            obtain ⟨w, e3, w1⟩ := S.nf j x o e
            refine ⟨w, e3, fun q ob e4 => ⟨(w1 q ob e4).1, fun z => ?_⟩⟩
            rcases own_drp_ne _ _ _ z with z | z
            · obtain ⟨u2, g3, g4⟩ := (w1 q ob e4).2 z
              exact ⟨u2, sn _ _ g3, g4.mono sn⟩
            · subst z
              rw [hd] at e
              cases e
              rw [e2] at e3
              cases e3
              cases e4
              exact ⟨u, upd_same, r.mono sn⟩
        | false => exact triv fun _ d z => by rw [hd] at z; cases z; exact ⟨od, v, e2, g.no od⟩
theorem SI.drops (S : SI K F0 B F H σ a δ) : ∀ l : List Nat, ∃ F', Same F F' ∧ SI K F0 B F' H σ (drps a l) δ
  | [] => ⟨F, Same.refl F, S⟩
  | i :: l => by
    obtain ⟨F1, e1, S1⟩ := SI.drops S l
    obtain ⟨F2, e2, S2⟩ := S1.drop1 i
    exact ⟨F2, e1.trans e2, S2⟩
def leA (b a : List Bool) : Bool := (List.range b.length).all fun i => !bit b i || bit a i
theorem leA_bit {b : List Bool} (h : leA b a = true) (i : Nat) (o : bit b i = true) : bit a i = true := by
  by_cases hi : i < b.length
  · have := List.all_eq_true.mp h i (List.mem_range.mpr hi)
    rw [o] at this
    simpa using this
  · unfold bit at o
    rw [List.getD_eq_getElem?_getD, List.getElem?_eq_none (by omega)] at o
    cases o
theorem leA_of {b : List Bool} (h : leA b a = true) (i : Nat) (o : own b i = true) : own a i = true := leA_bit h _ o
/-- fewer are the def's own -/
theorem SI.less {b : List Bool} (S : SI K F0 B F H σ a δ) (h : leA b a = true) : ∃ F', Same F F' ∧ SI K F0 B F' H σ b δ := by
  obtain ⟨F', e, S'⟩ := S.drops ((List.range a.length).filter fun i => own a i && !own b i)
  refine ⟨F', e, S'.ext (fun i => ?_) (fun i o => by rw [old_drps]; exact leA_bit h _ o) fun i o => by rw [nw_drps]; exact leA_bit h _ o⟩
  cases q : own (drps a ((List.range a.length).filter fun i => own a i && !own b i)) i with
  | true =>
    obtain ⟨h1, h2⟩ := own_drps _ _ q
    have hi : i < a.length := by
      apply Classical.byContradiction
      intro hi
      unfold own bit at h1
      rw [List.getD_eq_getElem?_getD, List.getElem?_eq_none (by omega)] at h1
      cases h1
    cases z : own b i with
    | true => rfl
    | false =>
      exfalso
      apply h2
      rw [List.mem_filter]
      exact ⟨List.mem_range.mpr hi, by rw [h1, z]; rfl⟩
  | false =>
    cases z : own b i with
    | false => rfl
    | true =>
      have h1 := leA_of h i z
      rcases own_drps_ne _ _ q with h2 | h2
      · rw [h1] at h2; cases h2
      · rw [List.mem_filter] at h2
        rw [z] at h2
        simp at h2

/-! ### an object of the def's own changes -/
theorem SI.changeO (S : SI K F0 B F H σ a δ) {i : Nat} {p : Addr} {d d' : D} {u' : HO} (oi : own a i = true) (od : isOb d = true) (hd : δ[i]? = some (some d)) (hs : σ[i]? = some (some (.ref p))) (r : Ob K F u' d') :
    SI K F0 B F (upd H p u') σ a (δ.set i (some d')) := by
  obtain ⟨v, e, g, _⟩ := S.sl i _ hd
  rw [hs] at e
  cases e
  obtain ⟨q, xs, eq, fp, bp, hp, _⟩ := (g oi).ob od
  cases eq
  have hl : i < δ.length := (List.getElem?_eq_some_iff.mp hd).1
  have up : ∀ {b x}, F b = some x → b ≠ p := fun z => ne_of_none z fp
  refine ⟨by rw [List.length_set]; exact S.len, fun b x z => ?_, fun b x z => ?_, S.F0F, S.new, fun j x z => ?_, fun x y d1 d2 q ox oy b1 b2 hx hy sx sy => ?_, fun j x o z => ?_, fun j x o z => ?_⟩
  · rw [upd_ne (ne_of_none z bp)]; exact S.BH b x z
  · rw [upd_ne (up z)]; exact S.FH b x z
  · by_cases hj : i = j
    · subst hj
      rw [List.getElem?_set_self hl] at z
      cases z
      exact ⟨_, hs, fun _ => .of r.isOb ⟨p, u', rfl, fp, bp, upd_same, r⟩, fun z => by rw [oi] at z; cases z⟩
    · rw [List.getElem?_set_ne hj] at z
      obtain ⟨w, e2, g1, g2⟩ := S.sl j x z
      refine ⟨w, e2, fun oj => ?_, g2⟩
      have g := g1 oj
      cases ox : isOb x with
      | true =>
        obtain ⟨q, ys, rfl, fq, bq, hq, rq⟩ := g.ob ox
        have ne : q ≠ p := fun z2 => hj (S.dj i j d x p oi oj od ox hd z hs (by rw [e2, z2]))
        exact .of ox ⟨q, ys, rfl, fq, bq, by rw [upd_ne ne]; exact hq, rq⟩
      | false => exact .ofNo ox (g.no ox)
  · have fix : ∀ {z : Nat} {x : D}, isOb x = true → (δ.set i (some d'))[z]? = some (some x) → ∃ x', isOb x' = true ∧ δ[z]? = some (some x') := fun {z x} ox h => by
      by_cases hz : i = z
      · subst hz; exact ⟨_, od, hd⟩
      · rw [List.getElem?_set_ne hz] at h; exact ⟨x, ox, h⟩
    obtain ⟨d1', c1, h1⟩ := fix b1 hx
    obtain ⟨d2', c2, h2⟩ := fix b2 hy
    exact S.dj x y d1' d2' q ox oy c1 c2 h1 h2 sx sy
  · by_cases hj : i = j
    · subst hj
      obtain ⟨g1, _⟩ := S.ol i d o hd
      rw [oi] at g1
      cases g1
    · rw [List.getElem?_set_ne hj] at z
      exact S.ol j x o z
  · by_cases hj : i = j
    · subst hj
      exact ⟨_, hs, fun q _ e => ⟨by cases e; exact bp, fun z => by rw [oi] at z; cases z⟩⟩
    · rw [List.getElem?_set_ne hj] at z
      exact S.nf j x o z
theorem SI.change (S : SI K F0 B F H σ a δ) {i : Nat} {p : Addr} {ds ds' : List D} {xs' : List V} (oi : own a i = true) (hd : δ[i]? = some (some (.list ds))) (hs : σ[i]? = some (some (.ref p))) (r : Rps K F xs' ds') :
    SI K F0 B F (upd H p (.lst xs')) σ a (δ.set i (some (.list ds'))) := S.changeO oi rfl hd hs (.lst r)
/-- a slot set to what is new -/
theorem SI.setO {Fs Hs : Hp} (Ss : SI K F0 B Fs Hs σ a δ) (S : SI K F0 B F H σ a δ) {i : Nat} (ho : own (stO a i) i = true) (r : Ow K Hs F H v d) : SI K F0 B F H (σ.set i (some v)) (stO a i) (δ.set i (some d)) := by
  have rB : Ow K B F H v d := Ow.early Ss.BH r
  have apart : ∀ (j : Nat) (x : D) (p : Addr), own a j = true → isOb x = true → isOb d = true → δ[j]? = some (some x) → σ[j]? = some (some (.ref p)) → v = .ref p → False := fun j x p oj ox od hd hs e2 => by
    subst e2
    obtain ⟨q, xs, e, _, np, _, _⟩ := r.ob od
    cases e
    obtain ⟨w, e3, g, _⟩ := Ss.sl j _ hd
    rw [hs] at e3
    cases e3
    obtain ⟨q2, ys, e, _, _, hq, _⟩ := (g oj).ob ox
    cases e
    rw [np] at hq
    cases hq
  refine ⟨by rw [List.length_set, List.length_set]; exact S.len, S.BH, S.FH, S.F0F, S.new, fun j x z => ?_, fun x y d1 d2 q ox oy b1 b2 hx hy sx sy => ?_, fun j x oo z => ?_, fun j x oo z => ?_⟩
  · by_cases hj : i = j
    · subst hj
      have hl : i < δ.length := by
        have := (List.getElem?_eq_some_iff.mp z).1
        rw [List.length_set] at this
        exact this
      rw [List.getElem?_set_self hl] at z
      cases z
      exact ⟨v, List.getElem?_set_self (by rw [S.len]; exact hl), fun _ => rB, fun z => by rw [ho] at z; cases z⟩
    · rw [List.getElem?_set_ne hj] at z
      obtain ⟨w, e2, g1, g2⟩ := S.sl j x z
      refine ⟨w, by rw [List.getElem?_set_ne hj]; exact e2, fun oj => ?_, fun oj => g2 (own_false _ _ _ ho oj).1⟩
      rcases own_true _ _ _ oj with z2 | z2
      · exact absurd z2.symm hj
      · exact g1 z2
  · have at_i : ∀ {z : Nat}, own (stO a i) z = true → z = i ∨ (z ≠ i ∧ own a z = true) := fun {z} h => by
      by_cases e : z = i
      · exact .inl e
      · exact .inr ⟨e, (own_true _ _ _ h).resolve_left e⟩
    have self : ∀ {z : Nat} {dz : D} {q : Addr}, z = i → (δ.set i (some d))[z]? = some (some dz) → (σ.set i (some v))[z]? = some (some (.ref q)) → d = dz ∧ v = .ref q := fun {z dz q} e h1 h2 => by
      subst e
      have hl : z < δ.length := by
        have := (List.getElem?_eq_some_iff.mp h1).1
        rw [List.length_set] at this
        exact this
      rw [List.getElem?_set_self hl] at h1
      rw [List.getElem?_set_self (by rw [S.len]; exact hl)] at h2
      cases h1; cases h2
      exact ⟨rfl, rfl⟩
    rcases at_i ox with ex | ⟨nx, ox⟩
    · rcases at_i oy with ey | ⟨ny, oy⟩
      · rw [ex, ey]
      · obtain ⟨e1, e2⟩ := self ex hx sx
        rw [List.getElem?_set_ne (fun z => ny z.symm)] at hy sy
        exact (apart y d2 q oy b2 (by rw [e1]; exact b1) hy sy e2).elim
    · rcases at_i oy with ey | ⟨ny, oy⟩
      · obtain ⟨e1, e2⟩ := self ey hy sy
        rw [List.getElem?_set_ne (fun z => nx z.symm)] at hx sx
        exact (apart x d1 q ox b1 (by rw [e1]; exact b2) hx sx e2).elim
      · rw [List.getElem?_set_ne (fun z => nx z.symm)] at hx sx
        rw [List.getElem?_set_ne (fun z => ny z.symm)] at hy sy
        exact S.dj x y d1 d2 q ox oy b1 b2 hx hy sx sy
  · obtain ⟨o1, ne⟩ := old_stO _ _ _ oo
    rw [List.getElem?_set_ne (fun z => ne z.symm)] at z
    obtain ⟨g1, w, g2, g3⟩ := S.ol j x o1 z
    refine ⟨?_, w, by rw [List.getElem?_set_ne (fun z => ne z.symm)]; exact g2, g3⟩
    cases q : own (stO a i) j with
    | false => rfl
    | true =>
      rcases own_true _ _ _ q with e | e
      · exact absurd e ne
      · rw [e] at g1; cases g1
  · by_cases hj : i = j
    · subst hj
      have hl : i < δ.length := by
        have := (List.getElem?_eq_some_iff.mp z).1
        rw [List.length_set] at this
        exact this
      rw [List.getElem?_set_self hl] at z
      cases z
      refine ⟨v, List.getElem?_set_self (by rw [S.len]; exact hl), fun p ob e => ⟨?_, fun z => by rw [ho] at z; cases z⟩⟩
      obtain ⟨q, u, e2, _, bq, _⟩ := rB.ob ob
      rw [e] at e2
      cases e2
      exact bq
    · rw [List.getElem?_set_ne hj] at z
      rcases nw_stO _ _ _ oo with e | e
      · exact absurd e.symm hj
      · obtain ⟨w, g2, g3⟩ := S.nf j x e z
        exact ⟨w, by rw [List.getElem?_set_ne hj]; exact g2, fun p ob e => ⟨(g3 p ob e).1, fun z => (g3 p ob e).2 (own_false _ _ _ ho z).1⟩⟩
/-! ### a slot whose value is newer than B -/
def nwS (a : List Bool) (i : Nat) : List Bool := a.set (4 * i + 2) true
theorem own_nwS (i j : Nat) : own (nwS a i) j = own a j := bit_ne _ _ _ _ (by omega)
theorem old_nwS (i j : Nat) : old (nwS a i) j = old a j := bit_ne _ _ _ _ (by omega)
theorem nw_nwS (i j : Nat) (h : nw1 (nwS a i) j = true) : j = i ∨ nw1 a j = true := by
  by_cases e : j = i
  · exact .inl e
  · right
    unfold nw1 nwS at h
    rw [bit_ne _ _ _ _ (by omega)] at h
    exact h
theorem SI.addN (S : SI K F0 B F H σ a δ) {i : Nat} (h : ∀ d, δ[i]? = some (some d) → ∃ v, σ[i]? = some (some v) ∧ Nw K B F 1 v d) : SI K F0 B F H σ (nwS a i) δ where
  len := S.len
  BH := S.BH
  FH := S.FH
  F0F := S.F0F
  new := S.new
  sl := fun j d e => by rw [own_nwS]; exact S.sl j d e
  dj := fun j l d e p oj ol => by rw [own_nwS] at oj ol; exact S.dj j l d e p oj ol
  ol := fun j d o e => by rw [old_nwS] at o; rw [own_nwS]; exact S.ol j d o e
  nf := fun j d o e => by
    rw [own_nwS]
    rcases nw_nwS i j o with z | z
    · subst z
      obtain ⟨v, g1, g2⟩ := h d e
      exact ⟨v, g1, fun p ob ev => ⟨(g2.top ob ev).1, fun _ => (g2.top ob ev).2⟩⟩
    · exact S.nf j d z e
theorem SI.setN (S : SI K F0 B F H σ a δ) {i : Nat} (r : Rp K F v d) (w : Nw K B F 1 v d) : SI K F0 B F H (σ.set i (some v)) (nwS (stF a i) i) (δ.set i (some d)) := (S.setF r).addN fun x e => by
  have hl : i < δ.length := by
    have := (List.getElem?_eq_some_iff.mp e).1
    rw [List.length_set] at this
    exact this
  rw [List.getElem?_set_self hl] at e
  cases e
  exact ⟨v, List.getElem?_set_self (by rw [S.len]; exact hl), w⟩
/-- a slot set to what is of a kind: frozen, new, frozen and newer than B -/
def stK (a : List Bool) (i k : Nat) : List Bool := if k = 3 then stO a i else if k = 5 then nwS (stF a i) i else stF a i
def isP (k : Nat) : Bool := k == 2 || k == 3 || k == 5
theorem SI.setP {Fs Hs : Hp} (Ss : SI K F0 B Fs Hs σ a δ) (S : SI K F0 B F H σ a δ) {i : Nat} (hk : isP k = true) (ho : (k == 3) = true → own (stO a i) i = true) (r : Res K k B Hs F H v d) : SI K F0 B F H (σ.set i (some v)) (stK a i k) (δ.set i (some d)) := by
  unfold isP at hk
  simp only [Bool.or_eq_true, beq_iff_eq] at hk
  rcases hk with (rfl | rfl) | rfl
  · exact S.setF r
  · exact Ss.setO S (ho rfl) r
  · exact S.setN r.1 r.2
end Dv
/-! Dv17: statements: the rules. -/
namespace Dv
open PySem PySem.Spec PyProof.Rows L2
variable {X : Cx} {W : Wi} {K : PySem.W.Frag} {F F' F0 F1 B H H' H1 : Hp} {v : V} {d : D} {k : Nat} {σ : L2.St} {δ : Env} {pins : List (Addr × Obj)} {s : Shared} {Q : VK} {e tg a1 b1 : Expr} {a b : List Bool} {f fa fb : DE} {pos p : Pos} {c : Cfg} {n : Nat} {sc : Scope} {o : Nat} {D : Ends}

/-- what is the def's own behind a statement: going on, broken off, turned -/
structure KR where
  nx : List Bool
  bk : List Bool
  ct : List Bool
def OutOk (K : PySem.W.Frag) (o : Nat) (F0 B : Hp) (r : KR) (D : Ends) : Out → Prop
  | .nx δ' => ∀ σ' F' H', SI K F0 B F' H' σ' r.nx δ' → D.nx σ' H'
  | .bk δ' => ∀ σ' F' H', SI K F0 B F' H' σ' r.bk δ' → D.bk σ' H'
  | .ct δ' => ∀ σ' F' H', SI K F0 B F' H' σ' r.ct δ' → D.ct σ' H'
  | .rt d => ∀ v F' H', Same F0 F' → Same B H' → Same F' H' → New B F0 F' → Res K o B B F' H' v d → D.rt v H'
  | .err _ _ => False
  | .bad => False
def tJS (K : PySem.W.Frag) (o : Nat) (a : List Bool) (r : KR) (f : DS) : TS := fun D σ H => ∃ F0 B F δ, SI K F0 B F H σ a δ ∧ OutOk K o F0 B r D (f δ)
def JS (X : Cx) (o : Nat) (a : List Bool) (st : Stmt) (r : KR) (f : DS) : Prop := PS X st (tJS X.K o a r f)
def JSs (X : Cx) (o : Nat) (a : List Bool) (st : List Stmt) (r : KR) (f : DS) : Prop := PSs X st (tJS X.K o a r f)
def KR.le (r r' : KR) : Prop := leA r'.nx r.nx = true ∧ leA r'.bk r.bk = true ∧ leA r'.ct r.ct = true
theorem OutOk.less {r r' : KR} (h : r.le r') {D : Ends} : ∀ {x : Out}, OutOk K o F0 B r' D x → OutOk K o F0 B r D x
  | .nx δ, q => fun σ' F' H' S => by obtain ⟨F2, _, S2⟩ := S.less h.1; exact q σ' F2 H' S2
  | .bk δ, q => fun σ' F' H' S => by obtain ⟨F2, _, S2⟩ := S.less h.2.1; exact q σ' F2 H' S2
  | .ct δ, q => fun σ' F' H' S => by obtain ⟨F2, _, S2⟩ := S.less h.2.2; exact q σ' F2 H' S2
  | .rt d, q => q
  | .err _ _, q => q
  | .bad, q => q
variable {st : Stmt} {sts : List Stmt} {r r' : KR} {g : DS}
theorem JS.less (h : JS X o a st r g) (hl : r.le r') : JS X o a st r' g := h.imp fun D σ H ⟨F0, B, F, δ, S, q⟩ => ⟨F0, B, F, δ, S, q.less hl⟩
theorem JSs.less (h : JSs X o a sts r g) (hl : r.le r') : JSs X o a sts r' g := h.imp fun D σ H ⟨F0, B, F, δ, S, q⟩ => ⟨F0, B, F, δ, S, q.less hl⟩
/-- first some slots are frozen -/
theorem JS.pre (h : JS X o b st r g) (hl : leA b a = true) : JS X o a st r g := h.imp fun D σ H ⟨F0, B, F, δ, S, q⟩ => by
  obtain ⟨F', _, S'⟩ := S.less hl
  exact ⟨F0, B, F', δ, S', q⟩
theorem js_bad (h : ∀ δ, g δ = .bad) : JS X o a st r g := ps_never.imp fun D σ H ⟨F0, B, F, δ, S, q⟩ => by rw [h δ] at q; exact q
theorem OutOk.ofR {α : Type} {x : R α} {k : α → Out} (h : OutOk K o F0 B r D (Dv.ofR x k)) : ∃ y, x = .ok y ∧ OutOk K o F0 B r D (k y) := by
  cases x with
  | ok y => exact ⟨y, rfl, h⟩
  | err c i => exact h.elim
  | bad => exact h.elim
theorem Ans.of_ok {α : Type} {x : R α} {y : α} {k : α → Prop} {e : Str → Int → Prop} (h : x = .ok y) (q : k y) : Ans x k e := by subst h; exact q

/-! ### small statements -/
theorem js_pass {q : Pos} (h : r.nx = a) : JS X o a (.Pass q) r sPass := ps_pass.imp fun D σ H ⟨F0, B, F, δ, S, q⟩ => q σ F H (by rw [h]; exact S)
theorem js_brk {q : Pos} (h : r.bk = a) : JS X o a (.Break q) r sBrk := ps_break.imp fun D σ H ⟨F0, B, F, δ, S, q⟩ => q σ F H (by rw [h]; exact S)
theorem js_cnt {q : Pos} (h : r.ct = a) : JS X o a (.Continue q) r sCnt := ps_continue.imp fun D σ H ⟨F0, B, F, δ, S, q⟩ => q σ F H (by rw [h]; exact S)
theorem js_doc {x : Str} {j : Nat} {q q' : Pos} (h : r.nx = a) : JS X o a (.Expr (.Constant (.str x) j q) q') r sPass := ps_doc.imp fun D σ H ⟨F0, B, F, δ, S, q⟩ => q σ F H (by rw [h]; exact S)
theorem js_drop {q : Pos} (he : JE X wi0 a e f 0) (hs : swapsWith e none q.line X.env = pure false) (h : r.nx = a) : JS X o a (.Expr e q) r (sDrop f) := (ps_expr he hs).imp fun D σ H ⟨F0, B, F, δ, S, q⟩ => by
  obtain ⟨d, e1, q⟩ := q.ofR
  exact ⟨F0, B, F, δ, S, Ans.of_ok e1 fun v F' H' S' _ _ _ _ => q σ F' H' (by rw [h]; exact S')⟩
theorem js_retN {q : Pos} : JS X o a (.Return none q) r sRetN := ps_retN.imp fun D σ H ⟨F0, B, F, δ, S, q⟩ => q .non F H S.F0F S.BH S.FH S.new (Res.no rfl Rp.non)
theorem js_retO {q : Pos} (he : JE X wi0 a e f 1) : JS X 3 a (.Return (some e) q) r (sRet f) := (ps_ret he).imp fun D σ H ⟨F0, B, F, δ, S, q⟩ => by
  obtain ⟨d, e1, q⟩ := q.ofR
  exact ⟨F0, B, F, δ, S, Ans.of_ok e1 fun v F' H' S' _ _ _ r => q v F' H' S'.F0F S'.BH S'.FH S'.new r⟩
theorem js_retF {q : Pos} (he : JE X wi0 a e f 2) : JS X 2 a (.Return (some e) q) r (sRet f) := (ps_ret he).imp fun D σ H ⟨F0, B, F, δ, S, q⟩ => by
  obtain ⟨d, e1, q⟩ := q.ofR
  exact ⟨F0, B, F, δ, S, Ans.of_ok e1 fun v F' H' S' _ _ _ r => q v F' H' S'.F0F S'.BH S'.FH S'.new r⟩
theorem js_retL {q : Pos} {m : Nat} (he : JE X wi0 a e f (m + 4)) : JS X (m + 4) a (.Return (some e) q) r (sRet f) := (ps_ret he).imp fun D σ H ⟨F0, B, F, δ, S, q⟩ => by
  obtain ⟨d, e1, q⟩ := q.ofR
  exact ⟨F0, B, F, δ, S, Ans.of_ok e1 fun v F' H' S' _ _ _ r => q v F' H' S'.F0F S'.BH S'.FH S'.new r⟩
theorem js_if {q : Pos} {t : DT} {s1 s2 : List Stmt} {g1 g2 : DS} (ht : JT X wi0 a e t) (h1 : JSs X o a s1 r g1) (h2 : JSs X o a s2 r g2) : JS X o a (.If e s1 s2 q) r (sIf t g1 g2) := (ps_if ht h1 h2).imp fun D σ H ⟨F0, B, F, δ, S, q⟩ => by
  obtain ⟨b, e1, q⟩ := q.ofR
  refine ⟨F0, B, F, δ, S, Ans.of_ok e1 fun F' H' S' _ _ _ => ?_⟩
  cases b with
  | true => exact ⟨F0, B, F', δ, S', q⟩
  | false => exact ⟨F0, B, F', δ, S', q⟩
/-! ### blocks -/
theorem jss_nil (h : r.nx = a) : JSs X o a [] r (sSeq []) := pss_nil.imp fun D σ H ⟨F0, B, F, δ, S, q⟩ => q σ F H (by rw [h]; exact S)
theorem jss_one (h : JS X o a st r g) : JSs X o a [st] r (sSeq [g]) := pss_one h
theorem jss_cons {gs : List DS} {g2 : DS} {st2 : Stmt} {sts : List Stmt} {r1 r2 : KR} (h : JS X o a st r1 g) (t : JSs X o r1.nx (st2 :: sts) r2 (sSeq (g2 :: gs))) (hb : r1.bk = r.bk) (hb2 : r2.bk = r.bk) (hc : r1.ct = r.ct) (hc2 : r2.ct = r.ct) (hn : r2.nx = r.nx) :
    JSs X o a (st :: st2 :: sts) r (sSeq (g :: g2 :: gs)) := (pss_cons h t).imp fun D σ H ⟨F0, B, F, δ, S, q⟩ => by
  refine ⟨F0, B, F, δ, S, ?_⟩
  have q : OutOk X.K o F0 B r D (andThen (g δ) (sSeq (g2 :: gs))) := q
  revert q
  cases g δ with
  | nx δ' =>
    intro q σ' F' H' S'
    refine ⟨F0, B, F', δ', S', ?_⟩
    have e : r2 = r := by cases r2; cases r; simp_all
    rw [e]
    exact q
  | bk δ' => intro q σ' F' H' S'; rw [hb] at S'; exact q σ' F' H' S'
  | ct δ' => intro q σ' F' H' S'; rw [hc] at S'; exact q σ' F' H' S'
  | rt d => exact fun q => q
  | err _ _ => exact fun q => q
  | bad => exact fun q => q

/-! ### assignments -/
theorem js_asgF {q : Pos} {ts : List Nat} {gt : TF} (he : JE X wi0 a e f 2) (hg : JG X a tg gt ts) (hs : swapsWithSole [tg] e q.line X.env = pure false) (hw : swappedStores [tg] e X.env = pure none) (hp : plainT tg = true) (h : r.nx = clr a ts) :
    JS X o a (.Assign [tg] e q) r (sAsg gt f) := (ps_asg he hg hs hw (by cases tg <;> first | rfl | cases hp)).imp fun D σ H ⟨F0, B, F, δ, S, q⟩ => by
  obtain ⟨d, e1, q⟩ := q.ofR
  obtain ⟨δ', e2, q⟩ := q.ofR
  exact ⟨F0, B, F, δ, S, Ans.of_ok e1 fun v F' H' S' _ _ _ rv => ⟨F0, B, F', δ, d, S', rv, Ans.of_ok e2 fun σ' S2 _ _ => q σ' F' H' (by rw [h]; exact S2)⟩⟩
theorem tJ_set {i : Nat} (ho : own (stO a i) i = true) (h : r.nx = stO a i) {te : TE} (ht : ∀ σ H Q, tJ X.K wi0 a f 3 σ H Q → te σ H Q) {D : Ends} {σ : L2.St} {H : Hp} (q : tJS X.K o a r (sAsg (gNm i) f) D σ H) : tAsg te (gName i) D σ H := by
  obtain ⟨F0, B, F, δ, S, q⟩ := q
  obtain ⟨d, e1, q⟩ := q.ofR
  refine ht σ H _ ⟨F0, B, F, δ, S, Ans.of_ok e1 fun v F' H' S' _ _ _ rv => ?_⟩
  exact q _ F' H' (by rw [h]; exact S.setO S' ho rv)
theorem js_asgO {q : Pos} {i : Nat} {x : Str} {px : Pos} (he : JE X wi0 a e f 3) (nd : X.N.Nodup) (hi : X.N[i]? = some x) (hx : Loc X.env.scope x) (hf : X.fn x = true ∨ X.env.scope.names.lookup x = some .local) (hs : swapsWith e (some (.Name x px)) q.line X.env = pure false)
    (ho : own (stO a i) i = true) (h : r.nx = stO a i) : JS X o a (.Assign [.Name x px] e q) r (sAsg (gNm i) f) := (ps_set nd hi hx he hs hf).imp fun D σ H q => tJ_set ho h (fun _ _ _ z => z) q

/-! ### x.append(e), x[i] = e -/
theorem js_app {q apos px : Pos} {i : Nat} {x : Str} (he : JE X wi0 a e f 2) (hp : plainE e = true) (hi : X.N[i]? = some x) (hv : Vis X.env.scope x) (hd : notDbg x = true) (hl : (apos.endLine == pos.line) = true) (ho : own a i = true) (h : r.nx = a) :
    JS X o a (.Expr (.Call (.Attribute (.Name x px) "append" apos) [e] [] pos) q) r (sApp i f) := by
  have pe := pe_bm (cpos := pos) (apos := apos) (es := []) PySem.F.plainAttrs_list PySem.F.slot_list_append PySem.F.type_list_append mt_append (pe_var (pos := px) hi hv (dbg1 hd) (dbg2 hd)) (ja_all (.cons he .nil) (by simp [hp])) rfl
    (by show ((backTo pos (starEach [e] X.env)).all (fun x => !x.1) && true && decide (1 + 0 + 0 < 30)) = true
        rw [star_all pos (by simp [hp])]; rfl) hl (star_cons hp) rfl
  refine (ps_expr pe rfl).imp fun D σ H ⟨F0, B, F, δ, S, q⟩ => ?_
  obtain ⟨d, e1, q⟩ := q.ofR
  split at q
  · rename_i ds hds
    split at q
    · rename_i hlen
      obtain ⟨v, ev, g1, _⟩ := S.sl i _ hds
      obtain ⟨p, xs, rfl, fp, bp, hpp, rx⟩ := (g1 ho).list
      refine ⟨_, ev, .inl ⟨rfl, xs, SqL.of hpp⟩, F0, B, F, δ, S, ?_⟩
      refine Ans.of_ok (y := [d]) (by unfold evs; rw [e1]; rfl) fun vs F' H' S' e3 e4 n1 rs => ?_
      cases rs with
      | cons rv rs =>
        cases rs
        obtain ⟨w, ew, g2, _⟩ := S'.sl i _ hds
        rw [ev] at ew
        cases ew
        obtain ⟨p2, xs2, eq, fp2, bp2, hp2, rx2⟩ := (g2 ho).list
        cases eq
        refine ⟨p, xs2, _, rfl, rfl, hp2, ?_, ?_⟩
        · rw [rx2.length]
          exact Nat.lt_of_lt_of_le hlen (by decide)
        · exact q σ F' _ (by rw [h]; exact S'.change ho hds ev (rx2.snoc rv))
    · exact q.elim
  · exact q.elim
theorem js_ext {q apos px : Pos} {i : Nat} {x : Str} (he : JE X wi0 a e f 1) (hp : plainE e = true) (hi : X.N[i]? = some x) (hv : Vis X.env.scope x) (hd : notDbg x = true) (hl : (apos.endLine == pos.line) = true) (ho : own a i = true) (h : r.nx = a) :
    JS X o a (.Expr (.Call (.Attribute (.Name x px) "extend" apos) [e] [] pos) q) r (sExt i f) := by
  have pe := pe_bm (cpos := pos) (apos := apos) (es := []) PySem.F.plainAttrs_list PySem.F.slot_list_extend PySem.F.type_list_extend mt_extend (pe_var (pos := px) hi hv (dbg1 hd) (dbg2 hd)) (pa_cons he pa_nil (star_cons hp)) rfl
    (by show ((backTo pos (starEach [e] X.env)).all (fun x => !x.1) && true && decide (1 + 0 + 0 < 30)) = true
        rw [star_all pos (by simp [hp])]; rfl) hl (star_cons hp) rfl
  refine (ps_expr pe rfl).imp fun D σ H ⟨F0, B, F, δ, S, q⟩ => ?_
  obtain ⟨d, e1, q⟩ := q.ofR
  split at q
  · rename_i ds ys hds
    split at q
    · rename_i hlen
      obtain ⟨v, ev, g1, _⟩ := S.sl i _ hds
      obtain ⟨p, xs, rfl, fp, bp, hpp, rx⟩ := (g1 ho).list
      refine ⟨_, ev, .inl ⟨rfl, xs, SqL.of hpp⟩, F0, B, F, δ, S, ?_⟩
      refine Ans.of_ok e1 fun w F' H' S' e3 e4 n1 rw' => ?_
      obtain ⟨p3, ys3, rfl, fp3, np3, hp3, ry⟩ := (show Ow X.K B F' H' w (.list ys) from rw').list
      obtain ⟨w2, ew, g2, _⟩ := S'.sl i _ hds
      rw [ev] at ew
      cases ew
      obtain ⟨p2, xs2, eq, fp2, bp2, hp2, rx2⟩ := (g2 ho).list
      cases eq
      refine ⟨p, p3, xs2, ys3, rfl, rfl, hp2, hp3, ?_, ?_⟩
      · rw [rx2.length, ry.length]
        exact Nat.le_trans hlen (by decide)
      · exact q σ F' _ (by rw [h]; exact S'.change ho hds ev (rx2.append ry))
    · exact q.elim
  · exact q.elim
theorem js_appE {q apos : Pos} {ob : Expr} {fo : DE} (hob : JE X wi0 a ob fo 3) (he : JE X wi0 a e f 2) (hp : plainE e = true) (hb : baseOk ob = true) (hl : (apos.endLine == pos.line) = true) (h : r.nx = a) :
    JS X o a (.Expr (.Call (.Attribute ob "append" apos) [e] [] pos) q) r (sAppE fo f) := by
  have pe := pe_bm (cpos := pos) (apos := apos) (es := []) PySem.F.plainAttrs_list PySem.F.slot_list_append PySem.F.type_list_append mt_append hob (ja_all (.cons he .nil) (by simp [hp])) (base_of hb)
    (by show ((backTo pos (starEach [e] X.env)).all (fun x => !x.1) && true && decide (1 + 0 + 0 < 30)) = true
        rw [star_all pos (by simp [hp])]; rfl) hl (star_cons hp) rfl
  refine (ps_expr pe rfl).imp fun D σ H ⟨F0, B, F, δ, S, q⟩ => ?_
  obtain ⟨d, e1, q⟩ := q.ofR
  obtain ⟨d2, e2, q⟩ := q.ofR
  cases d with
  | list ds =>
    have q : OutOk X.K o F0 B r D (if ds.length < lim then Out.nx δ else Out.bad) := q
    split at q
    · rename_i hlen
      refine ⟨F0, B, F, δ, S, Ans.of_ok e1 fun v F1 H1 S1 e3 e4 n1 rv => ?_⟩
      obtain ⟨p, xs, rfl, fp, np, hp1, rx⟩ := (show Ow X.K H F1 H1 v (.list ds) from rv).list
      refine ⟨.inl ⟨rfl, xs, SqL.of hp1⟩, F0, B, F1, δ, S1, ?_⟩
      refine Ans.of_ok (y := [d2]) (by unfold evs; rw [e2]; rfl) fun vs F2 H2 S2 e5 e6 n2 rs => ?_
      cases rs with
      | cons ru rs =>
        cases rs
        have f2 : F2 p = none := by
          cases z : F2 p with
          | none => rfl
          | some ob =>
            rcases n2 p (by rw [z]; simp) with z2 | z2
            · exact absurd fp z2
            · rw [hp1] at z2; cases z2
        refine ⟨p, xs, _, rfl, rfl, e6 _ _ hp1, ?_, ?_⟩
        · rw [rx.length]
          exact Nat.lt_of_lt_of_le hlen (by decide)
        · exact q σ F2 _ (by rw [h]; exact S2.at_new f2 (S.BH.free np) (S.ownAt np))
    · exact q.elim
  | _ => exact False.elim q
theorem rps_last {F : Hp} {vs : List V} {ds : List Dv.D} {d : Dv.D} (r : Rps K F vs ds) (h : ds[ds.length - 1]? = some d) : (∃ v, vs[vs.length - 1]? = some v ∧ Rp K F v d) ∧ Rps K F vs.dropLast ds.dropLast := by
  have hl := r.length
  refine ⟨?_, ?_⟩
  · rw [hl]; exact r.get h
  · rw [List.dropLast_eq_take, List.dropLast_eq_take, hl]; exact Rps.take _ r
theorem js_pop {q apos px : Pos} {i : Nat} {x : Str} {ts : List Nat} {gt : TF} (hi : X.N[i]? = some x) (hv : Vis X.env.scope x) (hd : notDbg x = true) (hl : (apos.endLine == pos.line) = true) (ho : own a i = true) (hg : JG X a tg gt ts) (hp : plainT tg = true) (h : r.nx = clr a ts)
    (hs : swapsWithSole [tg] (.Call (.Attribute (.Name x px) "pop" apos) [] [] pos) q.line X.env = pure false) (hw : swappedStores [tg] (.Call (.Attribute (.Name x px) "pop" apos) [] [] pos) X.env = pure none) :
    JS X o a (.Assign [tg] (.Call (.Attribute (.Name x px) "pop" apos) [] [] pos) q) r (sPop i gt) :=
  (ps_asg (pe_bm0 (cpos := pos) (apos := apos) PySem.F.plainAttrs_list PySem.F.slot_list_pop PySem.F.type_list_pop mt_pop (pe_var (pos := px) hi hv (dbg1 hd) (dbg2 hd)) rfl hl) hg hs hw (by cases tg <;> first | rfl | cases hp)).imp fun D σ H ⟨F0, B, F, δ, S, q⟩ => by
    have q : OutOk X.K o F0 B r D (sPop i gt δ) := q
    unfold sPop at q
    split at q
    · rename_i ds hds
      split at q
      · rename_i d hlast
        obtain ⟨δ2, e2, q⟩ := q.ofR
        obtain ⟨v, ev, g1, _⟩ := S.sl i _ hds
        obtain ⟨p, xs, rfl, fp, bp, hpp, rx⟩ := (g1 ho).list
        obtain ⟨⟨w, hw1, rw1⟩, rl⟩ := rps_last rx hlast
        refine ⟨_, ev, .inl ⟨rfl, xs, SqL.of hpp⟩, p, xs, w, rfl, rfl, hpp, hw1, F0, B, F, _, d, S.change ho hds ev rl, rw1, ?_⟩
        exact Ans.of_ok e2 fun σ' S2 _ _ => q σ' F _ (by rw [h]; exact S2)
      · exact q.elim
    · exact q.elim
theorem ps_or {st : Stmt} {t u : TS} (h : PS X st t) (h2 : PS X st u) : PS X st (fun D σ H => t D σ H ∨ u D σ H) := ⟨fun pins s σ H D I q => by
  rcases q with q | q
  · exact h.run pins s σ H D I q
  · exact h2.run pins s σ H D I q⟩
theorem js_set {n : Nat} (hr : Room n X.A) {q px : Pos} {i : Nat} {x : Str} {ix : Expr} {fi : DE} (he : JE X wi0 a e f 2) (hix : JE X wi0 a ix fi 0) (hpl : PlainIx ix) (hi : X.N[i]? = some x) (hv : Vis X.env.scope x) (hd : notDbg x = true) (ho : own a i = true) (h : r.nx = a)
    (hs : swapsWithSole [.Subscript (.Name x px) ix pos] e q.line X.env = pure false) (ha : ∀ v, assign (.Subscript (.Name x px) ix pos) X.env v = (do
      let ov ← holding [v] (eval (.Name x px) X.env)
      let iv ← holding [v, ov] (eval ix X.env)
      standAt pos
      holding [v, ov, iv] (setItem ov iv v)
      release [v, ov, iv] [])) : JS X o a (.Assign [.Subscript (.Name x px) ix pos] e q) r (sSet i fi f) := by
  have pg := pg_sub (pos := pos) (pe_var (pos := px) hi hv (dbg1 hd) (dbg2 hd)) hix set_list ha
  have pd := ps_dput (pos := q) (pos' := pos) (by have := hr.units; omega) (pe_var (pos := px) hi hv (dbg1 hd) (dbg2 hd)) hix he hs
  refine (ps_or (ps_asg he pg hs rfl rfl) pd).imp fun D σ H ⟨F0, B, F, δ, S, q⟩ => ?_
  obtain ⟨d, e1, q⟩ := q.ofR
  obtain ⟨y, e2, q⟩ := q.ofR
  split at q
  · rename_i ds hds
    obtain ⟨kk, e3, q3⟩ := q.ofR
    split at q3
    · rename_i j hj
      refine .inl ⟨F0, B, F, δ, S, Ans.of_ok e1 fun v F' H' S' e4 e5 n1 rv => ?_⟩
      obtain ⟨w, ew, g2, _⟩ := S'.sl i _ hds
      refine ⟨w, ew, F0, B, F', δ, S', Ans.of_ok e2 fun u F2 H2 S2 e6 e7 n2 ru => ?_⟩
      have ey : y = .int kk := by
        cases y with
        | int z => cases e3; rfl
        | _ => cases e3
      subst ey
      have ru : Rh X.K F2 H2 u (.int kk) := ru
      cases ru.int_inv
      obtain ⟨w2, ew2, g3, _⟩ := S2.sl i _ hds
      rw [ew] at ew2
      cases ew2
      obtain ⟨p, xs, rfl, fp, bp, hp, rx⟩ := (g3 ho).list
      refine ⟨p, xs, kk, j, rfl, rfl, hp, ?_, ?_⟩
      · rw [← ixZ_eq, rx.length]
        exact hj
      · exact q3 σ F2 _ (by rw [h]; exact S2.change ho hds ew (Rps.set j rx (Rp.mono e6 _ _ rv)))
    · exact q3.elim
  · rename_i kvs hds
    split at q
    · rename_i hk
      obtain ⟨hk, hlen⟩ := and2 hk
      have hlen := of_decide_eq_true hlen
      refine .inr ⟨F0, B, F, δ, S, Ans.of_ok e1 fun v F1 H1 S1 e4 e5 n1 rv => ?_⟩
      obtain ⟨w, ew, g1, _⟩ := S1.sl i _ hds
      refine ⟨w, ew, F0, B, F1, δ, S1, Ans.of_ok e2 fun u F2 H2 S2 e6 e7 n2 ru => ?_⟩
      have ru : Rh X.K F2 H2 u y := ru
      obtain ⟨kk, rfl, rfl, rkk⟩ := key_of_isK hk ru
      obtain ⟨w2, ew2, g3, _⟩ := S2.sl i _ hds
      rw [ew] at ew2
      cases ew2
      obtain ⟨p, ks, rfl, fp, bp, hp, rk⟩ := (g3 ho).dict
      refine ⟨p, _, rfl, DPut.k hp ?_, ?_⟩
      · rw [rk.length]
        exact Nat.lt_of_lt_of_le hlen (by decide)
      · exact q σ F2 _ (by rw [h]; exact S2.changeO ho rfl hds ew (.dct (rk.put (rkk F2) (Rp.mono e6 _ _ rv))))
    · exact q.elim
  · exact q.elim
end Dv
/-! Dv18: loops; a comprehension that is given a name; stores in parallel. -/
namespace Dv
open PySem PySem.Spec PyProof.Rows L2
variable {X : Cx} {W : Wi} {K : PySem.W.Frag} {F F' F0 F1 B H H' H1 : Hp} {v : V} {d : D} {k : Nat} {σ : L2.St} {δ : Env} {pins : List (Addr × Obj)} {s : Shared} {Q : VK} {e tg a1 b1 : Expr} {a b : List Bool} {f fa fb : DE} {pos p : Pos} {c : Cfg} {n : Nat} {sc : Scope} {o : Nat} {D : Ends} {st : Stmt} {sts body : List Stmt} {r r' rb : KR} {g : DS}

theorem js_for {q : Pos} {gt : TF} {ts : List Nat} {di : DI} (hp : PassesOwn (model X.prog X.w) X.A X.env X.xe) (hc : X.calm = true) (hi : JI X wi0 a false tg e di) (hg : JG X a tg gt ts) (hb : JSs X o (clr a ts) body rb g) (hs : ∀ x, foldedSetIterable e X.env x = pure x)
    (h1 : leA a rb.nx = true) (h2 : leA a rb.ct = true) (h3 : leA r.nx a = true) (h4 : leA r.nx rb.bk = true) : JS X o a (.For tg e body [] q) r (sFor gt di g) := (ps_for hp hc hi hg hb hs).imp fun D σ H ⟨F0, B, F, δ, S, q⟩ => by
  obtain ⟨ds, e1, q⟩ := q.ofR
  refine ⟨F0, B, F, δ, S, Ans.of_ok e1 fun J F1 H1 S1 _ _ _ it => ?_⟩
  refine ⟨fun i m σ H => m = ds.length - i ∧ i ≤ ds.length ∧ ∃ F3 δ3, Same F1 F3 ∧ SI X.K F0 B F3 H σ a δ3 ∧ OutOk X.K o F0 B r D (forGo gt g (ds.drop i) δ3), ⟨ds.length, by simp, Nat.zero_le _, F1, δ, Same.refl _, S1, q⟩, ?_⟩
  rintro i m σ H ⟨rfl, hle, F3, δ3, e3, S3, q⟩
  by_cases hlt : i < ds.length
  · obtain ⟨go, yld⟩ := it.2 i _ H F3 e3 S3.FH (e3.trans S3.FH) (List.getElem?_eq_getElem hlt)
    rw [drop_cons hlt] at q
    have q : OutOk X.K o F0 B r D (Dv.ofR (gt ds[i] δ3) fun δ1 => match g δ1 with
      | .nx δ' => forGo gt g (ds.drop (i + 1)) δ'
      | .ct δ' => forGo gt g (ds.drop (i + 1)) δ'
      | .bk δ' => .nx δ'
      | o => o) := q
    obtain ⟨δ1, e4, q⟩ := q.ofR
    refine .inr ⟨go, fun σ' H' => i + 1 ≤ ds.length ∧ ∃ F4 δ4, Same F1 F4 ∧ SI X.K F0 B F4 H' σ' a δ4 ∧ OutOk X.K o F0 B r D (forGo gt g (ds.drop (i + 1)) δ4), fun σ' H' ⟨h5, F4, δ4, h6, h7, h8⟩ => ⟨ds.length - (i + 1), by omega, rfl, h5, F4, δ4, h6, h7, h8⟩, fun x H4 hy => ?_⟩
    obtain ⟨F4, e5, e6, e7, n4, rx⟩ := yld x H4 hy
    have S4 := S3.later e5 e6 e7 n4
    refine ⟨F0, B, F4, δ3, _, S4, rx, Ans.of_ok e4 fun σ5 S5 _ _ => ?_⟩
    -- F4 as the frozen part that must stay
    have S5' : SI X.K F4 B F4 H4 σ5 (clr a ts) δ1 := ⟨S5.len, S5.BH, S5.FH, Same.refl _, New.refl _ _, S5.sl, S5.dj, S5.ol, S5.nf⟩
    have back : ∀ {σ' : L2.St} {a' : List Bool} {δ' : Env} {F' H' : Hp}, SI X.K F4 B F' H' σ' a' δ' → SI X.K F0 B F' H' σ' a' δ' := fun S => ⟨S.len, S.BH, S.FH, S5.F0F.trans S.F0F, S5.new.trans S.new, S.sl, S.dj, S.ol, S.nf⟩
    refine ⟨F4, B, F4, δ1, S5', ?_⟩
    revert q
    cases g δ1 with
    | nx δ' =>
      intro q σ' F' H' S'
      obtain ⟨F2, e8, S2⟩ := (back S').less h1
      exact ⟨hlt, F2, δ', (e3.trans e5).trans (S'.F0F.trans e8), S2, q⟩
    | ct δ' =>
      intro q σ' F' H' S'
      obtain ⟨F2, e8, S2⟩ := (back S').less h2
      exact ⟨hlt, F2, δ', (e3.trans e5).trans (S'.F0F.trans e8), S2, q⟩
    | bk δ' =>
      intro q σ' F' H' S'
      obtain ⟨F2, e8, S2⟩ := (back S').less h4
      exact q σ' F2 H' S2
    | rt d => exact fun q v F' H' g1 g2 g3 g4 g5 => q v F' H' (S5.F0F.trans g1) g2 g3 (S5.new.trans g4) g5
    | err _ _ => exact fun q => q
    | bad => exact fun q => q
  · rw [List.drop_eq_nil_of_le (by omega)] at q
    refine .inl ⟨it.1 i H F3 e3 S3.FH (e3.trans S3.FH) (by omega), ?_⟩
    obtain ⟨F2, _, S2⟩ := S3.less h3
    exact q σ F2 H S2
theorem js_while {q : Pos} {t : DT} (hp : PassesOwn (model X.prog X.w) X.A X.env X.xe) (ht : JT X wi0 a e t) (hb : JSs X o a body rb g) (h1 : leA a rb.nx = true) (h2 : leA a rb.ct = true) (h3 : leA r.nx a = true) (h4 : leA r.nx rb.bk = true) :
    JS X o a (.While e body [] q) r (sWhl t g) := (ps_while hp ht hb).imp fun D σ H ⟨F0, B, F, δ, S, q⟩ => by
  refine ⟨fun m σ H => ∃ F3 δ3, SI X.K F0 B F3 H σ a δ3 ∧ OutOk X.K o F0 B r D (whlGo t g m δ3), ⟨turns, F, δ, S, q⟩, ?_⟩
  rintro m σ H ⟨F3, δ3, S3, q⟩
  cases m with
  | zero => exact q.elim
  | succ m =>
    have q : OutOk X.K o F0 B r D (Dv.ofR (t δ3) fun x => if x then (match g δ3 with
      | .nx δ' => whlGo t g m δ'
      | .ct δ' => whlGo t g m δ'
      | .bk δ' => .nx δ'
      | o => o) else .nx δ3) := q
    obtain ⟨x, e1, q⟩ := q.ofR
    refine ⟨F0, B, F3, δ3, S3, Ans.of_ok e1 fun F4 H4 S4 _ _ _ => ?_⟩
    cases x with
    | false =>
      obtain ⟨F2, _, S2⟩ := S4.less h3
      exact q σ F2 H4 S2
    | true =>
      have q : OutOk X.K o F0 B r D (match g δ3 with
        | .nx δ' => whlGo t g m δ'
        | .ct δ' => whlGo t g m δ'
        | .bk δ' => .nx δ'
        | o => o) := q
      refine ⟨fun σ' H' => ∃ F4 δ4, SI X.K F0 B F4 H' σ' a δ4 ∧ OutOk X.K o F0 B r D (whlGo t g m δ4), fun σ' H' z => ⟨m, Nat.lt_succ_self m, z⟩, F0, B, F4, δ3, S4, ?_⟩
      revert q
      cases g δ3 with
      | nx δ' =>
        intro q σ' F' H' S'
        obtain ⟨F2, _, S2⟩ := S'.less h1
        exact ⟨F2, δ', S2, q⟩
      | ct δ' =>
        intro q σ' F' H' S'
        obtain ⟨F2, _, S2⟩ := S'.less h2
        exact ⟨F2, δ', S2, q⟩
      | bk δ' =>
        intro q σ' F' H' S'
        obtain ⟨F2, _, S2⟩ := S'.less h4
        exact q σ' F2 H' S2
      | rt d => exact fun q => q
      | err _ _ => exact fun q => q
      | bad => exact fun q => q

/-! ### a, b = x, y -/
def starred : Expr → Bool
  | .Starred _ _ => true
  | _ => false
def nmIn (sc : Scope) (line : Nat) : Expr → Option Str
  | .Name id pos => if sc.names.lookup id == some .local && pos.line == line then some id else none
  | _ => none
/-- what the stores of a written tuple come to: unknown | one by one | from the right -/
def swP (sc : Scope) (ts vs : List Expr) : Option (Option (List Str)) :=
  if !(ts.length == 2 || ts.length == 3) || vs.length != ts.length then some none
  else if vs.any starred then some none
  else
    let names := ts.filterMap (nmIn sc ((ts.head?.map (·.pos.line)).getD 0))
    if names.length != ts.length || names.eraseDups.length != names.length then some none
    else if vs.all (foldedForSure 8) then some none
    else if vs.all (constantsAlone 8) then none
    else some (some names)
theorem ifs_to {α : Type} {z : Sem (Option α)} {b1 b2 b3 b4 b5 : Bool} {w : α} {res : Option α} (h : (if b1 then some none else if b2 then some none else if b3 then some none else if b4 then some none else if b5 then none else some (some w)) = some res) :
    (if (b1 || false) = true then (pure none : Sem (Option α)) else if b2 = true then pure none else if b3 = true then pure none else if b4 = true then pure none else if b5 = true then z else pure (some w)) = pure res := by
  cases b1 <;> cases b2 <;> cases b3 <;> cases b4 <;> cases b5 <;> first | (cases h; rfl) | cases h
theorem swP_of {ts vs : List Expr} {k1 k2 : Nat} {p1 p2 : Pos} {env : PySem.Env} (he : env.scope = sc) (hk : sc.kind = .function) {res : Option (List Str)} (h : swP sc ts vs = some res) : swappedStores [.Tuple ts k1 p1] (.Tuple vs k2 p2) env = pure res := by
  subst he
  have hb : env.blockKind = .function := by unfold Env.blockKind; rw [hk]; rfl
  unfold swP at h
  have q := ifs_to (z := do unsupported "assign.tuple-of-constant-expressions:order-of-the-stores"; pure (some (ts.filterMap (nmIn env.scope ((ts.head?.map (·.pos.line)).getD 0))))) h
  rw [← q]
  unfold swappedStores
  simp only [hb]
  rfl
theorem vals_two {vs : List V} {d1 d2 : Dv.D} (h : Rps K F vs [d1, d2]) : ∃ v w, vs = [v, w] ∧ Rp K F v d1 ∧ Rp K F w d2 := by
  cases h with
  | cons r t =>
    cases t with
    | cons r2 t => cases t; exact ⟨_, _, rfl, r, r2⟩
theorem vals_three {vs : List V} {d1 d2 d3 : Dv.D} (h : Rps K F vs [d1, d2, d3]) : ∃ u v w, vs = [u, v, w] ∧ Rp K F u d1 ∧ Rp K F v d2 ∧ Rp K F w d3 := by
  cases h with
  | cons r t =>
    obtain ⟨v, w, rfl, r2, r3⟩ := vals_two t
    exact ⟨_, v, w, rfl, r, r2, r3⟩
theorem tup_ok {fs : List DE} {d : Dv.D} {δ : Env} (h : eTup fs δ = .ok d) : ∃ ds, evs fs δ = .ok ds ∧ d = .tuple ds := by
  obtain ⟨ds, h1, h2⟩ := R.bind_eq_ok h
  cases h2
  exact ⟨ds, h1, rfl⟩
theorem evs_2 {f1 f2 : DE} {d1 d2 : Dv.D} (h : evs [f1, f2] δ = .ok [d1, d2]) : f1 δ = .ok d1 ∧ f2 δ = .ok d2 := by
  unfold evs at h
  obtain ⟨x, h1, h⟩ := R.bind_eq_ok h
  obtain ⟨xs, h2, h⟩ := R.bind_eq_ok h
  unfold evs at h2
  obtain ⟨y, h3, h2⟩ := R.bind_eq_ok h2
  obtain ⟨ys, h4, h2⟩ := R.bind_eq_ok h2
  cases h2
  cases h
  exact ⟨h1, h3⟩
theorem evs_3 {f1 f2 f3 : DE} {d1 d2 d3 : Dv.D} (h : evs [f1, f2, f3] δ = .ok [d1, d2, d3]) : f1 δ = .ok d1 ∧ f2 δ = .ok d2 ∧ f3 δ = .ok d3 := by
  unfold evs at h
  obtain ⟨x, h1, h⟩ := R.bind_eq_ok h
  obtain ⟨xs, h2, h⟩ := R.bind_eq_ok h
  cases h
  exact ⟨h1, evs_2 h2⟩
theorem js_par {x y : Str} {e1 e2 : Expr} {f1 f2 : DE} {i j : Nat} {px py pt p2 q : Pos} {kt k2 : Nat} {b1 b2 : Nat} (hc : X.calm = true) (nd : X.N.Nodup) (hsc : X.env.scope = sc) (hk : sc.kind = .function) (hi : X.N[i]? = some x) (hj : X.N[j]? = some y) (hij : i ≠ j)
    (hx : sc.names.lookup x = some .local) (hy : sc.names.lookup y = some .local) (h1 : JE X wi0 a e1 f1 b1) (h2 : JE X wi0 a e2 f2 b2) (hp : [e1, e2].all plainE = true) (hw : swP sc [.Name x px, .Name y py] [e1, e2] = some (some [x, y]))
    (i1 : isP b1 = true) (i2 : isP b2 = true) (o1 : (b1 == 3) = true → own (stO a i) i = true) (o2 : (b2 == 3) = true → own (stO (stK a i b1) j) j = true) (hr : r.nx = stK (stK a i b1) j b2) :
    JS X o a (.Assign [.Tuple [.Name x px, .Name y py] kt pt] (.Tuple [e1, e2] k2 p2) q) r (sAsg (gTp [gNm i, gNm j]) (eTup [f1, f2])) := by
  rw [List.all_cons, List.all_cons, Bool.and_eq_true, Bool.and_eq_true] at hp
  refine (ps_par hc nd hi hj hij (by rw [hsc]; exact hx) (by rw [hsc]; exact hy) (pa_cons h1 (pa_cons h2 pa_nil (star_cons hp.2.1)) (star_cons hp.1)) (swP_of hsc hk hw) rfl).imp fun D σ H ⟨F0, B, F, δ, S, q⟩ => ?_
  obtain ⟨d, q1, q⟩ := q.ofR
  obtain ⟨δ2, q2, q⟩ := q.ofR
  obtain ⟨ds, q3, rfl⟩ := tup_ok q1
  have hl := evs_len _ _ _ q3
  match ds, hl, q2, q3 with
  | [d1, d2], _, q2, q3 =>
    have e : δ2 = (δ.set i (some d1)).set j (some d2) := by
      have : Dv.R.ok ((δ.set i (some d1)).set j (some d2)) = Dv.R.ok δ2 := q2
      cases this; rfl
    subst e
    obtain ⟨g1, g2⟩ := evs_2 q3
    refine ⟨F0, B, F, δ, S, Ans.of_ok g1 fun v F1 H1 S1 e1 e2 n1 r1 => ⟨F0, B, F1, δ, S1, Ans.of_ok g2 fun w F2 H2 S2 e3 e4 n2 r2 => ?_⟩⟩
    have T1 := SI.setP S S1 i1 o1 r1
    have T2 := SI.setP T1 (T1.later e3 e4 S2.FH n2) i2 o2 r2
    exact ⟨v, w, rfl, q _ F2 H2 (by rw [hr]; exact T2)⟩
theorem js_par3 {x y z : Str} {e1 e2 e3 : Expr} {f1 f2 f3 : DE} {i j l : Nat} {px py pz pt p2 q : Pos} {kt k2 : Nat} {b1 b2 b3 : Nat} (hc : X.calm = true) (nd : X.N.Nodup) (hsc : X.env.scope = sc) (hk : sc.kind = .function) (hi : X.N[i]? = some x) (hj : X.N[j]? = some y) (hl : X.N[l]? = some z) (hij : i ≠ j) (hil : i ≠ l) (hjl : j ≠ l)
    (hx : sc.names.lookup x = some .local) (hy : sc.names.lookup y = some .local) (hz : sc.names.lookup z = some .local) (h1 : JE X wi0 a e1 f1 b1) (h2 : JE X wi0 a e2 f2 b2) (h3 : JE X wi0 a e3 f3 b3) (hp : [e1, e2, e3].all plainE = true) (hw : swP sc [.Name x px, .Name y py, .Name z pz] [e1, e2, e3] = some (some [x, y, z]))
    (i1 : isP b1 = true) (i2 : isP b2 = true) (o1 : (b1 == 3) = true → own (stO a i) i = true) (o2 : (b2 == 3) = true → own (stO (stK a i b1) j) j = true) (i3 : isP b3 = true) (o3 : (b3 == 3) = true → own (stO (stK (stK a i b1) j b2) l) l = true) (hr : r.nx = stK (stK (stK a i b1) j b2) l b3) :
    JS X o a (.Assign [.Tuple [.Name x px, .Name y py, .Name z pz] kt pt] (.Tuple [e1, e2, e3] k2 p2) q) r (sAsg (gTp [gNm i, gNm j, gNm l]) (eTup [f1, f2, f3])) := by
  rw [List.all_cons, List.all_cons, List.all_cons, Bool.and_eq_true, Bool.and_eq_true, Bool.and_eq_true] at hp
  refine (ps_par3 hc nd hi hj hl hij hil hjl (by rw [hsc]; exact hx) (by rw [hsc]; exact hy) (by rw [hsc]; exact hz) (pa_cons h1 (pa_cons h2 (pa_cons h3 pa_nil (star_cons hp.2.2.1)) (star_cons hp.2.1)) (star_cons hp.1)) (swP_of hsc hk hw) rfl).imp fun D σ H ⟨F0, B, F, δ, S, q⟩ => ?_
  obtain ⟨d, q1, q⟩ := q.ofR
  obtain ⟨δ2, q2, q⟩ := q.ofR
  obtain ⟨ds, q3, rfl⟩ := tup_ok q1
  have hl := evs_len _ _ _ q3
  match ds, hl, q2, q3 with
  | [d1, d2, d3], _, q2, q3 =>
    have e : δ2 = ((δ.set i (some d1)).set j (some d2)).set l (some d3) := by
      have : Dv.R.ok (((δ.set i (some d1)).set j (some d2)).set l (some d3)) = Dv.R.ok δ2 := q2
      cases this; rfl
    subst e
    obtain ⟨g1, g2, g3⟩ := evs_3 q3
    refine ⟨F0, B, F, δ, S, Ans.of_ok g1 fun v F1 H1 S1 e1 e2 n1 r1 => ⟨F0, B, F1, δ, S1, Ans.of_ok g2 fun w F2 H2 S2 e3 e4 n2 r2 => ⟨F0, B, F2, δ, S2, Ans.of_ok g3 fun u F3 H3 S3 e5 e6 n3 r3 => ?_⟩⟩⟩
    have T1 := SI.setP S S1 i1 o1 r1
    have T2 := SI.setP T1 (T1.later e3 e4 S2.FH n2) i2 o2 r2
    have T3 := SI.setP T2 (T2.later e5 e6 S3.FH n3) i3 o3 r3
    exact ⟨v, w, u, rfl, q _ F3 H3 (by rw [hr]; exact T3)⟩
/-- a name = [..] on one line -/
theorem js_lcN (h : Sound c n) (C : Ctx c X sc) {elt : Expr} {gens : List Comprehension} {scope : Scope} {i : Nat} {y : Str} {py q : Pos} (hkk : kE c (n + 1) a sc (.ListComp elt gens scope pos) = 3) (hg1 : genK gens ≠ .no) (hi : X.N[i]? = some y) (hk : sc.kind = .function) (hy : sc.names.lookup y = some .local)
    (hl : (py.line == pos.line) = true) (ha : (scope.names.any fun (n, k) => n == y && (k == .local || k == .cell)) = false) (ho : own (stO a i) i = true) (hr : r.nx = stO a i) :
    JS X o a (.Assign [.Name y py] (.ListComp elt gens scope pos) q) r (sAsg (gNm i) (dE c (n + 1) sc (.ListComp elt gens scope pos))) := by
  have hk0 : k3 (kE c (n + 1) a sc (.ListComp elt gens scope pos)) = true := by rw [hkk]; rfl
  clear hkk
  unfold kE at hk0
  unfold dE
  dsimp only at *
  cases hs : genK gens with
  | one tg it ifs =>
    rw [hs] at hk0
    dsimp only at hk0 ⊢
    cases ht : tS c n scope tg with
    | none => rw [ht] at hk0; cases hk0
    | some ts =>
      rw [ht] at hk0
      dsimp only at hk0 ⊢
      have hb := ite9 hk0
      obtain ⟨hb, h6⟩ := and2 hb
      obtain ⟨hb, h5⟩ := and2 hb
      obtain ⟨hb, h4⟩ := and2 hb
      obtain ⟨h1, h2, h3⟩ := and3 hb
      have eg : gens = [⟨tg, it, ifs, 0⟩] := by
        unfold genK at hs
        split at hs <;> cases hs
        rfl
      subst eg
      rw [← C.hN, ← C.sc] at h3
      have ok := blkOk_by h3
      have eo := ownP_snd c scope
      have ky : X.env.scope.names.lookup y = some .local := by rw [C.sc]; exact hy
      refine PS.imp (ps_setLc (i := i) (wi := tJI X.K wi0 a true (dI c n sc it)) (g := tJG X.K (clr a (ownOf c scope)) (dG c n scope tg) ts) (tt := tJT X.K wi0 (clr (clr a (ownOf c scope)) ts) (dIfs c n (rel scope sc) ifs)) (te := tJ X.K wi0 (clr (clr a (ownOf c scope)) ts) (dE c n (rel scope sc) elt) 2)
        C.calm C.nd hi ky (sw_true (by rw [C.sc]; exact hk) ky hl ha) (h.I X sc a true tg it C h1) ok (fun s H ca cl fp => tg_ok (C.blk s H scope ca cl fp) (StOk.blk C s H scope ca cl fp) n tg ts ht (clr a (ownOf c scope)))
        (fun s H ca cl fp => h.P _ _ _ ifs (C.blk s H scope ca cl fp) h5) (fun s H ca cl fp => (h.E _ _ _ elt (C.blk s H scope ca cl fp) (k3_of_kF h6)).kF h6) (fold_ok h2 _)) fun D σ H q => tJ_set ho hr (fun σ H Q q => ?_) q
      rw [← eo] at q
      rw [← eo]
      refine je_lc C.calm C.nd (h.I X sc a true tg it C h1) ok (fun s H ca cl fp => by rw [eo]; exact tg_ok (C.blk s H scope ca cl fp) (StOk.blk C s H scope ca cl fp) n tg ts ht (clr a (ownOf c scope))) (fun i hi => ?_)
        (fun s H ca cl fp => by rw [eo]; exact h.P _ _ _ ifs (C.blk s H scope ca cl fp) h5) (fun s H ca cl fp => by rw [eo]; exact (h.E _ _ _ elt (C.blk s H scope ca cl fp) (k3_of_kF h6)).kF h6) (fold_ok h2 _) q
      have := List.all_eq_true.mp h4 i hi
      rw [eo]
      simpa using this
  | two tg it ifs tg2 it2 ifs2 =>
    rw [hs] at hk0
    dsimp only at hk0 ⊢
    cases ht : tS c n scope tg with
    | none => rw [ht] at hk0; cases hk0
    | some ts =>
      rw [ht] at hk0
      dsimp only at hk0 ⊢
      cases ht2 : tS c n scope tg2 with
      | none => rw [ht2] at hk0; cases hk0
      | some ts1 =>
        rw [ht2] at hk0
        dsimp only at hk0 ⊢
        have hb := ite9 hk0
        obtain ⟨hb, g10⟩ := and2 hb
        obtain ⟨hb, g9⟩ := and2 hb
        obtain ⟨hb, g8⟩ := and2 hb
        obtain ⟨hb, g7⟩ := and2 hb
        obtain ⟨hb, g6⟩ := and2 hb
        obtain ⟨hb, g5⟩ := and2 hb
        obtain ⟨hb, g4⟩ := and2 hb
        obtain ⟨g1, g2, g3⟩ := and3 hb
        have eg : gens = [⟨tg, it, ifs, 0⟩, ⟨tg2, it2, ifs2, 0⟩] := by
          unfold genK at hs
          split at hs <;> cases hs
          rfl
        subst eg
        rw [← C.hN, ← C.sc] at g4
        have ok := blkOk_by g4
        have eo := ownP_snd c scope
        have m5 : ∀ i ∈ ts, i ∈ ownOf c scope := fun i hi => by have := List.all_eq_true.mp g5 i hi; simpa using this
        have m6 : ∀ i ∈ ts1, i ∈ ownOf c scope := fun i hi => by have := List.all_eq_true.mp g6 i hi; simpa using this
        have ky : X.env.scope.names.lookup y = some .local := by rw [C.sc]; exact hy
        refine PS.imp (ps_setLc2 (i := i) (vs1 := ts1) (wi := tJI X.K wi0 a true (dI c n sc it)) (g := tJG X.K (clr a (ownOf c scope)) (dG c n scope tg) ts) (tt := tJT X.K wi0 (clr (clr a (ownOf c scope)) ts) (dIfs c n (rel scope sc) ifs))
          (wi1 := tJI X.K wi0 (clr (clr a (ownOf c scope)) ts) false (dI c n (rel scope sc) it2)) (g1 := tJG X.K (clr (clr (clr a (ownOf c scope)) ts) ts1) (dG c n scope tg2) ts1) (tt1 := tJT X.K wi0 (clr (clr (clr (clr a (ownOf c scope)) ts) ts1) ts1) (dIfs c n (rel scope sc) ifs2))
          (te := tJ X.K wi0 (clr (clr (clr (clr a (ownOf c scope)) ts) ts1) ts1) (dE c n (rel scope sc) elt) 2)
          C.calm C.nd hi ky (sw_true (by rw [C.sc]; exact hk) ky hl ha) (h.I X sc a true tg it C g1) ok (by rw [eo]; exact m6) (fun s H ca cl fp => tg_ok (C.blk s H scope ca cl fp) (StOk.blk C s H scope ca cl fp) n tg ts ht (clr a (ownOf c scope)))
          (fun s H ca cl fp => h.P _ _ _ ifs (C.blk s H scope ca cl fp) g7) (fun s H ca cl fp => h.I _ _ _ false tg2 it2 (C.blk s H scope ca cl fp) g8)
          (fun s H ca cl fp => tg_ok (C.blk s H scope ca cl fp) (StOk.blk C s H scope ca cl fp) n tg2 ts1 ht2 _) (fun s H ca cl fp => h.P _ _ _ ifs2 (C.blk s H scope ca cl fp) g9)
          (fun s H ca cl fp => (h.E _ _ _ elt (C.blk s H scope ca cl fp) (k3_of_kF g10)).kF g10) (fold_ok g2 _) (fold_ok g3)) fun D σ H q => tJ_set ho hr (fun σ H Q q => ?_) q
        rw [eo]
        exact je_lc2 m5 m6 (tg_same n tg ts ht) q
  | no => exact absurd hs hg1
/-! ### a name = {k: v for ..} on one line -/
theorem dcSwaps {kx vx : Expr} {gens : List Comprehension} {scope : Scope} {y : Str} {py : Pos} {l : Nat} (ek : X.env.scope.kind = .function) (ey : X.env.scope.names.lookup y = some .local) (el : (py.line == pos.line) = true)
    (en : (scope.names.any fun (n, k) => n == y && (k == .local || k == .cell)) = false) : swapsWith (.DictComp kx vx gens scope pos) (some (.Name y py)) l X.env = pure true := by
  show (pure (X.env.blockKind == .function && X.env.kindOf y == some .local && py.line == pos.line && !(scope.names.any fun (n, k) => n == y && (k == .local || k == .cell))) : Sem Bool) = pure true
  have e1 : X.env.blockKind = .function := by unfold Env.blockKind; rw [ek]; rfl
  have e2 : X.env.kindOf y = some .local := ey
  rw [e1, e2, el, en]
  rfl
theorem ps_dcName {i : Nat} {y : Str} {py : Pos} {kx vx iter : Expr} {ifs : List Expr} {scope : Scope} {ow : List (Str × Nat)} {sp : Pos} {wi : TI} {g : TG} {tt : TT} {tk tv : TE} (hc : X.calm = true) (nd : X.N.Nodup) (ni : X.N[i]? = some y) (ey : X.env.scope.names.lookup y = some .local)
    (sw : swapsWith (.DictComp kx vx [⟨tg, iter, ifs, 0⟩] scope pos) (some (.Name y py)) sp.line X.env = pure true) (hi : PI X tg iter wi) (ok : BlkOk X.N X.env.scope scope ow)
    (hg : ∀ s H C cl fp, PG (X.blk s H scope (compEnvC scope cl C X.env) fp) tg g) (ht : ∀ s H C cl fp, PTs (X.blk s H scope (compEnvC scope cl C X.env) fp) ifs tt)
    (hk : ∀ s H C cl fp, PE (X.blk s H scope (compEnvC scope cl C X.env) fp) kx tk) (hv : ∀ s H C cl fp, PE (X.blk s H scope (compEnvC scope cl C X.env) fp) vx tv) (fo : ∀ x, foldedSetIterable iter X.env x = pure x) :
    PS X (.Assign [.Name y py] (.DictComp kx vx [⟨tg, iter, ifs, 0⟩] scope pos) sp) (tAsg (tDc wi g tt tk tv (ow.map (·.2))) (gName i)) := by
  refine ⟨fun pins s σ H E I w => ?_⟩
  rw [exec_Assign_Name_used _ _ _ _ sw]
  refine wpAny_bind (wpAny_standAt (wpAny_bind (wpAny_bind ?_)))
  have w : tDc wi g tt tk tv (ow.map (·.2)) σ H (fun x H1 => gName i x σ H1 E.nx) := w
  refine thn (dc_core (use := some (assign (.Name y py) X.env)) (pos' := firstIterPos [⟨tg, iter, ifs, 0⟩] pos) (Qf := fun _ z => SP X pins E .next z) hc nd I hi ok hg ht hk hv fo w fun D Cd t m Ht J q ns fp => ?_) fun _ z hz => wpAny_pure (wpAny_pure hz)
  obtain ⟨p0, p1, _, p3, p4, p5⟩ := fp
  refine wpAny_assign_Name (store_ok2 J nd ni (.inl ey) (v := V.ref D) rfl (fun t2 J2 ⟨ad, same, at2⟩ => ⟨m, ns.sameBut same ?_, fun hh sm => ?_⟩) (.inr ey))
  · rcases at2 with z | z
    · rw [z]; exact p1
    · exact fun e => p4 y ad z e.symm
  · exact ⟨_, Ht, J2.turned (t' := t2.toks) (fun b o nb e => (sm.2 b nb).trans e) p0 p1 p3 p4 p5, q⟩
theorem js_dcN (h : Sound c n) (C : Ctx c X sc) {kx vx : Expr} {gens : List Comprehension} {scope : Scope} {i : Nat} {y : Str} {py q : Pos} (hkk : kE c (n + 1) a sc (.DictComp kx vx gens scope pos) = 3) (hg1 : genK gens ≠ .no) (hi : X.N[i]? = some y) (hk : sc.kind = .function) (hy : sc.names.lookup y = some .local)
    (hl : (py.line == pos.line) = true) (ha : (scope.names.any fun (n, k) => n == y && (k == .local || k == .cell)) = false) (ho : own (stO a i) i = true) (hr : r.nx = stO a i) :
    JS X o a (.Assign [.Name y py] (.DictComp kx vx gens scope pos) q) r (sAsg (gNm i) (dE c (n + 1) sc (.DictComp kx vx gens scope pos))) := by
  have hk0 : k3 (kE c (n + 1) a sc (.DictComp kx vx gens scope pos)) = true := by rw [hkk]; rfl
  clear hkk
  unfold kE at hk0
  unfold dE
  dsimp only at *
  cases hs : genK gens with
  | one tg it ifs =>
    rw [hs] at hk0
    dsimp only at hk0 ⊢
    cases ht : tS c n scope tg with
    | none => rw [ht] at hk0; cases hk0
    | some ts =>
      rw [ht] at hk0
      dsimp only at hk0 ⊢
      have hb := ite9 hk0
      obtain ⟨hb, h7⟩ := and2 hb
      obtain ⟨hb, h6⟩ := and2 hb
      obtain ⟨hb, h5⟩ := and2 hb
      obtain ⟨hb, h4⟩ := and2 hb
      obtain ⟨h1, h2, h3⟩ := and3 hb
      have eg : gens = [⟨tg, it, ifs, 0⟩] := by
        unfold genK at hs
        split at hs <;> cases hs
        rfl
      subst eg
      rw [← C.hN, ← C.sc] at h3
      have ok := blkOk_by h3
      have eo := ownP_snd c scope
      have ky : X.env.scope.names.lookup y = some .local := by rw [C.sc]; exact hy
      refine PS.imp (ps_dcName (i := i) (wi := tJI X.K wi0 a true (dI c n sc it)) (g := tJG X.K (clr a (ownOf c scope)) (dG c n scope tg) ts) (tt := tJT X.K wi0 (clr (clr a (ownOf c scope)) ts) (dIfs c n (rel scope sc) ifs)) (tk := tJ X.K wi0 (clr (clr a (ownOf c scope)) ts) (dE c n (rel scope sc) kx) 0) (tv := tJ X.K wi0 (clr (clr a (ownOf c scope)) ts) (dE c n (rel scope sc) vx) 2)
        C.calm C.nd hi ky (dcSwaps (by rw [C.sc]; exact hk) ky hl ha) (h.I X sc a true tg it C h1) ok (fun s H ca cl fp => tg_ok (C.blk s H scope ca cl fp) (StOk.blk C s H scope ca cl fp) n tg ts ht (clr a (ownOf c scope)))
        (fun s H ca cl fp => h.P _ _ _ ifs (C.blk s H scope ca cl fp) h5) (fun s H ca cl fp => (h.E _ _ _ kx (C.blk s H scope ca cl fp) h6).to0) (fun s H ca cl fp => (h.E _ _ _ vx (C.blk s H scope ca cl fp) (k3_of_kF h7)).kF h7) (fold_ok h2 _)) fun D σ H q => tJ_set ho hr (fun σ H Q q => ?_) q
      rw [← eo] at q
      rw [← eo]
      refine je_dc (h.I X sc a true tg it C h1) (fun i hi => ?_) q
      have := List.all_eq_true.mp h4 i hi
      rw [eo]
      simpa using this
  | two tg it ifs tg2 it2 ifs2 => exact js_bad fun _ => rfl
  | no => exact absurd hs hg1
end Dv
/-! Dv31: what is told, changed and not read behind: groups of statements. -/
namespace Dv
open PySem PySem.Spec PyProof.Rows L2
variable {X : Cx} {W : Wi} {K : PySem.W.Frag} {F F' F0 F1 B H H' H1 : Hp} {v : V} {d : D} {k : Nat} {σ : L2.St} {δ : Env} {pins : List (Addr × Obj)} {s : Shared} {Q : VK} {e tg a1 b1 : Expr} {a b : List Bool} {f fa fb : DE} {pos p : Pos} {c : Cfg} {n : Nat} {sc : Scope} {o : Nat} {D : Ends}
variable {st : Stmt} {sts : List Stmt} {r r' : KR} {g : DS} {keep : List Nat}

theorem forget_len : ∀ (k : Nat) (δ : Env), (forgetF keep k δ).length = δ.length
  | _, [] => rfl
  | k, d :: r => by unfold forgetF; rw [List.length_cons, forget_len (k + 1) r, List.length_cons]
theorem forget_get : ∀ (k : Nat) (δ : Env) (i : Nat), (forgetF keep k δ)[i]? = (δ[i]?).map (forg keep (k + i))
  | _, [], i => by simp [forgetF]
  | k, d :: r, 0 => by simp [forgetF]
  | k, d :: r, i + 1 => by
    unfold forgetF
    rw [List.getElem?_cons_succ, List.getElem?_cons_succ, forget_get (k + 1) r i, show k + 1 + i = k + (i + 1) by omega]
theorem forget_some {i : Nat} {x : Dv.D} (h : (forgetF keep 0 δ)[i]? = some (some x)) : δ[i]? = some (some x) ∧ (keep.contains i = true ∨ atomD x = true) := by
  rw [forget_get, Nat.zero_add] at h
  obtain ⟨y, h1, h2⟩ := Option.map_eq_some_iff.mp h
  unfold forg at h2
  split at h2
  · rename_i z; subst h2; exact ⟨h1, .inl z⟩
  · split at h2
    · rename_i w
      split at h2
      · rename_i z; cases h2; exact ⟨h1, .inr z⟩
      · cases h2
    · cases h2
theorem atom_ob {x : Dv.D} (h : atomD x = true) : isOb x = false := by cases x <;> first | rfl | cases h
theorem atom_rp {v : V} {x : Dv.D} (h : atomD x = true) (r : Rp K F v x) : Rp K F1 v x := by
  cases r with
  | non => exact .non
  | bl b => exact .bl b
  | int i => exact .int i
  | str z => exact .str z
  | lst _ _ => cases h
  | tup _ _ => cases h
  | dct _ _ => cases h
def without (F : Hp) (p : Addr) : Hp := fun b => if b = p then none else F b
theorem without_le {p : Addr} : Same (without F p) F := fun b o h => by
  unfold without at h
  split at h
  · cases h
  · exact h
theorem without_ne {p b : Addr} (h : b ≠ p) : without F p b = F b := if_neg h
/-- a told list changes, what may hold it is forgotten -/
theorem SI.dead (S : SI K F0 B F H σ a δ) (base : Same F0 B) (hk : ∀ i ∈ keep, old a i = true ∧ nw1 a i = false) {p : Addr} {u' : HO} (bp : B p = none) : SI K F0 B (without F p) (upd H p u') σ a (forgetF keep 0 δ) := by
  have keptOld : ∀ {i : Nat} {x : Dv.D}, keep.contains i = true → δ[i]? = some (some x) → own a i = false ∧ ∃ v, σ[i]? = some (some v) ∧ Rp K (inter (without F p) B) v x := fun {i x} h e => by
    obtain ⟨g1, v, g2, g3⟩ := S.ol i x (hk i (by simpa using h)).1 e
    refine ⟨g1, v, g2, Rp.mono (fun b o h => ?_) _ _ g3⟩
    have ne : b ≠ p := fun z => by
      subst z
      unfold inter at h
      rw [if_pos bp] at h
      cases h
    unfold inter at h ⊢
    rw [without_ne ne]
    exact h
  have notOb : ∀ {i : Nat} {x : Dv.D}, own a i = true → (forgetF keep 0 δ)[i]? = some (some x) → isOb x = false := fun {i x} oi h => by
    obtain ⟨h1, h2⟩ := forget_some h
    rcases h2 with h2 | h2
    · rw [(keptOld h2 h1).1] at oi; cases oi
    · exact atom_ob h2
  refine ⟨by rw [forget_len]; exact S.len, fun b x z => ?_, fun b x z => ?_, fun b x z => ?_, fun b z => ?_, fun i x z => ?_, fun i j x y q oi oj ox oy hx hy sx sy => ?_, fun i x oi z => ?_, fun i x oi z => ?_⟩
  · have ne : b ≠ p := fun e => by subst e; rw [bp] at z; cases z
    rw [upd_ne ne]; exact S.BH b x z
  · by_cases e : b = p
    · subst e; unfold without at z; rw [if_pos rfl] at z; cases z
    · rw [without_ne e] at z
      rw [upd_ne e]; exact S.FH b x z
  · have ne : b ≠ p := fun e => by subst e; have := base b x z; rw [bp] at this; cases this
    rw [without_ne ne]; exact S.F0F b x z
  · by_cases e : b = p
    · subst e; exact .inr bp
    · rw [without_ne e] at z; exact S.new b z
  · obtain ⟨h1, h2⟩ := forget_some z
    rcases h2 with h2 | h2
    · obtain ⟨g1, v, g2, g3⟩ := keptOld h2 h1
      exact ⟨v, g2, fun z => (by rw [g1] at z; cases z), fun _ => Rp.mono inter_le _ _ g3⟩
    · obtain ⟨v, g1, g2, g3⟩ := S.sl i x h1
      refine ⟨v, g1, fun z => .ofNo (atom_ob h2) (atom_rp h2 ((g2 z).no (atom_ob h2))), fun z => atom_rp h2 (g3 z)⟩
  · rw [notOb oi hx] at ox; cases ox
  · obtain ⟨h1, h2⟩ := forget_some z
    obtain ⟨g1, v, g2, g3⟩ := S.ol i x oi h1
    refine ⟨g1, v, g2, Rp.mono (fun b o h => ?_) _ _ g3⟩
    have ne : b ≠ p := fun z => by
      subst z
      unfold inter at h
      rw [if_pos bp] at h
      cases h
    unfold inter at h ⊢
    rw [without_ne ne]
    exact h
  · obtain ⟨h1, h2⟩ := forget_some z
    rcases h2 with h2 | h2
    · rw [(hk i (by simpa using h2)).2] at oi; cases oi
    · obtain ⟨v, g1, g2⟩ := S.nf i x oi h1
      exact ⟨v, g1, fun q ob _ => by rw [atom_ob h2] at ob; cases ob⟩

/-! ### statements of a group -/
def tJS2 (K : PySem.W.Frag) (o : Nat) (a : List Bool) (r : KR) (f : DS) : TS := fun D σ H => ∃ F0 B F δ, Same F0 B ∧ SI K F0 B F H σ a δ ∧ OutOk K o F0 B r D (f δ)
def JS2 (X : Cx) (o : Nat) (a : List Bool) (st : Stmt) (r : KR) (f : DS) : Prop := PS X st (tJS2 X.K o a r f)
def JSs2 (X : Cx) (o : Nat) (a : List Bool) (st : List Stmt) (r : KR) (f : DS) : Prop := PSs X st (tJS2 X.K o a r f)
theorem JS.to2 (h : JS X o a st r g) : JS2 X o a st r g := h.imp fun D σ H ⟨F0, B, F, δ, _, S, q⟩ => ⟨F0, B, F, δ, S, q⟩
theorem JSs.to2 (h : JSs X o a sts r g) : JSs2 X o a sts r g := h.imp fun D σ H ⟨F0, B, F, δ, _, S, q⟩ => ⟨F0, B, F, δ, S, q⟩
theorem JS2.less (h : JS2 X o a st r g) (hl : r.le r') : JS2 X o a st r' g := h.imp fun D σ H ⟨F0, B, F, δ, e, S, q⟩ => ⟨F0, B, F, δ, e, S, q.less hl⟩
theorem JSs2.less (h : JSs2 X o a sts r g) (hl : r.le r') : JSs2 X o a sts r' g := h.imp fun D σ H ⟨F0, B, F, δ, e, S, q⟩ => ⟨F0, B, F, δ, e, S, q.less hl⟩
theorem JS2.pre (h : JS2 X o b st r g) (hl : leA b a = true) : JS2 X o a st r g := h.imp fun D σ H ⟨F0, B, F, δ, e, S, q⟩ => by
  obtain ⟨F', _, S'⟩ := S.less hl
  exact ⟨F0, B, F', δ, e, S', q⟩
theorem js2_if {q : Pos} {t : DT} {s1 s2 : List Stmt} {g1 g2 : DS} (ht : JT X wi0 a e t) (h1 : JSs2 X o a s1 r g1) (h2 : JSs2 X o a s2 r g2) : JS2 X o a (.If e s1 s2 q) r (sIf t g1 g2) := (ps_if ht h1 h2).imp fun D σ H ⟨F0, B, F, δ, base, S, q⟩ => by
  obtain ⟨b, e1, q⟩ := q.ofR
  refine ⟨F0, B, F, δ, S, Ans.of_ok e1 fun F' H' S' _ _ _ => ?_⟩
  cases b with
  | true => exact ⟨F0, B, F', δ, base, S', q⟩
  | false => exact ⟨F0, B, F', δ, base, S', q⟩
theorem jss2_nil (h : r.nx = a) : JSs2 X o a [] r (sSeq []) := pss_nil.imp fun D σ H ⟨F0, B, F, δ, _, S, q⟩ => q σ F H (by rw [h]; exact S)
theorem jss2_one (h : JS2 X o a st r g) : JSs2 X o a [st] r (sSeq [g]) := pss_one h
theorem jss2_cons {gs : List DS} {g2 : DS} {st2 : Stmt} {sts : List Stmt} {r1 r2 : KR} (h : JS2 X o a st r1 g) (t : JSs2 X o r1.nx (st2 :: sts) r2 (sSeq (g2 :: gs))) (hb : r1.bk = r.bk) (hb2 : r2.bk = r.bk) (hc : r1.ct = r.ct) (hc2 : r2.ct = r.ct) (hn : r2.nx = r.nx) :
    JSs2 X o a (st :: st2 :: sts) r (sSeq (g :: g2 :: gs)) := (pss_cons h t).imp fun D σ H ⟨F0, B, F, δ, base, S, q⟩ => by
  refine ⟨F0, B, F, δ, base, S, ?_⟩
  have q : OutOk X.K o F0 B r D (andThen (g δ) (sSeq (g2 :: gs))) := q
  revert q
  cases g δ with
  | nx δ' =>
    intro q σ' F' H' S'
    refine ⟨F0, B, F', δ', base, S', ?_⟩
    have e : r2 = r := by cases r2; cases r; simp_all
    rw [e]
    exact q
  | bk δ' => intro q σ' F' H' S'; rw [hb] at S'; exact q σ' F' H' S'
  | ct δ' => intro q σ' F' H' S'; rw [hc] at S'; exact q σ' F' H' S'
  | rt d => exact fun q => q
  | err _ _ => exact fun q => q
  | bad => exact fun q => q
/-- x.append(e) of what x holds, which is newer than the group's base -/
theorem js2_dead {q apos px : Pos} {i : Nat} {x : Str} (he : JE X wi0 a e f 2) (hp : plainE e = true) (hi : X.N[i]? = some x) (hv : Vis X.env.scope x) (hd : notDbg x = true) (hl : (apos.endLine == pos.line) = true) (hn : nw1 a i = true) (ho : own a i = false) (hk : ∀ j ∈ keep, old a j = true ∧ nw1 a j = false) (h : r.nx = a) :
    JS2 X o a (.Expr (.Call (.Attribute (.Name x px) "append" apos) [e] [] pos) q) r (sDead keep (eV i) f) := by
  have pe := pe_bm (cpos := pos) (apos := apos) (es := []) PySem.F.plainAttrs_list PySem.F.slot_list_append PySem.F.type_list_append mt_append (pe_var (pos := px) hi hv (dbg1 hd) (dbg2 hd)) (ja_all (.cons he .nil) (by simp [hp])) rfl
    (by show ((backTo pos (starEach [e] X.env)).all (fun x => !x.1) && true && decide (1 + 0 + 0 < 30)) = true
        rw [star_all pos (by simp [hp])]; rfl) hl (star_cons hp) rfl
  refine (ps_expr pe rfl).imp fun D σ H ⟨F0, B, F, δ, base, S, q⟩ => ?_
  obtain ⟨d, e0, q⟩ := q.ofR
  obtain ⟨d2, e1, q⟩ := q.ofR
  unfold eV at e0
  split at e0
  · rename_i d' hds
    cases e0
    cases d with
    | list ds =>
      have q : OutOk X.K o F0 B r D (if ds.length < lim then Out.nx (forgetF keep 0 δ) else Out.bad) := q
      split at q
      · rename_i hlen
        obtain ⟨v, ev, g1⟩ := S.nf i _ hn hds
        obtain ⟨w, ev2, _, g2⟩ := S.sl i _ hds
        rw [ev] at ev2
        cases ev2
        obtain ⟨p, xs0, rfl, _, _⟩ := (show Rh X.K F H v (.list ds) from .inl (g2 ho)).list_inv S.FH
        obtain ⟨bp, g3⟩ := g1 p rfl rfl
        obtain ⟨u, fp, ob⟩ := g3 ho
        cases ob with
        | lst rx =>
          rename_i xs
          refine ⟨_, ev, .inl ⟨rfl, xs, SqL.of (S.FH _ _ fp)⟩, F0, B, F, δ, S, ?_⟩
          refine Ans.of_ok (y := [d2]) (by unfold evs; rw [e1]; rfl) fun vs F' H' S' e3 e4 n1 rs => ?_
          cases rs with
          | cons rv rs =>
            cases rs
            refine ⟨p, xs, _, rfl, rfl, e4 _ _ (S.FH _ _ fp), ?_, ?_⟩
            · rw [rx.length]
              exact Nat.lt_of_lt_of_le hlen (by decide)
            · exact q σ _ _ (by rw [h]; exact S'.dead base hk bp)
      · exact q.elim
    | _ => exact False.elim q
  · cases e0
/-! ### a group: a new base -/
def mark (a : List Bool) (keep : List Nat) : List Bool := (List.range a.length).map fun k => if k % 4 = 0 then bit a k else if k % 4 = 1 then keep.contains (k / 4) && !own a (k / 4) else false
def unold (a : List Bool) : List Bool := (List.range a.length).map fun k => if k % 4 = 1 then false else bit a k
theorem bit_map (a : List Bool) (f : Nat → Bool) (k : Nat) : bit ((List.range a.length).map f) k = (decide (k < a.length) && f k) := by
  unfold bit
  rw [List.getD_eq_getElem?_getD, List.getElem?_map]
  by_cases h : k < a.length
  · rw [List.getElem?_range h, decide_eq_true h]; simp
  · rw [List.getElem?_eq_none (by rw [List.length_range]; omega), decide_eq_false h]; rfl
theorem bit_lt {a : List Bool} {k : Nat} (h : bit a k = true) : k < a.length := by
  apply Classical.byContradiction
  intro z
  unfold bit at h
  rw [List.getD_eq_getElem?_getD, List.getElem?_eq_none (by omega)] at h
  cases h
theorem own_mark (i : Nat) : own (mark a keep) i = own a i := by
  unfold own mark
  rw [bit_map, if_pos (by omega)]
  cases h : bit a (4 * i) with
  | false => rw [Bool.and_false]
  | true => rw [decide_eq_true (bit_lt h)]; rfl
theorem old_mark {i : Nat} (h : old (mark a keep) i = true) : own a i = false := by
  unfold old mark at h
  rw [bit_map, if_neg (by omega), if_pos (by omega)] at h
  simp only [Bool.and_eq_true] at h
  obtain ⟨_, _, h⟩ := h
  rw [show (4 * i + 1) / 4 = i by omega] at h
  simpa using h
theorem nw_mark {i : Nat} (h : nw1 (mark a keep) i = true) : False := by
  unfold nw1 mark at h
  rw [bit_map, if_neg (by omega), if_neg (by omega), Bool.and_false] at h
  cases h
theorem own_unold (i : Nat) : own (unold a) i = own a i := by
  unfold own unold
  rw [bit_map, if_neg (by omega)]
  cases h : bit a (4 * i) with
  | false => rw [Bool.and_false]
  | true => rw [decide_eq_true (bit_lt h)]; rfl
theorem old_unold {i : Nat} (h : old (unold a) i = true) : False := by
  unfold old unold at h
  rw [bit_map, if_pos (by omega), Bool.and_false] at h
  cases h
theorem nw_unold {i : Nat} (h : nw1 (unold a) i = true) : nw1 a i = true := by
  unfold nw1 unold at h
  rw [bit_map, if_neg (by omega), Bool.and_eq_true] at h
  exact h.2
def union (B F : Hp) : Hp := fun b => match B b with
  | some u => some u
  | none => F b
theorem union_l {B F : Hp} : Same B (union B F) := fun b o h => by unfold union; rw [h]
theorem union_r {B F H : Hp} (h1 : Same B H) (h2 : Same F H) : Same F (union B F) := fun b o h => by
  unfold union
  cases z : B b with
  | none => exact h
  | some u =>
    have e1 := h1 b u z
    have e2 := h2 b o h
    rw [e1] at e2
    exact e2
theorem union_to {B F H : Hp} (h1 : Same B H) (h2 : Same F H) : Same (union B F) H := fun b o h => by
  unfold union at h
  cases z : B b with
  | none => rw [z] at h; exact h2 b o h
  | some u => rw [z] at h; cases h; exact h1 b _ z
theorem union_no {B F : Hp} {p : Addr} (h : union B F p = none) : B p = none ∧ F p = none := by
  unfold union at h
  cases z : B p with
  | none => rw [z] at h; exact ⟨rfl, h⟩
  | some u => rw [z] at h; cases h
theorem union_none {B F : Hp} {p : Addr} (h1 : B p = none) (h2 : F p = none) : union B F p = none := by
  unfold union
  rw [h1]
  exact h2
theorem SI.mark (S : SI K F0 B F H σ a δ) : SI K F (union B F) F H σ (mark a keep) δ where
  len := S.len
  BH := union_to S.BH S.FH
  FH := S.FH
  F0F := Same.refl F
  new := New.refl _ _
  sl := fun i d h => by
    rw [own_mark]
    obtain ⟨v, g1, g2, g3⟩ := S.sl i d h
    refine ⟨v, g1, fun z => ?_, g3⟩
    cases ob : isOb d with
    | true =>
      obtain ⟨p, u, e, fp, bp, hp, r⟩ := (g2 z).ob ob
      exact .of ob ⟨p, u, e, fp, union_none bp fp, hp, r⟩
    | false => exact .ofNo ob ((g2 z).no ob)
  dj := fun i j d e p oi oj => by
    rw [own_mark] at oi oj
    exact S.dj i j d e p oi oj
  ol := fun i d o h => by
    rw [own_mark]
    have z := old_mark o
    obtain ⟨v, g1, _, g3⟩ := S.sl i d h
    refine ⟨z, v, g1, Rp.mono (fun b x e => ?_) _ _ (g3 z)⟩
    have := union_r S.BH S.FH b x e
    unfold inter
    rw [if_neg (by rw [this]; simp)]
    exact e
  nf := fun i d o _ => (nw_mark o).elim
theorem SI.unmark {Bf Ff Hf : Hp} (BF : Same Bf Hf) (f0 : Same F0 Ff) (nw : New Bf F0 Ff) (S : SI K Ff (union Bf Ff) F H σ a δ) : SI K F0 Bf F H σ (unold a) δ where
  len := S.len
  BH := union_l.trans S.BH
  FH := S.FH
  F0F := f0.trans S.F0F
  new := nw.trans (New.back union_l S.new)
  sl := fun i d h => by
    rw [own_unold]
    obtain ⟨v, g1, g2, g3⟩ := S.sl i d h
    exact ⟨v, g1, fun z => Ow.early union_l (g2 z), g3⟩
  dj := fun i j d e p oi oj => by
    rw [own_unold] at oi oj
    exact S.dj i j d e p oi oj
  ol := fun i d o _ => (old_unold o).elim
  nf := fun i d o h => by
    rw [own_unold]
    obtain ⟨v, g1, g2⟩ := S.nf i d (nw_unold o) h
    exact ⟨v, g1, fun p ob e => ⟨(union_no (g2 p ob e).1).1, (g2 p ob e).2⟩⟩
def KR.unold (r : KR) : KR := ⟨Dv.unold r.nx, Dv.unold r.bk, Dv.unold r.ct⟩
theorem jss_grp (h : JSs2 X o (mark a keep) sts r g) : JSs X o a sts r.unold g := h.imp fun D σ H ⟨F0, B, F, δ, S, q⟩ => by
  refine ⟨F, union B F, F, δ, union_r S.BH S.FH, S.mark, ?_⟩
  revert q
  cases g δ with
  | nx δ' => exact fun q σ' F' H' S' => q σ' F' H' (S'.unmark S.BH S.F0F S.new)
  | bk δ' => exact fun q σ' F' H' S' => q σ' F' H' (S'.unmark S.BH S.F0F S.new)
  | ct δ' => exact fun q σ' F' H' S' => q σ' F' H' (S'.unmark S.BH S.F0F S.new)
  | rt d => exact fun q v F' H' g1 g2 g3 g4 g5 => q v F' H' (S.F0F.trans g1) (union_l.trans g2) g3 (S.new.trans (New.back union_l g4)) (g5.back union_l union_l)
  | err _ _ => exact fun q => q
  | bad => exact fun q => q
end Dv
/-! Dv33: targets of what is newer than B. -/
namespace Dv
open PySem PySem.Spec PyProof.Rows L2
variable {X : Cx} {W : Wi} {K : PySem.W.Frag} {F F' F0 F1 B H H' H1 : Hp} {v : V} {d : D} {k : Nat} {σ : L2.St} {δ : Env} {pins : List (Addr × Obj)} {s : Shared} {Q : VK} {e tg a1 b1 : Expr} {a b : List Bool} {f fa fb : DE} {pos p : Pos} {c : Cfg} {n : Nat} {sc : Scope} {o : Nat} {D : Ends}
variable {st : Stmt} {sts : List Stmt} {r r' : KR} {g : DS}

def clrN (a : List Bool) : List Nat → List Bool
  | [] => a
  | t :: ts => nwS (stF (clrN a ts) t) t
theorem clrN_app : ∀ (ts us : List Nat), clrN a (ts ++ us) = clrN (clrN a us) ts
  | [], _ => rfl
  | t :: ts, us => by show nwS (stF (clrN a (ts ++ us)) t) t = nwS (stF (clrN (clrN a us) ts) t) t; rw [clrN_app ts us]
def tJGN (K : PySem.W.Frag) (a : List Bool) (m : Nat) (g : TF) (ts : List Nat) : TG := fun v σ H Q => ∃ F0 B F δ d, SI K F0 B F H σ a δ ∧ Rp K F v d ∧ Nw K B F m v d ∧
  Ans (g d δ) (fun δ' => ∀ σ', SI K F0 B F H σ' (clrN a ts) δ' → Q σ' H) noE
def tJGNs (K : PySem.W.Frag) (a : List Bool) (gs : List TF) (ts : List Nat) : TGs := fun vs σ H Q => ∃ F0 B F δ ds, SI K F0 B F H σ a δ ∧ Rps K F vs ds ∧ (∀ (i : Nat) (w : V) (x : Dv.D), vs[i]? = some w → ds[i]? = some x → Nw K B F 1 w x) ∧
  Ans (gAll gs ds δ) (fun δ' => ∀ σ', SI K F0 B F H σ' (clrN a ts) δ' → Q σ' H) noE
theorem jgn_name {i : Nat} {x : Str} (nd : X.N.Nodup) (hi : X.N[i]? = some x) (hx : Loc X.env.scope x) (hf : X.fn x = true ∨ X.env.scope.names.lookup x = some .local) : PG X (.Name x pos) (tJGN X.K a 1 (gNm i) [i]) :=
  (pg_name nd hi hx hf).imp fun v σ H Q ⟨F0, B, F, δ, d, S, r, w, q⟩ => q (σ.set i (some v)) (S.setN r w)
theorem jgns_nil : PGs X [] (tJGNs X.K a [] []) := pgs_nil.imp fun vs σ H Q ⟨F0, B, F, δ, ds, S, rs, w, q⟩ => by
  cases ds with
  | nil => cases rs; exact ⟨rfl, q σ S⟩
  | cons d ds => exact False.elim q
theorem jgns_cons {e : Expr} {es : List Expr} {g : TF} {gs : List TF} {ts us : List Nat} (h : PG X e (tJGN X.K a 1 g ts)) (t : PGs X es (tJGNs X.K (clrN a ts) gs us)) (hp : plainT e = true) : PGs X (e :: es) (tJGNs X.K a (g :: gs) (us ++ ts)) :=
  (pgs_cons h t (by cases e <;> first | rfl | cases hp)).imp fun vs σ H Q ⟨F0, B, F, δ, ds, S, rs, w, q⟩ => by
    cases ds with
    | nil => exact False.elim q
    | cons d ds =>
      cases rs with
      | cons r rs =>
        unfold gAll at q
        rw [Ans.bind_iff] at q
        refine ⟨_, _, rfl, F0, B, F, δ, d, S, r, w 0 _ _ rfl rfl, q.imp fun δ' q σ' S' => ⟨F0, B, F, δ', ds, S', rs, fun i y x h1 h2 => w (i + 1) y x (by simpa using h1) (by simpa using h2), q.imp fun δ2 q σ2 S2 => q σ2 (by rw [clrN_app]; exact S2)⟩⟩
theorem jgn_tup {es : List Expr} {gs : List TF} {ts : List Nat} {kk : Nat} (hc : X.calm = true) (hp : es.all plainT = true) (hl : gs.length = es.length) (h : PGs X es (tJGNs X.K a gs ts)) : PG X (.Tuple es kk pos) (tJGN X.K a 2 (gTp gs) ts) :=
  (pg_or (pg_tup hc h (n := es.length) each_len (each_plain hp)) (pg_lst hc h (n := es.length) each_len (each_plain hp))).imp fun v σ H Q ⟨F0, B, F, δ, d, S, r, w, q⟩ => by
    unfold gTp at q
    rw [Ans.bind_iff] at q
    cases d with
    | tuple ds =>
      have q : Ans (gAll gs ds δ) _ noE := q
      obtain ⟨p, xs, rfl, sq, rs, ws⟩ := w
      exact .inl ⟨_, _, rfl, same_t S.FH sq, by rw [rs.length, gAll_len q, hl], F0, B, F, δ, ds, S, rs, ws, q⟩
    | list ds =>
      have q : Ans (gAll gs ds δ) _ noE := q
      obtain ⟨p, xs, rfl, bp, fp, rs, ws⟩ := w
      exact .inr ⟨_, _, rfl, SqL.of (S.FH _ _ fp), by rw [rs.length, gAll_len q, hl], F0, B, F, δ, ds, S, rs, ws, q⟩
    | _ => exact False.elim q
theorem js_asgN {q : Pos} {m : Nat} {ts : List Nat} {gt : TF} (he : JE X wi0 a e f (m + 4)) (hg : PG X tg (tJGN X.K a m gt ts)) (hs : swapsWithSole [tg] e q.line X.env = pure false) (hw : swappedStores [tg] e X.env = pure none) (hp : plainT tg = true) (h : r.nx = clrN a ts) :
    JS X o a (.Assign [tg] e q) r (sAsg gt f) := (ps_asg he hg hs hw (by cases tg <;> first | rfl | cases hp)).imp fun D σ H ⟨F0, B, F, δ, S, q⟩ => by
  obtain ⟨d, e1, q⟩ := q.ofR
  obtain ⟨δ', e2, q⟩ := q.ofR
  exact ⟨F0, B, F, δ, S, Ans.of_ok e1 fun v F' H' S' _ _ _ rv => ⟨F0, B, F', δ, d, S', rv.1, rv.2, Ans.of_ok e2 fun σ' S2 => q σ' F' H' (by rw [h]; exact S2)⟩⟩
def isNmE : Expr → Bool
  | .Name _ _ => true
  | _ => false
theorem tgn_ok (C : Ctx c X sc) {tsc : Scope} (hst : StOk X tsc) : ∀ (n : Nat) (es : List Expr) (ts : List Nat), es.all isNmE = true → tSs (tS c n tsc) es = some ts → ∀ a, PGs X es (tJGNs X.K a (es.map (dG c n tsc)) ts) := by
  intro n es
  induction es with
  | nil => intro ts _ h a; cases h; exact jgns_nil
  | cons e es ihs =>
    intro ts hp h a
    rw [List.all_cons] at hp
    obtain ⟨hp1, hp2⟩ := and2 hp
    unfold tSs at h
    obtain ⟨t1, e1, h⟩ := Option.bind_eq_some_iff.mp h
    obtain ⟨t2, e2, h⟩ := Option.bind_eq_some_iff.mp h
    cases h
    cases n with
    | zero => cases e1
    | succ n =>
      cases e with
      | Name x px =>
        unfold tS at e1
        dsimp only at e1
        split at e1
        · rename_i hl
          split at e1
          · rename_i i hs
            cases e1
            have ed : dG c (n + 1) tsc (.Name x px) = gNm i := by
              unfold dG
              dsimp only
              rw [if_pos hl, hs]
            rw [List.map_cons, ed]
            obtain ⟨h1, h2⟩ := hst x hl
            exact jgns_cons (jgn_name C.nd (C.slot hs) h1 h2) (ihs t2 hp2 e2 _) rfl
          · cases e1
        · cases e1
      | _ => cases hp1
/-- a, b = x, y, stored one by one: the tuple is not kept -/
theorem js_unp {x y : Str} {e1 e2 : Expr} {f1 f2 : DE} {i j : Nat} {px py pt p2 q : Pos} {kt k2 : Nat} {b1 b2 : Nat} (hc : X.calm = true) (nd : X.N.Nodup) (hi : X.N[i]? = some x) (hj : X.N[j]? = some y)
    (hx : Loc X.env.scope x ∧ (X.fn x = true ∨ X.env.scope.names.lookup x = some .local)) (hy : Loc X.env.scope y ∧ (X.fn y = true ∨ X.env.scope.names.lookup y = some .local)) (h1 : JE X wi0 a e1 f1 b1) (h2 : JE X wi0 a e2 f2 b2) (hp : [e1, e2].all plainE = true)
    (hw : swappedStores [.Tuple [.Name x px, .Name y py] kt pt] (.Tuple [e1, e2] k2 p2) X.env = pure none) (hs : swapsWithSole [.Tuple [.Name x px, .Name y py] kt pt] (.Tuple [e1, e2] k2 p2) q.line X.env = pure false)
    (i1 : isP b1 = true) (i2 : isP b2 = true) (o1 : (b1 == 3) = true → own (stO a i) i = true) (o2 : (b2 == 3) = true → own (stO (stK a i b1) j) j = true) (hr : r.nx = stK (stK a i b1) j b2) :
    JS X o a (.Assign [.Tuple [.Name x px, .Name y py] kt pt] (.Tuple [e1, e2] k2 p2) q) r (sAsg (gTp [gNm i, gNm j]) (eTup [f1, f2])) := by
  rw [List.all_cons, List.all_cons, Bool.and_eq_true, Bool.and_eq_true] at hp
  refine (ps_asg (pe_tup (pa_cons h1 (pa_cons h2 pa_nil (star_cons hp.2.1)) (star_cons hp.1))) (pg_tup hc (pgs_cons (pg_name nd hi hx.1 hx.2) (pgs_cons (pg_name nd hj hy.1 hy.2) pgs_nil rfl) rfl) (n := 2) rfl rfl) hs hw rfl).imp fun D σ H ⟨F0, B, F, δ, S, q⟩ => ?_
  obtain ⟨d, q1, q⟩ := q.ofR
  obtain ⟨δ2, q2, q⟩ := q.ofR
  obtain ⟨ds, q3, rfl⟩ : ∃ ds, evs [f1, f2] δ = .ok ds ∧ d = .tuple ds := by
    obtain ⟨ds, h1, h2⟩ := R.bind_eq_ok q1
    cases h2
    exact ⟨ds, h1, rfl⟩
  have hl := evs_len _ _ _ q3
  match ds, hl, q2, q3 with
  | [d1, d2], _, q2, q3 =>
    have e : δ2 = (δ.set i (some d1)).set j (some d2) := by
      have : Dv.R.ok ((δ.set i (some d1)).set j (some d2)) = Dv.R.ok δ2 := q2
      cases this; rfl
    subst e
    have g12 : f1 δ = .ok d1 ∧ f2 δ = .ok d2 := by
      unfold evs at q3
      obtain ⟨x, h1, h⟩ := R.bind_eq_ok q3
      obtain ⟨xs, h2, h⟩ := R.bind_eq_ok h
      unfold evs at h2
      obtain ⟨y, h3, h2⟩ := R.bind_eq_ok h2
      obtain ⟨ys, h4, h2⟩ := R.bind_eq_ok h2
      unfold evs at h4
      cases h4
      cases h2
      cases h
      exact ⟨h1, h3⟩
    obtain ⟨g1, g2⟩ := g12
    refine ⟨F0, B, F, δ, S, Ans.of_ok g1 fun v F1 H1 S1 e1 e2 n1 r1 => ⟨F0, B, F1, δ, S1, Ans.of_ok g2 fun w F2 H2 S2 e3 e4 n2 r2 => ⟨by show 2 ≤ _; decide, fun p hp => ?_⟩⟩⟩
    have T1 := SI.setP S S1 i1 o1 r1
    have T2 := SI.setP T1 (T1.later e3 e4 S2.FH n2) i2 o2 r2
    have T3 := T2.grow (same_new (o := .tup [v, w]) hp)
    exact ⟨p, [v, w], rfl, SqT.of upd_same, rfl, v, [w], rfl, w, [], rfl, rfl, q _ F2 _ (by rw [hr]; exact T3)⟩
end Dv
/-! Dv19: the look at statements. -/
namespace Dv
open PySem PySem.Spec PyProof.Rows L2

/-- the slots of the names that flow to where what is frozen is wanted (no proof leans on it) -/
def fzE (c : Cfg) : Nat → Bool → Scope → Expr → List Nat
  | 0, _, _, _ => []
  | n + 1, esc, sc, e => match e with
    | .Name x _ => if esc && vis sc x then (c.slot x).toList else []
    | .BinOp x _ y _ => fzE c n false sc x ++ fzE c n false sc y
    | .UnaryOp _ x _ => fzE c n false sc x
    | .BoolOp _ es _ => es.flatMap (fzE c n esc sc)
    | .IfExp t x y _ => fzE c n false sc t ++ fzE c n esc sc x ++ fzE c n esc sc y
    | .Compare x _ ys _ => fzE c n false sc x ++ ys.flatMap (fzE c n false sc)
    | .List es _ => es.flatMap (fzE c n true sc)
    | .Dict ks vs _ => ks.flatMap (fun k => k.toList.flatMap (fzE c n false sc)) ++ vs.flatMap (fzE c n true sc)
    | .Tuple es _ _ => es.flatMap (fzE c n true sc)
    | .Starred e _ => fzE c n false sc e
    | .Subscript x i _ => fzE c n false sc x ++ fzE c n false sc i
    | .Slice lo hi st _ => lo.toList.flatMap (fzE c n false sc) ++ hi.toList.flatMap (fzE c n false sc)
    | .ListComp elt gens scope _ => fzE c n true (rel scope sc) elt ++ (match genK gens with
      | .one _ it ifs => fzE c n false sc it ++ ifs.flatMap (fzE c n false (rel scope sc))
      | .two _ it ifs _ it2 ifs2 => fzE c n false sc it ++ ifs.flatMap (fzE c n false (rel scope sc)) ++ fzE c n true (rel scope sc) it2 ++ ifs2.flatMap (fzE c n false (rel scope sc))
      | .no => [])
    | .DictComp kx vx gens scope _ => fzE c n false (rel scope sc) kx ++ fzE c n true (rel scope sc) vx ++ (match genK gens with
      | .one _ it ifs => fzE c n false sc it ++ ifs.flatMap (fzE c n false (rel scope sc))
      | _ => [])
    | .Call f as kws _ => (match callK c sc f as kws with
      | .listI x => fzE c n false sc x
      | .isl x => fzE c n false sc x
      | .fn x => as.flatMap (fzE c n (((fnOf c sc x).isSome && !fnFlat c x) || (esc && (x == "enumerate" || x == "zip"))) sc)
      | .met ob _ => fzE c n false sc ob ++ as.flatMap (fzE c n false sc)
      | .get1 ob k => fzE c n false sc ob ++ fzE c n false sc k
      | .get2 ob k z => fzE c n false sc ob ++ fzE c n false sc k ++ fzE c n true sc z
      | .no => [])
    | _ => []
def top (c : Cfg) : List Bool := List.replicate (4 * c.N.length) true
def mt (a b : List Bool) : List Bool := List.zipWith (· && ·) a b
def KR.all (c : Cfg) : KR := ⟨top c, top c, top c⟩
def KR.go (c : Cfg) (a : List Bool) : KR := ⟨a, top c, top c⟩
def noComp : Expr → Bool
  | .ListComp _ _ _ _ => false
  | .SetComp _ _ _ _ => false
  | .DictComp _ _ _ _ _ => false
  | _ => true
def noTup : Expr → Bool
  | .Tuple _ _ _ => false
  | _ => true
def plainIx : Expr → Bool
  | .Slice _ _ _ _ => false
  | _ => true
def genOk : List Comprehension → Bool
  | gens => match genK gens with
    | .no => false
    | _ => true
/-- the kind of what a name is set to: frozen, new, frozen and newer than the def's entry -/
def kP (c : Cfg) (n : Nat) (a : List Bool) (sc : Scope) (e : Expr) : Nat := if kE c n a sc e = 3 then 3 else if 1 ≤ kL c n a sc e then 5 else 2
/-- x = e, a, b = e at the state a -/
def kA (c : Cfg) (n : Nat) (sc : Scope) (a : List Bool) (tg e : Expr) : Option KR := match tg with
  | .Name x px => if loc sc x then (match c.slot x with
    | some i => (match e with
      | .ListComp elt gens scope pos => if sc.names.lookup x == some .local && px.line == pos.line && !(scope.names.any fun (n, k) => n == x && (k == .local || k == .cell))
          then (if kE c n a sc e == 3 && genOk gens && own (stO a i) i then some (.go c (stO a i)) else none)
          else (if kE c n a sc e == 3 && own (stO a i) i then some (.go c (stO a i)) else none)
      | .DictComp kx vx gens scope pos => if sc.names.lookup x == some .local && px.line == pos.line && !(scope.names.any fun (n, k) => n == x && (k == .local || k == .cell))
          then (if kE c n a sc e == 3 && genOk gens && own (stO a i) i then some (.go c (stO a i)) else none)
          else (if kE c n a sc e == 3 && own (stO a i) i then some (.go c (stO a i)) else none)
      | e => if noComp e then (if kE c n a sc e == 3 && own (stO a i) i then some (.go c (stO a i)) else if kF (kE c n a sc e) then some (.go c (if 1 ≤ kL c n a sc e then clrN a [i] else clr a [i])) else none) else none)
    | none => none) else none
  | .Tuple ts _ _ => (match tS c n sc tg with
    | some tl => (match e with
      | .Tuple vs _ _ => (match swP sc ts vs with
        | some none => (match ts, vs with
          | [.Name x _, .Name y _], [e1, e2] => (match c.slot x, c.slot y with
            | some i, some j => if loc sc x && loc sc y && kF (kE c (n - 1) a sc e1) && kF (kE c (n - 1) a sc e2) && vs.all plainE &&
                  (!(kP c (n - 1) a sc e1 == 3) || own (stO a i) i) && (!(kP c (n - 1) a sc e2 == 3) || own (stO (stK a i (kP c (n - 1) a sc e1)) j) j)
                then some (.go c (stK (stK a i (kP c (n - 1) a sc e1)) j (kP c (n - 1) a sc e2))) else if kF (kE c n a sc e) then some (.go c (clr a tl)) else none
            | _, _ => none)
          | _, _ => if kF (kE c n a sc e) then some (.go c (clr a tl)) else none)
        | some (some _) => (match ts, vs with
          | [.Name x _, .Name y _], [e1, e2] => (match c.slot x, c.slot y with
            | some i, some j => if swP sc ts vs == some (some [x, y]) && i != j && sc.names.lookup x == some .local && sc.names.lookup y == some .local && kF (kE c (n - 1) a sc e1) && kF (kE c (n - 1) a sc e2) && vs.all plainE &&
                  (!(kP c (n - 1) a sc e1 == 3) || own (stO a i) i) && (!(kP c (n - 1) a sc e2 == 3) || own (stO (stK a i (kP c (n - 1) a sc e1)) j) j)
                then some (.go c (stK (stK a i (kP c (n - 1) a sc e1)) j (kP c (n - 1) a sc e2))) else none
            | _, _ => none)
          | [.Name x _, .Name y _, .Name z _], [e1, e2, e3] => (match c.slot x, c.slot y, c.slot z with
            | some i, some j, some l => if swP sc ts vs == some (some [x, y, z]) && i != j && i != l && j != l && sc.names.lookup x == some .local && sc.names.lookup y == some .local && sc.names.lookup z == some .local &&
                kF (kE c (n - 1) a sc e1) && kF (kE c (n - 1) a sc e2) && kF (kE c (n - 1) a sc e3) && vs.all plainE &&
                  (!(kP c (n - 1) a sc e1 == 3) || own (stO a i) i) && (!(kP c (n - 1) a sc e2 == 3) || own (stO (stK a i (kP c (n - 1) a sc e1)) j) j) && (!(kP c (n - 1) a sc e3 == 3) || own (stO (stK (stK a i (kP c (n - 1) a sc e1)) j (kP c (n - 1) a sc e2)) l) l)
                then some (.go c (stK (stK (stK a i (kP c (n - 1) a sc e1)) j (kP c (n - 1) a sc e2)) l (kP c (n - 1) a sc e3))) else none
            | _, _, _ => none)
          | _, _ => none)
        | none => none)
      | _ => if kF (kE c n a sc e) then some (.go c (if ts.all isNmE && decide (2 ≤ kL c n a sc e) then clrN a tl else clr a tl)) else none)
    | none => none)
  | _ => none
def loopA (body : List Bool → Option KR) : Nat → List Bool → Option (List Bool × KR)
  | 0, _ => none
  | m + 1, a => match body a with
    | some r => if leA a r.nx && leA a r.ct then some (a, r) else loopA body m (mt a (mt r.nx r.ct))
    | none => none
def isMk (c : Cfg) : Stmt → Bool
  | .Assign [.Name x _] _ _ => c.dd.contains x
  | .Assign [.Tuple es _ _] _ _ => es.any fun e => match e with
    | .Name x _ => c.dd.contains x
    | _ => false
  | _ => false
def kB2 (c : Cfg) (f : List Bool → Stmt → Option KR) : List Bool → List Stmt → Option KR
  | a, [] => some (.go c a)
  | a, s :: ss => match ss with
    | [] => f a s
    | _ => (match f a s with
      | some r1 => (match kB2 c f r1.nx ss with
        | some r2 => some ⟨r2.nx, mt r1.bk r2.bk, mt r1.ct r2.ct⟩
        | none => none)
      | none => none)
def kB (c : Cfg) (f f2 : List Bool → Stmt → Option KR) : List Bool → List Stmt → Option KR
  | a, [] => some (.go c a)
  | a, s :: ss => if isMk c s then (if leA (drps a c.kp) a then (kB2 c f2 (mark (drps a c.kp) c.kp) (s :: ss)).map KR.unold else none) else match ss with
    | [] => f a s
    | _ => (match f a s with
      | some r1 => (match kB c f f2 r1.nx ss with
        | some r2 => some ⟨r2.nx, mt r1.bk r2.bk, mt r1.ct r2.ct⟩
        | none => none)
      | none => none)
def kS0 (c : Cfg) (o : Nat) (sc : Scope) (n : Nat) (f f2 : List Bool → Stmt → Option KR) (a : List Bool) (st : Stmt) : Option KR := match st with
    | .Pass _ => some (.go c a)
    | .Break _ => some ⟨top c, a, top c⟩
    | .Continue _ => some ⟨top c, top c, a⟩
    | .Return v _ => (match v with
      | some e =>
        let a1 := drps a (fzE c n (!(o == 3)) sc e)
        if leA a1 a && (if o = 3 then kle (kE c n a1 sc e) 1 && k3 (kE c n a1 sc e) else if o = 2 then kF (kE c n a1 sc e) else kF (kE c n a1 sc e) && decide (4 ≤ o) && decide (o - 4 ≤ kL c n a1 sc e)) then some (.all c) else none
      | none => some (.all c))
    | .Assign tgs e _ => (match tgK tgs with
      | .g tg => (match popK e with
        | some y => if loc sc y then (match c.slot y with
          | some i => (match tS c n sc tg with
            | some tl => if own a i && vis sc y && notDbg y && plainT tg && noTup e && (match e with
                | .Call f _ _ pos => f.pos.endLine == pos.line
                | _ => false) then some (.go c (clr a tl)) else none
            | none => none)
          | none => none) else none
        | none =>
        let a1 := drps a (fzE c n true sc e)
        if leA a1 a then kA c n sc a1 tg e else none)
      | .set x i => if loc sc x then (match c.slot x with
        | some j =>
          let a1 := drps a (fzE c n true sc e ++ fzE c n false sc i)
          if leA a1 a && kF (kE c n a1 sc e) && k3 (kE c n a1 sc i) && plainIx i && vis sc x && notDbg x && own a1 j && noComp e then some (.go c a1) else none
        | none => none) else none
      | .no => some (.all c))
    | .Expr e q => (match exK e with
      | .app x ax => if c.dd.contains x then none else if loc sc x then (match c.slot x with
        | some j =>
          let a1 := drps a (fzE c n true sc ax)
          if leA a1 a && kF (kE c n a1 sc ax) && plainE ax && vis sc x && notDbg x && own a1 j && (match e with
            | .Call f _ _ pos => f.pos.endLine == pos.line
            | _ => false) then some (.go c a1) else none
        | none => none) else none
      | .ext x ax => if loc sc x then (match c.slot x with
        | some j =>
          let a1 := drps a (fzE c n false sc ax)
          if leA a1 a && (kle (kE c n a1 sc ax) 1 && k3 (kE c n a1 sc ax)) && plainE ax && vis sc x && notDbg x && own a1 j && (match e with
            | .Call f _ _ pos => f.pos.endLine == pos.line
            | _ => false) then some (.go c a1) else none
        | none => none) else none
      | .appE ob ax =>
        let a1 := drps a (fzE c n false sc ob ++ fzE c n true sc ax)
        if leA a1 a && kE c n a1 sc ob == 3 && kF (kE c n a1 sc ax) && plainE ax && baseOk ob && (match e with
            | .Call f _ _ pos => f.pos.endLine == pos.line
            | _ => false) then some (.go c a1) else none
      | .doc => some (.go c a)
      | .other =>
        let a1 := drps a (fzE c n false sc e)
        if leA a1 a && noComp e && k3 (kE c n a1 sc e) then some (.go c a1) else none)
    | .If t x y _ =>
      let a1 := drps a (fzE c n false sc t)
      if leA a1 a && kT c n a1 sc t then (match kB c f f2 a1 x, kB c f f2 a1 y with
        | some r1, some r2 => some ⟨mt r1.nx r2.nx, mt r1.bk r2.bk, mt r1.ct r2.ct⟩
        | _, _ => none) else none
    | .For tg it body orelse _ => (match orelse with
      | [] => (match tS c n sc tg with
        | some ts => (match loopA (fun b => kB c f f2 (clr b ts) body) 9 (drps a (fzE c n true sc it)) with
          | some (b, rb) => if leA b a && kI c n b sc false (isTup tg) it && notSet it && leA (mt b rb.bk) b && leA (mt b rb.bk) rb.bk && leA b rb.nx && leA b rb.ct then some (.go c (mt b rb.bk)) else none
          | none => none)
        | none => none)
      | _ => some (.all c))
    | .While t body orelse _ => (match orelse with
      | [] => (match loopA (fun b => kB c f f2 b body) 9 (drps a (fzE c n false sc t)) with
        | some (b, rb) => if leA b a && kT c n b sc t && leA (mt b rb.bk) b && leA (mt b rb.bk) rb.bk && leA b rb.nx && leA b rb.ct then some (.go c (mt b rb.bk)) else none
        | none => none)
      | _ => some (.all c))
    | _ => some (.all c)
/-- x.append(e) of a name that is changed when it is not read any more -/
def dK (c : Cfg) : Stmt → Option (Str × Expr)
  | .Expr e _ => (match exK e with
    | .app x ax => if c.dd.contains x then some (x, ax) else none
    | _ => none)
  | _ => none
def kDead (c : Cfg) (n : Nat) (sc : Scope) (a : List Bool) (x : Str) (ax : Expr) (st : Stmt) : Option KR := if loc sc x then (match c.slot x with
  | some j =>
    let a1 := drps (drps a (fzE c n true sc ax)) [j]
    if leA a1 a && kF (kE c n a1 sc ax) && plainE ax && vis sc x && notDbg x && nw1 a1 j && !own a1 j && (c.kp.all fun i => old a1 i && !nw1 a1 i) && (match st with
      | .Expr (.Call f _ _ pos) _ => f.pos.endLine == pos.line
      | _ => false) then some (.go c a1) else none
  | none => none) else none
def kZ (c : Cfg) (o : Nat) (sc : Scope) : Nat → Bool → List Bool → Stmt → Option KR
  | 0, _, _, _ => some (.all c)
  | n + 1, false, a, st => kS0 c o sc n (kZ c o sc n false) (kZ c o sc n true) a st
  | n + 1, true, a, st => match dK c st with
    | some (x, ax) => kDead c n sc a x ax st
    | none => (match st with
      | .If t x y _ =>
        let a1 := drps a (fzE c n false sc t)
        if leA a1 a && kT c n a1 sc t then (match kB2 c (kZ c o sc n true) a1 x, kB2 c (kZ c o sc n true) a1 y with
          | some r1, some r2 => some ⟨mt r1.nx r2.nx, mt r1.bk r2.bk, mt r1.ct r2.ct⟩
          | _, _ => none) else none
      | st => kS0 c o sc n (kZ c o sc n false) (kZ c o sc n true) a st)
def kBl (c : Cfg) (o : Nat) (sc : Scope) (n : Nat) (a : List Bool) (sts : List Stmt) : Option KR := kB c (kZ c o sc n false) (kZ c o sc n true) a sts
end Dv
/-! Dv20: the look at statements is sound. -/
namespace Dv
open PySem PySem.Spec PyProof.Rows L2
variable {X : Cx} {a b : List Bool} {c : Cfg} {n : Nat} {sc : Scope} {o : Nat} {st : Stmt} {sts body : List Stmt} {r r' rb : KR} {g : DS} {e tg : Expr} {pos p q : Pos}

theorem mt_own (a b : List Bool) (i : Nat) (h : bit (mt a b) i = true) : bit a i = true ∧ bit b i = true := by
  unfold bit mt at *
  rw [List.getD_eq_getElem?_getD, List.getElem?_zipWith] at h
  rw [List.getD_eq_getElem?_getD, List.getD_eq_getElem?_getD]
  cases ha : a[i]? with
  | none => rw [ha] at h; cases h
  | some x =>
    cases hb : b[i]? with
    | none => rw [ha, hb] at h; cases h
    | some y =>
      rw [ha, hb] at h
      have h : (x && y) = true := h
      exact and2 h
theorem leA_mk {b a : List Bool} (h : ∀ i, bit b i = true → bit a i = true) : leA b a = true := List.all_eq_true.mpr fun i _ => by
  cases q : bit b i with
  | false => rfl
  | true => rw [h i q]; rfl
theorem leA_mt1 (a b : List Bool) : leA (mt a b) a = true := leA_mk fun i h => (mt_own a b i h).1
theorem leA_mt2 (a b : List Bool) : leA (mt a b) b = true := leA_mk fun i h => (mt_own a b i h).2
theorem leA_refl (a : List Bool) : leA a a = true := leA_mk fun _ h => h
/-- what the look at statements says, for all statements -/
def SndS (c : Cfg) (o : Nat) (sc : Scope) (f : List Bool → Stmt → Option KR) (g : Stmt → DS) (X : Cx) : Prop := ∀ a st r, f a st = some r → JS X o a st r (g st)
def SndS2 (c : Cfg) (o : Nat) (sc : Scope) (f : List Bool → Stmt → Option KR) (g : Stmt → DS) (X : Cx) : Prop := ∀ a st r, f a st = some r → JS2 X o a st r (g st)
theorem kB2_ok {f : List Bool → Stmt → Option KR} {g : Stmt → DS} (h : SndS2 c o sc f g X) : ∀ (sts : List Stmt) (a : List Bool) (r : KR), kB2 c f a sts = some r → JSs2 X o a sts r (sSeq (sts.map g))
  | [], a, r, hk => by cases hk; exact jss2_nil rfl
  | [s], a, r, hk => jss2_one (h a s r hk)
  | s :: s2 :: ss, a, r, hk => by
    unfold kB2 at hk
    split at hk
    · rename_i e1; cases e1
    · cases hf : f a s with
      | none => rw [hf] at hk; cases hk
      | some r1 =>
        rw [hf] at hk
        dsimp only at hk
        cases h2 : kB2 c f r1.nx (s2 :: ss) with
        | none => rw [h2] at hk; cases hk
        | some r2 =>
          rw [h2] at hk
          cases hk
          exact jss2_cons (r1 := ⟨r1.nx, mt r1.bk r2.bk, mt r1.ct r2.ct⟩) (r2 := ⟨r2.nx, mt r1.bk r2.bk, mt r1.ct r2.ct⟩) ((h a s r1 hf).less ⟨leA_refl _, leA_mt1 _ _, leA_mt1 _ _⟩)
            ((kB2_ok h (s2 :: ss) r1.nx r2 h2).less ⟨leA_refl _, leA_mt2 _ _, leA_mt2 _ _⟩) rfl rfl rfl rfl rfl
theorem isNo {b : Bool} {α : Type} {x y : Option α} {r : α} (hb : b = false) (h : (if b = true then x else y) = some r) : y = some r := by
  subst hb; exact h
theorem JSs.pre (h : JSs X o b sts r g) (hl : leA b a = true) : JSs X o a sts r g := h.imp fun D σ H ⟨F0, B, F, δ, S, q⟩ => by
  obtain ⟨F', _, S'⟩ := S.less hl
  exact ⟨F0, B, F', δ, S', q⟩
theorem kB_ok {f f2 : List Bool → Stmt → Option KR} {g : Stmt → DS} (h : SndS c o sc f g X) (hh : SndS2 c o sc f2 g X) : ∀ (sts : List Stmt) (a : List Bool) (r : KR), kB c f f2 a sts = some r → JSs X o a sts r (sSeq (sts.map g))
  | [], a, r, hk => by cases hk; exact jss_nil rfl
  | s :: ss, a, r, hk => by
    unfold kB at hk
    cases hm : isMk c s with
    | true =>
      rw [hm, if_pos rfl] at hk
      split at hk
      · rename_i hl
        obtain ⟨r2, h2, rfl⟩ := Option.map_eq_some_iff.mp hk
        exact (jss_grp (kB2_ok hh (s :: ss) _ r2 h2)).pre hl
      · cases hk
    | false =>
      have hk := isNo hm hk
      cases ss with
      | nil => exact jss_one (h a s r hk)
      | cons s2 ss =>
        dsimp only at hk
        cases hf : f a s with
        | none => rw [hf] at hk; cases hk
        | some r1 =>
          rw [hf] at hk
          dsimp only at hk
          cases h2 : kB c f f2 r1.nx (s2 :: ss) with
          | none => rw [h2] at hk; cases hk
          | some r2 =>
            rw [h2] at hk
            cases hk
            exact jss_cons (r1 := ⟨r1.nx, mt r1.bk r2.bk, mt r1.ct r2.ct⟩) (r2 := ⟨r2.nx, mt r1.bk r2.bk, mt r1.ct r2.ct⟩) ((h a s r1 hf).less ⟨leA_refl _, leA_mt1 _ _, leA_mt1 _ _⟩)
              ((kB_ok h hh (s2 :: ss) r1.nx r2 h2).less ⟨leA_refl _, leA_mt2 _ _, leA_mt2 _ _⟩) rfl rfl rfl rfl rfl
theorem loopA_ok {f : List Bool → Option KR} : ∀ (m : Nat) (a b : List Bool) (r : KR), loopA f m a = some (b, r) → f b = some r
  | 0, a, b, r, h => by cases h
  | m + 1, a, b, r, h => by
    unfold loopA at h
    cases hf : f a with
    | none => rw [hf] at h; cases h
    | some r1 =>
      rw [hf] at h
      dsimp only at h
      split at h
      · cases h; exact hf
      · exact loopA_ok m _ b r h
theorem imp_of {b c : Bool} (h : (!b || c) = true) : b = true → c = true := fun z => by subst z; exact h
theorem JE.kFb {k : Nat} {f : DE} (h : JE X wi0 a e f k) (hk : Dv.kF k = true) : JE X wi0 a e f (if (k == 3) = true then 3 else 2) := by
  by_cases z : (k == 3) = true
  · rw [if_pos z]; cases eq_of_beq z; exact h
  · rw [if_neg z]; exact h.kF hk
theorem and_false4 : ∀ b l n a : Bool, (l && n && a) = false → (b && l && n && a) = false := by decide
theorem sw_false {elt : Expr} {gens : List Comprehension} {scope : Scope} {x : Str} {px : Pos} {l : Nat} (hsc : X.env.scope = sc) (h : (sc.names.lookup x == some .local && px.line == pos.line && !(scope.names.any fun (n, k) => n == x && (k == .local || k == .cell))) = false) :
    swapsWith (.ListComp elt gens scope pos) (some (.Name x px)) l X.env = pure false := by
  show (pure (X.env.blockKind == .function && X.env.scope.names.lookup x == some .local && px.line == pos.line && !(scope.names.any fun (n, k) => n == x && (k == .local || k == .cell))) : Sem Bool) = pure false
  rw [hsc]
  congr 1
  exact and_false4 _ _ _ _ h
theorem sw_falseD {kx vx : Expr} {gens : List Comprehension} {scope : Scope} {x : Str} {px : Pos} {l : Nat} (hsc : X.env.scope = sc) (h : (sc.names.lookup x == some .local && px.line == pos.line && !(scope.names.any fun (n, k) => n == x && (k == .local || k == .cell))) = false) :
    swapsWith (.DictComp kx vx gens scope pos) (some (.Name x px)) l X.env = pure false := by
  show (pure (X.env.blockKind == .function && X.env.scope.names.lookup x == some .local && px.line == pos.line && !(scope.names.any fun (n, k) => n == x && (k == .local || k == .cell))) : Sem Bool) = pure false
  rw [hsc]
  congr 1
  exact and_false4 _ _ _ _ h
theorem noComp_with {env : PySem.Env} {t : Option Expr} {l : Nat} (h : noComp e = true) : swapsWith e t l env = pure false := by
  cases e <;> first | rfl | cases h
theorem noComp_sole {env : PySem.Env} {t : Expr} {l : Nat} (h : noComp e = true) : swapsWithSole [t] e l env = pure false := noComp_with h
theorem noTup_sw {env : PySem.Env} {ts : List Expr} {k : Nat} {p : Pos} (h : noTup e = true) : swappedStores [.Tuple ts k p] e env = pure none := by
  cases e <;> first | rfl | cases h
theorem name_sw {env : PySem.Env} {x : Str} {p : Pos} : swappedStores [.Name x p] e env = pure none := by
  cases e <;> rfl
theorem some_if {α : Type} {b : Bool} {x y : α} (h : (if b = true then some x else none) = some y) : b = true ∧ x = y := by
  cases b with
  | true => exact ⟨rfl, Option.some.inj h⟩
  | false => cases h
theorem no_star : ∀ {es : List Expr}, es.all plainE = true → es.any isSt = false
  | [], _ => rfl
  | e :: es, h => by
    rw [List.all_cons] at h
    obtain ⟨h1, h2⟩ := and2 h
    rw [List.any_cons, no_star h2]
    cases e <;> first | rfl | cases h1
theorem dE_tup {es : List Expr} {k : Nat} {p : Pos} (h : es.all plainE = true) : dE c (n + 1) sc (.Tuple es k p) = eTup (es.map (dE c n sc)) := by
  unfold dE
  dsimp only
  rw [no_star h]
  rfl
theorem tup_sole {env : PySem.Env} {ts : List Expr} {k : Nat} {p : Pos} {l : Nat} : swapsWithSole [.Tuple ts k p] e l env = pure false := by
  cases e <;> rfl
theorem isP_kP (n : Nat) (a : List Bool) (sc : Scope) (e : Expr) : isP (kP c n a sc e) = true := by
  unfold kP
  split
  · rfl
  · split <;> rfl
theorem je_kP (C : Ctx c X sc) (h : kF (kE c n a sc e) = true) : JE X wi0 a e (dE c n sc e) (kP c n a sc e) := by
  unfold kP
  by_cases h3 : kE c n a sc e = 3
  · rw [if_pos h3]
    have je := (sound c n).E X sc a e C (by rw [h3]; rfl)
    rw [h3] at je
    exact je
  · rw [if_neg h3]
    by_cases h1 : 1 ≤ kL c n a sc e
    · rw [if_pos h1]; exact (kL_ok n X sc a e C h).lvL h1
    · rw [if_neg h1]; exact ((sound c n).E X sc a e C (k3_of_kF h)).kF h
theorem asgT_ok (C : Ctx c X sc) (hst : StOk X sc) {ts : List Expr} {kk : Nat} {tp : Pos} {tl : List Nat} (ht : tS c n sc (.Tuple ts kk tp) = some tl) (h3 : kF (kE c n a sc e) = true) (hw : swappedStores [.Tuple ts kk tp] e X.env = pure none) :
    JS X o a (.Assign [.Tuple ts kk tp] e q) (.go c (clr a tl)) (sAsg (dG c n sc (.Tuple ts kk tp)) (dE c n sc e)) := by
  have g := tg_ok C hst n _ tl ht a
  cases n with
  | zero => cases ht
  | succ m =>
    exact js_asgF (((sound c (m + 1)).E X sc a e C (k3_of_kF h3)).kF h3) g tup_sole hw rfl rfl
theorem kA_ok (C : Ctx c X sc) (hst : StOk X sc) (hk : sc.kind = .function) (h : kA c n sc a tg e = some r) : JS X o a (.Assign [tg] e q) r (sAsg (dG c n sc tg) (dE c n sc e)) := by
  unfold kA at h
  split at h
  · rename_i x px
    split at h
    · rename_i hl
      obtain ⟨l1, l2⟩ := hst x hl
      split at h
      · rename_i i hs
        have ni := C.slot hs
        have hg : n = 0 ∨ dG c n sc (.Name x px) = gNm i := by
          cases n with
          | zero => exact .inl rfl
          | succ m => right; unfold dG; dsimp only; rw [if_pos hl, hs]
        have zero : n = 0 → JS X o a (.Assign [.Name x px] e q) r (sAsg (dG c n sc (.Name x px)) (dE c n sc e)) := fun z => js_bad fun δ => by subst z; unfold dE; rfl
        rcases hg with z | hg
        · exact zero z
        rw [hg]
        split at h
        · rename_i elt gens scope pos
          split at h
          · rename_i hw
            obtain ⟨hw, w3⟩ := and2 hw
            obtain ⟨w1, w2⟩ := and2 hw
            obtain ⟨hb, rfl⟩ := some_if h
            obtain ⟨h1, h2, h3⟩ := and3 hb
            cases n with
            | zero => exact js_bad fun δ => by unfold dE; rfl
            | succ m =>
              refine js_lcN (sound c m) C (by simpa using h1) (fun z => ?_) ni hk (by simpa using w1) w2 (by simpa using w3) h3 rfl
              unfold genOk at h2
              dsimp only at h2
              rw [z] at h2
              cases h2
          · rename_i hw
            obtain ⟨hb, rfl⟩ := some_if h
            obtain ⟨h1, h2⟩ := and2 hb
            have h1 : kE c n a sc (.ListComp elt gens scope pos) = 3 := by simpa using h1
            have je := (sound c n).E X sc a (.ListComp elt gens scope pos) C (by rw [h1]; rfl)
            rw [h1] at je
            exact js_asgO je C.nd ni l1 l2 (sw_false C.sc (Bool.eq_false_iff.mpr hw)) h2 rfl
        · rename_i kx vx gens scope pos
          split at h
          · rename_i hw
            obtain ⟨hw, w3⟩ := and2 hw
            obtain ⟨w1, w2⟩ := and2 hw
            obtain ⟨hb, rfl⟩ := some_if h
            obtain ⟨h1, h2, h3⟩ := and3 hb
            cases n with
            | zero => exact js_bad fun δ => by unfold dE; rfl
            | succ m =>
              refine js_dcN (sound c m) C (by simpa using h1) (fun z => ?_) ni hk (by simpa using w1) w2 (by simpa using w3) h3 rfl
              unfold genOk at h2
              dsimp only at h2
              rw [z] at h2
              cases h2
          · rename_i hw
            obtain ⟨hb, rfl⟩ := some_if h
            obtain ⟨h1, h2⟩ := and2 hb
            have h1 : kE c n a sc (.DictComp kx vx gens scope pos) = 3 := by simpa using h1
            have je := (sound c n).E X sc a (.DictComp kx vx gens scope pos) C (by rw [h1]; rfl)
            rw [h1] at je
            exact js_asgO je C.nd ni l1 l2 (sw_falseD C.sc (Bool.eq_false_iff.mpr hw)) h2 rfl
        · split at h
          · rename_i hn
            split at h
            · rename_i hb
              cases h
              obtain ⟨h1, h2⟩ := and2 hb
              have h1 : kE c n a sc e = 3 := by simpa using h1
              have je := (sound c n).E X sc a e C (by rw [h1]; rfl)
              rw [h1] at je
              exact js_asgO je C.nd ni l1 l2 (noComp_with hn) h2 rfl
            · obtain ⟨hb, rfl⟩ := some_if h
              by_cases hl1 : 1 ≤ kL c n a sc e
              · exact js_asgN (r := .go c _) ((kL_ok n X sc a e C hb).lvL hl1) (jgn_name C.nd ni l1 l2) (noComp_sole hn) name_sw rfl (by rw [if_pos hl1]; rfl)
              · exact js_asgF (r := .go c _) (((sound c n).E X sc a e C (k3_of_kF hb)).kF hb) (jg_name C.nd ni l1 l2) (noComp_sole hn) name_sw rfl (by rw [if_neg hl1]; rfl)
          · cases h
      · cases h
    · cases h
  · rename_i ts kk tp
    split at h
    · rename_i tl ht
      split at h
      · rename_i vs k2 p2
        split at h
        · rename_i hw
          split at h
          · rename_i x px y py e1 e2
            split at h
            · rename_i i j hi hj
              split at h
              · rename_i hb
                cases h
                obtain ⟨hb, w2⟩ := and2 hb
                obtain ⟨hb, w1⟩ := and2 hb
                obtain ⟨hb, h7⟩ := and2 hb
                obtain ⟨hb, h6⟩ := and2 hb
                obtain ⟨hb, h5⟩ := and2 hb
                obtain ⟨lx, ly⟩ := and2 hb
                match n with
                | 0 => exact js_bad fun δ => by unfold dE; rfl
                | 1 => rw [dE_tup h7]; exact js_bad fun δ => by rw [List.map_cons]; unfold dE; rfl
                | m + 2 =>
                  rw [dE_tup h7]
                  have jj := js_unp (o := o) (q := q) (kt := kk) (k2 := k2) (pt := tp) (p2 := p2) (b1 := kP c (m + 1) a sc e1) (b2 := kP c (m + 1) a sc e2) (r := .go c (stK (stK a i (kP c (m + 1) a sc e1)) j (kP c (m + 1) a sc e2))) C.calm C.nd (C.slot hi) (C.slot hj) (hst x lx) (hst y ly) (je_kP C h5) (je_kP C h6) h7 (swP_of C.sc hk hw) tup_sole (isP_kP _ _ _ _) (isP_kP _ _ _ _) (imp_of w1) (imp_of w2) rfl
                  have eg : dG c (m + 2) sc (.Tuple [.Name x px, .Name y py] kk tp) = gTp [gNm i, gNm j] := by
                    unfold dG
                    dsimp only
                    rw [List.map_cons, List.map_cons, List.map_nil]
                    unfold dG
                    dsimp only
                    rw [if_pos lx, if_pos ly, hi, hj]
                  rw [eg]
                  exact jj
              · obtain ⟨hb, rfl⟩ := some_if h
                exact asgT_ok C hst ht hb (swP_of C.sc hk hw)
            · cases h
          · obtain ⟨hb, rfl⟩ := some_if h
            exact asgT_ok C hst ht hb (swP_of C.sc hk hw)
        · split at h
          · rename_i x px y py e1 e2 _
            split at h
            · rename_i i j hi hj
              obtain ⟨hb, rfl⟩ := some_if h
              obtain ⟨hb, w2⟩ := and2 hb
              obtain ⟨hb, w1⟩ := and2 hb
              obtain ⟨hb, h7⟩ := and2 hb
              obtain ⟨hb, h6⟩ := and2 hb
              obtain ⟨hb, h5⟩ := and2 hb
              obtain ⟨hb, h4⟩ := and2 hb
              obtain ⟨h1, h2, h3⟩ := and3 hb
              have h3 : sc.names.lookup x = some .local := by simpa using h3
              have h4 : sc.names.lookup y = some .local := by simpa using h4
              have lx : loc sc x = true := by unfold loc; rw [h3]
              have ly : loc sc y = true := by unfold loc; rw [h4]
              match n with
              | 0 => exact js_bad fun δ => by unfold dE; rfl
              | 1 => rw [dE_tup h7]; exact js_bad fun δ => by rw [List.map_cons]; unfold dE; rfl
              | m + 2 =>
                rw [dE_tup h7]
                have t := (sound c (m + 1)).E X sc a
                have jj := js_par (o := o) (q := q) (kt := kk) (k2 := k2) (pt := tp) (p2 := p2) (b1 := kP c (m + 1) a sc e1) (b2 := kP c (m + 1) a sc e2) (r := .go c (stK (stK a i (kP c (m + 1) a sc e1)) j (kP c (m + 1) a sc e2))) C.calm C.nd C.sc hk (C.slot hi) (C.slot hj) (by simpa using h2) h3 h4 (je_kP C h5) (je_kP C h6) h7 (by simpa using h1) (isP_kP _ _ _ _) (isP_kP _ _ _ _) (imp_of w1) (imp_of w2) rfl
                have eg : dG c (m + 2) sc (.Tuple [.Name x px, .Name y py] kk tp) = gTp [gNm i, gNm j] := by
                  unfold dG
                  dsimp only
                  rw [List.map_cons, List.map_cons, List.map_nil]
                  unfold dG
                  dsimp only
                  rw [if_pos lx, if_pos ly, hi, hj]
                rw [eg]
                exact jj
            · cases h
          · rename_i x px y py z pz e1 e2 e3 _
            split at h
            · rename_i i j l hi hj hl
              obtain ⟨hb, rfl⟩ := some_if h
              obtain ⟨hb, w3⟩ := and2 hb
              obtain ⟨hb, w2⟩ := and2 hb
              obtain ⟨hb, w1⟩ := and2 hb
              obtain ⟨hb, h11⟩ := and2 hb
              obtain ⟨hb, h10⟩ := and2 hb
              obtain ⟨hb, h9⟩ := and2 hb
              obtain ⟨hb, h8⟩ := and2 hb
              obtain ⟨hb, h7⟩ := and2 hb
              obtain ⟨hb, h6⟩ := and2 hb
              obtain ⟨hb, h5⟩ := and2 hb
              obtain ⟨hb, h4⟩ := and2 hb
              obtain ⟨h1, h2, h3⟩ := and3 hb
              have h5 : sc.names.lookup x = some .local := by simpa using h5
              have h6 : sc.names.lookup y = some .local := by simpa using h6
              have h7 : sc.names.lookup z = some .local := by simpa using h7
              have lx : loc sc x = true := by unfold loc; rw [h5]
              have ly : loc sc y = true := by unfold loc; rw [h6]
              have lz : loc sc z = true := by unfold loc; rw [h7]
              match n with
              | 0 => exact js_bad fun δ => by unfold dE; rfl
              | 1 => rw [dE_tup h11]; exact js_bad fun δ => by rw [List.map_cons]; unfold dE; rfl
              | m + 2 =>
                rw [dE_tup h11]
                have t := (sound c (m + 1)).E X sc a
                have jj := js_par3 (o := o) (q := q) (kt := kk) (k2 := k2) (pt := tp) (p2 := p2) (b1 := kP c (m + 1) a sc e1) (b2 := kP c (m + 1) a sc e2) (b3 := kP c (m + 1) a sc e3) (r := .go c (stK (stK (stK a i (kP c (m + 1) a sc e1)) j (kP c (m + 1) a sc e2)) l (kP c (m + 1) a sc e3))) C.calm C.nd C.sc hk (C.slot hi) (C.slot hj) (C.slot hl) (by simpa using h2) (by simpa using h3) (by simpa using h4) h5 h6 h7
                  (je_kP C h8) (je_kP C h9) (je_kP C h10) h11 (by simpa using h1) (isP_kP _ _ _ _) (isP_kP _ _ _ _) (imp_of w1) (imp_of w2) (isP_kP _ _ _ _) (imp_of w3) rfl
                have eg : dG c (m + 2) sc (.Tuple [.Name x px, .Name y py, .Name z pz] kk tp) = gTp [gNm i, gNm j, gNm l] := by
                  unfold dG
                  dsimp only
                  rw [List.map_cons, List.map_cons, List.map_cons, List.map_nil]
                  unfold dG
                  dsimp only
                  rw [if_pos lx, if_pos ly, if_pos lz, hi, hj, hl]
                rw [eg]
                exact jj
            · cases h
          · cases h
        · cases h
      · rename_i hnt
        obtain ⟨hb, rfl⟩ := some_if h
        have nt : noTup e = true := by cases e <;> first | rfl | exact absurd rfl (hnt _ _ _)
        by_cases hl2 : (ts.all isNmE && decide (2 ≤ kL c n a sc e)) = true
        · rw [if_pos hl2]
          obtain ⟨g1, g2⟩ := and2 hl2
          cases n with
          | zero => cases ht
          | succ m =>
            have ht2 := ht
            unfold tS at ht2
            dsimp only at ht2
            split at ht2
            · rename_i hpl
              have ed : dG c (m + 1) sc (.Tuple ts kk tp) = gTp (ts.map (dG c m sc)) := by unfold dG; rfl
              rw [ed]
              exact js_asgN ((kL_ok (m + 1) X sc a e C hb).lvL (of_decide_eq_true g2)) (jgn_tup C.calm hpl (map_len _ _) (tgn_ok C hst m ts tl g1 ht2 a)) tup_sole (noTup_sw nt) rfl rfl
            · cases ht2
        · rw [if_neg hl2]
          exact asgT_ok C hst ht hb (noTup_sw nt)
    · cases h
  · cases h
end Dv
/-! Dv21: the look at statements is sound: all forms. -/
namespace Dv
open PySem PySem.Spec PyProof.Rows L2
variable {X : Cx} {a b : List Bool} {c : Cfg} {n : Nat} {sc : Scope} {o : Nat} {st : Stmt} {sts body : List Stmt} {r r' rb : KR} {g : DS} {e tg : Expr} {pos p q : Pos}

theorem tgK_g {tgs : List Expr} {e : Expr} (h : tgK tgs = .g e) : tgs = [e] := by
  unfold tgK at h
  split at h <;> cases h <;> rfl
theorem tgK_set {tgs : List Expr} {x : Str} {i : Expr} (h : tgK tgs = .set x i) : ∃ p1 p2, tgs = [.Subscript (.Name x p1) i p2] := by
  unfold tgK at h
  split at h <;> cases h
  exact ⟨_, _, rfl⟩
theorem popK_of {e : Expr} {y : Str} (h : popK e = some y) : ∃ p1 p2 p3, e = .Call (.Attribute (.Name y p1) "pop" p2) [] [] p3 := by
  unfold popK at h
  split at h
  · split at h
    · rename_i hm
      cases h
      subst hm
      exact ⟨_, _, _, rfl⟩
    · cases h
  · cases h
theorem sw_call {f : Expr} {p3 : Pos} {env : PySem.Env} (h : plainT tg = true) : swappedStores [tg] (.Call f [] [] p3) env = pure none := by
  cases tg <;> rfl
theorem exK_app {e : Expr} {x : Str} {ax : Expr} (h : exK e = .app x ax) : ∃ p1 p2 p3, e = .Call (.Attribute (.Name x p1) "append" p2) [ax] [] p3 := by
  unfold exK at h
  split at h
  · split at h
    · rename_i hm
      subst hm
      split at h
      · cases h; exact ⟨_, _, _, rfl⟩
      · cases h
    · split at h
      · split at h <;> cases h
      · cases h
  · cases h
  · cases h
theorem exK_ext {e : Expr} {x : Str} {ax : Expr} (h : exK e = .ext x ax) : ∃ p1 p2 p3, e = .Call (.Attribute (.Name x p1) "extend" p2) [ax] [] p3 := by
  unfold exK at h
  split at h
  · split at h
    · split at h <;> cases h
    · split at h
      · rename_i hm
        subst hm
        split at h
        · cases h; exact ⟨_, _, _, rfl⟩
        · cases h
      · cases h
  · cases h
  · cases h
theorem exK_appE {e ob : Expr} {ax : Expr} (h : exK e = .appE ob ax) : ∃ p2 p3, e = .Call (.Attribute ob "append" p2) [ax] [] p3 := by
  unfold exK at h
  split at h
  · split at h
    · rename_i hm
      subst hm
      split at h
      · cases h
      · cases h; exact ⟨_, _, rfl⟩
    · split at h
      · split at h <;> cases h
      · cases h
  · cases h
  · cases h
theorem exK_doc {e : Expr} (h : exK e = .doc) : ∃ x j p, e = .Constant (.str x) j p := by
  unfold exK at h
  split at h
  · split at h
    · split at h <;> cases h
    · split at h
      · split at h <;> cases h
      · cases h
  · exact ⟨_, _, _, rfl⟩
  · cases h
theorem assign_sub {ob ix : Expr} {env : PySem.Env} (h : plainIx ix = true) (v : Value) : assign (.Subscript ob ix pos) env v = (do
    let ov ← holding [v] (eval ob env)
    let iv ← holding [v, ov] (eval ix env)
    standAt pos
    holding [v, ov, iv] (setItem ov iv v)
    release [v, ov, iv] []) := by
  cases ix <;> first | rfl | cases h
theorem plainIx_to {ix : Expr} (h : plainIx ix = true) : PlainIx ix := by
  intro x y
  cases ix <;> first | rfl | cases h
theorem s0_ok (c : Cfg) (o : Nat) (hk : sc.kind = .function) (C : Ctx c X sc) (hst : StOk X sc) (hp : PassesOwn (model X.prog X.w) X.A X.env X.xe) (n : Nat) {f f2 : List Bool → Stmt → Option KR} (ih : SndS c o sc f (dS c sc n) X) (ih2 : SndS2 c o sc f2 (dS c sc n) X) : SndS c o sc (kS0 c o sc n f f2) (dS c sc (n + 1)) X := by
    intro a st r h
    cases st with
    | Pass q => unfold kS0 at h; unfold dS; cases h; exact js_pass rfl
    | Break q => unfold kS0 at h; unfold dS; cases h; exact js_brk rfl
    | Continue q => unfold kS0 at h; unfold dS; cases h; exact js_cnt rfl
    | Return v q =>
      unfold kS0 at h
      unfold dS
      cases v with
      | none => exact js_retN
      | some e =>
        dsimp only at h ⊢
        obtain ⟨hb, rfl⟩ := some_if h
        obtain ⟨h1, h2⟩ := and2 hb
        by_cases o3 : o = 3
        · subst o3
          have h2 : (kle (kE c n (drps a (fzE c n (!((3 : Nat) == 3)) sc e)) sc e) 1 && k3 (kE c n (drps a (fzE c n (!((3 : Nat) == 3)) sc e)) sc e)) = true := by simpa using h2
          obtain ⟨h2, h3⟩ := and2 h2
          exact (js_retO (((sound c n).E X sc _ e C h3).weak h2)).pre h1
        · rw [if_neg o3] at h2
          by_cases o2 : o = 2
          · rw [if_pos o2] at h2
            subst o2
            exact (js_retF (((sound c n).E X sc _ e C (k3_of_kF h2)).kF h2)).pre h1
          · rw [if_neg o2] at h2
            obtain ⟨h3, h4, h5⟩ := and3 h2
            have h4 := of_decide_eq_true h4
            have h5 := of_decide_eq_true h5
            obtain ⟨m, rfl⟩ : ∃ m, o = m + 4 := ⟨o - 4, by omega⟩
            exact (js_retL ((kL_ok n X sc _ e C h3).lvL (by omega))).pre h1
    | Assign tgs e q =>
      unfold kS0 at h
      unfold dS
      dsimp only at h ⊢
      cases ht : tgK tgs with
      | g tg =>
        rw [ht] at h
        dsimp only at h ⊢
        cases tgK_g ht
        cases hp : popK e with
        | some y =>
          rw [hp] at h
          dsimp only at h ⊢
          obtain ⟨p1, p2, p3, rfl⟩ := popK_of hp
          split at h
          · rename_i hl
            rw [if_pos hl]
            cases hs : c.slot y with
            | none => rw [hs] at h; cases h
            | some i =>
              rw [hs] at h
              dsimp only at h ⊢
              cases htl : tS c n sc tg with
              | none => rw [htl] at h; cases h
              | some tl =>
                rw [htl] at h
                dsimp only at h
                obtain ⟨hb, rfl⟩ := some_if h
                obtain ⟨hb, h6⟩ := and2 hb
                obtain ⟨hb, h5⟩ := and2 hb
                obtain ⟨hb, h4⟩ := and2 hb
                obtain ⟨h1, h2, h3⟩ := and3 hb
                exact js_pop (C.slot hs) (C.vis h2) h3 h6 h1 (tg_ok C hst n tg tl htl a) h4 rfl (noComp_sole rfl) (sw_call h4)
          · cases h
        | none =>
        rw [hp] at h
        dsimp only at h ⊢
        split at h
        · rename_i hl
          exact (kA_ok C hst hk h).pre hl
        · cases h
      | set x i =>
        rw [ht] at h
        dsimp only at h ⊢
        obtain ⟨p1, p2, rfl⟩ := tgK_set ht
        split at h
        · rename_i hl
          rw [if_pos hl]
          cases hs : c.slot x with
          | none => rw [hs] at h; cases h
          | some j =>
            rw [hs] at h
            dsimp only at h ⊢
            obtain ⟨hb, rfl⟩ := some_if h
            obtain ⟨hb, h8⟩ := and2 hb
            obtain ⟨hb, h7⟩ := and2 hb
            obtain ⟨hb, h6⟩ := and2 hb
            obtain ⟨hb, h5⟩ := and2 hb
            obtain ⟨hb, h4⟩ := and2 hb
            obtain ⟨h1, h2, h3⟩ := and3 hb
            obtain ⟨rm, hr⟩ := C.room; exact (js_set hr (((sound c n).E X sc _ e C (k3_of_kF h2)).kF h2) ((sound c n).E X sc _ i C h3).to0 (plainIx_to h4) (C.slot hs) (C.vis h5) h6 h7 rfl (noComp_sole h8) (assign_sub h4)).pre h1
        · cases h
      | no => exact js_bad fun δ => rfl
    | Expr e q =>
      unfold kS0 at h
      unfold dS
      dsimp only at h ⊢
      cases he : exK e with
      | app x ax =>
        rw [he] at h
        dsimp only at h ⊢
        obtain ⟨p1, p2, p3, rfl⟩ := exK_app he
        have hc : c.dd.contains x = false := by
          cases z : c.dd.contains x with
          | false => rfl
          | true => rw [z, if_pos rfl] at h; cases h
        have h := isNo hc h
        split at h
        · rename_i hl
          rw [if_pos hl]
          cases hs : c.slot x with
          | none => rw [hs] at h; cases h
          | some j =>
            rw [hs] at h
            dsimp only at h ⊢
            rw [hc]
            obtain ⟨hb, rfl⟩ := some_if h
            obtain ⟨hb, h7⟩ := and2 hb
            obtain ⟨hb, h6⟩ := and2 hb
            obtain ⟨hb, h5⟩ := and2 hb
            obtain ⟨hb, h4⟩ := and2 hb
            obtain ⟨h1, h2, h3⟩ := and3 hb
            exact (js_app (((sound c n).E X sc _ ax C (k3_of_kF h2)).kF h2) h3 (C.slot hs) (C.vis h4) h5 h7 h6 rfl).pre h1
        · cases h
      | ext x ax =>
        rw [he] at h
        dsimp only at h ⊢
        obtain ⟨p1, p2, p3, rfl⟩ := exK_ext he
        split at h
        · rename_i hl
          rw [if_pos hl]
          cases hs : c.slot x with
          | none => rw [hs] at h; cases h
          | some j =>
            rw [hs] at h
            dsimp only at h ⊢
            obtain ⟨hb, rfl⟩ := some_if h
            obtain ⟨hb, h7⟩ := and2 hb
            obtain ⟨hb, h6⟩ := and2 hb
            obtain ⟨hb, h5⟩ := and2 hb
            obtain ⟨hb, h4⟩ := and2 hb
            obtain ⟨h1, h2, h3⟩ := and3 hb
            obtain ⟨h2, h2'⟩ := and2 h2
            have je := ((sound c n).E X sc (drps a (fzE c n false sc ax)) ax C h2').weak h2
            exact (js_ext je h3 (C.slot hs) (C.vis h4) h5 h7 h6 rfl).pre h1
        · cases h
      | appE ob ax =>
        rw [he] at h
        dsimp only at h ⊢
        obtain ⟨p2, p3, rfl⟩ := exK_appE he
        obtain ⟨hb, rfl⟩ := some_if h
        obtain ⟨hb, h6⟩ := and2 hb
        obtain ⟨hb, h5⟩ := and2 hb
        obtain ⟨hb, h4⟩ := and2 hb
        obtain ⟨h1, h2, h3⟩ := and3 hb
        have h2 : kE c n (drps a (fzE c n false sc ob ++ fzE c n true sc ax)) sc ob = 3 := by simpa using h2
        have je := (sound c n).E X sc (drps a (fzE c n false sc ob ++ fzE c n true sc ax)) ob C (by rw [h2]; rfl)
        rw [h2] at je
        exact (js_appE je (((sound c n).E X sc _ ax C (k3_of_kF h3)).kF h3) h4 h5 h6 rfl).pre h1
      | doc =>
        rw [he] at h
        obtain ⟨x, j, p, rfl⟩ := exK_doc he
        cases h
        exact js_doc rfl
      | other =>
        rw [he] at h
        dsimp only at h ⊢
        obtain ⟨hb, rfl⟩ := some_if h
        obtain ⟨h1, h2, h3⟩ := and3 hb
        exact (js_drop ((sound c n).E X sc _ e C h3).to0 (noComp_with h2) rfl).pre h1
    | If t x y q =>
      unfold kS0 at h
      unfold dS
      dsimp only at h ⊢
      split at h
      · rename_i hb
        obtain ⟨h1, h2⟩ := and2 hb
        split at h
        · rename_i r1 r2 e1 e2
          cases h
          exact (js_if ((sound c n).T X sc _ t C h2) ((kB_ok ih ih2 x _ r1 e1).less ⟨leA_mt1 _ _, leA_mt1 _ _, leA_mt1 _ _⟩) ((kB_ok ih ih2 y _ r2 e2).less ⟨leA_mt2 _ _, leA_mt2 _ _, leA_mt2 _ _⟩)).pre h1
        · cases h
      · cases h
    | For tg it body orelse q =>
      unfold kS0 at h
      unfold dS
      dsimp only at h ⊢
      cases orelse with
      | cons s ss => exact js_bad fun δ => rfl
      | nil =>
        dsimp only at h ⊢
        cases ht : tS c n sc tg with
        | none => rw [ht] at h; cases h
        | some ts =>
          rw [ht] at h
          dsimp only at h
          split at h
          · rename_i b rb hl
            obtain ⟨hb, rfl⟩ := some_if h
            obtain ⟨hb, h7⟩ := and2 hb
            obtain ⟨hb, h6⟩ := and2 hb
            obtain ⟨hb, h5⟩ := and2 hb
            obtain ⟨hb, h4⟩ := and2 hb
            obtain ⟨h1, h2, h3⟩ := and3 hb
            have hf := loopA_ok _ _ _ _ hl
            exact (js_for hp C.calm ((sound c n).I X sc b false tg it C h2) (tg_ok C hst n tg ts ht b) (kB_ok ih ih2 body _ rb hf) (fold_ok h3 _) h6 h7 h4 h5).pre h1
          · cases h
    | While t body orelse q =>
      unfold kS0 at h
      unfold dS
      dsimp only at h ⊢
      cases orelse with
      | cons s ss => exact js_bad fun δ => rfl
      | nil =>
        dsimp only at h ⊢
        split at h
        · rename_i b rb hl
          obtain ⟨hb, rfl⟩ := some_if h
          obtain ⟨hb, h6⟩ := and2 hb
          obtain ⟨hb, h5⟩ := and2 hb
          obtain ⟨hb, h4⟩ := and2 hb
          obtain ⟨h1, h2, h3⟩ := and3 hb
          have hf := loopA_ok _ _ _ _ hl
          exact (js_while hp ((sound c n).T X sc b t C h2) (kB_ok ih ih2 body _ rb hf) h5 h6 h3 h4).pre h1
        · cases h
    | _ => exact js_bad fun δ => by unfold dS; rfl
theorem dK_of {x : Str} {ax : Expr} (h : dK c st = some (x, ax)) : ∃ p1 p2 p3 q, st = .Expr (.Call (.Attribute (.Name x p1) "append" p2) [ax] [] p3) q ∧ c.dd.contains x = true := by
  unfold dK at h
  split at h
  · rename_i e q
    split at h
    · rename_i y ay he
      split at h
      · rename_i hc
        cases h
        obtain ⟨p1, p2, p3, rfl⟩ := exK_app he
        exact ⟨p1, p2, p3, q, rfl, hc⟩
      · cases h
    · cases h
  · cases h
theorem sound_S (c : Cfg) (o : Nat) (hk : sc.kind = .function) (C : Ctx c X sc) (hst : StOk X sc) (hp : PassesOwn (model X.prog X.w) X.A X.env X.xe) : ∀ n, SndS c o sc (kZ c o sc n false) (dS c sc n) X ∧ SndS2 c o sc (kZ c o sc n true) (dS c sc n) X := by
  intro n
  induction n with
  | zero => exact ⟨fun a st r h => js_bad fun δ => by unfold dS; rfl, fun a st r h => (js_bad fun δ => by unfold dS; rfl).to2⟩
  | succ n ih =>
    have s0 := s0_ok c o hk C hst hp n ih.1 ih.2
    refine ⟨fun a st r h => s0 a st r h, fun a st r h => ?_⟩
    unfold kZ at h
    cases hd : dK c st with
    | some xa =>
      obtain ⟨x, ax⟩ := xa
      rw [hd] at h
      dsimp only at h
      obtain ⟨p1, p2, p3, q, rfl, hc⟩ := dK_of hd
      unfold kDead at h
      have he : exK (.Call (.Attribute (.Name x p1) "append" p2) [ax] [] p3) = .app x ax := by unfold exK; dsimp only; rw [if_pos rfl]
      unfold dS
      dsimp only
      rw [he]
      dsimp only
      split at h
      · rename_i hl
        rw [if_pos hl]
        cases hs : c.slot x with
        | none => rw [hs] at h; cases h
        | some j =>
          rw [hs] at h
          dsimp only at h ⊢
          show JS2 X o a _ r (if c.dd.contains x = true then _ else _)
          rw [if_pos hc]
          obtain ⟨hb, rfl⟩ := some_if h
          obtain ⟨hb, h9⟩ := and2 hb
          obtain ⟨hb, h8⟩ := and2 hb
          obtain ⟨hb, h7⟩ := and2 hb
          obtain ⟨hb, h6⟩ := and2 hb
          obtain ⟨hb, h5⟩ := and2 hb
          obtain ⟨hb, h4⟩ := and2 hb
          obtain ⟨h1, h2, h3⟩ := and3 hb
          refine (js2_dead (((sound c n).E X sc _ ax C (k3_of_kF h2)).kF h2) h3 (C.slot hs) (C.vis h4) h5 h9 h6 (by simpa using h7) (fun i hi => ?_) rfl).pre h1
          have := List.all_eq_true.mp h8 i hi
          rw [Bool.and_eq_true] at this
          exact ⟨this.1, by simpa using this.2⟩
      · cases h
    | none =>
      rw [hd] at h
      dsimp only at h
      cases st with
      | If t x y q =>
        dsimp only at h
        split at h
        · rename_i hb
          obtain ⟨h1, h2⟩ := and2 hb
          split at h
          · rename_i r1 r2 e1 e2
            cases h
            exact (js2_if ((sound c n).T X sc _ t C h2) ((kB2_ok ih.2 x _ r1 e1).less ⟨leA_mt1 _ _, leA_mt1 _ _, leA_mt1 _ _⟩) ((kB2_ok ih.2 y _ r2 e2).less ⟨leA_mt2 _ _, leA_mt2 _ _, leA_mt2 _ _⟩)).pre h1
          · cases h
        · cases h
      | _ => exact (s0 a _ r h).to2
end Dv
/-! Dv22: a def keeps its promise; the law's call. -/
namespace Dv
open PySem PySem.Spec PyProof.Rows L2
section
variable {P : Program} {w : World} {K : PySem.W.Frag} {mg : Str → Option Value} {base : Heap} {c : Cfg} {o : Nat} {n k : Nat}

/-- what the module's names stand for -/
structure Mod0 (P : Program) (w : World) (K : PySem.W.Frag) (mg : Str → Option Value) (base : Heap) (c : Cfg) (k : Nat) : Prop where
  con : ∀ x d, c.ge.lookup x = some (.con d) → ∃ v u, mg x = some u ∧ RelV v u ∧ ∀ F, Rp K F v d
  fn : ∀ x m o fl, c.ge.lookup x = some (.fn m o fl) → ((fl = true → ∃ b, o = kb b ∧ Flat m b) ∧ ∃ (j : Nat) (f : Addr) (fd : FuncData) (ps : List Str), j ≤ k ∧ Fk P w K mg base j f fd ps (prom K m o) ∧ mg x = some (.ref f) ∧ PySem.W.keepIn K (.ref f) = true ∧ Binds K fd ps []) ∨ (mg x = some (.builtin "math.gcd") ∧ m = gcdD ∧ o = 3 ∧ fl = true)
  bn : ∀ x, c.bn.contains x = true → mg x = none
theorem start_si {N : List Str} {vs : List V} {ds : List D} {F H : Hp} {np : Nat} (FH : Same F H) (rs : Rps K F vs ds) (hp : ds.length = np) (hn : np ≤ N.length) :
    SI K F H F H (L2.start N vs) (clr (List.replicate (4 * N.length) true) (List.range np)) (ds.map some ++ List.replicate (N.length - np) none) where
  len := by
    unfold L2.start
    rw [List.length_append, List.length_append, List.length_map, List.length_map, List.length_replicate, List.length_replicate, rs.length, hp]
  BH := Same.refl H
  FH := FH
  F0F := Same.refl F
  new := New.refl _ _
  sl := fun i d h => by
    by_cases hi : i < ds.length
    · rw [List.getElem?_append_left (by simpa using hi), List.getElem?_map] at h
      obtain ⟨d', h1, h2⟩ := Option.map_eq_some_iff.mp h
      cases h2
      obtain ⟨v, h3, r⟩ := rs.get h1
      refine ⟨v, ?_, fun z => ?_, fun _ => r⟩
      · unfold L2.start
        rw [List.getElem?_append_left (by rw [List.length_map, rs.length]; exact hi), List.getElem?_map, h3]
        rfl
      · exact absurd (List.mem_range.mpr (by omega)) (own_clr _ _ z).2
    · rw [List.getElem?_append_right (by simpa using Nat.le_of_not_lt hi), List.getElem?_replicate] at h
      split at h <;> cases h
  dj := fun i j d e p oi oj _ _ hi hj _ _ => by
    have hi' : i < ds.length := by
      apply Classical.byContradiction
      intro z
      rw [List.getElem?_append_right (by simpa using Nat.le_of_not_lt z), List.getElem?_replicate] at hi
      split at hi <;> cases hi
    exact absurd (List.mem_range.mpr (by omega)) (own_clr _ _ oi).2
  ol := fun i d o h => by
    obtain ⟨_, z⟩ := old_clr _ _ o
    have hi : ¬ i < ds.length := fun q => z (List.mem_range.mpr (by omega))
    rw [List.getElem?_append_right (by simpa using Nat.le_of_not_lt hi), List.getElem?_replicate] at h
    split at h <;> cases h
  nf := fun i d o h => by
    obtain ⟨_, z⟩ := nw_clr _ _ o
    have hi : ¬ i < ds.length := fun q => z (List.mem_range.mpr (by omega))
    rw [List.getElem?_append_right (by simpa using Nat.le_of_not_lt hi), List.getElem?_replicate] at h
    split at h <;> cases h
/-- a def's body, looked at -/
theorem fk_of {name qual : Str} {params : Arguments} {body : List Stmt} {scope : Scope} {dV kV doc pm cdv ct oc : Value} {an od : Option Addr} {osl : Array (Option Value)} {f : Addr} {ps : List Str} {r : KR}
    (at_f : K.lookup f = some ⟨oc, od, .func (PySem.W.fnOf name qual params body scope dV kV doc pm an cdv ct), osl⟩) (code : PySem.W.codeIn K cdv qual = true) (sco : FnScope c.N ps scope) (m0 : Mod0 P w K mg base c k)
    (look : kBl c o scope n (clr (top c) (List.range ps.length)) body = some r) :
    Fk P w K mg base (k + 1) f (PySem.W.fnOf name qual params body scope dV kV doc pm an cdv ct) ps (prom K (runF ps.length c.N.length (dB c scope n body)) o) := by
  have many : ∀ vs H Q, prom K (runF ps.length c.N.length (dB c scope n body)) o vs H Q → vs.length = ps.length := fun vs H Q ⟨F, ds, _, rs, q⟩ => by
    rw [rs.length]
    unfold runF at q
    split at q
    · assumption
    · exact q.elim
  refine ⟨many, fun A outer s H args us vs Q room gu ent bnd rel q => ?_⟩
  have cnt : vs.length = ps.length := many vs H Q q
  have inK : K.In s.heap := ent.mod.kin.keeps fun b o z => (ent.bs b o z).1
  have nolim : s.heap.NoLimit := ent.mod.nolimit.keeps fun b o z => (ent.bs b o z).1
  refine codeAny_call_function room.depth (inK _ _ at_f) rfl sco.co sco.gen rfl (PySem.W.codeRec_of inK code) (bnd _ _ _ _ ?_)
  refine wpAny_newFunctionEnv_cells sco.kind (fun ⟨y, u⟩ hy => ?_) fun env he s1 x => ?_
  · rcases sco.par y (List.of_mem_zip hy).1 with z | z
    · exact .inl z
    · exact .inr ⟨z, PySem.W.cellsFrom_some _ _ _ (.inl z)⟩
  cases he
  refine ⟨nolim.keeps x.toInCall.keep, codeAny_func ?_⟩
  have I : Inv (cxOf CX0 P w K mg base c.N qual scope f cdv A outer s H E0) [] (L2.start c.N vs) H s1 := inv_start sco room.hd ent cnt rel x
  have rd := room.deeper (envOfC qual scope s.heap.objs.size f cdv)
  have C : Ctx c (cxOf CX0 P w K mg base c.N qual scope f cdv A outer s H E0) scope := by
    refine ⟨rfl, sco.nd, rfl, ⟨k, rd⟩, gu, rfl, m0.con, fun x m o fl h => ?_, m0.bn⟩
    rcases m0.fn x m o fl h with ⟨flat, j, f, fd, ps, hj, fk, h1, h2, h3⟩ | hg
    · exact .inl ⟨⟨j, f, fd, ps, fk, rd.mono hj, h1, h2, h3⟩, flat⟩
    · exact .inr hg
  have st : StOk (cxOf CX0 P w K mg base c.N qual scope f cdv A outer s H E0) scope := fun x hx => ⟨loc_of hx, .inl rfl⟩
  have owns : PassesOwn (model P w) (cxOf CX0 P w K mg base c.N qual scope f cdv A outer s H E0).A (cxOf CX0 P w K mg base c.N qual scope f cdv A outer s H E0).env (cxOf CX0 P w K mg base c.N qual scope f cdv A outer s H E0).xe :=
    L2.passes_of (X := cxOf CX0 P w K mg base c.N qual scope f cdv A outer s H E0) rfl
  have run := kB_ok (sound_S c o sco.kind C st owns n).1 (sound_S c o sco.kind C st owns n).2 body _ r look
  obtain ⟨F, ds, FH, rs, q⟩ := q
  have hpl : ps.length ≤ c.N.length := by have := congrArg List.length sco.pre; rw [List.length_take] at this; omega
  have hd : ds.length = ps.length := rs.length.symm.trans cnt
  have S := start_si (N := c.N) FH rs hd hpl
  refine wpAny_mono (run.run [] s1 (L2.start c.N vs) H { nx := fun _ H' => Q .non H', rt := Q } I ⟨F, H, F, _, S, ?_⟩) (fun fl s' hs => ?_) fun _ _ z => z
  · unfold runF at q
    rw [if_pos hd] at q
    show OutOk K o F H r _ (dB c scope n body (ds.map some ++ List.replicate (c.N.length - ps.length) none))
    revert q
    cases dB c scope n body (ds.map some ++ List.replicate (c.N.length - ps.length) none) with
    | nx δ' => exact fun q σ' F' H' S' => q .non F' H' S'.F0F S'.BH S'.FH S'.new (Res.no rfl Rp.non)
    | rt d => exact fun q v F' H' g1 g2 g3 g4 g5 => q v F' H' g1 g2 g3 g4 g5
    | bk δ' => exact fun q => q.elim
    | ct δ' => exact fun q => q.elim
    | err _ _ => exact fun q => q
    | bad => exact fun q => q
  · match fl, hs with
    | .ret u, ⟨v, σ', H', J, rv, z⟩ => exact ⟨v, H', J.os, J.bare, J.base, J.hok, rv, z⟩
    | .next, ⟨σ', H', J, z⟩ => exact ⟨.non, H', J.os, J.bare, J.base, J.hok, rfl, z⟩
    | .brk, ⟨_, _, _, z⟩ => exact z.elim
    | .cont, ⟨_, _, _, z⟩ => exact z.elim
end
end Dv
/-! Dv23: the law's call at the end of the top. -/
namespace Dv
open PySem PySem.Spec PyProof.Rows L2
section
variable {P : Program} {w : World} {K : PySem.W.Frag} {mg mb : Str → Option Value} {k : Nat} {fa a : Addr} {fd : FuncData} {x : Str} {m : List D → R D} {o : Nat} {st : Shared} {vs : List Value} {ns : List Int}

/-- the law answers True, what stood before stands -/
abbrev Told (st : Shared) : Result → Shared → Prop := fun r s' => r = .ok (.ret (.bool true)) ∧ OldK st.heap s'.heap ∧ s'.os = st.os ∧ AllBare s'.gens
theorem vals_of_ints : ∀ {vs : List Value} {ns : List Int}, IntsAre vs ns → Vals (ns.map V.int) vs
  | _, _, .nil => .nil
  | _, _, .cons n t h => .cons ⟨t, rfl⟩ (vals_of_ints h)
theorem rps_ints {F : Hp} : ∀ ns : List Int, Rps K F (ns.map V.int) (ns.map PyData.int)
  | [] => .nil
  | n :: ns => .cons (.int n) (rps_ints ns)
/-- from a heap of which nothing but the script may be tracked, and that only as it is -/
theorem told_from {H : Hp} (inK : K.In st.heap) (glob : st.heap.Ns mainGlobals mg) (blt : st.heap.Ns builtinsNs mb) (boot : ∀ x : Str, x ≠ "__name__" → mb x = bootBuiltins x) (nolim : st.heap.NoLimit) (gens : st.gens = #[])
    (at_a : st.heap.get? a = some { cls := .type "list", data := .seq vs.toArray }) (room : Room k callerA)
    (fk : ∀ base : Heap, K.In base → base.Ns mainGlobals mg → Fk P w K mg base k fa fd [x] (prom K m o)) (bnd : ∀ (s : Shared) (u : Value), BindsTo s fd ⟨[u], []⟩ [(x, u)])
    (stands : Rp K H (.ref a) (.list (ns.map PyData.int))) (answer : m [.list (ns.map PyData.int)] = .ok (.bool true))
    (hok : HOk P w H st.heap) (one : ∀ b, H b ≠ none → b = a) (kept : ∀ b u, H b = some u → ∃ ob xs, u = .frz ob (.lst xs)) (apart : H a ≠ none → K.lookup a = none) :
    codeAny (model P w) callerA (.call (.ref fa) ⟨[.ref a], []⟩) (Told st) st := by
  have seen : ∀ {b : Addr} {ob : Obj}, st.heap.get? b = some ob → H b = none → (hidT st.heap H).get? b = some ob := fun z z2 => hidT_get z z2
  have noDict : ∀ {b : Addr} {ob : Obj} {es : Array DictEntry} {ep : Nat}, st.heap.get? b = some ob → ob.data = .dict es ep → H b = none := fun {b ob es ep} z z2 => by
    cases hb : H b with
    | none => rfl
    | some u =>
      cases one b (by rw [hb]; simp)
      rw [at_a] at z
      cases z
      cases (show Data.seq vs.toArray _ = Data.dict es ep from z2)
  have names : ∀ {b : Addr} {mm : Str → Option Value}, st.heap.Ns b mm → (hidT st.heap H).Ns b mm := fun {b mm} z => by
    obtain ⟨ob, es, ep, z1, z2, z3⟩ := z
    exact ⟨ob, es, ep, seen z1 (noDict z1 z2), z2, z3⟩
  have kb : K.In (hidT st.heap H) := fun b ob z => seen (inK b ob z) (by
    cases hb : H b with
    | none => rfl
    | some u =>
      cases one b (by rw [hb]; simp)
      rw [apart (by rw [hb]; simp)] at z
      cases z)
  have md : Mod K mg (hidT st.heap H) := by
    refine ⟨kb, names glob, ⟨mb, names blt, boot⟩, ?_⟩
    obtain ⟨mc, z1, z2⟩ := nolim
    exact ⟨mc, names z1, z2⟩
  have ent : Env0 P w K mg (hidT st.heap H) callerA [] st H := by
    refine ⟨rfl, md, fun b ob z => of_hidT z, Nat.le_of_eq (hidT_size _ _), trivial, fun b hb => ?_, hok, .of_eq gens⟩
    cases (show b ∈ ([] : List Addr) from hb)
  have q : prom K m o [.ref a] H (fun v _ => v = .bl true) := by
    refine ⟨H, [.list (ns.map PyData.int)], Same.refl H, .cons stands .nil, ?_⟩
    rw [answer]
    intro v F' H' _ _ _ _ h1
    exact h1.rh.bl_inv
  refine codeAny_mono ((fk _ kb (names glob)).does callerA [] st H ⟨[.ref a], []⟩ [.ref a] [.ref a] _ room rfl ent (bnd st (.ref a)) (.cons rfl .nil) q) fun r s' z => ?_
  match r, z with
  | .error _, z => exact False.elim z
  | .ok .next, z => exact False.elim z
  | .ok .brk, z => exact False.elim z
  | .ok .cont, z => exact False.elim z
  | .ok (.ret u), ⟨v, H', os, bare, un, hok', rv, z⟩ =>
    have z : v = .bl true := z
    subst z
    cases (show u = Value.bool true from rv)
    refine ⟨rfl, OldK.of_keep fun b ob z => ?_, os, bare⟩
    cases hb : H b with
    | none => exact un.keep b ob z hb (fun z => by cases (show b ∈ ([] : List Addr) from z)) (fun z => by cases (show b ∈ ([] : List Addr) from z))
    | some u =>
      obtain ⟨ob2, xs, rfl⟩ := kept b u hb
      obtain ⟨z1, _⟩ := hok b _ hb
      obtain ⟨z2, _⟩ := hok' b _ (un.frzs b ob2 _ hb)
      rw [z] at z1
      cases z1
      exact z2
theorem law_told (inK : K.In st.heap) (glob : st.heap.Ns mainGlobals mg) (blt : st.heap.Ns builtinsNs mb) (boot : ∀ x : Str, x ≠ "__name__" → mb x = bootBuiltins x) (nolim : st.heap.NoLimit) (gens : st.gens = #[])
    (at_a : st.heap.get? a = some { cls := .type "list", data := .seq vs.toArray }) (theInts : IntsAre vs ns) (len : ns.length ≤ sizeLine) (room : Room k callerA)
    (fk : ∀ base : Heap, K.In base → base.Ns mainGlobals mg → Fk P w K mg base k fa fd [x] (prom K m o)) (bnd : ∀ (s : Shared) (u : Value), BindsTo s fd ⟨[u], []⟩ [(x, u)])
    (answer : m [.list (ns.map PyData.int)] = .ok (.bool true)) : codeAny (model P w) callerA (.call (.ref fa) ⟨[.ref a], []⟩) (Told st) st := by
  have rv := vals_of_ints theInts
  have lv := theInts.length
  cases hk : K.lookup a with
  | some ob =>
    have z := inK a ob hk
    rw [at_a] at z
    cases z
    refine told_from (H := fun _ => none) inK glob blt boot nolim gens at_a room fk bnd (.lst (.inr ⟨vs, _, hk, by rw [lv]; exact len, rv⟩) (rps_ints ns)) answer (fun b u z => ?_) (fun b z => absurd rfl z) (fun b u z => ?_) (fun z => absurd rfl z)
    · cases (show (none : Option HO) = some u from z)
    · cases (show (none : Option HO) = some u from z)
  | none =>
    have at1 : ∀ {b : Addr} {u : HO}, (if b = a then some (HO.frz { cls := .type "list", data := .seq vs.toArray } (.lst (ns.map V.int))) else none) = some u → b = a ∧ u = .frz { cls := .type "list", data := .seq vs.toArray } (.lst (ns.map V.int)) := fun {b u} z => by
      by_cases hb : b = a
      · rw [if_pos hb] at z; cases z; exact ⟨hb, rfl⟩
      · rw [if_neg hb] at z; cases z
    refine told_from (H := fun b => if b = a then some (.frz { cls := .type "list", data := .seq vs.toArray } (.lst (ns.map V.int))) else none) inK glob blt boot nolim gens at_a room fk bnd
      (.lst (.inl (.inr ⟨{ cls := .type "list", data := .seq vs.toArray }, if_pos rfl⟩)) (rps_ints ns)) answer (fun b u z => ?_) (fun b z => ?_) (fun b u z => ?_) fun _ => hk
    · obtain ⟨rfl, rfl⟩ := at1 z
      exact ⟨at_a, by rw [List.length_map]; exact len, vs, _, rv, at_a⟩
    · cases hb : (if b = a then some (HO.frz { cls := .type "list", data := .seq vs.toArray } (.lst (ns.map V.int))) else none) with
      | none => exact absurd hb z
      | some u => exact (at1 hb).1
    · exact ⟨_, _, (at1 z).2⟩
end
/-- what k_head leaves, from the law's own promise -/
theorem walk_dv {l : PySem.W.OpenLaw} {n k : Nat} {q : Program} {loose : List Str} {XP : (Str → Option Value) → Heap → Prop} {YP : World → Heap → Prop} {d : DefRec} {K : Params → PySem.W.Frag} {x : Str} {m : List D → R D} {o : Nat}
    (most : l.most = some n) (most2 : n ≤ sizeLine) (nodef : d.params.defaults = []) (room : Room k callerA) (inK : ∀ (w : World) (h : Heap), YP w h → (K w.params).In h)
    (fk : ∀ (w : World) (mg : Str → Option Value) (fa : Addr) (h : Heap), (K w.params).In h → h.Ns mainGlobals mg → mg d.name = some (.ref fa) →
      ∃ fd : FuncData, (∀ (s : Shared) (u : Value), BindsTo s fd ⟨[u], []⟩ [(x, u)]) ∧ ∀ base : Heap, (K w.params).In base → base.Ns mainGlobals mg → Fk l.prog w (K w.params) mg base k fa fd [x] (prom (K w.params) m o))
    (answer : ∀ ns : List Int, ns.length ≤ n → m [.list (ns.map PyData.int)] = .ok (.bool true)) : PySem.W.WalkO q loose XP YP l.row.toRowW d [] (fun f vs => PySem.call f vs) := by
  refine Att.attach_call most nodef fun w s₀ s₁ mg mb fa ob pm cd doc a vs ns G Y _ _ _ at_law at_a theInts len gens => ?_
  obtain ⟨fd, bnd, fk⟩ := fk w mg fa _ (inK w _ Y) G.T.g at_law
  exact law_told (inK w _ Y) G.T.g G.T.b G.T.builtins G.T.nolimit gens at_a theInts (Nat.le_trans len most2) room fk bnd (answer ns len)
end Dv
/-! Dv24: a module's defs, one by one. -/
namespace Dv
open PySem PySem.Spec PyProof.Rows L2
section
variable {P : Program} {w : World} {K : PySem.W.Frag} {mg : Str → Option Value} {base : Heap} {c : Cfg} {o : Nat} {n k j : Nat}

/-- a def under its name, with its meaning -/
def FnG (P : Program) (w : World) (K : PySem.W.Frag) (mg : Str → Option Value) (base : Heap) (k : Nat) (x : Str) (m : List D → R D) (o : Nat) : Prop :=
  ∃ (j : Nat) (f : Addr) (fd : FuncData) (ps : List Str), j ≤ k ∧ Fk P w K mg base j f fd ps (prom K m o) ∧ mg x = some (.ref f) ∧ PySem.W.keepIn K (.ref f) = true ∧ Binds K fd ps []
theorem FnG.up {x : Str} {m : List D → R D} (h : FnG P w K mg base j x m o) (hj : j ≤ k) : FnG P w K mg base k x m o := by
  obtain ⟨i, f, fd, ps, h1, h2, h3, h4, h5⟩ := h
  exact ⟨i, f, fd, ps, Nat.le_trans h1 hj, h2, h3, h4, h5⟩
def ConG (K : PySem.W.Frag) (mg : Str → Option Value) (x : Str) (d : D) : Prop := ∃ v u, mg x = some u ∧ RelV v u ∧ ∀ F, Rp K F v d
def geOk (P : Program) (w : World) (K : PySem.W.Frag) (mg : Str → Option Value) (base : Heap) (k : Nat) : List (Str × GV) → Prop
  | [] => True
  | (x, .con d) :: r => ConG K mg x d ∧ geOk P w K mg base k r
  | (x, .fn m o fl) :: r => ((FnG P w K mg base k x m o ∧ (fl = true → ∃ b, o = kb b ∧ Flat m b)) ∨ (mg x = some (.builtin "math.gcd") ∧ m = gcdD ∧ o = 3 ∧ fl = true)) ∧ geOk P w K mg base k r
def bnOk (mg : Str → Option Value) : List Str → Prop
  | [] => True
  | x :: r => mg x = none ∧ bnOk mg r
theorem geOk.con : ∀ {l : List (Str × GV)}, geOk P w K mg base k l → ∀ x d, l.lookup x = some (.con d) → ConG K mg x d
  | [], _, x, d, h => by cases h
  | (y, .con e) :: r, g, x, d, h => by
    rw [List.lookup_cons] at h
    cases q : x == y with
    | true => rw [q] at h; cases h; rw [eq_of_beq q]; exact g.1
    | false => rw [q] at h; exact geOk.con g.2 x d h
  | (y, .fn m o fl) :: r, g, x, d, h => by
    rw [List.lookup_cons] at h
    cases q : x == y with
    | true => rw [q] at h; cases h
    | false => rw [q] at h; exact geOk.con g.2 x d h
theorem geOk.fn : ∀ {l : List (Str × GV)}, geOk P w K mg base k l → ∀ x m o fl, l.lookup x = some (.fn m o fl) → ((fl = true → ∃ b, o = kb b ∧ Flat m b) ∧ FnG P w K mg base k x m o) ∨ (mg x = some (.builtin "math.gcd") ∧ m = gcdD ∧ o = 3 ∧ fl = true)
  | [], _, x, m, o, fl, h => by cases h
  | (y, .con e) :: r, g, x, m, o, fl, h => by
    rw [List.lookup_cons] at h
    cases q : x == y with
    | true => rw [q] at h; cases h
    | false => rw [q] at h; exact geOk.fn g.2 x m o fl h
  | (y, .fn m' o' fl') :: r, g, x, m, o, fl, h => by
    rw [List.lookup_cons] at h
    cases q : x == y with
    | true => rw [q] at h; cases h; rw [eq_of_beq q]; exact g.1.elim (fun g => .inl ⟨g.2, g.1⟩) .inr
    | false => rw [q] at h; exact geOk.fn g.2 x m o fl h
theorem bnOk.at : ∀ {l : List Str}, bnOk mg l → ∀ x, l.contains x = true → mg x = none
  | [], _, x, h => by cases h
  | y :: r, g, x, h => by
    rw [List.contains_cons, Bool.or_eq_true] at h
    rcases h with h | h
    · rw [eq_of_beq h]; exact g.1
    · exact bnOk.at g.2 x h
theorem mod0_of (g : geOk P w K mg base k c.ge) (b : bnOk mg c.bn) : Mod0 P w K mg base c k := ⟨g.con, g.fn, b.at⟩
/-- a def's promise from its text, looked at -/
theorem fnG_of {name : Str} {st : Stmt} {f : Addr} {oc : Value} {od an : Option Addr} {osl : Array (Option Value)} {kV doc pm cdv ct : Value} {ps : List Str} {b : DS}
    (m0 : Mod0 P w K mg base c k) (look : (kBl c o (defScope st) n (clr (top c) (List.range ps.length)) (defBody st)).isSome = true) (tie : dB c (defScope st) n (defBody st) = b) (sco : FnScope c.N ps (defScope st))
    (mgf : mg name = some (.ref f)) (lk : K.lookup f = some ⟨oc, od, .func (PySem.W.fnOf name name (defArgs st) (defBody st) (defScope st) .none kV doc pm an cdv ct), osl⟩) (code : PySem.W.codeIn K cdv name = true) (keep : PySem.W.keepIn K (.ref f) = true)
    (bind : ∀ us : List Value, us.length = ps.length → bindArgs (PySem.W.fnOf name name (defArgs st) (defBody st) (defScope st) .none kV doc pm an cdv ct) ⟨us, []⟩ = pure (ps.zip us)) :
    FnG P w K mg base (k + 1) name (runF ps.length c.N.length b) o := by
  obtain ⟨r, look⟩ := Option.isSome_iff_exists.mp look
  subst tie
  exact ⟨k + 1, f, _, ps, Nat.le_refl _, fk_of lk code sco m0 look, mgf, keep, .all bind⟩
/-- .. where what is not flat is not answered for -/
theorem FnG.flat {x : Str} {m : List D → R D} {b : Bool} (h : FnG P w K mg base k x m (kb b)) : FnG P w K mg base k x (gFlat b m) (kb b) := by
  obtain ⟨j, f, fd, ps, hj, fk, h1, h2, h3⟩ := h
  have imp : ∀ vs H Q, prom K (gFlat b m) (kb b) vs H Q → prom K m (kb b) vs H Q := fun vs H Q ⟨F, ds, FH, rs, q⟩ => by
    refine ⟨F, ds, FH, rs, ?_⟩
    unfold gFlat at q
    rw [Ans.bind_iff] at q
    exact q.imp fun d q => by
      split at q
      · exact q
      · exact q.elim
  exact ⟨j, f, fd, ps, hj, ⟨fun vs H Q q => fk.many vs H Q (imp vs H Q q), fun A outer s H args us vs Q r g e b v q => fk.does A outer s H args us vs Q r g e b v (imp vs H Q q)⟩, h1, h2, h3⟩
/-- a constant of the module -/
theorem con_int {x : Str} {i : Int} {t : Tok} (h : mg x = some (.int i t)) : ConG K mg x (.int i) := ⟨.int i, _, h, ⟨t, rfl⟩, fun _ => .int i⟩
theorem con_str {x y : Str} {t : Tok} (h : mg x = some (.str y t)) (z : decide (y.length ≤ 1000) = true) (z2 : PyData.strOk y = true) : ConG K mg x (.str y) := ⟨.str y, _, h, ⟨t, rfl⟩, fun _ => .str ⟨by have := of_decide_eq_true z; omega, z2⟩⟩
end
mutual
/-- a value of the module's own that stands for a datum -/
inductive CV (K : PySem.W.Frag) : Value → D → Prop
  | non : CV K .none .none
  | bl (b : Bool) : CV K (.bool b) (.bool b)
  | int (i : Int) (t : Tok) : CV K (.int i t) (.int i)
  | str {x : Str} (t : Tok) : decide (x.length ≤ 1000) = true → PyData.strOk x = true → CV K (.str x t) (.str x)
  | tup {a : Addr} {o : Obj} {its : Array Value} {n : Nat} {ds : List D} : K.lookup a = some o → o.cls = .type "tuple" → o.data = .seq its n → decide (its.size ≤ 100000) = true → CVs K its.toList ds → CV K (.ref a) (.tuple ds)
  | lst {a : Addr} {its : Array Value} {n : Nat} {ds : List D} : K.lookup a = some { cls := .type "list", data := .seq its n } → decide (its.size ≤ 100000) = true → CVs K its.toList ds → CV K (.ref a) (.list ds)
inductive CVs (K : PySem.W.Frag) : List Value → List D → Prop
  | nil : CVs K [] []
  | cons {u : Value} {us : List Value} {d : D} {ds : List D} : CV K u d → CVs K us ds → CVs K (u :: us) (d :: ds)
end
mutual
theorem CV.stands {K : PySem.W.Frag} : ∀ {u : Value} {d : D}, CV K u d → ∃ v, RelV v u ∧ ∀ F, Rp K F v d
  | _, _, .non => ⟨.non, rfl, fun _ => .non⟩
  | _, _, .bl b => ⟨.bl b, rfl, fun _ => .bl b⟩
  | _, _, .int i t => ⟨.int i, ⟨t, rfl⟩, fun _ => .int i⟩
  | _, _, .str t z z2 => ⟨.str _, ⟨t, rfl⟩, fun _ => .str ⟨by have := of_decide_eq_true z; omega, z2⟩⟩
  | _, _, .tup (a := a) lk hc hd hn cs => by
    obtain ⟨vs, rv, rp⟩ := CVs.stand cs
    exact ⟨.ref a, rfl, fun F => .tup (.inr ⟨_, _, _, lk, hc, hd, Nat.le_trans (of_decide_eq_true hn) (by decide), rv⟩) (rp F)⟩
  | _, _, .lst (a := a) (n := n) lk hn cs => by
    obtain ⟨vs, rv, rp⟩ := CVs.stand cs
    exact ⟨.ref a, rfl, fun F => .lst (.inr ⟨_, n, lk, Nat.le_trans (of_decide_eq_true hn) (by decide), rv⟩) (rp F)⟩
theorem CVs.stand {K : PySem.W.Frag} : ∀ {us : List Value} {ds : List D}, CVs K us ds → ∃ vs, Vals vs us ∧ ∀ F, Rps K F vs ds
  | _, _, .nil => ⟨[], .nil, fun _ => .nil⟩
  | _, _, .cons h t => by
    obtain ⟨v, r, p⟩ := CV.stands h
    obtain ⟨vs, rs, ps⟩ := CVs.stand t
    exact ⟨v :: vs, .cons r rs, fun F => .cons (p F) (ps F)⟩
end
theorem CV.tupI {K : PySem.W.Frag} {a : Addr} {od : Option Addr} {its : Array Value} {n : Nat} {sl : Array (Option Value)} {ds : List D} (lk : K.lookup a = some ⟨.type "tuple", od, .seq its n, sl⟩) (hz : decide (its.size ≤ 100000) = true) (cs : CVs K its.toList ds) : CV K (.ref a) (.tuple ds) := .tup lk rfl rfl hz cs
theorem con_of {K : PySem.W.Frag} {mg : Str → Option Value} {x : Str} {u : Value} {d : D} (h : mg x = some u) (c : CV K u d) : ConG K mg x d := by
  obtain ⟨v, r, p⟩ := c.stands
  exact ⟨v, u, h, r, p⟩
end Dv
/-! Pl0: plain laws of the evaluator: texts of data, sorting, equality, loops. -/
namespace Dv
open PySem PySem.Spec PyProof.Rows L2

/-! ### texts of data in which no text lies -/
theorem strOk_lit (s : String) : PyData.strOk (Str.ofString s) = true := by
  unfold PyData.strOk
  rw [Str.ofString_eq_toList, ← Array.all_toList]
  refine List.all_eq_true.mpr fun c hc => ?_
  obtain ⟨ch, _, rfl⟩ := List.mem_map.mp (by simpa using hc)
  exact decide_eq_true (by have h1 := ch.valid; have e : ch.toNat = ch.val.toNat := rfl; unfold UInt32.isValidChar Nat.isValidChar at h1; omega)
theorem strOk_from : ∀ (ts : List Str) (k : Nat) (acc : Str), PyData.strOk acc = true → (∀ t ∈ ts, PyData.strOk t = true) → PyData.strOk (textFrom k acc ts) = true
  | [], k, acc, h, _ => h
  | t :: r, k, acc, h, ht => strOk_from r (k + 1) _ (strOk_app (strOk_app h (strOk_lit _)) (ht t (List.mem_cons_self ..))) fun x hx => ht x (List.mem_cons_of_mem _ hx)
theorem strOk_join (sep : Str) (hs : PyData.strOk sep = true) : ∀ ts : List Str, (∀ t ∈ ts, PyData.strOk t = true) → PyData.strOk (Str.join sep ts) = true
  | [], _ => (by decide +kernel : PyData.strOk Str.empty = true)
  | [t], h => h t (by simp)
  | t :: u :: r, h => strOk_app (strOk_app (h t (by simp)) hs) (strOk_join sep hs (u :: r) fun x hx => h x (List.mem_cons_of_mem _ hx))
mutual
/-- small numbers, truth values, None, lists and tuples of such -/
def sml : D → Bool
  | .none => true
  | .bool _ => true
  | .int i => decide (i.natAbs < 10 ^ 12)
  | .str _ => false
  | .list xs => smls xs
  | .tuple xs => smls xs
  | .dict _ => false
def smls : List D → Bool
  | [] => true
  | x :: xs => sml x && smls xs
end
theorem log_small {i : Int} (h : i.natAbs < 10 ^ 12) : i.natAbs.log2 < 1920 := by
  by_cases z : i.natAbs = 0
  · rw [z]; decide
  · have h1 : i.natAbs < 2 ^ 1920 := Nat.lt_of_lt_of_le (Nat.lt_trans h (by decide : 10 ^ 12 < 2 ^ 40)) (Nat.pow_le_pow_right (by decide) (by decide))
    exact (Nat.log2_lt z).mpr h1
mutual
theorem sml_shown : ∀ d : D, sml d = true → d.showable = true ∧ d.leavesShort 13 = true ∧ PyData.strOk d.shown = true
  | .none, _ => ⟨rfl, rfl, strOk_lit _⟩
  | .bool b, _ => ⟨rfl, rfl, by cases b <;> exact strOk_lit _⟩
  | .int i, h => by
    have h := of_decide_eq_true h
    have e := int_text_length_le10 (k := 12) (by decide) h
    refine ⟨decide_eq_true (log_small h), decide_eq_true ?_, strOk_lit _⟩
    show (Str.ofString (toString i)).length ≤ 13
    rw [PySem.ofString_length]
    exact e
  | .str _, h => by cases h
  | .list xs, h => by
    obtain ⟨h1, h2, h3⟩ := smls_shown xs h
    exact ⟨h1, h2, strOk_app (strOk_from _ _ _ (strOk_lit _) h3) (strOk_lit _)⟩
  | .tuple xs, h => by
    obtain ⟨h1, h2, h3⟩ := smls_shown xs h
    refine ⟨h1, h2, strOk_app (strOk_app (strOk_lit _) (strOk_join _ (strOk_lit _) _ h3)) (strOk_lit _)⟩
  | .dict _, h => by cases h
theorem smls_shown : ∀ xs : List D, smls xs = true → PyData.showableAll xs = true ∧ PyData.leavesShortAll 13 xs = true ∧ ∀ t ∈ PyData.shownAll xs, PyData.strOk t = true
  | [], _ => ⟨rfl, rfl, fun t h => by cases h⟩
  | x :: xs, h => by
    have h : (sml x && smls xs) = true := h
    obtain ⟨h1, h2⟩ := and2 h
    obtain ⟨a1, a2, a3⟩ := sml_shown x h1
    obtain ⟨b1, b2, b3⟩ := smls_shown xs h2
    refine ⟨?_, ?_, fun t ht => ?_⟩
    · show (x.showable && PyData.showableAll xs) = true
      rw [a1, b1]; rfl
    · show (x.leavesShort 13 && PyData.leavesShortAll 13 xs) = true
      rw [a2, b2]; rfl
    · rcases List.mem_cons.mp ht with rfl | ht
      · exact a3
      · exact b3 t ht
end
theorem repr_sml {d : D} (h : sml d = true) (h2 : fl deep d = true) (h3 : d.bulk ≤ 600000) : reprD d = .ok (.str d.shown) := by
  obtain ⟨a1, a2, a3⟩ := sml_shown d h
  have h4 := PyData.shown_le_bulk 13 (by decide) d a2
  unfold reprD reprOk
  rw [h2, a1, a3, decide_eq_true (show d.shown.length ≤ 10000000 by omega)]
  rfl
/-! ### lists of numbers -/
abbrev il (ns : List Int) : D := .list (ns.map .int)
theorem fl_ints (n : Nat) (ns : List Int) : fl (n + 1) (il ns) = true := List.all_eq_true.mpr fun x hx => by
  obtain ⟨i, _, rfl⟩ := List.mem_map.mp hx
  cases n <;> rfl
theorem fl_all_ints (n : Nat) (ns : List Int) : (ns.map PyData.int).all (fl n) = true := List.all_eq_true.mpr fun x hx => by
  obtain ⟨i, _, rfl⟩ := List.mem_map.mp hx
  cases n <;> rfl
theorem sml_ints : ∀ {ns : List Int}, (∀ i ∈ ns, i.natAbs < 10 ^ 12) → smls (ns.map .int) = true
  | [], _ => rfl
  | n :: ns, h => by
    show (decide (n.natAbs < 10 ^ 12) && smls (ns.map .int)) = true
    rw [decide_eq_true (h n (by simp)), sml_ints fun i hi => h i (List.mem_cons_of_mem _ hi)]
    rfl
theorem bulk_ints : ∀ ns : List Int, PyData.bulkAll (ns.map .int) = ns.length
  | [] => rfl
  | n :: ns => by
    show 0 + 1 + PyData.bulkAll (ns.map .int) = ns.length + 1
    rw [bulk_ints ns]
    omega
theorem repr_ints {ns : List Int} (h : ∀ i ∈ ns, i.natAbs < 10 ^ 12) (h2 : ns.length ≤ 600000) : reprD (il ns) = .ok (.str (il ns).shown) :=
  repr_sml (sml_ints h) (fl_ints _ ns) (by show PyData.bulkAll _ ≤ _; rw [bulk_ints]; exact h2)
theorem eqv_ints : ∀ (a b : List Int), PyData.eqvAll (a.map .int) (b.map .int) = decide (a = b)
  | [], [] => rfl
  | [], _ :: _ => rfl
  | _ :: _, [] => rfl
  | x :: xs, y :: ys => by
    show ((x == y) && PyData.eqvAll (xs.map .int) (ys.map .int)) = _
    rw [eqv_ints xs ys]
    by_cases h : x = y <;> by_cases h2 : xs = ys <;> simp [h, h2]
theorem eq_ints (a b : List Int) : eqD (il a) (il b) = .ok (decide (a = b)) := by
  unfold eqD
  rw [show fl deep (il a) = true from fl_ints _ a, show fl deep (il b) = true from fl_ints _ b]
  show R.ok (PyData.eqvAll _ _) = _
  rw [eqv_ints]
theorem eq_int (a b : Int) : eqD (.int a) (.int b) = .ok (decide (a = b)) := by
  show R.ok (a == b) = _
  by_cases h : a = b <;> simp [h]
theorem eq_str (a b : Str) : eqD (.str a) (.str b) = .ok (a == b) := rfl
theorem intsOf_map : ∀ ns : List Int, intsOf (ns.map .int) = some ns
  | [] => rfl
  | n :: ns => by
    show (intsOf (ns.map .int)).map (n :: ·) = _
    rw [intsOf_map ns]
    rfl
def isort (ns : List Int) : List Int := ns.mergeSort fun a b => decide (a ≤ b)
theorem sort_ints {ns : List Int} (h : ns.length ≤ lim) : sortedD (il ns) = .ok (il (isort ns)) := by
  have h1 : sortOk (ns.map .int) = true := by
    unfold sortOk
    rw [List.length_map, decide_eq_true h, fl_all_ints]
    have h2 : (ns.map PyData.int).all notTup = true := List.all_eq_true.mpr fun x hx => by
      obtain ⟨i, _, rfl⟩ := List.mem_map.mp hx
      rfl
    have h3 : ((ns.map PyData.int).all fun x => (ns.map PyData.int).all fun y => PySem.W.alike x y) = true := List.all_eq_true.mpr fun x hx => List.all_eq_true.mpr fun y hy => by
      obtain ⟨i, _, rfl⟩ := List.mem_map.mp hx
      obtain ⟨j, _, rfl⟩ := List.mem_map.mp hy
      exact alike_int i j
    rw [h2, h3, Bool.or_true]
    rfl
  show (if sortOk (ns.map .int) = true then Dv.R.ok (PyData.list (sortL (ns.map .int))) else .bad) = _
  rw [if_pos h1]
  unfold sortL isort il
  rw [List.map_mergeSort (r := fun a b => decide (a ≤ b)) (s := PySem.W.dataLe false id) (f := PyData.int)]
  intro a _ b _
  have := PySem.W.dataLe_int (β := Int) (fun x => x)
  exact (congrFun (congrFun this a) b).symm
theorem isort_perm (ns : List Int) : (isort ns).Perm ns := List.mergeSort_perm ns _
theorem isort_sorted (ns : List Int) : (isort ns).Pairwise (· ≤ ·) := by
  have := List.pairwise_mergeSort (le := fun a b : Int => decide (a ≤ b)) (fun a b c h1 h2 => by simp at *; omega) (fun a b => by simp; omega) ns
  exact this.imp fun h => of_decide_eq_true h
theorem sorted_eq {a b : List Int} (p : a.Perm b) (ha : a.Pairwise (· ≤ ·)) (hb : b.Pairwise (· ≤ ·)) : a = b :=
  p.eq_of_pairwise (fun x y _ _ h1 h2 => Int.le_antisymm h1 h2) ha hb
theorem isort_id {ns : List Int} (h : ns.Pairwise (· ≤ ·)) : isort ns = ns := sorted_eq (isort_perm ns) (isort_sorted ns) h
end Dv
/-! Tv0: the mirrors' typed readings: types, judgements, expressions. -/
namespace Tv
open PySem Dv

/-! ### data of types -/
class Enc (α : Type) where
  enc : α → D
open Enc (enc)
/-- a tuple of any length -/
structure Tup (α : Type) where
  l : List α
deriving DecidableEq
structure T3 (α β γ : Type) where
  a : α
  b : β
  c : γ
deriving DecidableEq
structure T4 (α β γ δ : Type) where
  a : α
  b : β
  c : γ
  d : δ
deriving DecidableEq
structure T5 (α β γ δ ε : Type) where
  a : α
  b : β
  c : γ
  d : δ
  e : ε
deriving DecidableEq
instance : Enc Int := ⟨.int⟩
instance : Enc Bool := ⟨.bool⟩
instance : Enc Str := ⟨.str⟩
instance : Enc Unit := ⟨fun _ => .none⟩
instance {α : Type} [Enc α] : Enc (List α) := ⟨fun xs => .list (xs.map enc)⟩
instance {α : Type} [Enc α] : Enc (Tup α) := ⟨fun xs => .tuple (xs.l.map enc)⟩
instance {α : Type} [Enc α] : Enc (Option α) := ⟨fun o => match o with
  | none => .none
  | some x => enc x⟩
instance {α β : Type} [Enc α] [Enc β] : Enc (α × β) := ⟨fun p => .tuple [enc p.1, enc p.2]⟩
instance {α β γ : Type} [Enc α] [Enc β] [Enc γ] : Enc (T3 α β γ) := ⟨fun p => .tuple [enc p.a, enc p.b, enc p.c]⟩
instance {α β γ δ : Type} [Enc α] [Enc β] [Enc γ] [Enc δ] : Enc (T4 α β γ δ) := ⟨fun p => .tuple [enc p.a, enc p.b, enc p.c, enc p.d]⟩
instance {α β γ δ ε : Type} [Enc α] [Enc β] [Enc γ] [Enc δ] [Enc ε] : Enc (T5 α β γ δ ε) := ⟨fun p => .tuple [enc p.a, enc p.b, enc p.c, enc p.d, enc p.e]⟩

/-! ### what is read stands for what is typed -/
def Sim {A B : Type} (Φ : A → B → Prop) (r : R A) (t : R B) : Prop := match t with
  | .ok b => ∃ a, r = .ok a ∧ Φ a b
  | .err c i => r = .err c i
  | .bad => True
def Is {T : Type} [Enc T] (d : D) (x : T) : Prop := d = enc x
variable {A B A' B' T V W C U S : Type} [Enc T] [Enc V] [Enc W]
theorem Sim.bind {Φ : A → B → Prop} {Ψ : A' → B' → Prop} {r : R A} {t : R B} {k : A → R A'} {k' : B → R B'} (h : Sim Φ r t) (hk : ∀ a b, Φ a b → Sim Ψ (k a) (k' b)) : Sim Ψ (r.bind k) (t.bind k') := by
  cases t with
  | ok b =>
    obtain ⟨a, rfl, h⟩ := h
    exact hk a b h
  | err c i =>
    have h : r = .err c i := h
    subst h
    exact rfl
  | bad => exact trivial
theorem Sim.ok {Φ : A → B → Prop} {a : A} {b : B} (h : Φ a b) : Sim Φ (.ok a) (.ok b) := ⟨a, rfl, h⟩
theorem Sim.bad {Φ : A → B → Prop} {r : R A} : Sim Φ r .bad := trivial
theorem Sim.mono {Φ Ψ : A → B → Prop} {r : R A} {t : R B} (h : Sim Φ r t) (hk : ∀ a b, Φ a b → Ψ a b) : Sim Ψ r t := by
  cases t with
  | ok b =>
    obtain ⟨a, rfl, h⟩ := h
    exact ⟨a, rfl, hk a b h⟩
  | err c i => exact h
  | bad => exact trivial
theorem bind_ok_self {α : Type} (r : R α) : r.bind .ok = r := by cases r <;> rfl
theorem bind_assoc {α β γ : Type} (r : R α) (f : α → R β) (g : β → R γ) : (r.bind f).bind g = r.bind fun x => (f x).bind g := by cases r <;> rfl

/-! ### what is known of the slots -/
abbrev G := List (Nat × Option D)
structure Ft (m : Nat) (Γ : G) (δ : Dv.Env) : Prop where
  len : δ.length = m
  at_ : ∀ i d, Γ.lookup i = some (some d) → δ[i]? = some (some d)
inductive Lk (Γ : G) : G → Prop
  | nil : Lk Γ []
  | cons {i : Nat} {d : D} {E : G} : Γ.lookup i = some (some d) → Lk Γ E → Lk Γ ((i, some d) :: E)
variable {m : Nat} {Γ Γ' : G} {δ : Dv.Env}
theorem Lk.at_ : ∀ {E : G}, Lk Γ E → ∀ i d, E.lookup i = some (some d) → Γ.lookup i = some (some d)
  | _, .nil, i, d, h => by cases h
  | _, .cons (i := j) (d := e) h t, i, d, q => by
    rw [List.lookup_cons] at q
    cases z : i == j with
    | true => rw [z] at q; cases q; rw [eq_of_beq z]; exact h
    | false => rw [z] at q; exact Lk.at_ t i d q
theorem Ft.to {E : G} (h : Ft m Γ δ) (l : Lk Γ E) : Ft m E δ := ⟨h.len, fun i d q => h.at_ i d (l.at_ i d q)⟩
theorem Ft.put (h : Ft m Γ δ) {i : Nat} (hi : decide (i < m) = true) (d : D) : Ft m ((i, some d) :: Γ) (δ.set i (some d)) := ⟨by rw [List.length_set]; exact h.len, fun j e q => by
  have hi := of_decide_eq_true hi
  rw [List.lookup_cons] at q
  cases z : j == i with
  | true =>
    rw [z] at q; cases q
    rw [eq_of_beq z]
    exact List.getElem?_set_self (by rw [h.len]; exact hi)
  | false =>
    rw [z] at q
    rw [List.getElem?_set_ne (fun w => by rw [w] at z; simp at z)]
    exact h.at_ j e q⟩
theorem Ft.wipe1 (h : Ft m Γ δ) (i : Nat) : Ft m ((i, none) :: Γ) (δ.set i none) := ⟨by rw [List.length_set]; exact h.len, fun j e q => by
  rw [List.lookup_cons] at q
  cases z : j == i with
  | true => rw [z] at q; cases q
  | false =>
    rw [z] at q
    rw [List.getElem?_set_ne (fun w => by rw [w] at z; simp at z)]
    exact h.at_ j e q⟩
def wG : List Nat → G → G
  | [], Γ => Γ
  | v :: vs, Γ => (v, none) :: wG vs Γ
theorem Ft.wipe (h : Ft m Γ δ) : ∀ vs : List Nat, Ft m (wG vs Γ) (wipeE δ vs)
  | [] => h
  | v :: vs => (Ft.wipe h vs).wipe1 v

/-! ### the judgements -/
abbrev KF (T : Type) : Type 1 := (U : Type) → (T → R U) → R U
structure KE (m : Nat) (Γ : G) (e : DE) (F : KF T) : Prop where
  go : ∀ δ, Ft m Γ δ → ∀ (A B : Type) (Φ : A → B → Prop) (k : D → R A) (k' : T → R B), (∀ x, Sim Φ (k (enc x)) (k' x)) → Sim Φ ((e δ).bind k) (F B k')
structure KT (m : Nat) (Γ : G) (t : DT) (F : KF Bool) : Prop where
  go : ∀ δ, Ft m Γ δ → ∀ (A B : Type) (Φ : A → B → Prop) (k : Bool → R A) (k' : Bool → R B), (∀ x, Sim Φ (k x) (k' x)) → Sim Φ ((t δ).bind k) (F B k')
structure KI (m : Nat) (Γ : G) (t : DI) (F : KF (List T)) : Prop where
  go : ∀ δ, Ft m Γ δ → ∀ (A B : Type) (Φ : A → B → Prop) (k : List D → R A) (k' : List T → R B), (∀ xs : List T, Sim Φ (k (xs.map enc)) (k' xs)) → Sim Φ ((t δ).bind k) (F B k')
/-- a list of arguments -/
structure KA (m : Nat) (Γ : G) (es : List DE) (C : Type) (c : C → List D) (F : KF C) : Prop where
  go : ∀ δ, Ft m Γ δ → ∀ (A B : Type) (Φ : A → B → Prop) (k : List D → R A) (k' : C → R B), (∀ x, Sim Φ (k (c x)) (k' x)) → Sim Φ ((evs es δ).bind k) (F B k')
structure KG (m : Nat) (g : TF) (Δ : T → G) : Prop where
  go : ∀ Γ δ x, Ft m Γ δ → ∃ δ', g (enc x) δ = .ok δ' ∧ Ft m (Δ x ++ Γ) δ'
variable {e a b c : DE} {t t1 t2 : DT} {it : DI}
theorem KE.self {F : KF T} (h : KE m Γ e F) (f : Ft m Γ δ) : Sim Is (e δ) (F T .ok) := by
  have := h.go δ f D T Is .ok .ok fun x => .ok rfl
  rwa [bind_ok_self] at this
theorem KT.self {F : KF Bool} (h : KT m Γ t F) (f : Ft m Γ δ) : Sim (fun x y => x = y) (t δ) (F Bool .ok) := by
  have := h.go δ f Bool Bool (fun x y => x = y) .ok .ok fun x => .ok rfl
  rwa [bind_ok_self] at this
theorem ke_eq {F F' : KF T} (h : KE m Γ e F) (q : F = F') : KE m Γ e F' := q ▸ h
theorem kt_eq {F F' : KF Bool} (h : KT m Γ t F) (q : F = F') : KT m Γ t F' := q ▸ h

/-! ### leaves, coercions -/
theorem k_var {i : Nat} {x : T} (h : Γ.lookup i = some (some (enc x))) : KE m Γ (eV i) (fun U k => k x) := ⟨fun δ f A B Φ k k' q => by
  have : eV i δ = .ok (enc x) := by unfold eV; rw [f.at_ _ _ h]
  rw [this]; exact q x⟩
theorem k_c {d : D} (x : T) (h : d = enc x) : KE m Γ (eC d) (fun U k => k x) := ⟨fun δ f A B Φ k k' q => by subst h; exact q x⟩
/-- a value that may be none -/
theorem k_some {F : KF T} (h : KE m Γ e F) : KE (T := Option T) m Γ e (fun U k => F U fun x => k (some x)) := ⟨fun δ f A B Φ k k' q => h.go δ f A B Φ k _ fun x => q (some x)⟩
def unO {α : Type} : Option α → R α
  | some x => .ok x
  | none => .bad
theorem k_un {F : KF (Option T)} (h : KE m Γ e F) : KE (T := T) m Γ e (fun U k => F U fun o => (unO o).bind k) := ⟨fun δ f A B Φ k k' q => h.go δ f A B Φ k _ fun o => by
  cases o with
  | none => exact .bad
  | some x => exact q x⟩
/-! ### operations -/
/-- what an operation comes to, typed -/
def Op1 (f : D → R D) (g : T → R V) : Prop := ∀ x, Sim Is (f (enc x)) (g x)
def Op2 (f : D → D → R D) (g : T → V → R W) : Prop := ∀ x y, Sim Is (f (enc x) (enc y)) (g x y)
def Tp1 (f : D → R Bool) (g : T → R Bool) : Prop := ∀ x, Sim (fun p q => p = q) (f (enc x)) (g x)
def Tp2 (f : D → D → R Bool) (g : T → V → R Bool) : Prop := ∀ x y, Sim (fun p q => p = q) (f (enc x) (enc y)) (g x y)
theorem Sim.is_bind {r : R D} {t : R T} {Φ : A → B → Prop} {k : D → R A} {k' : T → R B} (h : Sim Is r t) (hk : ∀ x, Sim Φ (k (enc x)) (k' x)) : Sim Φ (r.bind k) (t.bind k') := h.bind fun d x e => by
  have e : d = enc x := e
  subst e; exact hk x
theorem k_bin {op : Operator} {g : T → V → R W} {Fa : KF T} {Fb : KF V} (o : Op2 (binD op) g) (ha : KE m Γ a Fa) (hb : KE m Γ b Fb) : KE m Γ (eBin op a b) (fun U k => Fa U fun x => Fb U fun y => (g x y).bind k) := ⟨fun δ f A B Φ k k' q => by
  unfold eBin
  rw [bind_assoc]
  refine ha.go δ f A B Φ _ _ fun x => ?_
  rw [bind_assoc]
  exact hb.go δ f A B Φ _ _ fun y => (o x y).is_bind q⟩
theorem k_binp {op : Operator} {g : T → V → W} {Fa : KF T} {Fb : KF V} (o : Op2 (binD op) fun x y => .ok (g x y)) (ha : KE m Γ a Fa) (hb : KE m Γ b Fb) : KE m Γ (eBin op a b) (fun U k => Fa U fun x => Fb U fun y => k (g x y)) := k_bin o ha hb
theorem o_addI : Op2 (T := Int) (V := Int) (W := Int) (binD .Add) fun x y => .ok (x + y) := fun x y => .ok rfl
theorem o_subI : Op2 (T := Int) (V := Int) (W := Int) (binD .Sub) fun x y => .ok (x - y) := fun x y => .ok rfl
def mulR (x y : Int) : R Int := if small x || small y then .ok (x * y) else .bad
theorem o_mulI : Op2 (T := Int) (V := Int) (W := Int) (binD .Mult) mulR := fun x y => by
  show Sim Is (mulD (.int x) (.int y)) (mulR x y)
  unfold mulD mulR
  dsimp only
  split
  · exact .ok rfl
  · exact .bad
def modR (x y : Int) : R Int := if 0 < y then .ok (x % y) else .bad
theorem o_modI : Op2 (T := Int) (V := Int) (W := Int) (binD .Mod) modR := fun x y => by
  show Sim Is (modD (.int x) (.int y)) (modR x y)
  unfold modD modR
  dsimp only
  split
  · exact .ok rfl
  · exact .bad
def divR (x y : Int) : R Int := if 0 < y ∧ y < 18446744073709551616 then .ok (x / y) else .bad
theorem o_divI : Op2 (T := Int) (V := Int) (W := Int) (binD .FloorDiv) divR := fun x y => by
  show Sim Is (divD (.int x) (.int y)) (divR x y)
  unfold divD divR
  dsimp only
  split
  · exact .ok rfl
  · exact .bad
def powR (x y : Int) : R Int := if 0 ≤ y ∧ y ≤ 1000 ∧ x.natAbs < 2 ^ 64 then .ok (x ^ y.toNat) else .bad
theorem o_powI : Op2 (T := Int) (V := Int) (W := Int) (binD .Pow) powR := fun x y => by
  show Sim Is (powD (.int x) (.int y)) (powR x y)
  unfold powD powR
  dsimp only
  split
  · exact .ok rfl
  · exact .bad
/-- with a written right side -/
theorem k_mulc {y : Int} (h : small y = true) {Fa : KF Int} (ha : KE m Γ a Fa) : KE m Γ (eBin .Mult a (eC (.int y))) (fun U k => Fa U fun x => k (x * y)) := ⟨fun δ f A B Φ k k' q => by
  unfold eBin
  rw [bind_assoc]
  refine ha.go δ f A B Φ _ _ fun x => ?_
  show Sim Φ ((mulD (.int x) (.int y)).bind k) _
  unfold mulD
  dsimp only
  rw [h, Bool.or_true, if_pos rfl]
  exact q _⟩
theorem k_cmul {y : Int} (h : small y = true) {Fa : KF Int} (ha : KE m Γ a Fa) : KE m Γ (eBin .Mult (eC (.int y)) a) (fun U k => Fa U fun x => k (y * x)) := ⟨fun δ f A B Φ k k' q => by
  unfold eBin
  rw [show eC (.int y) δ = .ok (.int y) from rfl, R.bind_ok, bind_assoc]
  refine ha.go δ f A B Φ _ _ fun x => ?_
  show Sim Φ ((mulD (.int y) (.int x)).bind k) _
  unfold mulD
  dsimp only
  rw [h, Bool.true_or, if_pos rfl]
  exact q _⟩
theorem k_modc {y : Int} (h : decide (0 < y) = true) {Fa : KF Int} (ha : KE m Γ a Fa) : KE m Γ (eBin .Mod a (eC (.int y))) (fun U k => Fa U fun x => k (x % y)) := ⟨fun δ f A B Φ k k' q => by
  unfold eBin
  rw [bind_assoc]
  refine ha.go δ f A B Φ _ _ fun x => ?_
  show Sim Φ ((modD (.int x) (.int y)).bind k) _
  unfold modD
  dsimp only
  rw [if_pos (of_decide_eq_true h)]
  exact q _⟩
theorem k_divc {y : Int} (h : decide (0 < y ∧ y < 18446744073709551616) = true) {Fa : KF Int} (ha : KE m Γ a Fa) : KE m Γ (eBin .FloorDiv a (eC (.int y))) (fun U k => Fa U fun x => k (x / y)) := ⟨fun δ f A B Φ k k' q => by
  unfold eBin
  rw [bind_assoc]
  refine ha.go δ f A B Φ _ _ fun x => ?_
  show Sim Φ ((divD (.int x) (.int y)).bind k) _
  unfold divD
  dsimp only
  rw [if_pos (of_decide_eq_true h)]
  exact q _⟩
/-- a list no longer than may be -/
def ck {α : Type} (xs : List α) : R (List α) := if xs.length ≤ lim then .ok xs else .bad
def ckS (s : Str) : R Str := if s.length ≤ lim then .ok s else .bad
def ckT {α : Type} (xs : Tup α) : R (Tup α) := if xs.l.length ≤ lim then .ok xs else .bad
theorem len_app (x y : Str) : (x ++ y).length = x.length + y.length := by
  show (x.cps ++ y.cps).size = _
  rw [Array.size_append]; rfl
theorem o_addS : Op2 (T := Str) (V := Str) (W := Str) (binD .Add) fun x y => ckS (x ++ y) := fun x y => by
  show Sim Is (addD (.str x) (.str y)) _
  unfold addD ckS
  dsimp only
  rw [len_app]
  split
  · exact .ok rfl
  · exact .bad
theorem o_addL : Op2 (T := List T) (V := List T) (W := List T) (binD .Add) fun x y => ck (x ++ y) := fun x y => by
  show Sim Is (addD (.list (x.map enc)) (.list (y.map enc))) _
  unfold addD ck
  dsimp only
  rw [List.length_append, List.length_map, List.length_map]
  split
  · exact .ok (by show PyData.list _ = PyData.list _; rw [List.map_append])
  · exact .bad
theorem o_addT : Op2 (T := Tup T) (V := Tup T) (W := Tup T) (binD .Add) fun x y => ckT ⟨x.l ++ y.l⟩ := fun x y => by
  show Sim Is (addD (.tuple (x.l.map enc)) (.tuple (y.l.map enc))) _
  unfold addD ckT
  dsimp only
  rw [List.length_append, List.length_map, List.length_map]
  split
  · exact .ok (by show PyData.tuple _ = PyData.tuple _; rw [List.map_append])
  · exact .bad
def repL {α : Type} (x : List α) (k : Int) : R (List α) := if decide (-(2 ^ 63) ≤ k ∧ k < 2 ^ 63) && decide (x.length * k.toNat ≤ lim) then .ok (List.replicate k.toNat x).flatten else .bad
theorem o_mulL : Op2 (T := List T) (V := Int) (W := List T) (binD .Mult) repL := fun x y => by
  show Sim Is (mulD (.list (x.map enc)) (.int y)) _
  unfold mulD repL
  dsimp only
  rw [List.length_map]
  split
  · exact .ok (by show PyData.list _ = PyData.list _; rw [List.map_flatten, List.map_replicate])
  · exact .bad
def repSR (x : Str) (k : Int) : R Str := if decide (0 ≤ k ∧ k < 2 ^ 63) && decide (x.length * k.toNat ≤ lim) then .ok (repS x k.toNat) else .bad
theorem o_mulS : Op2 (T := Str) (V := Int) (W := Str) (binD .Mult) repSR := fun x y => by
  show Sim Is (mulD (.str x) (.int y)) _
  unfold mulD repSR
  dsimp only
  split
  · exact .ok rfl
  · exact .bad
theorem k_neg {Fa : KF Int} (ha : KE m Γ a Fa) : KE m Γ (eNeg a) (fun U k => Fa U fun x => k (-x)) := ⟨fun δ f A B Φ k k' q => by
  unfold eNeg
  rw [bind_assoc]
  exact ha.go δ f A B Φ _ _ fun x => q (-x)⟩

/-! ### truth, tests -/
theorem kt_b {F : KF Bool} (h : KE m Γ e F) : KT m Γ (tTru e) F := ⟨fun δ f A B Φ k k' q => by
  unfold tTru
  rw [bind_assoc]
  exact h.go δ f A B Φ _ _ fun x => q x⟩
theorem kt_i {F : KF Int} (h : KE m Γ e F) : KT m Γ (tTru e) (fun U k => F U fun x => k (x != 0)) := ⟨fun δ f A B Φ k k' q => by
  unfold tTru
  rw [bind_assoc]
  exact h.go δ f A B Φ _ _ fun x => q (x != 0)⟩
theorem kt_s {F : KF Str} (h : KE m Γ e F) : KT m Γ (tTru e) (fun U k => F U fun x => k (x.length != 0)) := ⟨fun δ f A B Φ k k' q => by
  unfold tTru
  rw [bind_assoc]
  exact h.go δ f A B Φ _ _ fun x => q (x.length != 0)⟩
theorem kt_l {F : KF (List T)} (h : KE m Γ e F) : KT m Γ (tTru e) (fun U k => F U fun x => k (!x.isEmpty)) := ⟨fun δ f A B Φ k k' q => by
  unfold tTru
  rw [bind_assoc]
  refine h.go δ f A B Φ _ _ fun x => ?_
  have := q (!x.isEmpty)
  show Sim Φ (k (!(x.map enc).isEmpty)) _
  rw [List.isEmpty_map]
  exact this⟩
theorem kt_not {F : KF Bool} (h : KT m Γ t F) : KT m Γ (tNot t) (fun U k => F U fun x => k (!x)) := ⟨fun δ f A B Φ k k' q => by
  have e : (tNot t δ).bind k = (t δ).bind fun x => k (!x) := by unfold tNot; cases t δ <;> rfl
  rw [e]
  exact h.go δ f A B Φ _ _ fun x => q (!x)⟩
theorem k_t {F : KF Bool} (h : KT m Γ t F) : KE m Γ (eT t) F := ⟨fun δ f A B Φ k k' q => by
  unfold eT
  rw [bind_assoc]
  exact h.go δ f A B Φ _ _ fun x => q x⟩
theorem kt_and1 {F : KF Bool} (h : KT m Γ t F) : KT m Γ (tAnds [t]) F := h
theorem kt_and {F : KF Bool} {y : Bool} {ts : List DT} (h : KT m Γ t1 F) (h2 : KT m Γ (tAnds (t2 :: ts)) (fun U k => k y)) : KT m Γ (tAnds (t1 :: t2 :: ts)) (fun U k => F U fun x => k (x && y)) := ⟨fun δ f A B Φ k k' q => by
  show Sim Φ (((t1 δ).bind fun x => if x then tAnds (t2 :: ts) δ else .ok false).bind k) _
  rw [bind_assoc]
  refine h.go δ f A B Φ _ _ fun x => ?_
  cases x with
  | true => exact h2.go δ f A B Φ k _ fun z => q z
  | false => exact q false⟩
theorem kt_andM {F F2 : KF Bool} {ts : List DT} (h : KT m Γ t1 F) (h2 : KT m Γ (tAnds (t2 :: ts)) F2) : KT m Γ (tAnds (t1 :: t2 :: ts)) (fun U k => F U fun x => (if x then F2 Bool .ok else .ok false).bind k) := ⟨fun δ f A B Φ k k' q => by
  show Sim Φ (((t1 δ).bind fun x => if x then tAnds (t2 :: ts) δ else .ok false).bind k) _
  rw [bind_assoc]
  refine h.go δ f A B Φ _ _ fun x => ?_
  cases x with
  | true => exact (h2.self f).bind fun p z e => by subst e; exact q p
  | false => exact q false⟩
theorem kt_or1 {F : KF Bool} (h : KT m Γ t F) : KT m Γ (tOrs [t]) F := h
theorem kt_or {F : KF Bool} {y : Bool} {ts : List DT} (h : KT m Γ t1 F) (h2 : KT m Γ (tOrs (t2 :: ts)) (fun U k => k y)) : KT m Γ (tOrs (t1 :: t2 :: ts)) (fun U k => F U fun x => k (x || y)) := ⟨fun δ f A B Φ k k' q => by
  show Sim Φ (((t1 δ).bind fun x => if x then .ok true else tOrs (t2 :: ts) δ).bind k) _
  rw [bind_assoc]
  refine h.go δ f A B Φ _ _ fun x => ?_
  cases x with
  | false => exact h2.go δ f A B Φ k _ fun z => q z
  | true => exact q true⟩
theorem kt_orM {F F2 : KF Bool} {ts : List DT} (h : KT m Γ t1 F) (h2 : KT m Γ (tOrs (t2 :: ts)) F2) : KT m Γ (tOrs (t1 :: t2 :: ts)) (fun U k => F U fun x => (if x then .ok true else F2 Bool .ok).bind k) := ⟨fun δ f A B Φ k k' q => by
  show Sim Φ (((t1 δ).bind fun x => if x then .ok true else tOrs (t2 :: ts) δ).bind k) _
  rw [bind_assoc]
  refine h.go δ f A B Φ _ _ fun x => ?_
  cases x with
  | false => exact (h2.self f).bind fun p z e => by subst e; exact q p
  | true => exact q true⟩
theorem kt_cmp {op : CmpOp} {g : T → V → R Bool} {Fa : KF T} {Fb : KF V} (o : Tp2 (cmpD op) g) (ha : KE m Γ a Fa) (hb : KE m Γ b Fb) : KT m Γ (tCmp a [(op, b)]) (fun U k => Fa U fun x => Fb U fun y => (g x y).bind k) := ⟨fun δ f A B Φ k k' q => by
  unfold tCmp
  rw [bind_assoc]
  refine ha.go δ f A B Φ _ _ fun x => ?_
  show Sim Φ (((b δ).bind fun y => cmpD op (enc x) y).bind k) _
  rw [bind_assoc]
  exact hb.go δ f A B Φ _ _ fun y => (o x y).bind fun p z e => by subst e; exact q p⟩
theorem kt_cmpp {op : CmpOp} {g : T → V → Bool} {Fa : KF T} {Fb : KF V} (o : Tp2 (cmpD op) fun x y => .ok (g x y)) (ha : KE m Γ a Fa) (hb : KE m Γ b Fb) : KT m Γ (tCmp a [(op, b)]) (fun U k => Fa U fun x => Fb U fun y => k (g x y)) := kt_cmp o ha hb
/-- a chain of two, three comparisons, all but the first side pure -/
theorem kt_ch2 {op op2 : CmpOp} {g : T → V → Bool} {g2 : V → W → Bool} {Fa : KF T} {y : V} {z : W} (o : Tp2 (cmpD op) fun x y => .ok (g x y)) (o2 : Tp2 (cmpD op2) fun x y => .ok (g2 x y)) (ha : KE m Γ a Fa) (hb : KE m Γ b (fun U k => k y)) (hc : KE m Γ c (fun U k => k z)) :
    KT m Γ (tCmp a [(op, b), (op2, c)]) (fun U k => Fa U fun x => k (g x y && g2 y z)) := ⟨fun δ f A B Φ k k' q => by
  unfold tCmp
  rw [bind_assoc]
  refine ha.go δ f A B Φ _ _ fun x => ?_
  show Sim Φ (((b δ).bind fun y => (cmpD op (enc x) y).bind fun t => if t then (c δ).bind fun z => cmpD op2 y z else .ok false).bind k) _
  rw [bind_assoc]
  refine hb.go δ f A B Φ _ (fun y => k' (g x y && g2 y z)) fun y => ?_
  rw [bind_assoc]
  refine (o x y).bind (k' := fun t => k' (t && g2 y z)) fun p s e => ?_
  subst e
  cases p with
  | false => exact q false
  | true =>
    show Sim Φ (((c δ).bind fun z => cmpD op2 (enc y) z).bind k) (k' (g2 y z))
    rw [bind_assoc]
    exact hc.go δ f A B Φ _ (fun z => k' (g2 y z)) fun z => (o2 y z).bind (k' := k') fun p s e => by subst e; exact q p⟩
theorem kt_ch3 {V2 : Type} [Enc V2] {d : DE} {op op2 op3 : CmpOp} {g : T → V → Bool} {g2 : V → W → Bool} {g3 : W → V2 → Bool} {Fa : KF T} {y : V} {z : W} {w : V2} (o : Tp2 (cmpD op) fun x y => .ok (g x y)) (o2 : Tp2 (cmpD op2) fun x y => .ok (g2 x y)) (o3 : Tp2 (cmpD op3) fun x y => .ok (g3 x y)) (ha : KE m Γ a Fa) (hb : KE m Γ b (fun U k => k y)) (hc : KE m Γ c (fun U k => k z)) (hd : KE m Γ d (fun U k => k w)) :
    KT m Γ (tCmp a [(op, b), (op2, c), (op3, d)]) (fun U k => Fa U fun x => k (g x y && (g2 y z && g3 z w))) := ⟨fun δ f A B Φ k k' q => by
  unfold tCmp
  rw [bind_assoc]
  refine ha.go δ f A B Φ _ _ fun x => ?_
  show Sim Φ (((b δ).bind fun y => (cmpD op (enc x) y).bind fun t => if t then cmpGo δ y [(op2, c), (op3, d)] else .ok false).bind k) _
  rw [bind_assoc]
  refine hb.go δ f A B Φ _ (fun y => k' (g x y && (g2 y z && g3 z w))) fun y => ?_
  rw [bind_assoc]
  refine (o x y).bind (k' := fun t => k' (t && (g2 y z && g3 z w))) fun p s e => ?_
  subst e
  cases p with
  | false => exact q false
  | true =>
    have h2 := (kt_ch2 (m := m) (Γ := Γ) (a := eC (enc y)) o2 o3 (k_c y rfl) hc hd).go δ f A B Φ k k' q
    exact h2⟩
theorem k_if {F : KF Bool} {x y : T} (h : KT m Γ t F) (ha : KE m Γ a (fun U k => k x)) (hb : KE m Γ b (fun U k => k y)) : KE m Γ (eIf t a b) (fun U k => F U fun c => k (if c then x else y)) := ⟨fun δ f A B Φ k k' q => by
  unfold eIf
  rw [bind_assoc]
  refine h.go δ f A B Φ _ _ fun c => ?_
  cases c with
  | true => exact ha.go δ f A B Φ _ _ q
  | false => exact hb.go δ f A B Φ _ _ q⟩
theorem k_ifM {F : KF Bool} {Fa Fb : KF T} (h : KT m Γ t F) (ha : KE m Γ a Fa) (hb : KE m Γ b Fb) : KE m Γ (eIf t a b) (fun U k => F U fun c => (if c then Fa T .ok else Fb T .ok).bind k) := ⟨fun δ f A B Φ k k' q => by
  unfold eIf
  rw [bind_assoc]
  refine h.go δ f A B Φ _ _ fun c => ?_
  cases c with
  | true => exact (ha.self f).is_bind q
  | false => exact (hb.self f).is_bind q⟩

/-! ### lists of expressions, calls -/
theorem ka_nil : KA m Γ [] Unit (fun _ => []) (fun U k => k ()) := ⟨fun δ f A B Φ k k' q => q ()⟩
theorem ka_cons {es : List DE} {C : Type} {cc : C → List D} {F : KF T} {Fs : KF C} (h : KE m Γ e F) (hs : KA m Γ es C cc Fs) : KA m Γ (e :: es) (T × C) (fun p => enc p.1 :: cc p.2) (fun U k => F U fun x => Fs U fun xs => k (x, xs)) := ⟨fun δ f A B Φ k k' q => by
  unfold evs
  rw [bind_assoc]
  refine h.go δ f A B Φ _ _ fun x => ?_
  rw [bind_assoc]
  exact hs.go δ f A B Φ _ _ fun xs => q (x, xs)⟩
theorem k_call {es : List DE} {C : Type} {cc : C → List D} {Fs : KF C} {mf : List D → R D} {g : C → R T} (hm : ∀ c, Sim Is (mf (cc c)) (g c)) (hs : KA m Γ es C cc Fs) : KE m Γ (eCall mf es) (fun U k => Fs U fun c => (g c).bind k) := ⟨fun δ f A B Φ k k' q => by
  unfold eCall
  rw [bind_assoc]
  exact hs.go δ f A B Φ _ _ fun c => (hm c).is_bind q⟩
theorem k_callp {es : List DE} {C : Type} {cc : C → List D} {Fs : KF C} {mf : List D → R D} {g : C → T} (hm : ∀ c, Sim Is (mf (cc c)) (.ok (g c))) (hs : KA m Γ es C cc Fs) : KE m Γ (eCall mf es) (fun U k => Fs U fun c => k (g c)) := k_call hm hs
/-- a list display -/
inductive KL (m : Nat) (Γ : G) : List DE → KF (List T) → Prop
  | nil : KL m Γ [] (fun U k => k [])
  | cons {e : DE} {es : List DE} {F : KF T} {Fs : KF (List T)} : KE m Γ e F → KL m Γ es Fs → KL m Γ (e :: es) (fun U k => F U fun x => Fs U fun xs => k (x :: xs))
theorem KL.go {es : List DE} {Fs : KF (List T)} (h : KL m Γ es Fs) : ∀ δ, Ft m Γ δ → ∀ (A B : Type) (Φ : A → B → Prop) (k : List D → R A) (k' : List T → R B), (∀ xs : List T, Sim Φ (k (xs.map enc)) (k' xs)) → Sim Φ ((evs es δ).bind k) (Fs B k') := by
  induction h with
  | nil => exact fun δ f A B Φ k k' q => q []
  | cons h t ih =>
    intro δ f A B Φ k k' q
    unfold evs
    rw [bind_assoc]
    refine h.go δ f A B Φ _ _ fun x => ?_
    rw [bind_assoc]
    exact ih δ f A B Φ _ _ fun xs => q (x :: xs)
theorem k_lst {es : List DE} {Fs : KF (List T)} (h : KL m Γ es Fs) : KE m Γ (eLst es) Fs := ⟨fun δ f A B Φ k k' q => by
  unfold eLst
  rw [bind_assoc]
  exact h.go δ f A B Φ _ _ q⟩
/-- a tuple of one type -/
theorem k_tupn {es : List DE} {Fs : KF (List T)} (h : KL m Γ es Fs) : KE (T := Tup T) m Γ (eTup es) (fun U k => Fs U fun xs => k ⟨xs⟩) := ⟨fun δ f A B Φ k k' q => by
  unfold eTup
  rw [bind_assoc]
  exact h.go δ f A B Φ _ _ fun xs => q ⟨xs⟩⟩
theorem k_tup2 {F1 : KF T} {F2 : KF V} (h1 : KE m Γ a F1) (h2 : KE m Γ b F2) : KE (T := T × V) m Γ (eTup [a, b]) (fun U k => F1 U fun x => F2 U fun y => k (x, y)) := ⟨fun δ f A B Φ k k' q => by
  unfold eTup
  rw [bind_assoc]
  exact (ka_cons h1 (ka_cons h2 ka_nil)).go δ f A B Φ _ (fun p => k' (p.1, p.2.1)) fun p => q (p.1, p.2.1)⟩
theorem k_tup3 {F1 : KF T} {F2 : KF V} {F3 : KF W} (h1 : KE m Γ a F1) (h2 : KE m Γ b F2) (h3 : KE m Γ c F3) : KE (T := T3 T V W) m Γ (eTup [a, b, c]) (fun U k => F1 U fun x => F2 U fun y => F3 U fun z => k ⟨x, y, z⟩) := ⟨fun δ f A B Φ k k' q => by
  unfold eTup
  rw [bind_assoc]
  exact (ka_cons h1 (ka_cons h2 (ka_cons h3 ka_nil))).go δ f A B Φ _ (fun p => k' ⟨p.1, p.2.1, p.2.2.1⟩) fun p => q ⟨p.1, p.2.1, p.2.2.1⟩⟩
theorem k_tup4 {V2 : Type} [Enc V2] {d : DE} {F1 : KF T} {F2 : KF V} {F3 : KF W} {F4 : KF V2} (h1 : KE m Γ a F1) (h2 : KE m Γ b F2) (h3 : KE m Γ c F3) (h4 : KE m Γ d F4) : KE (T := T4 T V W V2) m Γ (eTup [a, b, c, d]) (fun U k => F1 U fun x => F2 U fun y => F3 U fun z => F4 U fun w => k ⟨x, y, z, w⟩) := ⟨fun δ f A B Φ k k' q => by
  unfold eTup
  rw [bind_assoc]
  exact (ka_cons h1 (ka_cons h2 (ka_cons h3 (ka_cons h4 ka_nil)))).go δ f A B Φ _ (fun p => k' ⟨p.1, p.2.1, p.2.2.1, p.2.2.2.1⟩) fun p => q ⟨p.1, p.2.1, p.2.2.1, p.2.2.2.1⟩⟩

/-! ### places, cuts -/
def idx {α : Type} (xs : List α) (i : Int) : R α := oR (atZ xs i)
theorem k_ix {op : D → D → R D} : True := trivial
theorem k_ixO {g : T → V → R W} {Fa : KF T} {Fb : KF V} (o : Op2 idxD g) (ha : KE m Γ a Fa) (hb : KE m Γ b Fb) : KE m Γ (eIx a b) (fun U k => Fa U fun x => Fb U fun y => (g x y).bind k) := ⟨fun δ f A B Φ k k' q => by
  unfold eIx
  rw [bind_assoc]
  refine ha.go δ f A B Φ _ _ fun x => ?_
  rw [bind_assoc]
  exact hb.go δ f A B Φ _ _ fun y => (o x y).is_bind q⟩
theorem atZ_map {α β : Type} (f : α → β) (xs : List α) (i : Int) : atZ (xs.map f) i = (atZ xs i).map f := by
  unfold atZ
  rw [List.length_map]
  cases ixZ xs.length i with
  | none => rfl
  | some j => show (xs.map f)[j]? = (xs[j]?).map f; rw [List.getElem?_map]
theorem sim_oR {α : Type} {o : Option α} {f : α → D} [Enc α] (h : ∀ x, f x = enc x) : Sim Is (oR (o.map f)) (oR o) := by
  cases o with
  | none => exact .bad
  | some x => exact .ok (h x)
theorem o_ixL : Op2 (T := List T) (V := Int) (W := T) idxD idx := fun xs i => by
  show Sim Is (oR (atZ (xs.map enc) i)) (oR (atZ xs i))
  rw [atZ_map]
  exact sim_oR fun _ => rfl
theorem o_ixT : Op2 (T := Tup T) (V := Int) (W := T) idxD fun xs i => idx xs.l i := fun xs i => by
  show Sim Is (oR (atZ (xs.l.map enc) i)) (oR (atZ xs.l i))
  rw [atZ_map]
  exact sim_oR fun _ => rfl
def idxS (s : Str) (i : Int) : R Str := oR ((atZ s.cps.toList i).map sgn)
theorem o_ixS : Op2 (T := Str) (V := Int) (W := Str) idxD idxS := fun s i => by
  show Sim Is (oR ((atZ s.cps.toList i).map fun c => .str (sgn c))) (oR ((atZ s.cps.toList i).map sgn))
  cases atZ s.cps.toList i with
  | none => exact .bad
  | some c => exact .ok rfl
/-- a part of a tuple by a written place -/
theorem k_p1 {Fa : KF (T × V)} (ha : KE m Γ a Fa) : KE (T := T) m Γ (eIx a (eC (.int 0))) (fun U k => Fa U fun x => k x.1) := ⟨fun δ f A B Φ k k' q => by
  unfold eIx; rw [bind_assoc]; exact ha.go δ f A B Φ _ _ fun x => q x.1⟩
theorem k_p2 {Fa : KF (T × V)} (ha : KE m Γ a Fa) : KE (T := V) m Γ (eIx a (eC (.int 1))) (fun U k => Fa U fun x => k x.2) := ⟨fun δ f A B Φ k k' q => by
  unfold eIx; rw [bind_assoc]; exact ha.go δ f A B Φ _ _ fun x => q x.2⟩
theorem k_t31 {Fa : KF (T3 T V W)} (ha : KE m Γ a Fa) : KE (T := T) m Γ (eIx a (eC (.int 0))) (fun U k => Fa U fun x => k x.a) := ⟨fun δ f A B Φ k k' q => by
  unfold eIx; rw [bind_assoc]; exact ha.go δ f A B Φ _ _ fun x => q x.a⟩
theorem k_t32 {Fa : KF (T3 T V W)} (ha : KE m Γ a Fa) : KE (T := V) m Γ (eIx a (eC (.int 1))) (fun U k => Fa U fun x => k x.b) := ⟨fun δ f A B Φ k k' q => by
  unfold eIx; rw [bind_assoc]; exact ha.go δ f A B Φ _ _ fun x => q x.b⟩
theorem k_t33 {Fa : KF (T3 T V W)} (ha : KE m Γ a Fa) : KE (T := W) m Γ (eIx a (eC (.int 2))) (fun U k => Fa U fun x => k x.c) := ⟨fun δ f A B Φ k k' q => by
  unfold eIx; rw [bind_assoc]; exact ha.go δ f A B Φ _ _ fun x => q x.c⟩
theorem cut_map {α β : Type} (f : α → β) (xs : List α) (lo hi : Option Int) : cut (xs.map f) lo hi = (cut xs lo hi).map f := by
  unfold cut
  rw [List.length_map, List.map_take, List.map_drop]
theorem ke_asInt {Fa : KF Int} (ha : KE m Γ a Fa) (f : Ft m Γ δ) (A B : Type) (Φ : A → B → Prop) (k : Option Int → R A) (k' : Int → R B) (q : ∀ x, Sim Φ (k (some x)) (k' x)) : Sim Φ ((oE (some a) δ).bind k) (Fa B k') := by
  unfold oE
  rw [bind_assoc]
  refine ha.go δ f A B Φ _ _ fun x => ?_
  exact q x
/-- the two ends of a cut -/
structure KO (m : Nat) (Γ : G) (o : Option DE) (F : KF (Option Int)) : Prop where
  go : ∀ δ, Ft m Γ δ → ∀ (A B : Type) (Φ : A → B → Prop) (k : Option Int → R A) (k' : Option Int → R B), (∀ x, Sim Φ (k x) (k' x)) → Sim Φ ((oE o δ).bind k) (F B k')
theorem ko_none : KO m Γ none (fun U k => k none) := ⟨fun δ f A B Φ k k' q => q none⟩
theorem ko_some {Fa : KF Int} (ha : KE m Γ a Fa) : KO m Γ (some a) (fun U k => Fa U fun x => k (some x)) := ⟨fun δ f A B Φ k k' q => ke_asInt ha f A B Φ k _ fun x => q (some x)⟩
theorem k_slL {Fa : KF (List T)} {lo hi : Option DE} {Fl Fh : KF (Option Int)} (ha : KE m Γ a Fa) (hl : KO m Γ lo Fl) (hh : KO m Γ hi Fh) : KE m Γ (eSl a lo hi) (fun U k => Fa U fun x => Fl U fun l => Fh U fun h => k (cut x l h)) := ⟨fun δ f A B Φ k k' q => by
  unfold eSl
  rw [bind_assoc]
  refine ha.go δ f A B Φ _ _ fun x => ?_
  rw [bind_assoc]
  refine hl.go δ f A B Φ _ _ fun l => ?_
  rw [bind_assoc]
  refine hh.go δ f A B Φ _ _ fun h => ?_
  show Sim Φ (k (.list (cut (x.map enc) l h))) _
  rw [cut_map]
  exact q _⟩
theorem k_slT {Fa : KF (Tup T)} {lo hi : Option DE} {Fl Fh : KF (Option Int)} (ha : KE m Γ a Fa) (hl : KO m Γ lo Fl) (hh : KO m Γ hi Fh) : KE (T := Tup T) m Γ (eSl a lo hi) (fun U k => Fa U fun x => Fl U fun l => Fh U fun h => k ⟨cut x.l l h⟩) := ⟨fun δ f A B Φ k k' q => by
  unfold eSl
  rw [bind_assoc]
  refine ha.go δ f A B Φ _ _ fun x => ?_
  rw [bind_assoc]
  refine hl.go δ f A B Φ _ _ fun l => ?_
  rw [bind_assoc]
  refine hh.go δ f A B Φ _ _ fun h => ?_
  show Sim Φ (k (.tuple (cut (x.l.map enc) l h))) _
  rw [cut_map]
  exact q ⟨_⟩⟩
def cutSt (s : Str) (lo hi : Option Int) : Str := ⟨(cut s.cps.toList lo hi).toArray⟩
theorem k_slS {Fa : KF Str} {lo hi : Option DE} {Fl Fh : KF (Option Int)} (ha : KE m Γ a Fa) (hl : KO m Γ lo Fl) (hh : KO m Γ hi Fh) : KE m Γ (eSl a lo hi) (fun U k => Fa U fun x => Fl U fun l => Fh U fun h => k (cutSt x l h)) := ⟨fun δ f A B Φ k k' q => by
  unfold eSl
  rw [bind_assoc]
  refine ha.go δ f A B Φ _ _ fun x => ?_
  rw [bind_assoc]
  refine hl.go δ f A B Φ _ _ fun l => ?_
  rw [bind_assoc]
  refine hh.go δ f A B Φ _ _ fun h => ?_
  exact q _⟩
theorem k_rev {Fa : KF (List T)} (ha : KE m Γ a Fa) : KE m Γ (eRev a) (fun U k => Fa U fun x => k x.reverse) := ⟨fun δ f A B Φ k k' q => by
  unfold eRev
  rw [bind_assoc]
  refine ha.go δ f A B Φ _ _ fun x => ?_
  show Sim Φ (k (.list (x.map enc).reverse)) _
  rw [← List.map_reverse]
  exact q _⟩

/-! ### what is walked -/
theorem ki_l {F : KF (List T)} (h : KE m Γ e F) : KI m Γ (iExp e) F := ⟨fun δ f A B Φ k k' q => by
  unfold iExp
  rw [bind_assoc]
  exact h.go δ f A B Φ _ _ fun x => q x⟩
theorem ki_t {F : KF (Tup T)} (h : KE m Γ e F) : KI m Γ (iExp e) (fun U k => F U fun x => k x.l) := ⟨fun δ f A B Φ k k' q => by
  unfold iExp
  rw [bind_assoc]
  exact h.go δ f A B Φ _ _ fun x => q x.l⟩
def signs (s : Str) : List Str := s.cps.toList.map sgn
theorem ki_s {F : KF Str} (h : KE m Γ e F) : KI m Γ (iExp e) (fun U k => F U fun x => k (signs x)) := ⟨fun δ f A B Φ k k' q => by
  unfold iExp
  rw [bind_assoc]
  refine h.go δ f A B Φ _ _ fun x => ?_
  have := q (signs x)
  unfold signs at this
  rw [List.map_map] at this
  exact this⟩
def zr (lo hi : Int) : List Int := (List.range (hi - lo).toNat).map fun (k : Nat) => lo + (k : Int)
def zd (lo hi : Int) : List Int := (List.range (lo - hi).toNat).map fun (k : Nat) => lo - (k : Int)
def rng (lo hi : Int) : R (List Int) := if big lo && big hi then .ok (zr lo hi) else .bad
def rngd (lo hi : Int) : R (List Int) := if big lo && big hi then .ok (zd lo hi) else .bad
theorem ki_r1 {F : KF Int} (h : KE m Γ e F) : KI m Γ (iRng1 e) (fun U k => F U fun j => (rng 0 j).bind k) := ⟨fun δ f A B Φ k k' q => by
  unfold iRng1
  rw [bind_assoc]
  refine h.go δ f A B Φ _ _ fun j => ?_
  show Sim Φ ((if big j then R.ok (intUp 0 j.toNat) else .bad).bind k) _
  unfold rng
  rw [show big 0 = true from rfl, Bool.true_and]
  split
  · have e : intUp 0 j.toNat = (zr 0 j).map enc := by unfold zr intUp; rw [List.map_map, Int.sub_zero]; rfl
    show Sim Φ (k (intUp 0 j.toNat)) _
    rw [e]
    exact q _
  · exact .bad⟩
theorem ki_r2 {Fa Fb : KF Int} (ha : KE m Γ a Fa) (hb : KE m Γ b Fb) : KI m Γ (iRng2 a b) (fun U k => Fa U fun i => Fb U fun j => (rng i j).bind k) := ⟨fun δ f A B Φ k k' q => by
  unfold iRng2
  rw [bind_assoc]
  refine ha.go δ f A B Φ _ _ fun i => ?_
  rw [bind_assoc]
  refine hb.go δ f A B Φ _ _ fun j => ?_
  show Sim Φ ((if big i && big j then R.ok (intUp i (j - i).toNat) else .bad).bind k) _
  unfold rng
  split
  · have := q (zr i j)
    unfold zr at this
    rw [List.map_map] at this
    exact this
  · exact .bad⟩
theorem ki_rd {Fa Fb : KF Int} (ha : KE m Γ a Fa) (hb : KE m Γ b Fb) : KI m Γ (iRngD a b) (fun U k => Fa U fun i => Fb U fun j => (rngd i j).bind k) := ⟨fun δ f A B Φ k k' q => by
  unfold iRngD
  rw [bind_assoc]
  refine ha.go δ f A B Φ _ _ fun i => ?_
  rw [bind_assoc]
  refine hb.go δ f A B Φ _ _ fun j => ?_
  show Sim Φ ((if big i && big j then R.ok (intDn i (i - j).toNat) else .bad).bind k) _
  unfold rngd
  split
  · have := q (zd i j)
    unfold zd at this
    rw [List.map_map] at this
    exact this
  · exact .bad⟩
def enumF {α : Type} (k : Int) : List α → List (Int × α)
  | [] => []
  | x :: xs => (k, x) :: enumF (k + 1) xs
theorem enum_map : ∀ (xs : List T) (n : Nat), enumL n (xs.map enc) = (enumF (n : Int) xs).map enc
  | [], _ => rfl
  | x :: xs, n => by
    show PyData.tuple [.int n, enc x] :: enumL (n + 1) (xs.map enc) = PyData.tuple [.int n, enc x] :: (enumF ((n : Int) + 1) xs).map enc
    rw [enum_map xs (n + 1)]
    rfl
theorem ki_enum {F : KF (List T)} (h : KE m Γ e F) : KI (T := Int × T) m Γ (iEnum e) (fun U k => F U fun xs => k (enumF 0 xs)) := ⟨fun δ f A B Φ k k' q => by
  unfold iEnum
  rw [bind_assoc]
  refine h.go δ f A B Φ _ _ fun xs => ?_
  show Sim Φ (k (enumL 0 (xs.map enc))) _
  rw [enum_map]
  exact q _⟩
theorem ki_zip {Fa : KF (List T)} {Fb : KF (List V)} (ha : KE m Γ a Fa) (hb : KE m Γ b Fb) : KI (T := T × V) m Γ (iZip a b) (fun U k => Fa U fun xs => Fb U fun ys => k (xs.zip ys)) := ⟨fun δ f A B Φ k k' q => by
  unfold iZip
  rw [bind_assoc]
  refine ha.go δ f A B Φ _ _ fun xs => ?_
  rw [bind_assoc]
  refine hb.go δ f A B Φ _ _ fun ys => ?_
  show Sim Φ (k (((xs.map enc).zip (ys.map enc)).map fun p => .tuple [p.1, p.2])) _
  have e : ((xs.map enc).zip (ys.map enc)).map (fun p => PyData.tuple [p.1, p.2]) = (xs.zip ys).map enc := by
    rw [List.zip_map, List.map_map]; rfl
  rw [e]
  exact q _⟩
theorem k_lstI {it : DI} {F : KF (List T)} (h : KI m Γ it F) : KE m Γ (eLstI it) (fun U k => F U fun xs => (ck xs).bind k) := ⟨fun δ f A B Φ k k' q => by
  unfold eLstI
  rw [bind_assoc]
  refine h.go δ f A B Φ _ _ fun xs => ?_
  unfold ck
  rw [List.length_map]
  split
  · exact q xs
  · exact .bad⟩

/-! ### targets -/
theorem kg_nm {i : Nat} (h : decide (i < m) = true) : KG (T := T) m (gNm i) (fun x => [(i, some (enc x))]) := ⟨fun Γ δ x f => ⟨_, rfl, f.put h _⟩⟩
theorem kg_2 {g1 g2 : TF} {Δ1 : T → G} {Δ2 : V → G} (h1 : KG m g1 Δ1) (h2 : KG m g2 Δ2) : KG (T := T × V) m (gTp [g1, g2]) (fun p => Δ2 p.2 ++ Δ1 p.1) := ⟨fun Γ δ p f => by
  obtain ⟨δ1, e1, f1⟩ := h1.go Γ δ p.1 f
  obtain ⟨δ2, e2, f2⟩ := h2.go _ δ1 p.2 f1
  refine ⟨δ2, ?_, by rw [List.append_assoc]; exact f2⟩
  show (g1 (enc p.1) δ).bind (fun δ' => (g2 (enc p.2) δ').bind fun δ'' => R.ok δ'') = _
  rw [e1, R.bind_ok, e2]
  rfl⟩
theorem kg_3 {g1 g2 g3 : TF} {Δ1 : T → G} {Δ2 : V → G} {Δ3 : W → G} (h1 : KG m g1 Δ1) (h2 : KG m g2 Δ2) (h3 : KG m g3 Δ3) : KG (T := T3 T V W) m (gTp [g1, g2, g3]) (fun p => Δ3 p.c ++ (Δ2 p.b ++ Δ1 p.a)) := ⟨fun Γ δ p f => by
  obtain ⟨δ1, e1, f1⟩ := h1.go Γ δ p.a f
  obtain ⟨δ2, e2, f2⟩ := h2.go _ δ1 p.b f1
  obtain ⟨δ3, e3, f3⟩ := h3.go _ δ2 p.c f2
  refine ⟨δ3, ?_, by rw [List.append_assoc, List.append_assoc]; exact f3⟩
  show (g1 (enc p.a) δ).bind (fun δ' => (g2 (enc p.b) δ').bind fun δ'' => (g3 (enc p.c) δ'').bind fun δ3 => R.ok δ3) = _
  rw [e1, R.bind_ok, e2, R.bind_ok, e3]
  rfl⟩

/-! ### comprehensions -/
def lcR {α β : Type} (p : α → R Bool) (f : α → R β) : List α → R (List β)
  | [] => .ok []
  | x :: xs => (p x).bind fun b => if b then (f x).bind fun y => (lcR p f xs).bind fun ys => .ok (y :: ys) else lcR p f xs
theorem lcR_pure {α β : Type} (p : α → Bool) (f : α → β) : ∀ xs : List α, lcR (fun x => .ok (p x)) (fun x => .ok (f x)) xs = .ok ((xs.filter p).map f)
  | [] => rfl
  | x :: xs => by
    unfold lcR
    rw [R.bind_ok, lcR_pure p f xs]
    cases h : p x with
    | true => rw [List.filter_cons_of_pos h]; rfl
    | false => rw [List.filter_cons_of_neg (by rw [h]; simp)]; rfl
theorem lcR_map {α β : Type} (f : α → β) (xs : List α) : lcR (fun _ => .ok true) (fun x => .ok (f x)) xs = .ok (xs.map f) := by
  rw [lcR_pure (fun _ => true) f xs, List.filter_eq_self.mpr (fun _ _ => rfl)]
theorem lc_sim {g : TF} {Δ : T → G} {Ft' : T → KF Bool} {Fe : T → KF V} (hg : KG m g Δ) (ht : ∀ x, KT m (Δ x ++ Γ) t (Ft' x)) (he : ∀ x, KE m (Δ x ++ Γ) e (Fe x)) (f : Ft m Γ δ) :
    ∀ xs : List T, Sim (fun ds (ys : List V) => ds = ys.map enc) (lcGo g t e δ (xs.map enc)) (lcR (fun x => Ft' x Bool .ok) (fun x => Fe x V .ok) xs)
  | [] => .ok rfl
  | x :: xs => by
    obtain ⟨δ', e1, f'⟩ := hg.go Γ δ x f
    show Sim _ ((g (enc x) δ).bind fun δ' => (t δ').bind fun b => if b then (e δ').bind fun y => (lcGo g t e δ (xs.map enc)).bind fun ys => R.ok (y :: ys) else lcGo g t e δ (xs.map enc)) _
    rw [e1, R.bind_ok]
    unfold lcR
    refine ((ht x).self f').bind fun b b' q => ?_
    subst q
    cases b with
    | true =>
      refine ((he x).self f').bind fun y y' q => ?_
      have q : y = enc y' := q
      subst q
      refine (lc_sim hg ht he f xs).bind fun ds ys q => ?_
      subst q
      exact .ok rfl
    | false => exact lc_sim hg ht he f xs
theorem k_lcM {own : List Nat} {g : TF} {Δ : T → G} {Fi : KF (List T)} {Ft' : T → KF Bool} {Fe : T → KF V} (hi : KI m Γ it Fi) (hg : KG m g Δ) (ht : ∀ x, KT m (Δ x ++ wG own Γ) t (Ft' x)) (he : ∀ x, KE m (Δ x ++ wG own Γ) e (Fe x)) :
    KE m Γ (eLc own g it t e) (fun U k => Fi U fun xs => (lcR (fun x => Ft' x Bool .ok) (fun x => Fe x V .ok) xs).bind fun ys => (ck ys).bind k) := ⟨fun δ f A B Φ k k' q => by
  unfold eLc
  rw [bind_assoc]
  refine hi.go δ f A B Φ _ _ fun xs => ?_
  rw [bind_assoc]
  refine (lc_sim hg ht he (f.wipe own) xs).bind fun ds ys z => ?_
  subst z
  unfold ck
  rw [List.length_map]
  split
  · exact q ys
  · exact .bad⟩
theorem k_lc {own : List Nat} {g : TF} {Δ : T → G} {Fi : KF (List T)} {p : T → Bool} {h : T → V} (hi : KI m Γ it Fi) (hg : KG m g Δ) (ht : ∀ x, KT m (Δ x ++ wG own Γ) t (fun U k => k (p x))) (he : ∀ x, KE m (Δ x ++ wG own Γ) e (fun U k => k (h x))) :
    KE m Γ (eLc own g it t e) (fun U k => Fi U fun xs => (ck ((xs.filter p).map h)).bind k) := ke_eq (k_lcM hi hg ht he) (by
  funext U k
  congr 1
  funext xs
  rw [lcR_pure]
  rfl)
theorem kt_yes : KT m Γ tYes (fun U k => k true) := ⟨fun δ f A B Φ k k' q => q true⟩
theorem k_lc0 {own : List Nat} {g : TF} {Δ : T → G} {Fi : KF (List T)} {h : T → V} (hi : KI m Γ it Fi) (hg : KG m g Δ) (he : ∀ x, KE m (Δ x ++ wG own Γ) e (fun U k => k (h x))) :
    KE m Γ (eLc own g it tYes e) (fun U k => Fi U fun xs => (ck (xs.map h)).bind k) := ke_eq (k_lcM hi hg (fun _ => kt_yes) he) (by
  funext U k
  congr 1
  funext xs
  rw [lcR_map]
  rfl)
/-- no test, an element that may fail -/
def mapR {α β : Type} (f : α → R β) : List α → R (List β)
  | [] => .ok []
  | x :: xs => (f x).bind fun y => (mapR f xs).bind fun ys => .ok (y :: ys)
theorem lcR_mapR {α β : Type} (f : α → R β) : ∀ xs : List α, lcR (fun _ => .ok true) f xs = mapR f xs
  | [] => rfl
  | x :: xs => by
    unfold lcR mapR
    rw [R.bind_ok, if_pos rfl, lcR_mapR f xs]
theorem k_lc0M {own : List Nat} {g : TF} {Δ : T → G} {Fi : KF (List T)} {Fe : T → KF V} (hi : KI m Γ it Fi) (hg : KG m g Δ) (he : ∀ x, KE m (Δ x ++ wG own Γ) e (Fe x)) :
    KE m Γ (eLc own g it tYes e) (fun U k => Fi U fun xs => (mapR (fun x => Fe x V .ok) xs).bind fun ys => (ck ys).bind k) := ke_eq (k_lcM hi hg (fun _ => kt_yes) he) (by
  funext U k
  congr 1
  funext xs
  rw [lcR_mapR])
end Tv
/-! Tv1: comparisons, built-ins, methods, typed. -/
namespace Tv
open PySem Dv
open Enc (enc)
variable {A B A' B' T V W C U S : Type} [Enc T] [Enc V] [Enc W] {m : Nat} {Γ Γ' : G} {δ : Dv.Env} {e a b c : DE} {t t1 t2 : DT} {it : DI}

/-! ### equality -/
class EqE (α : Type) [Enc α] [DecidableEq α] where
  dep : Nat
  eqv : ∀ a b : α, PyData.eqv (enc a) (enc b) = decide (a = b)
  fl_ : ∀ (a : α) (n : Nat), dep ≤ n → fl n (enc a) = true
theorem fl_atom {d : D} (h : fl 0 d = true) : ∀ n, fl n d = true := fun n => by
  cases d with
  | list xs => cases h
  | tuple xs => cases h
  | dict kvs => cases h
  | _ => cases n <;> rfl
instance : EqE Int := ⟨0, fun a b => by show (a == b) = _; by_cases h : a = b <;> simp [h], fun a n _ => fl_atom rfl n⟩
instance : EqE Bool := ⟨0, fun a b => by cases a <;> cases b <;> rfl, fun a n _ => fl_atom rfl n⟩
instance : EqE Str := ⟨0, fun a b => by show (a == b) = _; by_cases h : a = b <;> simp [h], fun a n _ => fl_atom rfl n⟩
instance : EqE Unit := ⟨0, fun a b => rfl, fun a n _ => fl_atom rfl n⟩
theorem eqv_all {α : Type} [Enc α] [DecidableEq α] [h : EqE α] : ∀ (xs ys : List α), PyData.eqvAll (xs.map enc) (ys.map enc) = decide (xs = ys)
  | [], [] => rfl
  | [], _ :: _ => rfl
  | _ :: _, [] => rfl
  | x :: xs, y :: ys => by
    show (PyData.eqv (enc x) (enc y) && PyData.eqvAll (xs.map enc) (ys.map enc)) = _
    rw [eqv_all xs ys, h.eqv]
    by_cases h1 : x = y <;> by_cases h2 : xs = ys <;> simp [h1, h2]
theorem fl_all {α : Type} [Enc α] [DecidableEq α] [h : EqE α] (xs : List α) (n : Nat) (hn : h.dep ≤ n) : (xs.map enc).all (fl n) = true := List.all_eq_true.mpr fun x hx => by
  obtain ⟨y, _, rfl⟩ := List.mem_map.mp hx
  exact h.fl_ y n hn
instance {α : Type} [Enc α] [DecidableEq α] [h : EqE α] : EqE (List α) := ⟨h.dep + 1, eqv_all, fun xs n hn => by
  cases n with
  | zero => omega
  | succ n => exact fl_all xs n (by omega)⟩
instance {α : Type} [Enc α] [DecidableEq α] [h : EqE α] : EqE (Tup α) := ⟨h.dep + 1, fun a b => by
  show PyData.eqvAll (a.l.map enc) (b.l.map enc) = _
  rw [eqv_all]
  obtain ⟨a⟩ := a
  obtain ⟨b⟩ := b
  by_cases h2 : a = b <;> simp [h2], fun xs n hn => by
  cases n with
  | zero => omega
  | succ n => exact fl_all xs.l n (by omega)⟩
/-- a type none of whose data is None -/
class NN (α : Type) [Enc α] : Prop where
  nn : ∀ a : α, PyData.eqv (enc a) .none = false ∧ PyData.eqv .none (enc a) = false ∧ isNone (enc a) = false
instance : NN Int := ⟨fun _ => ⟨rfl, rfl, rfl⟩⟩
instance : NN Bool := ⟨fun a => by cases a <;> exact ⟨rfl, rfl, rfl⟩⟩
instance : NN Str := ⟨fun _ => ⟨rfl, rfl, rfl⟩⟩
instance {α : Type} [Enc α] : NN (List α) := ⟨fun _ => ⟨rfl, rfl, rfl⟩⟩
instance {α : Type} [Enc α] : NN (Tup α) := ⟨fun _ => ⟨rfl, rfl, rfl⟩⟩
instance {α β : Type} [Enc α] [Enc β] : NN (α × β) := ⟨fun _ => ⟨rfl, rfl, rfl⟩⟩
instance {α β γ : Type} [Enc α] [Enc β] [Enc γ] : NN (T3 α β γ) := ⟨fun _ => ⟨rfl, rfl, rfl⟩⟩
instance {α β γ δ : Type} [Enc α] [Enc β] [Enc γ] [Enc δ] : NN (T4 α β γ δ) := ⟨fun _ => ⟨rfl, rfl, rfl⟩⟩
instance {α : Type} [Enc α] [DecidableEq α] [h : EqE α] [n : NN α] : EqE (Option α) := ⟨h.dep, fun a b => by
  cases a with
  | none =>
    cases b with
    | none => rfl
    | some b => show PyData.eqv .none (enc b) = _; rw [(n.nn b).2.1]; simp
  | some a =>
    cases b with
    | none => show PyData.eqv (enc a) .none = _; rw [(n.nn a).1]; simp
    | some b => show PyData.eqv (enc a) (enc b) = _; rw [h.eqv]; by_cases z : a = b <;> simp [z], fun a n hn => by
  cases a with
  | none => exact fl_atom rfl n
  | some a => exact h.fl_ a n hn⟩
instance {α β : Type} [Enc α] [Enc β] [DecidableEq α] [DecidableEq β] [h : EqE α] [k : EqE β] : EqE (α × β) := ⟨max h.dep k.dep + 1, fun a b => by
  show (PyData.eqv (enc a.1) (enc b.1) && (PyData.eqv (enc a.2) (enc b.2) && true)) = _
  rw [h.eqv, k.eqv]
  obtain ⟨a1, a2⟩ := a
  obtain ⟨b1, b2⟩ := b
  by_cases z : a1 = b1 <;> by_cases w : a2 = b2 <;> simp [z, w], fun a n hn => by
  cases n with
  | zero => omega
  | succ n =>
    show ([enc a.1, enc a.2] : List D).all (fl n) = true
    simp [h.fl_ a.1 n (by omega), k.fl_ a.2 n (by omega)]⟩
instance {α β γ : Type} [Enc α] [Enc β] [Enc γ] [DecidableEq α] [DecidableEq β] [DecidableEq γ] [h : EqE α] [k : EqE β] [l : EqE γ] : EqE (T3 α β γ) := ⟨max h.dep (max k.dep l.dep) + 1, fun a b => by
  show (PyData.eqv (enc a.a) (enc b.a) && (PyData.eqv (enc a.b) (enc b.b) && (PyData.eqv (enc a.c) (enc b.c) && true))) = _
  rw [h.eqv, k.eqv, l.eqv]
  obtain ⟨a1, a2, a3⟩ := a
  obtain ⟨b1, b2, b3⟩ := b
  by_cases z : a1 = b1 <;> by_cases w : a2 = b2 <;> by_cases u : a3 = b3 <;> simp [z, w, u], fun a n hn => by
  cases n with
  | zero => omega
  | succ n =>
    show ([enc a.a, enc a.b, enc a.c] : List D).all (fl n) = true
    simp [h.fl_ a.a n (by omega), k.fl_ a.b n (by omega), l.fl_ a.c n (by omega)]⟩
theorem t_eq [DecidableEq T] [h : EqE T] (hd : decide (h.dep ≤ deep) = true) : Tp2 (T := T) (V := T) (cmpD .Eq) fun x y => .ok (decide (x = y)) := fun x y => by
  have hd := of_decide_eq_true hd
  show Sim _ (eqD (enc x) (enc y)) _
  unfold eqD
  rw [h.fl_ x _ hd, h.fl_ y _ hd, h.eqv]
  exact .ok rfl
theorem t_ne [DecidableEq T] [h : EqE T] (hd : decide (h.dep ≤ deep) = true) : Tp2 (T := T) (V := T) (cmpD .NotEq) fun x y => .ok (!decide (x = y)) := fun x y => by
  have hd := of_decide_eq_true hd
  show Sim _ (rnot (eqD (enc x) (enc y))) _
  unfold eqD
  rw [h.fl_ x _ hd, h.fl_ y _ hd, h.eqv]
  exact .ok rfl
theorem t_isN [n : NN T] : Tp2 (T := Option T) (V := Unit) (cmpD .Is) fun x _ => .ok x.isNone := fun x y => by
  cases x with
  | none => exact .ok rfl
  | some x => exact .ok (n.nn x).2.2
theorem t_isnN [n : NN T] : Tp2 (T := Option T) (V := Unit) (cmpD .IsNot) fun x _ => .ok x.isSome := fun x y => by
  cases x with
  | none => exact .ok rfl
  | some x => exact .ok (by show (!isNone (enc x)) = true; rw [(n.nn x).2.2]; rfl)
theorem t_isB (y : Bool) : Tp2 (T := Bool) (V := Bool) (cmpD .Is) fun x y => .ok (x == y) := fun x y => .ok rfl
theorem t_isnB (y : Bool) : Tp2 (T := Bool) (V := Bool) (cmpD .IsNot) fun x y => .ok (!(x == y)) := fun x y => .ok rfl
/-! ### order -/
theorem t_ltI : Tp2 (T := Int) (V := Int) (cmpD .Lt) fun x y => .ok (decide (x < y)) := fun x y => .ok rfl
theorem t_leI : Tp2 (T := Int) (V := Int) (cmpD .LtE) fun x y => .ok (decide (x ≤ y)) := fun x y => .ok rfl
theorem t_gtI : Tp2 (T := Int) (V := Int) (cmpD .Gt) fun x y => .ok (decide (y < x)) := fun x y => .ok rfl
theorem t_geI : Tp2 (T := Int) (V := Int) (cmpD .GtE) fun x y => .ok (decide (y ≤ x)) := fun x y => .ok rfl
theorem t_ltS : Tp2 (T := Str) (V := Str) (cmpD .Lt) fun x y => .ok (sLt x y) := fun x y => .ok rfl
theorem t_leS : Tp2 (T := Str) (V := Str) (cmpD .LtE) fun x y => .ok (sLe x y) := fun x y => .ok rfl
theorem t_gtS : Tp2 (T := Str) (V := Str) (cmpD .Gt) fun x y => .ok (sLt y x) := fun x y => .ok rfl
theorem t_geS : Tp2 (T := Str) (V := Str) (cmpD .GtE) fun x y => .ok (sLe y x) := fun x y => .ok rfl
/-- types whose data can be ordered among themselves -/
class OrdE (α : Type) [Enc α] : Prop where
  alike : ∀ a b : α, PySem.W.alike (enc a) (enc b) = true
instance : OrdE Int := ⟨fun a b => alike_int a b⟩
instance : OrdE Str := ⟨fun a b => alike_str a b⟩
theorem alike_all {α : Type} [Enc α] [h : OrdE α] : ∀ xs ys : List α, PySem.W.alikeAll (xs.map enc) (ys.map enc) = true
  | [], ys => by cases ys <;> simp [PySem.W.alikeAll]
  | x :: xs, [] => by simp [PySem.W.alikeAll]
  | x :: xs, y :: ys => by
    have := alike_all xs ys
    simp [PySem.W.alikeAll, h.alike x y, this]
instance {α : Type} [Enc α] [h : OrdE α] : OrdE (List α) := ⟨fun a b => by
  show PySem.W.alike (.list (a.map enc)) (.list (b.map enc)) = true
  simp [PySem.W.alike, alike_all]⟩
instance {α : Type} [Enc α] [h : OrdE α] : OrdE (Tup α) := ⟨fun a b => by
  show PySem.W.alike (.tuple (a.l.map enc)) (.tuple (b.l.map enc)) = true
  simp [PySem.W.alike, alike_all]⟩
instance {α β : Type} [Enc α] [Enc β] [h : OrdE α] [k : OrdE β] : OrdE (α × β) := ⟨fun a b => by
  show PySem.W.alike (.tuple [enc a.1, enc a.2]) (.tuple [enc b.1, enc b.2]) = true
  simp [PySem.W.alike, PySem.W.alikeAll, h.alike, k.alike]⟩
instance {α β γ : Type} [Enc α] [Enc β] [Enc γ] [h : OrdE α] [k : OrdE β] [l : OrdE γ] : OrdE (T3 α β γ) := ⟨fun a b => by
  show PySem.W.alike (.tuple [enc a.a, enc a.b, enc a.c]) (.tuple [enc b.a, enc b.b, enc b.c]) = true
  simp [PySem.W.alike, PySem.W.alikeAll, h.alike, k.alike, l.alike]⟩
/-- the order of data -/
def ltT {α : Type} [Enc α] (x y : α) : Bool := PySem.W.dataLt (enc x) (enc y)
theorem t_ltL [DecidableEq T] [h : EqE T] [o : OrdE T] (hd : decide (h.dep + 1 ≤ deep) = true) : Tp2 (T := List T) (V := List T) (cmpD .Lt) fun x y => .ok (ltT x y) := fun x y => by
  have hd := of_decide_eq_true hd
  have e1 : PySem.W.alike (.list (x.map enc)) (.list (y.map enc)) = true := OrdE.alike (α := List T) x y
  have e2 : ∀ z : List T, fl deep (.list (z.map enc)) = true := fun z => fl_all z 11 (by unfold deep at hd; omega)
  show Sim _ (if _ then R.ok _ else R.bad) _
  rw [e1, e2, e2]
  exact .ok rfl
theorem t_gtL [DecidableEq T] [h : EqE T] [o : OrdE T] (hd : decide (h.dep + 1 ≤ deep) = true) : Tp2 (T := List T) (V := List T) (cmpD .Gt) fun x y => .ok (ltT y x) := fun x y => t_ltL hd y x
theorem t_leL [DecidableEq T] [h : EqE T] [o : OrdE T] (hd : decide (h.dep + 1 ≤ deep) = true) : Tp2 (T := List T) (V := List T) (cmpD .LtE) fun x y => .ok (!ltT y x) := fun x y => by
  have hd := of_decide_eq_true hd
  have e1 : PySem.W.alike (.list (x.map enc)) (.list (y.map enc)) = true := OrdE.alike (α := List T) x y
  have e2 : ∀ z : List T, fl deep (.list (z.map enc)) = true := fun z => fl_all z 11 (by unfold deep at hd; omega)
  show Sim _ (if _ then R.ok _ else R.bad) _
  rw [e1, e2, e2]
  exact .ok rfl
theorem t_geL [DecidableEq T] [h : EqE T] [o : OrdE T] (hd : decide (h.dep + 1 ≤ deep) = true) : Tp2 (T := List T) (V := List T) (cmpD .GtE) fun x y => .ok (!ltT x y) := fun x y => t_leL hd y x
/-- types whose data are tuples -/
class TupE (α : Type) [Enc α] : Prop where
  tup : ∀ a : α, ∃ ds, enc a = .tuple ds
instance {α : Type} [Enc α] : TupE (Tup α) := ⟨fun a => ⟨_, rfl⟩⟩
instance {α β : Type} [Enc α] [Enc β] : TupE (α × β) := ⟨fun a => ⟨_, rfl⟩⟩
instance {α β γ : Type} [Enc α] [Enc β] [Enc γ] : TupE (T3 α β γ) := ⟨fun a => ⟨_, rfl⟩⟩
theorem t_ltT [DecidableEq T] [h : EqE T] [o : OrdE T] [u : TupE T] (hd : decide (h.dep ≤ deep) = true) : Tp2 (T := T) (V := T) (cmpD .Lt) fun x y => .ok (ltT x y) := fun x y => by
  have hd := of_decide_eq_true hd
  have e1 := o.alike x y
  have e2 := h.fl_ x _ hd
  have e3 := h.fl_ y _ hd
  unfold ltT
  obtain ⟨d1, z1⟩ := u.tup x
  obtain ⟨d2, z2⟩ := u.tup y
  rw [z1] at e1 e2 ⊢
  rw [z2] at e1 e3 ⊢
  refine ⟨_, ?_, rfl⟩
  show (if _ then R.ok _ else R.bad) = _
  rw [e1, e2, e3, z1, z2]
  rfl
theorem t_gtT [DecidableEq T] [h : EqE T] [o : OrdE T] [u : TupE T] (hd : decide (h.dep ≤ deep) = true) : Tp2 (T := T) (V := T) (cmpD .Gt) fun x y => .ok (ltT y x) := fun x y => t_ltT hd y x
theorem t_leT [DecidableEq T] [h : EqE T] [o : OrdE T] [u : TupE T] (hd : decide (h.dep ≤ deep) = true) : Tp2 (T := T) (V := T) (cmpD .LtE) fun x y => .ok (!ltT y x) := fun x y => by
  have hd := of_decide_eq_true hd
  have e1 := o.alike x y
  have e2 := h.fl_ x _ hd
  have e3 := h.fl_ y _ hd
  unfold ltT
  obtain ⟨d1, z1⟩ := u.tup x
  obtain ⟨d2, z2⟩ := u.tup y
  rw [z1] at e1 e2 ⊢
  rw [z2] at e1 e3 ⊢
  refine ⟨_, ?_, rfl⟩
  show (if _ then R.ok _ else R.bad) = _
  rw [e1, e2, e3, z1, z2]
  rfl
theorem t_geT [DecidableEq T] [h : EqE T] [o : OrdE T] [u : TupE T] (hd : decide (h.dep ≤ deep) = true) : Tp2 (T := T) (V := T) (cmpD .GtE) fun x y => .ok (!ltT x y) := fun x y => t_leT hd y x
/-! ### in -/
def mem {α : Type} [Enc α] [DecidableEq α] [h : EqE α] (x : α) (xs : List α) : Bool := xs.any fun y => decide (y = x)
theorem any_map {α : Type} [Enc α] [DecidableEq α] [h : EqE α] (x : α) (xs : List α) : ((xs.map enc).any fun y => PyData.eqv y (enc x)) = mem x xs := by
  unfold mem
  rw [List.any_map]
  congr 1
  funext y
  exact h.eqv y x
theorem mem_sim [DecidableEq T] [h : EqE T] (hd : decide (h.dep ≤ deep) = true) (x : T) (xs : List T) : memD (enc x) (xs.map enc) = .ok (mem x xs) := by
  have hd := of_decide_eq_true hd
  unfold memD
  rw [h.fl_ x _ hd, fl_all xs _ hd, any_map]
  rfl
theorem t_inL [DecidableEq T] [h : EqE T] (hd : decide (h.dep ≤ deep) = true) : Tp2 (T := T) (V := List T) (cmpD .In) fun x xs => .ok (mem x xs) := fun x xs => by
  show Sim _ (memD (enc x) (xs.map enc)) _
  rw [mem_sim hd]
  exact .ok rfl
theorem t_ninL [DecidableEq T] [h : EqE T] (hd : decide (h.dep ≤ deep) = true) : Tp2 (T := T) (V := List T) (cmpD .NotIn) fun x xs => .ok (!mem x xs) := fun x xs => by
  show Sim _ (rnot (memD (enc x) (xs.map enc))) _
  rw [mem_sim hd]
  exact .ok rfl
theorem t_inT [DecidableEq T] [h : EqE T] (hd : decide (h.dep ≤ deep) = true) : Tp2 (T := T) (V := Tup T) (cmpD .In) fun x xs => .ok (mem x xs.l) := fun x xs => by
  show Sim _ (memD (enc x) (xs.l.map enc)) _
  rw [mem_sim hd]
  exact .ok rfl
theorem t_ninT [DecidableEq T] [h : EqE T] (hd : decide (h.dep ≤ deep) = true) : Tp2 (T := T) (V := Tup T) (cmpD .NotIn) fun x xs => .ok (!mem x xs.l) := fun x xs => by
  show Sim _ (rnot (memD (enc x) (xs.l.map enc))) _
  rw [mem_sim hd]
  exact .ok rfl
theorem t_inS : Tp2 (T := Str) (V := Str) (cmpD .In) fun x y => .ok (inS x y) := fun x y => .ok rfl
theorem t_ninS : Tp2 (T := Str) (V := Str) (cmpD .NotIn) fun x y => .ok (!inS x y) := fun x y => .ok rfl

/-! ### built-ins -/
theorem k_call1 {mf : List D → R D} {g : T → R V} {F : KF T} (o : ∀ x, Sim Is (mf [enc x]) (g x)) (h : KE m Γ a F) : KE m Γ (eCall mf [a]) (fun U k => F U fun x => (g x).bind k) := k_call (g := fun p : T × Unit => g p.1) (fun p => o p.1) (ka_cons h ka_nil)
theorem k_call1p {mf : List D → R D} {g : T → V} {F : KF T} (o : ∀ x, Sim Is (mf [enc x]) (.ok (g x))) (h : KE m Γ a F) : KE m Γ (eCall mf [a]) (fun U k => F U fun x => k (g x)) := k_call1 o h
theorem k_call2 {mf : List D → R D} {g : T → V → R W} {F : KF T} {F2 : KF V} (o : ∀ x y, Sim Is (mf [enc x, enc y]) (g x y)) (h : KE m Γ a F) (h2 : KE m Γ b F2) : KE m Γ (eCall mf [a, b]) (fun U k => F U fun x => F2 U fun y => (g x y).bind k) :=
  k_call (g := fun p : T × V × Unit => g p.1 p.2.1) (fun p => o p.1 p.2.1) (ka_cons h (ka_cons h2 ka_nil))
theorem k_call2p {mf : List D → R D} {g : T → V → W} {F : KF T} {F2 : KF V} (o : ∀ x y, Sim Is (mf [enc x, enc y]) (.ok (g x y))) (h : KE m Γ a F) (h2 : KE m Γ b F2) : KE m Γ (eCall mf [a, b]) (fun U k => F U fun x => F2 U fun y => k (g x y)) := k_call2 o h h2
theorem b_lenL (x : List T) : Sim Is (callB "len" [enc x]) (.ok (x.length : Int)) := .ok (by show PyData.int _ = PyData.int _; rw [List.length_map])
theorem b_lenT (x : Tup T) : Sim Is (callB "len" [enc x]) (.ok (x.l.length : Int)) := .ok (by show PyData.int _ = PyData.int _; rw [List.length_map])
theorem b_lenS (x : Str) : Sim Is (callB "len" [enc x]) (.ok (x.length : Int)) := .ok rfl
theorem b_abs (x : Int) : Sim Is (callB "abs" [enc x]) (.ok (if x < 0 then -x else x)) := .ok rfl
theorem intsOf_map (xs : List Int) : intsOf (xs.map enc) = some xs := by
  induction xs with
  | nil => rfl
  | cons x xs ih => show (intsOf (xs.map enc)).map (x :: ·) = _; rw [ih]; rfl
theorem boolsOf_map (xs : List Bool) : boolsOf (xs.map enc) = some xs := by
  induction xs with
  | nil => rfl
  | cons x xs ih => show (boolsOf (xs.map enc)).map (x :: ·) = _; rw [ih]; rfl
theorem strsOf_map (xs : List Str) : strsOf (xs.map enc) = some xs := by
  induction xs with
  | nil => rfl
  | cons x xs ih => show (strsOf (xs.map enc)).map (x :: ·) = _; rw [ih]; rfl
theorem b_sum (x : List Int) : Sim Is (callB "sum" [enc x]) (.ok x.sum) := by
  show Sim Is (match intsOf (x.map enc) with | some ns => R.ok (PyData.int ns.sum) | none => .bad) _
  rw [intsOf_map]
  exact .ok rfl
theorem b_all (x : List Bool) : Sim Is (callB "all" [enc x]) (.ok (x.all id)) := by
  show Sim Is (match boolsOf (x.map enc) with | some ns => R.ok (PyData.bool (ns.all id)) | none => .bad) _
  rw [boolsOf_map]
  exact .ok rfl
theorem b_any (x : List Bool) : Sim Is (callB "any" [enc x]) (.ok (x.any id)) := by
  show Sim Is (match boolsOf (x.map enc) with | some ns => R.ok (PyData.bool (ns.any id)) | none => .bad) _
  rw [boolsOf_map]
  exact .ok rfl
theorem b_intI (x : Int) : Sim Is (callB "int" [enc x]) (.ok x) := .ok rfl
def b2i (b : Bool) : Int := if b then 1 else 0
theorem b_intB (x : Bool) : Sim Is (callB "int" [enc x]) (.ok (b2i x)) := .ok rfl
def strR (i : Int) : R Str := if i.natAbs.log2 < 1900 then .ok (toString i : String) else .bad
theorem b_str (x : Int) : Sim Is (callB "str" [enc x]) (strR x) := by
  show Sim Is (if x.natAbs.log2 < 1900 then R.ok (PyData.str _) else .bad) _
  unfold strR
  split
  · exact .ok rfl
  · exact .bad
theorem b_listL (x : List T) : Sim Is (callB "list" [enc x]) (.ok x) := .ok rfl
theorem b_listT (x : Tup T) : Sim Is (callB "list" [enc x]) (.ok x.l) := .ok rfl
theorem b_tupL (x : List T) : Sim Is (callB "tuple" [enc x]) (.ok (Tup.mk x)) := .ok rfl
theorem b_tupT (x : Tup T) : Sim Is (callB "tuple" [enc x]) (.ok x) := .ok rfl
theorem b_max2 (x y : Int) : Sim Is (callB "max" [enc x, enc y]) (.ok (if y > x then y else x)) := .ok rfl
theorem b_min2 (x y : Int) : Sim Is (callB "min" [enc x, enc y]) (.ok (if y < x then y else x)) := .ok rfl
theorem b_maxL (x : List Int) : Sim Is (callB "max" [enc x]) (oR (maxI x)) := by
  show Sim Is (match intsOf (x.map enc) with
    | some ns => oInt (maxI ns)
    | none => maxG (x.map enc)) _
  rw [intsOf_map]
  show Sim Is (oInt (maxI x)) _
  cases maxI x with
  | none => exact .bad
  | some i => exact .ok rfl
theorem b_minL (x : List Int) : Sim Is (callB "min" [enc x]) (oR (minI x)) := by
  show Sim Is (match intsOf (x.map enc) with
    | some ns => oInt (minI ns)
    | none => minG (x.map enc)) _
  rw [intsOf_map]
  show Sim Is (oInt (minI x)) _
  cases minI x with
  | none => exact .bad
  | some i => exact .ok rfl
/-- sorted, by the order of data -/
def sortT {α : Type} [Enc α] (xs : List α) : List α := xs.mergeSort fun x y => !ltT y x
def sortR {α : Type} [Enc α] (xs : List α) : R (List α) := if xs.length ≤ lim then .ok (sortT xs) else .bad
theorem sort_map {α : Type} [Enc α] (xs : List α) : sortL (xs.map enc) = (sortT xs).map enc := by
  unfold sortL sortT
  rw [List.map_mergeSort (r := fun x y : α => !ltT y x) (s := PySem.W.dataLe false id) (f := enc)]
  intro a _ b _
  rfl
/-- what can be sorted: no tuples at all, or tuples that are not empty -/
class SrtE (α : Type) [Enc α] : Prop where
  ok : (∀ a : α, notTup (enc a) = true) ∨ ∀ a : α, isTup1 (enc a) = true
instance : SrtE Int := ⟨.inl fun _ => rfl⟩
instance : SrtE Str := ⟨.inl fun _ => rfl⟩
instance {α : Type} [Enc α] : SrtE (List α) := ⟨.inl fun _ => rfl⟩
instance {α β : Type} [Enc α] [Enc β] : SrtE (α × β) := ⟨.inr fun _ => rfl⟩
instance {α β γ : Type} [Enc α] [Enc β] [Enc γ] : SrtE (T3 α β γ) := ⟨.inr fun _ => rfl⟩
theorem b_sorted [DecidableEq T] [h : EqE T] [o : OrdE T] [s : SrtE T] (hd : decide (h.dep ≤ deep) = true) (x : List T) : Sim Is (callB "sorted" [enc x]) (sortR x) := by
  have hd := of_decide_eq_true hd
  unfold sortR
  split
  · rename_i hl
    have hs : sortOk (x.map enc) = true := by
      unfold sortOk
      rw [List.length_map, decide_eq_true hl, fl_all x _ hd]
      have e : ((x.map enc).all isTup1 || (x.map enc).all notTup) = true := by
        rcases s.ok with s | s
        · have : (x.map enc).all notTup = true := List.all_eq_true.mpr fun d hd => by
            obtain ⟨y, _, rfl⟩ := List.mem_map.mp hd
            exact s y
          rw [this, Bool.or_true]
        · have : (x.map enc).all isTup1 = true := List.all_eq_true.mpr fun d hd => by
            obtain ⟨y, _, rfl⟩ := List.mem_map.mp hd
            exact s y
          rw [this, Bool.true_or]
      rw [e]
      simp only [Bool.true_and]
      refine List.all_eq_true.mpr fun p hp => List.all_eq_true.mpr fun q hq => ?_
      obtain ⟨y, _, rfl⟩ := List.mem_map.mp hp
      obtain ⟨z, _, rfl⟩ := List.mem_map.mp hq
      exact o.alike y z
    show Sim Is (if sortOk (x.map enc) then R.ok (PyData.list (sortL (x.map enc))) else .bad) _
    rw [hs, sort_map]
    exact .ok rfl
  · exact .bad
/-- sorted tuples of any length, none empty -/
def sortRT {α : Type} [Enc α] (xs : List (Tup α)) : R (List (Tup α)) := if xs.length ≤ lim ∧ (xs.all fun x => !x.l.isEmpty) then .ok (sortT xs) else .bad
theorem b_sortedT [DecidableEq T] [h : EqE T] [o : OrdE T] (hd : decide (h.dep + 1 ≤ deep) = true) (x : List (Tup T)) : Sim Is (callB "sorted" [enc x]) (sortRT x) := by
  have hd := of_decide_eq_true hd
  unfold sortRT
  split
  · rename_i hl
    obtain ⟨hl, hn⟩ := hl
    have hs : sortOk (x.map enc) = true := by
      unfold sortOk
      rw [List.length_map, decide_eq_true hl, fl_all x _ hd]
      have : (x.map enc).all isTup1 = true := List.all_eq_true.mpr fun d hd => by
        obtain ⟨y, hy, rfl⟩ := List.mem_map.mp hd
        have := List.all_eq_true.mp hn y hy
        obtain ⟨y⟩ := y
        cases y with
        | nil => cases this
        | cons a as => rfl
      rw [this]
      simp only [Bool.true_and, Bool.true_or]
      refine List.all_eq_true.mpr fun p hp => List.all_eq_true.mpr fun q hq => ?_
      obtain ⟨y, _, rfl⟩ := List.mem_map.mp hp
      obtain ⟨z, _, rfl⟩ := List.mem_map.mp hq
      exact OrdE.alike y z
    show Sim Is (if sortOk (x.map enc) then R.ok (PyData.list (sortL (x.map enc))) else .bad) _
    rw [hs, sort_map]
    exact .ok rfl
  · exact .bad
/-- the text of a datum -/
def reprT {α : Type} [Enc α] (x : α) : R Str := if reprOk (enc x) then .ok (PyData.shown (enc x)) else .bad
theorem b_repr (x : T) : Sim Is (callB "repr" [enc x]) (reprT x) := by
  show Sim Is (reprD (enc x)) _
  unfold reprD reprT
  split
  · exact .ok rfl
  · exact .bad
theorem k_isL {F : KF (List T)} (h : KE m Γ a F) : KE m Γ (eIsL a) (fun U k => F U fun _ => k true) := ⟨fun δ f A B Φ k k' q => by
  unfold eIsL
  rw [bind_assoc]
  exact h.go δ f A B Φ _ _ fun x => q true⟩

/-! ### methods -/
def indexF {α : Type} [Enc α] [DecidableEq α] [h : EqE α] (y : α) : Int → List α → R Int
  | _, [] => .bad
  | n, x :: xs => if decide (x = y) then .ok n else indexF y (n + 1) xs
def index {α : Type} [Enc α] [DecidableEq α] [EqE α] (xs : List α) (y : α) : R Int := indexF y 0 xs
theorem index_go [DecidableEq T] [h : EqE T] (y : T) : ∀ (xs : List T) (n : Nat), Sim Is (indexGo (enc y) n (xs.map enc)) (indexF y (n : Int) xs)
  | [], _ => .bad
  | x :: xs, n => by
    have ih := index_go y xs (n + 1)
    show Sim Is (if PyData.eqv (enc x) (enc y) then R.ok (PyData.int n) else indexGo (enc y) (n + 1) (xs.map enc)) (if _ then _ else _)
    rw [h.eqv]
    split
    · exact .ok rfl
    · exact ih
theorem k_met {mn : Str} {g : T → V → R W} {F : KF T} {F2 : KF V} (ok : ∀ x : T, metOk mn (enc x) = true) (o : ∀ x y, Sim Is (callM mn [enc x, enc y]) (g x y)) (h : KE m Γ a F) (h2 : KE m Γ b F2) : KE m Γ (eMet (metOk mn) (callM mn) a [b]) (fun U k => F U fun x => F2 U fun y => (g x y).bind k) := ⟨fun δ f A B Φ k k' q => by
  unfold eMet
  rw [bind_assoc]
  refine h.go δ f A B Φ _ _ fun x => ?_
  rw [ok x, if_pos rfl, bind_assoc]
  exact (ka_cons h2 ka_nil).go δ f A B Φ _ (fun p => (g x p.1).bind k') fun p => (o x p.1).is_bind q⟩
theorem m_index [DecidableEq T] [h : EqE T] (hd : decide (h.dep ≤ deep) = true) (x : List T) (y : T) : Sim Is (callM "index" [enc x, enc y]) (index x y) := by
  have hd := of_decide_eq_true hd
  show Sim Is (if fl deep (enc y) && (x.map enc).all (fl deep) then indexGo (enc y) 0 (x.map enc) else .bad) _
  rw [h.fl_ y _ hd, fl_all x _ hd]
  exact index_go y x 0
def joinR (s : Str) (xs : List Str) : R Str := if joinOk s xs then .ok (Txt.join s xs) else .bad
theorem m_join (s : Str) (xs : List Str) : Sim Is (callM "join" [enc s, enc xs]) (joinR s xs) := by
  show Sim Is (bindO (strsOf (xs.map enc)) fun ss => if joinOk s ss then R.ok (PyData.str (Txt.join s ss)) else .bad) _
  rw [strsOf_map]
  show Sim Is (if joinOk s xs then R.ok (PyData.str (Txt.join s xs)) else .bad) _
  unfold joinR
  split
  · exact .ok rfl
  · exact .bad
theorem m_starts (s t : Str) : Sim Is (callM "startswith" [enc s, enc t]) (.ok (Txt.startswith s t)) := .ok rfl
/-! ### x or y as values -/
theorem k_orO {Fa : KF (Option T)} {Fb : KF (Option T)} (ht : ∀ x : T, truD (enc x) = .ok true) (ha : KE m Γ a Fa) (hb : KE m Γ b Fb) : KE m Γ (eOrs [a, b]) (fun U k => Fa U fun o => (match o with | some x => R.ok (some x) | none => Fb (Option T) .ok).bind k) := ⟨fun δ f A B Φ k k' q => by
  show Sim Φ (((a δ).bind fun x => (truD x).bind fun t => if t then R.ok x else b δ).bind k) _
  rw [bind_assoc]
  refine ha.go δ f A B Φ _ _ fun o => ?_
  cases o with
  | none =>
    show Sim Φ ((b δ).bind k) _
    exact (hb.self f).is_bind q
  | some x =>
    show Sim Φ (((truD (enc x)).bind fun t => if t then R.ok (enc x) else b δ).bind k) _
    rw [ht x]
    exact q (some x)⟩
end Tv
/-! Tv2: statements, loops, defs, typed. -/
namespace Tv
open PySem Dv
open Enc (enc)
variable {A B A' B' T V W C U S : Type} [Enc T] [Enc V] [Enc W] {m : Nat} {Γ Γ' : G} {δ : Dv.Env} {e a b c : DE} {t t1 t2 : DT} {it : DI}

/-- how a block goes on: behind a loop's body -/
inductive Fl (S T : Type) where
  | nx (s : S) | bk (s : S) | rt (t : T)
/-- what an outcome is wanted to be -/
structure Ex (U : Type) where
  nx : Dv.Env → U → Prop
  bk : Dv.Env → U → Prop
  ct : Dv.Env → U → Prop
  rt : D → U → Prop
/-- an outcome stands for what is typed -/
def So (Θ : Ex U) (o : Out) (t : R U) : Prop := match t with
  | .ok u => (match o with
    | .nx δ => Θ.nx δ u
    | .bk δ => Θ.bk δ u
    | .ct δ => Θ.ct δ u
    | .rt d => Θ.rt d u
    | .err _ _ => False
    | .bad => False)
  | .err c i => o = .err c i
  | .bad => True
structure SJ (m : Nat) (Γ : G) (ss : List DS) (Θ : Ex U) (t : R U) : Prop where
  go : ∀ δ, Ft m Γ δ → So Θ (sSeq ss δ) t
variable {Θ : Ex U} {ss : List DS} {s : DS}
theorem seq_cons (s : DS) (ss : List DS) (δ : Dv.Env) : sSeq (s :: ss) δ = andThen (s δ) (sSeq ss) := by
  cases ss with
  | nil =>
    show s δ = andThen (s δ) sPass
    cases s δ <;> rfl
  | cons s2 ss => rfl
theorem sj_eq {t' u' : R U} (h : SJ m Γ ss Θ t') (q : t' = u') : SJ m Γ ss Θ u' := q ▸ h
/-- from an expression's answer -/
theorem So.ofR {F : KF T} (h : KE m Γ e F) (f : Ft m Γ δ) {k : D → Out} {k' : T → R U} (q : ∀ x, So Θ (k (enc x)) (k' x)) : So Θ (Dv.ofR (e δ) k) (F U k') := by
  have h2 := h.go δ f Out U (fun o u => So Θ o (.ok u)) (fun d => match k d with
    | .err c i => .err c i
    | .bad => .bad
    | o => .ok o) k' fun x => by
      have := q x
      revert this
      cases k' x with
      | ok u =>
        intro z
        cases ho : k (enc x) with
        | err c i => rw [ho] at z; exact False.elim z
        | bad => rw [ho] at z; exact False.elim z
        | nx δ => rw [ho] at z; exact ⟨_, rfl, z⟩
        | bk δ => rw [ho] at z; exact ⟨_, rfl, z⟩
        | ct δ => rw [ho] at z; exact ⟨_, rfl, z⟩
        | rt d => rw [ho] at z; exact ⟨_, rfl, z⟩
      | err c i =>
        intro z
        have z : k (enc x) = .err c i := z
        show (match k (enc x) with
          | .err c i => R.err c i
          | .bad => R.bad
          | o => R.ok o) = _
        rw [z]
      | bad => intro _; exact trivial
  revert h2
  cases hF : F U k' with
  | ok u =>
    rintro ⟨o, h3, h4⟩
    cases he : e δ with
    | ok d =>
      rw [he] at h3
      show So Θ (k d) _
      revert h3
      show (match k d with
          | .err c i => R.err c i
          | .bad => R.bad
          | o => R.ok o) = R.ok o → _
      cases hk : k d <;> intro h3 <;> first | (cases h3; exact h4) | cases h3
    | err c i => rw [he] at h3; cases h3
    | bad => rw [he] at h3; cases h3
  | err c i =>
    intro h3
    cases he : e δ with
    | ok d =>
      rw [he] at h3
      show So Θ (k d) _
      revert h3
      show (match k d with
          | .err c i => R.err c i
          | .bad => R.bad
          | o => R.ok o) = R.err c i → _
      cases hk : k d <;> intro h3 <;> first | (cases h3; exact rfl) | cases h3
    | err c' i' =>
      rw [he] at h3
      cases h3
      exact rfl
    | bad => rw [he] at h3; cases h3
  | bad => intro _; exact trivial
/-- from a test's answer, from what is walked -/
theorem So.of {X Y : Type} {r : R X} {enc' : Y → X} {F : KF Y} (h : ∀ (A B : Type) (Φ : A → B → Prop) (k : X → R A) (k' : Y → R B), (∀ x, Sim Φ (k (enc' x)) (k' x)) → Sim Φ (r.bind k) (F B k')) {k : X → Out} {k' : Y → R U} (q : ∀ x, So Θ (k (enc' x)) (k' x)) : So Θ (Dv.ofR r k) (F U k') := by
  have h2 := h Out U (fun o u => So Θ o (.ok u)) (fun d => match k d with
    | .err c i => .err c i
    | .bad => .bad
    | o => .ok o) k' fun x => by
      have := q x
      revert this
      cases k' x with
      | ok u =>
        intro z
        cases ho : k (enc' x) with
        | err c i => rw [ho] at z; exact False.elim z
        | bad => rw [ho] at z; exact False.elim z
        | nx δ => rw [ho] at z; exact ⟨_, rfl, z⟩
        | bk δ => rw [ho] at z; exact ⟨_, rfl, z⟩
        | ct δ => rw [ho] at z; exact ⟨_, rfl, z⟩
        | rt d => rw [ho] at z; exact ⟨_, rfl, z⟩
      | err c i =>
        intro z
        have z : k (enc' x) = .err c i := z
        show (match k (enc' x) with
          | .err c i => R.err c i
          | .bad => R.bad
          | o => R.ok o) = _
        rw [z]
      | bad => intro _; exact trivial
  revert h2
  cases hF : F U k' with
  | ok u =>
    rintro ⟨o, h3, h4⟩
    cases he : r with
    | ok d =>
      rw [he] at h3
      show So Θ (k d) _
      revert h3
      show (match k d with
          | .err c i => R.err c i
          | .bad => R.bad
          | o => R.ok o) = R.ok o → _
      cases hk : k d <;> intro h3 <;> first | (cases h3; exact h4) | cases h3
    | err c i => rw [he] at h3; cases h3
    | bad => rw [he] at h3; cases h3
  | err c i =>
    intro h3
    cases he : r with
    | ok d =>
      rw [he] at h3
      show So Θ (k d) _
      revert h3
      show (match k d with
          | .err c i => R.err c i
          | .bad => R.bad
          | o => R.ok o) = R.err c i → _
      cases hk : k d <;> intro h3 <;> first | (cases h3; exact rfl) | cases h3
    | err c' i' =>
      rw [he] at h3
      cases h3
      exact rfl
    | bad => rw [he] at h3; cases h3
  | bad => intro _; exact trivial
theorem andThen_ofR {α : Type} (r : R α) (f : α → Out) (k : DS) : andThen (Dv.ofR r f) k = Dv.ofR r fun x => andThen (f x) k := by cases r <;> rfl
theorem ofR_bind {α β : Type} (r : R α) (f : α → R β) (k : β → Out) : Dv.ofR (r.bind f) k = Dv.ofR r fun x => Dv.ofR (f x) k := by cases r <;> rfl

/-! ### the rules -/
theorem sj_nil {u : U} (h : ∀ δ, Ft m Γ δ → Θ.nx δ u) : SJ m Γ [] Θ (.ok u) := ⟨fun δ f => h δ f⟩
theorem sj_asg {i : Nat} {F : KF T} {k : T → R U} (he : KE m Γ e F) (hi : decide (i < m) = true) (hr : ∀ x : T, SJ m ((i, some (enc x)) :: Γ) ss Θ (k x)) : SJ m Γ (sAsg (gNm i) e :: ss) Θ (F U k) := ⟨fun δ f => by
  rw [seq_cons]
  unfold sAsg
  rw [andThen_ofR]
  refine So.ofR he f fun x => ?_
  exact (hr x).go _ (f.put hi _)⟩
theorem sj_asgG {g : TF} {Δ : T → G} {F : KF T} {k : T → R U} (he : KE m Γ e F) (hg : KG m g Δ) (hr : ∀ x : T, SJ m (Δ x ++ Γ) ss Θ (k x)) : SJ m Γ (sAsg g e :: ss) Θ (F U k) := ⟨fun δ f => by
  rw [seq_cons]
  unfold sAsg
  rw [andThen_ofR]
  refine So.ofR he f fun x => ?_
  obtain ⟨δ', e1, f'⟩ := hg.go Γ δ x f
  rw [e1]
  exact (hr x).go _ f'⟩
theorem sj_ret {F : KF T} {u : T → U} (he : KE m Γ e F) (h : ∀ x, Θ.rt (enc x) (u x)) : SJ m Γ (sRet e :: ss) Θ (F U fun x => .ok (u x)) := ⟨fun δ f => by
  rw [seq_cons]
  unfold sRet
  rw [andThen_ofR]
  exact So.ofR he f fun x => h x⟩
theorem sj_retN {u : U} (h : Θ.rt .none u) : SJ m Γ (sRetN :: ss) Θ (.ok u) := ⟨fun δ f => by rw [seq_cons]; exact h⟩
theorem sj_drop {F : KF T} {k : R U} (he : KE m Γ e F) (hr : SJ m Γ ss Θ k) : SJ m Γ (sDrop e :: ss) Θ (F U fun _ => k) := ⟨fun δ f => by
  rw [seq_cons]
  unfold sDrop
  rw [andThen_ofR]
  exact So.ofR he f fun x => hr.go δ f⟩
theorem sj_pass {k : R U} (hr : SJ m Γ ss Θ k) : SJ m Γ (sPass :: ss) Θ k := ⟨fun δ f => by rw [seq_cons]; exact hr.go δ f⟩
theorem sj_bad : SJ m Γ (sBad :: ss) Θ .bad := ⟨fun δ f => trivial⟩
theorem sj_any : SJ m Γ ss Θ .bad := ⟨fun δ f => trivial⟩
theorem sj_brk {u : U} (h : ∀ δ, Ft m Γ δ → Θ.bk δ u) : SJ m Γ (sBrk :: ss) Θ (.ok u) := ⟨fun δ f => by rw [seq_cons]; exact h δ f⟩
theorem sj_cnt {u : U} (h : ∀ δ, Ft m Γ δ → Θ.ct δ u) : SJ m Γ (sCnt :: ss) Θ (.ok u) := ⟨fun δ f => by rw [seq_cons]; exact h δ f⟩
theorem seq_app (as bs : List DS) (δ : Dv.Env) : sSeq (as ++ bs) δ = andThen (sSeq as δ) (sSeq bs) := by
  induction as generalizing δ with
  | nil => rfl
  | cons a as ih =>
    rw [List.cons_append, seq_cons, seq_cons]
    cases a δ with
    | nx δ' => exact ih δ'
    | _ => rfl
/-- both ways go on into what follows -/
theorem sj_if {as bs : List DS} {F : KF Bool} {x y : R U} (ht : KT m Γ t F) (ha : SJ m Γ (as ++ ss) Θ x) (hb : SJ m Γ (bs ++ ss) Θ y) : SJ m Γ (sIf t (sSeq as) (sSeq bs) :: ss) Θ (F U fun c => if c then x else y) := ⟨fun δ f => by
  rw [seq_cons]
  unfold sIf
  rw [andThen_ofR]
  refine So.of (enc' := fun x => x) (ht.go δ f) fun c => ?_
  cases c with
  | true =>
    show So Θ (andThen (sSeq as δ) (sSeq ss)) x
    rw [← seq_app]
    exact ha.go δ f
  | false =>
    show So Θ (andThen (sSeq bs δ) (sSeq ss)) y
    rw [← seq_app]
    exact hb.go δ f⟩
/-- what is wanted of a way that meets another one again -/
def exJ (m : Nat) (E : S → G) : Ex S := ⟨fun δ s => Ft m (E s) δ, fun _ _ => False, fun _ _ => False, fun _ _ => False⟩
/-- .. of a loop's body that hands nothing back and is not broken off -/
def exC (m : Nat) (E : S → G) : Ex S := ⟨fun δ s => Ft m (E s) δ, fun _ _ => False, fun δ s => Ft m (E s) δ, fun _ _ => False⟩
/-- .. of any loop's body -/
def exL (m : Nat) (E : S → G) (T : Type) [Enc T] : Ex (Fl S T) where
  nx := fun δ o => match o with
    | .nx s => Ft m (E s) δ
    | _ => False
  ct := fun δ o => match o with
    | .nx s => Ft m (E s) δ
    | _ => False
  bk := fun δ o => match o with
    | .bk s => Ft m (E s) δ
    | _ => False
  rt := fun d o => match o with
    | .rt t => d = enc t
    | _ => False
theorem sj_ifJ {as bs : List DS} {F : KF Bool} {x y : R S} {E : S → G} {k : S → R U} (ht : KT m Γ t F) (ha : SJ m Γ as (exJ m E) x) (hb : SJ m Γ bs (exJ m E) y) (hr : ∀ s, SJ m (E s) ss Θ (k s)) : SJ m Γ (sIf t (sSeq as) (sSeq bs) :: ss) Θ (F U fun c => (if c then x else y).bind k) := ⟨fun δ f => by
  have meet : ∀ {o : Out} {z : R S}, So (exJ m E) o z → So Θ (andThen o (sSeq ss)) (z.bind k) := fun {o z} h => by
    cases z with
    | ok s =>
      cases o with
      | nx δ' => exact (hr s).go δ' h
      | bk _ => exact False.elim h
      | ct _ => exact False.elim h
      | rt _ => exact False.elim h
      | err _ _ => exact False.elim h
      | bad => exact False.elim h
    | err c i =>
      have h : o = .err c i := h
      subst h
      exact rfl
    | bad => exact trivial
  rw [seq_cons]
  unfold sIf
  rw [andThen_ofR]
  refine So.of (enc' := fun x => x) (ht.go δ f) fun c => ?_
  cases c with
  | true => exact meet (ha.go δ f)
  | false => exact meet (hb.go δ f)⟩

/-! ### loops -/
def foldR {α : Type} (b : S → α → R S) : S → List α → R S
  | s, [] => .ok s
  | s, x :: xs => (b s x).bind fun s' => foldR b s' xs
def forR {α T : Type} (b : S → α → R (Fl S T)) : S → List α → R (Fl S T)
  | s, [] => .ok (.nx s)
  | s, x :: xs => (b s x).bind fun o => match o with
    | .nx s' => forR b s' xs
    | .bk s' => .ok (.nx s')
    | .rt t => .ok (.rt t)
def forN {α T : Type} (b : S → α → R (Fl S T)) (xs : List α) (o : Fl S T) : R (Fl S T) := match o with
  | .nx s' => forR b s' xs
  | .bk s' => .ok (.nx s')
  | .rt t => .ok (.rt t)
theorem forR_cons {α T : Type} (b : S → α → R (Fl S T)) (s : S) (x : α) (xs : List α) : forR b s (x :: xs) = (b s x).bind (forN b xs) := by
  show (b s x).bind _ = _
  congr 1
/-- behind a loop -/
def thenR {T : Type} (o : R (Fl S T)) (k : S → R U) (r : T → R U) : R U := o.bind fun o => match o with
  | .nx s => k s
  | .bk s => k s
  | .rt t => r t
theorem sj_forC {g : TF} {Δ : T → G} {body : List DS} {Fi : KF (List T)} {E : S → G} {s0 : S} {bt : S → T → R S} {k : S → R U} (hi : KI m Γ it Fi) (hg : KG m g Δ) (l0 : Lk Γ (E s0)) (hb : ∀ s x, SJ m (Δ x ++ E s) body (exC m E) (bt s x)) (hr : ∀ s, SJ m (E s) ss Θ (k s)) :
    SJ m Γ (sFor g it (sSeq body) :: ss) Θ (Fi U fun xs => (foldR bt s0 xs).bind k) := ⟨fun δ f => by
  have loop : ∀ (xs : List T) (s : S) (δ : Dv.Env), Ft m (E s) δ → So Θ (andThen (forGo g (sSeq body) (xs.map enc) δ) (sSeq ss)) ((foldR bt s xs).bind k) := by
    intro xs
    induction xs with
    | nil => intro s δ f; exact (hr s).go δ f
    | cons x xs ih =>
      intro s δ f
      obtain ⟨δ1, e1, f1⟩ := hg.go _ δ x f
      have hb := (hb s x).go δ1 f1
      show So Θ (andThen (Dv.ofR (g (enc x) δ) fun δ1 => match sSeq body δ1 with
        | .nx δ' => forGo g (sSeq body) (xs.map enc) δ'
        | .ct δ' => forGo g (sSeq body) (xs.map enc) δ'
        | .bk δ' => .nx δ'
        | o => o) (sSeq ss)) (((bt s x).bind fun s' => foldR bt s' xs).bind k)
      rw [e1, bind_assoc]
      show So Θ (andThen (match sSeq body δ1 with
        | .nx δ' => forGo g (sSeq body) (xs.map enc) δ'
        | .ct δ' => forGo g (sSeq body) (xs.map enc) δ'
        | .bk δ' => .nx δ'
        | o => o) (sSeq ss)) _
      revert hb
      cases bt s x with
      | ok s' =>
        cases sSeq body δ1 with
        | nx δ' => exact fun h => ih s' δ' h
        | ct δ' => exact fun h => ih s' δ' h
        | bk _ => exact fun h => False.elim h
        | rt _ => exact fun h => False.elim h
        | err _ _ => exact fun h => False.elim h
        | bad => exact fun h => False.elim h
      | err c i =>
        intro h
        have h : sSeq body δ1 = .err c i := h
        rw [h]
        exact rfl
      | bad => intro _; exact trivial
  rw [seq_cons]
  unfold sFor
  rw [andThen_ofR]
  exact So.of (enc' := fun xs : List T => xs.map enc) (hi.go δ f) fun xs => loop xs s0 δ (f.to l0)⟩
theorem sj_for {g : TF} {Δ : T → G} {body : List DS} {Fi : KF (List T)} {E : S → G} {s0 : S} {bt : S → T → R (Fl S V)} {k : S → R U} {r : V → R U} (hi : KI m Γ it Fi) (hg : KG m g Δ) (l0 : Lk Γ (E s0)) (hb : ∀ s x, SJ m (Δ x ++ E s) body (exL m E V) (bt s x)) (hr : ∀ s, SJ m (E s) ss Θ (k s)) (hrt : ∀ v : V, So Θ (.rt (enc v)) (r v)) :
    SJ m Γ (sFor g it (sSeq body) :: ss) Θ (Fi U fun xs => thenR (forR bt s0 xs) k r) := ⟨fun δ f => by
  have loop : ∀ (xs : List T) (s : S) (δ : Dv.Env), Ft m (E s) δ → So Θ (andThen (forGo g (sSeq body) (xs.map enc) δ) (sSeq ss)) (thenR (forR bt s xs) k r) := by
    intro xs
    induction xs with
    | nil => intro s δ f; exact (hr s).go δ f
    | cons x xs ih =>
      intro s δ f
      obtain ⟨δ1, e1, f1⟩ := hg.go _ δ x f
      have hb := (hb s x).go δ1 f1
      rw [forR_cons]
      show So Θ (andThen (Dv.ofR (g (enc x) δ) fun δ1 => match sSeq body δ1 with
        | .nx δ' => forGo g (sSeq body) (xs.map enc) δ'
        | .ct δ' => forGo g (sSeq body) (xs.map enc) δ'
        | .bk δ' => .nx δ'
        | o => o) (sSeq ss)) _
      rw [e1]
      show So Θ (andThen (match sSeq body δ1 with
        | .nx δ' => forGo g (sSeq body) (xs.map enc) δ'
        | .ct δ' => forGo g (sSeq body) (xs.map enc) δ'
        | .bk δ' => .nx δ'
        | o => o) (sSeq ss)) _
      revert hb
      cases bt s x with
      | ok o =>
        cases o with
        | nx s' =>
          cases sSeq body δ1 with
          | nx δ' => exact fun h => ih s' δ' h
          | ct δ' => exact fun h => ih s' δ' h
          | bk _ => exact fun h => False.elim h
          | rt _ => exact fun h => False.elim h
          | err _ _ => exact fun h => False.elim h
          | bad => exact fun h => False.elim h
        | bk s' =>
          cases sSeq body δ1 with
          | bk δ' => exact fun h => (hr s').go δ' h
          | nx _ => exact fun h => False.elim h
          | ct _ => exact fun h => False.elim h
          | rt _ => exact fun h => False.elim h
          | err _ _ => exact fun h => False.elim h
          | bad => exact fun h => False.elim h
        | rt v =>
          cases sSeq body δ1 with
          | rt d =>
            intro h
            have h : d = enc v := h
            subst h
            exact hrt v
          | nx _ => exact fun h => False.elim h
          | ct _ => exact fun h => False.elim h
          | bk _ => exact fun h => False.elim h
          | err _ _ => exact fun h => False.elim h
          | bad => exact fun h => False.elim h
      | err c i =>
        intro h
        have h : sSeq body δ1 = .err c i := h
        rw [h]
        exact rfl
      | bad => intro _; exact trivial
  rw [seq_cons]
  unfold sFor
  rw [andThen_ofR]
  exact So.of (enc' := fun xs : List T => xs.map enc) (hi.go δ f) fun xs => loop xs s0 δ (f.to l0)⟩
def whlR (c : S → R Bool) (b : S → R (Fl S T)) : Nat → S → R (Fl S T)
  | 0, _ => .bad
  | n + 1, s => (c s).bind fun x => if x then (b s).bind fun o => (match o with
    | .nx s' => whlR c b n s'
    | .bk s' => .ok (.nx s')
    | .rt t => .ok (.rt t)) else .ok (.nx s)
def whlC (c : S → R Bool) (b : S → R S) : Nat → S → R S
  | 0, _ => .bad
  | n + 1, s => (c s).bind fun x => if x then (b s).bind fun s' => whlC c b n s' else .ok s
theorem sj_whlC {body : List DS} {E : S → G} {s0 : S} {Fc : S → KF Bool} {bt : S → R S} {k : S → R U} (l0 : Lk Γ (E s0)) (hc : ∀ s, KT m (E s) t (Fc s)) (hb : ∀ s, SJ m (E s) body (exC m E) (bt s)) (hr : ∀ s, SJ m (E s) ss Θ (k s)) :
    SJ m Γ (sWhl t (sSeq body) :: ss) Θ ((whlC (fun s => Fc s Bool .ok) bt turns s0).bind k) := ⟨fun δ f => by
  have loop : ∀ (n : Nat) (s : S) (δ : Dv.Env), Ft m (E s) δ → So Θ (andThen (whlGo t (sSeq body) n δ) (sSeq ss)) ((whlC (fun s => Fc s Bool .ok) bt n s).bind k) := by
    intro n
    induction n with
    | zero => intro s δ f; exact trivial
    | succ n ih =>
      intro s δ f
      show So Θ (andThen (Dv.ofR (t δ) fun x => if x then (match sSeq body δ with
        | .nx δ' => whlGo t (sSeq body) n δ'
        | .ct δ' => whlGo t (sSeq body) n δ'
        | .bk δ' => .nx δ'
        | o => o) else .nx δ) (sSeq ss)) (((Fc s Bool .ok).bind fun x => if x then (bt s).bind fun s' => whlC (fun s => Fc s Bool .ok) bt n s' else .ok s).bind k)
      have h1 := (hc s).self f
      revert h1
      cases Fc s Bool .ok with
      | ok x =>
        rintro ⟨y, e1, e2⟩
        have e2 : y = x := e2
        subst e2
        rw [e1]
        cases y with
        | false => exact (hr s).go δ f
        | true =>
          have hb := (hb s).go δ f
          show So Θ (andThen (match sSeq body δ with
            | .nx δ' => whlGo t (sSeq body) n δ'
            | .ct δ' => whlGo t (sSeq body) n δ'
            | .bk δ' => .nx δ'
            | o => o) (sSeq ss)) (((bt s).bind fun s' => whlC (fun s => Fc s Bool .ok) bt n s').bind k)
          rw [bind_assoc]
          revert hb
          cases bt s with
          | ok s' =>
            cases sSeq body δ with
            | nx δ' => exact fun h => ih s' δ' h
            | ct δ' => exact fun h => ih s' δ' h
            | bk _ => exact fun h => False.elim h
            | rt _ => exact fun h => False.elim h
            | err _ _ => exact fun h => False.elim h
            | bad => exact fun h => False.elim h
          | err c i =>
            intro h
            have h : sSeq body δ = .err c i := h
            rw [h]
            exact rfl
          | bad => intro _; exact trivial
      | err c i =>
        intro h
        have h : t δ = .err c i := h
        rw [h]
        exact rfl
      | bad => intro _; exact trivial
  rw [seq_cons]
  exact loop turns s0 δ (f.to l0)⟩
theorem sj_whl {body : List DS} {E : S → G} {s0 : S} {Fc : S → KF Bool} {bt : S → R (Fl S V)} {k : S → R U} {r : V → R U} (l0 : Lk Γ (E s0)) (hc : ∀ s, KT m (E s) t (Fc s)) (hb : ∀ s, SJ m (E s) body (exL m E V) (bt s)) (hr : ∀ s, SJ m (E s) ss Θ (k s)) (hrt : ∀ v : V, So Θ (.rt (enc v)) (r v)) :
    SJ m Γ (sWhl t (sSeq body) :: ss) Θ (thenR (whlR (fun s => Fc s Bool .ok) bt turns s0) k r) := ⟨fun δ f => by
  have loop : ∀ (n : Nat) (s : S) (δ : Dv.Env), Ft m (E s) δ → So Θ (andThen (whlGo t (sSeq body) n δ) (sSeq ss)) (thenR (whlR (fun s => Fc s Bool .ok) bt n s) k r) := by
    intro n
    induction n with
    | zero => intro s δ f; exact trivial
    | succ n ih =>
      intro s δ f
      show So Θ (andThen (Dv.ofR (t δ) fun x => if x then (match sSeq body δ with
        | .nx δ' => whlGo t (sSeq body) n δ'
        | .ct δ' => whlGo t (sSeq body) n δ'
        | .bk δ' => .nx δ'
        | o => o) else .nx δ) (sSeq ss)) (thenR ((Fc s Bool .ok).bind fun x => if x then (bt s).bind fun o => (match o with
        | .nx s' => whlR (fun s => Fc s Bool .ok) bt n s'
        | .bk s' => .ok (.nx s')
        | .rt t => .ok (.rt t)) else .ok (.nx s)) k r)
      have h1 := (hc s).self f
      revert h1
      cases Fc s Bool .ok with
      | ok x =>
        rintro ⟨y, e1, e2⟩
        have e2 : y = x := e2
        subst e2
        rw [e1]
        cases y with
        | false => exact (hr s).go δ f
        | true =>
          have hb := (hb s).go δ f
          show So Θ (andThen (match sSeq body δ with
            | .nx δ' => whlGo t (sSeq body) n δ'
            | .ct δ' => whlGo t (sSeq body) n δ'
            | .bk δ' => .nx δ'
            | o => o) (sSeq ss)) (thenR ((bt s).bind fun o => (match o with
            | .nx s' => whlR (fun s => Fc s Bool .ok) bt n s'
            | .bk s' => .ok (.nx s')
            | .rt t => .ok (.rt t))) k r)
          revert hb
          cases bt s with
          | ok o =>
            cases o with
            | nx s' =>
              cases sSeq body δ with
              | nx δ' => exact fun h => ih s' δ' h
              | ct δ' => exact fun h => ih s' δ' h
              | bk _ => exact fun h => False.elim h
              | rt _ => exact fun h => False.elim h
              | err _ _ => exact fun h => False.elim h
              | bad => exact fun h => False.elim h
            | bk s' =>
              cases sSeq body δ with
              | bk δ' => exact fun h => (hr s').go δ' h
              | nx _ => exact fun h => False.elim h
              | ct _ => exact fun h => False.elim h
              | rt _ => exact fun h => False.elim h
              | err _ _ => exact fun h => False.elim h
              | bad => exact fun h => False.elim h
            | rt v =>
              cases sSeq body δ with
              | rt d =>
                intro h
                have h : d = enc v := h
                subst h
                exact hrt v
              | nx _ => exact fun h => False.elim h
              | ct _ => exact fun h => False.elim h
              | bk _ => exact fun h => False.elim h
              | err _ _ => exact fun h => False.elim h
              | bad => exact fun h => False.elim h
          | err c i =>
            intro h
            have h : sSeq body δ = .err c i := h
            rw [h]
            exact rfl
          | bad => intro _; exact trivial
      | err c i =>
        intro h
        have h : t δ = .err c i := h
        rw [h]
        exact rfl
      | bad => intro _; exact trivial
  rw [seq_cons]
  exact loop turns s0 δ (f.to l0)⟩

/-! ### lists that change -/
theorem sj_app {i : Nat} {xs : List T} {F : KF T} {k : List T → R U} (he : KE m Γ e F) (hx : Γ.lookup i = some (some (enc xs))) (hi : decide (i < m) = true) (hr : ∀ ys : List T, SJ m ((i, some (enc ys)) :: Γ) ss Θ (k ys)) : SJ m Γ (sApp i e :: ss) Θ (F U fun x => (ck (xs ++ [x])).bind k) := ⟨fun δ f => by
  rw [seq_cons]
  unfold sApp
  rw [andThen_ofR]
  refine So.ofR he f fun x => ?_
  rw [f.at_ _ _ hx]
  show So Θ (andThen (if (xs.map enc).length < lim then Out.nx (δ.set i (some (.list (xs.map enc ++ [enc x])))) else .bad) (sSeq ss)) _
  unfold ck
  rw [List.length_map, List.length_append]
  split
  · rename_i h
    rw [if_pos (by simp; omega)]
    have e : (PyData.list (xs.map enc ++ [enc x])) = enc (xs ++ [x]) := by show PyData.list _ = PyData.list _; rw [List.map_append]; rfl
    rw [e]
    exact (hr (xs ++ [x])).go _ (f.put hi _)
  · rename_i h
    rw [if_neg (by simp; omega)]
    exact trivial⟩
theorem sj_ext {i : Nat} {xs : List T} {F : KF (List T)} {k : List T → R U} (he : KE m Γ e F) (hx : Γ.lookup i = some (some (enc xs))) (hi : decide (i < m) = true) (hr : ∀ ys : List T, SJ m ((i, some (enc ys)) :: Γ) ss Θ (k ys)) : SJ m Γ (sExt i e :: ss) Θ (F U fun zs => (ck (xs ++ zs)).bind k) := ⟨fun δ f => by
  rw [seq_cons]
  unfold sExt
  rw [andThen_ofR]
  refine So.ofR he f fun zs => ?_
  rw [f.at_ _ _ hx]
  show So Θ (andThen (if (xs.map enc).length + (zs.map enc).length ≤ lim then Out.nx (δ.set i (some (.list (xs.map enc ++ zs.map enc)))) else .bad) (sSeq ss)) _
  unfold ck
  rw [List.length_map, List.length_map, List.length_append]
  split
  · rename_i h
    have e : (PyData.list (xs.map enc ++ zs.map enc)) = enc (xs ++ zs) := by show PyData.list _ = PyData.list _; rw [List.map_append]
    rw [e]
    exact (hr (xs ++ zs)).go _ (f.put hi _)
  · exact trivial⟩
theorem sj_appE {F : KF (List T)} {F2 : KF T} {k : R U} (ho : KE m Γ a F) (he : KE m Γ e F2) (hr : SJ m Γ ss Θ k) : SJ m Γ (sAppE a e :: ss) Θ (F U fun xs => F2 U fun x => (ck (xs ++ [x])).bind fun _ => k) := ⟨fun δ f => by
  rw [seq_cons]
  unfold sAppE
  rw [andThen_ofR]
  refine So.ofR ho f fun xs => ?_
  rw [andThen_ofR]
  refine So.ofR he f fun x => ?_
  show So Θ (andThen (if (xs.map enc).length < lim then Out.nx δ else .bad) (sSeq ss)) _
  unfold ck
  rw [List.length_map, List.length_append]
  split
  · rw [if_pos (by simp; omega)]
    exact hr.go δ f
  · rw [if_neg (by simp; omega)]
    exact trivial⟩
def setL {α : Type} (xs : List α) (i : Int) (x : α) : R (List α) := match ixZ xs.length i with
  | some j => .ok (xs.set j x)
  | none => .bad
theorem sj_set {i : Nat} {xs : List T} {F : KF T} {Fj : KF Int} {k : List T → R U} (he : KE m Γ a F) (hj : KE m Γ b Fj) (hx : Γ.lookup i = some (some (enc xs))) (hi : decide (i < m) = true) (hr : ∀ ys : List T, SJ m ((i, some (enc ys)) :: Γ) ss Θ (k ys)) :
    SJ m Γ (sSet i b a :: ss) Θ (F U fun x => Fj U fun j => (setL xs j x).bind k) := ⟨fun δ f => by
  rw [seq_cons]
  unfold sSet
  rw [andThen_ofR]
  refine So.ofR he f fun x => ?_
  rw [andThen_ofR]
  refine So.ofR hj f fun j => ?_
  rw [f.at_ _ _ hx]
  show So Θ (andThen (match ixZ (xs.map enc).length j with
    | some j => Out.nx (δ.set i (some (.list ((xs.map enc).set j (enc x)))))
    | none => .bad) (sSeq ss)) _
  unfold setL
  rw [List.length_map]
  cases ixZ xs.length j with
  | none => exact trivial
  | some j =>
    have e : (PyData.list ((xs.map enc).set j (enc x))) = enc (xs.set j x) := by show PyData.list _ = PyData.list _; rw [List.map_set]
    show So Θ (andThen (Out.nx (δ.set i (some (.list ((xs.map enc).set j (enc x)))))) (sSeq ss)) _
    rw [e]
    exact (hr (xs.set j x)).go _ (f.put hi _)⟩

/-! ### defs -/
def argG : Nat → List D → G
  | _, [] => []
  | k, d :: ds => (k, some d) :: argG (k + 1) ds
theorem ft_arg : ∀ (as : List D) (pre suf : List (Option D)) (m : Nat), (pre ++ as.map some ++ suf).length = m → Ft m (argG pre.length as) (pre ++ as.map some ++ suf)
  | [], pre, suf, m, h => ⟨h, fun i d q => by cases q⟩
  | a :: as, pre, suf, m, h => by
    have e : pre ++ (a :: as).map some ++ suf = (pre ++ [some a]) ++ as.map some ++ suf := by simp
    have ih := ft_arg as (pre ++ [some a]) suf m (by rw [← e]; exact h)
    rw [← e] at ih
    refine ⟨h, fun i d q => ?_⟩
    unfold argG at q
    rw [List.lookup_cons] at q
    cases z : i == pre.length with
    | true =>
      rw [z] at q
      cases q
      rw [eq_of_beq z]
      simp
    | false =>
      rw [z] at q
      refine ih.at_ i d ?_
      rw [List.length_append]
      exact q
/-- what a def hands back -/
def exF (T : Type) [Enc T] : Ex T := ⟨fun _ x => enc x = .none, fun _ _ => False, fun _ _ => False, fun d x => d = enc x⟩
theorem fn_run {np n : Nat} {as : List D} {body : List DS} {r : R T} (h : SJ n (argG 0 as) body (exF T) r) (hl : as.length = np) (hn : np ≤ n) : Sim Is (runF np n (sSeq body) as) r := by
  unfold runF
  rw [if_pos hl]
  have := h.go _ (ft_arg as [] (List.replicate (n - np) none) n (by simp; omega))
  rw [List.nil_append] at this
  revert this
  cases r with
  | ok x =>
    cases sSeq body (as.map some ++ List.replicate (n - np) none) with
    | nx δ =>
      intro h
      have h : enc x = .none := h
      exact ⟨_, rfl, h.symm⟩
    | rt d => intro h; exact ⟨d, rfl, h⟩
    | bk _ => exact fun h => False.elim h
    | ct _ => exact fun h => False.elim h
    | err _ _ => exact fun h => False.elim h
    | bad => exact fun h => False.elim h
  | err c i =>
    intro h
    have h : sSeq body (as.map some ++ List.replicate (n - np) none) = .err c i := h
    rw [h]
    exact rfl
  | bad => intro _; exact trivial
/-- no list lies in the data of the type -/
class NoL (α : Type) [Enc α] : Prop where
  no : ∀ a : α, nol (enc a) = true
instance : NoL Int := ⟨fun _ => rfl⟩
instance : NoL Bool := ⟨fun _ => rfl⟩
instance : NoL Str := ⟨fun _ => rfl⟩
instance : NoL Unit := ⟨fun _ => rfl⟩
theorem nols_map {α : Type} [Enc α] [h : NoL α] : ∀ xs : List α, nols (xs.map enc) = true
  | [] => rfl
  | x :: xs => by
    show (nol (enc x) && nols (xs.map enc)) = true
    rw [h.no x, nols_map xs]
    rfl
instance {α : Type} [Enc α] [h : NoL α] : NoL (Option α) := ⟨fun a => by
  cases a with
  | none => rfl
  | some a => exact h.no a⟩
instance {α : Type} [Enc α] [h : NoL α] : NoL (Tup α) := ⟨fun a => nols_map a.l⟩
instance {α β : Type} [Enc α] [Enc β] [h : NoL α] [k : NoL β] : NoL (α × β) := ⟨fun a => by
  show (nol (enc a.1) && (nol (enc a.2) && true)) = true
  rw [h.no, k.no]; rfl⟩
instance {α β γ : Type} [Enc α] [Enc β] [Enc γ] [h : NoL α] [k : NoL β] [l : NoL γ] : NoL (T3 α β γ) := ⟨fun a => by
  show (nol (enc a.a) && (nol (enc a.b) && (nol (enc a.c) && true))) = true
  rw [h.no, k.no, l.no]; rfl⟩
/-- flat data: of no lists, or a list of such -/
class FlatE (o : Bool) (α : Type) [Enc α] : Prop where
  ok : ∀ a : α, flatD o (enc a) = true
theorem flat_of_nol {o : Bool} {d : D} (h : nol d = true) : flatD o d = true := by
  cases d with
  | list xs => cases h
  | dict kvs => cases h
  | _ => exact h
instance {o : Bool} {α : Type} [Enc α] [h : NoL α] : FlatE o α := ⟨fun a => flat_of_nol (h.no a)⟩
instance {α : Type} [Enc α] [h : NoL α] : FlatE true (List α) := ⟨fun a => by show (true && nols (a.map enc)) = true; rw [nols_map]; rfl⟩
instance {α : Type} [Enc α] [h : NoL α] : FlatE true (Option (List α)) := ⟨fun a => by
  cases a with
  | none => rfl
  | some a => show (true && nols (a.map enc)) = true; rw [nols_map]; rfl⟩
theorem fn_flat {o : Bool} {mf : List D → R D} {as : List D} {r : R T} [h : FlatE o T] (q : Sim Is (mf as) r) : Sim Is (gFlat o mf as) r := by
  unfold gFlat
  have := q.is_bind (Φ := Is) (k := fun d => if flatD o d then R.ok d else .bad) (k' := R.ok) fun x => by rw [h.ok x]; exact .ok rfl
  rwa [bind_ok_self] at this
end Tv
/-! Tv3: more rules. -/
namespace Tv
open PySem Dv
open Enc (enc)
variable {A B A' B' T V W C U S : Type} [Enc T] [Enc V] [Enc W] {m : Nat} {Γ Γ' : G} {δ : Dv.Env} {e a b c : DE} {t t1 t2 : DT} {it : DI}
variable {Θ : Ex U} {ss : List DS} {s : DS}
/-! and, or of truth values as values -/
theorem k_and1 {F : KF Bool} (h : KE m Γ a F) : KE m Γ (eAnds [a]) F := h
theorem k_or1 {F : KF Bool} (h : KE m Γ a F) : KE m Γ (eOrs [a]) F := h
theorem k_and {F : KF Bool} {y : Bool} {as : List DE} (h : KE m Γ a F) (h2 : KE m Γ (eAnds (b :: as)) (fun U k => k y)) : KE m Γ (eAnds (a :: b :: as)) (fun U k => F U fun x => k (x && y)) := ⟨fun δ f A B Φ k k' q => by
  show Sim Φ (((a δ).bind fun x => (truD x).bind fun t => if t then eAnds (b :: as) δ else .ok x).bind k) _
  rw [bind_assoc]
  refine h.go δ f A B Φ _ _ fun x => ?_
  cases x with
  | true => exact h2.go δ f A B Φ k _ fun z => q z
  | false => exact q false⟩
theorem k_andM {F F2 : KF Bool} {as : List DE} (h : KE m Γ a F) (h2 : KE m Γ (eAnds (b :: as)) F2) : KE m Γ (eAnds (a :: b :: as)) (fun U k => F U fun x => (if x then F2 Bool .ok else .ok false).bind k) := ⟨fun δ f A B Φ k k' q => by
  show Sim Φ (((a δ).bind fun x => (truD x).bind fun t => if t then eAnds (b :: as) δ else .ok x).bind k) _
  rw [bind_assoc]
  refine h.go δ f A B Φ _ _ fun x => ?_
  cases x with
  | true => exact (h2.self f).is_bind q
  | false => exact q false⟩
theorem k_or {F : KF Bool} {y : Bool} {as : List DE} (h : KE m Γ a F) (h2 : KE m Γ (eOrs (b :: as)) (fun U k => k y)) : KE m Γ (eOrs (a :: b :: as)) (fun U k => F U fun x => k (x || y)) := ⟨fun δ f A B Φ k k' q => by
  show Sim Φ (((a δ).bind fun x => (truD x).bind fun t => if t then .ok x else eOrs (b :: as) δ).bind k) _
  rw [bind_assoc]
  refine h.go δ f A B Φ _ _ fun x => ?_
  cases x with
  | false => exact h2.go δ f A B Φ k _ fun z => q z
  | true => exact q true⟩
theorem k_orM {F F2 : KF Bool} {as : List DE} (h : KE m Γ a F) (h2 : KE m Γ (eOrs (b :: as)) F2) : KE m Γ (eOrs (a :: b :: as)) (fun U k => F U fun x => (if x then .ok true else F2 Bool .ok).bind k) := ⟨fun δ f A B Φ k k' q => by
  show Sim Φ (((a δ).bind fun x => (truD x).bind fun t => if t then .ok x else eOrs (b :: as) δ).bind k) _
  rw [bind_assoc]
  refine h.go δ f A B Φ _ _ fun x => ?_
  cases x with
  | false => exact (h2.self f).is_bind q
  | true => exact q true⟩
def orL {α : Type} (x y : List α) : List α := if x.isEmpty then y else x
theorem k_orL {F : KF (List T)} {y : List T} (h : KE m Γ a F) (h2 : KE m Γ b (fun U k => k y)) : KE m Γ (eOrs [a, b]) (fun U k => F U fun x => k (orL x y)) := ⟨fun δ f A B Φ k k' q => by
  show Sim Φ (((a δ).bind fun x => (truD x).bind fun t => if t then .ok x else b δ).bind k) _
  rw [bind_assoc]
  refine h.go δ f A B Φ _ _ fun x => ?_
  cases x with
  | nil => exact h2.go δ f A B Φ k _ fun z => q z
  | cons x xs => exact q (x :: xs)⟩
/-- a chain whose last side may fail -/
theorem kt_ch2M {op op2 : CmpOp} {g : T → V → Bool} {g2 : V → W → Bool} {Fa : KF T} {y : V} {Fc : KF W} (o : Tp2 (cmpD op) fun x y => .ok (g x y)) (o2 : Tp2 (cmpD op2) fun x y => .ok (g2 x y)) (ha : KE m Γ a Fa) (hb : KE m Γ b (fun U k => k y)) (hc : KE m Γ c Fc) :
    KT m Γ (tCmp a [(op, b), (op2, c)]) (fun U k => Fa U fun x => (if g x y then Fc Bool fun z => .ok (g2 y z) else .ok false).bind k) := ⟨fun δ f A B Φ k k' q => by
  unfold tCmp
  rw [bind_assoc]
  refine ha.go δ f A B Φ _ _ fun x => ?_
  show Sim Φ (((b δ).bind fun y => (cmpD op (enc x) y).bind fun t => if t then (c δ).bind fun z => cmpD op2 y z else .ok false).bind k) _
  rw [bind_assoc]
  refine hb.go δ f A B Φ _ (fun y => (if g x y then Fc Bool fun z => .ok (g2 y z) else .ok false).bind k') fun y => ?_
  rw [bind_assoc]
  refine (o x y).bind (k' := fun t => (if t then Fc Bool fun z => .ok (g2 y z) else .ok false).bind k') fun p s e => ?_
  subst e
  cases p with
  | false => exact q false
  | true =>
    show Sim Φ (((c δ).bind fun z => cmpD op2 (enc y) z).bind k) ((Fc Bool fun z => .ok (g2 y z)).bind k')
    refine Sim.bind (Φ := fun p q => p = q) (hc.go δ f Bool Bool _ _ _ fun z => o2 y z) fun p s e => ?_
    subst e
    exact q p⟩
/-! lists that are unpacked -/
def twoR {α : Type} : List α → R (α × α)
  | [x, y] => .ok (x, y)
  | _ => .bad
def three {α : Type} : List α → R (T3 α α α)
  | [x, y, z] => .ok ⟨x, y, z⟩
  | _ => .bad
theorem sj_asg2 {i j : Nat} {F : KF (List T)} {k : T × T → R U} (he : KE m Γ e F) (hi : decide (i < m) = true) (hj : decide (j < m) = true) (hr : ∀ p : T × T, SJ m ((j, some (enc p.2)) :: (i, some (enc p.1)) :: Γ) ss Θ (k p)) :
    SJ m Γ (sAsg (gTp [gNm i, gNm j]) e :: ss) Θ (F U fun xs => (twoR xs).bind k) := ⟨fun δ f => by
  rw [seq_cons]
  unfold sAsg
  rw [andThen_ofR]
  refine So.ofR he f fun xs => ?_
  match xs with
  | [] => exact trivial
  | [_] => exact trivial
  | [x, y] => exact (hr (x, y)).go _ ((f.put hi _).put hj _)
  | _ :: _ :: _ :: _ => exact trivial⟩
theorem sj_asg3 {i j l : Nat} {F : KF (List T)} {k : T3 T T T → R U} (he : KE m Γ e F) (hi : decide (i < m) = true) (hj : decide (j < m) = true) (hl : decide (l < m) = true) (hr : ∀ p : T3 T T T, SJ m ((l, some (enc p.c)) :: (j, some (enc p.b)) :: (i, some (enc p.a)) :: Γ) ss Θ (k p)) :
    SJ m Γ (sAsg (gTp [gNm i, gNm j, gNm l]) e :: ss) Θ (F U fun xs => (three xs).bind k) := ⟨fun δ f => by
  rw [seq_cons]
  unfold sAsg
  rw [andThen_ofR]
  refine So.ofR he f fun xs => ?_
  match xs with
  | [] => exact trivial
  | [_] => exact trivial
  | [_, _] => exact trivial
  | [x, y, z] => exact (hr ⟨x, y, z⟩).go _ (((f.put hi _).put hj _).put hl _)
  | _ :: _ :: _ :: _ :: _ => exact trivial⟩
def ckA {α : Type} (xs : List α) : R Unit := if xs.length < lim then .ok () else .bad
theorem sj_apd {F : KF (List T)} {F2 : KF V} {k : R U} (ho : KE m Γ a F) (he : KE m Γ e F2) (hr : SJ m Γ ss Θ k) : SJ m Γ (sAppE a e :: ss) Θ (F U fun xs => F2 U fun x => (ckA xs).bind fun _ => k) := ⟨fun δ f => by
  rw [seq_cons]
  unfold sAppE
  rw [andThen_ofR]
  refine So.ofR ho f fun xs => ?_
  rw [andThen_ofR]
  refine So.ofR he f fun x => ?_
  show So Θ (andThen (if (xs.map enc).length < lim then Out.nx δ else .bad) (sSeq ss)) _
  unfold ckA
  rw [List.length_map]
  split
  · exact hr.go δ f
  · exact trivial⟩
/-! data of any type -/
instance : Enc D := ⟨fun d => d⟩
theorem k_dyn {F : KF T} (h : KE m Γ e F) : KE (T := D) m Γ e (fun U k => F U fun x => k (enc x)) := ⟨fun δ f A B Φ k k' q => h.go δ f A B Φ k _ fun x => q (enc x)⟩
/-- a comparison of data of any types -/
def cmpR {α β : Type} [Enc α] [Enc β] (op : CmpOp) (x : α) (y : β) : R Bool := cmpD op (enc x) (enc y)
theorem sim_self {α : Type} (r : R α) : Sim (fun p q => p = q) r r := by
  cases r with
  | ok a => exact .ok rfl
  | err c i => exact rfl
  | bad => exact trivial
theorem t_R (op : CmpOp) : Tp2 (T := T) (V := V) (cmpD op) (cmpR op) := fun x y => sim_self _
theorem k_isD {F : KF D} (h : KE m Γ a F) : KE m Γ (eIsL a) (fun U k => F U fun d => k (isLst d)) := ⟨fun δ f A B Φ k k' q => by
  unfold eIsL
  rw [bind_assoc]
  exact h.go δ f A B Φ _ _ fun x => q (isLst x)⟩
def appD {α : Type} [Enc α] (d : D) (x : α) : R D := match d with
  | .list xs => if xs.length < lim then .ok (.list (xs ++ [enc x])) else .bad
  | _ => .bad
theorem sj_appD {i : Nat} {y : D} {F : KF T} {k : D → R U} (he : KE m Γ e F) (hx : Γ.lookup i = some (some (enc y))) (hi : decide (i < m) = true) (hr : ∀ y : D, SJ m ((i, some (enc y)) :: Γ) ss Θ (k y)) : SJ m Γ (sApp i e :: ss) Θ (F U fun x => (appD y x).bind k) := ⟨fun δ f => by
  rw [seq_cons]
  unfold sApp
  rw [andThen_ofR]
  refine So.ofR he f fun x => ?_
  rw [f.at_ _ _ hx]
  cases y with
  | list xs =>
    show So Θ (andThen (if xs.length < lim then Out.nx (δ.set i (some (.list (xs ++ [enc x])))) else .bad) (sSeq ss)) _
    show So Θ _ ((if xs.length < lim then R.ok (PyData.list (xs ++ [enc x])) else .bad).bind k)
    by_cases h : xs.length < lim
    · rw [if_pos h, if_pos h]
      exact (hr _).go _ (f.put hi _)
    · rw [if_neg h, if_neg h]
      exact trivial
  | _ => exact trivial⟩
/-! displays with stars -/
inductive KS (m : Nat) (Γ : G) : List (Bool × DE) → KF (List T) → Prop
  | nil : KS m Γ [] (fun U k => k [])
  | one {e : DE} {es : List (Bool × DE)} {F : KF T} {Fs : KF (List T)} : KE m Γ e F → KS m Γ es Fs → KS m Γ ((false, e) :: es) (fun U k => F U fun x => Fs U fun xs => k ([x] ++ xs))
  | star {e : DE} {es : List (Bool × DE)} {F : KF (List T)} {Fs : KF (List T)} : KE m Γ e F → KS m Γ es Fs → KS m Γ ((true, e) :: es) (fun U k => F U fun ys => Fs U fun xs => k (ys ++ xs))
  | starT {e : DE} {es : List (Bool × DE)} {F : KF (Tup T)} {Fs : KF (List T)} : KE m Γ e F → KS m Γ es Fs → KS m Γ ((true, e) :: es) (fun U k => F U fun ys => Fs U fun xs => k (ys.l ++ xs))
theorem KS.go {es : List (Bool × DE)} {Fs : KF (List T)} (h : KS m Γ es Fs) : ∀ δ, Ft m Γ δ → ∀ (A B : Type) (Φ : A → B → Prop) (k : List D → R A) (k' : List T → R B), (∀ xs : List T, Sim Φ (k (xs.map enc)) (k' xs)) → Sim Φ ((evsS es δ).bind k) (Fs B k') := by
  induction h with
  | nil => exact fun δ f A B Φ k k' q => q []
  | one h t ih =>
    intro δ f A B Φ k k' q
    unfold evsS
    rw [bind_assoc]
    refine h.go δ f A B Φ _ _ fun x => ?_
    rw [bind_assoc]
    exact ih δ f A B Φ _ _ fun xs => q (x :: xs)
  | star h t ih =>
    intro δ f A B Φ k k' q
    unfold evsS
    rw [bind_assoc]
    refine h.go δ f A B Φ _ _ fun ys => ?_
    show Sim Φ (((evsS _ δ).bind fun xs => R.ok (ys.map enc ++ xs)).bind k) _
    rw [bind_assoc]
    refine ih δ f A B Φ _ _ fun xs => ?_
    have := q (ys ++ xs)
    rw [List.map_append] at this
    exact this
  | starT h t ih =>
    intro δ f A B Φ k k' q
    unfold evsS
    rw [bind_assoc]
    refine h.go δ f A B Φ _ _ fun ys => ?_
    show Sim Φ (((evsS _ δ).bind fun xs => R.ok (ys.l.map enc ++ xs)).bind k) _
    rw [bind_assoc]
    refine ih δ f A B Φ _ _ fun xs => ?_
    have := q (ys.l ++ xs)
    rw [List.map_append] at this
    exact this
theorem k_lstS {es : List (Bool × DE)} {Fs : KF (List T)} (h : KS m Γ es Fs) : KE m Γ (eLstS es) (fun U k => Fs U fun xs => (ck xs).bind k) := ⟨fun δ f A B Φ k k' q => by
  unfold eLstS
  rw [bind_assoc]
  refine h.go δ f A B Φ _ _ fun xs => ?_
  unfold ck
  rw [List.length_map]
  split
  · exact q xs
  · exact trivial⟩
theorem k_tupS {es : List (Bool × DE)} {Fs : KF (List T)} (h : KS m Γ es Fs) : KE (T := Tup T) m Γ (eTupS es) (fun U k => Fs U fun xs => (ckT ⟨xs⟩).bind k) := ⟨fun δ f A B Φ k k' q => by
  unfold eTupS
  rw [bind_assoc]
  refine h.go δ f A B Φ _ _ fun xs => ?_
  unfold ckT
  rw [List.length_map]
  split
  · exact q ⟨xs⟩
  · exact trivial⟩
theorem ki_enumT {F : KF (Tup T)} (h : KE m Γ e F) : KI (T := Int × T) m Γ (iEnum e) (fun U k => F U fun xs => k (enumF 0 xs.l)) := ⟨fun δ f A B Φ k k' q => by
  unfold iEnum
  rw [bind_assoc]
  refine h.go δ f A B Φ _ _ fun xs => ?_
  show Sim Φ (k (enumL 0 (xs.l.map enc))) _
  rw [enum_map]
  exact q _⟩
end Tv
/-! Tv4: plain laws of the typed readings: what holds after, loops, texts, order. -/
namespace Tv
open PySem Dv
open Enc (enc)
variable {A B S T U V : Type}

/-! ### what holds after -/
def Wp (r : R A) (P : A → Prop) : Prop := ∃ x, r = .ok x ∧ P x
theorem wp_ok {x : A} {P : A → Prop} (h : P x) : Wp (.ok x) P := ⟨x, rfl, h⟩
theorem wp_bind {r : R A} {f : A → R B} {P : A → Prop} {Q : B → Prop} (h : Wp r P) (hf : ∀ x, P x → Wp (f x) Q) : Wp (r.bind f) Q := by
  obtain ⟨x, rfl, hx⟩ := h
  exact hf x hx
theorem wp_is {r : R A} {f : A → R B} {x : A} {Q : B → Prop} (h : r = .ok x) (hf : Wp (f x) Q) : Wp (r.bind f) Q := by
  subst h; exact hf
theorem Wp.mono {r : R A} {P Q : A → Prop} (h : Wp r P) (hq : ∀ x, P x → Q x) : Wp r Q := by
  obtain ⟨x, e, hx⟩ := h
  exact ⟨x, e, hq x hx⟩
theorem wp_eq {r : R A} {x : A} (h : Wp r fun y => y = x) : r = .ok x := by
  obtain ⟨y, e, rfl⟩ := h
  exact e
theorem eq_wp {r : R A} {x : A} (h : r = .ok x) : Wp r fun y => y = x := ⟨x, h, rfl⟩
theorem wp_if {c : Bool} {r s : R A} {Q : A → Prop} (h1 : c = true → Wp r Q) (h2 : c = false → Wp s Q) : Wp (if c then r else s) Q := by
  cases c with
  | true => exact h1 rfl
  | false => exact h2 rfl
theorem wp_dif {c : Prop} [Decidable c] {r s : R A} {Q : A → Prop} (h1 : c → Wp r Q) (h2 : ¬ c → Wp s Q) : Wp (if decide c then r else s) Q :=
  wp_if (fun h => h1 (of_decide_eq_true h)) fun h => h2 (of_decide_eq_false h)
theorem wp_no {c : Bool} {r s : R A} {Q : A → Prop} (h : c = false) (h2 : Wp s Q) : Wp (if c then r else s) Q := by subst h; exact h2
theorem wp_yes {c : Bool} {r s : R A} {Q : A → Prop} (h : c = true) (h2 : Wp r Q) : Wp (if c then r else s) Q := by subst h; exact h2
theorem wp_all {r : R A} {P : A → Prop} (h : Wp r P) : ∃ x, r = .ok x ∧ P x := h

/-! ### loops -/
theorem wp_fold {b : S → A → R S} (I : S → Prop) : ∀ (xs : List A) (s : S), I s → (∀ s x, x ∈ xs → I s → Wp (b s x) I) → Wp (foldR b s xs) I
  | [], s, h, _ => wp_ok h
  | x :: xs, s, h, hb => wp_bind (hb s x (.head _) h) fun s' h' => wp_fold I xs s' h' fun s y hy => hb s y (.tail _ hy)
/-- with what has been walked -/
theorem wp_foldI {b : S → A → R S} (I : List A → S → Prop) {all : List A} (hb : ∀ pre x post s, all = pre ++ x :: post → I pre s → Wp (b s x) (I (pre ++ [x]))) : ∀ (xs pre : List A) (s : S), all = pre ++ xs → I pre s → Wp (foldR b s xs) (I all)
  | [], pre, s, e, h => by rw [List.append_nil] at e; subst e; exact wp_ok h
  | x :: xs, pre, s, e, h => wp_bind (hb pre x xs s e h) fun s' h' => wp_foldI I hb xs (pre ++ [x]) s' (by rw [e, List.append_assoc]; rfl) h'
theorem fold_pure {b : S → A → R S} (f : S → A → S) : ∀ (xs : List A) (s : S), (∀ s x, x ∈ xs → b s x = .ok (f s x)) → foldR b s xs = .ok (xs.foldl f s)
  | [], s, _ => rfl
  | x :: xs, s, h => by
    unfold foldR
    rw [h s x (.head _), R.bind_ok]
    exact fold_pure f xs (f s x) fun s y hy => h s y (.tail _ hy)
theorem wp_for {b : S → A → R (Fl S T)} (I : S → Prop) : ∀ (xs : List A) (s : S), I s → (∀ s x, x ∈ xs → I s → Wp (b s x) fun o => ∃ s', o = .nx s' ∧ I s') → Wp (forR b s xs) fun o => ∃ s', o = .nx s' ∧ I s'
  | [], s, h, _ => wp_ok ⟨s, rfl, h⟩
  | x :: xs, s, h, hb => by
    obtain ⟨_, e, s', rfl, h'⟩ := hb s x (.head _) h
    unfold forR
    rw [e, R.bind_ok]
    exact wp_for I xs s' h' fun s y hy => hb s y (.tail _ hy)
theorem wp_then {o : R (Fl S T)} {k : S → R U} {r : T → R U} {I : S → Prop} {Q : U → Prop} (h : Wp o fun o => ∃ s', o = .nx s' ∧ I s') (hk : ∀ s, I s → Wp (k s) Q) : Wp (thenR o k r) Q := by
  obtain ⟨_, rfl, s', rfl, h⟩ := h
  exact hk s' h
/-- a loop over checks that ends -/
theorem wp_forU {b : Unit → A → R (Fl Unit T)} {xs : List A} {k : Unit → R U} {r : T → R U} {Q : U → Prop} (hb : ∀ x ∈ xs, b () x = .ok (.nx ())) (hk : Wp (k ()) Q) : Wp (thenR (forR b () xs) k r) Q := by
  refine wp_then (I := fun _ => True) (wp_for (fun _ => True) xs () trivial fun s x hx _ => ?_) fun s _ => hk
  exact ⟨_, hb x hx, (), rfl, trivial⟩
theorem wp_map {f : A → R B} {P : B → Prop} : ∀ {xs : List A}, (∀ x ∈ xs, Wp (f x) P) → Wp (mapR f xs) fun ys => ys.length = xs.length ∧ ∀ y ∈ ys, P y
  | [], _ => wp_ok ⟨rfl, fun y h => by cases h⟩
  | x :: xs, h => wp_bind (h x (.head _)) fun y hy => wp_bind (wp_map (xs := xs) fun z hz => h z (.tail _ hz)) fun ys hys => wp_ok ⟨by rw [List.length_cons, List.length_cons, hys.1], fun z hz => by
    rcases List.mem_cons.mp hz with rfl | hz
    · exact hy
    · exact hys.2 z hz⟩
theorem map_ok {f : A → R B} (g : A → B) : ∀ {xs : List A}, (∀ x ∈ xs, f x = .ok (g x)) → mapR f xs = .ok (xs.map g)
  | [], _ => rfl
  | x :: xs, h => by
    unfold mapR
    rw [h x (.head _), R.bind_ok, map_ok g fun y hy => h y (.tail _ hy)]
    rfl
theorem lc_ok {p : A → R Bool} {f : A → R B} (q : A → Bool) (g : A → B) : ∀ {xs : List A}, (∀ x ∈ xs, p x = .ok (q x)) → (∀ x ∈ xs, q x = true → f x = .ok (g x)) → lcR p f xs = .ok ((xs.filter q).map g)
  | [], _, _ => rfl
  | x :: xs, h, h2 => by
    unfold lcR
    rw [h x (.head _), R.bind_ok, lc_ok q g (fun y hy => h y (.tail _ hy)) fun y hy => h2 y (.tail _ hy)]
    cases e : q x with
    | true =>
      rw [List.filter_cons_of_pos e, if_pos rfl, h2 x (.head _) e]
      rfl
    | false =>
      rw [List.filter_cons_of_neg (by rw [e]; exact Bool.false_ne_true), if_neg Bool.false_ne_true]

/-! ### bounds that hold -/
theorem ck_ok {xs : List A} (h : xs.length ≤ 1000000) : ck xs = .ok xs := if_pos h
theorem ckS_ok {s : Str} (h : s.length ≤ 1000000) : ckS s = .ok s := if_pos h
theorem ckA_ok {xs : List A} (h : xs.length < 1000000) : ckA xs = .ok () := if_pos h
theorem rng_ok {lo hi : Int} (h1 : -1073741824 ≤ lo) (h2 : lo < 1073741824) (h3 : -1073741824 ≤ hi) (h4 : hi < 1073741824) : rng lo hi = .ok (zr lo hi) := by
  unfold rng
  rw [show big lo = true from decide_eq_true ⟨by omega, by omega⟩, show big hi = true from decide_eq_true ⟨by omega, by omega⟩]
  rfl
theorem zr_len (lo hi : Int) : (zr lo hi).length = (hi - lo).toNat := by unfold zr; rw [List.length_map, List.length_range]
theorem zr_mem {lo hi i : Int} : i ∈ zr lo hi ↔ lo ≤ i ∧ i < hi := by
  unfold zr
  rw [List.mem_map]
  constructor
  · rintro ⟨k, hk, rfl⟩
    have := List.mem_range.mp hk
    omega
  · intro h
    exact ⟨(i - lo).toNat, List.mem_range.mpr (by omega), by omega⟩
theorem wp_idx {xs : List A} {i : Int} (h0 : 0 ≤ i) (h1 : i < xs.length) : Wp (idx xs i) fun x => x ∈ xs ∧ xs[i.toNat]? = some x := by
  have hk : i.toNat < xs.length := by omega
  refine ⟨xs[i.toNat], ?_, List.getElem_mem hk, List.getElem?_eq_getElem hk⟩
  unfold idx atZ ixZ
  rw [if_pos h0, if_pos h1]
  show oR (xs[i.toNat]?) = _
  rw [List.getElem?_eq_getElem hk]
  rfl
theorem wp_idxS {s : Str} {i : Int} (h0 : 0 ≤ i) (h1 : i < s.length) : Wp (idxS s i) fun x => ∃ c ∈ s.cps.toList, x = sgn c := by
  have hk : i.toNat < s.cps.toList.length := by have : s.length = s.cps.toList.length := rfl; omega
  have h1 : i < s.cps.toList.length := h1
  refine ⟨sgn s.cps.toList[i.toNat], ?_, _, List.getElem_mem hk, rfl⟩
  unfold idxS atZ ixZ
  rw [if_pos h0, if_pos h1]
  show oR ((s.cps.toList[i.toNat]?).map sgn) = _
  rw [List.getElem?_eq_getElem hk]
  rfl
theorem modR_ok {x y : Int} (h : 0 < y) : modR x y = .ok (x % y) := if_pos h
theorem powR_ok {x y : Int} (h : 0 ≤ y) (h2 : y ≤ 1000) (h3 : x.natAbs < 2 ^ 64) : powR x y = .ok (x ^ y.toNat) := if_pos ⟨h, h2, h3⟩

/-! ### texts of data -/
theorem strOk_iff {s : Str} : PyData.strOk s = true ↔ ∀ c ∈ s.cps.toList, c < 0x110000 := by
  unfold PyData.strOk
  rw [← Array.all_toList, List.all_eq_true]
  exact ⟨fun h c hc => of_decide_eq_true (h c hc), fun h c hc => decide_eq_true (h c hc)⟩
theorem char_small (ch : Char) : ch.toNat < 0x110000 := by
  have h1 := ch.valid
  have e : ch.toNat = ch.val.toNat := rfl
  unfold UInt32.isValidChar Nat.isValidChar at h1
  omega
theorem hex_small (w c : Nat) : ∀ n ∈ List.replicate (w - ((Nat.toDigits 16 c).map Char.toNat).length) 48 ++ (Nat.toDigits 16 c).map Char.toNat, n < 0x110000 := by
  intro n hn
  rcases List.mem_append.mp hn with hn | hn
  · have := (List.mem_replicate.mp hn).2
    omega
  · obtain ⟨ch, _, rfl⟩ := List.mem_map.mp hn
    exact char_small ch
theorem reprChar_small (q c : Nat) (hc : c < 0x110000) : ∀ n ∈ PySem.Builtin.Str.reprChar q c, n < 0x110000 := by
  unfold PySem.Builtin.Str.reprChar
  dsimp only
  have h2 := hex_small 2 c
  have h4 := hex_small 4 c
  have h8 := hex_small 8 c
  intro n hn
  split at hn
  · simp only [List.mem_cons, List.not_mem_nil, or_false] at hn; omega
  split at hn
  · simp only [List.mem_cons, List.not_mem_nil, or_false] at hn; omega
  split at hn
  · simp only [List.mem_cons, List.not_mem_nil, or_false] at hn; omega
  split at hn
  · simp only [List.mem_cons, List.not_mem_nil, or_false] at hn; omega
  split at hn
  · simp only [List.mem_cons, List.not_mem_nil, or_false] at hn; omega
  split at hn
  · rcases List.mem_append.mp hn with hn | hn
    · simp only [List.mem_cons, List.not_mem_nil, or_false] at hn; omega
    · exact h2 n hn
  split at hn
  · rcases List.mem_append.mp hn with hn | hn
    · simp only [List.mem_cons, List.not_mem_nil, or_false] at hn; omega
    · exact h4 n hn
  · rcases List.mem_append.mp hn with hn | hn
    · simp only [List.mem_cons, List.not_mem_nil, or_false] at hn; omega
    · exact h8 n hn
theorem strOk_repr {x : Str} (h : PyData.strOk x = true) : PyData.strOk (reprText x) = true := by
  have hx := strOk_iff.mp h
  have hq : reprQuote x < 0x110000 := by unfold reprQuote; split <;> omega
  have fold : ∀ (l : List Nat) (acc : Array Nat), (∀ c ∈ l, c < 0x110000) → (∀ c ∈ acc.toList, c < 0x110000) → ∀ c ∈ (l.foldl (fun out c => out ++ (PySem.Builtin.Str.reprChar (reprQuote x) c).toArray) acc).toList, c < 0x110000 := by
    intro l
    induction l with
    | nil => intro acc _ h; exact h
    | cons c l ih =>
      intro acc hl ha
      refine ih _ (fun d hd => hl d (.tail _ hd)) fun d hd => ?_
      rw [Array.toList_append] at hd
      rcases List.mem_append.mp hd with hd | hd
      · exact ha d hd
      · exact reprChar_small _ c (hl c (.head _)) d hd
  refine strOk_iff.mpr fun c hc => ?_
  unfold reprText at hc
  rw [Array.toList_push, ← Array.foldl_toList] at hc
  rcases List.mem_append.mp hc with hc | hc
  · exact fold _ _ hx (fun d hd => by cases List.mem_singleton.mp hd; exact hq) c hc
  · cases List.mem_singleton.mp hc
    exact hq
mutual
/-- data without dicts, numbers small, signs real -/
def okd : D → Bool
  | .none => true
  | .bool _ => true
  | .int i => decide (i.natAbs < 10 ^ 12)
  | .str s => PyData.strOk s
  | .list xs => okds xs
  | .tuple xs => okds xs
  | .dict _ => false
def okds : List D → Bool
  | [] => true
  | x :: xs => okd x && okds xs
end
mutual
theorem okd_shown : ∀ d : D, okd d = true → d.showable = true ∧ d.leavesShort 13 = true ∧ PyData.strOk d.shown = true
  | .none, _ => ⟨rfl, rfl, strOk_lit _⟩
  | .bool b, _ => ⟨rfl, rfl, by cases b <;> exact strOk_lit _⟩
  | .int i, h => by
    have h := of_decide_eq_true h
    have e := int_text_length_le10 (k := 12) (by decide) h
    refine ⟨decide_eq_true (log_small h), decide_eq_true ?_, strOk_lit _⟩
    show (Str.ofString (toString i)).length ≤ 13
    rw [PySem.ofString_length]
    exact e
  | .str x, h => by
    have h : PyData.strOk x = true := h
    refine ⟨rfl, ?_, strOk_repr h⟩
    show (x.cps.toList.all fun c => decide (c < 16 ^ 8)) = true
    refine List.all_eq_true.mpr fun c hc => decide_eq_true ?_
    have := strOk_iff.mp h c hc
    omega
  | .list xs, h => by
    obtain ⟨h1, h2, h3⟩ := okds_shown xs h
    exact ⟨h1, h2, strOk_app (strOk_from _ _ _ (strOk_lit _) h3) (strOk_lit _)⟩
  | .tuple xs, h => by
    obtain ⟨h1, h2, h3⟩ := okds_shown xs h
    refine ⟨h1, h2, strOk_app (strOk_app (strOk_lit _) (strOk_join _ (strOk_lit _) _ h3)) (strOk_lit _)⟩
  | .dict _, h => by cases h
theorem okds_shown : ∀ xs : List D, okds xs = true → PyData.showableAll xs = true ∧ PyData.leavesShortAll 13 xs = true ∧ ∀ t ∈ PyData.shownAll xs, PyData.strOk t = true
  | [], _ => ⟨rfl, rfl, fun t h => by cases h⟩
  | x :: xs, h => by
    have h : (okd x && okds xs) = true := h
    obtain ⟨h1, h2⟩ := and2 h
    obtain ⟨a1, a2, a3⟩ := okd_shown x h1
    obtain ⟨b1, b2, b3⟩ := okds_shown xs h2
    refine ⟨?_, ?_, fun t ht => ?_⟩
    · show (x.showable && PyData.showableAll xs) = true
      rw [a1, b1]; rfl
    · show (x.leavesShort 13 && PyData.leavesShortAll 13 xs) = true
      rw [a2, b2]; rfl
    · rcases List.mem_cons.mp ht with rfl | ht
      · exact a3
      · exact b3 t ht
end
theorem okds_map [Enc A] : ∀ {xs : List A}, (∀ x ∈ xs, okd (enc x) = true) → okds (xs.map enc) = true
  | [], _ => rfl
  | x :: xs, h => by
    show (okd (enc x) && okds (xs.map enc)) = true
    rw [h x (.head _), okds_map fun y hy => h y (.tail _ hy)]
    rfl
theorem okd_list [Enc A] {xs : List A} (h : ∀ x ∈ xs, okd (enc x) = true) : okd (enc xs) = true := okds_map h
theorem okd_tup [Enc A] {xs : List A} (h : ∀ x ∈ xs, okd (enc x) = true) : okd (enc (⟨xs⟩ : Tup A)) = true := okds_map h
theorem okd_int {i : Int} (h : i.natAbs < 10 ^ 12) : okd (enc i) = true := decide_eq_true h
theorem bulk_map [Enc A] {b : Nat} : ∀ {xs : List A}, (∀ x ∈ xs, PyData.bulk (enc x) ≤ b) → PyData.bulkAll (xs.map enc) ≤ xs.length * (b + 1)
  | [], _ => Nat.zero_le _
  | x :: xs, h => by
    show PyData.bulk (enc x) + 1 + PyData.bulkAll (xs.map enc) ≤ (xs.length + 1) * (b + 1)
    have h1 := h x (.head _)
    have h2 := bulk_map (xs := xs) fun y hy => h y (.tail _ hy)
    rw [Nat.add_mul]
    omega
theorem bulk_list [Enc A] {b : Nat} {xs : List A} (h : ∀ x ∈ xs, PyData.bulk (enc x) ≤ b) : PyData.bulk (enc xs) ≤ xs.length * (b + 1) := bulk_map h
theorem repr_ok [Enc A] {x : A} (hf : fl deep (enc x) = true) (h : okd (enc x) = true) (h3 : (enc x).bulk ≤ 600000) : reprT x = .ok (PyData.shown (enc x)) := by
  obtain ⟨a1, a2, a3⟩ := okd_shown _ h
  have h4 := PyData.shown_le_bulk 13 (by decide) _ a2
  unfold reprT reprOk
  rw [hf, a1, a3, decide_eq_true (show (PyData.shown (enc x)).length ≤ 10000000 by omega)]
  rfl
/-- two texts of the same -/
theorem repr_same [Enc A] {x : A} {f : Str → Str → R B} {Q : B → Prop} (hf : fl deep (enc x) = true) (h : okd (enc x) = true) (h3 : (enc x).bulk ≤ 600000) (hq : ∀ s, Wp (f s s) Q) : Wp ((reprT x).bind fun a => (reprT x).bind fun b => f a b) Q := by
  rw [repr_ok hf h h3]
  exact hq _
/-- a text that is there -/
theorem wp_repr [Enc A] {x : A} {f : Str → R B} {Q : B → Prop} (hf : fl deep (enc x) = true) (h : okd (enc x) = true) (h3 : (enc x).bulk ≤ 600000) (hq : Wp (f (PyData.shown (enc x))) Q) : Wp ((reprT x).bind f) Q := by
  rw [repr_ok hf h h3]
  exact hq
theorem join_eq (s : Str) (xs : List Str) : Txt.join s xs = Str.join s xs := StrLaws.glued_eq_join s xs
theorem joinR_ok {s : Str} {xs : List Str} (hs : PyData.strOk s = true) (h : ∀ x ∈ xs, PyData.strOk x = true) (hl : (xs.map (·.length)).sum + xs.length * s.length ≤ 12000000) : joinR s xs = .ok (Str.join s xs) := by
  unfold joinR joinOk
  rw [join_eq, decide_eq_true hl, strOk_join s hs xs h, decide_eq_true (show (Str.join s xs).length ≤ 12000000 from Nat.le_trans (StrLaws.join_length_le s xs) (by rw [Nat.add_comm] at hl; omega))]
  rfl
theorem sum_le {b : Nat} : ∀ {xs : List Str}, (∀ x ∈ xs, x.length ≤ b) → (xs.map (·.length)).sum ≤ xs.length * b
  | [], _ => Nat.zero_le _
  | x :: xs, h => by
    have h1 := h x (.head _)
    have h2 := sum_le (xs := xs) fun y hy => h y (.tail _ hy)
    rw [List.map_cons, List.sum_cons, List.length_cons, Nat.add_mul]
    omega

/-! ### order -/
variable [Enc T]
theorem lt_irrefl (x : T) : ltT x x = false := PyProof.Rows.lex_irrefl _
theorem lt_trans {x y z : T} (h1 : ltT x y = true) (h2 : ltT y z = true) : ltT x z = true := PyProof.Rows.lex_trans _ _ _ h1 h2
theorem lt_neg {x y z : T} (h : ltT x z = true) : ltT x y = true ∨ ltT y z = true := PyProof.Rows.lex_negTrans _ _ _ h
theorem lt_total [DecidableEq T] [h : EqE T] [o : OrdE T] {x y : T} (h1 : ltT x y = false) (h2 : ltT y x = false) : x = y := by
  have e : PySem.W.keyToks (enc x) = PySem.W.keyToks (enc y) := PyProof.Rows.lex_total _ _ h1 h2
  have t := PySem.W.toks_eqv (enc x) (enc y) (o.alike x y)
  rw [h.eqv] at t
  by_cases q : x = y
  · exact q
  · exfalso
    have t := t.2 (decide_eq_false q) [.inl 0] [.inl 1]
    rw [e, PySem.W.lex_pre, PyProof.Rows.lex_irrefl] at t
    rw [PySem.W.lex_one] at t
    cases t
theorem lt_asym {x y : T} (h : ltT x y = true) : ltT y x = false := by
  cases e : ltT y x with
  | false => rfl
  | true => exact absurd (lt_trans h e) (by rw [lt_irrefl]; exact Bool.false_ne_true)
theorem lt_int (x y : Int) : ltT x y = decide (x < y) := PySem.W.dataLt_int x y
theorem lt_str (x y : Str) : ltT x y = sLt x y := PySem.W.dataLt_str x y
theorem lt_pair {A B : Type} [Enc A] [Enc B] [DecidableEq A] [DecidableEq B] [EqE A] [EqE B] [OrdE A] [OrdE B] (a a' : A) (b b' : B) : ltT (a, b) (a', b') = (ltT a a' || (decide (a = a') && ltT b b')) := by
  show PySem.W.dataLt (.tuple [enc a, enc b]) (.tuple [enc a', enc b']) = _
  rw [PySem.W.dataLt_pair (OrdE.alike a a') (OrdE.alike b b'), EqE.eqv, EqE.eqv]
  by_cases h : a = a'
  · subst h
    rw [lt_irrefl]
    by_cases h2 : b = b'
    · subst h2
      simp [lt_irrefl]
    · simp [h2]; rfl
  · simp [h]; rfl
theorem sortT_perm (xs : List T) : (sortT xs).Perm xs := List.mergeSort_perm xs _
theorem sortT_sorted (xs : List T) : (sortT xs).Pairwise fun x y => ltT y x = false := by
  have := List.pairwise_mergeSort (le := fun x y : T => !ltT y x) (fun a b c h1 h2 => by
    simp only [Bool.not_eq_true'] at h1 h2 ⊢
    cases e : ltT c a with
    | false => rfl
    | true =>
      rcases lt_neg (y := b) e with q | q
      · rw [h2] at q; cases q
      · rw [h1] at q; cases q) (fun a b => by
    cases e : ltT b a with
    | false => rfl
    | true => rw [lt_asym e]; rfl) xs
  exact this.imp fun h => by simpa using h
theorem sortT_eq [DecidableEq T] [EqE T] [OrdE T] {a b : List T} (p : a.Perm b) (ha : a.Pairwise fun x y => ltT y x = false) (hb : b.Pairwise fun x y => ltT y x = false) : a = b :=
  p.eq_of_pairwise (fun x y _ _ h1 h2 => lt_total h2 h1) ha hb
/-! ### more texts -/
theorem app_list (x y : Str) : (x ++ y).cps.toList = x.cps.toList ++ y.cps.toList := by
  show (x.cps ++ y.cps).toList = _
  rw [Array.toList_append]
theorem join_flat : ∀ xs : List Str, (Str.join ("" : Str) xs).cps.toList = (xs.map fun x => x.cps.toList).flatten
  | [] => rfl
  | [x] => by show x.cps.toList = _; rw [List.map_cons, List.map_nil, List.flatten_cons, List.flatten_nil, List.append_nil]
  | x :: y :: r => by
    have ih := join_flat (y :: r)
    show ((x ++ ("" : Str)) ++ Str.join ("" : Str) (y :: r)).cps.toList = _
    rw [app_list, app_list, ih]
    show (x.cps.toList ++ []) ++ _ = x.cps.toList ++ _
    rw [List.append_nil]
theorem str_ext {x y : Str} (h : x.cps.toList = y.cps.toList) : x = y := by
  cases x; cases y
  congr 1
  exact Array.toList_inj.mp h
end Tv
/-! Tv5: comprehensions with two clauses. -/
namespace Tv
open PySem Dv
open Enc (enc)
variable {A B A' B' T V W C U S : Type} [Enc T] [Enc V] [Enc W] {m : Nat} {Γ : G} {δ : Dv.Env} {e : DE} {t t2 : DT} {it it2 : DI}
def lc2R {α β γ : Type} (p : α → R Bool) (i : α → R (List β)) (q : α → β → R Bool) (f : α → β → R γ) : List α → R (List γ)
  | [] => .ok []
  | x :: xs => (p x).bind fun b => if b then (i x).bind fun ys => (lcR (q x) (f x) ys).bind fun us => (lc2R p i q f xs).bind fun vs => .ok (us ++ vs) else lc2R p i q f xs
theorem lc2R_pure {α β γ : Type} (p : α → Bool) (i : α → List β) (q : α → β → Bool) (f : α → β → γ) : ∀ xs : List α, lc2R (fun x => .ok (p x)) (fun x => .ok (i x)) (fun x y => .ok (q x y)) (fun x y => .ok (f x y)) xs = .ok ((xs.filter p).flatMap fun x => ((i x).filter (q x)).map (f x))
  | [] => rfl
  | x :: xs => by
    unfold lc2R
    rw [R.bind_ok, lc2R_pure p i q f xs, R.bind_ok, lcR_pure]
    cases h : p x with
    | true => rw [List.filter_cons_of_pos h, List.flatMap_cons]; rfl
    | false => rw [List.filter_cons_of_neg (by rw [h]; simp)]; rfl
theorem fil_yes {α : Type} (xs : List α) : xs.filter (fun _ => true) = xs := List.filter_eq_self.mpr fun _ _ => rfl
theorem lc2_sim {own2 : List Nat} {g : TF} {Δ : T → G} {g2 : TF} {Δ2 : W → G} {Ft' : T → KF Bool} {Fi : T → KF (List W)} {Ft2 : T → W → KF Bool} {Fe : T → W → KF V} (hg : KG m g Δ) (ht : ∀ x, KT m (Δ x ++ Γ) t (Ft' x)) (hi : ∀ x, KI m (Δ x ++ Γ) it2 (Fi x)) (hg2 : KG m g2 Δ2)
    (ht2 : ∀ x y, KT m (Δ2 y ++ wG own2 (Δ x ++ Γ)) t2 (Ft2 x y)) (he : ∀ x y, KE m (Δ2 y ++ wG own2 (Δ x ++ Γ)) e (Fe x y)) (f : Ft m Γ δ) :
    ∀ xs : List T, Sim (fun ds (ys : List V) => ds = ys.map enc) (lcGo2 g t it2 own2 g2 t2 e δ (xs.map enc)) (lc2R (fun x => Ft' x Bool .ok) (fun x => Fi x (List W) .ok) (fun x y => Ft2 x y Bool .ok) (fun x y => Fe x y V .ok) xs)
  | [] => .ok rfl
  | x :: xs => by
    obtain ⟨δ', e1, f'⟩ := hg.go Γ δ x f
    show Sim _ ((g (enc x) δ).bind fun δ' => (t δ').bind fun b => if b then (it2 δ').bind fun ds2 => (lcGo g2 t2 e (wipeE δ' own2) ds2).bind fun ys => (lcGo2 g t it2 own2 g2 t2 e δ (xs.map enc)).bind fun zs => R.ok (ys ++ zs) else lcGo2 g t it2 own2 g2 t2 e δ (xs.map enc)) _
    rw [e1, R.bind_ok]
    unfold lc2R
    refine ((ht x).self f').bind fun b b' q => ?_
    subst q
    cases b with
    | true =>
      have hI : Sim (fun ds (ys : List W) => ds = ys.map enc) (it2 δ') (Fi x (List W) .ok) := by
        have := (hi x).go δ' f' (List D) (List W) (fun ds ys => ds = ys.map enc) .ok .ok fun ys => .ok rfl
        rwa [bind_ok_self] at this
      refine hI.bind fun ds2 ys q => ?_
      subst q
      refine (lc_sim hg2 (ht2 x) (he x) (f'.wipe own2) ys).bind fun us us' q => ?_
      subst q
      refine (lc2_sim hg ht hi hg2 ht2 he f xs).bind fun vs vs' q => ?_
      subst q
      exact .ok (List.map_append ..).symm
    | false => exact lc2_sim hg ht hi hg2 ht2 he f xs
variable {own own2 : List Nat} {g : TF} {Δ : T → G} {g2 : TF} {Δ2 : W → G} {F1 : KF (List T)}
theorem k_lc2M {Ft' : T → KF Bool} {Fi : T → KF (List W)} {Ft2 : T → W → KF Bool} {Fe : T → W → KF V} (h1 : KI m Γ it F1) (hg : KG m g Δ) (ht : ∀ x, KT m (Δ x ++ wG own Γ) t (Ft' x)) (hi : ∀ x, KI m (Δ x ++ wG own Γ) it2 (Fi x)) (hg2 : KG m g2 Δ2)
    (ht2 : ∀ x y, KT m (Δ2 y ++ wG own2 (Δ x ++ wG own Γ)) t2 (Ft2 x y)) (he : ∀ x y, KE m (Δ2 y ++ wG own2 (Δ x ++ wG own Γ)) e (Fe x y)) :
    KE m Γ (eLc2 own g it t it2 own2 g2 t2 e) (fun U k => F1 U fun xs => (lc2R (fun x => Ft' x Bool .ok) (fun x => Fi x (List W) .ok) (fun x y => Ft2 x y Bool .ok) (fun x y => Fe x y V .ok) xs).bind fun ys => (ck ys).bind k) := ⟨fun δ f A B Φ k k' q => by
  unfold eLc2
  rw [bind_assoc]
  refine h1.go δ f A B Φ _ _ fun xs => ?_
  rw [bind_assoc]
  refine (lc2_sim hg ht hi hg2 ht2 he (f.wipe own) xs).bind fun ds ys z => ?_
  subst z
  unfold ck
  rw [List.length_map]
  split
  · exact q ys
  · exact .bad⟩
/-- nothing may fail -/
theorem k_lc2 {p : T → Bool} {i : T → List W} {q : T → W → Bool} {h : T → W → V} (h1 : KI m Γ it F1) (hg : KG m g Δ) (ht : ∀ x, KT m (Δ x ++ wG own Γ) t (fun U k => k (p x))) (hi : ∀ x, KI m (Δ x ++ wG own Γ) it2 (fun U k => k (i x))) (hg2 : KG m g2 Δ2)
    (ht2 : ∀ x y, KT m (Δ2 y ++ wG own2 (Δ x ++ wG own Γ)) t2 (fun U k => k (q x y))) (he : ∀ x y, KE m (Δ2 y ++ wG own2 (Δ x ++ wG own Γ)) e (fun U k => k (h x y))) :
    KE m Γ (eLc2 own g it t it2 own2 g2 t2 e) (fun U k => F1 U fun xs => (ck ((xs.filter p).flatMap fun x => ((i x).filter (q x)).map (h x))).bind k) := ke_eq (k_lc2M h1 hg ht hi hg2 ht2 he) (by
  funext U k
  congr 1
  funext xs
  rw [lc2R_pure]
  rfl)
theorem k_lc2a {i : T → List W} {q : T → W → Bool} {h : T → W → V} (h1 : KI m Γ it F1) (hg : KG m g Δ) (hi : ∀ x, KI m (Δ x ++ wG own Γ) it2 (fun U k => k (i x))) (hg2 : KG m g2 Δ2)
    (ht2 : ∀ x y, KT m (Δ2 y ++ wG own2 (Δ x ++ wG own Γ)) t2 (fun U k => k (q x y))) (he : ∀ x y, KE m (Δ2 y ++ wG own2 (Δ x ++ wG own Γ)) e (fun U k => k (h x y))) :
    KE m Γ (eLc2 own g it tYes it2 own2 g2 t2 e) (fun U k => F1 U fun xs => (ck (xs.flatMap fun x => ((i x).filter (q x)).map (h x))).bind k) := ke_eq (k_lc2 h1 hg (fun _ => kt_yes) hi hg2 ht2 he) (by
  funext U k
  congr 1
  funext xs
  rw [fil_yes])
theorem k_lc2b {p : T → Bool} {i : T → List W} {h : T → W → V} (h1 : KI m Γ it F1) (hg : KG m g Δ) (ht : ∀ x, KT m (Δ x ++ wG own Γ) t (fun U k => k (p x))) (hi : ∀ x, KI m (Δ x ++ wG own Γ) it2 (fun U k => k (i x))) (hg2 : KG m g2 Δ2)
    (he : ∀ x y, KE m (Δ2 y ++ wG own2 (Δ x ++ wG own Γ)) e (fun U k => k (h x y))) :
    KE m Γ (eLc2 own g it t it2 own2 g2 tYes e) (fun U k => F1 U fun xs => (ck ((xs.filter p).flatMap fun x => (i x).map (h x))).bind k) := ke_eq (k_lc2 h1 hg ht hi hg2 (fun _ _ => kt_yes) he) (by
  funext U k
  congr 1
  funext xs
  simp only [fil_yes])
theorem k_lc2c {i : T → List W} {h : T → W → V} (h1 : KI m Γ it F1) (hg : KG m g Δ) (hi : ∀ x, KI m (Δ x ++ wG own Γ) it2 (fun U k => k (i x))) (hg2 : KG m g2 Δ2)
    (he : ∀ x y, KE m (Δ2 y ++ wG own2 (Δ x ++ wG own Γ)) e (fun U k => k (h x y))) :
    KE m Γ (eLc2 own g it tYes it2 own2 g2 tYes e) (fun U k => F1 U fun xs => (ck (xs.flatMap fun x => (i x).map (h x))).bind k) := ke_eq (k_lc2 h1 hg (fun _ => kt_yes) hi hg2 (fun _ _ => kt_yes) he) (by
  funext U k
  congr 1
  funext xs
  simp only [fil_yes])
end Tv
/-! Tv6: dicts. -/
namespace Tv
open PySem Dv
open Enc (enc)
structure Dct (α β : Type) where
  l : List (α × β)
deriving DecidableEq
variable {A B A' B' T V W C U S : Type} [Enc T] [Enc V] [Enc W] {m : Nat} {Γ : G} {δ : Dv.Env} {e a b c o : DE} {t t2 : DT} {it it2 : DI} {ss : List DS}
/-- a dict's rows as data -/
abbrev rows (l : List (T × V)) : List (D × D) := l.map fun p => (enc p.1, enc p.2)
instance {α β : Type} [Enc α] [Enc β] : Enc (Dct α β) := ⟨fun d => .dict (d.l.map fun p => (enc p.1, enc p.2))⟩
/-- what may be a key -/
class KeyE (α : Type) [Enc α] [DecidableEq α] : Prop where
  isk : ∀ a : α, isK (enc a) = true
  keq : ∀ a b : α, Dv.keq (enc a) (enc b) = decide (a = b)
instance : KeyE Int := ⟨fun _ => rfl, fun _ _ => rfl⟩
instance : KeyE Str := ⟨fun _ => rfl, fun _ _ => rfl⟩
namespace Dct
variable {α β : Type} [DecidableEq α]
def get (d : Dct α β) (k : α) : Option β := (d.l.find? fun p => decide (p.1 = k)).map (·.2)
def has (d : Dct α β) (k : α) : Bool := d.l.any fun p => decide (p.1 = k)
def put (d : Dct α β) (k : α) (v : β) : Dct α β := ⟨if d.has k then d.l.map (fun p => if decide (p.1 = k) then (p.1, v) else p) else d.l ++ [(k, v)]⟩
def keys (d : Dct α β) : List α := d.l.map (·.1)
end Dct
def putR {α β : Type} [DecidableEq α] (d : Dct α β) (k : α) (v : β) : R (Dct α β) := if d.l.length < lim then .ok (d.put k v) else .bad
def consR {α β : Type} [DecidableEq α] (k : α) (v : β) (d : Dct α β) : R (Dct α β) := if d.has k then .bad else .ok ⟨(k, v) :: d.l⟩
def dictL {α β : Type} [DecidableEq α] (l : List (α × β)) : Dct α β := l.foldl (fun d p => d.put p.1 p.2) ⟨[]⟩
section
variable [DecidableEq T] [hk : KeyE T]
theorem dget_map (k : T) : ∀ l : List (T × V), dGet (rows l) (enc k) = ((⟨l⟩ : Dct T V).get k).map enc
  | [] => rfl
  | p :: l => by
    have ih := dget_map k l
    unfold dGet Dct.get at ih ⊢
    show ((((enc p.1, enc p.2) :: rows l).find? fun q => Dv.keq q.1 (enc k)).map (·.2)) = _
    rw [List.find?_cons, List.find?_cons, hk.keq]
    cases decide (p.1 = k) with
    | true => rfl
    | false => exact ih
theorem dhas_map (k : T) (l : List (T × V)) : dHas (rows l) (enc k) = (⟨l⟩ : Dct T V).has k := by
  unfold dHas Dct.has
  rw [List.any_map]
  congr 1
  funext p
  exact hk.keq p.1 k
theorem dput_map (k : T) (v : V) (l : List (T × V)) : PyData.dict (dPut (rows l) (enc k) (enc v)) = enc ((⟨l⟩ : Dct T V).put k v) := by
  unfold dPut Dct.put
  rw [dhas_map]
  show PyData.dict _ = PyData.dict (List.map _ (if _ then _ else _))
  congr 1
  split
  · rw [List.map_map, List.map_map]
    congr 1
    funext p
    show (if Dv.keq (enc p.1) (enc k) = true then (enc p.1, enc v) else (enc p.1, enc p.2)) = ((fun q : T × V => (enc q.1, enc q.2)) (if decide (p.1 = k) = true then (p.1, v) else p))
    rw [hk.keq]
    split <;> rfl
  · rw [List.map_append]; rfl
theorem dmerge_map : ∀ (more : List (T × V)) (d : Dct T V), PyData.dict (dMerge (rows d.l) (rows more)) = enc (more.foldl (fun d p => d.put p.1 p.2) d)
  | [], d => rfl
  | p :: more, d => by
    show PyData.dict (dMerge (dPut (rows d.l) (enc p.1) (enc p.2)) (rows more)) = _
    have e := dput_map p.1 p.2 d.l
    have e : dPut (rows d.l) (enc p.1) (enc p.2) = rows (d.put p.1 p.2).l := by
      have : PyData.dict _ = PyData.dict (rows (d.put p.1 p.2).l) := e
      exact PyData.dict.inj this
    rw [e]
    exact dmerge_map more (d.put p.1 p.2)
/-! ### displays -/
theorem k_d0 : KE (T := Dct T V) m Γ (eDct []) (fun U k => k ⟨[]⟩) := ⟨fun δ f A B Φ k k' q => q ⟨[]⟩⟩
theorem k_d1 {ps : List (DE × DE)} {Fk : KF T} {Fv : KF V} {Fr : KF (Dct T V)} (h : KE m Γ a Fk) (h2 : KE m Γ b Fv) (h3 : KE m Γ (eDct ps) Fr) : KE m Γ (eDct ((a, b) :: ps)) (fun U kk => Fk U fun x => Fv U fun y => Fr U fun d => (consR x y d).bind kk) := ⟨fun δ f A B Φ k k' q => by
  show Sim Φ (((a δ).bind fun x => if isK x then (b δ).bind fun y => (eDct ps δ).bind fun d => (match d with
      | .dict kvs => if kvs.any (fun p => Dv.keq p.1 x) then R.bad else R.ok (PyData.dict ((x, y) :: kvs))
      | _ => .bad) else .bad).bind k) _
  rw [bind_assoc]
  refine h.go δ f A B Φ _ _ fun x => ?_
  rw [hk.isk, if_pos rfl, bind_assoc]
  refine h2.go δ f A B Φ _ _ fun y => ?_
  rw [bind_assoc]
  refine h3.go δ f A B Φ _ _ fun d => ?_
  show Sim Φ ((if dHas (rows d.l) (enc x) then R.bad else R.ok (PyData.dict ((enc x, enc y) :: rows d.l))).bind k) _
  rw [dhas_map]
  unfold consR
  cases h : (⟨d.l⟩ : Dct T V).has x with
  | true => exact .bad
  | false => exact q ⟨(x, y) :: d.l⟩⟩
/-! ### places, get, in -/
theorem o_ixD : Op2 (T := Dct T V) (V := T) (W := V) idxD fun d k => oR (d.get k) := fun d k => by
  show Sim Is (if isK (enc k) then oR (dGet (rows d.l) (enc k)) else .bad) (oR (d.get k))
  rw [hk.isk, if_pos rfl, dget_map]
  show Sim Is (oR ((d.get k).map enc)) (oR (d.get k))
  cases d.get k with
  | none => exact .bad
  | some x => exact .ok rfl
theorem t_inD : Tp2 (T := T) (V := Dct T V) (cmpD .In) fun x d => .ok (d.has x) := fun x d => by
  show Sim _ (if isK (enc x) then R.ok (dHas (rows d.l) (enc x)) else .bad) _
  rw [hk.isk, if_pos rfl, dhas_map]
  exact .ok rfl
theorem t_ninD : Tp2 (T := T) (V := Dct T V) (cmpD .NotIn) fun x d => .ok (!d.has x) := fun x d => by
  show Sim _ (rnot (if isK (enc x) then R.ok (dHas (rows d.l) (enc x)) else .bad)) _
  rw [hk.isk, if_pos rfl, dhas_map]
  exact .ok rfl
theorem k_get1 {Fo : KF (Dct T V)} {Fk : KF T} (h : KE m Γ o Fo) (h2 : KE m Γ a Fk) : KE (T := Option V) m Γ (eGet1 o a) (fun U kk => Fo U fun d => Fk U fun x => kk (d.get x)) := ⟨fun δ f A B Φ k k' q => by
  unfold eGet1
  rw [bind_assoc]
  refine h.go δ f A B Φ _ _ fun d => ?_
  show Sim Φ (((a δ).bind fun x => if isK x then R.ok ((dGet (rows d.l) x).getD .none) else .bad).bind k) _
  rw [bind_assoc]
  refine h2.go δ f A B Φ _ _ fun x => ?_
  rw [hk.isk, if_pos rfl, dget_map]
  have := q (d.get x)
  show Sim Φ (k (((d.get x).map enc).getD .none)) (k' (d.get x))
  revert this
  cases d.get x with
  | none => exact fun z => z
  | some y => exact fun z => z⟩
theorem k_get2 {Fo : KF (Dct T V)} {Fk : KF T} {Fz : KF V} (h : KE m Γ o Fo) (h2 : KE m Γ a Fk) (h3 : KE m Γ b Fz) : KE m Γ (eGet2 o a b) (fun U kk => Fo U fun d => Fk U fun x => Fz U fun z => kk ((d.get x).getD z)) := ⟨fun δ f A B Φ k k' q => by
  unfold eGet2
  rw [bind_assoc]
  refine h.go δ f A B Φ _ _ fun d => ?_
  show Sim Φ (((a δ).bind fun x => (b δ).bind fun y => if isK x then R.ok ((dGet (rows d.l) x).getD y) else .bad).bind k) _
  rw [bind_assoc]
  refine h2.go δ f A B Φ _ _ fun x => ?_
  rw [bind_assoc]
  refine h3.go δ f A B Φ _ _ fun z => ?_
  rw [hk.isk, if_pos rfl, dget_map]
  have := q ((d.get x).getD z)
  show Sim Φ (k (((d.get x).map enc).getD (enc z))) (k' ((d.get x).getD z))
  revert this
  cases d.get x with
  | none => exact fun z => z
  | some y => exact fun z => z⟩
/-! ### built-ins -/
theorem b_lenD (x : Dct T V) : Sim Is (callB "len" [enc x]) (.ok (x.l.length : Int)) := .ok (by show PyData.int _ = PyData.int _; rw [List.length_map])
theorem keys_map (x : Dct T V) : (x.l.map fun p => (enc p.1, enc p.2)).map (·.1) = x.keys.map enc := by unfold Dct.keys; rw [List.map_map, List.map_map]; rfl
theorem b_listD (x : Dct T V) : Sim Is (callB "list" [enc x]) (.ok x.keys) := .ok (by show PyData.list _ = PyData.list _; rw [keys_map])
theorem b_sortedD [h : EqE T] [o : OrdE T] [s : SrtE T] (hd : decide (h.dep ≤ deep) = true) (x : Dct T V) : Sim Is (callB "sorted" [enc x]) (sortR x.keys) := by
  have := b_sorted (T := T) hd x.keys
  have e : callB "sorted" [enc x] = callB "sorted" [enc x.keys] := by
    show (if sortOk ((x.l.map fun p => (enc p.1, enc p.2)).map (·.1)) then R.ok (PyData.list (sortL ((x.l.map fun p => (enc p.1, enc p.2)).map (·.1)))) else .bad) = if sortOk (x.keys.map enc) then R.ok (PyData.list (sortL (x.keys.map enc))) else .bad
    rw [keys_map]
  rw [e]
  exact this
theorem b_dictD (x : Dct T V) : Sim Is (callB "dict" [enc x]) (.ok x) := .ok rfl
theorem b_dictL (x : List (T × V)) : Sim Is (callB "dict" [enc x]) (.ok (dictL x)) := by
  have e : ∀ l : List (T × V), pairsOf (l.map enc) = some (rows l) := by
    intro l
    induction l with
    | nil => rfl
    | cons p l ih =>
      show (if isK (enc p.1) then (pairsOf (l.map enc)).map ((enc p.1, enc p.2) :: ·) else none) = _
      rw [hk.isk, if_pos rfl, ih]
      rfl
  show Sim Is (bindO (pairsOf (x.map enc)) fun ps => R.ok (PyData.dict (dMerge [] ps))) _
  rw [e]
  have := dmerge_map x (⟨[]⟩ : Dct T V)
  exact ⟨_, rfl, this⟩
theorem sj_setD {i : Nat} {Θ : Ex U} {d : Dct T V} {F : KF V} {Fj : KF T} {k : Dct T V → R U} (he : KE m Γ a F) (hj : KE m Γ b Fj) (hx : Γ.lookup i = some (some (enc d))) (hi : decide (i < m) = true) (hr : ∀ y : Dct T V, SJ m ((i, some (enc y)) :: Γ) ss Θ (k y)) :
    SJ m Γ (sSet i b a :: ss) Θ (F U fun x => Fj U fun j => (putR d j x).bind k) := ⟨fun δ f => by
  rw [seq_cons]
  unfold sSet
  rw [andThen_ofR]
  refine So.ofR he f fun x => ?_
  rw [andThen_ofR]
  refine So.ofR hj f fun j => ?_
  rw [f.at_ _ _ hx]
  show So Θ (andThen (if isK (enc j) && decide ((rows d.l).length < lim) then Out.nx (δ.set i (some (.dict (dPut (rows d.l) (enc j) (enc x))))) else .bad) (sSeq ss)) _
  unfold putR
  rw [hk.isk, Bool.true_and, List.length_map]
  by_cases h : d.l.length < lim
  · rw [decide_eq_true h, if_pos rfl, if_pos h, dput_map]
    exact (hr (d.put j x)).go _ (f.put hi _)
  · rw [decide_eq_false h, if_neg h]
    exact trivial⟩
end
/-! ### dicts of no lists -/
instance {α β : Type} [Enc α] [Enc β] [h2 : NoL β] : FlatE true (Dct α β) := ⟨fun d => by
  show (true && (d.l.map fun p => (enc p.1, enc p.2)).all fun p => nol p.2) = true
  rw [Bool.true_and, List.all_map]
  exact List.all_eq_true.mpr fun p _ => h2.no p.2⟩
/-! ### parts of a tuple of known length -/
theorem k_slP {lo hi : Option DE} {f : T → V} {Fa : KF T} (h : ∀ x (δ : Dv.Env), eSl (fun _ => R.ok (enc x)) lo hi δ = .ok (enc (f x))) (ha : KE m Γ a Fa) : KE m Γ (eSl a lo hi) (fun U k => Fa U fun x => k (f x)) := ⟨fun δ ft A B Φ k k' q => by
  have e : eSl a lo hi δ = (a δ).bind fun x => eSl (fun _ => R.ok x) lo hi δ := by
    unfold eSl
    cases a δ <;> rfl
  rw [e, bind_assoc]
  refine ha.go δ ft A B Φ _ _ fun x => ?_
  rw [h x δ]
  exact q (f x)⟩
end Tv
/-! Tv7: texts and numbers; x.pop(). -/
namespace Tv
open PySem Dv
open Enc (enc)
variable {A B A' B' T V W C U S : Type} [Enc T] [Enc V] [Enc W] {m : Nat} {Γ : G} {δ : Dv.Env} {e a b c o : DE} {ss : List DS}
def splitR (s t : Str) : R (List Str) := if t.length != 0 && (decide (s.length ≤ lim) && (Txt.split s t).all sOkB) then .ok (Txt.split s t) else .bad
theorem m_split (s t : Str) : Sim Is (callM "split" [enc s, enc t]) (splitR s t) := by
  show Sim Is (if t.length != 0 && (decide (s.length ≤ lim) && (Txt.split s t).all sOkB) then R.ok (PyData.list ((Txt.split s t).map .str)) else .bad) _
  unfold splitR
  split
  · exact .ok rfl
  · exact .bad
theorem m_ends (s t : Str) : Sim Is (callM "endswith" [enc s, enc t]) (.ok (Txt.endswith s t)) := .ok rfl
theorem m_find (s t : Str) : Sim Is (callM "find" [enc s, enc t]) (.ok (Txt.find s t)) := .ok rfl
theorem m_count (s t : Str) : Sim Is (callM "count" [enc s, enc t]) (.ok (Txt.count s t)) := .ok rfl
def indexS (s t : Str) : R Int := match Builtin.Str.occurrences s t 0 s.length 1 with
  | i :: _ => .ok ((i : Nat) : Int)
  | [] => .bad
theorem m_indexS (s t : Str) : Sim Is (callM "index" [enc s, enc t]) (indexS s t) := by
  show Sim Is (match Builtin.Str.occurrences s t 0 s.length 1 with
    | i :: _ => R.ok (PyData.int (i : Nat))
    | [] => .bad) _
  unfold indexS
  cases Builtin.Str.occurrences s t 0 s.length 1 with
  | nil => exact .bad
  | cons i r => exact .ok rfl
def intR (s : Str) : R Int := if decide (s.length ≤ 640) then (match PySem.intText? s with
  | some n => .ok n
  | none => .bad) else .bad
theorem b_intS (x : Str) : Sim Is (callB "int" [enc x]) (intR x) := by
  show Sim Is (if decide (x.length ≤ 640) then (match PySem.intText? x with
    | some n => R.ok (PyData.int n)
    | none => .bad) else .bad) _
  unfold intR
  split
  · cases PySem.intText? x with
    | none => exact .bad
    | some n => exact .ok rfl
  · exact .bad
/-! ### x.pop() -/
def popR {α : Type} (xs : List α) : R (List α × α) := match xs[xs.length - 1]? with
  | some x => .ok (xs.dropLast, x)
  | none => .bad
theorem sj_pop {i : Nat} {Θ : Ex U} {g : TF} {Δ : T → G} {xs : List T} {k : List T × T → R U} (hx : Γ.lookup i = some (some (enc xs))) (hi : decide (i < m) = true) (hg : KG m g Δ) (hr : ∀ p : List T × T, SJ m (Δ p.2 ++ (i, some (enc p.1)) :: Γ) ss Θ (k p)) :
    SJ m Γ (sPop i g :: ss) Θ ((popR xs).bind k) := ⟨fun δ f => by
  rw [seq_cons]
  unfold sPop
  rw [f.at_ _ _ hx]
  show So Θ (andThen (match (xs.map enc)[(xs.map enc).length - 1]? with
    | some d => ofR (g d (δ.set i (some (.list (xs.map enc).dropLast)))) .nx
    | none => .bad) (sSeq ss)) _
  unfold popR
  rw [List.length_map, List.getElem?_map]
  cases xs[xs.length - 1]? with
  | none => exact trivial
  | some x =>
    obtain ⟨δ', e1, f'⟩ := hg.go _ _ x (f.put hi (enc xs.dropLast))
    have e : PyData.list (xs.map enc).dropLast = enc xs.dropLast := by show PyData.list _ = PyData.list _; rw [List.map_dropLast]
    show So Θ (andThen (ofR (g (enc x) (δ.set i (some (.list (xs.map enc).dropLast)))) .nx) (sSeq ss)) _
    rw [e, e1]
    exact (hr (xs.dropLast, x)).go _ f'⟩
end Tv
/-! Tv8: sets of keys, typed. -/
namespace Tv
open PySem Dv
open Enc (enc)
variable {A B A' B' T V W C U S : Type} [Enc T] [Enc V] [Enc W] {m : Nat} {Γ : G} {δ : Dv.Env} {e a b c o : DE} {ss : List DS}
/-- each item once, the last place of it -/
def dedupT {α : Type} [DecidableEq α] : List α → List α
  | [] => []
  | x :: xs => if x ∈ xs then dedupT xs else x :: dedupT xs
class SetE (α : Type) [Enc α] where
  key : α → L2.Key
  enc_kD : ∀ a : α, enc a = kD (key a)
  inj : ∀ a b : α, key a = key b → a = b
instance : SetE Int := ⟨.inl, fun _ => rfl, fun _ _ h => Sum.inl.inj h⟩
instance : SetE Str := ⟨.inr, fun _ => rfl, fun _ _ h => Sum.inr.inj h⟩
theorem keysD_map [s : SetE T] : ∀ xs : List T, keysD (xs.map enc) = some (xs.map s.key)
  | [] => rfl
  | x :: xs => by
    have ih := keysD_map xs
    rw [List.map_cons, List.map_cons, s.enc_kD]
    cases s.key x with
    | inl i =>
      show (keysD (xs.map enc)).map (.inl i :: ·) = _
      rw [ih]; rfl
    | inr y =>
      show (keysD (xs.map enc)).map (.inr y :: ·) = _
      rw [ih]; rfl
theorem dedup_map [DecidableEq T] [s : SetE T] : ∀ xs : List T, dedupK (xs.map s.key) = (dedupT xs).map s.key
  | [] => rfl
  | x :: xs => by
    have ih := dedup_map xs
    rw [List.map_cons]
    unfold dedupK dedupT
    have e : ((xs.map s.key).any fun j => decide (j = s.key x)) = decide (x ∈ xs) := by
      rw [Bool.eq_iff_iff, List.any_eq_true, decide_eq_true_iff]
      constructor
      · rintro ⟨k, hk, h⟩
        obtain ⟨y, hy, rfl⟩ := List.mem_map.mp hk
        rw [← s.inj _ _ (of_decide_eq_true h)]; exact hy
      · intro h
        exact ⟨_, List.mem_map_of_mem h, decide_eq_true rfl⟩
    rw [e, ih]
    by_cases h : x ∈ xs
    · rw [decide_eq_true h, if_pos rfl, if_pos h]
    · rw [decide_eq_false h, if_neg Bool.false_ne_true, if_neg h]; rfl
theorem kD_map [s : SetE T] (xs : List T) : (xs.map s.key).map kD = xs.map enc := by
  rw [List.map_map]
  congr 1
  funext x
  exact (s.enc_kD x).symm
def setLenR {α : Type} [DecidableEq α] (xs : List α) : R Int := if xs.length + 1 < 4096 then .ok (dedupT xs).length else .bad
def setSortR {α : Type} [Enc α] [DecidableEq α] (xs : List α) : R (List α) := if xs.length + 1 < 4096 then .ok (sortT (dedupT xs)) else .bad
theorem sortOk_enc [DecidableEq T] [h : EqE T] [o : OrdE T] [s : SrtE T] (hd : decide (h.dep ≤ deep) = true) (x : List T) (hl : x.length ≤ lim) : sortOk (x.map enc) = true := by
  have q := b_sorted hd x
  unfold sortR at q
  rw [if_pos hl] at q
  obtain ⟨d, h1, _⟩ := q
  have h1 : (if sortOk (x.map enc) then R.ok (PyData.list (sortL (x.map enc))) else .bad) = .ok d := h1
  cases hs : sortOk (x.map enc) with
  | true => rfl
  | false => rw [hs] at h1; cases h1
theorem s_len [DecidableEq T] [s : SetE T] : Op1 (T := List T) (V := Int) setLenD setLenR := fun x => by
  show Sim Is (match keysD (x.map enc) with
    | some ks => if ks.length + 1 < 4096 then R.ok (PyData.int (dedupK ks).length) else .bad
    | none => .bad) _
  rw [keysD_map]
  show Sim Is (if (x.map s.key).length + 1 < 4096 then R.ok (PyData.int (dedupK (x.map s.key)).length) else .bad) _
  unfold setLenR
  rw [List.length_map, dedup_map, List.length_map]
  split
  · exact .ok rfl
  · exact .bad
theorem s_sort [DecidableEq T] [s : SetE T] [h : EqE T] [OrdE T] [SrtE T] (hd : decide (h.dep ≤ deep) = true) : Op1 (T := List T) (V := List T) setSortD setSortR := fun x => by
  show Sim Is (match keysD (x.map enc) with
    | some ks => if decide (ks.length + 1 < 4096) && sortOk (ks.map kD) then R.ok (PyData.list (sortL ((dedupK ks).map kD))) else .bad
    | none => .bad) _
  rw [keysD_map]
  show Sim Is (if decide ((x.map s.key).length + 1 < 4096) && sortOk ((x.map s.key).map kD) then R.ok (PyData.list (sortL ((dedupK (x.map s.key)).map kD))) else .bad) _
  unfold setSortR
  rw [List.length_map, dedup_map, kD_map, kD_map]
  by_cases hl : x.length + 1 < 4096
  · rw [if_pos hl, decide_eq_true hl, sortOk_enc hd x (by unfold lim; omega), sort_map]
    exact .ok rfl
  · rw [if_neg hl]
    exact .bad
theorem k_set1 {g : D → R D} {h : T → R V} {Fa : KF T} (o : Op1 g h) (ha : KE m Γ a Fa) : KE m Γ (eSet1 g a) (fun U k => Fa U fun x => (h x).bind k) := ⟨fun δ f A B Φ k k' q => by
  unfold eSet1
  rw [bind_assoc]
  exact ha.go δ f A B Φ _ _ fun x => (o x).is_bind q⟩
/-! ### plain facts -/
theorem mem_dedup [DecidableEq T] {x : T} : ∀ {xs : List T}, x ∈ dedupT xs ↔ x ∈ xs
  | [] => Iff.rfl
  | y :: xs => by
    have ih := mem_dedup (x := x) (xs := xs)
    unfold dedupT
    by_cases h : y ∈ xs
    · rw [if_pos h, ih, List.mem_cons]
      exact ⟨.inr, fun z => z.elim (fun e => e ▸ h) id⟩
    · rw [if_neg h, List.mem_cons, List.mem_cons, ih]
theorem dedup_nodup [DecidableEq T] : ∀ xs : List T, (dedupT xs).Nodup
  | [] => List.nodup_nil
  | y :: xs => by
    unfold dedupT
    by_cases h : y ∈ xs
    · rw [if_pos h]; exact dedup_nodup xs
    · rw [if_neg h]
      exact List.nodup_cons.mpr ⟨fun z => h (mem_dedup.mp z), dedup_nodup xs⟩
theorem dedup_len [DecidableEq T] : ∀ xs : List T, (dedupT xs).length ≤ xs.length
  | [] => Nat.le_refl _
  | y :: xs => by
    unfold dedupT
    have := dedup_len xs
    split <;> simp <;> omega
theorem dedup_id [DecidableEq T] : ∀ {xs : List T}, xs.Nodup → dedupT xs = xs
  | [], _ => rfl
  | y :: xs, h => by
    obtain ⟨h1, h2⟩ := List.nodup_cons.mp h
    unfold dedupT
    rw [if_neg h1, dedup_id h2]
theorem dedup_lt [DecidableEq T] : ∀ {xs : List T}, ¬ xs.Nodup → (dedupT xs).length < xs.length
  | [], h => absurd List.nodup_nil h
  | y :: xs, h => by
    unfold dedupT
    by_cases q : y ∈ xs
    · rw [if_pos q]
      have := dedup_len xs
      simp; omega
    · rw [if_neg q]
      have := dedup_lt (xs := xs) fun z => h (List.nodup_cons.mpr ⟨q, z⟩)
      simp; omega
end Tv
/-! Tv9: {k: v for ..}. -/
namespace Tv
open PySem Dv
open Enc (enc)
variable {A B A' B' T V W C U S : Type} [Enc T] [Enc V] [Enc W] {m : Nat} {Γ : G} {δ : Dv.Env} {e a b c o fk fv : DE} {t t2 : DT} {it it2 : DI} {ss : List DS}
def dcR {α T V : Type} [DecidableEq T] (p : α → R Bool) (fk : α → R T) (fv : α → R V) : List α → Dct T V → R (Dct T V)
  | [], d => .ok d
  | x :: xs, d => (p x).bind fun b => if b then (fk x).bind fun k => (fv x).bind fun v => (putR d k v).bind fun d' => dcR p fk fv xs d' else dcR p fk fv xs d
section
variable [DecidableEq T] [hk : KeyE T] {own : List Nat} {g : TF} {Δ : W → G} {F1 : KF (List W)}
theorem dc_sim {Ft' : W → KF Bool} {Fk : W → KF T} {Fv : W → KF V} (hg : KG m g Δ) (ht : ∀ x, KT m (Δ x ++ Γ) t (Ft' x)) (h1 : ∀ x, KE m (Δ x ++ Γ) fk (Fk x)) (h2 : ∀ x, KE m (Δ x ++ Γ) fv (Fv x)) (f : Ft m Γ δ) :
    ∀ (xs : List W) (d : Dct T V), Sim (fun kvs (d : Dct T V) => kvs = rows d.l) (dcGo g t fk fv δ (xs.map enc) (rows d.l)) (dcR (fun x => Ft' x Bool .ok) (fun x => Fk x T .ok) (fun x => Fv x V .ok) xs d)
  | [], d => .ok rfl
  | x :: xs, d => by
    obtain ⟨δ', e1, f'⟩ := hg.go Γ δ x f
    show Sim _ ((g (enc x) δ).bind fun δ' => (t δ').bind fun b => if b then (fk δ').bind fun x => (fv δ').bind fun y => if isK x && decide ((rows d.l).length < lim) then dcGo g t fk fv δ (xs.map enc) (dPut (rows d.l) x y) else .bad else dcGo g t fk fv δ (xs.map enc) (rows d.l)) _
    rw [e1, R.bind_ok]
    unfold dcR
    refine ((ht x).self f').bind fun b b' q => ?_
    subst q
    cases b with
    | false => exact dc_sim hg ht h1 h2 f xs d
    | true =>
      refine ((h1 x).self f').is_bind fun k => ((h2 x).self f').is_bind fun v => ?_
      unfold putR
      rw [hk.isk, Bool.true_and, List.length_map]
      by_cases h : d.l.length < lim
      · rw [decide_eq_true h, if_pos rfl, if_pos h, R.bind_ok]
        have e : dPut (rows d.l) (enc k) (enc v) = rows (d.put k v).l := by
          have := dput_map k v d.l
          have : PyData.dict (dPut (rows d.l) (enc k) (enc v)) = PyData.dict (rows (d.put k v).l) := this
          injection this
        rw [e]
        exact dc_sim hg ht h1 h2 f xs (d.put k v)
      · rw [decide_eq_false h, if_neg h]
        exact .bad
theorem k_dc {Ft' : W → KF Bool} {Fk : W → KF T} {Fv : W → KF V} (hi : KI m Γ it F1) (hg : KG m g Δ) (ht : ∀ x, KT m (Δ x ++ wG own Γ) t (Ft' x)) (h1 : ∀ x, KE m (Δ x ++ wG own Γ) fk (Fk x)) (h2 : ∀ x, KE m (Δ x ++ wG own Γ) fv (Fv x)) :
    KE m Γ (eDc own g it t fk fv) (fun U k => F1 U fun xs => (dcR (fun x => Ft' x Bool .ok) (fun x => Fk x T .ok) (fun x => Fv x V .ok) xs (⟨[]⟩ : Dct T V)).bind k) := ⟨fun δ f A B Φ k k' q => by
  unfold eDc
  rw [bind_assoc]
  refine hi.go δ f A B Φ _ _ fun xs => ?_
  rw [bind_assoc]
  refine (dc_sim hg ht h1 h2 (f.wipe own) xs (⟨[]⟩ : Dct T V)).bind fun kvs d z => ?_
  subst z
  exact q d⟩
end
/-! ### plain: what such a dict holds -/
theorem dc_ok {α T V : Type} [DecidableEq T] {p : α → R Bool} {fk : α → R T} {fv : α → R V} (q : α → Bool) (gk : α → T) (gv : α → V) : ∀ (xs : List α) (d : Dct T V), d.l.length + xs.length < 1000000 → (∀ x ∈ xs, p x = .ok (q x) ∧ (q x = true → fk x = .ok (gk x) ∧ fv x = .ok (gv x))) →
    dcR p fk fv xs d = .ok ((xs.filter q).foldl (fun d x => d.put (gk x) (gv x)) d)
  | [], d, _, _ => rfl
  | x :: xs, d, hl, h => by
    obtain ⟨h1, h2⟩ := h x (.head _)
    rw [List.length_cons] at hl
    unfold dcR
    rw [h1, R.bind_ok]
    cases hq : q x with
    | false =>
      rw [if_neg Bool.false_ne_true, List.filter_cons_of_neg (by rw [hq]; exact Bool.false_ne_true)]
      exact dc_ok q gk gv xs d (by omega) fun y hy => h y (.tail _ hy)
    | true =>
      obtain ⟨h3, h4⟩ := h2 hq
      rw [if_pos rfl, h3, R.bind_ok, h4, R.bind_ok, List.filter_cons_of_pos hq, List.foldl_cons]
      have : putR d (gk x) (gv x) = .ok (d.put (gk x) (gv x)) := if_pos (by unfold lim; omega)
      rw [this, R.bind_ok]
      refine dc_ok q gk gv xs _ ?_ fun y hy => h y (.tail _ hy)
      have : (d.put (gk x) (gv x)).l.length ≤ d.l.length + 1 := by
        unfold Dct.put
        split <;> simp
      omega
/-! ### math.gcd -/
def f_gcd (a b : Int) : R Int := .ok ((Nat.gcd a.natAbs b.natAbs : Nat) : Int)
theorem f_gcd_ok (a b : Int) : Sim Is (gcdD [enc a, enc b]) (f_gcd a b) := ⟨_, rfl, rfl⟩
/-! ### max, min of a pair of ints -/
theorem more_ii (a b : Int) : moreOk [PyData.int a, .int b] = true := by
  unfold moreOk
  rfl
theorem b_maxP (p : Int × Int) : Sim Is (callB "max" [enc p]) (.ok (if p.2 > p.1 then p.2 else p.1)) := by
  obtain ⟨a, b⟩ := p
  show Sim Is (if moreOk [PyData.int a, .int b] then R.ok (PySem.W.maxD (.int a) [.int b]) else .bad) _
  rw [more_ii, if_pos rfl, show ([PyData.int b] : List PyData) = [b].map .int from rfl, PySem.W.maxD_ints]
  refine .ok ?_
  show PyData.int (max a b) = .int (if b > a then b else a)
  congr 1
  split <;> omega
theorem b_minP (p : Int × Int) : Sim Is (callB "min" [enc p]) (.ok (if p.2 < p.1 then p.2 else p.1)) := by
  obtain ⟨a, b⟩ := p
  show Sim Is (if moreOk [PyData.int a, .int b] then R.ok (PySem.W.minD (.int a) [.int b]) else .bad) _
  rw [more_ii, if_pos rfl, show ([PyData.int b] : List PyData) = [b].map .int from rfl, PySem.W.minD_ints]
  refine .ok ?_
  show PyData.int (min a b) = .int (if b < a then b else a)
  congr 1
  split <;> omega
end Tv
/-! Tv10: what is told, changed and not read behind. -/
namespace Tv
open PySem Dv
open Enc (enc)
section
variable {T V U : Type} [Enc T] [Enc V] {m : Nat} {Γ E : G} {e fo : DE} {Θ : Ex U} {ss : List DS} {keep : List Nat}
/-- types of what has no parts -/
class AtomE (T : Type) [Enc T] : Prop where
  atom : ∀ x : T, atomD (enc x) = true
instance : AtomE Int := ⟨fun _ => rfl⟩
instance : AtomE Str := ⟨fun _ => rfl⟩
instance : AtomE Bool := ⟨fun _ => rfl⟩
instance : AtomE Unit := ⟨fun _ => rfl⟩
instance [a : AtomE T] : AtomE (Option T) := ⟨fun x => by cases x with | none => rfl | some y => exact a.atom y⟩
inductive Lk2 (keep : List Nat) (Γ : G) : G → Prop
  | nil : Lk2 keep Γ []
  | kept {i : Nat} {d : D} {E : G} : Γ.lookup i = some (some d) → keep.contains i = true → Lk2 keep Γ E → Lk2 keep Γ ((i, some d) :: E)
  | atom {T : Type} [Enc T] [AtomE T] {i : Nat} {x : T} {E : G} : Γ.lookup i = some (some (enc x)) → Lk2 keep Γ E → Lk2 keep Γ ((i, some (enc x)) :: E)
theorem forget_len' : ∀ (k : Nat) (δ : Dv.Env), (forgetF keep k δ).length = δ.length
  | _, [] => rfl
  | k, d :: r => by unfold forgetF; rw [List.length_cons, forget_len' (k + 1) r, List.length_cons]
theorem forget_get' : ∀ (k : Nat) (δ : Dv.Env) (i : Nat), (forgetF keep k δ)[i]? = (δ[i]?).map (forg keep (k + i))
  | _, [], i => by simp [forgetF]
  | k, d :: r, 0 => by simp [forgetF]
  | k, d :: r, i + 1 => by
    unfold forgetF
    rw [List.getElem?_cons_succ, List.getElem?_cons_succ, forget_get' (k + 1) r i, show k + 1 + i = k + (i + 1) by omega]
theorem Lk2.at_ (lk : Lk2 keep Γ E) : ∀ i d, E.lookup i = some (some d) → Γ.lookup i = some (some d) ∧ (keep.contains i = true ∨ atomD d = true) := by
  induction lk with
  | nil => intro i d h; cases h
  | kept h1 h2 _ ih =>
    rename_i j d0 _ _
    intro i d h
    rw [List.lookup_cons] at h
    cases z : i == j with
    | true => rw [z] at h; cases h; rw [eq_of_beq z]; exact ⟨h1, .inl h2⟩
    | false => rw [z] at h; exact ih i d h
  | atom h1 _ ih =>
    rename_i T' _ a j x _ _
    intro i d h
    rw [List.lookup_cons] at h
    cases z : i == j with
    | true => rw [z] at h; cases h; rw [eq_of_beq z]; exact ⟨h1, .inr (a.atom x)⟩
    | false => rw [z] at h; exact ih i d h
theorem Lk2.ft {δ : Dv.Env} (lk : Lk2 keep Γ E) (f : Ft m Γ δ) : Ft m E (forgetF keep 0 δ) where
  len := by rw [forget_len']; exact f.len
  at_ := fun i d h => by
    obtain ⟨h1, h2⟩ := lk.at_ i d h
    rw [forget_get', f.at_ i d h1, Nat.zero_add]
    show some (forg keep i (some d)) = _
    congr 1
    unfold forg
    rcases h2 with h2 | h2
    · rw [if_pos h2]
    · split
      · rfl
      · show (if atomD d = true then some d else none) = some d
        rw [if_pos h2]
theorem sj_dead {F : KF (List T)} {F2 : KF V} {k : R U} (lk : Lk2 keep Γ E) (ho : KE m Γ fo F) (he : KE m Γ e F2) (hr : SJ m E ss Θ k) : SJ m Γ (sDead keep fo e :: ss) Θ (F U fun xs => F2 U fun x => (ckA xs).bind fun _ => k) := ⟨fun δ f => by
  rw [seq_cons]
  unfold sDead
  rw [andThen_ofR]
  refine So.ofR ho f fun xs => ?_
  rw [andThen_ofR]
  refine So.ofR he f fun x => ?_
  show So Θ (andThen (if (xs.map enc).length < lim then Out.nx (forgetF keep 0 δ) else .bad) (sSeq ss)) _
  unfold ckA
  rw [List.length_map]
  split
  · exact hr.go _ (lk.ft f)
  · exact trivial⟩
/-- a chain of two comparisons, any part may fail -/
theorem kt_ch2N {W : Type} [Enc W] {a b c : DE} {op op2 : CmpOp} {g : T → V → Bool} {g2 : V → W → Bool} {Fa : KF T} {Fb : KF V} {Fc : KF W} (o : Tp2 (cmpD op) fun x y => .ok (g x y)) (o2 : Tp2 (cmpD op2) fun x y => .ok (g2 x y)) (ha : KE m Γ a Fa) (hb : KE m Γ b Fb) (hc : KE m Γ c Fc) :
    KT m Γ (tCmp a [(op, b), (op2, c)]) (fun U k => Fa U fun x => Fb U fun y => (if g x y then Fc Bool fun z => .ok (g2 y z) else .ok false).bind k) := ⟨fun δ f A B Φ k k' q => by
  unfold tCmp
  rw [bind_assoc]
  refine ha.go δ f A B Φ _ _ fun x => ?_
  show Sim Φ (((b δ).bind fun y => (cmpD op (enc x) y).bind fun t => if t then (c δ).bind fun z => cmpD op2 y z else .ok false).bind k) _
  rw [bind_assoc]
  refine hb.go δ f A B Φ _ (fun y => (if g x y then Fc Bool fun z => .ok (g2 y z) else .ok false).bind k') fun y => ?_
  rw [bind_assoc]
  refine (o x y).bind (k' := fun t => (if t then Fc Bool fun z => .ok (g2 y z) else .ok false).bind k') fun p s e => ?_
  subst e
  cases p with
  | false => exact q false
  | true =>
    show Sim Φ (((c δ).bind fun z => cmpD op2 (enc y) z).bind k) ((Fc Bool fun z => .ok (g2 y z)).bind k')
    refine Sim.bind (Φ := fun p q => p = q) (hc.go δ f Bool Bool _ _ _ fun z => o2 y z) fun p s e => ?_
    subst e
    exact q p⟩
end
end Tv
/-! Tv11: tuples of four and of five. -/
namespace Tv
open PySem Dv
open Enc (enc)
instance {α β γ δ : Type} [Enc α] [Enc β] [Enc γ] [Enc δ] [DecidableEq α] [DecidableEq β] [DecidableEq γ] [DecidableEq δ] [h : EqE α] [k : EqE β] [l : EqE γ] [o : EqE δ] : EqE (T4 α β γ δ) := ⟨max h.dep (max k.dep (max l.dep o.dep)) + 1, fun a b => by
  show (PyData.eqv (enc a.a) (enc b.a) && (PyData.eqv (enc a.b) (enc b.b) && (PyData.eqv (enc a.c) (enc b.c) && (PyData.eqv (enc a.d) (enc b.d) && true)))) = _
  rw [h.eqv, k.eqv, l.eqv, o.eqv]
  obtain ⟨a1, a2, a3, a4⟩ := a
  obtain ⟨b1, b2, b3, b4⟩ := b
  by_cases z : a1 = b1 <;> by_cases w : a2 = b2 <;> by_cases u : a3 = b3 <;> by_cases v : a4 = b4 <;> simp [z, w, u, v], fun a n hn => by
  cases n with
  | zero => omega
  | succ n =>
    show ([enc a.a, enc a.b, enc a.c, enc a.d] : List D).all (fl n) = true
    simp [h.fl_ a.a n (by omega), k.fl_ a.b n (by omega), l.fl_ a.c n (by omega), o.fl_ a.d n (by omega)]⟩
instance {α β γ δ ε : Type} [Enc α] [Enc β] [Enc γ] [Enc δ] [Enc ε] [DecidableEq α] [DecidableEq β] [DecidableEq γ] [DecidableEq δ] [DecidableEq ε] [h : EqE α] [k : EqE β] [l : EqE γ] [o : EqE δ] [p : EqE ε] : EqE (T5 α β γ δ ε) := ⟨max h.dep (max k.dep (max l.dep (max o.dep p.dep))) + 1, fun a b => by
  show (PyData.eqv (enc a.a) (enc b.a) && (PyData.eqv (enc a.b) (enc b.b) && (PyData.eqv (enc a.c) (enc b.c) && (PyData.eqv (enc a.d) (enc b.d) && (PyData.eqv (enc a.e) (enc b.e) && true))))) = _
  rw [h.eqv, k.eqv, l.eqv, o.eqv, p.eqv]
  obtain ⟨a1, a2, a3, a4, a5⟩ := a
  obtain ⟨b1, b2, b3, b4, b5⟩ := b
  by_cases z : a1 = b1 <;> by_cases w : a2 = b2 <;> by_cases u : a3 = b3 <;> by_cases v : a4 = b4 <;> by_cases y : a5 = b5 <;> simp [z, w, u, v, y], fun a n hn => by
  cases n with
  | zero => omega
  | succ n =>
    show ([enc a.a, enc a.b, enc a.c, enc a.d, enc a.e] : List D).all (fl n) = true
    simp [h.fl_ a.a n (by omega), k.fl_ a.b n (by omega), l.fl_ a.c n (by omega), o.fl_ a.d n (by omega), p.fl_ a.e n (by omega)]⟩
instance {α β γ δ ε : Type} [Enc α] [Enc β] [Enc γ] [Enc δ] [Enc ε] : NN (T5 α β γ δ ε) := ⟨fun _ => ⟨rfl, rfl, rfl⟩⟩
instance {α β γ δ : Type} [Enc α] [Enc β] [Enc γ] [Enc δ] : TupE (T4 α β γ δ) := ⟨fun a => ⟨_, rfl⟩⟩
instance {α β γ δ ε : Type} [Enc α] [Enc β] [Enc γ] [Enc δ] [Enc ε] : TupE (T5 α β γ δ ε) := ⟨fun a => ⟨_, rfl⟩⟩
theorem t_isU : Tp2 (T := Unit) (V := Unit) (cmpD .Is) fun _ _ => .ok true := fun _ _ => .ok rfl
theorem t_isnU : Tp2 (T := Unit) (V := Unit) (cmpD .IsNot) fun _ _ => .ok false := fun _ _ => .ok rfl
section
variable {T V W V2 V3 : Type} [Enc T] [Enc V] [Enc W] [Enc V2] [Enc V3] {m : Nat} {Γ : G} {a b c d e : DE}
theorem k_tup5 {F1 : KF T} {F2 : KF V} {F3 : KF W} {F4 : KF V2} {F5 : KF V3} (h1 : KE m Γ a F1) (h2 : KE m Γ b F2) (h3 : KE m Γ c F3) (h4 : KE m Γ d F4) (h5 : KE m Γ e F5) : KE (T := T5 T V W V2 V3) m Γ (eTup [a, b, c, d, e]) (fun U k => F1 U fun x => F2 U fun y => F3 U fun z => F4 U fun w => F5 U fun v => k ⟨x, y, z, w, v⟩) := ⟨fun δ f A B Φ k k' q => by
  unfold eTup
  rw [bind_assoc]
  exact (ka_cons h1 (ka_cons h2 (ka_cons h3 (ka_cons h4 (ka_cons h5 ka_nil))))).go δ f A B Φ _ (fun p => k' ⟨p.1, p.2.1, p.2.2.1, p.2.2.2.1, p.2.2.2.2.1⟩) fun p => q ⟨p.1, p.2.1, p.2.2.1, p.2.2.2.1, p.2.2.2.2.1⟩⟩
theorem kg_4 {g1 g2 g3 g4 : TF} {Δ1 : T → G} {Δ2 : V → G} {Δ3 : W → G} {Δ4 : V2 → G} (h1 : KG m g1 Δ1) (h2 : KG m g2 Δ2) (h3 : KG m g3 Δ3) (h4 : KG m g4 Δ4) : KG (T := T4 T V W V2) m (gTp [g1, g2, g3, g4]) (fun p => Δ4 p.d ++ (Δ3 p.c ++ (Δ2 p.b ++ Δ1 p.a))) := ⟨fun Γ δ p f => by
  obtain ⟨δ1, e1, f1⟩ := h1.go Γ δ p.a f
  obtain ⟨δ2, e2, f2⟩ := h2.go _ δ1 p.b f1
  obtain ⟨δ3, e3, f3⟩ := h3.go _ δ2 p.c f2
  obtain ⟨δ4, e4, f4⟩ := h4.go _ δ3 p.d f3
  refine ⟨δ4, ?_, by rw [List.append_assoc, List.append_assoc, List.append_assoc]; exact f4⟩
  show (g1 (enc p.a) δ).bind (fun δ' => (g2 (enc p.b) δ').bind fun δ'' => (g3 (enc p.c) δ'').bind fun δ3 => (g4 (enc p.d) δ3).bind fun δ4 => R.ok δ4) = _
  rw [e1, R.bind_ok, e2, R.bind_ok, e3, R.bind_ok, e4]
  rfl⟩
theorem kg_5 {g1 g2 g3 g4 g5 : TF} {Δ1 : T → G} {Δ2 : V → G} {Δ3 : W → G} {Δ4 : V2 → G} {Δ5 : V3 → G} (h1 : KG m g1 Δ1) (h2 : KG m g2 Δ2) (h3 : KG m g3 Δ3) (h4 : KG m g4 Δ4) (h5 : KG m g5 Δ5) : KG (T := T5 T V W V2 V3) m (gTp [g1, g2, g3, g4, g5]) (fun p => Δ5 p.e ++ (Δ4 p.d ++ (Δ3 p.c ++ (Δ2 p.b ++ Δ1 p.a)))) := ⟨fun Γ δ p f => by
  obtain ⟨δ1, e1, f1⟩ := h1.go Γ δ p.a f
  obtain ⟨δ2, e2, f2⟩ := h2.go _ δ1 p.b f1
  obtain ⟨δ3, e3, f3⟩ := h3.go _ δ2 p.c f2
  obtain ⟨δ4, e4, f4⟩ := h4.go _ δ3 p.d f3
  obtain ⟨δ5, e5, f5⟩ := h5.go _ δ4 p.e f4
  refine ⟨δ5, ?_, by rw [List.append_assoc, List.append_assoc, List.append_assoc, List.append_assoc]; exact f5⟩
  show (g1 (enc p.a) δ).bind (fun δ' => (g2 (enc p.b) δ').bind fun δ'' => (g3 (enc p.c) δ'').bind fun δ3 => (g4 (enc p.d) δ3).bind fun δ4 => (g5 (enc p.e) δ4).bind fun δ5 => R.ok δ5) = _
  rw [e1, R.bind_ok, e2, R.bind_ok, e3, R.bind_ok, e4, R.bind_ok, e5]
  rfl⟩
theorem k_t51 {Fa : KF (T5 T V W V2 V3)} (ha : KE m Γ a Fa) : KE (T := T) m Γ (eIx a (eC (.int 0))) (fun U k => Fa U fun x => k x.a) := ⟨fun δ f A B Φ k k' q => by
  unfold eIx; rw [bind_assoc]; exact ha.go δ f A B Φ _ _ fun x => q x.a⟩
theorem k_t52 {Fa : KF (T5 T V W V2 V3)} (ha : KE m Γ a Fa) : KE (T := V) m Γ (eIx a (eC (.int 1))) (fun U k => Fa U fun x => k x.b) := ⟨fun δ f A B Φ k k' q => by
  unfold eIx; rw [bind_assoc]; exact ha.go δ f A B Φ _ _ fun x => q x.b⟩
theorem k_t53 {Fa : KF (T5 T V W V2 V3)} (ha : KE m Γ a Fa) : KE (T := W) m Γ (eIx a (eC (.int 2))) (fun U k => Fa U fun x => k x.c) := ⟨fun δ f A B Φ k k' q => by
  unfold eIx; rw [bind_assoc]; exact ha.go δ f A B Φ _ _ fun x => q x.c⟩
theorem k_t54 {Fa : KF (T5 T V W V2 V3)} (ha : KE m Γ a Fa) : KE (T := V2) m Γ (eIx a (eC (.int 3))) (fun U k => Fa U fun x => k x.d) := ⟨fun δ f A B Φ k k' q => by
  unfold eIx; rw [bind_assoc]; exact ha.go δ f A B Φ _ _ fun x => q x.d⟩
theorem k_t55 {Fa : KF (T5 T V W V2 V3)} (ha : KE m Γ a Fa) : KE (T := V3) m Γ (eIx a (eC (.int 4))) (fun U k => Fa U fun x => k x.e) := ⟨fun δ f A B Φ k k' q => by
  unfold eIx; rw [bind_assoc]; exact ha.go δ f A B Φ _ _ fun x => q x.e⟩
end
/-! ### two lists of unlike things, one behind the other, asked whether there is any -/
structure Cat (α β : Type) where
  x : List α
  y : List β
instance {α β : Type} [Enc α] [Enc β] : Enc (Cat α β) := ⟨fun c => .list (c.x.map enc ++ c.y.map enc)⟩
structure Nl where
instance : Enc Nl := ⟨fun _ => .list []⟩
def catR {α β : Type} (x : List α) (y : List β) : R (Cat α β) := if x.length + y.length ≤ lim then .ok ⟨x, y⟩ else .bad
section
variable {T V : Type} [Enc T] [Enc V] {m : Nat} {Γ : G}
theorem o_cat : Op2 (T := List T) (V := List V) (W := Cat T V) (binD .Add) catR := fun x y => by
  show Sim Is (addD (.list (x.map enc)) (.list (y.map enc))) _
  unfold addD catR
  dsimp only
  rw [List.length_map, List.length_map]
  split
  · exact .ok rfl
  · exact .bad
theorem k_nl : KE (T := Nl) m Γ (eLst []) (fun U k => k ⟨⟩) := ⟨fun δ f A B Φ k k' q => q ⟨⟩⟩
theorem t_catne [DecidableEq T] [DecidableEq V] [h : EqE T] [g : EqE V] (hd : decide (max h.dep g.dep + 1 ≤ deep) = true) : Tp2 (T := Cat T V) (V := Nl) (cmpD .NotEq) fun c _ => .ok (!(c.x.isEmpty && c.y.isEmpty)) := fun c y => by
  have hd := of_decide_eq_true hd
  obtain ⟨n, hn⟩ : ∃ n, deep = n + 1 := ⟨deep - 1, by omega⟩
  have f1 : fl deep (enc c) = true := by
    rw [hn]
    show (c.x.map enc ++ c.y.map enc).all (fl n) = true
    rw [List.all_append, List.all_map, List.all_map, Bool.and_eq_true, List.all_eq_true, List.all_eq_true]
    exact ⟨fun a _ => h.fl_ a n (by omega), fun a _ => g.fl_ a n (by omega)⟩
  have f2 : fl deep (enc y) = true := by rw [hn]; rfl
  show Sim _ (rnot (eqD (enc c) (enc y))) _
  unfold eqD
  rw [f1, f2]
  obtain ⟨xs, ys⟩ := c
  cases xs with
  | nil => cases ys with
    | nil => exact .ok rfl
    | cons b ys => exact .ok rfl
  | cons a xs => exact .ok rfl
end
end Tv
/-! Pn0: plain lemmas for many laws: loops, dicts, sorting, texts of data. -/
namespace Tv
open PySem Dv
open Enc (enc)
variable {A B S T U V : Type}

/-! ### while -/
theorem wp_whlC {c : S → R Bool} {b : S → R S} {Q : S → Prop} (I : S → Prop) (m : S → Nat) (h : ∀ s, I s → ∃ x, c s = .ok x ∧ (x = false → Q s) ∧ (x = true → Wp (b s) fun s' => I s' ∧ m s' < m s)) :
    ∀ (n : Nat) (s : S), I s → m s < n → Wp (whlC c b n s) Q
  | 0, _, _, hm => absurd hm (Nat.not_lt_zero _)
  | n + 1, s, hi, hm => by
    obtain ⟨x, e, h1, h2⟩ := h s hi
    show Wp ((c s).bind fun x => if x then (b s).bind fun s' => whlC c b n s' else .ok s) Q
    rw [e, R.bind_ok]
    cases x with
    | false => exact wp_ok (h1 rfl)
    | true => exact wp_bind (h2 rfl) fun s' hs => wp_whlC I m h n s' hs.1 (by omega)
theorem wp_whlR {c : S → R Bool} {b : S → R (Fl S T)} {Q : Fl S T → Prop} (I : S → Prop) (m : S → Nat)
    (h : ∀ s, I s → ∃ x, c s = .ok x ∧ (x = false → Q (.nx s)) ∧ (x = true → Wp (b s) fun o => (∃ s', o = .nx s' ∧ I s' ∧ m s' < m s) ∨ (∃ s', o = .bk s' ∧ Q (.nx s')) ∨ ∃ t, o = .rt t ∧ Q (.rt t))) :
    ∀ (n : Nat) (s : S), I s → m s < n → Wp (whlR c b n s) Q
  | 0, _, _, hm => absurd hm (Nat.not_lt_zero _)
  | n + 1, s, hi, hm => by
    obtain ⟨x, e, h1, h2⟩ := h s hi
    unfold whlR
    rw [e, R.bind_ok]
    cases x with
    | false => exact wp_ok (h1 rfl)
    | true =>
      obtain ⟨o, e2, h3⟩ := h2 rfl
      rw [if_pos rfl, e2, R.bind_ok]
      rcases h3 with ⟨s', rfl, hs, hl⟩ | ⟨s', rfl, hs⟩ | ⟨t, rfl, hs⟩
      · exact wp_whlR I m h n s' hs (by omega)
      · exact wp_ok hs
      · exact wp_ok hs
/-- a fold that an invariant keeps pure -/
theorem fold_pureI {b : S → A → R S} (f : S → A → S) (I : S → Prop) : ∀ (xs : List A) (s : S), I s → (∀ s x, x ∈ xs → I s → b s x = .ok (f s x) ∧ I (f s x)) → foldR b s xs = .ok (xs.foldl f s) ∧ I (xs.foldl f s)
  | [], s, h, _ => ⟨rfl, h⟩
  | x :: xs, s, h, hb => by
    obtain ⟨e, h'⟩ := hb s x (.head _) h
    unfold foldR
    rw [e, R.bind_ok]
    exact fold_pureI f I xs (f s x) h' fun s y hy => hb s y (.tail _ hy)
theorem fold_inv {f : S → A → S} (I : S → Prop) : ∀ (xs : List A) (s : S), I s → (∀ s x, x ∈ xs → I s → I (f s x)) → I (xs.foldl f s)
  | [], _, h, _ => h
  | x :: xs, s, h, hb => fold_inv I xs (f s x) (hb s x (.head _) h) fun s y hy => hb s y (.tail _ hy)
theorem wp_mapE {f : A → R B} {xs : List A} (g : A → B) (h : ∀ x ∈ xs, f x = .ok (g x)) {Q : List B → Prop} (hq : Q (xs.map g)) : Wp (mapR f xs) Q := ⟨_, map_ok g h, hq⟩

/-! ### enumerate, places -/
theorem en_mem {α : Type} {i : Int} {v : α} : ∀ {xs : List α} {k : Int}, (i, v) ∈ enumF k xs ↔ ∃ n : Nat, i = k + n ∧ xs[n]? = some v
  | [], k => by simp [enumF]
  | x :: xs, k => by
    unfold enumF
    rw [List.mem_cons, en_mem (xs := xs) (k := k + 1)]
    constructor
    · rintro (h | ⟨n, h1, h2⟩)
      · cases h; exact ⟨0, by simp, rfl⟩
      · exact ⟨n + 1, by omega, by simpa using h2⟩
    · rintro ⟨n, h1, h2⟩
      cases n with
      | zero =>
        left
        have : x = v := by simpa using h2
        subst this
        rw [h1]; simp
      | succ n => right; exact ⟨n, by omega, by simpa using h2⟩
theorem en_len {α : Type} : ∀ (xs : List α) (k : Int), (enumF k xs).length = xs.length
  | [], _ => rfl
  | x :: xs, k => by unfold enumF; rw [List.length_cons, List.length_cons, en_len]
theorem idx_ok {xs : List A} {i : Int} {x : A} (h0 : 0 ≤ i) (h : xs[i.toNat]? = some x) : idx xs i = .ok x := by
  obtain ⟨hl, _⟩ := List.getElem?_eq_some_iff.mp h
  unfold idx atZ ixZ
  rw [if_pos h0, if_pos (show i < xs.length by omega)]
  show oR (xs[i.toNat]?) = _
  rw [h]; rfl
theorem idx_nat {xs : List A} {i : Nat} {x : A} (h : xs[i]? = some x) : idx xs (i : Int) = .ok x := idx_ok (by omega) (by simpa using h)
theorem cut_none {xs : List A} {k : Int} (h0 : 0 ≤ k) : cut xs none (some k) = xs.take k.toNat := by
  unfold cut cutE
  dsimp only
  rw [if_neg (by omega), List.drop_zero, Nat.sub_zero]
  by_cases h : k.toNat ≤ xs.length
  · rw [Nat.min_eq_left h]
  · rw [Nat.min_eq_right (by omega), List.take_of_length_le (by omega), List.take_of_length_le (by omega)]
theorem cut_from0 {xs : List A} {k : Int} (h0 : 0 ≤ k) : cut xs (some k) none = xs.drop k.toNat := by
  unfold cut cutE
  dsimp only
  rw [if_neg (by omega)]
  by_cases h : k.toNat ≤ xs.length
  · rw [Nat.min_eq_left h, List.take_of_length_le (by rw [List.length_drop]; omega)]
  · rw [Nat.min_eq_right (by omega), Nat.sub_self, List.take_zero, List.drop_eq_nil_of_le (by omega)]
theorem mem_iff [Enc A] [DecidableEq A] [EqE A] {x : A} {xs : List A} : mem x xs = true ↔ x ∈ xs := by
  unfold mem
  rw [List.any_eq_true]
  constructor
  · rintro ⟨y, hy, h⟩
    rw [← of_decide_eq_true h]; exact hy
  · intro h
    exact ⟨x, h, decide_eq_true rfl⟩
theorem mem_dec [Enc A] [DecidableEq A] [EqE A] (x : A) (xs : List A) : mem x xs = decide (x ∈ xs) := by
  rw [Bool.eq_iff_iff, mem_iff, decide_eq_true_iff]

theorem mem_no [Enc A] [DecidableEq A] [EqE A] {x : A} {xs : List A} (h : x ∉ xs) : mem x xs = false := by
  cases e : mem x xs with
  | false => rfl
  | true => exact absurd (mem_iff.mp e) h
theorem en_fst {α : Type} : ∀ (xs : List α) (k : Int), (enumF k xs).map (·.1) = (List.range xs.length).map fun (i : Nat) => k + i
  | [], _ => rfl
  | x :: xs, k => by
    unfold enumF
    rw [List.map_cons, en_fst xs (k + 1), List.length_cons, List.range_succ_eq_map, List.map_cons, List.map_map]
    congr 1
    · simp
    · apply List.map_congr_left
      intro i _
      show k + 1 + (i : Int) = k + ((i + 1 : Nat) : Int)
      omega
theorem zr_en {α : Type} (xs : List α) : zr 0 (xs.length : Int) = (enumF 0 xs).map (·.1) := by
  rw [en_fst]
  unfold zr
  rw [show ((xs.length : Int) - 0).toNat = xs.length by omega]
theorem foldR_map {α β : Type} (b : S → β → R S) (g : α → β) : ∀ (xs : List α) (s : S), foldR b s (xs.map g) = foldR (fun s x => b s (g x)) s xs
  | [], _ => rfl
  | x :: xs, s => by
    rw [List.map_cons]
    unfold foldR
    congr 1
    funext s'
    exact foldR_map b g xs s'
/-- a fold over the places of a list -/
theorem fold_zr {α : Type} {xs : List α} {b : S → Int → R S} (f : S → Int × α → S) (I : S → Prop) {s : S} (h : I s) (hb : ∀ s (n : Nat) x, xs[n]? = some x → I s → b s n = .ok (f s (n, x)) ∧ I (f s (n, x))) :
    foldR b s (zr 0 (xs.length : Int)) = .ok ((enumF 0 xs).foldl f s) ∧ I ((enumF 0 xs).foldl f s) := by
  rw [zr_en, foldR_map]
  refine fold_pureI f I _ s h fun s p hp hs => ?_
  obtain ⟨k, x⟩ := p
  obtain ⟨n, hk, hx⟩ := en_mem.mp hp
  have : k = n := by omega
  subst this
  exact hb s n x hx hs
/-- .. with the number of the places that were walked -/
theorem fold_enN {α : Type} {b : S → Int → R S} (f : S → Int × α → S) (I : Nat → S → Prop) : ∀ (xs : List α) (k : Nat) (s : S), I k s → (∀ s (n : Nat) x, xs[n]? = some x → I (k + n) s → b s ((k + n : Nat) : Int) = .ok (f s (((k + n : Nat) : Int), x)) ∧ I (k + n + 1) (f s (((k + n : Nat) : Int), x))) →
    foldR (fun s p => b s p.1) s (enumF (k : Int) xs) = .ok ((enumF (k : Int) xs).foldl f s) ∧ I (k + xs.length) ((enumF (k : Int) xs).foldl f s)
  | [], k, s, h, _ => ⟨rfl, h⟩
  | x :: xs, k, s, h, hb => by
    obtain ⟨e, h'⟩ := hb s 0 x rfl h
    show (b s ((k + 0 : Nat) : Int)).bind (fun s' => foldR (fun s p => b s p.1) s' (enumF ((k : Int) + 1) xs)) = .ok ((enumF ((k : Int) + 1) xs).foldl f (f s ((k : Int), x))) ∧ I (k + (xs.length + 1)) ((enumF ((k : Int) + 1) xs).foldl f (f s ((k : Int), x)))
    rw [e, R.bind_ok]
    have ih := fold_enN f I xs (k + 1) (f s (((k + 0 : Nat) : Int), x)) h' fun s n y hy hs => by
      have := hb s (n + 1) y hy (by rw [show k + (n + 1) = k + 1 + n by omega]; exact hs)
      rw [show k + (n + 1) = k + 1 + n by omega] at this
      exact this
    rw [show k + (xs.length + 1) = k + 1 + xs.length by omega]
    exact ih
theorem fold_zrN {α : Type} {xs : List α} {b : S → Int → R S} (f : S → Int × α → S) (I : Nat → S → Prop) {s : S} (h : I 0 s) (hb : ∀ s (n : Nat) x, xs[n]? = some x → I n s → b s n = .ok (f s (n, x)) ∧ I (n + 1) (f s (n, x))) :
    foldR b s (zr 0 (xs.length : Int)) = .ok ((enumF 0 xs).foldl f s) ∧ I xs.length ((enumF 0 xs).foldl f s) := by
  rw [zr_en, foldR_map]
  have := fold_enN (b := b) f I xs 0 s h fun s n x hx hs => by
    rw [Nat.zero_add] at hs ⊢
    exact hb s n x hx hs
  rw [Nat.zero_add] at this
  exact this
theorem foldl_app {α β : Type} (p : α → Bool) (g : α → β) : ∀ (xs : List α) (s : List β), xs.foldl (fun s x => if p x then s ++ [g x] else s) s = s ++ (xs.filter p).map g
  | [], s => by simp
  | x :: xs, s => by
    rw [List.foldl_cons, foldl_app p g xs, List.filter_cons]
    cases h : p x with
    | true => simp
    | false => simp
theorem foldl_apps {α β : Type} (g : α → List β) : ∀ (xs : List α) (s : List β), xs.foldl (fun s x => s ++ g x) s = s ++ xs.flatMap g
  | [], s => by simp
  | x :: xs, s => by
    rw [List.foldl_cons, foldl_apps g xs, List.flatMap_cons, List.append_assoc]
theorem flat_len {α β : Type} (g : α → List β) {m : Nat} : ∀ (xs : List α), (∀ x ∈ xs, (g x).length ≤ m) → (xs.flatMap g).length ≤ xs.length * m
  | [], _ => Nat.zero_le _
  | x :: xs, h => by
    rw [List.flatMap_cons, List.length_append, List.length_cons, Nat.add_mul]
    have := h x (.head _)
    have := flat_len g xs fun y hy => h y (.tail _ hy)
    omega
/-! ### dicts -/
namespace Dct
variable {α β : Type} [DecidableEq α] {d : Dct α β} {k j : α} {v : β}
def ND (d : Dct α β) : Prop := d.keys.Nodup
theorem has_get : d.has k = (d.get k).isSome := by
  unfold has get
  rw [Option.isSome_map, Bool.eq_iff_iff, List.any_eq_true, List.find?_isSome]
theorem mem_keys : k ∈ d.keys ↔ d.has k = true := by
  unfold keys has
  rw [List.mem_map, List.any_eq_true]
  constructor
  · rintro ⟨p, hp, rfl⟩; exact ⟨p, hp, decide_eq_true rfl⟩
  · rintro ⟨p, hp, h⟩; exact ⟨p, hp, of_decide_eq_true h⟩
theorem find_put_l (l : List (α × β)) : (l.map fun p => if decide (p.1 = k) then (p.1, v) else p).find? (fun p => decide (p.1 = j)) = (l.find? fun p => decide (p.1 = j)).map fun p => if decide (p.1 = k) then (p.1, v) else p := by
  rw [List.find?_map]
  congr 1
  congr 1
  funext p
  show decide ((if decide (p.1 = k) then (p.1, v) else p).1 = j) = _
  split <;> rfl
theorem get_put : (d.put k v).get j = if j = k then some v else d.get j := by
  unfold put get
  by_cases h : d.has k = true
  · rw [if_pos h]
    show Option.map _ (List.find? _ (List.map _ d.l)) = _
    rw [find_put_l, Option.map_map]
    by_cases e : j = k
    · subst e
      rw [if_pos rfl]
      rw [has_get] at h
      unfold get at h
      rw [Option.isSome_map] at h
      obtain ⟨p, hp⟩ := Option.isSome_iff_exists.mp h
      rw [hp]
      have := List.find?_some hp
      show some ((if decide (p.1 = j) then (p.1, v) else p).2) = _
      rw [if_pos this]
    · rw [if_neg e]
      cases hf : d.l.find? (fun p => decide (p.1 = j)) with
      | none => rfl
      | some p =>
        have := List.find?_some hf
        have := of_decide_eq_true this
        show some ((if decide (p.1 = k) then (p.1, v) else p).2) = some p.2
        rw [if_neg (by rw [this]; simpa using e)]
  · rw [if_neg h]
    show Option.map _ (List.find? _ (d.l ++ [(k, v)])) = _
    rw [List.find?_append]
    have hn : d.l.find? (fun p => decide (p.1 = k)) = none := by
      cases hf : d.l.find? (fun p => decide (p.1 = k)) with
      | none => rfl
      | some p => exact absurd (by rw [has_get]; unfold get; rw [hf]; rfl) h
    by_cases e : j = k
    · subst e
      rw [if_pos rfl, hn]
      simp
    · rw [if_neg e]
      cases hf : d.l.find? (fun p => decide (p.1 = j)) with
      | none => simp [Ne.symm e]
      | some p => rfl
theorem keys_put : (d.put k v).keys = if d.has k then d.keys else d.keys ++ [k] := by
  unfold put keys
  by_cases h : d.has k = true
  · rw [if_pos h, if_pos h]
    show List.map _ (List.map _ d.l) = _
    rw [List.map_map]
    congr 1
    funext p
    show (if decide (p.1 = k) then (p.1, v) else p).1 = _
    split <;> rfl
  · rw [if_neg h, if_neg h]
    show List.map _ (d.l ++ [(k, v)]) = _
    rw [List.map_append]; rfl
theorem nd_put (h : d.ND) : (d.put k v).ND := by
  unfold ND
  rw [keys_put]
  split
  · exact h
  · rename_i hk
    refine List.nodup_append.mpr ⟨h, List.nodup_cons.mpr ⟨by simp, List.nodup_nil⟩, fun a ha b hb e => hk ?_⟩
    have : b = k := by simpa using hb
    rw [← mem_keys, ← this, ← e]; exact ha
theorem nd_nil : (⟨[]⟩ : Dct α β).ND := List.nodup_nil
theorem len_put : (d.put k v).l.length = if d.has k then d.l.length else d.l.length + 1 := by
  have : ∀ d : Dct α β, d.l.length = d.keys.length := fun d => by unfold keys; rw [List.length_map]
  rw [this, keys_put, this d]
  split <;> simp
theorem len_keys : d.keys.length = d.l.length := by unfold keys; rw [List.length_map]
theorem has_put : (d.put k v).has j = (decide (j = k) || d.has j) := by
  rw [has_get, get_put, has_get]
  by_cases e : j = k
  · rw [if_pos e, decide_eq_true e]; rfl
  · rw [if_neg e, decide_eq_false e]; rfl
end Dct
theorem putR_ok {α β : Type} [DecidableEq α] {d : Dct α β} {k : α} {v : β} (h : d.l.length < 1000000) : putR d k v = .ok (d.put k v) := if_pos h
/-- keys of few values: few -/
theorem nodup_le {α : Type} [DecidableEq α] : ∀ {xs ys : List α}, xs.Nodup → (∀ x ∈ xs, x ∈ ys) → xs.length ≤ ys.length
  | [], _, _, _ => Nat.zero_le _
  | x :: xs, ys, hn, h => by
    obtain ⟨h1, h2⟩ := List.nodup_cons.mp hn
    have := nodup_le (xs := xs) (ys := ys.erase x) h2 fun y hy => (List.mem_erase_of_ne (fun e => h1 (by rw [← e]; exact hy))).mpr (h y (.tail _ hy))
    rw [List.length_erase_of_mem (h x (.head _))] at this
    have : 0 < ys.length := List.length_pos_of_mem (h x (.head _))
    rw [List.length_cons]
    omega
theorem nodup_int {xs : List Int} {n : Nat} (h : xs.Nodup) (hb : ∀ x ∈ xs, 0 ≤ x ∧ x < n) : xs.length ≤ n := by
  have := nodup_le (ys := zr 0 n) h fun x hx => zr_mem.mpr (hb x hx)
  rw [zr_len] at this
  omega

/-! ### sorting -/
section
variable [Enc T] [DecidableEq T] [EqE T] [OrdE T] {xs ys : List T} {x y : T}
theorem sort_mem : x ∈ sortT xs ↔ x ∈ xs := (sortT_perm xs).mem_iff
theorem sort_len : (sortT xs).length = xs.length := (sortT_perm xs).length_eq
theorem sort_nodup (h : xs.Nodup) : (sortT xs).Nodup := (sortT_perm xs).symm.nodup h
theorem sort_same (h1 : xs.Nodup) (h2 : ys.Nodup) (h : ∀ x, x ∈ xs ↔ x ∈ ys) : sortT xs = sortT ys :=
  sortT_eq ((sortT_perm xs).trans (((List.perm_ext_iff_of_nodup h1 h2).mpr h).trans (sortT_perm ys).symm)) (sortT_sorted _) (sortT_sorted _)
theorem sort_eq_of (h1 : xs.Pairwise fun x y => ltT y x = false) (h : xs.Perm ys) : sortT ys = xs :=
  sortT_eq ((sortT_perm ys).trans h.symm) (sortT_sorted _) h1
theorem sort_id (h1 : xs.Pairwise fun x y => ltT y x = false) : sortT xs = xs := sort_eq_of h1 (List.Perm.refl _)
/-- the least is first -/
theorem sort_head (h : (sortT xs)[0]? = some x) : x ∈ xs ∧ ∀ y ∈ xs, ltT y x = false := by
  cases e : sortT xs with
  | nil => rw [e] at h; cases h
  | cons z zs =>
    rw [e] at h
    have : z = x := by simpa using h
    subst this
    have hs := sortT_sorted xs
    rw [e] at hs
    have hs := List.pairwise_cons.mp hs
    refine ⟨sort_mem.mp (by rw [e]; exact .head _), fun y hy => ?_⟩
    have : y ∈ sortT xs := sort_mem.mpr hy
    rw [e] at this
    rcases List.mem_cons.mp this with rfl | hy
    · exact lt_irrefl _
    · exact hs.1 y hy
theorem sort_least (hx : x ∈ xs) (h : ∀ y ∈ xs, ltT y x = false) : (sortT xs)[0]? = some x := by
  cases e : (sortT xs)[0]? with
  | none =>
    rw [List.getElem?_eq_none_iff, sort_len] at e
    have := List.length_pos_of_mem hx
    omega
  | some z =>
    obtain ⟨h1, h2⟩ := sort_head e
    rw [lt_total (h z h1) (h2 x hx)]
theorem sort_ne (h : xs ≠ []) : ∃ x, (sortT xs)[0]? = some x := by
  cases e : (sortT xs)[0]? with
  | none =>
    rw [List.getElem?_eq_none_iff, sort_len] at e
    exact absurd (List.eq_nil_of_length_eq_zero (by omega)) h
  | some z => exact ⟨z, rfl⟩
theorem sortR_ok (h : xs.length ≤ 1000000) : sortR xs = .ok (sortT xs) := if_pos h
theorem setSortR_ok (h : xs.length < 4095) : setSortR xs = .ok (sortT (dedupT xs)) := if_pos (by omega)
end
theorem ints_sorted {xs : List Int} : (sortT xs).Pairwise (· ≤ ·) := (sortT_sorted xs).imp fun {a b} h => by
  rw [lt_int] at h
  have := of_decide_eq_false h
  omega
theorem sort_ints {xs : List Int} (h : xs.Pairwise (· ≤ ·)) : sortT xs = xs := sort_id (h.imp fun {a b} h => by
  rw [lt_int]
  exact decide_eq_false (by omega))
theorem zr_up (lo hi : Int) : (zr lo hi).Pairwise (· < ·) := by
  unfold zr
  rw [List.pairwise_map]
  exact List.pairwise_lt_range.imp fun {a b} h => by omega
theorem zr_nodup (lo hi : Int) : (zr lo hi).Nodup := (zr_up lo hi).imp fun {a b} h e => by omega
/-- ascending lists of the same members are the same -/
theorem up_same {xs ys : List Int} (h1 : xs.Pairwise (· < ·)) (h2 : ys.Pairwise (· < ·)) (h : ∀ x, x ∈ xs ↔ x ∈ ys) : xs = ys := by
  have n1 : xs.Nodup := h1.imp fun {a b} h e => by omega
  have n2 : ys.Nodup := h2.imp fun {a b} h e => by omega
  have := sort_same n1 n2 h
  rwa [sort_ints (h1.imp fun {a b} h => by omega), sort_ints (h2.imp fun {a b} h => by omega)] at this

/-! ### texts of data -/
/-- data whose text is no matter -/
structure RB [Enc A] (b : Nat) (x : A) : Prop where
  ok : okd (enc x) = true
  le : (enc x).bulk ≤ b
theorem RB.mono [Enc A] {b c : Nat} {x : A} (h : RB b x) (hc : b ≤ c) : RB c x := ⟨h.ok, Nat.le_trans h.le hc⟩
theorem rb_int {i : Int} (h : i.natAbs < 10 ^ 12) : RB 0 i := ⟨okd_int h, Nat.le_refl _⟩
theorem rb_bool (x : Bool) : RB 0 x := ⟨rfl, Nat.le_refl _⟩
theorem rb_str {s : Str} (h : PyData.strOk s = true) : RB s.length s := ⟨h, Nat.le_refl _⟩
theorem rb_list [Enc A] {b : Nat} {xs : List A} (h : ∀ x ∈ xs, RB b x) : RB (xs.length * (b + 1)) xs := ⟨okd_list fun x hx => (h x hx).ok, bulk_list fun x hx => (h x hx).le⟩
theorem rb_tup [Enc A] {b : Nat} {xs : List A} (h : ∀ x ∈ xs, RB b x) : RB (xs.length * (b + 1)) (⟨xs⟩ : Tup A) := ⟨okd_tup fun x hx => (h x hx).ok, bulk_list fun x hx => (h x hx).le⟩
theorem rb_none [Enc A] : RB 0 (none : Option A) := ⟨rfl, Nat.le_refl _⟩
theorem rb_some [Enc A] {b : Nat} {x : A} (h : RB b x) : RB b (some x) := ⟨h.ok, h.le⟩
theorem rb_pair [Enc A] [Enc B] {b c : Nat} {x : A} {y : B} (h : RB b x) (g : RB c y) : RB (b + c + 2) (x, y) := ⟨by
  show (okd (enc x) && (okd (enc y) && true)) = true
  rw [h.ok, g.ok]; rfl, by
  show (enc x).bulk + 1 + ((enc y).bulk + 1 + 0) ≤ _
  have := h.le; have := g.le; omega⟩
theorem rb_t3 [Enc A] [Enc B] [Enc U] {a b c : Nat} {x : T3 A B U} (h : RB a x.a) (g : RB b x.b) (i : RB c x.c) : RB (a + b + c + 3) x := ⟨by
  show (okd (enc x.a) && (okd (enc x.b) && (okd (enc x.c) && true))) = true
  rw [h.ok, g.ok, i.ok]; rfl, by
  show (enc x.a).bulk + 1 + ((enc x.b).bulk + 1 + ((enc x.c).bulk + 1 + 0)) ≤ _
  have := h.le; have := g.le; have := i.le; omega⟩
theorem rb_ints {xs : List Int} {n : Nat} (h : ∀ x ∈ xs, x.natAbs < 10 ^ 12) (hl : xs.length ≤ n) : RB n xs := (rb_list fun x hx => rb_int (h x hx)).mono (by omega)
theorem rb_repr [Enc A] [DecidableEq A] [h : EqE A] {b : Nat} {x : A} (hd : h.dep ≤ 12 := by decide) (r : RB b x) (hb : b ≤ 600000) : ∃ s, reprT x = .ok s :=
  ⟨_, repr_ok (EqE.fl_ x deep hd) r.ok (Nat.le_trans r.le hb)⟩
/-! ### lists of lists, in order -/
theorem lt_lists {xs ys : List Int} : ltT xs ys = decide (xs < ys) := by
  show PySem.W.dataLt (.list (xs.map PyData.int)) (.list (ys.map PyData.int)) = _
  rw [PySem.W.dataLt_list]
  exact PySem.W.dataLt_ints xs ys
theorem lt_snoc {a b : Int} : ∀ {xs ys : List Int}, xs.length = ys.length → (xs < ys ∨ (xs = ys ∧ a < b)) → xs ++ [a] < ys ++ [b]
  | [], [], _, h => by
    rcases h with h | ⟨_, h⟩
    · exact absurd h (List.not_lt_nil _)
    · exact List.cons_lt_cons_iff.mpr (.inl h)
  | x :: xs, y :: ys, hl, h => by
    rw [List.cons_append, List.cons_append]
    refine List.cons_lt_cons_iff.mpr ?_
    rcases h with h | ⟨h, h2⟩
    · rcases List.cons_lt_cons_iff.mp h with h | ⟨h, h3⟩
      · exact .inl h
      · exact .inr ⟨h, lt_snoc (by simpa using hl) (.inl h3)⟩
    · cases h
      exact .inr ⟨rfl, lt_snoc rfl (.inr ⟨rfl, h2⟩)⟩
theorem lc2_ok {α β γ : Type} {p : α → R Bool} {i : α → R (List β)} {q : α → β → R Bool} {f : α → β → R γ} (g : α → List β) (h : α → β → γ) (hp : ∀ x, p x = .ok true) (hq : ∀ x y, q x y = .ok true) :
    ∀ xs : List α, (∀ x ∈ xs, i x = .ok (g x) ∧ ∀ y ∈ g x, f x y = .ok (h x y)) → lc2R p i q f xs = .ok (xs.flatMap fun x => (g x).map (h x))
  | [], _ => rfl
  | x :: xs, hx => by
    unfold lc2R
    obtain ⟨h1, h2⟩ := hx x (.head _)
    rw [hp, R.bind_ok, if_pos rfl, h1, R.bind_ok, lc_ok (fun _ => true) (h x) (fun y _ => hq x y) (fun y hy _ => h2 y hy), R.bind_ok, lc2_ok g h hp hq xs fun y hy => hx y (.tail _ hy), R.bind_ok, List.flatMap_cons, fil_yes]
/-- ascending, looked at pair by pair -/
def ups : List Int → Bool
  | a :: b :: r => decide (a < b) && ups (b :: r)
  | _ => true
theorem ups_iff : ∀ {xs : List Int}, ups xs = true ↔ xs.Pairwise (· < ·)
  | [] => by simp [ups]
  | [a] => by simp [ups]
  | a :: b :: r => by
    have ih := ups_iff (xs := b :: r)
    unfold ups
    rw [Bool.and_eq_true, decide_eq_true_iff, ih]
    constructor
    · rintro ⟨h1, h2⟩
      refine List.pairwise_cons.mpr ⟨fun x hx => ?_, h2⟩
      rcases List.mem_cons.mp hx with rfl | hx
      · exact h1
      · exact Int.lt_trans h1 ((List.pairwise_cons.mp h2).1 x hx)
    · intro h
      obtain ⟨h1, h2⟩ := List.pairwise_cons.mp h
      exact ⟨h1 b (.head _), h2⟩
theorem ups_zip : ∀ (xs : List Int), ((xs.zip (xs.drop 1)).all fun p => decide (p.1 < p.2)) = ups xs
  | [] => rfl
  | [a] => rfl
  | a :: b :: r => by
    have ih := ups_zip (b :: r)
    unfold ups
    rw [← ih]
    rfl
/-- .. place by place -/
theorem ups_at {xs : List Int} (h : ∀ i a b, xs[i]? = some a → xs[i + 1]? = some b → a < b) : xs.Pairwise (· < ·) := by
  rw [← ups_iff]
  induction xs with
  | nil => rfl
  | cons a r ih =>
    cases r with
    | nil => rfl
    | cons b r =>
      unfold ups
      rw [decide_eq_true (h 0 a b rfl rfl), Bool.true_and]
      exact ih fun i x y hx hy => h (i + 1) x y hx hy
theorem up_at {xs : List Int} (h : xs.Pairwise (· < ·)) {i j : Nat} {a b : Int} (hi : xs[i]? = some a) (hj : xs[j]? = some b) (hij : i < j) : a < b := by
  obtain ⟨h1, e1⟩ := List.getElem?_eq_some_iff.mp hi
  obtain ⟨h2, e2⟩ := List.getElem?_eq_some_iff.mp hj
  have := (List.pairwise_iff_getElem.mp h) i j h1 h2 hij
  rw [e1, e2] at this
  exact this
end Tv
namespace Q
open PySem PySem.Spec PyProof.Rows L2 Dv

def txt (i : Nat) : Stmt := PySem.Challenge.pw_headsandpages_k54_whole_orders_of_glossa.main.body.getD i (.Pass ⟨0, 0, 0, 0⟩)
def c_u_law_draws : Cfg := ⟨["script", "draws", "k", "rest", "turn", "mixed"], [], ["range", "min", "abs", "len", "int"], [], []⟩
def b_u_law_draws : DS :=
  (sSeq [sAsg (gNm 1) (eLst []),
    sFor (gNm 2) (iRng1 (eCall (callB "min") [eC (.int 63), eCall (callB "len") [eV 0]]))
      (sSeq [sAsg (gNm 3) (eCall (callB "abs") [eIx (eV 0) (eV 2)]),
        sIf (tCmp (eV 3) [(.GtE, eBin .Pow (eC (.int 10)) (eC (.int 18)))])
          (sSeq [sFor (gNm 4) (iRng1 (eC (.int 60)))
              (sSeq [sIf (tCmp (eV 3) [(.Gt, eC (.int 0))])
                  (sSeq [sApp 1 (eBin .Mod (eCall (callB "int") [eV 3]) (eC (.int 65536))),
                    sAsg (gNm 3) (eBin .FloorDiv (eV 3) (eC (.int 65536)))])
                  (sSeq [])])])
          (sSeq [sAsg (gNm 5) (eBin .Mod (eCall (callB "int") [eBin .Add (eBin .Mult (eV 3) (eC (.int 48271))) (eBin .Mult (eBin .Add (eV 2) (eC (.int 1))) (eC (.int 69621)))]) (eC (.int 2147483647))),
            sAsg (gNm 5) (eBin .Mod (eCall (callB "int") [eBin .Add (eBin .Add (eBin .Mult (eV 5) (eC (.int 16807))) (eBin .Mult (eC (.int 11)) (eV 2))) (eC (.int 5))]) (eC (.int 2147483629))),
            sApp 1 (eBin .Mod (eCall (callB "int") [eV 5]) (eC (.int 65536))),
            sApp 1 (eBin .Mod (eCall (callB "int") [eBin .FloorDiv (eV 5) (eC (.int 65536))]) (eC (.int 32768)))])]),
    sRet (eV 1)])
def m_u_law_draws : List D → R D := gFlat true (runF 1 6 b_u_law_draws)
theorem t_u_law_draws : dB c_u_law_draws (defScope (txt 19)) 60 (defBody (txt 19)) = b_u_law_draws := by kernel_rfl
theorem k_u_law_draws : (kBl c_u_law_draws 3 (defScope (txt 19)) 60 (clr (top c_u_law_draws) (List.range 1)) (defBody (txt 19))).isSome = true := by kernel_rfl
theorem s_u_law_draws : FnScope c_u_law_draws.N ["script"] (defScope (txt 19)) := C8.fnScope_by (by decide +kernel)
def c_u_law_mix : Cfg := ⟨["draws", "k", "many", "cell"], [], ["len", "int"], [], []⟩
def b_u_law_mix : DS :=
  (sSeq [sAsg (gNm 3) (eC (.int 0)),
    sIf (tCmp (eCall (callB "len") [eV 0]) [(.Gt, eC (.int 0))])
      (sSeq [sAsg (gNm 3) (eIx (eV 0) (eBin .Mod (eCall (callB "int") [eV 1]) (eCall (callB "len") [eV 0])))])
      (sSeq []),
    sIf (tCmp (eV 1) [(.Lt, eCall (callB "len") [eV 0])])
      (sSeq [sRet (eBin .Mod (eCall (callB "int") [eV 3]) (eV 2))])
      (sSeq []),
    sRet (eBin .Mod (eCall (callB "int") [eBin .FloorDiv (eCall (callB "int") [eBin .Add (eBin .Mult (eV 3) (eC (.int 7919))) (eBin .Mult (eV 1) (eC (.int 104729)))]) (eC (.int 3))]) (eV 2))])
def m_u_law_mix : List D → R D := gFlat true (runF 3 4 b_u_law_mix)
theorem t_u_law_mix : dB c_u_law_mix (defScope (txt 20)) 60 (defBody (txt 20)) = b_u_law_mix := by kernel_rfl
theorem k_u_law_mix : (kBl c_u_law_mix 3 (defScope (txt 20)) 60 (clr (top c_u_law_mix) (List.range 3)) (defBody (txt 20))).isSome = true := by kernel_rfl
theorem s_u_law_mix : FnScope c_u_law_mix.N ["draws", "k", "many"] (defScope (txt 20)) := C8.fnScope_by (by decide +kernel)
def c_u_law_glossary : Cfg := ⟨["draws", "k", "most", "many", "word", "wide", "found", "a", "told", "b", "able"], [("_law_mix", .fn m_u_law_mix 3 true)], ["range"], [], []⟩
def b_u_law_glossary : DS :=
  (sSeq [sAsg (gNm 3) (eBin .Add (eC (.int 1)) (eCall m_u_law_mix [eV 0, eV 1, eV 2])),
    sAsg (gNm 4) (eCall m_u_law_mix [eV 0, eBin .Add (eV 1) (eC (.int 1)), eC (.int 3)]),
    sAsg (gNm 5) (eIx (eLst [eC (.int 2), eC (.int 3), eC (.int 5)]) (eCall m_u_law_mix [eV 0, eBin .Add (eV 1) (eC (.int 2)), eC (.int 3)])),
    sAsg (gNm 6) (eLst []),
    sFor (gNm 7) (iRng1 (eV 3))
      (sSeq [sAsg (gNm 8) (eLst []),
        sFor (gNm 9) (iRng1 (eV 3))
          (sSeq [sAsg (gNm 10) (eIx (eLst [eT (tCmp (eV 9) [(.Gt, eV 7)]), eT (tCmp (eV 9) [(.NotEq, eV 7)]), eC (.bool true)]) (eV 4)),
            sIf (tAnds [tTru (eV 10), tCmp (eCall m_u_law_mix [eV 0, eBin .Add (eBin .Add (eBin .Add (eV 1) (eC (.int 4))) (eBin .Mult (eC (.int 9)) (eV 7))) (eV 9), eV 5]) [(.Eq, eC (.int 0))]])
              (sSeq [sApp 8 (eV 9)])
              (sSeq [])]),
        sApp 6 (eV 8)]),
    sRet (eV 6)])
def m_u_law_glossary : List D → R D := runF 3 11 b_u_law_glossary
theorem t_u_law_glossary : dB c_u_law_glossary (defScope (txt 21)) 60 (defBody (txt 21)) = b_u_law_glossary := by kernel_rfl
theorem k_u_law_glossary : (kBl c_u_law_glossary 3 (defScope (txt 21)) 60 (clr (top c_u_law_glossary) (List.range 3)) (defBody (txt 21))).isSome = true := by kernel_rfl
theorem s_u_law_glossary : FnScope c_u_law_glossary.N ["draws", "k", "most"] (defScope (txt 21)) := C8.fnScope_by (by decide +kernel)
def c_u_law_first : Cfg := ⟨["glossary", "known", "turn", "found", "left", "free", "word", "other"], [], ["list", "range", "len"], [], []⟩
def b_u_law_first : DS :=
  (sSeq [sAsg (gTp [gNm 3, gNm 4]) (eTup [eLst [], eLstI (iRng1 (eCall (callB "len") [eV 0]))]),
    sFor (gNm 2) (iExp (eV 0))
      (sSeq [sAsg (gNm 5) (eLc [6] (gNm 6) (iExp (eV 4)) (tOrs [tCmp (eV 6) [(.In, eV 1)], tCmp (eLc [7] (gNm 7) (iExp (eIx (eV 0) (eV 6))) (tAnds [tCmp (eV 7) [(.NotIn, eV 1)], tCmp (eV 7) [(.NotIn, eV 3)]]) (eV 7)) [(.Eq, eLst [])]]) (eV 6)),
        sIf (tCmp (eV 5) [(.Eq, eLst [])])
          (sSeq [sRet (eC .none)])
          (sSeq []),
        sApp 3 (eIx (eV 5) (eC (.int 0))),
        sAsg (gNm 4) (eLc [6] (gNm 6) (iExp (eV 4)) (tCmp (eV 6) [(.NotEq, eIx (eV 5) (eC (.int 0)))]) (eV 6))]),
    sRet (eV 3)])
def m_u_law_first : List D → R D := gFlat true (runF 2 8 b_u_law_first)
theorem t_u_law_first : dB c_u_law_first (defScope (txt 23)) 60 (defBody (txt 23)) = b_u_law_first := by kernel_rfl
theorem k_u_law_first : (kBl c_u_law_first 3 (defScope (txt 23)) 60 (clr (top c_u_law_first) (List.range 2)) (defBody (txt 23))).isSome = true := by kernel_rfl
theorem s_u_law_first : FnScope c_u_law_first.N ["glossary", "known"] (defScope (txt 23)) := C8.fnScope_by (by decide +kernel)
def c_check_glossary : Cfg := ⟨["glossary", "k", "told", "word"], [("MOST_WORDS", .con (.int 9))], ["enumerate", "len", "range"], [], []⟩
def b_check_glossary : DS :=
  (sSeq [sIf (tNot (tCmp (eC (.int 1)) [(.LtE, eCall (callB "len") [eV 0]), (.LtE, eC (.int 9))]))
      (sSeq [sBad])
      (sSeq []),
    sFor (gTp [gNm 1, gNm 2]) (iEnum (eV 0))
      (sSeq [sIf (tCmp (eV 2) [(.NotEq, eLc [3] (gNm 3) (iRng1 (eCall (callB "len") [eV 0])) (tCmp (eV 3) [(.In, eV 2)]) (eV 3))])
          (sSeq [sBad])
          (sSeq [])])])
def m_check_glossary : List D → R D := gFlat true (runF 1 4 b_check_glossary)
theorem t_check_glossary : dB c_check_glossary (defScope (txt 7)) 60 (defBody (txt 7)) = b_check_glossary := by kernel_rfl
theorem k_check_glossary : (kBl c_check_glossary 3 (defScope (txt 7)) 60 (clr (top c_check_glossary) (List.range 1)) (defBody (txt 7))).isSome = true := by kernel_rfl
theorem s_check_glossary : FnScope c_check_glossary.N ["glossary"] (defScope (txt 7)) := C8.fnScope_by (by decide +kernel)
def c_check_known : Cfg := ⟨["glossary", "known", "k", "word"], [("check_glossary", .fn m_check_glossary 3 true)], ["enumerate", "len"], [], []⟩
def b_check_known : DS :=
  (sSeq [sDrop (eCall m_check_glossary [eV 0]),
    sFor (gTp [gNm 2, gNm 3]) (iEnum (eV 1))
      (sSeq [sIf (tOrs [tNot (tCmp (eC (.int 0)) [(.LtE, eV 3), (.Lt, eCall (callB "len") [eV 0])]), tAnds [tCmp (eV 2) [(.Gt, eC (.int 0))], tCmp (eIx (eV 1) (eBin .Sub (eV 2) (eC (.int 1)))) [(.GtE, eV 3)]]])
          (sSeq [sBad])
          (sSeq [])])])
def m_check_known : List D → R D := gFlat true (runF 2 4 b_check_known)
theorem t_check_known : dB c_check_known (defScope (txt 8)) 60 (defBody (txt 8)) = b_check_known := by kernel_rfl
theorem k_check_known : (kBl c_check_known 3 (defScope (txt 8)) 60 (clr (top c_check_known) (List.range 2)) (defBody (txt 8))).isSome = true := by kernel_rfl
theorem s_check_known : FnScope c_check_known.N ["glossary", "known"] (defScope (txt 8)) := C8.fnScope_by (by decide +kernel)
def c_order_of : Cfg := ⟨["glossary", "known", "found", "left", "free", "ahead", "word", "other"], [], ["list", "range", "len", "all"], [], []⟩
def b_order_of : DS :=
  (sSeq [sAsg (gNm 2) (eLst []),
    sAsg (gNm 3) (eLstI (iRng1 (eCall (callB "len") [eV 0]))),
    sAsg (gNm 4) (eV 3),
    sWhl (tCmp (eCall (callB "len") [eV 4]) [(.Gt, eC (.int 0))])
      (sSeq [sAsg (gNm 5) (eLstS [(true, eV 1), (true, eV 2)]),
        sAsg (gNm 4) (eLc [6] (gNm 6) (iExp (eV 3)) (tOrs [tCmp (eV 6) [(.In, eV 1)], tTru (eCall (callB "all") [eLc [7] (gNm 7) (iExp (eIx (eV 0) (eV 6))) (tYes) (eT (tCmp (eV 7) [(.In, eV 5)]))])]) (eV 6)),
        sExt 2 (eSl (eV 4) none (some (eC (.int 1)))),
        sAsg (gNm 3) (eLc [6] (gNm 6) (iExp (eV 3)) (tCmp (eV 6) [(.NotIn, eV 2)]) (eV 6))]),
    sRet (eTup [eV 2, eV 3])])
def m_order_of : List D → R D := runF 2 8 b_order_of
theorem t_order_of : dB c_order_of (defScope (txt 11)) 60 (defBody (txt 11)) = b_order_of := by kernel_rfl
theorem k_order_of : (kBl c_order_of 6 (defScope (txt 11)) 60 (clr (top c_order_of) (List.range 2)) (defBody (txt 11))).isSome = true := by kernel_rfl
theorem s_order_of : FnScope c_order_of.N ["glossary", "known"] (defScope (txt 11)) := C8.fnScope_by (by decide +kernel)
def c_first_order : Cfg := ⟨["glossary", "known", "found", "left"], [("check_known", .fn m_check_known 3 true), ("order_of", .fn m_order_of 6 false)], ["len"], [], []⟩
def b_first_order : DS :=
  (sSeq [sDrop (eCall m_check_known [eV 0, eV 1]),
    sAsg (gTp [gNm 2, gNm 3]) (eCall m_order_of [eV 0, eV 1]),
    sRet (eIf (tCmp (eCall (callB "len") [eV 3]) [(.Eq, eC (.int 0))]) (eV 2) (eC .none))])
def m_first_order : List D → R D := runF 2 4 b_first_order
theorem t_first_order : dB c_first_order (defScope (txt 15)) 60 (defBody (txt 15)) = b_first_order := by kernel_rfl
theorem k_first_order : (kBl c_first_order 5 (defScope (txt 15)) 60 (clr (top c_first_order) (List.range 2)) (defBody (txt 15))).isSome = true := by kernel_rfl
theorem s_first_order : FnScope c_first_order.N ["glossary", "known"] (defScope (txt 15)) := C8.fnScope_by (by decide +kernel)
def c_ring : Cfg := ⟨["glossary", "known", "walk", "_", "left", "other", "word"], [("check_known", .fn m_check_known 3 true), ("order_of", .fn m_order_of 6 false)], ["len"], [], []⟩
def b_ring : DS :=
  (sSeq [sDrop (eCall m_check_known [eV 0, eV 1]),
    sAsg (gTp [gNm 3, gNm 4]) (eCall m_order_of [eV 0, eV 1]),
    sIf (tCmp (eCall (callB "len") [eV 4]) [(.Eq, eC (.int 0))])
      (sSeq [sRet (eC .none)])
      (sSeq []),
    sAsg (gNm 2) (eLst [eIx (eV 4) (eC (.int 0))]),
    sWhl (tTru (eC (.bool true)))
      (sSeq [sAsg (gNm 5) (eIx (eLc [6] (gNm 6) (iExp (eIx (eV 0) (eIx (eV 2) (eNeg (eC (.int 1)))))) (tCmp (eV 6) [(.In, eV 4)]) (eV 6)) (eC (.int 0))),
        sIf (tCmp (eV 5) [(.In, eV 2)])
          (sSeq [sRet (eSl (eV 2) (some (eMet (metOk "index") (callM "index") (eV 2) [eV 5])) none)])
          (sSeq []),
        sApp 2 (eV 5)])])
def m_ring : List D → R D := gFlat true (runF 2 7 b_ring)
theorem t_ring : dB c_ring (defScope (txt 12)) 60 (defBody (txt 12)) = b_ring := by kernel_rfl
theorem k_ring : (kBl c_ring 3 (defScope (txt 12)) 60 (clr (top c_ring) (List.range 2)) (defBody (txt 12))).isSome = true := by kernel_rfl
theorem s_ring : FnScope c_ring.N ["glossary", "known"] (defScope (txt 12)) := C8.fnScope_by (by decide +kernel)
def c_levels : Cfg := ⟨["glossary", "known", "order", "found", "word", "_", "other"], [("first_order", .fn m_first_order 5 false)], ["range", "len", "max"], [], []⟩
def b_levels : DS :=
  (sSeq [sAsg (gNm 2) (eCall m_first_order [eV 0, eV 1]),
    sIf (tCmp (eV 2) [(.Is, eC .none)])
      (sSeq [sRet (eC .none)])
      (sSeq []),
    sAsg (gNm 3) (eDct []),
    sFor (gNm 4) (iExp (eV 2))
      (sSeq [sSet 3 (eV 4) (eC (.int 0))]),
    sFor (gNm 5) (iExp (eV 2))
      (sSeq [sFor (gNm 4) (iExp (eV 2))
          (sSeq [sIf (tAnds [tCmp (eV 4) [(.NotIn, eV 1)], tCmp (eCall (callB "len") [eIx (eV 0) (eV 4)]) [(.Gt, eC (.int 0))]])
              (sSeq [sSet 3 (eV 4) (eBin .Add (eC (.int 1)) (eCall (callB "max") [eLc [6] (gNm 6) (iExp (eIx (eV 0) (eV 4))) (tYes) (eIx (eV 3) (eV 6))]))])
              (sSeq [])])]),
    sRet (eLc [4] (gNm 4) (iRng1 (eCall (callB "len") [eV 0])) (tYes) (eIx (eV 3) (eV 4)))])
def m_levels : List D → R D := gFlat true (runF 2 7 b_levels)
theorem t_levels : dB c_levels (defScope (txt 16)) 60 (defBody (txt 16)) = b_levels := by kernel_rfl
theorem k_levels : (kBl c_levels 3 (defScope (txt 16)) 60 (clr (top c_levels) (List.range 2)) (defBody (txt 16))).isSome = true := by kernel_rfl
theorem s_levels : FnScope c_levels.N ["glossary", "known"] (defScope (txt 16)) := C8.fnScope_by (by decide +kernel)
def c_rests_of : Cfg := ⟨["glossary", "word", "found", "at", "other"], [], ["list", "sorted", "len"], [], []⟩
def b_rests_of : DS :=
  (sSeq [sAsg (gNm 2) (eCall (callB "list") [eIx (eV 0) (eV 1)]),
    sAsg (gNm 3) (eC (.int 0)),
    sWhl (tCmp (eV 3) [(.Lt, eCall (callB "len") [eV 2])])
      (sSeq [sExt 2 (eLc [4] (gNm 4) (iExp (eIx (eV 0) (eIx (eV 2) (eV 3)))) (tCmp (eV 4) [(.NotIn, eV 2)]) (eV 4)),
        sAsg (gNm 3) (eBin .Add (eV 3) (eC (.int 1)))]),
    sRet (eCall (callB "sorted") [eV 2])])
def m_rests_of : List D → R D := gFlat true (runF 2 5 b_rests_of)
theorem t_rests_of : dB c_rests_of (defScope (txt 9)) 60 (defBody (txt 9)) = b_rests_of := by kernel_rfl
theorem k_rests_of : (kBl c_rests_of 3 (defScope (txt 9)) 60 (clr (top c_rests_of) (List.range 2)) (defBody (txt 9))).isSome = true := by kernel_rfl
theorem s_rests_of : FnScope c_rests_of.N ["glossary", "word"] (defScope (txt 9)) := C8.fnScope_by (by decide +kernel)
def c_rests : Cfg := ⟨["glossary", "word"], [("check_glossary", .fn m_check_glossary 3 true), ("rests_of", .fn m_rests_of 3 true)], ["range", "len"], [], []⟩
def b_rests : DS :=
  (sSeq [sDrop (eCall m_check_glossary [eV 0]),
    sRet (eLc [1] (gNm 1) (iRng1 (eCall (callB "len") [eV 0])) (tYes) (eCall m_rests_of [eV 0, eV 1]))])
def m_rests : List D → R D := runF 1 2 b_rests
theorem t_rests : dB c_rests (defScope (txt 10)) 60 (defBody (txt 10)) = b_rests := by kernel_rfl
theorem k_rests : (kBl c_rests 3 (defScope (txt 10)) 60 (clr (top c_rests) (List.range 1)) (defBody (txt 10))).isSome = true := by kernel_rfl
theorem s_rests : FnScope c_rests.N ["glossary"] (defScope (txt 10)) := C8.fnScope_by (by decide +kernel)
def c_u_law_rests : Cfg := ⟨["glossary", "found", "turn", "later", "told", "more", "word"], [], ["list", "sorted", "set"], [], []⟩
def b_u_law_rests : DS :=
  (sSeq [sAsg (gNm 1) (eLc [4] (gNm 4) (iExp (eV 0)) (tYes) (eCall (callB "list") [eV 4])),
    sFor (gNm 2) (iExp (eV 0))
      (sSeq [sAsg (gNm 3) (eLst []),
        sFor (gNm 4) (iExp (eV 1))
          (sSeq [sAsg (gNm 5) (eCall (callB "list") [eV 4]),
            sFor (gNm 6) (iExp (eV 4))
              (sSeq [sAsg (gNm 5) (eBin .Add (eV 5) (eIx (eV 0) (eV 6)))]),
            sApp 3 (eSet1 setSortD (eV 5))]),
        sAsg (gNm 1) (eV 3)]),
    sRet (eV 1)])
def m_u_law_rests : List D → R D := runF 1 7 b_u_law_rests
theorem t_u_law_rests : dB c_u_law_rests (defScope (txt 22)) 60 (defBody (txt 22)) = b_u_law_rests := by kernel_rfl
theorem k_u_law_rests : (kBl c_u_law_rests 2 (defScope (txt 22)) 60 (clr (top c_u_law_rests) (List.range 1)) (defBody (txt 22))).isSome = true := by kernel_rfl
theorem s_u_law_rests : FnScope c_u_law_rests.N ["glossary"] (defScope (txt 22)) := C8.fnScope_by (by decide +kernel)
def c_u_law_is_ring : Cfg := ⟨["glossary", "told", "t", "word"], [], ["len", "set", "range"], [], []⟩
def b_u_law_is_ring : DS :=
  (sSeq [sIf (tOrs [tCmp (eV 1) [(.Eq, eLst [])], tCmp (eSet1 setLenD (eV 1)) [(.NotEq, eCall (callB "len") [eV 1])], tCmp (eLc [3] (gNm 3) (iExp (eV 1)) (tNot (tCmp (eC (.int 0)) [(.LtE, eV 3), (.Lt, eCall (callB "len") [eV 0])])) (eV 3)) [(.NotEq, eLst [])]])
      (sSeq [sRet (eC (.bool false))])
      (sSeq []),
    sRet (eT (tCmp (eLc [2] (gNm 2) (iRng1 (eCall (callB "len") [eV 1])) (tCmp (eIx (eV 1) (eV 2)) [(.NotIn, eIx (eV 0) (eIx (eV 1) (eBin .Sub (eV 2) (eC (.int 1)))))]) (eV 2)) [(.Eq, eLst [])]))])
def m_u_law_is_ring : List D → R D := gFlat true (runF 2 4 b_u_law_is_ring)
theorem t_u_law_is_ring : dB c_u_law_is_ring (defScope (txt 26)) 60 (defBody (txt 26)) = b_u_law_is_ring := by kernel_rfl
theorem k_u_law_is_ring : (kBl c_u_law_is_ring 3 (defScope (txt 26)) 60 (clr (top c_u_law_is_ring) (List.range 2)) (defBody (txt 26))).isSome = true := by kernel_rfl
theorem s_u_law_is_ring : FnScope c_u_law_is_ring.N ["glossary", "told"] (defScope (txt 26)) := C8.fnScope_by (by decide +kernel)
def c_u_law_levels : Cfg := ⟨["glossary", "known", "found", "turn", "word", "other"], [], ["len", "range", "max"], [], []⟩
def b_u_law_levels : DS :=
  (sSeq [sAsg (gNm 2) (eBin .Mult (eLst [eC (.int 0)]) (eCall (callB "len") [eV 0])),
    sFor (gNm 3) (iExp (eV 0))
      (sSeq [sFor (gNm 4) (iRng1 (eCall (callB "len") [eV 0]))
          (sSeq [sIf (tAnds [tCmp (eV 4) [(.NotIn, eV 1)], tCmp (eIx (eV 0) (eV 4)) [(.NotEq, eLst [])]])
              (sSeq [sSet 2 (eV 4) (eBin .Add (eC (.int 1)) (eCall (callB "max") [eLc [5] (gNm 5) (iExp (eIx (eV 0) (eV 4))) (tYes) (eIx (eV 2) (eV 5))]))])
              (sSeq [])])]),
    sRet (eV 2)])
def m_u_law_levels : List D → R D := gFlat true (runF 2 6 b_u_law_levels)
theorem t_u_law_levels : dB c_u_law_levels (defScope (txt 24)) 60 (defBody (txt 24)) = b_u_law_levels := by kernel_rfl
theorem k_u_law_levels : (kBl c_u_law_levels 3 (defScope (txt 24)) 60 (clr (top c_u_law_levels) (List.range 2)) (defBody (txt 24))).isSome = true := by kernel_rfl
theorem s_u_law_levels : FnScope c_u_law_levels.N ["glossary", "known"] (defScope (txt 24)) := C8.fnScope_by (by decide +kernel)
def c_is_order : Cfg := ⟨["glossary", "known", "told", "k", "word", "other"], [("check_known", .fn m_check_known 3 true)], ["enumerate", "sorted", "list", "range", "len", "all"], [], []⟩
def b_is_order : DS :=
  (sSeq [sDrop (eCall m_check_known [eV 0, eV 1]),
    sIf (tCmp (eCall (callB "sorted") [eV 2]) [(.NotEq, eLstI (iRng1 (eCall (callB "len") [eV 0])))])
      (sSeq [sRet (eC (.bool false))])
      (sSeq []),
    sFor (gTp [gNm 3, gNm 4]) (iEnum (eV 2))
      (sSeq [sIf (tAnds [tCmp (eV 4) [(.NotIn, eV 1)], tNot (tTru (eCall (callB "all") [eLc [5] (gNm 5) (iExp (eIx (eV 0) (eV 4))) (tYes) (eOrs [eT (tCmp (eV 5) [(.In, eV 1)]), eT (tCmp (eV 5) [(.In, eSl (eV 2) none (some (eV 3)))])])]))])
          (sSeq [sRet (eC (.bool false))])
          (sSeq [])]),
    sRet (eC (.bool true))])
def m_is_order : List D → R D := gFlat true (runF 3 6 b_is_order)
theorem t_is_order : dB c_is_order (defScope (txt 17)) 60 (defBody (txt 17)) = b_is_order := by kernel_rfl
theorem k_is_order : (kBl c_is_order 3 (defScope (txt 17)) 60 (clr (top c_is_order) (List.range 3)) (defBody (txt 17))).isSome = true := by kernel_rfl
theorem s_is_order : FnScope c_is_order.N ["glossary", "known", "told"] (defScope (txt 17)) := C8.fnScope_by (by decide +kernel)
def c_u_law_is_order : Cfg := ⟨["glossary", "known", "told", "k", "other"], [], ["range", "sorted", "list", "len"], [], []⟩
def b_u_law_is_order : DS :=
  (sSeq [sIf (tCmp (eCall (callB "sorted") [eV 2]) [(.NotEq, eLstI (iRng1 (eCall (callB "len") [eV 0])))])
      (sSeq [sRet (eC (.bool false))])
      (sSeq []),
    sFor (gNm 3) (iRng1 (eCall (callB "len") [eV 2]))
      (sSeq [sIf (tAnds [tCmp (eIx (eV 2) (eV 3)) [(.NotIn, eV 1)], tCmp (eLc [4] (gNm 4) (iExp (eIx (eV 0) (eIx (eV 2) (eV 3)))) (tAnds [tCmp (eV 4) [(.NotIn, eV 1)], tCmp (eV 4) [(.NotIn, eSl (eV 2) none (some (eV 3)))]]) (eV 4)) [(.NotEq, eLst [])]])
          (sSeq [sRet (eC (.bool false))])
          (sSeq [])]),
    sRet (eC (.bool true))])
def m_u_law_is_order : List D → R D := gFlat true (runF 3 5 b_u_law_is_order)
theorem t_u_law_is_order : dB c_u_law_is_order (defScope (txt 25)) 60 (defBody (txt 25)) = b_u_law_is_order := by kernel_rfl
theorem k_u_law_is_order : (kBl c_u_law_is_order 3 (defScope (txt 25)) 60 (clr (top c_u_law_is_order) (List.range 3)) (defBody (txt 25))).isSome = true := by kernel_rfl
theorem s_u_law_is_order : FnScope c_u_law_is_order.N ["glossary", "known", "told"] (defScope (txt 25)) := C8.fnScope_by (by decide +kernel)
def c_ring_in : Cfg := ⟨["glossary", "told", "one", "two", "word"], [], ["all", "len", "set", "zip"], [], []⟩
def b_ring_in : DS :=
  (sSeq [sIf (tOrs [tCmp (eCall (callB "len") [eV 1]) [(.Eq, eC (.int 0))], tCmp (eSet1 setLenD (eV 1)) [(.Lt, eCall (callB "len") [eV 1])], tNot (tTru (eCall (callB "all") [eLc [4] (gNm 4) (iExp (eV 1)) (tYes) (eT (tCmp (eC (.int 0)) [(.LtE, eV 4), (.Lt, eCall (callB "len") [eV 0])]))]))])
      (sSeq [sRet (eC (.bool false))])
      (sSeq []),
    sRet (eCall (callB "all") [eLc [2, 3] (gTp [gNm 2, gNm 3]) (iZip (eV 1) (eBin .Add (eSl (eV 1) (some (eC (.int 1))) none) (eSl (eV 1) none (some (eC (.int 1)))))) (tYes) (eT (tCmp (eV 3) [(.In, eIx (eV 0) (eV 2))]))])])
def m_ring_in : List D → R D := gFlat true (runF 2 5 b_ring_in)
theorem t_ring_in : dB c_ring_in (defScope (txt 13)) 60 (defBody (txt 13)) = b_ring_in := by kernel_rfl
theorem k_ring_in : (kBl c_ring_in 3 (defScope (txt 13)) 60 (clr (top c_ring_in) (List.range 2)) (defBody (txt 13))).isSome = true := by kernel_rfl
theorem s_ring_in : FnScope c_ring_in.N ["glossary", "told"] (defScope (txt 13)) := C8.fnScope_by (by decide +kernel)
def c_is_ring : Cfg := ⟨["glossary", "told"], [("check_glossary", .fn m_check_glossary 3 true), ("ring_in", .fn m_ring_in 3 true)], [], [], []⟩
def b_is_ring : DS :=
  (sSeq [sDrop (eCall m_check_glossary [eV 0]),
    sRet (eCall m_ring_in [eV 0, eV 1])])
def m_is_ring : List D → R D := gFlat true (runF 2 2 b_is_ring)
theorem t_is_ring : dB c_is_ring (defScope (txt 14)) 60 (defBody (txt 14)) = b_is_ring := by kernel_rfl
theorem k_is_ring : (kBl c_is_ring 3 (defScope (txt 14)) 60 (clr (top c_is_ring) (List.range 2)) (defBody (txt 14))).isSome = true := by kernel_rfl
theorem s_is_ring : FnScope c_is_ring.N ["glossary", "told"] (defScope (txt 14)) := C8.fnScope_by (by decide +kernel)
def c_law : Cfg := ⟨["script", "draws", "turn", "glossary", "many", "known", "kept", "due", "lists", "one", "told", "bad", "high", "spot", "more", "lower", "word"], [("_law_draws", .fn m_u_law_draws 3 true), ("_law_glossary", .fn m_u_law_glossary 3 false), ("_law_first", .fn m_u_law_first 3 true), ("first_order", .fn m_first_order 5 false), ("ring", .fn m_ring 3 true), ("levels", .fn m_levels 3 true), ("_law_mix", .fn m_u_law_mix 3 true), ("rests", .fn m_rests 3 false), ("_law_rests", .fn m_u_law_rests 2 false), ("_law_is_ring", .fn m_u_law_is_ring 3 true), ("_law_levels", .fn m_u_law_levels 3 true), ("is_order", .fn m_is_order 3 true), ("_law_is_order", .fn m_u_law_is_order 3 true), ("is_ring", .fn m_is_ring 3 true)], ["range", "len", "repr", "list", "sorted", "set"], ["told"], [0, 1, 2, 3, 4, 5, 6, 7]⟩
def l_law : List DS :=
  [sAsg (gNm 1) (eCall m_u_law_draws [eV 0]),
    sFor (gNm 2) (iRng1 (eC (.int 3)))
      (sSeq [sAsg (gNm 3) (eCall m_u_law_glossary [eV 1, eBin .Add (eC (.int 10)) (eBin .Mult (eC (.int 90)) (eV 2)), eC (.int 7)]),
        sAsg (gNm 4) (eCall (callB "len") [eV 3]),
        sAsg (gNm 5) (eLc [16] (gNm 16) (iRng1 (eV 4)) (tCmp (eCall m_u_law_mix [eV 1, eBin .Add (eBin .Add (eC (.int 290)) (eBin .Mult (eC (.int 8)) (eV 2))) (eV 16), eC (.int 5)]) [(.Eq, eC (.int 0))]) (eV 16)),
        sAsg (gNm 6) (eCall (callB "repr") [eTup [eV 3, eV 5]]),
        sIf (tCmp (eCall (callB "repr") [eCall m_rests [eV 3]]) [(.NotEq, eCall (callB "repr") [eCall m_u_law_rests [eV 3]])])
          (sSeq [sRet (eC (.bool false))])
          (sSeq []),
        sAsg (gNm 7) (eCall m_u_law_first [eV 3, eV 5]),
        sAsg (gTp [gNm 10, gNm 11]) (eTup [eCall m_first_order [eV 3, eV 5], eCall m_ring [eV 3, eV 5]]),
        sIf (tOrs [tCmp (eCall (callB "repr") [eV 10]) [(.NotEq, eCall (callB "repr") [eV 7])], tCmp (eT (tCmp (eV 11) [(.Is, eC .none)])) [(.NotEq, eT (tCmp (eV 7) [(.IsNot, eC .none)]))]])
          (sSeq [sRet (eC (.bool false))])
          (sSeq []),
        sAsg (gNm 8) (eLst [eLstI (iRng1 (eV 4)), eRev (eLstI (iRng1 (eV 4))), eLst [], eLst [eC (.int 0), eC (.int 0)], eLst [eV 4], eLst [eNeg (eC (.int 1))]]),
        sIf (tCmp (eV 10) [(.Is, eC .none)])
          (sSeq [sIf (tOrs [tNot (tTru (eCall m_u_law_is_ring [eV 3, eV 11])), tCmp (eLc [16] (gNm 16) (iExp (eV 11)) (tCmp (eV 16) [(.In, eV 5)]) (eV 16)) [(.NotEq, eLst [])], tCmp (eCall m_levels [eV 3, eV 5]) [(.IsNot, eC .none)]])
              (sSeq [sRet (eC (.bool false))])
              (sSeq []),
            sAsg (gNm 8) (eBin .Add (eV 8) (eLst [eV 11, eBin .Add (eSl (eV 11) (some (eC (.int 1))) none) (eSl (eV 11) none (some (eC (.int 1)))), eSl (eV 11) (some (eC (.int 1))) none, eRev (eV 11), eBin .Add (eV 11) (eV 11)]))])
          (sSeq [sAsg (gNm 12) (eCall m_levels [eV 3, eV 5]),
            sIf (tCmp (eCall (callB "repr") [eV 12]) [(.NotEq, eCall (callB "repr") [eCall m_u_law_levels [eV 3, eV 5]])])
              (sSeq [sRet (eC (.bool false))])
              (sSeq []),
            sAsg (gNm 8) (eBin .Add (eV 8) (eLst [eV 10, eRev (eV 10), eSl (eV 10) (some (eC (.int 1))) none, eBin .Add (eSl (eV 10) (some (eC (.int 1))) none) (eSl (eV 10) none (some (eC (.int 1))))])),
            sAsg (gNm 13) (eCall m_u_law_mix [eV 1, eBin .Add (eC (.int 320)) (eV 2), eV 4]),
            sAsg (gNm 14) (eSet1 setSortD (eBin .Add (eV 5) (eLst [eV 13]))),
            sAsg (gNm 15) (eCall m_levels [eV 3, eV 14]),
            sIf (tOrs [tCmp (eV 15) [(.Is, eC .none)], tCmp (eLc [16] (gNm 16) (iRng1 (eV 4)) (tCmp (eIx (eV 15) (eV 16)) [(.Gt, eIx (eV 12) (eV 16))]) (eV 16)) [(.NotEq, eLst [])], tCmp (eCall m_first_order [eV 3, eV 14]) [(.Is, eC .none)]])
              (sSeq [sRet (eC (.bool false))])
              (sSeq [])]),
        sFor (gNm 9) (iExp (eV 8))
          (sSeq [sIf (tCmp (eCall (callB "repr") [eCall m_is_order [eV 3, eV 5, eV 9]]) [(.NotEq, eCall (callB "repr") [eCall m_u_law_is_order [eV 3, eV 5, eV 9]])])
              (sSeq [sRet (eC (.bool false))])
              (sSeq []),
            sIf (tCmp (eCall (callB "repr") [eCall m_is_ring [eV 3, eV 9]]) [(.NotEq, eCall (callB "repr") [eCall m_u_law_is_ring [eV 3, eV 9]])])
              (sSeq [sRet (eC (.bool false))])
              (sSeq [])]),
        sIf (tCmp (eV 10) [(.IsNot, eC .none)])
          (sSeq [sDead [0, 1, 2, 3, 4, 5, 6, 7] (eV 10) (eC (.int 99))])
          (sSeq []),
        sIf (tOrs [tCmp (eCall (callB "repr") [eCall m_first_order [eV 3, eV 5]]) [(.NotEq, eCall (callB "repr") [eV 7])], tCmp (eCall (callB "repr") [eTup [eV 3, eV 5]]) [(.NotEq, eV 6)]])
          (sSeq [sRet (eC (.bool false))])
          (sSeq [])]),
    sRet (eC (.bool true))]
def b_law : DS := sSeq l_law
def m_law : List D → R D := runF 1 17 b_law
theorem t_law : dB c_law (defScope (txt 27)) 60 (defBody (txt 27)) = b_law := by kernel_rfl
theorem k_law : (kBl c_law 3 (defScope (txt 27)) 60 (clr (top c_law) (List.range 1)) (defBody (txt 27))).isSome = true := by kernel_rfl
theorem s_law : FnScope c_law.N ["script"] (defScope (txt 27)) := C8.fnScope_by (by decide +kernel)
end Q
namespace Q
open PySem Dv Tv
open Enc (enc)

@[irreducible] def f_u_law_draws (script : List Int) : R (List Int) :=
  let draws : List Int := ([] : List Int);
  (rng 0 (if (script.length : Int) < (63 : Int) then (script.length : Int) else (63 : Int))).bind fun r1 => (foldR (fun (draws : (List Int)) k => 
    (idx script k).bind fun v2 => let rest : Int := (if v2 < 0 then -v2 else v2);
    (powR (10 : Int) (18 : Int)).bind fun v3 => if decide (v3 ≤ rest) then
      (rng 0 (60 : Int)).bind fun r5 => (foldR (fun (s4 : (List Int) × Int) turn => let draws := s4.1; let rest := s4.2; 
        if decide ((0 : Int) < rest) then
          (ck (draws ++ [(rest % 65536)])).bind fun draws => 
          let rest : Int := (rest / 65536);
          .ok (draws, rest)
        else
          .ok (draws, rest)) (draws, rest) r5).bind fun s4 => let draws := s4.1; let rest := s4.2; 
      .ok draws
    else
      let mixed : Int := (((rest * 48271) + ((k + (1 : Int)) * 69621)) % 2147483647);
      let mixed__w1 : Int := ((((mixed * 16807) + (11 * k)) + (5 : Int)) % 2147483629);
      (ck (draws ++ [(mixed__w1 % 65536)])).bind fun draws => 
      (ck (draws ++ [((mixed__w1 / 65536) % 32768)])).bind fun draws => 
      .ok draws) draws r1).bind fun draws => 
  .ok draws
theorem f_u_law_draws_ok (script : List Int) : Sim Is (m_u_law_draws [enc script]) (f_u_law_draws script) := by
  refine fn_flat (fn_run ?_ rfl (by decide))
  apply sj_eq
  · exact (sj_asg (k_lst (KL.nil (T := Int))) rfl fun draws =>
  (sj_forC (S := (List Int)) (E := fun draws => [(0, some (enc (script : List Int))), (1, some (enc (draws : List Int)))]) (s0 := draws) (ki_r1 (k_call2p b_min2 (k_c (63 : Int) rfl) (k_call1p b_lenL (k_var rfl)))) (kg_nm rfl) (.cons rfl (.cons rfl .nil))
    (fun draws k => (sj_asg (k_call1p b_abs (k_ixO o_ixL (k_var rfl) (k_var rfl))) rfl fun rest =>
    (sj_if (kt_cmpp t_geI (k_var rfl) (k_bin o_powI (k_c (10 : Int) rfl) (k_c (18 : Int) rfl)))
      (sj_forC (S := (List Int) × Int) (E := fun s4 => [(0, some (enc (script : List Int))), (1, some (enc (s4.1 : List Int))), (3, some (enc (s4.2 : Int)))]) (s0 := (draws, rest)) (ki_r1 (k_c (60 : Int) rfl)) (kg_nm rfl) (.cons rfl (.cons rfl (.cons rfl .nil)))
        (fun s4 turn => let draws := s4.1; let rest := s4.2; (sj_if (kt_cmpp t_gtI (k_var rfl) (k_c (0 : Int) rfl))
          (sj_app (k_modc rfl (k_call1p b_intI (k_var rfl))) rfl rfl fun draws =>
          (sj_asg (k_divc rfl (k_var rfl)) rfl fun rest =>
          (sj_nil (u := (draws, rest)) (fun _ f => f.to (.cons rfl (.cons rfl (.cons rfl .nil)))))))
          (sj_nil (u := (draws, rest)) (fun _ f => f.to (.cons rfl (.cons rfl (.cons rfl .nil)))))))
      fun s4 =>
      let draws := s4.1; let rest := s4.2; (sj_nil (u := draws) (fun _ f => f.to (.cons rfl (.cons rfl .nil)))))
      (sj_asg (k_modc rfl (k_call1p b_intI (k_binp o_addI (k_mulc rfl (k_var rfl)) (k_mulc rfl (k_binp o_addI (k_var rfl) (k_c (1 : Int) rfl)))))) rfl fun mixed =>
      (sj_asg (k_modc rfl (k_call1p b_intI (k_binp o_addI (k_binp o_addI (k_mulc rfl (k_var rfl)) (k_cmul rfl (k_var rfl))) (k_c (5 : Int) rfl)))) rfl fun mixed__w1 =>
      (sj_app (k_modc rfl (k_call1p b_intI (k_var rfl))) rfl rfl fun draws =>
      (sj_app (k_modc rfl (k_call1p b_intI (k_divc rfl (k_var rfl)))) rfl rfl fun draws =>
      (sj_nil (u := draws) (fun _ f => f.to (.cons rfl (.cons rfl .nil)))))))))))
  fun draws =>
  (sj_ret (u := fun v => v) (k_var rfl) (fun _ => rfl))))
  · unfold f_u_law_draws; rfl

@[irreducible] def f_u_law_mix (draws : List Int) (k : Int) (many : Int) : R Int :=
  let cell : Int := (0 : Int);
  (if decide ((0 : Int) < (draws.length : Int)) then
    (modR k (draws.length : Int)).bind fun v1 => (idx draws v1).bind fun v2 => let cell : Int := v2;
    .ok cell
  else
    .ok cell : R Int).bind fun cell => 
  if decide (k < (draws.length : Int)) then
    (modR cell many).bind fun v3 => .ok v3
  else
    (modR (((cell * 7919) + (k * 104729)) / 3) many).bind fun v4 => .ok v4
theorem f_u_law_mix_ok (draws : List Int) (k : Int) (many : Int) : Sim Is (m_u_law_mix [enc draws, enc k, enc many]) (f_u_law_mix draws k many) := by
  refine fn_flat (fn_run ?_ rfl (by decide))
  apply sj_eq
  · exact (sj_asg (k_c (0 : Int) rfl) rfl fun cell =>
  (sj_ifJ (S := Int) (E := fun cell => [(0, some (enc (draws : List Int))), (1, some (enc (k : Int))), (2, some (enc (many : Int))), (3, some (enc (cell : Int)))]) (kt_cmpp t_gtI (k_call1p b_lenL (k_var rfl)) (k_c (0 : Int) rfl))
    (sj_asg (k_ixO o_ixL (k_var rfl) (k_bin o_modI (k_call1p b_intI (k_var rfl)) (k_call1p b_lenL (k_var rfl)))) rfl fun cell =>
    (sj_nil (u := cell) (fun _ f => f.to (.cons rfl (.cons rfl (.cons rfl (.cons rfl .nil)))))))
    (sj_nil (u := cell) (fun _ f => f.to (.cons rfl (.cons rfl (.cons rfl (.cons rfl .nil))))))
  fun cell =>
  (sj_if (kt_cmpp t_ltI (k_var rfl) (k_call1p b_lenL (k_var rfl)))
    (sj_ret (u := fun v => v) (k_bin o_modI (k_call1p b_intI (k_var rfl)) (k_var rfl)) (fun _ => rfl))
    (sj_ret (u := fun v => v) (k_bin o_modI (k_call1p b_intI (k_divc rfl (k_call1p b_intI (k_binp o_addI (k_mulc rfl (k_var rfl)) (k_mulc rfl (k_var rfl)))))) (k_var rfl)) (fun _ => rfl)))))
  · unfold f_u_law_mix; rfl

@[irreducible] def f_u_law_glossary (draws : List Int) (k : Int) (most : Int) : R (List (List Int)) :=
  (f_u_law_mix draws k most).bind fun v1 => let many : Int := ((1 : Int) + v1);
  (f_u_law_mix draws (k + (1 : Int)) (3 : Int)).bind fun v2 => let word : Int := v2;
  (f_u_law_mix draws (k + (2 : Int)) (3 : Int)).bind fun v3 => (idx ([(2 : Int), (3 : Int), (5 : Int)]) v3).bind fun v4 => let wide : Int := v4;
  let found : List (List Int) := ([] : List (List Int));
  (rng 0 many).bind fun r5 => (foldR (fun (found : (List (List Int))) a => 
    let told : List Int := ([] : List Int);
    (rng 0 many).bind fun r6 => (foldR (fun (told : (List Int)) b => 
      (idx ([decide (a < b), (!decide (b = a)), (true : Bool)]) word).bind fun v7 => let able : Bool := v7;
      (if able then (f_u_law_mix draws (((k + (4 : Int)) + (9 * a)) + b) wide).bind fun v8 => .ok (decide (v8 = (0 : Int))) else .ok false).bind fun v9 => if v9 then
        (ck (told ++ [b])).bind fun told => 
        .ok told
      else
        .ok told) told r6).bind fun told => 
    (ck (found ++ [told])).bind fun found => 
    .ok found) found r5).bind fun found => 
  .ok found
theorem f_u_law_glossary_ok (draws : List Int) (k : Int) (most : Int) : Sim Is (m_u_law_glossary [enc draws, enc k, enc most]) (f_u_law_glossary draws k most) := by
  refine fn_run ?_ rfl (by decide)
  apply sj_eq
  · exact (sj_asg (k_binp o_addI (k_c (1 : Int) rfl) (k_call (g := fun p : (List Int) × Int × Int × Unit => f_u_law_mix p.1 p.2.1 p.2.2.1) (fun p => f_u_law_mix_ok p.1 p.2.1 p.2.2.1) (ka_cons (k_var rfl) (ka_cons (k_var rfl) (ka_cons (k_var rfl) ka_nil))))) rfl fun many =>
  (sj_asg (k_call (g := fun p : (List Int) × Int × Int × Unit => f_u_law_mix p.1 p.2.1 p.2.2.1) (fun p => f_u_law_mix_ok p.1 p.2.1 p.2.2.1) (ka_cons (k_var rfl) (ka_cons (k_binp o_addI (k_var rfl) (k_c (1 : Int) rfl)) (ka_cons (k_c (3 : Int) rfl) ka_nil)))) rfl fun word =>
  (sj_asg (k_ixO o_ixL (k_lst (.cons (k_c (2 : Int) rfl) (.cons (k_c (3 : Int) rfl) (.cons (k_c (5 : Int) rfl) .nil)))) (k_call (g := fun p : (List Int) × Int × Int × Unit => f_u_law_mix p.1 p.2.1 p.2.2.1) (fun p => f_u_law_mix_ok p.1 p.2.1 p.2.2.1) (ka_cons (k_var rfl) (ka_cons (k_binp o_addI (k_var rfl) (k_c (2 : Int) rfl)) (ka_cons (k_c (3 : Int) rfl) ka_nil))))) rfl fun wide =>
  (sj_asg (k_lst (KL.nil (T := List Int))) rfl fun found =>
  (sj_forC (S := (List (List Int))) (E := fun found => [(0, some (enc (draws : List Int))), (1, some (enc (k : Int))), (3, some (enc (many : Int))), (4, some (enc (word : Int))), (5, some (enc (wide : Int))), (6, some (enc (found : List (List Int))))]) (s0 := found) (ki_r1 (k_var rfl)) (kg_nm rfl) (.cons rfl (.cons rfl (.cons rfl (.cons rfl (.cons rfl (.cons rfl .nil))))))
    (fun found a => (sj_asg (k_lst (KL.nil (T := Int))) rfl fun told =>
    (sj_forC (S := (List Int)) (E := fun told => [(0, some (enc (draws : List Int))), (1, some (enc (k : Int))), (3, some (enc (many : Int))), (4, some (enc (word : Int))), (5, some (enc (wide : Int))), (6, some (enc (found : List (List Int)))), (7, some (enc (a : Int))), (8, some (enc (told : List Int)))]) (s0 := told) (ki_r1 (k_var rfl)) (kg_nm rfl) (.cons rfl (.cons rfl (.cons rfl (.cons rfl (.cons rfl (.cons rfl (.cons rfl (.cons rfl .nil))))))))
      (fun told b => (sj_asg (k_ixO o_ixL (k_lst (.cons (k_t (kt_cmpp t_gtI (k_var rfl) (k_var rfl))) (.cons (k_t (kt_cmpp (t_ne rfl) (k_var rfl) (k_var rfl))) (.cons (k_c (true : Bool) rfl) .nil)))) (k_var rfl)) rfl fun able =>
      (sj_if (kt_andM (kt_b (k_var rfl)) (kt_and1 (kt_cmpp (t_eq rfl) (k_call (g := fun p : (List Int) × Int × Int × Unit => f_u_law_mix p.1 p.2.1 p.2.2.1) (fun p => f_u_law_mix_ok p.1 p.2.1 p.2.2.1) (ka_cons (k_var rfl) (ka_cons (k_binp o_addI (k_binp o_addI (k_binp o_addI (k_var rfl) (k_c (4 : Int) rfl)) (k_cmul rfl (k_var rfl))) (k_var rfl)) (ka_cons (k_var rfl) ka_nil)))) (k_c (0 : Int) rfl))))
        (sj_app (k_var rfl) rfl rfl fun told =>
        (sj_nil (u := told) (fun _ f => f.to (.cons rfl (.cons rfl (.cons rfl (.cons rfl (.cons rfl (.cons rfl (.cons rfl (.cons rfl .nil)))))))))))
        (sj_nil (u := told) (fun _ f => f.to (.cons rfl (.cons rfl (.cons rfl (.cons rfl (.cons rfl (.cons rfl (.cons rfl (.cons rfl .nil)))))))))))))
    fun told =>
    (sj_app (k_var rfl) rfl rfl fun found =>
    (sj_nil (u := found) (fun _ f => f.to (.cons rfl (.cons rfl (.cons rfl (.cons rfl (.cons rfl (.cons rfl .nil))))))))))))
  fun found =>
  (sj_ret (u := fun v => v) (k_var rfl) (fun _ => rfl)))))))
  · unfold f_u_law_glossary; rfl

@[irreducible] def f_u_law_first (glossary : List (List Int)) (known : List Int) : R (Option (List Int)) :=
  (rng 0 (glossary.length : Int)).bind fun r1 => (ck r1).bind fun l2 => let p3 : (List Int) × (List Int) := (([] : List Int), l2); let found := p3.1; let left := p3.2; 
  thenR (forR (T := Option (List Int)) (fun (s4 : (List Int) × (List Int)) turn => let found := s4.1; let left := s4.2; 
    (lcR (fun word => (if (mem word known) then .ok true else (idx glossary word).bind fun v6 => (ck ((v6.filter fun other => ((!mem other known) && (!mem other found))).map fun other => other)).bind fun l7 => .ok (decide (l7 = ([] : List Int)))).bind fun v8 => .ok v8) (fun word => .ok word) left).bind fun l9 => (ck l9).bind fun l5 => let free : List Int := l5;
    if decide (free = ([] : List Int)) then
      .ok (.rt (none : Option (List Int)))
    else
      (idx free (0 : Int)).bind fun v10 => (ck (found ++ [v10])).bind fun found => 
      (lcR (fun word => (idx free (0 : Int)).bind fun v12 => .ok (!decide (word = v12))) (fun word => .ok word) left).bind fun l13 => (ck l13).bind fun l11 => let left : List Int := l11;
      .ok (.nx (found, left))) (found, left) glossary)
  (fun s4 => let found := s4.1; let left := s4.2; 
  .ok (some found)) (fun v => .ok v)
theorem f_u_law_first_ok (glossary : List (List Int)) (known : List Int) : Sim Is (m_u_law_first [enc glossary, enc known]) (f_u_law_first glossary known) := by
  refine fn_flat (fn_run ?_ rfl (by decide))
  apply sj_eq
  · exact (sj_asgG (k_tup2 (k_lst (KL.nil (T := Int))) (k_lstI (ki_r1 (k_call1p b_lenL (k_var rfl))))) (kg_2 (kg_nm rfl) (kg_nm rfl)) fun p3 => 
  let found := p3.1; let left := p3.2; (sj_for (V := Option (List Int)) (r := (fun v => .ok v)) (S := (List Int) × (List Int)) (E := fun s4 => [(0, some (enc (glossary : List (List Int)))), (1, some (enc (known : List Int))), (3, some (enc (s4.1 : List Int))), (4, some (enc (s4.2 : List Int)))]) (s0 := (found, left)) (ki_l (k_var rfl)) (kg_nm rfl) (.cons rfl (.cons rfl (.cons rfl (.cons rfl .nil))))
    (fun s4 turn => let found := s4.1; let left := s4.2; (sj_asg (k_lcM (ki_l (k_var rfl)) (kg_nm rfl) (fun word => (kt_orM (kt_cmpp (t_inL rfl) (k_var rfl) (k_var rfl)) (kt_or1 (kt_cmpp (t_eq rfl) (k_lc (ki_l (k_ixO o_ixL (k_var rfl) (k_var rfl))) (kg_nm rfl) (fun other => (kt_and (kt_cmpp (t_ninL rfl) (k_var rfl) (k_var rfl)) (kt_and1 (kt_cmpp (t_ninL rfl) (k_var rfl) (k_var rfl))))) fun other => (k_var rfl)) (k_lst (KL.nil (T := Int))))))) fun word => (k_var rfl)) rfl fun free =>
    (sj_if (kt_cmpp (t_eq rfl) (k_var rfl) (k_lst (KL.nil (T := Int))))
      (sj_ret (u := fun v => Fl.rt v) (k_c (T := Option (List Int)) none rfl) (fun _ => rfl))
      (sj_app (k_ixO o_ixL (k_var rfl) (k_c (0 : Int) rfl)) rfl rfl fun found =>
      (sj_asg (k_lcM (ki_l (k_var rfl)) (kg_nm rfl) (fun word => (kt_cmpp (t_ne rfl) (k_var rfl) (k_ixO o_ixL (k_var rfl) (k_c (0 : Int) rfl)))) fun word => (k_var rfl)) rfl fun left =>
      (sj_nil (u := (Fl.nx (found, left))) (fun _ f => f.to (.cons rfl (.cons rfl (.cons rfl (.cons rfl .nil)))))))))))
  (fun s4 =>
  let found := s4.1; let left := s4.2; (sj_ret (u := fun v => v) (k_some (k_var rfl)) (fun _ => rfl))) (fun _ => rfl)))
  · unfold f_u_law_first; rfl

@[irreducible] def f_check_glossary (glossary : List (List Int)) : R Unit :=
  if (!(decide ((1 : Int) ≤ (glossary.length : Int)) && decide ((glossary.length : Int) ≤ (9 : Int)))) then
    .bad
  else
    (foldR (fun (s1 : Unit) p2 => let k := p2.1; let told := p2.2; 
      (rng 0 (glossary.length : Int)).bind fun r3 => (ck ((r3.filter fun word => (mem word told)).map fun word => word)).bind fun l4 => if (!decide (told = l4)) then
        .bad
      else
        .ok ()) () (enumF 0 glossary)).bind fun s1 => 
    .ok ()
theorem f_check_glossary_ok (glossary : List (List Int)) : Sim Is (m_check_glossary [enc glossary]) (f_check_glossary glossary) := by
  refine fn_flat (fn_run ?_ rfl (by decide))
  apply sj_eq
  · exact (sj_if (kt_not (kt_ch2 t_leI t_leI (k_c (1 : Int) rfl) (k_call1p b_lenL (k_var rfl)) (k_c (9 : Int) rfl)))
    sj_bad
    (sj_forC (S := Unit) (E := fun s1 => [(0, some (enc (glossary : List (List Int))))]) (s0 := ()) (ki_enum (k_var rfl)) (kg_2 (kg_nm rfl) (kg_nm rfl)) (.cons rfl .nil)
      (fun s1 p2 => let k := p2.1; let told := p2.2; (sj_if (kt_cmpp (t_ne rfl) (k_var rfl) (k_lc (ki_r1 (k_call1p b_lenL (k_var rfl))) (kg_nm rfl) (fun word => (kt_cmpp (t_inL rfl) (k_var rfl) (k_var rfl))) fun word => (k_var rfl)))
        sj_bad
        (sj_nil (u := ()) (fun _ f => f.to (.cons rfl .nil)))))
    fun s1 =>
    (sj_nil (u := ()) (fun _ _ => rfl))))
  · unfold f_check_glossary; rfl

@[irreducible] def f_check_known (glossary : List (List Int)) (known : List Int) : R Unit :=
  (f_check_glossary glossary).bind fun v1 => 
  (foldR (fun (s2 : Unit) p3 => let k := p3.1; let word := p3.2; 
    (if (!(decide ((0 : Int) ≤ word) && decide (word < (glossary.length : Int)))) then .ok true else (if decide ((0 : Int) < k) then (idx known (k - (1 : Int))).bind fun v4 => .ok (decide (word ≤ v4)) else .ok false).bind fun v5 => .ok v5).bind fun v6 => if v6 then
      .bad
    else
      .ok ()) () (enumF 0 known)).bind fun s2 => 
  .ok ()
theorem f_check_known_ok (glossary : List (List Int)) (known : List Int) : Sim Is (m_check_known [enc glossary, enc known]) (f_check_known glossary known) := by
  refine fn_flat (fn_run ?_ rfl (by decide))
  apply sj_eq
  · exact (sj_drop (k_call (g := fun p : (List (List Int)) × Unit => f_check_glossary p.1) (fun p => f_check_glossary_ok p.1) (ka_cons (k_var rfl) ka_nil))
  (sj_forC (S := Unit) (E := fun s2 => [(0, some (enc (glossary : List (List Int)))), (1, some (enc (known : List Int)))]) (s0 := ()) (ki_enum (k_var rfl)) (kg_2 (kg_nm rfl) (kg_nm rfl)) (.cons rfl (.cons rfl .nil))
    (fun s2 p3 => let k := p3.1; let word := p3.2; (sj_if (kt_orM (kt_not (kt_ch2 t_leI t_ltI (k_c (0 : Int) rfl) (k_var rfl) (k_call1p b_lenL (k_var rfl)))) (kt_or1 (kt_andM (kt_cmpp t_gtI (k_var rfl) (k_c (0 : Int) rfl)) (kt_and1 (kt_cmpp t_geI (k_ixO o_ixL (k_var rfl) (k_binp o_subI (k_var rfl) (k_c (1 : Int) rfl))) (k_var rfl))))))
      sj_bad
      (sj_nil (u := ()) (fun _ f => f.to (.cons rfl (.cons rfl .nil))))))
  fun s2 =>
  (sj_nil (u := ()) (fun _ _ => rfl))))
  · unfold f_check_known; rfl

@[irreducible] def f_order_of (glossary : List (List Int)) (known : List Int) : R ((List Int) × (List Int)) :=
  let found : List Int := ([] : List Int);
  (rng 0 (glossary.length : Int)).bind fun r1 => (ck r1).bind fun l2 => let left : List Int := l2;
  let free : List Int := left;
  (whlC (fun (s3 : (List Int) × (List Int) × (List Int)) => let found := s3.1; let left := s3.2.1; let free := s3.2.2; .ok (decide ((0 : Int) < (free.length : Int)))) (fun (s3 : (List Int) × (List Int) × (List Int)) => let found := s3.1; let left := s3.2.1; let free := s3.2.2; 
    (ck (known ++ (found ++ []))).bind fun l4 => let ahead : List Int := l4;
    (lcR (fun word => (if (mem word known) then .ok true else (idx glossary word).bind fun v6 => (ck (v6.map fun other => (mem other ahead))).bind fun l7 => .ok (l7.all id)).bind fun v8 => .ok v8) (fun word => .ok word) left).bind fun l9 => (ck l9).bind fun l5 => let free : List Int := l5;
    (ck (found ++ (cut free none (some (1 : Int))))).bind fun found => 
    (ck ((left.filter fun word => (!mem word found)).map fun word => word)).bind fun l10 => let left : List Int := l10;
    .ok (found, left, free)) turns (found, left, free)).bind fun s3 => let found := s3.1; let left := s3.2.1; let free := s3.2.2; 
  .ok (found, left)
theorem f_order_of_ok (glossary : List (List Int)) (known : List Int) : Sim Is (m_order_of [enc glossary, enc known]) (f_order_of glossary known) := by
  refine fn_run ?_ rfl (by decide)
  apply sj_eq
  · exact (sj_asg (k_lst (KL.nil (T := Int))) rfl fun found =>
  (sj_asg (k_lstI (ki_r1 (k_call1p b_lenL (k_var rfl)))) rfl fun left =>
  (sj_asg (k_var rfl) rfl fun free =>
  (sj_whlC (S := (List Int) × (List Int) × (List Int)) (E := fun s3 => [(0, some (enc (glossary : List (List Int)))), (1, some (enc (known : List Int))), (2, some (enc (s3.1 : List Int))), (3, some (enc (s3.2.1 : List Int))), (4, some (enc (s3.2.2 : List Int)))]) (s0 := (found, left, free)) (.cons rfl (.cons rfl (.cons rfl (.cons rfl (.cons rfl .nil))))) (fun s3 => let found := s3.1; let left := s3.2.1; let free := s3.2.2; (kt_cmpp t_gtI (k_call1p b_lenL (k_var rfl)) (k_c (0 : Int) rfl)))
    (fun s3 => let found := s3.1; let left := s3.2.1; let free := s3.2.2; (sj_asg (k_lstS (.star (k_var rfl) (.star (k_var rfl) .nil))) rfl fun ahead =>
    (sj_asg (k_lcM (ki_l (k_var rfl)) (kg_nm rfl) (fun word => (kt_orM (kt_cmpp (t_inL rfl) (k_var rfl) (k_var rfl)) (kt_or1 (kt_b (k_call1p b_all (k_lc0 (ki_l (k_ixO o_ixL (k_var rfl) (k_var rfl))) (kg_nm rfl) fun other => (k_t (kt_cmpp (t_inL rfl) (k_var rfl) (k_var rfl))))))))) fun word => (k_var rfl)) rfl fun free =>
    (sj_ext (k_slL (k_var rfl) ko_none (ko_some (k_c (1 : Int) rfl))) rfl rfl fun found =>
    (sj_asg (k_lc (ki_l (k_var rfl)) (kg_nm rfl) (fun word => (kt_cmpp (t_ninL rfl) (k_var rfl) (k_var rfl))) fun word => (k_var rfl)) rfl fun left =>
    (sj_nil (u := (found, left, free)) (fun _ f => f.to (.cons rfl (.cons rfl (.cons rfl (.cons rfl (.cons rfl .nil))))))))))))
  fun s3 =>
  let found := s3.1; let left := s3.2.1; let free := s3.2.2; (sj_ret (u := fun v => v) (k_tup2 (k_var rfl) (k_var rfl)) (fun _ => rfl))))))
  · unfold f_order_of; rfl

@[irreducible] def f_first_order (glossary : List (List Int)) (known : List Int) : R (Option (List Int)) :=
  (f_check_known glossary known).bind fun v1 => 
  (f_order_of glossary known).bind fun v2 => let p3 : (List Int) × (List Int) := v2; let found := p3.1; let left := p3.2; 
  .ok (if decide ((left.length : Int) = (0 : Int)) then (some found) else (none : Option (List Int)))
theorem f_first_order_ok (glossary : List (List Int)) (known : List Int) : Sim Is (m_first_order [enc glossary, enc known]) (f_first_order glossary known) := by
  refine fn_run ?_ rfl (by decide)
  apply sj_eq
  · exact (sj_drop (k_call (g := fun p : (List (List Int)) × (List Int) × Unit => f_check_known p.1 p.2.1) (fun p => f_check_known_ok p.1 p.2.1) (ka_cons (k_var rfl) (ka_cons (k_var rfl) ka_nil)))
  (sj_asgG (k_call (g := fun p : (List (List Int)) × (List Int) × Unit => f_order_of p.1 p.2.1) (fun p => f_order_of_ok p.1 p.2.1) (ka_cons (k_var rfl) (ka_cons (k_var rfl) ka_nil))) (kg_2 (kg_nm rfl) (kg_nm rfl)) fun p3 => 
  let found := p3.1; let left := p3.2; (sj_ret (u := fun v => v) (k_if (kt_cmpp (t_eq rfl) (k_call1p b_lenL (k_var rfl)) (k_c (0 : Int) rfl)) (k_some (k_var rfl)) (k_c (T := Option (List Int)) none rfl)) (fun _ => rfl))))
  · unfold f_first_order; rfl

@[irreducible] def f_ring (glossary : List (List Int)) (known : List Int) : R (Option (List Int)) :=
  (f_check_known glossary known).bind fun v1 => 
  (f_order_of glossary known).bind fun v2 => let p3 : (List Int) × (List Int) := v2; let u_0 := p3.1; let left := p3.2; 
  if decide ((left.length : Int) = (0 : Int)) then
    .ok (none : Option (List Int))
  else
    (idx left (0 : Int)).bind fun v4 => let walk : List Int := [v4];
    thenR (whlR (T := Option (List Int)) (fun (walk : (List Int)) => .ok (true : Bool)) (fun (walk : (List Int)) => 
      (idx walk (-(1 : Int))).bind fun v5 => (idx glossary v5).bind fun v6 => (ck ((v6.filter fun word => (mem word left)).map fun word => word)).bind fun l7 => (idx l7 (0 : Int)).bind fun v8 => let other : Int := v8;
      if (mem other walk) then
        (index walk other).bind fun v9 => .ok (.rt (some (cut walk (some v9) none)))
      else
        (ck (walk ++ [other])).bind fun walk => 
        .ok (.nx walk)) turns walk)
    (fun walk => 
    .ok none) (fun v => .ok v)
theorem f_ring_ok (glossary : List (List Int)) (known : List Int) : Sim Is (m_ring [enc glossary, enc known]) (f_ring glossary known) := by
  refine fn_flat (fn_run ?_ rfl (by decide))
  apply sj_eq
  · exact (sj_drop (k_call (g := fun p : (List (List Int)) × (List Int) × Unit => f_check_known p.1 p.2.1) (fun p => f_check_known_ok p.1 p.2.1) (ka_cons (k_var rfl) (ka_cons (k_var rfl) ka_nil)))
  (sj_asgG (k_call (g := fun p : (List (List Int)) × (List Int) × Unit => f_order_of p.1 p.2.1) (fun p => f_order_of_ok p.1 p.2.1) (ka_cons (k_var rfl) (ka_cons (k_var rfl) ka_nil))) (kg_2 (kg_nm rfl) (kg_nm rfl)) fun p3 => 
  let u_0 := p3.1; let left := p3.2; (sj_if (kt_cmpp (t_eq rfl) (k_call1p b_lenL (k_var rfl)) (k_c (0 : Int) rfl))
    (sj_ret (u := fun v => v) (k_c (T := Option (List Int)) none rfl) (fun _ => rfl))
    (sj_asg (k_lst (.cons (k_ixO o_ixL (k_var rfl) (k_c (0 : Int) rfl)) .nil)) rfl fun walk =>
    (sj_whl (V := Option (List Int)) (r := (fun v => .ok v)) (S := (List Int)) (E := fun walk => [(0, some (enc (glossary : List (List Int)))), (2, some (enc (walk : List Int))), (4, some (enc (left : List Int)))]) (s0 := walk) (.cons rfl (.cons rfl (.cons rfl .nil))) (fun walk => (kt_b (k_c (true : Bool) rfl)))
      (fun walk => (sj_asg (k_ixO o_ixL (k_lc (ki_l (k_ixO o_ixL (k_var rfl) (k_ixO o_ixL (k_var rfl) (k_neg (k_c (1 : Int) rfl))))) (kg_nm rfl) (fun word => (kt_cmpp (t_inL rfl) (k_var rfl) (k_var rfl))) fun word => (k_var rfl)) (k_c (0 : Int) rfl)) rfl fun other =>
      (sj_if (kt_cmpp (t_inL rfl) (k_var rfl) (k_var rfl))
        (sj_ret (u := fun v => Fl.rt v) (k_some (k_slL (k_var rfl) (ko_some (k_met (fun _ => rfl) (m_index rfl) (k_var rfl) (k_var rfl))) ko_none)) (fun _ => rfl))
        (sj_app (k_var rfl) rfl rfl fun walk =>
        (sj_nil (u := (Fl.nx walk)) (fun _ f => f.to (.cons rfl (.cons rfl (.cons rfl .nil)))))))))
    (fun walk =>
    (sj_nil (u := none) (fun _ _ => rfl))) (fun _ => rfl))))))
  · unfold f_ring; rfl

@[irreducible] def f_levels (glossary : List (List Int)) (known : List Int) : R (Option (List Int)) :=
  (f_first_order glossary known).bind fun v1 => let order : Option (List Int) := v1;
  if order.isNone then
    .ok (none : Option (List Int))
  else
    let found : Dct Int Int := (⟨[]⟩ : Dct Int Int);
    (unO order).bind fun v2 => (foldR (fun (found : (Dct Int Int)) word => 
      (putR found word (0 : Int)).bind fun found => 
      .ok found) found v2).bind fun found => 
    (unO order).bind fun v3 => (foldR (fun (found : (Dct Int Int)) u_0 => 
      (unO order).bind fun v4 => (foldR (fun (found : (Dct Int Int)) word__w1 => 
        (if (!mem word__w1 known) then (idx glossary word__w1).bind fun v5 => .ok (decide ((0 : Int) < (v5.length : Int))) else .ok false).bind fun v6 => if v6 then
          (idx glossary word__w1).bind fun v7 => (mapR (fun other => (oR (found.get other)).bind fun v8 => .ok v8) v7).bind fun l10 => (ck l10).bind fun l9 => (oR (maxI l9)).bind fun v11 => (putR found word__w1 ((1 : Int) + v11)).bind fun found => 
          .ok found
        else
          .ok found) found v4).bind fun found => 
      .ok found) found v3).bind fun found => 
    (rng 0 (glossary.length : Int)).bind fun r12 => (mapR (fun word => (oR (found.get word)).bind fun v13 => .ok v13) r12).bind fun l15 => (ck l15).bind fun l14 => .ok (some l14)
theorem f_levels_ok (glossary : List (List Int)) (known : List Int) : Sim Is (m_levels [enc glossary, enc known]) (f_levels glossary known) := by
  refine fn_flat (fn_run ?_ rfl (by decide))
  apply sj_eq
  · exact (sj_asg (k_call (g := fun p : (List (List Int)) × (List Int) × Unit => f_first_order p.1 p.2.1) (fun p => f_first_order_ok p.1 p.2.1) (ka_cons (k_var rfl) (ka_cons (k_var rfl) ka_nil))) rfl fun order =>
  (sj_if (kt_cmpp t_isN (k_var rfl) (k_c () rfl))
    (sj_ret (u := fun v => v) (k_c (T := Option (List Int)) none rfl) (fun _ => rfl))
    (sj_asg (k_d0 (T := Int) (V := Int)) rfl fun found =>
    (sj_forC (S := (Dct Int Int)) (E := fun found => [(0, some (enc (glossary : List (List Int)))), (1, some (enc (known : List Int))), (2, some (enc (order : Option (List Int)))), (3, some (enc (found : Dct Int Int)))]) (s0 := found) (ki_l (k_un (k_var rfl))) (kg_nm rfl) (.cons rfl (.cons rfl (.cons rfl (.cons rfl .nil))))
      (fun found word => (sj_setD (k_c (0 : Int) rfl) (k_var rfl) rfl rfl fun found =>
      (sj_nil (u := found) (fun _ f => f.to (.cons rfl (.cons rfl (.cons rfl (.cons rfl .nil))))))))
    fun found =>
    (sj_forC (S := (Dct Int Int)) (E := fun found => [(0, some (enc (glossary : List (List Int)))), (1, some (enc (known : List Int))), (2, some (enc (order : Option (List Int)))), (3, some (enc (found : Dct Int Int)))]) (s0 := found) (ki_l (k_un (k_var rfl))) (kg_nm rfl) (.cons rfl (.cons rfl (.cons rfl (.cons rfl .nil))))
      (fun found u_0 => (sj_forC (S := (Dct Int Int)) (E := fun found => [(0, some (enc (glossary : List (List Int)))), (1, some (enc (known : List Int))), (2, some (enc (order : Option (List Int)))), (3, some (enc (found : Dct Int Int)))]) (s0 := found) (ki_l (k_un (k_var rfl))) (kg_nm rfl) (.cons rfl (.cons rfl (.cons rfl (.cons rfl .nil))))
        (fun found word__w1 => (sj_if (kt_andM (kt_cmpp (t_ninL rfl) (k_var rfl) (k_var rfl)) (kt_and1 (kt_cmpp t_gtI (k_call1p b_lenL (k_ixO o_ixL (k_var rfl) (k_var rfl))) (k_c (0 : Int) rfl))))
          (sj_setD (k_binp o_addI (k_c (1 : Int) rfl) (k_call1 b_maxL (k_lc0M (ki_l (k_ixO o_ixL (k_var rfl) (k_var rfl))) (kg_nm rfl) fun other => (k_ixO o_ixD (k_var rfl) (k_var rfl))))) (k_var rfl) rfl rfl fun found =>
          (sj_nil (u := found) (fun _ f => f.to (.cons rfl (.cons rfl (.cons rfl (.cons rfl .nil)))))))
          (sj_nil (u := found) (fun _ f => f.to (.cons rfl (.cons rfl (.cons rfl (.cons rfl .nil))))))))
      fun found =>
      (sj_nil (u := found) (fun _ f => f.to (.cons rfl (.cons rfl (.cons rfl (.cons rfl .nil))))))))
    fun found =>
    (sj_ret (u := fun v => v) (k_some (k_lc0M (ki_r1 (k_call1p b_lenL (k_var rfl))) (kg_nm rfl) fun word => (k_ixO o_ixD (k_var rfl) (k_var rfl)))) (fun _ => rfl)))))))
  · unfold f_levels; rfl

@[irreducible] def f_rests_of (glossary : List (List Int)) (word : Int) : R (List Int) :=
  (idx glossary word).bind fun v1 => let found : List Int := v1;
  let at_ : Int := (0 : Int);
  (whlC (fun (s2 : (List Int) × Int) => let found := s2.1; let at_ := s2.2; .ok (decide (at_ < (found.length : Int)))) (fun (s2 : (List Int) × Int) => let found := s2.1; let at_ := s2.2; 
    (idx found at_).bind fun v3 => (idx glossary v3).bind fun v4 => (ck ((v4.filter fun other => (!mem other found)).map fun other => other)).bind fun l5 => (ck (found ++ l5)).bind fun found => 
    let at_ : Int := (at_ + (1 : Int));
    .ok (found, at_)) turns (found, at_)).bind fun s2 => let found := s2.1; let at_ := s2.2; 
  (sortR found).bind fun v6 => .ok v6
theorem f_rests_of_ok (glossary : List (List Int)) (word : Int) : Sim Is (m_rests_of [enc glossary, enc word]) (f_rests_of glossary word) := by
  refine fn_flat (fn_run ?_ rfl (by decide))
  apply sj_eq
  · exact (sj_asg (k_call1p b_listL (k_ixO o_ixL (k_var rfl) (k_var rfl))) rfl fun found =>
  (sj_asg (k_c (0 : Int) rfl) rfl fun at_ =>
  (sj_whlC (S := (List Int) × Int) (E := fun s2 => [(0, some (enc (glossary : List (List Int)))), (2, some (enc (s2.1 : List Int))), (3, some (enc (s2.2 : Int)))]) (s0 := (found, at_)) (.cons rfl (.cons rfl (.cons rfl .nil))) (fun s2 => let found := s2.1; let at_ := s2.2; (kt_cmpp t_ltI (k_var rfl) (k_call1p b_lenL (k_var rfl))))
    (fun s2 => let found := s2.1; let at_ := s2.2; (sj_ext (k_lc (ki_l (k_ixO o_ixL (k_var rfl) (k_ixO o_ixL (k_var rfl) (k_var rfl)))) (kg_nm rfl) (fun other => (kt_cmpp (t_ninL rfl) (k_var rfl) (k_var rfl))) fun other => (k_var rfl)) rfl rfl fun found =>
    (sj_asg (k_binp o_addI (k_var rfl) (k_c (1 : Int) rfl)) rfl fun at_ =>
    (sj_nil (u := (found, at_)) (fun _ f => f.to (.cons rfl (.cons rfl (.cons rfl .nil))))))))
  fun s2 =>
  let found := s2.1; let at_ := s2.2; (sj_ret (u := fun v => v) (k_call1 (b_sorted rfl) (k_var rfl)) (fun _ => rfl)))))
  · unfold f_rests_of; rfl

@[irreducible] def f_rests (glossary : List (List Int)) : R (List (List Int)) :=
  (f_check_glossary glossary).bind fun v1 => 
  (rng 0 (glossary.length : Int)).bind fun r2 => (mapR (fun word => (f_rests_of glossary word).bind fun v3 => .ok v3) r2).bind fun l5 => (ck l5).bind fun l4 => .ok l4
theorem f_rests_ok (glossary : List (List Int)) : Sim Is (m_rests [enc glossary]) (f_rests glossary) := by
  refine fn_run ?_ rfl (by decide)
  apply sj_eq
  · exact (sj_drop (k_call (g := fun p : (List (List Int)) × Unit => f_check_glossary p.1) (fun p => f_check_glossary_ok p.1) (ka_cons (k_var rfl) ka_nil))
  (sj_ret (u := fun v => v) (k_lc0M (ki_r1 (k_call1p b_lenL (k_var rfl))) (kg_nm rfl) fun word => (k_call (g := fun p : (List (List Int)) × Int × Unit => f_rests_of p.1 p.2.1) (fun p => f_rests_of_ok p.1 p.2.1) (ka_cons (k_var rfl) (ka_cons (k_var rfl) ka_nil)))) (fun _ => rfl)))
  · unfold f_rests; rfl

@[irreducible] def f_u_law_rests (glossary : List (List Int)) : R (List (List Int)) :=
  (ck (glossary.map fun told => told)).bind fun l1 => let found : List (List Int) := l1;
  (foldR (fun (found : (List (List Int))) turn => 
    let later : List (List Int) := ([] : List (List Int));
    (foldR (fun (later : (List (List Int))) told => 
      let more : List Int := told;
      (foldR (fun (more : (List Int)) word => 
        (idx glossary word).bind fun v2 => (ck (more ++ v2)).bind fun v3 => let more : List Int := v3;
        .ok more) more told).bind fun more => 
      (setSortR more).bind fun v4 => (ck (later ++ [v4])).bind fun later => 
      .ok later) later found).bind fun later => 
    let found : List (List Int) := later;
    .ok found) found glossary).bind fun found => 
  .ok found
theorem f_u_law_rests_ok (glossary : List (List Int)) : Sim Is (m_u_law_rests [enc glossary]) (f_u_law_rests glossary) := by
  refine fn_run ?_ rfl (by decide)
  apply sj_eq
  · exact (sj_asg (k_lc0 (ki_l (k_var rfl)) (kg_nm rfl) fun told => (k_call1p b_listL (k_var rfl))) rfl fun found =>
  (sj_forC (S := (List (List Int))) (E := fun found => [(0, some (enc (glossary : List (List Int)))), (1, some (enc (found : List (List Int))))]) (s0 := found) (ki_l (k_var rfl)) (kg_nm rfl) (.cons rfl (.cons rfl .nil))
    (fun found turn => (sj_asg (k_lst (KL.nil (T := List Int))) rfl fun later =>
    (sj_forC (S := (List (List Int))) (E := fun later => [(0, some (enc (glossary : List (List Int)))), (3, some (enc (later : List (List Int))))]) (s0 := later) (ki_l (k_var rfl)) (kg_nm rfl) (.cons rfl (.cons rfl .nil))
      (fun later told => (sj_asg (k_call1p b_listL (k_var rfl)) rfl fun more =>
      (sj_forC (S := (List Int)) (E := fun more => [(0, some (enc (glossary : List (List Int)))), (3, some (enc (later : List (List Int)))), (5, some (enc (more : List Int)))]) (s0 := more) (ki_l (k_var rfl)) (kg_nm rfl) (.cons rfl (.cons rfl (.cons rfl .nil)))
        (fun more word => (sj_asg (k_bin o_addL (k_var rfl) (k_ixO o_ixL (k_var rfl) (k_var rfl))) rfl fun more =>
        (sj_nil (u := more) (fun _ f => f.to (.cons rfl (.cons rfl (.cons rfl .nil)))))))
      fun more =>
      (sj_app (k_set1 (s_sort rfl) (k_var rfl)) rfl rfl fun later =>
      (sj_nil (u := later) (fun _ f => f.to (.cons rfl (.cons rfl .nil))))))))
    fun later =>
    (sj_asg (k_var rfl) rfl fun found =>
    (sj_nil (u := found) (fun _ f => f.to (.cons rfl (.cons rfl .nil))))))))
  fun found =>
  (sj_ret (u := fun v => v) (k_var rfl) (fun _ => rfl))))
  · unfold f_u_law_rests; rfl

@[irreducible] def f_u_law_is_ring (glossary : List (List Int)) (told : Option (List Int)) : R Bool :=
  (if decide (told = (some ([] : List Int))) then .ok true else (unO told).bind fun v1 => (setLenR v1).bind fun v2 => (unO told).bind fun v3 => (if (!decide (v2 = (v3.length : Int))) then .ok true else (unO told).bind fun v4 => (ck ((v4.filter fun word => (!(decide ((0 : Int) ≤ word) && decide (word < (glossary.length : Int))))).map fun word => word)).bind fun l5 => .ok (!decide (l5 = ([] : List Int)))).bind fun v6 => .ok v6).bind fun v7 => if v7 then
    .ok (false : Bool)
  else
    (unO told).bind fun v8 => (rng 0 (v8.length : Int)).bind fun r9 => (lcR (fun t_ => (unO told).bind fun v14 => (idx v14 t_).bind fun v15 => (unO told).bind fun v11 => (idx v11 (t_ - (1 : Int))).bind fun v12 => (idx glossary v12).bind fun v13 => .ok (!mem v15 v13)) (fun t_ => .ok t_) r9).bind fun l16 => (ck l16).bind fun l10 => .ok (decide (l10 = ([] : List Int)))
theorem f_u_law_is_ring_ok (glossary : List (List Int)) (told : Option (List Int)) : Sim Is (m_u_law_is_ring [enc glossary, enc told]) (f_u_law_is_ring glossary told) := by
  refine fn_flat (fn_run ?_ rfl (by decide))
  apply sj_eq
  · exact (sj_if (kt_orM (kt_cmpp (t_eq rfl) (k_var rfl) (k_some (k_lst (KL.nil (T := Int))))) (kt_orM (kt_cmpp (t_ne rfl) (k_set1 s_len (k_un (k_var rfl))) (k_call1p b_lenL (k_un (k_var rfl)))) (kt_or1 (kt_cmpp (t_ne rfl) (k_lc (ki_l (k_un (k_var rfl))) (kg_nm rfl) (fun word => (kt_not (kt_ch2 t_leI t_ltI (k_c (0 : Int) rfl) (k_var rfl) (k_call1p b_lenL (k_var rfl))))) fun word => (k_var rfl)) (k_lst (KL.nil (T := Int)))))))
    (sj_ret (u := fun v => v) (k_c (false : Bool) rfl) (fun _ => rfl))
    (sj_ret (u := fun v => v) (k_t (kt_cmpp (t_eq rfl) (k_lcM (ki_r1 (k_call1p b_lenL (k_un (k_var rfl)))) (kg_nm rfl) (fun t_ => (kt_cmpp (t_ninL rfl) (k_ixO o_ixL (k_un (k_var rfl)) (k_var rfl)) (k_ixO o_ixL (k_var rfl) (k_ixO o_ixL (k_un (k_var rfl)) (k_binp o_subI (k_var rfl) (k_c (1 : Int) rfl)))))) fun t_ => (k_var rfl)) (k_lst (KL.nil (T := Int))))) (fun _ => rfl)))
  · unfold f_u_law_is_ring; rfl

@[irreducible] def f_u_law_levels (glossary : List (List Int)) (known : List Int) : R (List Int) :=
  (repL ([(0 : Int)]) (glossary.length : Int)).bind fun v1 => let found : List Int := v1;
  (foldR (fun (found : (List Int)) turn => 
    (rng 0 (glossary.length : Int)).bind fun r2 => (foldR (fun (found : (List Int)) word => 
      (if (!mem word known) then (idx glossary word).bind fun v3 => .ok (!decide (v3 = ([] : List Int))) else .ok false).bind fun v4 => if v4 then
        (idx glossary word).bind fun v5 => (mapR (fun other => (idx found other).bind fun v6 => .ok v6) v5).bind fun l8 => (ck l8).bind fun l7 => (oR (maxI l7)).bind fun v9 => (setL found word ((1 : Int) + v9)).bind fun found => 
        .ok found
      else
        .ok found) found r2).bind fun found => 
    .ok found) found glossary).bind fun found => 
  .ok found
theorem f_u_law_levels_ok (glossary : List (List Int)) (known : List Int) : Sim Is (m_u_law_levels [enc glossary, enc known]) (f_u_law_levels glossary known) := by
  refine fn_flat (fn_run ?_ rfl (by decide))
  apply sj_eq
  · exact (sj_asg (k_bin o_mulL (k_lst (.cons (k_c (0 : Int) rfl) .nil)) (k_call1p b_lenL (k_var rfl))) rfl fun found =>
  (sj_forC (S := (List Int)) (E := fun found => [(0, some (enc (glossary : List (List Int)))), (1, some (enc (known : List Int))), (2, some (enc (found : List Int)))]) (s0 := found) (ki_l (k_var rfl)) (kg_nm rfl) (.cons rfl (.cons rfl (.cons rfl .nil)))
    (fun found turn => (sj_forC (S := (List Int)) (E := fun found => [(0, some (enc (glossary : List (List Int)))), (1, some (enc (known : List Int))), (2, some (enc (found : List Int)))]) (s0 := found) (ki_r1 (k_call1p b_lenL (k_var rfl))) (kg_nm rfl) (.cons rfl (.cons rfl (.cons rfl .nil)))
      (fun found word => (sj_if (kt_andM (kt_cmpp (t_ninL rfl) (k_var rfl) (k_var rfl)) (kt_and1 (kt_cmpp (t_ne rfl) (k_ixO o_ixL (k_var rfl) (k_var rfl)) (k_lst (KL.nil (T := Int))))))
        (sj_set (k_binp o_addI (k_c (1 : Int) rfl) (k_call1 b_maxL (k_lc0M (ki_l (k_ixO o_ixL (k_var rfl) (k_var rfl))) (kg_nm rfl) fun other => (k_ixO o_ixL (k_var rfl) (k_var rfl))))) (k_var rfl) rfl rfl fun found =>
        (sj_nil (u := found) (fun _ f => f.to (.cons rfl (.cons rfl (.cons rfl .nil))))))
        (sj_nil (u := found) (fun _ f => f.to (.cons rfl (.cons rfl (.cons rfl .nil)))))))
    fun found =>
    (sj_nil (u := found) (fun _ f => f.to (.cons rfl (.cons rfl (.cons rfl .nil)))))))
  fun found =>
  (sj_ret (u := fun v => v) (k_var rfl) (fun _ => rfl))))
  · unfold f_u_law_levels; rfl

@[irreducible] def f_is_order (glossary : List (List Int)) (known : List Int) (told : Option (List Int)) : R Bool :=
  (f_check_known glossary known).bind fun v1 => 
  (unO told).bind fun v2 => (sortR v2).bind fun v3 => (rng 0 (glossary.length : Int)).bind fun r4 => (ck r4).bind fun l5 => if (!decide (v3 = l5)) then
    .ok (false : Bool)
  else
    (unO told).bind fun v7 => thenR (forR (T := Bool) (fun (s6 : Unit) p8 => let k := p8.1; let word := p8.2; 
      (if (!mem word known) then (idx glossary word).bind fun v9 => (mapR (fun other => (if (mem other known) then .ok true else (unO told).bind fun v10 => .ok (mem other (cut v10 none (some k)))).bind fun v11 => .ok v11) v9).bind fun l13 => (ck l13).bind fun l12 => .ok (!(l12.all id)) else .ok false).bind fun v14 => if v14 then
        .ok (.rt (false : Bool))
      else
        .ok (.nx ())) () (enumF 0 v7))
    (fun s6 => 
    .ok (true : Bool)) (fun v => .ok v)
theorem f_is_order_ok (glossary : List (List Int)) (known : List Int) (told : Option (List Int)) : Sim Is (m_is_order [enc glossary, enc known, enc told]) (f_is_order glossary known told) := by
  refine fn_flat (fn_run ?_ rfl (by decide))
  apply sj_eq
  · exact (sj_drop (k_call (g := fun p : (List (List Int)) × (List Int) × Unit => f_check_known p.1 p.2.1) (fun p => f_check_known_ok p.1 p.2.1) (ka_cons (k_var rfl) (ka_cons (k_var rfl) ka_nil)))
  (sj_if (kt_cmpp (t_ne rfl) (k_call1 (b_sorted rfl) (k_un (k_var rfl))) (k_lstI (ki_r1 (k_call1p b_lenL (k_var rfl)))))
    (sj_ret (u := fun v => v) (k_c (false : Bool) rfl) (fun _ => rfl))
    (sj_for (V := Bool) (r := (fun v => .ok v)) (S := Unit) (E := fun s6 => [(0, some (enc (glossary : List (List Int)))), (1, some (enc (known : List Int))), (2, some (enc (told : Option (List Int))))]) (s0 := ()) (ki_enum (k_un (k_var rfl))) (kg_2 (kg_nm rfl) (kg_nm rfl)) (.cons rfl (.cons rfl (.cons rfl .nil)))
      (fun s6 p8 => let k := p8.1; let word := p8.2; (sj_if (kt_andM (kt_cmpp (t_ninL rfl) (k_var rfl) (k_var rfl)) (kt_and1 (kt_not (kt_b (k_call1p b_all (k_lc0M (ki_l (k_ixO o_ixL (k_var rfl) (k_var rfl))) (kg_nm rfl) fun other => (k_orM (k_t (kt_cmpp (t_inL rfl) (k_var rfl) (k_var rfl))) (k_or1 (k_t (kt_cmpp (t_inL rfl) (k_var rfl) (k_slL (k_un (k_var rfl)) ko_none (ko_some (k_var rfl)))))))))))))
        (sj_ret (u := fun v => Fl.rt v) (k_c (false : Bool) rfl) (fun _ => rfl))
        (sj_nil (u := (Fl.nx ())) (fun _ f => f.to (.cons rfl (.cons rfl (.cons rfl .nil)))))))
    (fun s6 =>
    (sj_ret (u := fun v => v) (k_c (true : Bool) rfl) (fun _ => rfl))) (fun _ => rfl))))
  · unfold f_is_order; rfl

@[irreducible] def f_u_law_is_order (glossary : List (List Int)) (known : List Int) (told : Option (List Int)) : R Bool :=
  (unO told).bind fun v1 => (sortR v1).bind fun v2 => (rng 0 (glossary.length : Int)).bind fun r3 => (ck r3).bind fun l4 => if (!decide (v2 = l4)) then
    .ok (false : Bool)
  else
    (unO told).bind fun v6 => (rng 0 (v6.length : Int)).bind fun r7 => thenR (forR (T := Bool) (fun (s5 : Unit) k => 
      (unO told).bind fun v8 => (idx v8 k).bind fun v9 => (if (!mem v9 known) then (unO told).bind fun v10 => (idx v10 k).bind fun v11 => (idx glossary v11).bind fun v12 => (lcR (fun other => (if (!mem other known) then (unO told).bind fun v14 => .ok (!mem other (cut v14 none (some k))) else .ok false).bind fun v15 => .ok v15) (fun other => .ok other) v12).bind fun l16 => (ck l16).bind fun l13 => .ok (!decide (l13 = ([] : List Int))) else .ok false).bind fun v17 => if v17 then
        .ok (.rt (false : Bool))
      else
        .ok (.nx ())) () r7)
    (fun s5 => 
    .ok (true : Bool)) (fun v => .ok v)
theorem f_u_law_is_order_ok (glossary : List (List Int)) (known : List Int) (told : Option (List Int)) : Sim Is (m_u_law_is_order [enc glossary, enc known, enc told]) (f_u_law_is_order glossary known told) := by
  refine fn_flat (fn_run ?_ rfl (by decide))
  apply sj_eq
  · exact (sj_if (kt_cmpp (t_ne rfl) (k_call1 (b_sorted rfl) (k_un (k_var rfl))) (k_lstI (ki_r1 (k_call1p b_lenL (k_var rfl)))))
    (sj_ret (u := fun v => v) (k_c (false : Bool) rfl) (fun _ => rfl))
    (sj_for (V := Bool) (r := (fun v => .ok v)) (S := Unit) (E := fun s5 => [(0, some (enc (glossary : List (List Int)))), (1, some (enc (known : List Int))), (2, some (enc (told : Option (List Int))))]) (s0 := ()) (ki_r1 (k_call1p b_lenL (k_un (k_var rfl)))) (kg_nm rfl) (.cons rfl (.cons rfl (.cons rfl .nil)))
      (fun s5 k => (sj_if (kt_andM (kt_cmpp (t_ninL rfl) (k_ixO o_ixL (k_un (k_var rfl)) (k_var rfl)) (k_var rfl)) (kt_and1 (kt_cmpp (t_ne rfl) (k_lcM (ki_l (k_ixO o_ixL (k_var rfl) (k_ixO o_ixL (k_un (k_var rfl)) (k_var rfl)))) (kg_nm rfl) (fun other => (kt_andM (kt_cmpp (t_ninL rfl) (k_var rfl) (k_var rfl)) (kt_and1 (kt_cmpp (t_ninL rfl) (k_var rfl) (k_slL (k_un (k_var rfl)) ko_none (ko_some (k_var rfl))))))) fun other => (k_var rfl)) (k_lst (KL.nil (T := Int))))))
        (sj_ret (u := fun v => Fl.rt v) (k_c (false : Bool) rfl) (fun _ => rfl))
        (sj_nil (u := (Fl.nx ())) (fun _ f => f.to (.cons rfl (.cons rfl (.cons rfl .nil)))))))
    (fun s5 =>
    (sj_ret (u := fun v => v) (k_c (true : Bool) rfl) (fun _ => rfl))) (fun _ => rfl)))
  · unfold f_u_law_is_order; rfl

@[irreducible] def f_ring_in (glossary : List (List Int)) (told : Option (List Int)) : R Bool :=
  (unO told).bind fun v1 => (if decide ((v1.length : Int) = (0 : Int)) then .ok true else (unO told).bind fun v2 => (setLenR v2).bind fun v3 => (unO told).bind fun v4 => (if decide (v3 < (v4.length : Int)) then .ok true else (unO told).bind fun v5 => (ck (v5.map fun word => (decide ((0 : Int) ≤ word) && decide (word < (glossary.length : Int))))).bind fun l6 => .ok (!(l6.all id))).bind fun v7 => .ok v7).bind fun v8 => if v8 then
    .ok (false : Bool)
  else
    (unO told).bind fun v9 => (unO told).bind fun v10 => (unO told).bind fun v11 => (ck ((cut v10 (some (1 : Int)) none) ++ (cut v11 none (some (1 : Int))))).bind fun v12 => (mapR (fun p13 => let one := p13.1; let two := p13.2; (idx glossary one).bind fun v14 => .ok (mem two v14)) (v9.zip v12)).bind fun l16 => (ck l16).bind fun l15 => .ok (l15.all id)
theorem f_ring_in_ok (glossary : List (List Int)) (told : Option (List Int)) : Sim Is (m_ring_in [enc glossary, enc told]) (f_ring_in glossary told) := by
  refine fn_flat (fn_run ?_ rfl (by decide))
  apply sj_eq
  · exact (sj_if (kt_orM (kt_cmpp (t_eq rfl) (k_call1p b_lenL (k_un (k_var rfl))) (k_c (0 : Int) rfl)) (kt_orM (kt_cmpp t_ltI (k_set1 s_len (k_un (k_var rfl))) (k_call1p b_lenL (k_un (k_var rfl)))) (kt_or1 (kt_not (kt_b (k_call1p b_all (k_lc0 (ki_l (k_un (k_var rfl))) (kg_nm rfl) fun word => (k_t (kt_ch2 t_leI t_ltI (k_c (0 : Int) rfl) (k_var rfl) (k_call1p b_lenL (k_var rfl)))))))))))
    (sj_ret (u := fun v => v) (k_c (false : Bool) rfl) (fun _ => rfl))
    (sj_ret (u := fun v => v) (k_call1p b_all (k_lc0M (ki_zip (k_un (k_var rfl)) (k_bin o_addL (k_slL (k_un (k_var rfl)) (ko_some (k_c (1 : Int) rfl)) ko_none) (k_slL (k_un (k_var rfl)) ko_none (ko_some (k_c (1 : Int) rfl))))) (kg_2 (kg_nm rfl) (kg_nm rfl)) fun p13 => (k_t (kt_cmpp (t_inL rfl) (k_var rfl) (k_ixO o_ixL (k_var rfl) (k_var rfl)))))) (fun _ => rfl)))
  · unfold f_ring_in; rfl

@[irreducible] def f_is_ring (glossary : List (List Int)) (told : Option (List Int)) : R Bool :=
  (f_check_glossary glossary).bind fun v1 => 
  (f_ring_in glossary told).bind fun v2 => .ok v2
theorem f_is_ring_ok (glossary : List (List Int)) (told : Option (List Int)) : Sim Is (m_is_ring [enc glossary, enc told]) (f_is_ring glossary told) := by
  refine fn_flat (fn_run ?_ rfl (by decide))
  apply sj_eq
  · exact (sj_drop (k_call (g := fun p : (List (List Int)) × Unit => f_check_glossary p.1) (fun p => f_check_glossary_ok p.1) (ka_cons (k_var rfl) ka_nil))
  (sj_ret (u := fun v => v) (k_call (g := fun p : (List (List Int)) × (Option (List Int)) × Unit => f_ring_in p.1 p.2.1) (fun p => f_ring_in_ok p.1 p.2.1) (ka_cons (k_var rfl) (ka_cons (k_var rfl) ka_nil))) (fun _ => rfl)))
  · unfold f_is_ring; rfl

@[irreducible] def f_law (script : List Int) : R Bool :=
  (f_u_law_draws script).bind fun v1 => let draws : List Int := v1;
  (rng 0 (3 : Int)).bind fun r3 => thenR (forR (T := Bool) (fun (s2 : Unit) turn => 
    (f_u_law_glossary draws ((10 : Int) + (90 * turn)) (7 : Int)).bind fun v4 => let glossary : List (List Int) := v4;
    let many : Int := (glossary.length : Int);
    (rng 0 many).bind fun r5 => (lcR (fun word => (f_u_law_mix draws (((290 : Int) + (8 * turn)) + word) (5 : Int)).bind fun v7 => .ok (decide (v7 = (0 : Int)))) (fun word => .ok word) r5).bind fun l8 => (ck l8).bind fun l6 => let known : List Int := l6;
    (reprT (glossary, known)).bind fun v9 => let kept : Str := v9;
    (f_rests glossary).bind fun v10 => (reprT v10).bind fun v11 => (f_u_law_rests glossary).bind fun v12 => (reprT v12).bind fun v13 => if (!decide (v11 = v13)) then
      .ok (.rt (false : Bool))
    else
      (f_u_law_first glossary known).bind fun v14 => let due : Option (List Int) := v14;
      (f_first_order glossary known).bind fun v15 => (f_ring glossary known).bind fun v16 => let p17 : (Option (List Int)) × (Option (List Int)) := (v15, v16); let told := p17.1; let bad_ := p17.2; 
      (reprT told).bind fun v18 => (reprT due).bind fun v19 => if ((!decide (v18 = v19)) || (!decide (bad_.isNone = due.isSome))) then
        .ok (.rt (false : Bool))
      else
        (rng 0 many).bind fun r20 => (ck r20).bind fun l21 => (rng 0 many).bind fun r22 => (ck r22).bind fun l23 => let lists : List (Option (List Int)) := [(some l21), (some l23.reverse), (some ([] : List Int)), (some ([(0 : Int), (0 : Int)])), (some [many]), (some ([(-(1 : Int))]))];
        if told.isNone then
          (f_u_law_is_ring glossary bad_).bind fun v24 => (if (!v24) then .ok true else (unO bad_).bind fun v25 => (ck ((v25.filter fun word => (mem word known)).map fun word => word)).bind fun l26 => (if (!decide (l26 = ([] : List Int))) then .ok true else (f_levels glossary known).bind fun v27 => .ok v27.isSome).bind fun v28 => .ok v28).bind fun v29 => if v29 then
            .ok (.rt (false : Bool))
          else
            (unO bad_).bind fun v30 => (unO bad_).bind fun v31 => (ck ((cut v30 (some (1 : Int)) none) ++ (cut v31 none (some (1 : Int))))).bind fun v32 => (unO bad_).bind fun v33 => (unO bad_).bind fun v34 => (unO bad_).bind fun v35 => (unO bad_).bind fun v36 => (ck (v35 ++ v36)).bind fun v37 => (ck (lists ++ [bad_, (some v32), (some (cut v33 (some (1 : Int)) none)), (some v34.reverse), (some v37)])).bind fun v38 => let lists__w1 : List (Option (List Int)) := v38;
            thenR (forR (T := Bool) (fun (s39 : Unit) one => 
              (f_is_order glossary known one).bind fun v40 => (reprT v40).bind fun v41 => (f_u_law_is_order glossary known one).bind fun v42 => (reprT v42).bind fun v43 => if (!decide (v41 = v43)) then
                .ok (.rt (false : Bool))
              else
                (f_is_ring glossary one).bind fun v44 => (reprT v44).bind fun v45 => (f_u_law_is_ring glossary one).bind fun v46 => (reprT v46).bind fun v47 => if (!decide (v45 = v47)) then
                  .ok (.rt (false : Bool))
                else
                  .ok (.nx ())) () lists__w1)
            (fun s39 => 
            (if told.isSome then
              (unO told).bind fun v48 => (ckA v48).bind fun _ => 
              .ok ()
            else
              .ok () : R Unit).bind fun s49 => 
            (f_first_order glossary known).bind fun v50 => (reprT v50).bind fun v51 => (reprT due).bind fun v52 => (if (!decide (v51 = v52)) then .ok true else (reprT (glossary, known)).bind fun v53 => .ok (!decide (v53 = kept))).bind fun v54 => if v54 then
              .ok (.rt (false : Bool))
            else
              .ok (.nx ())) (fun v => .ok (Fl.rt v))
        else
          (f_levels glossary known).bind fun v55 => let high : Option (List Int) := v55;
          (reprT high).bind fun v56 => (f_u_law_levels glossary known).bind fun v57 => (reprT v57).bind fun v58 => if (!decide (v56 = v58)) then
            .ok (.rt (false : Bool))
          else
            (unO told).bind fun v59 => (unO told).bind fun v60 => (unO told).bind fun v61 => (unO told).bind fun v62 => (ck ((cut v61 (some (1 : Int)) none) ++ (cut v62 none (some (1 : Int))))).bind fun v63 => (ck (lists ++ [told, (some v59.reverse), (some (cut v60 (some (1 : Int)) none)), (some v63)])).bind fun v64 => let lists__w1 : List (Option (List Int)) := v64;
            (f_u_law_mix draws ((320 : Int) + turn) many).bind fun v65 => let spot : Int := v65;
            (ck (known ++ [spot])).bind fun v66 => (setSortR v66).bind fun v67 => let more : List Int := v67;
            (f_levels glossary more).bind fun v68 => let lower : Option (List Int) := v68;
            (if lower.isNone then .ok true else (rng 0 many).bind fun r69 => (lcR (fun word => (unO lower).bind fun v71 => (idx v71 word).bind fun v72 => (unO high).bind fun v73 => (idx v73 word).bind fun v74 => .ok (decide (v74 < v72))) (fun word => .ok word) r69).bind fun l75 => (ck l75).bind fun l70 => (if (!decide (l70 = ([] : List Int))) then .ok true else (f_first_order glossary more).bind fun v76 => .ok v76.isNone).bind fun v77 => .ok v77).bind fun v78 => if v78 then
              .ok (.rt (false : Bool))
            else
              thenR (forR (T := Bool) (fun (s79 : Unit) one => 
                (f_is_order glossary known one).bind fun v80 => (reprT v80).bind fun v81 => (f_u_law_is_order glossary known one).bind fun v82 => (reprT v82).bind fun v83 => if (!decide (v81 = v83)) then
                  .ok (.rt (false : Bool))
                else
                  (f_is_ring glossary one).bind fun v84 => (reprT v84).bind fun v85 => (f_u_law_is_ring glossary one).bind fun v86 => (reprT v86).bind fun v87 => if (!decide (v85 = v87)) then
                    .ok (.rt (false : Bool))
                  else
                    .ok (.nx ())) () lists__w1)
              (fun s79 => 
              (if told.isSome then
                (unO told).bind fun v88 => (ckA v88).bind fun _ => 
                .ok ()
              else
                .ok () : R Unit).bind fun s89 => 
              (f_first_order glossary known).bind fun v90 => (reprT v90).bind fun v91 => (reprT due).bind fun v92 => (if (!decide (v91 = v92)) then .ok true else (reprT (glossary, known)).bind fun v93 => .ok (!decide (v93 = kept))).bind fun v94 => if v94 then
                .ok (.rt (false : Bool))
              else
                .ok (.nx ())) (fun v => .ok (Fl.rt v))) () r3)
  (fun s2 => 
  .ok (true : Bool)) (fun v => .ok v)
theorem f_law_ok (script : List Int) : Sim Is (m_law [enc script]) (f_law script) := by
  refine fn_run ?_ rfl (by decide)
  apply sj_eq
  · exact (sj_asg (k_call (g := fun p : (List Int) × Unit => f_u_law_draws p.1) (fun p => f_u_law_draws_ok p.1) (ka_cons (k_var rfl) ka_nil)) rfl fun draws =>
  (sj_for (V := Bool) (r := (fun v => .ok v)) (S := Unit) (E := fun s2 => [(1, some (enc (draws : List Int)))]) (s0 := ()) (ki_r1 (k_c (3 : Int) rfl)) (kg_nm rfl) (.cons rfl .nil)
    (fun s2 turn => (sj_asg (k_call (g := fun p : (List Int) × Int × Int × Unit => f_u_law_glossary p.1 p.2.1 p.2.2.1) (fun p => f_u_law_glossary_ok p.1 p.2.1 p.2.2.1) (ka_cons (k_var rfl) (ka_cons (k_binp o_addI (k_c (10 : Int) rfl) (k_cmul rfl (k_var rfl))) (ka_cons (k_c (7 : Int) rfl) ka_nil)))) rfl fun glossary =>
    (sj_asg (k_call1p b_lenL (k_var rfl)) rfl fun many =>
    (sj_asg (k_lcM (ki_r1 (k_var rfl)) (kg_nm rfl) (fun word => (kt_cmpp (t_eq rfl) (k_call (g := fun p : (List Int) × Int × Int × Unit => f_u_law_mix p.1 p.2.1 p.2.2.1) (fun p => f_u_law_mix_ok p.1 p.2.1 p.2.2.1) (ka_cons (k_var rfl) (ka_cons (k_binp o_addI (k_binp o_addI (k_c (290 : Int) rfl) (k_cmul rfl (k_var rfl))) (k_var rfl)) (ka_cons (k_c (5 : Int) rfl) ka_nil)))) (k_c (0 : Int) rfl))) fun word => (k_var rfl)) rfl fun known =>
    (sj_asg (k_call1 b_repr (k_tup2 (k_var rfl) (k_var rfl))) rfl fun kept =>
    (sj_if (kt_cmpp (t_ne rfl) (k_call1 b_repr (k_call (g := fun p : (List (List Int)) × Unit => f_rests p.1) (fun p => f_rests_ok p.1) (ka_cons (k_var rfl) ka_nil))) (k_call1 b_repr (k_call (g := fun p : (List (List Int)) × Unit => f_u_law_rests p.1) (fun p => f_u_law_rests_ok p.1) (ka_cons (k_var rfl) ka_nil))))
      (sj_ret (u := fun v => Fl.rt v) (k_c (false : Bool) rfl) (fun _ => rfl))
      (sj_asg (k_call (g := fun p : (List (List Int)) × (List Int) × Unit => f_u_law_first p.1 p.2.1) (fun p => f_u_law_first_ok p.1 p.2.1) (ka_cons (k_var rfl) (ka_cons (k_var rfl) ka_nil))) rfl fun due =>
      (sj_asgG (k_tup2 (k_call (g := fun p : (List (List Int)) × (List Int) × Unit => f_first_order p.1 p.2.1) (fun p => f_first_order_ok p.1 p.2.1) (ka_cons (k_var rfl) (ka_cons (k_var rfl) ka_nil))) (k_call (g := fun p : (List (List Int)) × (List Int) × Unit => f_ring p.1 p.2.1) (fun p => f_ring_ok p.1 p.2.1) (ka_cons (k_var rfl) (ka_cons (k_var rfl) ka_nil)))) (kg_2 (kg_nm rfl) (kg_nm rfl)) fun p17 => 
      let told := p17.1; let bad_ := p17.2; (sj_if (kt_or (kt_cmpp (t_ne rfl) (k_call1 b_repr (k_var rfl)) (k_call1 b_repr (k_var rfl))) (kt_or1 (kt_cmpp (t_ne rfl) (k_t (kt_cmpp t_isN (k_var rfl) (k_c () rfl))) (k_t (kt_cmpp t_isnN (k_var rfl) (k_c () rfl))))))
        (sj_ret (u := fun v => Fl.rt v) (k_c (false : Bool) rfl) (fun _ => rfl))
        (sj_asg (k_lst (.cons (k_some (k_lstI (ki_r1 (k_var rfl)))) (.cons (k_some (k_rev (k_lstI (ki_r1 (k_var rfl))))) (.cons (k_some (k_lst (KL.nil (T := Int)))) (.cons (k_some (k_lst (.cons (k_c (0 : Int) rfl) (.cons (k_c (0 : Int) rfl) .nil)))) (.cons (k_some (k_lst (.cons (k_var rfl) .nil))) (.cons (k_some (k_lst (.cons (k_neg (k_c (1 : Int) rfl)) .nil))) .nil))))))) rfl fun lists =>
        (sj_if (kt_cmpp t_isN (k_var rfl) (k_c () rfl))
          (sj_if (kt_orM (kt_not (kt_b (k_call (g := fun p : (List (List Int)) × (Option (List Int)) × Unit => f_u_law_is_ring p.1 p.2.1) (fun p => f_u_law_is_ring_ok p.1 p.2.1) (ka_cons (k_var rfl) (ka_cons (k_var rfl) ka_nil))))) (kt_orM (kt_cmpp (t_ne rfl) (k_lc (ki_l (k_un (k_var rfl))) (kg_nm rfl) (fun word => (kt_cmpp (t_inL rfl) (k_var rfl) (k_var rfl))) fun word => (k_var rfl)) (k_lst (KL.nil (T := Int)))) (kt_or1 (kt_cmpp t_isnN (k_call (g := fun p : (List (List Int)) × (List Int) × Unit => f_levels p.1 p.2.1) (fun p => f_levels_ok p.1 p.2.1) (ka_cons (k_var rfl) (ka_cons (k_var rfl) ka_nil))) (k_c () rfl)))))
            (sj_ret (u := fun v => Fl.rt v) (k_c (false : Bool) rfl) (fun _ => rfl))
            (sj_asg (k_bin o_addL (k_var rfl) (k_lst (.cons (k_var rfl) (.cons (k_some (k_bin o_addL (k_slL (k_un (k_var rfl)) (ko_some (k_c (1 : Int) rfl)) ko_none) (k_slL (k_un (k_var rfl)) ko_none (ko_some (k_c (1 : Int) rfl))))) (.cons (k_some (k_slL (k_un (k_var rfl)) (ko_some (k_c (1 : Int) rfl)) ko_none)) (.cons (k_some (k_rev (k_un (k_var rfl)))) (.cons (k_some (k_bin o_addL (k_un (k_var rfl)) (k_un (k_var rfl)))) .nil))))))) rfl fun lists__w1 =>
            (sj_for (V := Bool) (r := (fun v => .ok (Fl.rt v))) (S := Unit) (E := fun s39 => [(1, some (enc (draws : List Int))), (3, some (enc (glossary : List (List Int)))), (5, some (enc (known : List Int))), (6, some (enc (kept : Str))), (7, some (enc (due : Option (List Int)))), (10, some (enc (told : Option (List Int))))]) (s0 := ()) (ki_l (k_var rfl)) (kg_nm rfl) (.cons rfl (.cons rfl (.cons rfl (.cons rfl (.cons rfl (.cons rfl .nil))))))
              (fun s39 one => (sj_if (kt_cmpp (t_ne rfl) (k_call1 b_repr (k_call (g := fun p : (List (List Int)) × (List Int) × (Option (List Int)) × Unit => f_is_order p.1 p.2.1 p.2.2.1) (fun p => f_is_order_ok p.1 p.2.1 p.2.2.1) (ka_cons (k_var rfl) (ka_cons (k_var rfl) (ka_cons (k_var rfl) ka_nil))))) (k_call1 b_repr (k_call (g := fun p : (List (List Int)) × (List Int) × (Option (List Int)) × Unit => f_u_law_is_order p.1 p.2.1 p.2.2.1) (fun p => f_u_law_is_order_ok p.1 p.2.1 p.2.2.1) (ka_cons (k_var rfl) (ka_cons (k_var rfl) (ka_cons (k_var rfl) ka_nil))))))
                (sj_ret (u := fun v => Fl.rt v) (k_c (false : Bool) rfl) (fun _ => rfl))
                (sj_if (kt_cmpp (t_ne rfl) (k_call1 b_repr (k_call (g := fun p : (List (List Int)) × (Option (List Int)) × Unit => f_is_ring p.1 p.2.1) (fun p => f_is_ring_ok p.1 p.2.1) (ka_cons (k_var rfl) (ka_cons (k_var rfl) ka_nil)))) (k_call1 b_repr (k_call (g := fun p : (List (List Int)) × (Option (List Int)) × Unit => f_u_law_is_ring p.1 p.2.1) (fun p => f_u_law_is_ring_ok p.1 p.2.1) (ka_cons (k_var rfl) (ka_cons (k_var rfl) ka_nil)))))
                  (sj_ret (u := fun v => Fl.rt v) (k_c (false : Bool) rfl) (fun _ => rfl))
                  (sj_nil (u := (Fl.nx ())) (fun _ f => f.to (.cons rfl (.cons rfl (.cons rfl (.cons rfl (.cons rfl (.cons rfl .nil)))))))))))
            (fun s39 =>
            (sj_ifJ (S := Unit) (E := fun s49 => [(1, some (enc (draws : List Int))), (3, some (enc (glossary : List (List Int)))), (5, some (enc (known : List Int))), (6, some (enc (kept : Str))), (7, some (enc (due : Option (List Int))))]) (kt_cmpp t_isnN (k_var rfl) (k_c () rfl))
              (sj_dead (E := [(1, some (enc (draws : List Int))), (3, some (enc (glossary : List (List Int)))), (5, some (enc (known : List Int))), (6, some (enc (kept : Str))), (7, some (enc (due : Option (List Int))))]) (.kept rfl rfl (.kept rfl rfl (.kept rfl rfl (.kept rfl rfl (.kept rfl rfl .nil))))) (k_un (k_var rfl)) (k_c (99 : Int) rfl) (sj_nil (u := ()) (fun _ f => f.to (.cons rfl (.cons rfl (.cons rfl (.cons rfl (.cons rfl .nil))))))))
              (sj_nil (u := ()) (fun _ f => f.to (.cons rfl (.cons rfl (.cons rfl (.cons rfl (.cons rfl .nil)))))))
            fun s49 =>
            (sj_if (kt_orM (kt_cmpp (t_ne rfl) (k_call1 b_repr (k_call (g := fun p : (List (List Int)) × (List Int) × Unit => f_first_order p.1 p.2.1) (fun p => f_first_order_ok p.1 p.2.1) (ka_cons (k_var rfl) (ka_cons (k_var rfl) ka_nil)))) (k_call1 b_repr (k_var rfl))) (kt_or1 (kt_cmpp (t_ne rfl) (k_call1 b_repr (k_tup2 (k_var rfl) (k_var rfl))) (k_var rfl))))
              (sj_ret (u := fun v => Fl.rt v) (k_c (false : Bool) rfl) (fun _ => rfl))
              (sj_nil (u := (Fl.nx ())) (fun _ f => f.to (.cons rfl .nil)))))) (fun _ => rfl))))
          (sj_asg (k_call (g := fun p : (List (List Int)) × (List Int) × Unit => f_levels p.1 p.2.1) (fun p => f_levels_ok p.1 p.2.1) (ka_cons (k_var rfl) (ka_cons (k_var rfl) ka_nil))) rfl fun high =>
          (sj_if (kt_cmpp (t_ne rfl) (k_call1 b_repr (k_var rfl)) (k_call1 b_repr (k_call (g := fun p : (List (List Int)) × (List Int) × Unit => f_u_law_levels p.1 p.2.1) (fun p => f_u_law_levels_ok p.1 p.2.1) (ka_cons (k_var rfl) (ka_cons (k_var rfl) ka_nil)))))
            (sj_ret (u := fun v => Fl.rt v) (k_c (false : Bool) rfl) (fun _ => rfl))
            (sj_asg (k_bin o_addL (k_var rfl) (k_lst (.cons (k_var rfl) (.cons (k_some (k_rev (k_un (k_var rfl)))) (.cons (k_some (k_slL (k_un (k_var rfl)) (ko_some (k_c (1 : Int) rfl)) ko_none)) (.cons (k_some (k_bin o_addL (k_slL (k_un (k_var rfl)) (ko_some (k_c (1 : Int) rfl)) ko_none) (k_slL (k_un (k_var rfl)) ko_none (ko_some (k_c (1 : Int) rfl))))) .nil)))))) rfl fun lists__w1 =>
            (sj_asg (k_call (g := fun p : (List Int) × Int × Int × Unit => f_u_law_mix p.1 p.2.1 p.2.2.1) (fun p => f_u_law_mix_ok p.1 p.2.1 p.2.2.1) (ka_cons (k_var rfl) (ka_cons (k_binp o_addI (k_c (320 : Int) rfl) (k_var rfl)) (ka_cons (k_var rfl) ka_nil)))) rfl fun spot =>
            (sj_asg (k_set1 (s_sort rfl) (k_bin o_addL (k_var rfl) (k_lst (.cons (k_var rfl) .nil)))) rfl fun more =>
            (sj_asg (k_call (g := fun p : (List (List Int)) × (List Int) × Unit => f_levels p.1 p.2.1) (fun p => f_levels_ok p.1 p.2.1) (ka_cons (k_var rfl) (ka_cons (k_var rfl) ka_nil))) rfl fun lower =>
            (sj_if (kt_orM (kt_cmpp t_isN (k_var rfl) (k_c () rfl)) (kt_orM (kt_cmpp (t_ne rfl) (k_lcM (ki_r1 (k_var rfl)) (kg_nm rfl) (fun word => (kt_cmpp t_gtI (k_ixO o_ixL (k_un (k_var rfl)) (k_var rfl)) (k_ixO o_ixL (k_un (k_var rfl)) (k_var rfl)))) fun word => (k_var rfl)) (k_lst (KL.nil (T := Int)))) (kt_or1 (kt_cmpp t_isN (k_call (g := fun p : (List (List Int)) × (List Int) × Unit => f_first_order p.1 p.2.1) (fun p => f_first_order_ok p.1 p.2.1) (ka_cons (k_var rfl) (ka_cons (k_var rfl) ka_nil))) (k_c () rfl)))))
              (sj_ret (u := fun v => Fl.rt v) (k_c (false : Bool) rfl) (fun _ => rfl))
              (sj_for (V := Bool) (r := (fun v => .ok (Fl.rt v))) (S := Unit) (E := fun s79 => [(1, some (enc (draws : List Int))), (3, some (enc (glossary : List (List Int)))), (5, some (enc (known : List Int))), (6, some (enc (kept : Str))), (7, some (enc (due : Option (List Int)))), (10, some (enc (told : Option (List Int))))]) (s0 := ()) (ki_l (k_var rfl)) (kg_nm rfl) (.cons rfl (.cons rfl (.cons rfl (.cons rfl (.cons rfl (.cons rfl .nil))))))
                (fun s79 one => (sj_if (kt_cmpp (t_ne rfl) (k_call1 b_repr (k_call (g := fun p : (List (List Int)) × (List Int) × (Option (List Int)) × Unit => f_is_order p.1 p.2.1 p.2.2.1) (fun p => f_is_order_ok p.1 p.2.1 p.2.2.1) (ka_cons (k_var rfl) (ka_cons (k_var rfl) (ka_cons (k_var rfl) ka_nil))))) (k_call1 b_repr (k_call (g := fun p : (List (List Int)) × (List Int) × (Option (List Int)) × Unit => f_u_law_is_order p.1 p.2.1 p.2.2.1) (fun p => f_u_law_is_order_ok p.1 p.2.1 p.2.2.1) (ka_cons (k_var rfl) (ka_cons (k_var rfl) (ka_cons (k_var rfl) ka_nil))))))
                  (sj_ret (u := fun v => Fl.rt v) (k_c (false : Bool) rfl) (fun _ => rfl))
                  (sj_if (kt_cmpp (t_ne rfl) (k_call1 b_repr (k_call (g := fun p : (List (List Int)) × (Option (List Int)) × Unit => f_is_ring p.1 p.2.1) (fun p => f_is_ring_ok p.1 p.2.1) (ka_cons (k_var rfl) (ka_cons (k_var rfl) ka_nil)))) (k_call1 b_repr (k_call (g := fun p : (List (List Int)) × (Option (List Int)) × Unit => f_u_law_is_ring p.1 p.2.1) (fun p => f_u_law_is_ring_ok p.1 p.2.1) (ka_cons (k_var rfl) (ka_cons (k_var rfl) ka_nil)))))
                    (sj_ret (u := fun v => Fl.rt v) (k_c (false : Bool) rfl) (fun _ => rfl))
                    (sj_nil (u := (Fl.nx ())) (fun _ f => f.to (.cons rfl (.cons rfl (.cons rfl (.cons rfl (.cons rfl (.cons rfl .nil)))))))))))
              (fun s79 =>
              (sj_ifJ (S := Unit) (E := fun s89 => [(1, some (enc (draws : List Int))), (3, some (enc (glossary : List (List Int)))), (5, some (enc (known : List Int))), (6, some (enc (kept : Str))), (7, some (enc (due : Option (List Int))))]) (kt_cmpp t_isnN (k_var rfl) (k_c () rfl))
                (sj_dead (E := [(1, some (enc (draws : List Int))), (3, some (enc (glossary : List (List Int)))), (5, some (enc (known : List Int))), (6, some (enc (kept : Str))), (7, some (enc (due : Option (List Int))))]) (.kept rfl rfl (.kept rfl rfl (.kept rfl rfl (.kept rfl rfl (.kept rfl rfl .nil))))) (k_un (k_var rfl)) (k_c (99 : Int) rfl) (sj_nil (u := ()) (fun _ f => f.to (.cons rfl (.cons rfl (.cons rfl (.cons rfl (.cons rfl .nil))))))))
                (sj_nil (u := ()) (fun _ f => f.to (.cons rfl (.cons rfl (.cons rfl (.cons rfl (.cons rfl .nil)))))))
              fun s89 =>
              (sj_if (kt_orM (kt_cmpp (t_ne rfl) (k_call1 b_repr (k_call (g := fun p : (List (List Int)) × (List Int) × Unit => f_first_order p.1 p.2.1) (fun p => f_first_order_ok p.1 p.2.1) (ka_cons (k_var rfl) (ka_cons (k_var rfl) ka_nil)))) (k_call1 b_repr (k_var rfl))) (kt_or1 (kt_cmpp (t_ne rfl) (k_call1 b_repr (k_tup2 (k_var rfl) (k_var rfl))) (k_var rfl))))
                (sj_ret (u := fun v => Fl.rt v) (k_c (false : Bool) rfl) (fun _ => rfl))
                (sj_nil (u := (Fl.nx ())) (fun _ f => f.to (.cons rfl .nil)))))) (fun _ => rfl))))))))))))))))))))
  (fun s2 =>
  (sj_ret (u := fun v => v) (k_c (true : Bool) rfl) (fun _ => rfl))) (fun _ => rfl)))
  · unfold f_law; rfl

end Q
namespace Q
open PySem Dv Tv
open Enc (enc)
/-! ### what is drawn -/
def drawn (j : Nat) (ds : List Int) : Prop := (∀ d ∈ ds, 0 ≤ d ∧ d < 65536) ∧ ds.length ≤ j
theorem drawn.push {j k : Nat} {ds : List Int} (h : drawn j ds) {d : Int} (h0 : 0 ≤ d) (h1 : d < 65536) (hk : j + 1 ≤ k) : drawn k (ds ++ [d]) := by
  refine ⟨fun x hx => ?_, by rw [List.length_append]; have := h.2; simp; omega⟩
  rcases List.mem_append.mp hx with hx | hx
  · exact h.1 x hx
  · cases List.mem_singleton.mp hx
    exact ⟨h0, h1⟩
theorem drawn.up {j k : Nat} {ds : List Int} (h : drawn j ds) (hk : j ≤ k) : drawn k ds := ⟨h.1, Nat.le_trans h.2 hk⟩
theorem drawn.ck {j : Nat} {ds : List Int} (h : drawn j ds) (hj : j ≤ 1000000) : ck ds = .ok ds := ck_ok (Nat.le_trans h.2 hj)
theorem draws_ok (ns : List Int) (hn : ns.length ≤ 63) : ∃ ds : List Int, f_u_law_draws ns = .ok ds ∧ drawn 5000 ds := by
  show Wp _ _
  unfold f_u_law_draws
  have hl : (if (ns.length : Int) < (63 : Int) then (ns.length : Int) else (63 : Int)) = ns.length := by split <;> omega
  rw [hl]
  refine wp_is (rng_ok (by omega) (by omega) (by omega) (by omega)) ?_
  refine wp_bind (P := drawn 3780) ?_ fun ds h => wp_ok (h.up (by omega))
  have step : ∀ (pre : List Int) (k : Int) (post : List Int) (ds : List Int), zr 0 ns.length = pre ++ k :: post → drawn (60 * pre.length) ds → pre.length < 63 ∧ 0 ≤ k ∧ k < ns.length := by
    intro pre k post ds e _
    have h1 : (zr 0 ns.length).length = (pre ++ k :: post).length := by rw [e]
    rw [zr_len, List.length_append, List.length_cons] at h1
    have h2 : k ∈ zr 0 ns.length := by rw [e]; simp
    have h3 := zr_mem.mp h2
    omega
  refine (wp_foldI (fun pre ds => drawn (60 * pre.length) ds) (all := zr 0 ns.length) (fun pre k post ds e hd => ?_) (zr 0 ns.length) [] [] rfl ⟨fun d h => by (cases h), Nat.le_refl _⟩).mono fun ds h => h.up (by rw [zr_len]; omega)
  obtain ⟨hp, h0, h1⟩ := step pre k post ds e hd
  have hlen : (pre ++ [k]).length = pre.length + 1 := by rw [List.length_append]; rfl
  refine wp_bind (wp_idx h0 h1) fun z _ => ?_
  have hr : 0 ≤ (if z < 0 then -z else z) := by split <;> omega
  dsimp only
  generalize (if z < 0 then -z else z) = rest at hr ⊢
  refine wp_is (powR_ok (by omega) (by omega) (by decide)) ?_
  refine wp_if (fun _ => ?_) fun _ => ?_
  · refine wp_is (rng_ok (by omega) (by omega) (by omega) (by omega)) ?_
    refine wp_bind (P := fun s => drawn (60 * pre.length + 60) s.1) ?_ fun s h => wp_ok (h.up (by rw [hlen]; omega))
    refine (wp_foldI (fun q s => drawn (60 * pre.length + q.length) s.1) (all := zr 0 60) (fun q t post s e hs => ?_) (zr 0 60) [] (ds, rest) rfl hd).mono fun s h => h.up (by rw [zr_len]; omega)
    have hq : (q ++ [t]).length = q.length + 1 := by rw [List.length_append]; rfl
    have hq2 : q.length < 60 := by
      have h1 : (zr 0 60).length = (q ++ t :: post).length := by rw [e]
      rw [zr_len, List.length_append, List.length_cons] at h1
      omega
    refine wp_if (fun _ => ?_) fun _ => ?_
    · have hs2 := hs.push (d := s.2 % 65536) (k := 60 * pre.length + (q.length + 1)) (by omega) (by omega) (by omega)
      refine wp_is (hs2.ck (by omega)) (wp_ok ?_)
      rw [hq]; exact hs2
    · exact wp_ok (hs.up (by rw [hq]; omega))
  · try dsimp only
    generalize ((rest * 48271 + (k + 1) * 69621) % 2147483647 * 16807 + 11 * k + 5) % 2147483629 = m2
    have h1 := hd.push (d := m2 % 65536) (k := 60 * pre.length + 1) (by omega) (by omega) (by omega)
    have h2 := h1.push (d := m2 / 65536 % 32768) (k := 60 * (pre.length + 1)) (by omega) (by omega) (by omega)
    refine wp_is (h1.ck (by omega)) (wp_is (h2.ck (by omega)) (wp_ok ?_))
    rw [hlen]; exact h2
theorem mix_ok {ds : List Int} (h : drawn 5000 ds) {k many : Int} (hk : 0 ≤ k) (hm : 0 < many) : Wp (f_u_law_mix ds k many) fun r => 0 ≤ r ∧ r < many := by
  unfold f_u_law_mix
  dsimp only
  refine wp_bind (P := fun _ => True) ?_ fun v _ => ?_
  · refine wp_dif (fun hl => ?_) fun _ => wp_ok trivial
    refine wp_is (modR_ok hl) (wp_bind (wp_idx (Int.emod_nonneg _ (by omega)) (Int.emod_lt_of_pos _ hl)) fun x _ => wp_ok trivial)
  · have fin : ∀ z : Int, Wp (modR z many) fun r => 0 ≤ r ∧ r < many := fun z => ⟨_, modR_ok hm, Int.emod_nonneg _ (by omega), Int.emod_lt_of_pos _ hm⟩
    exact wp_if (fun _ => wp_bind (fin _) fun x hx => wp_ok hx) fun _ => wp_bind (fin _) fun x hx => wp_ok hx
/-! ### glossaries -/
def Up (n : Nat) (ks : List Int) : Prop := ks.Pairwise (· < ·) ∧ ∀ k ∈ ks, 0 ≤ k ∧ k < n
theorem Up.nd {n : Nat} {ks : List Int} (h : Up n ks) : ks.Nodup := h.1.imp fun {a b} h e => by omega
theorem Up.len {n : Nat} {ks : List Int} (h : Up n ks) : ks.length ≤ n := nodup_int h.nd h.2
theorem up_filter {n : Nat} (q : Int → Bool) : Up n ((zr 0 n).filter q) := ⟨(zr_up _ _).filter q, fun k hk => zr_mem.mp (List.mem_filter.mp hk).1⟩
structure NG (g : List (List Int)) : Prop where
  n1 : 1 ≤ g.length
  n7 : g.length ≤ 7
  up : ∀ r ∈ g, Up g.length r
def row (g : List (List Int)) (w : Int) : List Int := (g[w.toNat]?).getD []
section
variable {g : List (List Int)} {known : List Int}
theorem row_idx {w : Int} (hw : 0 ≤ w ∧ w < g.length) : idx g w = .ok (row g w) := by
  have : g[w.toNat]? = some (row g w) := by
    unfold row
    rw [List.getElem?_eq_getElem (show w.toNat < g.length by omega)]; rfl
  exact idx_ok hw.1 this
theorem row_up (h : NG g) {w : Int} (hw : 0 ≤ w ∧ w < g.length) : Up g.length (row g w) := by
  refine h.up _ ?_
  unfold row
  rw [List.getElem?_eq_getElem (show w.toNat < g.length by omega)]
  exact List.getElem_mem _
theorem up_own {n : Nat} {r : List Int} (h : Up n r) : (zr 0 n).filter (fun w => mem w r) = r := up_same ((zr_up _ _).filter _) h.1 fun x => by
  rw [List.mem_filter, mem_iff]
  exact ⟨fun z => z.2, fun z => ⟨zr_mem.mpr (h.2 x z), z⟩⟩
theorem foldU {α : Type} {b : Unit → α → R Unit} : ∀ {xs : List α}, (∀ x ∈ xs, b () x = .ok ()) → foldR b () xs = .ok ()
  | [], _ => rfl
  | x :: xs, h => by
    unfold foldR
    rw [h x (.head _), R.bind_ok, foldU fun y hy => h y (.tail _ hy)]
theorem check_glossary_ok (h : NG g) : f_check_glossary g = .ok () := by
  have h1 := h.n1
  have h7 := h.n7
  unfold f_check_glossary
  rw [decide_eq_true (show (1 : Int) ≤ (g.length : Int) by omega), decide_eq_true (show (g.length : Int) ≤ 9 by omega), if_neg (by decide), foldU fun x hx => ?_]
  · rfl
  · obtain ⟨k, r⟩ := x
    obtain ⟨n, _, hn⟩ := en_mem.mp hx
    have zl := zr_len 0 (g.length : Int)
    dsimp only
    rw [rng_ok (by omega) (by omega) (by omega) (by omega), R.bind_ok, List.map_id', up_own (h.up r (List.mem_of_getElem? hn)), ck_ok (by have := (h.up r (List.mem_of_getElem? hn)).len; omega), R.bind_ok, decide_eq_true rfl]
    rfl
theorem check_known_ok (h : NG g) (hk : Up g.length known) : f_check_known g known = .ok () := by
  unfold f_check_known
  rw [check_glossary_ok h, R.bind_ok, foldU fun x hx => ?_]
  · rfl
  · obtain ⟨k, w⟩ := x
    obtain ⟨n, hkn, hn⟩ := en_mem.mp hx
    obtain ⟨h1, h2⟩ := hk.2 w (List.mem_of_getElem? hn)
    dsimp only
    apply wp_eq
    refine wp_is (x := false) ?_ (wp_no rfl (wp_ok rfl))
    rw [decide_eq_true h1, decide_eq_true h2]
    show R.bind (if decide ((0 : Int) < k) = true then _ else _) _ = _
    rw [bind_ok_self]
    by_cases z : (0 : Int) < k
    · rw [decide_eq_true z, if_pos rfl]
      have hl := (List.getElem?_eq_some_iff.mp hn).1
      obtain ⟨y, e, _, e2⟩ := wp_idx (xs := known) (i := k - 1) (by omega) (by omega)
      rw [e, R.bind_ok]
      congr 1
      refine decide_eq_false ?_
      have := up_at hk.1 e2 hn (by omega)
      omega
    · rw [decide_eq_false z]; rfl
/-! ### what a word rests on -/
inductive Rc (g : List (List Int)) (w : Int) : Int → Prop
  | one {x : Int} : x ∈ row g w → Rc g w x
  | more {x y : Int} : Rc g w x → y ∈ row g x → Rc g w y
theorem rc_in (h : NG g) {w x : Int} (hw : 0 ≤ w ∧ w < g.length) (r : Rc g w x) : 0 ≤ x ∧ x < g.length := by
  induction r with
  | one hx => exact (row_up h hw).2 _ hx
  | more _ hy ih => exact (row_up h ih).2 _ hy
theorem cdec {p : Prop} : @decide p (Classical.propDecidable p) = true ↔ p := @decide_eq_true_iff p (Classical.propDecidable p)
noncomputable def rcs (g : List (List Int)) (w : Int) : List Int := (zr 0 g.length).filter fun x => @decide (Rc g w x) (Classical.propDecidable _)
theorem rcs_mem (h : NG g) {w x : Int} (hw : 0 ≤ w ∧ w < g.length) : x ∈ rcs g w ↔ Rc g w x := by
  unfold rcs
  rw [List.mem_filter, zr_mem, cdec]
  exact ⟨fun z => z.2, fun z => ⟨rc_in h hw z, z⟩⟩
theorem rcs_up (g : List (List Int)) (w : Int) : Up g.length (rcs g w) := up_filter _
theorem sort_is {L M : List Int} (hM : M.Pairwise (· < ·)) (hL : L.Nodup) (h : ∀ x, x ∈ L ↔ x ∈ M) : sortT L = M := by
  have hn : (sortT L).Nodup := sort_nodup hL
  refine up_same (((ints_sorted (xs := L)).and hn).imp fun {a b} h => ?_) hM fun x => sort_mem.trans (h x)
  have := h.1; have := h.2; omega
theorem rests_of_ok (h : NG g) {w : Int} (hw : 0 ≤ w ∧ w < g.length) : f_rests_of g w = .ok (rcs g w) := by
  have h7 := h.n7
  apply wp_eq
  unfold f_rests_of
  dsimp only
  rw [row_idx hw, R.bind_ok]
  refine wp_bind (P := fun s : List Int × Int => s.1.Nodup ∧ ∀ x, x ∈ s.1 ↔ Rc g w x) ?_ fun s hs => ?_
  · refine wp_whlC (fun s : List Int × Int => ∃ k : Nat, s.2 = (k : Int) ∧ k ≤ s.1.length ∧ s.1.Nodup ∧ (∀ x ∈ row g w, x ∈ s.1) ∧ (∀ x ∈ s.1, Rc g w x) ∧ ∀ x ∈ s.1.take k, ∀ y ∈ row g x, y ∈ s.1) (fun s => 9 - s.2.toNat) (fun s hI => ?_) _ _ ⟨0, rfl, Nat.zero_le _, (row_up h hw).nd, fun x hx => hx, fun x hx => .one hx, fun x hx => by cases hx⟩ (by unfold turns; show 9 - (0 : Int).toNat < _; omega)
    obtain ⟨met, at_⟩ := s
    obtain ⟨k, ek, hk, hn, ha', hr, hc⟩ := hI
    dsimp only at *
    subst ek
    have hml : met.length ≤ g.length := nodup_int hn fun x hx => rc_in h hw (hr x hx)
    refine ⟨_, rfl, fun hx => ⟨hn, fun x => ⟨hr x, fun r => ?_⟩⟩, fun hx => ?_⟩
    · have hx := of_decide_eq_false hx
      rw [List.take_of_length_le (by omega)] at hc
      induction r with
      | one hx => exact ha' _ hx
      | more _ hy ih => exact hc _ ih _ hy
    · have hx := of_decide_eq_true hx
      have hx' := List.getElem?_eq_getElem (show k < met.length by omega)
      generalize met[k] = x at hx'
      have hxm := List.mem_of_getElem? hx'
      have hxin := rc_in h hw (hr x hxm)
      have ru := row_up h hxin
      rw [idx_nat hx', R.bind_ok, row_idx hxin, R.bind_ok]
      have sl := ru.len
      have fl := List.length_filter_le (fun one => !mem one met) (row g x)
      rw [List.map_id', ck_ok (by omega), R.bind_ok, ck_ok (by rw [List.length_append]; omega), R.bind_ok]
      refine wp_ok ⟨⟨k + 1, by show (k : Int) + 1 = _; omega, by show k + 1 ≤ (met ++ _).length; rw [List.length_append]; omega, ?_, fun x hx => List.mem_append_left _ (ha' x hx), fun y hy => ?_, fun y hy z hz => ?_⟩, ?_⟩
      · show (met ++ _).Nodup
        refine List.nodup_append.mpr ⟨hn, ru.nd.filter _, fun y hy z hz e => ?_⟩
        subst e
        have := (List.mem_filter.mp hz).2
        rw [mem_iff.mpr hy] at this
        cases this
      · rcases List.mem_append.mp hy with hy | hy
        · exact hr y hy
        · exact .more (hr x hxm) (List.mem_filter.mp hy).1
      · show z ∈ met ++ _
        have hy : y ∈ met.take (k + 1) := by
          have hy : y ∈ (met ++ (row g x).filter fun one => !mem one met).take (k + 1) := hy
          rwa [List.take_append_of_le_length (by omega)] at hy
        rw [List.take_succ, hx'] at hy
        rcases List.mem_append.mp hy with hy | hy
        · exact List.mem_append_left _ (hc y hy z hz)
        · have hy : y ∈ [x] := hy
          cases List.mem_singleton.mp hy
          by_cases hzm : z ∈ met
          · exact List.mem_append_left _ hzm
          · exact List.mem_append_right _ (List.mem_filter.mpr ⟨hz, by rw [mem_no hzm]; rfl⟩)
      · show 9 - ((k : Int) + 1).toNat < 9 - (k : Int).toNat
        omega
  · obtain ⟨met, at_⟩ := s
    obtain ⟨hn, hm⟩ := hs
    have hml : met.length ≤ g.length := nodup_int hn fun x hx => rc_in h hw ((hm x).mp hx)
    dsimp only
    rw [sortR_ok (by omega), R.bind_ok]
    exact wp_ok (sort_is (rcs_up g w).1 hn fun x => by rw [hm, rcs_mem h hw])
theorem rests_ok (h : NG g) : f_rests g = .ok ((zr 0 g.length).map (rcs g)) := by
  have h7 := h.n7
  have zl := zr_len 0 (g.length : Int)
  unfold f_rests
  rw [check_glossary_ok h, R.bind_ok, rng_ok (by omega) (by omega) (by omega) (by omega), R.bind_ok, map_ok (rcs g) (fun w hw => by rw [rests_of_ok h (zr_mem.mp hw)]; rfl), R.bind_ok, ck_ok (by rw [List.length_map]; omega)]
  rfl
/-- the law's own way -/
def tw (g : List (List Int)) : Nat → Int → List Int
  | 0, w => row g w
  | k + 1, w => sortT (dedupT ((tw g k w) ++ (tw g k w).flatMap (row g)))
theorem tw_up (h : NG g) : ∀ (k : Nat) {w : Int}, 0 ≤ w ∧ w < g.length → Up g.length (tw g k w)
  | 0, w, hw => row_up h hw
  | k + 1, w, hw => by
    have ih := tw_up h k hw
    refine ⟨((ints_sorted (xs := dedupT ((tw g k w) ++ (tw g k w).flatMap (row g)))).and (sort_nodup (dedup_nodup _))).imp fun {a b} h => by have := h.1; have := h.2; omega, fun x hx => ?_⟩
    have hx := mem_dedup.mp (sort_mem.mp hx)
    rcases List.mem_append.mp hx with hx | hx
    · exact ih.2 x hx
    · obtain ⟨y, hy, hx⟩ := List.mem_flatMap.mp hx
      exact (row_up h (ih.2 y hy)).2 x hx
theorem tw_mem {k : Nat} {w x : Int} : x ∈ tw g (k + 1) w ↔ x ∈ tw g k w ∨ ∃ y ∈ tw g k w, x ∈ row g y := by
  show x ∈ sortT (dedupT _) ↔ _
  rw [sort_mem, mem_dedup, List.mem_append, List.mem_flatMap]
theorem tw_rc : ∀ {k : Nat} {w x : Int}, x ∈ tw g k w → Rc g w x
  | 0, w, x, h => .one h
  | k + 1, w, x, h => by
    rcases tw_mem.mp h with h | ⟨y, hy, h⟩
    · exact tw_rc h
    · exact .more (tw_rc hy) h
def Cl (g : List (List Int)) (l : List Int) : Prop := ∀ x ∈ l, ∀ y ∈ row g x, y ∈ l
theorem tw_cl (h : NG g) {w : Int} (hw : 0 ≤ w ∧ w < g.length) : ∀ k : Nat, Cl g (tw g k w) ∨ k + 1 ≤ (tw g k w).length
  | 0 => by
    by_cases z : tw g 0 w = []
    · left; intro x hx; rw [z] at hx; cases hx
    · right
      cases e : tw g 0 w with
      | nil => exact absurd e z
      | cons a l => simp
  | k + 1 => by
    rcases tw_cl h hw k with c | l
    · left
      have same : ∀ x, x ∈ tw g (k + 1) w ↔ x ∈ tw g k w := fun x => by
        rw [tw_mem]
        exact ⟨fun z => by rcases z with z | ⟨y, hy, z⟩; exact z; exact c y hy x z, .inl⟩
      intro x hx y hy
      exact (same y).mpr (c x ((same x).mp hx) y hy)
    · by_cases c : Cl g (tw g k w)
      · left
        have same : ∀ x, x ∈ tw g (k + 1) w ↔ x ∈ tw g k w := fun x => by
          rw [tw_mem]
          exact ⟨fun z => by rcases z with z | ⟨y, hy, z⟩; exact z; exact c y hy x z, .inl⟩
        intro x hx y hy
        exact (same y).mpr (c x ((same x).mp hx) y hy)
      · right
        have : ∃ x, x ∈ tw g k w ∧ ∃ y, y ∈ row g x ∧ y ∉ tw g k w := by
          apply Classical.byContradiction
          intro z
          refine c fun x hx y hy => ?_
          apply Classical.byContradiction
          intro z2
          exact z ⟨x, hx, y, hy, z2⟩
        obtain ⟨x, hx, y, hy, hn⟩ := this
        have := nodup_le (xs := y :: tw g k w) (ys := tw g (k + 1) w) (List.nodup_cons.mpr ⟨hn, (tw_up h k hw).nd⟩) fun z hz => by
          rcases List.mem_cons.mp hz with rfl | hz
          · exact tw_mem.mpr (.inr ⟨x, hx, hy⟩)
          · exact tw_mem.mpr (.inl hz)
        rw [List.length_cons] at this
        omega
theorem tw_all (h : NG g) {w : Int} (hw : 0 ≤ w ∧ w < g.length) : tw g g.length w = rcs g w := by
  have u := tw_up h g.length hw
  have cl : Cl g (tw g g.length w) := by
    rcases tw_cl h hw g.length with c | l
    · exact c
    · have := u.len; omega
  have base : ∀ k, ∀ x ∈ row g w, x ∈ tw g k w := fun k => by
    induction k with
    | zero => exact fun x hx => hx
    | succ k ih => exact fun x hx => tw_mem.mpr (.inl (ih x hx))
  refine up_same u.1 (rcs_up g w).1 fun x => ?_
  rw [rcs_mem h hw]
  refine ⟨tw_rc, fun r => ?_⟩
  induction r with
  | one hx => exact base _ _ hx
  | more _ hy ih => exact cl _ ih _ hy
theorem g_rows (g : List (List Int)) : g = (zr 0 g.length).map (row g) := by
  refine List.ext_getElem? fun i => ?_
  unfold zr
  rw [List.map_map, List.getElem?_map]
  by_cases hi : i < g.length
  · rw [List.getElem?_range (by omega), List.getElem?_eq_getElem hi]
    show some g[i] = some (row g (0 + ((i : Nat) : Int)))
    unfold row
    rw [show ((0 : Int) + (i : Int)).toNat = i by omega, List.getElem?_eq_getElem hi]
    rfl
  · rw [List.getElem?_eq_none (by omega), List.getElem?_eq_none (by rw [List.length_range]; omega)]
    rfl
theorem law_rests_ok (h : NG g) : f_u_law_rests g = .ok ((zr 0 g.length).map (rcs g)) := by
  have h7 := h.n7
  have zl := zr_len 0 (g.length : Int)
  apply wp_eq
  unfold f_u_law_rests
  rw [List.map_id', ck_ok (by omega), R.bind_ok]
  dsimp only
  rw [bind_ok_self]
  have hq : (zr 0 g.length).map (tw g g.length) = (zr 0 g.length).map (rcs g) := List.map_congr_left fun w hw => tw_all h (zr_mem.mp hw)
  rw [← hq]
  refine (wp_foldI (fun (pre : List (List Int)) (found : List (List Int)) => found = (zr 0 g.length).map (tw g pre.length)) (all := g) (fun pre turn post found e hf => ?_) g [] g rfl ?_)
  · rw [hf, List.length_append, List.length_singleton]
    have el := congrArg List.length e
    rw [List.length_append, List.length_cons] at el
    refine wp_bind (wp_foldI (fun (pre2 : List (List Int)) (later : List (List Int)) => later = pre2.map fun l => sortT (dedupT (l ++ l.flatMap (row g)))) (all := (zr 0 g.length).map (tw g pre.length)) (fun pre2 told post2 later e2 hl => ?_) _ [] [] rfl rfl) fun later hl => ?_
    · have el2 := congrArg List.length e2
      rw [List.length_map, List.length_append, List.length_cons] at el2
      obtain ⟨w, hw, hwt⟩ := List.mem_map.mp (show told ∈ (zr 0 g.length).map (tw g pre.length) by rw [e2]; simp)
      have ut := tw_up h pre.length (zr_mem.mp hw)
      rw [hwt] at ut
      have ul := ut.len
      have fl : ∀ xs : List Int, (∀ x ∈ xs, x ∈ told) → (xs.flatMap (row g)).length ≤ xs.length * 7 := fun xs hx => flat_len (row g) xs fun x hxm => by have := (row_up h (ut.2 x (hx x hxm))).len; omega
      try dsimp only
      refine wp_bind (P := fun more => more = told ++ told.flatMap (row g)) ?_ fun more hm => ?_
      · refine (wp_foldI (fun (pre3 : List Int) (more : List Int) => more = told ++ pre3.flatMap (row g)) (all := told) (fun pre3 word post3 more e3 hm => ?_) told [] told rfl (by simp))
        have hwin := ut.2 word (by rw [e3]; simp)
        have lp : (pre3 ++ [word]).length ≤ told.length := by rw [e3, List.length_append, List.length_append, List.length_singleton, List.length_cons]; omega
        have := fl (pre3 ++ [word]) fun x hx => by rw [e3]; rcases List.mem_append.mp hx with z | z <;> simp_all
        have e4 : more ++ row g word = told ++ (pre3 ++ [word]).flatMap (row g) := by rw [hm, List.flatMap_append, List.append_assoc]; simp
        rw [row_idx hwin, R.bind_ok, e4, ck_ok (by rw [List.length_append]; omega), R.bind_ok]
        exact wp_ok rfl
      · have := fl told fun x hx => hx
        rw [hm, setSortR_ok (by rw [List.length_append]; omega), R.bind_ok, ck_ok (by rw [hl, List.length_append, List.length_map, List.length_singleton]; omega), R.bind_ok]
        refine wp_ok ?_
        rw [hl, List.map_append]
        rfl
    · refine wp_ok ?_
      rw [hl, List.map_map]
      rfl
  · show g = (zr 0 g.length).map (tw g 0)
    exact g_rows g
end
section
variable {g : List (List Int)} {known : List Int}
/-! ### the greedy order -/
/-- a word is free -/
def frb (g : List (List Int)) (known found : List Int) (w : Int) : Bool := mem w known || (row g w).all fun o => mem o (known ++ found)
def lf (g : List (List Int)) (found : List Int) : List Int := (zr 0 g.length).filter fun w => !mem w found
def fre (g : List (List Int)) (known found : List Int) : List Int := (lf g found).filter (frb g known found)
def gr (g : List (List Int)) (known : List Int) : Nat → List Int
  | 0 => []
  | k + 1 => gr g known k ++ (fre g known (gr g known k)).take 1
theorem lf_mem {found : List Int} {w : Int} : w ∈ lf g found ↔ (0 ≤ w ∧ w < g.length) ∧ w ∉ found := by
  unfold lf
  rw [List.mem_filter, zr_mem]
  constructor
  · rintro ⟨h1, h2⟩
    refine ⟨h1, fun z => ?_⟩
    rw [mem_iff.mpr z] at h2
    cases h2
  · rintro ⟨h1, h2⟩
    exact ⟨h1, by rw [mem_no h2]; rfl⟩
theorem fre_mem {found : List Int} {w : Int} : w ∈ fre g known found ↔ w ∈ lf g found ∧ frb g known found w = true := by unfold fre; rw [List.mem_filter]
theorem frb_iff {found : List Int} {w : Int} : frb g known found w = true ↔ w ∈ known ∨ ∀ o ∈ row g w, o ∈ known ∨ o ∈ found := by
  unfold frb
  rw [Bool.or_eq_true, mem_iff, List.all_eq_true]
  constructor
  · rintro (h | h)
    · exact .inl h
    · exact .inr fun o ho => List.mem_append.mp (mem_iff.mp (h o ho))
  · rintro (h | h)
    · exact .inl h
    · exact .inr fun o ho => mem_iff.mpr (List.mem_append.mpr (h o ho))
/-- what the greedy order is, so far -/
structure Go (g : List (List Int)) (known found : List Int) : Prop where
  nd : found.Nodup
  inn : ∀ w ∈ found, 0 ≤ w ∧ w < g.length
  dep : ∀ (i : Nat) (w : Int), found[i]? = some w → w ∈ known ∨ ∀ o ∈ row g w, o ∈ known ∨ o ∈ found.take i
theorem go_nil : Go g known [] := ⟨List.nodup_nil, fun w h => (by cases h), fun i w h => (by cases h)⟩
theorem go_len {found : List Int} (h : Go g known found) : found.length ≤ g.length := nodup_int h.nd h.inn
theorem go_step {found : List Int} {w : Int} {l : List Int} (h : Go g known found) (e : fre g known found = w :: l) : Go g known (found ++ [w]) := by
  have hw : w ∈ fre g known found := by rw [e]; exact .head _
  obtain ⟨h1, h2⟩ := fre_mem.mp hw
  obtain ⟨h3, h4⟩ := lf_mem.mp h1
  refine ⟨List.nodup_append.mpr ⟨h.nd, by simp, fun a ha b hb e => ?_⟩, fun a ha => ?_, fun i a ha => ?_⟩
  · cases List.mem_singleton.mp hb
    exact h4 (e ▸ ha)
  · rcases List.mem_append.mp ha with ha | ha
    · exact h.inn a ha
    · cases List.mem_singleton.mp ha
      exact h3
  · by_cases hi : i < found.length
    · rw [List.getElem?_append_left hi] at ha
      rcases h.dep i a ha with z | z
      · exact .inl z
      · refine .inr fun o ho => ?_
        rw [List.take_append_of_le_length (by omega)]
        exact z o ho
    · have hl := (List.getElem?_eq_some_iff.mp ha).1
      rw [List.length_append, List.length_singleton] at hl
      have ei : i = found.length := by omega
      subst ei
      rw [List.getElem?_append_right (by omega), Nat.sub_self] at ha
      have ea : w = a := by simpa using ha
      subst ea
      rw [List.take_left']
      · exact frb_iff.mp h2
      · rfl
theorem go_gr : ∀ k : Nat, Go g known (gr g known k)
  | 0 => go_nil
  | k + 1 => by
    show Go g known (gr g known k ++ (fre g known (gr g known k)).take 1)
    cases e : fre g known (gr g known k) with
    | nil => rw [List.take_nil, List.append_nil]; exact go_gr k
    | cons w l => exact go_step (go_gr k) e
theorem gr_stuck {k : Nat} (h : fre g known (gr g known k) = []) : ∀ j : Nat, gr g known (k + j) = gr g known k
  | 0 => rfl
  | j + 1 => by
    show gr g known (k + j) ++ (fre g known (gr g known (k + j))).take 1 = _
    rw [gr_stuck h j, h, List.take_nil, List.append_nil]
def fin (g : List (List Int)) (known : List Int) : List Int := gr g known g.length
theorem lf_nil {found : List Int} (h : Go g known found) (e : found.length = g.length) : lf g found = [] := by
  cases z : lf g found with
  | nil => rfl
  | cons w l =>
    exfalso
    obtain ⟨h1, h2⟩ := lf_mem.mp (show w ∈ lf g found by rw [z]; exact .head _)
    have := nodup_int (n := g.length) (List.nodup_cons.mpr ⟨h2, h.nd⟩) fun x hx => by
      rcases List.mem_cons.mp hx with rfl | hx
      · exact h1
      · exact h.inn x hx
    rw [List.length_cons] at this
    omega
theorem fin_of {k : Nat} (hk : (gr g known k).length = k) (h : fre g known (gr g known k) = []) : gr g known k = fin g known := by
  have hl := go_len (go_gr (g := g) (known := known) k)
  unfold fin
  have := gr_stuck h (g.length - k)
  rw [show k + (g.length - k) = g.length by omega] at this
  exact this.symm
theorem gr_len {k : Nat} : (gr g known k).length = k ∨ ∃ j, j < k ∧ (gr g known j).length = j ∧ fre g known (gr g known j) = [] := by
  induction k with
  | zero => exact .inl rfl
  | succ k ih =>
    rcases ih with ih | ⟨j, h1, h2, h3⟩
    · cases e : fre g known (gr g known k) with
      | nil => exact .inr ⟨k, by omega, ih, e⟩
      | cons w l =>
        left
        show (gr g known k ++ (fre g known (gr g known k)).take 1).length = _
        rw [e, List.length_append, ih]
        rfl
    · exact .inr ⟨j, by omega, h2, h3⟩
theorem fin_stuck : fre g known (fin g known) = [] := by
  rcases gr_len (g := g) (known := known) (k := g.length) with h | ⟨j, h1, h2, h3⟩
  · unfold fre fin
    rw [lf_nil (go_gr _) h]
    rfl
  · rw [← fin_of h2 h3]; exact h3
theorem go_fin : Go g known (fin g known) := go_gr _
theorem lf_up (found : List Int) : Up g.length (lf g found) := up_filter _
theorem free_ok (h : NG g) {found : List Int} (hg : Go g known found) (hkn : known.length ≤ 7) {left : List Int} (hl : ∀ w ∈ left, 0 ≤ w ∧ w < g.length) :
    lcR (fun word => (if (mem word known) then .ok true else (idx g word).bind fun v6 => (ck (v6.map fun other => (mem other (known ++ (found ++ []))))).bind fun l7 => .ok (l7.all id)).bind fun v8 => .ok v8) (fun word => .ok word) left = .ok (left.filter (frb g known found)) := by
  rw [lc_ok (frb g known found) (fun w => w) (fun w hw => ?_) (fun _ _ _ => rfl), List.map_id']
  have h7 := h.n7
  unfold frb
  cases z : mem w known with
  | true => rfl
  | false =>
    rw [if_neg Bool.false_ne_true, row_idx (hl w hw), R.bind_ok, ck_ok (by rw [List.length_map]; have := (row_up h (hl w hw)).len; omega), R.bind_ok, Bool.false_or, List.all_map, List.append_nil]
    rfl
theorem lf_step (found : List Int) (w : Int) : (lf g found).filter (fun x => !mem x (found ++ [w])) = lf g (found ++ [w]) := by
  unfold lf
  rw [List.filter_filter]
  refine List.filter_congr fun x _ => ?_
  cases z : mem x (found ++ [w]) with
  | true => rfl
  | false =>
    have : x ∉ found := fun m => by rw [mem_iff.mpr (List.mem_append_left _ m)] at z; cases z
    rw [mem_no this]
    rfl
theorem lf_same (found : List Int) : (lf g found).filter (fun x => !mem x found) = lf g found := by
  unfold lf
  rw [List.filter_filter]
  exact List.filter_congr fun x _ => by rw [Bool.and_self]
theorem lf_zr : lf g [] = zr 0 g.length := by
  unfold lf
  exact List.filter_eq_self.mpr fun x _ => rfl
theorem order_of_ok (h : NG g) (hk : Up g.length known) : f_order_of g known = .ok (fin g known, lf g (fin g known)) := by
  have h7 := h.n7
  have h1 := h.n1
  have kl := hk.len
  have zl := zr_len 0 (g.length : Int)
  apply wp_eq
  unfold f_order_of
  dsimp only
  rw [rng_ok (by omega) (by omega) (by omega) (by omega), R.bind_ok, ck_ok (by omega), R.bind_ok]
  refine wp_bind (P := fun s : List Int × List Int × List Int => s.1 = fin g known ∧ s.2.1 = lf g (fin g known)) ?_ fun s hs => ?_
  · refine wp_whlC (fun s : List Int × List Int × List Int => s.1 = gr g known s.1.length ∧ s.2.1 = lf g s.1 ∧ (s.2.2 = [] → fre g known s.1 = [])) (fun s => 2 * (9 - s.1.length) + if s.2.2 = [] then 0 else 1) (fun s hI => ?_) _ _ ⟨rfl, lf_zr.symm, fun z => ?_⟩ ?_
    · obtain ⟨found, left, free⟩ := s
      obtain ⟨i1, i2, i3⟩ := hI
      dsimp only at *
      have hgo : Go g known found := by rw [i1]; exact go_gr _
      have hfl := go_len hgo
      refine ⟨_, rfl, fun hx => ?_, fun hx => ?_⟩
      · have hx := of_decide_eq_false hx
        have hf : free = [] := List.length_eq_zero_iff.mp (by omega)
        have e := fin_of (g := g) (known := known) (k := found.length) (by rw [← i1]) (by rw [← i1]; exact i3 hf)
        rw [← i1] at e
        exact ⟨e, by rw [i2, e]⟩
      · have hx := of_decide_eq_true hx
        have hf : free ≠ [] := fun e => by rw [e] at hx; simp at hx
        have ll : (lf g found).length ≤ g.length := (lf_up found).len
        rw [ck_ok (by rw [List.length_append, List.append_nil]; omega), R.bind_ok, i2, free_ok h hgo (by omega) (lf_up found).2, R.bind_ok]
        show Wp ((ck (fre g known found)).bind _) _
        have fl : (fre g known found).length ≤ g.length := Nat.le_trans (List.length_filter_le _ _) ll
        rw [ck_ok (by omega), R.bind_ok, cut_none (by decide)]
        have tl : ((fre g known found).take 1).length ≤ 1 := List.length_take_le _ _
        rw [show ((1 : Int)).toNat = 1 from rfl, ck_ok (by rw [List.length_append]; omega), R.bind_ok]
        have fl2 := List.length_filter_le (fun word => !mem word (found ++ (fre g known found).take 1)) (lf g found)
        rw [List.map_id', ck_ok (by omega), R.bind_ok]
        refine wp_ok ?_
        cases e : fre g known found with
        | nil =>
          rw [List.take_nil, List.append_nil, lf_same]
          refine ⟨⟨i1, rfl, fun _ => e⟩, ?_⟩
          rw [if_pos rfl, if_neg hf]
          show 2 * (9 - found.length) + 0 < 2 * (9 - found.length) + 1
          omega
        | cons w l =>
          have et : List.take 1 (w :: l) = [w] := rfl
          rw [et, lf_step]
          have hl2 : (found ++ [w]).length = found.length + 1 := by simp
          refine ⟨⟨?_, rfl, fun z => by cases z⟩, ?_⟩
          · show found ++ [w] = gr g known (found ++ [w]).length
            rw [hl2]
            show _ = gr g known found.length ++ (fre g known (gr g known found.length)).take 1
            rw [← i1, e]
            rfl
          · have g2 := go_len (go_step hgo e)
            rw [hl2] at g2
            show 2 * (9 - (found ++ [w]).length) + _ < 2 * (9 - found.length) + _
            rw [hl2, if_neg (by simp), if_neg hf]
            omega
    · exfalso
      have : (zr 0 (g.length : Int)).length = 0 := by rw [show zr 0 (g.length : Int) = [] from z]; rfl
      omega
    · show 2 * (9 - 0) + _ < turns
      unfold turns
      split <;> omega
  · obtain ⟨found, left, free⟩ := s
    obtain ⟨e1, e2⟩ := hs
    dsimp only at *
    rw [e1, e2]
    exact wp_ok rfl
def fo (g : List (List Int)) (known : List Int) : Option (List Int) := if lf g (fin g known) = [] then some (fin g known) else none
theorem first_order_ok (h : NG g) (hk : Up g.length known) : f_first_order g known = .ok (fo g known) := by
  unfold f_first_order
  rw [check_known_ok h hk, R.bind_ok, order_of_ok h hk, R.bind_ok]
  dsimp only
  unfold fo
  congr 1
  by_cases z : lf g (fin g known) = []
  · rw [if_pos z, z]; rfl
  · have : (lf g (fin g known)).length ≠ 0 := fun e => z (List.length_eq_zero_iff.mp e)
    rw [if_neg z, if_neg]
    intro e
    have := of_decide_eq_true e
    omega
end
/-! ### loops that may answer -/
section
variable {S T U A : Type}
theorem wp_forX {b : S → A → R (Fl S T)} (I : List A → S → Prop) (Q : T → Prop) {all : List A} (hb : ∀ pre x post s, all = pre ++ x :: post → I pre s → Wp (b s x) fun o => (∃ s', o = .nx s' ∧ I (pre ++ [x]) s') ∨ ∃ t, o = .rt t ∧ Q t) :
    ∀ (xs pre : List A) (s : S), all = pre ++ xs → I pre s → Wp (forR b s xs) fun o => (∃ s', o = .nx s' ∧ I all s') ∨ ∃ t, o = .rt t ∧ Q t
  | [], pre, s, e, h => by rw [List.append_nil] at e; subst e; exact wp_ok (.inl ⟨s, rfl, h⟩)
  | x :: xs, pre, s, e, h => by
    obtain ⟨o, e2, h2⟩ := hb pre x xs s e h
    unfold forR
    rw [e2, R.bind_ok]
    rcases h2 with ⟨s', rfl, h'⟩ | ⟨t, rfl, h'⟩
    · exact wp_forX I Q hb xs (pre ++ [x]) s' (by rw [e, List.append_assoc]; rfl) h'
    · exact wp_ok (.inr ⟨t, rfl, h'⟩)
theorem wp_thenX {o : R (Fl S T)} {k : S → R U} {r : T → R U} {I : S → Prop} {Q : T → Prop} {P : U → Prop} (h : Wp o fun o => (∃ s', o = .nx s' ∧ I s') ∨ ∃ t, o = .rt t ∧ Q t) (hk : ∀ s, I s → Wp (k s) P) (hr : ∀ t, Q t → Wp (r t) P) : Wp (thenR o k r) P := by
  obtain ⟨_, rfl, h⟩ := h
  rcases h with ⟨s', rfl, h⟩ | ⟨t, rfl, h⟩
  · exact hk s' h
  · exact hr t h
/-- all pass a test -/
theorem for_all {b : Unit → A → R (Fl Unit Bool)} {k : Unit → R Bool} {r : Bool → R Bool} (c : A → Bool) (hk : k () = .ok true) (hr : r false = .ok false) : ∀ {xs : List A}, (∀ x ∈ xs, b () x = .ok (if c x then .nx () else .rt false)) → thenR (forR b () xs) k r = .ok (xs.all c)
  | [], _ => hk
  | x :: xs, h => by
    unfold forR
    rw [h x (.head _), R.bind_ok, List.all_cons]
    cases c x with
    | true => rw [if_pos rfl, Bool.true_and]; exact for_all c hk hr fun y hy => h y (.tail _ hy)
    | false => rw [if_neg Bool.false_ne_true, Bool.false_and]; exact hr
end
section
variable {g : List (List Int)} {known : List Int}
theorem lf_ne {found : List Int} (hl : found.length < g.length) : lf g found ≠ [] := fun e => by
  have := nodup_le (zr_nodup 0 (g.length : Int)) (ys := found) fun x hx => by
    apply Classical.byContradiction
    intro z
    have := lf_mem.mpr ⟨zr_mem.mp hx, z⟩
    rw [e] at this
    cases this
  rw [zr_len] at this
  omega
theorem freeL_ok (h : NG g) {found left : List Int} (hl : ∀ w ∈ left, 0 ≤ w ∧ w < g.length) :
    lcR (fun word => (if (mem word known) then .ok true else (idx g word).bind fun v6 => (ck ((v6.filter fun other => ((!mem other known) && (!mem other found))).map fun other => other)).bind fun l7 => .ok (decide (l7 = ([] : List Int)))).bind fun v8 => .ok v8) (fun word => .ok word) left = .ok (left.filter (frb g known found)) := by
  rw [lc_ok (frb g known found) (fun w => w) (fun w hw => ?_) (fun _ _ _ => rfl), List.map_id']
  have h7 := h.n7
  cases z : mem w known with
  | true => unfold frb; rw [z]; rfl
  | false =>
    have rl := (row_up h (hl w hw)).len
    have fl := List.length_filter_le (fun other => ((!mem other known) && (!mem other found))) (row g w)
    rw [if_neg Bool.false_ne_true, row_idx (hl w hw), R.bind_ok, List.map_id', ck_ok (by omega), R.bind_ok, R.bind_ok]
    congr 1
    unfold frb
    rw [z, Bool.false_or]
    cases q : (row g w).all fun o => mem o (known ++ found) with
    | true =>
      refine decide_eq_true (List.filter_eq_nil_iff.mpr fun o ho => ?_)
      have := mem_iff.mp (List.all_eq_true.mp q o ho)
      rcases List.mem_append.mp this with m | m <;> simp [mem_iff.mpr m]
    | false =>
      refine decide_eq_false fun e => ?_
      obtain ⟨o, ho, hn⟩ := List.all_eq_false.mp q
      have := List.filter_eq_nil_iff.mp e o ho
      apply hn
      rw [mem_iff, List.mem_append]
      cases a : mem o known with
      | true => exact .inl (mem_iff.mp a)
      | false => cases b : mem o found with
        | true => exact .inr (mem_iff.mp b)
        | false => rw [a, b] at this; exact absurd rfl this
theorem law_first_ok (h : NG g) (hk : Up g.length known) : f_u_law_first g known = .ok (fo g known) := by
  have h7 := h.n7
  have h1 := h.n1
  have kl := hk.len
  have zl := zr_len 0 (g.length : Int)
  apply wp_eq
  unfold f_u_law_first
  dsimp only
  rw [rng_ok (by omega) (by omega) (by omega) (by omega), R.bind_ok, ck_ok (by omega), R.bind_ok]
  refine wp_thenX (wp_forX (fun (pre : List (List Int)) (s : List Int × List Int) => s.1 = gr g known pre.length ∧ s.1.length = pre.length ∧ s.2 = lf g s.1) (fun t : Option (List Int) => t = fo g known) (all := g) (fun pre turn post s e hs => ?_) g [] _ rfl ⟨rfl, rfl, lf_zr.symm⟩) (fun s hs => ?_) fun t ht => wp_ok ht
  · obtain ⟨found, left⟩ := s
    obtain ⟨s1, s2, s3⟩ := hs
    dsimp only at *
    have hgo : Go g known found := by rw [s1]; exact go_gr _
    have hgl : found.length < g.length := by rw [s2, e, List.length_append, List.length_cons]; omega
    have ll : (lf g found).length ≤ g.length := (lf_up found).len
    have fl : (fre g known found).length ≤ g.length := Nat.le_trans (List.length_filter_le _ _) ll
    rw [s3, freeL_ok h (lf_up found).2, R.bind_ok]
    show Wp ((ck (fre g known found)).bind _) _
    rw [ck_ok (by omega), R.bind_ok]
    cases ef : fre g known found with
    | nil =>
      refine wp_yes (decide_eq_true rfl) (wp_ok (.inr ⟨_, rfl, ?_⟩))
      have efin := fin_of (g := g) (known := known) (k := pre.length) (by rw [← s1]; exact s2) (by rw [← s1]; exact ef)
      rw [← s1] at efin
      unfold fo
      rw [← efin, if_neg (lf_ne hgl)]
    | cons w l =>
      refine wp_no (decide_eq_false (by simp)) ?_
      have ei : idx (w :: l) (0 : Int) = .ok w := idx_ok (by omega) rfl
      rw [ei, R.bind_ok, ck_ok (by rw [List.length_append, List.length_singleton]; omega), R.bind_ok]
      have e3 : lcR (fun word => (R.ok w).bind fun v12 => R.ok (!decide (word = v12))) (fun word => R.ok word) (lf g found) = .ok (lf g (found ++ [w])) := by
        refine (lc_ok (fun x => !decide (x = w)) (fun x => x) (fun x _ => rfl) (fun _ _ _ => rfl)).trans ?_
        rw [List.map_id']
        congr 1
        rw [← lf_step]
        refine List.filter_congr fun x hx => ?_
        have hx := (lf_mem.mp hx).2
        by_cases z : x = w
        · subst z
          rw [decide_eq_true rfl, mem_iff.mpr (by simp)]
        · rw [decide_eq_false z, mem_no (by rw [List.mem_append, List.mem_singleton]; exact fun q => q.elim hx z)]
      rw [e3, R.bind_ok]
      have lu := (lf_up (g := g) (found ++ [w])).len
      rw [ck_ok (by omega), R.bind_ok]
      refine wp_ok (.inl ⟨_, rfl, ?_, ?_, rfl⟩)
      · show found ++ [w] = gr g known (pre ++ [turn]).length
        rw [List.length_append, List.length_singleton]
        show _ = gr g known pre.length ++ (fre g known (gr g known pre.length)).take 1
        rw [← s1, ef]
        rfl
      · show (found ++ [w]).length = (pre ++ [turn]).length
        rw [List.length_append, List.length_append, s2]
        rfl
  · obtain ⟨found, left⟩ := s
    obtain ⟨s1, s2, s3⟩ := hs
    dsimp only at *
    refine wp_ok ?_
    have efin : found = fin g known := s1
    unfold fo
    rw [← efin, if_pos (lf_nil (by rw [efin]; exact go_fin) s2)]
/-! ### rings -/
/-- a ring of words: each next one is told by the one before -/
def Rg (g : List (List Int)) (c : List Int) : Prop := ∀ (i : Nat) (w x : Int), c[i]? = some w → c[(i + 1) % c.length]? = some x → x ∈ row g w
theorem idx_lastE {A : Type} {xs : List A} {x : A} (h : xs[xs.length - 1]? = some x) (hl : 0 < xs.length) : idx xs (-(1 : Int)) = .ok x := by
  unfold idx atZ ixZ
  rw [if_neg (by omega), if_pos (by omega)]
  have e : (-(1 : Int) + (xs.length : Int)).toNat = xs.length - 1 := by omega
  show oR (xs[(-(1 : Int) + (xs.length : Int)).toNat]?) = _
  rw [e, h]
  rfl
theorem index_mid {y : Int} : ∀ (A : List Int) (n : Int) (B : List Int), y ∉ A → indexF y n (A ++ y :: B) = .ok (n + A.length)
  | [], n, B, _ => by
    show (if decide (y = y) then R.ok n else _) = _
    rw [decide_eq_true rfl, if_pos rfl]
    congr 1; simp
  | x :: A, n, B, h => by
    have hx : ¬ x = y := fun e => h (by rw [e]; exact .head _)
    show (if decide (x = y) then R.ok n else indexF y (n + 1) (A ++ y :: B)) = _
    rw [decide_eq_false hx, if_neg Bool.false_ne_true, index_mid A (n + 1) B fun z => h (.tail _ z)]
    congr 1
    rw [List.length_cons]; omega
/-- a word that is left is told by one that is left -/
theorem left_next (h : NG g) {w : Int} (hw : w ∈ lf g (fin g known)) : w ∉ known ∧ (row g w).filter (fun x => mem x (lf g (fin g known))) ≠ [] := by
  have nf : frb g known (fin g known) w ≠ true := fun z => by
    have := fre_mem.mpr ⟨hw, z⟩
    rw [fin_stuck] at this
    cases this
  rw [Ne, frb_iff, not_or] at nf
  refine ⟨nf.1, fun e => nf.2 fun o ho => ?_⟩
  apply Classical.byContradiction
  intro z
  rw [not_or] at z
  have ol : o ∈ lf g (fin g known) := lf_mem.mpr ⟨(row_up h (lf_mem.mp hw).1).2 o ho, z.2⟩
  exact List.filter_eq_nil_iff.mp e o ho (mem_iff.mpr ol)
structure Walk (g : List (List Int)) (left walk : List Int) : Prop where
  ne : walk ≠ []
  nd : walk.Nodup
  inl : ∀ w ∈ walk, w ∈ left
  st : ∀ (i : Nat) (w x : Int), walk[i]? = some w → walk[i + 1]? = some x → x ∈ row g w
theorem ring_ok (h : NG g) (hk : Up g.length known) : ∃ r, f_ring g known = .ok r ∧ ((r = none ∧ (fo g known).isSome = true) ∨ ((fo g known) = none ∧ ∃ c, r = some c ∧ c ≠ [] ∧ c.Nodup ∧ (∀ w ∈ c, (0 ≤ w ∧ w < g.length) ∧ w ∉ known) ∧ Rg g c)) := by
  have h7 := h.n7
  show Wp _ _
  unfold f_ring
  rw [check_known_ok h hk, R.bind_ok, order_of_ok h hk, R.bind_ok]
  dsimp only
  generalize hL : lf g (fin g known) = L
  have lu : Up g.length L := by rw [← hL]; exact lf_up _
  have lul := lu.len
  by_cases z : L = []
  · refine wp_yes (decide_eq_true (by rw [z]; rfl)) (wp_ok (.inl ⟨rfl, ?_⟩))
    unfold fo
    rw [hL, if_pos z]
    rfl
  · have fn : fo g known = none := by unfold fo; rw [hL, if_neg z]
    have l0 : 0 < L.length := List.length_pos_iff.mpr z
    refine wp_no (decide_eq_false (by omega)) ?_
    obtain ⟨x0, e0, m0, _⟩ := wp_idx (xs := L) (i := 0) (by omega) (by omega)
    rw [e0, R.bind_ok]
    refine wp_bind (P := fun o : Fl (List Int) (Option (List Int)) => ∃ c, o = .rt (some c) ∧ c ≠ [] ∧ c.Nodup ∧ (∀ w ∈ c, w ∈ L) ∧ Rg g c) ?_ fun o ho => ?_
    · refine wp_whlR (Walk g L) (fun walk => 9 - walk.length) (fun walk hI => ?_) _ _ ⟨by simp, by simp, fun w hw => by cases List.mem_singleton.mp hw; exact m0, fun i w x _ h2 => by simp at h2⟩ (by unfold turns; show 9 - 1 < _; omega)
      refine ⟨true, rfl, fun z => (by cases z), fun _ => ?_⟩
      have wl : walk.length ≤ g.length := nodup_int hI.nd fun w hw => lu.2 w (hI.inl w hw)
      have w0 : 0 < walk.length := List.length_pos_iff.mpr hI.ne
      have el := List.getElem?_eq_getElem (l := walk) (i := walk.length - 1) (by omega)
      generalize walk[walk.length - 1] = x at el
      have xm := hI.inl x (List.mem_of_getElem? el)
      have xin := lu.2 x xm
      rw [idx_lastE el w0, R.bind_ok, row_idx xin, R.bind_ok, List.map_id']
      have rl := (row_up h xin).len
      have fl := List.length_filter_le (fun word => mem word L) (row g x)
      rw [ck_ok (by omega), R.bind_ok]
      have nx := (left_next (known := known) h (by rw [hL]; exact xm)).2
      rw [hL] at nx
      cases ef : (row g x).filter fun word => mem word L with
      | nil => exact absurd ef nx
      | cons y l =>
        have ym : y ∈ (row g x).filter fun word => mem word L := by rw [ef]; exact .head _
        obtain ⟨yr, yL⟩ := List.mem_filter.mp ym
        have yL := mem_iff.mp yL
        have ei : idx (y :: l) (0 : Int) = .ok y := idx_ok (by omega) rfl
        rw [ei, R.bind_ok]
        refine wp_if (fun hm => ?_) fun hm => ?_
        · have hm := mem_iff.mp hm
          obtain ⟨A, B, eAB⟩ := List.append_of_mem hm
          have hnd := hI.nd
          rw [eAB] at hnd
          have hA : y ∉ A := fun z => (List.nodup_append.mp hnd).2.2 y z y (.head _) rfl
          have ex : index walk y = .ok (A.length : Int) := by
            unfold index
            rw [eAB, index_mid A 0 B hA]
            congr 1; omega
          rw [ex, R.bind_ok, cut_from0 (by omega), Int.toNat_natCast]
          refine wp_ok (.inr (.inr ⟨_, rfl, walk.drop A.length, rfl, ?_, hnd.sublist (by rw [← eAB]; exact List.drop_sublist _ _), fun w hw => hI.inl w (List.mem_of_mem_drop hw), ?_⟩))
          · rw [eAB, List.drop_left]; simp
          · intro i w u hw hu
            have cl : (walk.drop A.length).length = B.length + 1 := by rw [eAB, List.drop_left]; rfl
            have wl2 : walk.length = A.length + (B.length + 1) := by rw [eAB, List.length_append, List.length_cons]
            rw [cl] at hu
            have hi := (List.getElem?_eq_some_iff.mp hw).1
            rw [cl] at hi
            rw [List.getElem?_drop] at hw hu
            by_cases hi2 : i = B.length
            · subst hi2
              rw [Nat.mod_self, Nat.add_zero, eAB, List.getElem?_append_right (by omega), Nat.sub_self] at hu
              have : y = u := by simpa using hu
              subst this
              rw [show A.length + B.length = walk.length - 1 by omega, el] at hw
              cases hw
              exact yr
            · rw [Nat.mod_eq_of_lt (by omega)] at hu
              exact hI.st (A.length + i) w u hw (by rw [← hu]; rfl)
        · have hm : y ∉ walk := fun z => by rw [mem_iff.mpr z] at hm; cases hm
          rw [ck_ok (by rw [List.length_append, List.length_singleton]; omega), R.bind_ok]
          have nd2 : (walk ++ [y]).Nodup := List.nodup_append.mpr ⟨hI.nd, by simp, fun a ha b hb e => by cases List.mem_singleton.mp hb; exact hm (e ▸ ha)⟩
          have in2 : ∀ w ∈ walk ++ [y], w ∈ L := fun w hw => by
            rcases List.mem_append.mp hw with hw | hw
            · exact hI.inl w hw
            · cases List.mem_singleton.mp hw; exact yL
          have wl3 : (walk ++ [y]).length ≤ g.length := nodup_int nd2 fun w hw => lu.2 w (in2 w hw)
          rw [List.length_append, List.length_singleton] at wl3
          refine wp_ok (.inl ⟨_, rfl, ⟨by simp, nd2, in2, fun i w u hw hu => ?_⟩, by rw [List.length_append, List.length_singleton]; omega⟩)
          by_cases hi : i + 1 < walk.length
          · rw [List.getElem?_append_left (by omega)] at hw
            rw [List.getElem?_append_left hi] at hu
            exact hI.st i w u hw hu
          · have hi2 := (List.getElem?_eq_some_iff.mp hu).1
            rw [List.length_append, List.length_singleton] at hi2
            have ei2 : i = walk.length - 1 := by omega
            rw [List.getElem?_append_left (by omega), ei2, el] at hw
            cases hw
            rw [List.getElem?_append_right (by omega), show i + 1 - walk.length = 0 by omega] at hu
            have : y = u := by simpa using hu
            subst this
            exact yr
    · obtain ⟨c, rfl, c1, c2, c3, c4⟩ := ho
      refine wp_ok (.inr ⟨fn, c, rfl, c1, c2, fun w hw => ⟨lu.2 w (c3 w hw), (left_next (known := known) h (by rw [hL]; exact c3 w hw)).1⟩, c4⟩)
end
section
variable {g : List (List Int)} {known : List Int}
/-! ### lists tried: rings -/
noncomputable def isR (g : List (List Int)) (told : List Int) : Bool := @decide (told ≠ [] ∧ told.Nodup ∧ (∀ w ∈ told, 0 ≤ w ∧ w < g.length) ∧ Rg g told) (Classical.propDecidable _)
theorem isR_true {told : List Int} : isR g told = true ↔ told ≠ [] ∧ told.Nodup ∧ (∀ w ∈ told, 0 ≤ w ∧ w < g.length) ∧ Rg g told := cdec
theorem isR_no {told : List Int} (h : ¬ (told ≠ [] ∧ told.Nodup ∧ (∀ w ∈ told, 0 ≤ w ∧ w < g.length) ∧ Rg g told)) : isR g told = false := by
  cases z : isR g told with
  | false => rfl
  | true => exact absurd (isR_true.mp z) h
theorem rot_at {A : Type} {xs : List A} {i : Nat} (hi : i < xs.length) : (xs.drop 1 ++ xs.take 1)[i]? = xs[(i + 1) % xs.length]? := by
  have dl : (xs.drop 1).length = xs.length - 1 := List.length_drop
  by_cases h : i + 1 < xs.length
  · rw [List.getElem?_append_left (by omega), List.getElem?_drop, Nat.mod_eq_of_lt h, Nat.add_comm]
  · have e : i + 1 = xs.length := by omega
    rw [List.getElem?_append_right (by omega), e, Nat.mod_self, show i - (xs.drop 1).length = 0 by omega, List.getElem?_take_of_lt (by omega)]
theorem zip_all {A B : Type} {xs : List A} {ys : List B} {f : A × B → Bool} : (xs.zip ys).all f = true ↔ ∀ (i : Nat) (a : A) (b : B), xs[i]? = some a → ys[i]? = some b → f (a, b) = true := by
  rw [List.all_eq_true]
  constructor
  · intro h i a b h1 h2
    exact h (a, b) (List.mem_of_getElem? (i := i) (List.getElem?_zip_eq_some.mpr ⟨h1, h2⟩))
  · rintro h ⟨a, b⟩ hp
    obtain ⟨i, hi⟩ := List.mem_iff_getElem?.mp hp
    obtain ⟨h1, h2⟩ := List.getElem?_zip_eq_some.mp hi
    exact h i a b h1 h2
theorem ring_zip {told : List Int} : ((told.zip (told.drop 1 ++ told.take 1)).all fun p => mem p.2 (row g p.1)) = true ↔ Rg g told := by
  rw [zip_all]
  constructor
  · intro h i w x h1 h2
    have hi := (List.getElem?_eq_some_iff.mp h1).1
    exact mem_iff.mp (h i w x h1 (by rw [rot_at hi]; exact h2))
  · intro h i w x h1 h2
    have hi := (List.getElem?_eq_some_iff.mp h1).1
    exact mem_iff.mpr (h i w x h1 (by rw [← rot_at hi]; exact h2))
theorem setLen_ok {xs : List Int} (h : xs.length ≤ 1000) : setLenR xs = .ok ((dedupT xs).length : Int) := if_pos (by omega)
theorem dec_iff {p : Prop} [Decidable p] {b : Bool} (h : b = true ↔ p) : decide p = b := by
  cases b with
  | true => exact decide_eq_true (h.mp rfl)
  | false => exact decide_eq_false fun z => by have := h.mpr z; cases this
theorem is_ring_ok (h : NG g) {told : List Int} (hl : told.length ≤ 100) : f_is_ring g (some told) = .ok (isR g told) := by
  have h7 := h.n7
  apply wp_eq
  unfold f_is_ring
  rw [check_glossary_ok h, R.bind_ok, bind_ok_self]
  unfold f_ring_in
  have eu : unO (some told) = R.ok told := rfl
  simp only [eu, R.bind_ok]
  by_cases z : told = []
  · rw [z]
    exact wp_ok (isR_no fun q => q.1 rfl).symm
  · have l0 : 0 < told.length := List.length_pos_iff.mpr z
    rw [decide_eq_false (show ¬ ((told.length : Int) = 0) by omega), if_neg Bool.false_ne_true]
    rw [setLen_ok (by omega), R.bind_ok]
    by_cases hn : told.Nodup
    · rw [dedup_id hn, decide_eq_false (by omega), if_neg Bool.false_ne_true]
      rw [ck_ok (by rw [List.length_map]; omega), R.bind_ok, R.bind_ok, R.bind_ok, List.all_map]
      cases hin : told.all (id ∘ fun word => (decide ((0 : Int) ≤ word) && decide (word < (g.length : Int)))) with
      | false =>
        refine wp_yes rfl (wp_ok (isR_no fun q => ?_).symm)
        obtain ⟨w, hw, hb⟩ := List.all_eq_false.mp hin
        obtain ⟨q1, q2⟩ := q.2.2.1 w hw
        apply hb
        show (decide _ && decide _) = true
        rw [decide_eq_true q1, decide_eq_true q2]
        rfl
      | true =>
        have hin2 : ∀ w ∈ told, 0 ≤ w ∧ w < (g.length : Int) := fun w hw => by
          have := List.all_eq_true.mp hin w hw
          have this : (decide ((0 : Int) ≤ w) && decide (w < (g.length : Int))) = true := this
          rw [Bool.and_eq_true] at this
          exact ⟨of_decide_eq_true this.1, of_decide_eq_true this.2⟩
        refine wp_no rfl ?_
        rw [cut_from0 (by decide), cut_none (by decide), show (1 : Int).toNat = 1 from rfl]
        have dl : (told.drop 1).length = told.length - 1 := List.length_drop
        have tl : (told.take 1).length ≤ 1 := List.length_take_le _ _
        rw [ck_ok (by rw [List.length_append]; omega), R.bind_ok, map_ok (fun p : Int × Int => mem p.2 (row g p.1)) (fun p hp => by
          obtain ⟨a, b⟩ := p
          show R.bind (idx g a) _ = _
          rw [row_idx (hin2 a (List.of_mem_zip hp).1), R.bind_ok]), R.bind_ok, ck_ok (by rw [List.length_map, List.length_zip]; omega), R.bind_ok, List.all_map]
        refine wp_ok ?_
        show (told.zip (told.drop 1 ++ told.take 1)).all (fun p => mem p.2 (row g p.1)) = _
        cases q : (told.zip (told.drop 1 ++ told.take 1)).all (fun p => mem p.2 (row g p.1)) with
        | true => exact (isR_true.mpr ⟨z, hn, hin2, ring_zip.mp q⟩).symm
        | false => exact (isR_no fun r => by rw [ring_zip.mpr r.2.2.2] at q; cases q).symm
    · have := dedup_lt hn
      rw [decide_eq_true (by omega), if_pos rfl]
      exact wp_ok (isR_no fun q => hn q.2.1).symm
theorem prev_idx {told : List Int} {n : Nat} (hn : n < told.length) : ∃ u, told[(n + told.length - 1) % told.length]? = some u ∧ idx told ((n : Int) - 1) = .ok u := by
  have hl : (n + told.length - 1) % told.length < told.length := Nat.mod_lt _ (by omega)
  refine ⟨_, List.getElem?_eq_getElem hl, ?_⟩
  by_cases n0 : n = 0
  · have e : (n + told.length - 1) % told.length = told.length - 1 := by rw [n0, Nat.zero_add]; exact Nat.mod_eq_of_lt (by omega)
    have e1 : ((n : Int) - 1) = -1 := by omega
    rw [e1]
    refine idx_lastE ?_ (by omega)
    rw [← e, List.getElem?_eq_getElem hl]
  · have e : (n + told.length - 1) % told.length = n - 1 := by
      rw [show n + told.length - 1 = (n - 1) + told.length by omega, Nat.add_mod_right]
      exact Nat.mod_eq_of_lt (by omega)
    have e1 : ((n : Int) - 1) = ((n - 1 : Nat) : Int) := by omega
    rw [e1]
    refine idx_nat ?_
    rw [← List.getElem?_eq_getElem hl, e]
theorem prev_all {told : List Int} (l0 : 0 < told.length) : (zr 0 (told.length : Int)).filter (fun t : Int => !mem ((told[t.toNat]?).getD 0) (row g ((told[(t.toNat + told.length - 1) % told.length]?).getD 0))) = [] ↔ Rg g told := by
  have at_ : ∀ n, n < told.length → ((n + told.length - 1) % told.length + 1) % told.length = n := fun n hn => by
    by_cases t00 : n = 0
    · rw [t00, Nat.zero_add, Nat.mod_eq_of_lt (show told.length - 1 < told.length by omega), show told.length - 1 + 1 = told.length by omega, Nat.mod_self]
    · rw [show n + told.length - 1 = (n - 1) + told.length by omega, Nat.add_mod_right, Nat.mod_eq_of_lt (show n - 1 < told.length by omega), show n - 1 + 1 = n by omega, Nat.mod_eq_of_lt hn]
  have at2 : ∀ i, i < told.length → ((i + 1) % told.length + told.length - 1) % told.length = i := fun i hi => by
    by_cases t00 : i + 1 = told.length
    · rw [t00, Nat.mod_self, Nat.zero_add, Nat.mod_eq_of_lt (by omega)]; omega
    · rw [Nat.mod_eq_of_lt (show i + 1 < told.length by omega), show i + 1 + told.length - 1 = i + told.length by omega, Nat.add_mod_right, Nat.mod_eq_of_lt hi]
  rw [List.filter_eq_nil_iff]
  constructor
  · intro q i w x h1 h2
    have hi := (List.getElem?_eq_some_iff.mp h1).1
    have hj : (i + 1) % told.length < told.length := Nat.mod_lt _ l0
    have e3 := at2 i hi
    generalize (i + 1) % told.length = m at h2 hj e3
    have := q (m : Int) (zr_mem.mpr ⟨Int.natCast_nonneg m, Int.ofNat_lt.mpr hj⟩)
    rw [Int.toNat_natCast, e3, h1, h2] at this
    have this : ¬ (!mem x (row g w)) = true := this
    cases m : mem x (row g w) with
    | true => exact mem_iff.mp m
    | false => rw [m] at this; exact absurd rfl this
  · intro q t ht
    obtain ⟨t0, t1⟩ := zr_mem.mp ht
    have hi : t.toNat < told.length := by omega
    have e3 := at_ _ hi
    have hj : (t.toNat + told.length - 1) % told.length < told.length := Nat.mod_lt _ l0
    generalize (t.toNat + told.length - 1) % told.length = m at e3 hj
    generalize t.toNat = n at e3 hi
    rw [List.getElem?_eq_getElem hi, List.getElem?_eq_getElem hj]
    have := q m _ told[n] (List.getElem?_eq_getElem hj) (by rw [e3]; exact List.getElem?_eq_getElem hi)
    show ¬ (!mem told[n] (row g told[m])) = true
    rw [mem_iff.mpr this]
    exact Bool.false_ne_true
theorem law_is_ring_ok (h : NG g) {told : List Int} (hl : told.length ≤ 100) : f_u_law_is_ring g (some told) = .ok (isR g told) := by
  have h7 := h.n7
  have zl := zr_len 0 (told.length : Int)
  apply wp_eq
  unfold f_u_law_is_ring
  have eu : unO (some told) = R.ok told := rfl
  rw [eu]
  by_cases z : told = []
  · rw [z, decide_eq_true rfl]
    exact wp_ok (isR_no fun q => q.1 rfl).symm
  · have l0 : 0 < told.length := List.length_pos_iff.mpr z
    rw [decide_eq_false (show ¬ (some told = some []) from fun e => z (Option.some.inj e)), if_neg Bool.false_ne_true]
    rw [R.bind_ok, setLen_ok (by omega), R.bind_ok, R.bind_ok]
    by_cases hn : told.Nodup
    · rw [dedup_id hn, decide_eq_true rfl, Bool.not_true, if_neg Bool.false_ne_true]
      have fl := List.length_filter_le (fun word => (!(decide ((0 : Int) ≤ word) && decide (word < (g.length : Int))))) told
      rw [R.bind_ok, List.map_id', ck_ok (by omega), R.bind_ok, R.bind_ok, R.bind_ok]
      by_cases hin : told.filter (fun word => (!(decide ((0 : Int) ≤ word) && decide (word < (g.length : Int))))) = []
      · have hin2 : ∀ w ∈ told, 0 ≤ w ∧ w < (g.length : Int) := fun w hw => by
          have := List.filter_eq_nil_iff.mp hin w hw
          cases a : (decide ((0 : Int) ≤ w) && decide (w < (g.length : Int))) with
          | false => rw [a] at this; exact absurd rfl this
          | true =>
            rw [Bool.and_eq_true] at a
            exact ⟨of_decide_eq_true a.1, of_decide_eq_true a.2⟩
        refine wp_no (by rw [decide_eq_true hin]; rfl) ?_
        rw [R.bind_ok, rng_ok (by omega) (by omega) (by omega) (by omega), R.bind_ok]
        have key : ∀ t ∈ zr 0 (told.length : Int), ((R.ok told).bind fun v14 => (idx v14 t).bind fun v15 => (R.ok told).bind fun v11 => (idx v11 (t - (1 : Int))).bind fun v12 => (idx g v12).bind fun v13 => R.ok (!mem v15 v13)) = .ok (!mem ((told[t.toNat]?).getD 0) (row g ((told[(t.toNat + told.length - 1) % told.length]?).getD 0))) := fun t ht => by
          obtain ⟨t0, t1⟩ := zr_mem.mp ht
          obtain ⟨n, rfl⟩ : ∃ n : Nat, t = (n : Int) := ⟨t.toNat, by omega⟩
          have hn : n < told.length := by omega
          obtain ⟨u, hu, iu⟩ := prev_idx hn
          rw [R.bind_ok, idx_nat (List.getElem?_eq_getElem hn), R.bind_ok, R.bind_ok, iu, R.bind_ok, row_idx (hin2 u (List.mem_of_getElem? hu)), R.bind_ok, Int.toNat_natCast, List.getElem?_eq_getElem hn, hu]
          rfl
        have e2 := lc_ok (f := fun t_ : Int => R.ok t_) (fun t : Int => !mem ((told[t.toNat]?).getD 0) (row g ((told[(t.toNat + told.length - 1) % told.length]?).getD 0))) (fun t => t) key (fun _ _ _ => rfl)
        rw [List.map_id'] at e2
        have fl2 := List.length_filter_le (fun t : Int => !mem ((told[t.toNat]?).getD 0) (row g ((told[(t.toNat + told.length - 1) % told.length]?).getD 0))) (zr 0 (told.length : Int))
        rw [e2, R.bind_ok, ck_ok (by omega), R.bind_ok]
        refine wp_ok ?_
        have ir : (isR g told = true) ↔ Rg g told := isR_true.trans ⟨fun q => q.2.2.2, fun q => ⟨z, hn, hin2, q⟩⟩
        refine dec_iff (ir.trans ?_)
        exact (prev_all l0).symm
      · refine wp_yes (by rw [decide_eq_false hin]; rfl) (wp_ok (isR_no fun q => hin (List.filter_eq_nil_iff.mpr fun w hw => ?_)).symm)
        obtain ⟨q1, q2⟩ := q.2.2.1 w hw
        rw [decide_eq_true q1, decide_eq_true q2]
        exact Bool.false_ne_true
    · have := dedup_lt hn
      rw [decide_eq_false (show ¬ (((dedupT told).length : Int) = (told.length : Int)) by omega), Bool.not_false, if_pos rfl]
      exact wp_ok (isR_no fun q => hn q.2.1).symm
end
section
variable {g : List (List Int)} {known : List Int}
/-! ### lists tried: orders -/
def okA (g : List (List Int)) (known told : List Int) (p : Int × Int) : Bool := mem p.2 known || (row g p.2).all fun o => mem o known || mem o (told.take p.1.toNat)
def isO (g : List (List Int)) (known told : List Int) : Bool := decide (sortT told = zr 0 g.length) && (enumF 0 told).all (okA g known told)
theorem sorted_in {told : List Int} (e : sortT told = zr 0 g.length) : ∀ w ∈ told, 0 ≤ w ∧ w < (g.length : Int) := fun w hw => zr_mem.mp (by rw [← e]; exact sort_mem.mpr hw)
theorem is_order_ok (h : NG g) (hk : Up g.length known) {told : List Int} (hl : told.length ≤ 100) : f_is_order g known (some told) = .ok (isO g known told) := by
  have h7 := h.n7
  have zl := zr_len 0 (g.length : Int)
  apply wp_eq
  unfold f_is_order
  have eu : unO (some told) = R.ok told := rfl
  rw [eu, check_known_ok h hk, R.bind_ok, R.bind_ok, sortR_ok (by omega), R.bind_ok, rng_ok (by omega) (by omega) (by omega) (by omega), R.bind_ok, ck_ok (by omega), R.bind_ok]
  unfold isO
  by_cases e : sortT told = zr 0 g.length
  · have hin := sorted_in e
    refine wp_no (by rw [decide_eq_true e]; rfl) ?_
    rw [R.bind_ok, decide_eq_true e, Bool.true_and]
    refine eq_wp (for_all (okA g known told) rfl rfl fun p hp => ?_)
    obtain ⟨k, w⟩ := p
    obtain ⟨n, hkn, hn⟩ := en_mem.mp hp
    have wi := hin w (List.mem_of_getElem? hn)
    have rl := (row_up h wi).len
    have k0 : 0 ≤ k := by omega
    dsimp only
    unfold okA
    cases z : mem w known with
    | true => rfl
    | false =>
      rw [Bool.not_false, if_pos rfl, row_idx wi, R.bind_ok, map_ok (fun o => mem o known || mem o (told.take k.toNat)) (fun o _ => by
        cases q : mem o known with
        | true => rfl
        | false =>
          rw [if_neg Bool.false_ne_true]
          show R.bind (R.bind (R.ok told) fun v10 => R.ok (mem o (cut v10 none (some k)))) _ = _
          rw [R.bind_ok, R.bind_ok, cut_none k0, Bool.false_or]), R.bind_ok, ck_ok (by rw [List.length_map]; omega), R.bind_ok, R.bind_ok, List.all_map, Bool.false_or]
      show (if (!(row g w).all fun o => mem o known || mem o (told.take k.toNat)) = true then _ else _) = _
      cases (row g w).all fun o => mem o known || mem o (told.take k.toNat) <;> rfl
  · refine wp_yes (by rw [decide_eq_false e]; rfl) (wp_ok ?_)
    rw [decide_eq_false e]
    rfl
theorem law_is_order_ok (h : NG g) {told : List Int} (hl : told.length ≤ 100) : f_u_law_is_order g known (some told) = .ok (isO g known told) := by
  have h7 := h.n7
  have zl := zr_len 0 (g.length : Int)
  apply wp_eq
  unfold f_u_law_is_order
  have eu : unO (some told) = R.ok told := rfl
  rw [eu, R.bind_ok, sortR_ok (by omega), R.bind_ok, rng_ok (by omega) (by omega) (by omega) (by omega), R.bind_ok, ck_ok (by omega), R.bind_ok]
  unfold isO
  by_cases e : sortT told = zr 0 g.length
  · have hin := sorted_in e
    refine wp_no (by rw [decide_eq_true e]; rfl) ?_
    rw [R.bind_ok, rng_ok (by omega) (by omega) (by omega) (by omega), R.bind_ok, decide_eq_true e, Bool.true_and]
    have same : (enumF 0 told).all (okA g known told) = (zr 0 (told.length : Int)).all fun k => okA g known told (k, (told[k.toNat]?).getD 0) := by
      rw [zr_en, List.all_map]
      rw [Bool.eq_iff_iff, List.all_eq_true, List.all_eq_true]
      have pt : ∀ p ∈ enumF 0 told, ((fun k => okA g known told (k, (told[k.toNat]?).getD 0)) ∘ fun (x : Int × Int) => x.fst) p = okA g known told p := fun p hp => by
        obtain ⟨k, w⟩ := p
        obtain ⟨n, hkn, hn⟩ := en_mem.mp hp
        show okA g known told (k, (told[k.toNat]?).getD 0) = _
        rw [show k.toNat = n by omega, hn]
        rfl
      exact ⟨fun q p hp => by rw [pt p hp]; exact q p hp, fun q p hp => by rw [← pt p hp]; exact q p hp⟩
    rw [same]
    refine eq_wp (for_all (fun k => okA g known told (k, (told[k.toNat]?).getD 0)) rfl rfl fun k hk => ?_)
    obtain ⟨k0, k1⟩ := zr_mem.mp hk
    have hn : k.toNat < told.length := by omega
    have hw := List.getElem?_eq_getElem hn
    generalize told[k.toNat] = w at hw
    have wi := hin w (List.mem_of_getElem? hw)
    have rl := (row_up h wi).len
    rw [hw, R.bind_ok, idx_ok k0 hw, R.bind_ok]
    unfold okA
    show _ = R.ok (if (mem w known || _) = true then _ else _)
    cases z : mem w known with
    | true => rfl
    | false =>
      rw [Bool.not_false, if_pos rfl, R.bind_ok, idx_ok k0 hw, R.bind_ok, row_idx wi, R.bind_ok, Tv.lc_ok (fun o => !(mem o known || mem o (told.take k.toNat))) (fun o => o) (fun o _ => by
        cases q : mem o known with
        | true => rfl
        | false =>
          rw [Bool.not_false, if_pos rfl, R.bind_ok, R.bind_ok, cut_none k0, Bool.false_or]) (fun _ _ _ => rfl), R.bind_ok, List.map_id']
      have fl := List.length_filter_le (fun o => !(mem o known || mem o (told.take k.toNat))) (row g w)
      rw [ck_ok (by omega), R.bind_ok, R.bind_ok, Bool.false_or]
      show (if (!decide ((row g w).filter (fun o => !(mem o known || mem o (told.take k.toNat))) = [])) = true then _ else _) = R.ok (if (row g w).all (fun o => mem o known || mem o (told.take k.toNat)) = true then _ else _)
      have ee : decide ((row g w).filter (fun o => !(mem o known || mem o (told.take k.toNat))) = []) = (row g w).all fun o => mem o known || mem o (told.take k.toNat) := by
        refine dec_iff ?_
        rw [List.filter_eq_nil_iff, List.all_eq_true]
        refine ⟨fun q o ho => ?_, fun q o ho => ?_⟩
        · rw [q o ho]; exact Bool.false_ne_true
        · have := q o ho
          cases z : (mem o known || mem o (told.take k.toNat)) with
          | true => rfl
          | false => rw [z] at this; exact absurd rfl this
      rw [ee]
      cases (row g w).all fun o => mem o known || mem o (told.take k.toNat) <;> rfl
  · refine wp_yes (by rw [decide_eq_false e]; rfl) (wp_ok ?_)
    rw [decide_eq_false e]
    rfl
end
section
variable {g : List (List Int)} {known : List Int}
/-! ### levels -/
theorem maxI_ok : ∀ {l : List Int}, l ≠ [] → ∃ m, maxI l = some m ∧ m ∈ l ∧ ∀ y ∈ l, y ≤ m
  | [], h => absurd rfl h
  | x :: l, _ => by
    have key : ∀ (l : List Int) (x : Int), (l.foldl (fun m y => if m < y then y else m) x = x ∨ l.foldl (fun m y => if m < y then y else m) x ∈ l) ∧ x ≤ l.foldl (fun m y => if m < y then y else m) x ∧ ∀ y ∈ l, y ≤ l.foldl (fun m y => if m < y then y else m) x := by
      intro l
      induction l with
      | nil => exact fun x => ⟨.inl rfl, Int.le_refl _, fun y hy => by cases hy⟩
      | cons z l ih =>
        intro x
        obtain ⟨h1, h2, h3⟩ := ih (if x < z then z else x)
        rw [List.foldl_cons]
        have e1 : x ≤ (if x < z then z else x) := by split <;> omega
        have e2 : z ≤ (if x < z then z else x) := by split <;> omega
        have e3 : (if x < z then z else x) = x ∨ (if x < z then z else x) = z := by split; exact .inr rfl; exact .inl rfl
        generalize (if x < z then z else x) = u at h1 h2 h3 e1 e2 e3
        refine ⟨?_, by omega, fun y hy => ?_⟩
        · rcases h1 with h1 | h1
          · rw [h1]
            rcases e3 with e3 | e3
            · exact .inl e3
            · exact .inr (by rw [e3]; exact .head _)
          · exact .inr (.tail _ h1)
        · rcases List.mem_cons.mp hy with e | hy
          · rw [e]; omega
          · exact h3 y hy
    obtain ⟨h1, h2, h3⟩ := key l x
    refine ⟨_, rfl, ?_, fun y hy => ?_⟩
    · rcases h1 with h1 | h1
      · rw [h1]; exact .head _
      · exact .tail _ h1
    · rcases List.mem_cons.mp hy with rfl | hy
      · exact h2
      · exact h3 y hy
def mx (l : List Int) : Int := (maxI l).getD 0
theorem mx_ok {l : List Int} (h : l ≠ []) : oR (maxI l) = .ok (mx l) ∧ mx l ∈ l ∧ ∀ y ∈ l, y ≤ mx l := by
  obtain ⟨m, h1, h2, h3⟩ := maxI_ok h
  unfold mx
  rw [h1]
  exact ⟨rfl, h2, h3⟩
def act (g : List (List Int)) (known : List Int) (w : Int) : Bool := !mem w known && decide (row g w ≠ [])
theorem act_iff {w : Int} : act g known w = true ↔ w ∉ known ∧ row g w ≠ [] := by
  unfold act
  rw [Bool.and_eq_true, decide_eq_true_iff]
  constructor
  · rintro ⟨h1, h2⟩
    exact ⟨fun z => (by rw [mem_iff.mpr z] at h1; cases h1), h2⟩
  · rintro ⟨h1, h2⟩
    exact ⟨(by rw [mem_no h1]; rfl), h2⟩
def lv (g : List (List Int)) (known : List Int) : Nat → Int → Int
  | 0, _ => 0
  | k + 1, w => if act g known w then 1 + mx ((row g w).map (lv g known k)) else 0
theorem lv_no {k : Nat} {w : Int} (h : act g known w = false) : lv g known k w = 0 := by
  cases k with
  | zero => rfl
  | succ k => unfold lv; rw [h, if_neg Bool.false_ne_true]
theorem known_no {w : Int} (h : w ∈ known) : act g known w = false := by
  cases z : act g known w with
  | false => rfl
  | true => exact absurd h (act_iff.mp z).1
theorem lv_bound : ∀ (k : Nat) (w : Int), 0 ≤ lv g known k w ∧ lv g known k w ≤ k
  | 0, w => ⟨Int.le_refl _, Int.le_refl _⟩
  | k + 1, w => by
    unfold lv
    split
    · rename_i ha
      have ne := (act_iff.mp ha).2
      obtain ⟨_, h2, _⟩ := mx_ok (l := (row g w).map (lv g known k)) (by simpa using ne)
      obtain ⟨o, _, e⟩ := List.mem_map.mp h2
      have := lv_bound k o
      omega
    · omega
theorem lv_stab : ∀ (i : Nat) (w : Int), (fin g known)[i]? = some w → ∀ k, i < k → lv g known k w = lv g known (i + 1) w := by
  intro i
  induction i using Nat.strongRecOn with
  | ind i ih =>
    intro w hw k hk
    obtain ⟨k, rfl⟩ : ∃ k', k = k' + 1 := ⟨k - 1, by omega⟩
    show (if act g known w then _ else _) = (if act g known w then _ else _)
    cases ha : act g known w with
    | false => rfl
    | true =>
      rw [if_pos rfl, if_pos rfl]
      congr 2
      refine List.map_congr_left fun o ho => ?_
      rcases go_fin.dep i w hw with z | z
      · exact absurd z (act_iff.mp ha).1
      · rcases z o ho with z | z
        · rw [lv_no (known_no z), lv_no (known_no z)]
        · obtain ⟨j, hj⟩ := List.mem_iff_getElem?.mp z
          rw [List.getElem?_take] at hj
          split at hj
          · rename_i hji
            rw [ih j hji o hj k (by omega), ih j hji o hj i hji]
          · cases hj
def lev (g : List (List Int)) (known : List Int) (w : Int) : Int := lv g known g.length w
/-- all words have a place -/
def Full (g : List (List Int)) (known : List Int) : Prop := lf g (fin g known) = []
theorem full_at (f : Full g known) {w : Int} (hw : 0 ≤ w ∧ w < g.length) : ∃ i, (fin g known)[i]? = some w ∧ i < g.length := by
  have : w ∈ fin g known := by
    apply Classical.byContradiction
    intro z
    have := lf_mem.mpr ⟨hw, z⟩
    rw [show lf g (fin g known) = [] from f] at this
    cases this
  obtain ⟨i, hi⟩ := List.mem_iff_getElem?.mp this
  have := (List.getElem?_eq_some_iff.mp hi).1
  have := go_len (go_fin (g := g) (known := known))
  exact ⟨i, hi, by omega⟩
theorem full_len (f : Full g known) : (fin g known).length = g.length := by
  have h1 := go_len (go_fin (g := g) (known := known))
  have := nodup_le (zr_nodup 0 (g.length : Int)) (ys := fin g known) fun w hw => by
    obtain ⟨i, hi, _⟩ := full_at f (zr_mem.mp hw)
    exact List.mem_of_getElem? hi
  rw [zr_len] at this
  omega
theorem lev_fix (f : Full g known) {w : Int} (hw : 0 ≤ w ∧ w < g.length) : lev g known w = if act g known w then 1 + mx ((row g w).map (lev g known)) else 0 := by
  obtain ⟨i, hi, hl⟩ := full_at f hw
  unfold lev
  rw [lv_stab i w hi _ hl, ← lv_stab i w hi (g.length + 1) (by omega)]
  rfl
/-! ### passes -/
def updL (g : List (List Int)) (known : List Int) (s : Int → Int) (w : Int) : Int → Int := if act g known w then fun x => if x = w then 1 + mx ((row g w).map s) else s x else s
def Aok (g : List (List Int)) (known : List Int) (s : Int → Int) : Prop := ∀ w, act g known w = false → s w = 0
def Right (g : List (List Int)) (known : List Int) (k : Nat) (s : Int → Int) : Prop := ∀ i w, i < k → (fin g known)[i]? = some w → s w = lev g known w
theorem upd_A {s : Int → Int} {w : Int} (a : Aok g known s) : Aok g known (updL g known s w) := fun x hx => by
  unfold updL
  split
  · rename_i ha
    dsimp only
    rw [if_neg (fun e => by subst e; rw [ha] at hx; cases hx)]
    exact a x hx
  · exact a x hx
theorem upd_at (f : Full g known) {s : Int → Int} {k i : Nat} {w : Int} (a : Aok g known s) (r : Right g known k s) (hi : (fin g known)[i]? = some w) (hk : i ≤ k) : updL g known s w w = lev g known w := by
  have wi := go_fin.inn w (List.mem_of_getElem? hi)
  rw [lev_fix f wi]
  unfold updL
  cases ha : act g known w with
  | false => rw [if_neg Bool.false_ne_true, if_neg Bool.false_ne_true]; exact a w ha
  | true =>
    rw [if_pos rfl, if_pos rfl, if_pos rfl]
    congr 2
    refine List.map_congr_left fun o ho => ?_
    rcases go_fin.dep i w hi with z | z
    · exact absurd z (act_iff.mp ha).1
    · rcases z o ho with z | z
      · rw [a o (known_no z)]
        exact (lv_no (known_no z)).symm
      · obtain ⟨j, hj⟩ := List.mem_iff_getElem?.mp z
        rw [List.getElem?_take] at hj
        split at hj
        · exact r j o (by omega) hj
        · cases hj
theorem upd_keep (f : Full g known) {s : Int → Int} {k : Nat} {w : Int} (a : Aok g known s) (r : Right g known k s) : Right g known k (updL g known s w) := fun i x hi hx => by
  by_cases e : x = w
  · subst e; exact upd_at f a r hx (by omega)
  · unfold updL
    split
    · dsimp only; rw [if_neg e]; exact r i x hi hx
    · exact r i x hi hx
theorem upd_more (f : Full g known) {s : Int → Int} {k : Nat} {w : Int} (a : Aok g known s) (r : Right g known k s) (hw : (fin g known)[k]? = some w) : Right g known (k + 1) (updL g known s w) := fun i x hi hx => by
  by_cases e : i = k
  · subst e
    rw [hw] at hx
    cases hx
    exact upd_at f a r hw (Nat.le_refl _)
  · exact upd_keep f a r i x (by omega) hx
theorem pass_ok {St : Type} (f : Full g known) (rel : St → (Int → Int) → Prop) {b : St → Int → R St} (hb : ∀ (st : St) (s : Int → Int) (w : Int), (0 ≤ w ∧ w < g.length) → rel st s → Wp (b st w) fun st' => rel st' (updL g known s w)) {ws : List Int} (hws : ∀ w ∈ ws, 0 ≤ w ∧ w < g.length) (hall : ∀ w : Int, (0 ≤ w ∧ w < g.length) → w ∈ ws)
    {k : Nat} (hk : k < g.length) {st : St} {s : Int → Int} (h1 : rel st s) (h2 : Aok g known s) (h3 : Right g known k s) : Wp (foldR b st ws) fun st' => ∃ s', rel st' s' ∧ Aok g known s' ∧ Right g known (k + 1) s' := by
  have hkl : k < (fin g known).length := by rw [full_len f]; exact hk
  have hw0 := List.getElem?_eq_getElem hkl
  generalize (fin g known)[k] = w0 at hw0
  have w0m := hall w0 (go_fin.inn w0 (List.mem_of_getElem? hw0))
  refine (wp_foldI (fun (pre : List Int) (st : St) => ∃ s, rel st s ∧ Aok g known s ∧ Right g known k s ∧ (w0 ∈ pre → Right g known (k + 1) s)) (all := ws) (fun pre w post st e hs => ?_) ws [] st rfl ⟨s, h1, h2, h3, fun z => by cases z⟩).mono fun st' ⟨s', g1, g2, g3, g4⟩ => ⟨s', g1, g2, g4 w0m⟩
  obtain ⟨s, g1, g2, g3, g4⟩ := hs
  refine (hb st s w (hws w (by rw [e]; simp)) g1).mono fun st' hr => ⟨_, hr, upd_A g2, upd_keep f g2 g3, fun z => ?_⟩
  rcases List.mem_append.mp z with z | z
  · exact upd_keep f g2 (g4 z)
  · cases List.mem_singleton.mp z
    exact upd_more f g2 g3 hw0
theorem passes_ok {St U : Type} (f : Full g known) (rel : St → (Int → Int) → Prop) {b : St → Int → R St} (hb : ∀ (st : St) (s : Int → Int) (w : Int), (0 ≤ w ∧ w < g.length) → rel st s → Wp (b st w) fun st' => rel st' (updL g known s w)) {ws : List Int} (hws : ∀ w ∈ ws, 0 ≤ w ∧ w < g.length) (hall : ∀ w : Int, (0 ≤ w ∧ w < g.length) → w ∈ ws)
    {xs : List U} (hx : xs.length = g.length) {b2 : St → U → R St} (hb2 : ∀ st x, b2 st x = (foldR b st ws).bind fun st => .ok st) {st : St} {s : Int → Int} (h1 : rel st s) (h2 : Aok g known s) : Wp (foldR b2 st xs) fun st' => ∃ s', rel st' s' ∧ ∀ w : Int, (0 ≤ w ∧ w < g.length) → s' w = lev g known w := by
  refine (wp_foldI (fun (pre : List U) (st : St) => ∃ s, rel st s ∧ Aok g known s ∧ Right g known pre.length s) (all := xs) (fun pre x post st e hs => ?_) xs [] st rfl ⟨s, h1, h2, fun i w hi => by exact absurd hi (Nat.not_lt_zero _)⟩).mono fun st' ⟨s', g1, g2, g3⟩ => ⟨s', g1, fun w hw => ?_⟩
  · obtain ⟨s, g1, g2, g3⟩ := hs
    have hl := congrArg List.length e
    rw [List.length_append, List.length_cons] at hl
    rw [hb2, bind_ok_self]
    refine (pass_ok f rel hb hws hall (by omega) g1 g2 g3).mono fun st' ⟨s', k1, k2, k3⟩ => ⟨s', k1, k2, ?_⟩
    rw [List.length_append, List.length_singleton]
    exact k3
  · obtain ⟨i, hi, hl⟩ := full_at f hw
    exact g3 i w (by rw [hx]; exact hl) hi
def lvs (g : List (List Int)) (known : List Int) : List Int := (zr 0 g.length).map (lev g known)
structure DR (g : List (List Int)) (d : Dct Int Int) (s : Int → Int) : Prop where
  nd : d.ND
  ks : ∀ k ∈ d.keys, 0 ≤ k ∧ k < (g.length : Int)
  get : ∀ w : Int, (0 ≤ w ∧ w < (g.length : Int)) → d.get w = some (s w)
theorem DR.len {d : Dct Int Int} (h1 : d.ND) (h2 : ∀ k ∈ d.keys, 0 ≤ k ∧ k < (g.length : Int)) : d.l.length ≤ g.length := by
  have := nodup_int h1 h2
  rw [Dct.len_keys] at this
  exact this
theorem dr_put {d : Dct Int Int} {w v : Int} (h1 : d.ND) (h2 : ∀ k ∈ d.keys, 0 ≤ k ∧ k < (g.length : Int)) (hw : 0 ≤ w ∧ w < (g.length : Int)) : (d.put w v).ND ∧ ∀ k ∈ (d.put w v).keys, 0 ≤ k ∧ k < (g.length : Int) := by
  refine ⟨Dct.nd_put h1, fun k hk => ?_⟩
  rw [Dct.keys_put] at hk
  split at hk
  · exact h2 k hk
  · rcases List.mem_append.mp hk with hk | hk
    · exact h2 k hk
    · cases List.mem_singleton.mp hk; exact hw
theorem act_eq {w : Int} : (if (!mem w known) then R.bind (R.ok (row g w)) fun v5 => R.ok (decide ((0 : Int) < (v5.length : Int))) else .ok false) = R.ok (act g known w) := by
  unfold act
  cases mem w known with
  | true => rfl
  | false =>
    rw [Bool.not_false, if_pos rfl, R.bind_ok, Bool.true_and]
    congr 1
    cases row g w with
    | nil => rfl
    | cons x l => exact (decide_eq_true (by rw [List.length_cons]; omega)).trans (decide_eq_true (by simp)).symm
theorem levels_ok (h : NG g) (hk : Up g.length known) : f_levels g known = .ok (if lf g (fin g known) = [] then some (lvs g known) else none) := by
  have h7 := h.n7
  have zl := zr_len 0 (g.length : Int)
  apply wp_eq
  unfold f_levels
  rw [first_order_ok h hk, R.bind_ok]
  unfold fo
  by_cases z : lf g (fin g known) = []
  · rw [if_pos z, if_pos z]
    have f : Full g known := z
    refine wp_no rfl ?_
    have eu : unO (some (fin g known)) = R.ok (fin g known) := rfl
    rw [eu, R.bind_ok]
    have fi := (go_fin (g := g) (known := known)).inn
    refine wp_bind (P := fun d => DR g d fun _ => 0) ?_ fun d0 hd0 => ?_
    · refine (wp_foldI (fun (pre : List Int) (d : Dct Int Int) => d.ND ∧ (∀ k ∈ d.keys, 0 ≤ k ∧ k < (g.length : Int)) ∧ ∀ w ∈ pre, d.get w = some 0) (all := fin g known) (fun pre w post d e hs => ?_) _ [] _ rfl ⟨Dct.nd_nil, fun k hk => (by cases hk), fun w hw => (by cases hw)⟩).mono fun d ⟨g1, g2, g3⟩ => ⟨g1, g2, fun w hw => ?_⟩
      · obtain ⟨g1, g2, g3⟩ := hs
        have dl := DR.len g1 g2
        have wi := fi w (by rw [e]; simp)
        rw [putR_ok (by omega), R.bind_ok]
        obtain ⟨p1, p2⟩ := dr_put (v := 0) g1 g2 wi
        refine wp_ok ⟨p1, p2, fun x hx => ?_⟩
        rw [Dct.get_put]
        split
        · rfl
        · rename_i ne
          rcases List.mem_append.mp hx with hx | hx
          · exact g3 x hx
          · exact absurd (List.mem_singleton.mp hx) ne
      · obtain ⟨i, hi, _⟩ := full_at f hw
        exact g3 w (List.mem_of_getElem? hi)
    · rw [R.bind_ok]
      refine wp_bind (passes_ok f (DR g) (b := fun (found : (Dct Int Int)) word__w1 => 
        (if (!mem word__w1 known) then (idx g word__w1).bind fun v5 => .ok (decide ((0 : Int) < (v5.length : Int))) else .ok false).bind fun v6 => if v6 then
          (idx g word__w1).bind fun v7 => (mapR (fun other => (oR (found.get other)).bind fun v8 => .ok v8) v7).bind fun l10 => (ck l10).bind fun l9 => (oR (maxI l9)).bind fun v11 => (putR found word__w1 ((1 : Int) + v11)).bind fun found => 
          .ok found
        else
          .ok found) (fun d s w hw hd => ?_) (ws := fin g known) fi (fun w hw => ?_) (full_len f) (fun st x => rfl) hd0 fun w _ => rfl) fun d ⟨s, hd, hs⟩ => ?_
      · rw [row_idx hw, act_eq, R.bind_ok]
        unfold updL
        cases ha : act g known w with
        | false => exact wp_ok hd
        | true =>
          rw [if_pos rfl, if_pos rfl]
          have ru := row_up h hw
          have rl := ru.len
          have ne := (act_iff.mp ha).2
          rw [R.bind_ok, map_ok s (fun o ho => by rw [hd.get o (ru.2 o ho)]; rfl), R.bind_ok, ck_ok (by rw [List.length_map]; omega), R.bind_ok, (mx_ok (l := (row g w).map s) (by simpa using ne)).1, R.bind_ok]
          have dl := DR.len hd.nd hd.ks
          rw [putR_ok (by omega), R.bind_ok]
          obtain ⟨p1, p2⟩ := dr_put (v := 1 + mx ((row g w).map s)) hd.nd hd.ks hw
          refine wp_ok ⟨p1, p2, fun x hx => ?_⟩
          rw [Dct.get_put]
          split
          · rfl
          · exact hd.get x hx
      · obtain ⟨i, hi, _⟩ := full_at f hw
        exact List.mem_of_getElem? hi
      · rw [rng_ok (by omega) (by omega) (by omega) (by omega), R.bind_ok, map_ok (lev g known) (fun w hw => by rw [hd.get w (zr_mem.mp hw), hs w (zr_mem.mp hw)]; rfl), R.bind_ok, ck_ok (by rw [List.length_map]; omega), R.bind_ok]
        exact wp_ok rfl
  · rw [if_neg z, if_neg z]
    exact wp_ok rfl
end
section
variable {g : List (List Int)} {known : List Int}
theorem setL_at {A : Type} {xs : List A} {i : Int} {x : A} (h0 : 0 ≤ i) (h1 : i < xs.length) : setL xs i x = .ok (xs.set i.toNat x) := by
  unfold setL ixZ
  rw [if_pos h0, if_pos h1]
theorem rep_flat (n : Nat) (x : Int) : (List.replicate n [x]).flatten = List.replicate n x := by
  induction n with
  | zero => rfl
  | succ n ih => rw [List.replicate_succ, List.flatten_cons, ih]; rfl
theorem repL_ok {x : Int} {k : Int} (h : 0 ≤ k) (h2 : k ≤ 1000) : repL [x] k = .ok (List.replicate k.toNat x) := by
  unfold repL
  rw [decide_eq_true (show -(2 ^ 63) ≤ k ∧ k < 2 ^ 63 from ⟨by omega, by omega⟩), decide_eq_true (show [x].length * k.toNat ≤ lim from by show 1 * k.toNat ≤ 1000000; omega), rep_flat]
  rfl
structure LR (g : List (List Int)) (l : List Int) (s : Int → Int) : Prop where
  len : l.length = g.length
  at_ : ∀ w : Int, (0 ≤ w ∧ w < (g.length : Int)) → l[w.toNat]? = some (s w)
theorem act_eq2 {w : Int} : (if (!mem w known) then R.bind (R.ok (row g w)) fun v3 => R.ok (!decide (v3 = ([] : List Int))) else .ok false) = R.ok (act g known w) := by
  unfold act
  cases mem w known with
  | true => rfl
  | false =>
    rw [Bool.not_false, if_pos rfl, R.bind_ok, Bool.true_and]
    congr 1
    by_cases z : row g w = []
    · rw [decide_eq_true z, decide_eq_false (fun q => q z)]; rfl
    · rw [decide_eq_false z, decide_eq_true z]; rfl
theorem law_levels_ok (h : NG g) (f : Full g known) : f_u_law_levels g known = .ok (lvs g known) := by
  have h7 := h.n7
  have zl := zr_len 0 (g.length : Int)
  apply wp_eq
  unfold f_u_law_levels
  rw [repL_ok (by omega) (by omega), R.bind_ok]
  dsimp only
  rw [bind_ok_self]
  have l0 : LR g (List.replicate (g.length : Int).toNat 0) fun _ => 0 := ⟨by rw [List.length_replicate, Int.toNat_natCast], fun w hw => by rw [List.getElem?_replicate, if_pos (by omega)]⟩
  refine (passes_ok (U := List Int) f (LR g) (b := fun (found : (List Int)) word => 
      (if (!mem word known) then (idx g word).bind fun v3 => .ok (!decide (v3 = ([] : List Int))) else .ok false).bind fun v4 => if v4 then
        (idx g word).bind fun v5 => (mapR (fun other => (idx found other).bind fun v6 => .ok v6) v5).bind fun l8 => (ck l8).bind fun l7 => (oR (maxI l7)).bind fun v9 => (setL found word ((1 : Int) + v9)).bind fun found => 
        .ok found
      else
        .ok found) (fun l s w hw hd => ?_) (ws := zr 0 g.length) (fun w hw => zr_mem.mp hw) (fun w hw => zr_mem.mpr hw) rfl (fun st x => ?_) l0 fun w _ => rfl).mono fun l ⟨s, hl, hs⟩ => ?_
  · rw [row_idx hw, act_eq2, R.bind_ok]
    unfold updL
    cases ha : act g known w with
    | false => exact wp_ok hd
    | true =>
      rw [if_pos rfl, if_pos rfl]
      have ru := row_up h hw
      have rl := ru.len
      have ne := (act_iff.mp ha).2
      rw [R.bind_ok, map_ok s (fun o ho => by rw [idx_ok (ru.2 o ho).1 (hd.at_ o (ru.2 o ho))]; rfl), R.bind_ok, ck_ok (by rw [List.length_map]; omega), R.bind_ok, (mx_ok (l := (row g w).map s) (by simpa using ne)).1, R.bind_ok]
      have hln := hd.len
      rw [setL_at hw.1 (by omega), R.bind_ok]
      refine wp_ok ⟨by rw [List.length_set]; exact hd.len, fun x hx => ?_⟩
      by_cases e : x = w
      · subst e
        rw [List.getElem?_set_self (by omega), if_pos rfl]
      · rw [List.getElem?_set_ne (by omega), if_neg e]
        exact hd.at_ x hx
  · rw [rng_ok (by omega) (by omega) (by omega) (by omega), R.bind_ok]
  · unfold lvs
    refine List.ext_getElem? fun i => ?_
    unfold zr
    rw [List.map_map, List.getElem?_map]
    have hln := hl.len
    by_cases hi : i < g.length
    · have hw : (0 : Int) ≤ (i : Int) ∧ (i : Int) < (g.length : Int) := by omega
      have := hl.at_ i hw
      rw [Int.toNat_natCast, hs _ hw] at this
      rw [List.getElem?_range (by omega), this]
      show _ = some (lev g known (0 + (i : Int)))
      rw [Int.zero_add]
    · rw [List.getElem?_eq_none (by omega), List.getElem?_eq_none (by rw [List.length_range]; omega)]
      rfl
/-! ### more words known -/
theorem more_full {more : List Int} (f : Full g known) (hs : ∀ w ∈ known, w ∈ more) : Full g more := by
  have key : ∀ (i : Nat) (w : Int), (fin g known)[i]? = some w → w ∈ fin g more := by
    intro i
    induction i using Nat.strongRecOn with
    | ind i ih =>
      intro w hw
      apply Classical.byContradiction
      intro z
      have wl : w ∈ lf g (fin g more) := lf_mem.mpr ⟨go_fin.inn w (List.mem_of_getElem? hw), z⟩
      have nf : frb g more (fin g more) w ≠ true := fun q => by
        have := fre_mem.mpr ⟨wl, q⟩
        rw [fin_stuck] at this
        cases this
      rw [Ne, frb_iff, not_or] at nf
      rcases go_fin.dep i w hw with q | q
      · exact nf.1 (hs w q)
      · refine nf.2 fun o ho => ?_
        rcases q o ho with q | q
        · exact .inl (hs o q)
        · obtain ⟨j, hj⟩ := List.mem_iff_getElem?.mp q
          rw [List.getElem?_take] at hj
          split at hj
          · rename_i hji; exact .inr (ih j hji o hj)
          · cases hj
  unfold Full
  cases e : lf g (fin g more) with
  | nil => rfl
  | cons w l =>
    exfalso
    obtain ⟨w1, w2⟩ := lf_mem.mp (show w ∈ lf g (fin g more) by rw [e]; exact .head _)
    obtain ⟨i, hi, _⟩ := full_at f w1
    exact w2 (key i w hi)
theorem lev_mono {more : List Int} (f : Full g known) (hs : ∀ w ∈ known, w ∈ more) : ∀ w, (0 ≤ w ∧ w < (g.length : Int)) → lev g more w ≤ lev g known w := by
  have f2 := more_full f hs
  have key : ∀ (i : Nat) (w : Int), (fin g known)[i]? = some w → lev g more w ≤ lev g known w := by
    intro i
    induction i using Nat.strongRecOn with
    | ind i ih =>
      intro w hw
      have wi := go_fin.inn w (List.mem_of_getElem? hw)
      rw [lev_fix f2 wi]
      cases ha : act g more w with
      | false => rw [if_neg Bool.false_ne_true]; exact (lv_bound _ _).1
      | true =>
        obtain ⟨a1, a2⟩ := act_iff.mp ha
        have ha2 : act g known w = true := act_iff.mpr ⟨fun z => a1 (hs w z), a2⟩
        rw [if_pos rfl, lev_fix f wi, ha2, if_pos rfl]
        obtain ⟨_, m1, _⟩ := mx_ok (l := (row g w).map (lev g more)) (by simpa using a2)
        obtain ⟨_, _, m2⟩ := mx_ok (l := (row g w).map (lev g known)) (by simpa using a2)
        obtain ⟨o, ho, eo⟩ := List.mem_map.mp m1
        have h2 := m2 _ (List.mem_map_of_mem ho)
        have h3 : lev g more o ≤ lev g known o := by
          rcases go_fin.dep i w hw with q | q
          · exact absurd q (act_iff.mp ha2).1
          · rcases q o ho with q | q
            · have e1 : lev g more o = 0 := lv_no (known_no (hs o q))
              have e2 : lev g known o = 0 := lv_no (known_no q)
              omega
            · obtain ⟨j, hj⟩ := List.mem_iff_getElem?.mp q
              rw [List.getElem?_take] at hj
              split at hj
              · rename_i hji; exact ih j hji o hj
              · cases hj
        omega
  intro w hw
  obtain ⟨i, hi, _⟩ := full_at f hw
  exact key i w hi
end
/-! ### what is drawn -/
theorem glossary_ok {ds : List Int} (h : drawn 5000 ds) {k : Int} (hk : 0 ≤ k) : Wp (f_u_law_glossary ds k 7) NG := by
  unfold f_u_law_glossary
  refine wp_bind (mix_ok h hk (by omega)) fun m hm => ?_
  dsimp only
  refine wp_bind (mix_ok h (by omega) (by omega)) fun word hword => ?_
  refine wp_bind (mix_ok h (by omega) (by omega)) fun v3 hv3 => ?_
  refine wp_bind (P := fun wide : Int => 0 < wide) ?_ fun wide hwide => ?_
  · obtain ⟨x, e, hx, _⟩ := wp_idx (xs := [(2 : Int), 3, 5]) (i := v3) hv3.1 (by show v3 < 3; omega)
    refine ⟨x, e, ?_⟩
    simp at hx
    omega
  have zl := zr_len 0 (1 + m)
  have zN : ∃ n : Nat, 1 + m = (n : Int) ∧ 1 ≤ n ∧ n ≤ 7 := ⟨(1 + m).toNat, by omega, by omega, by omega⟩
  obtain ⟨n, en, n1, n7⟩ := zN
  rw [en] at zl ⊢
  rw [rng_ok (by omega) (by omega) (by omega) (by omega), R.bind_ok, bind_ok_self]
  refine (wp_foldI (fun (pre : List Int) (found : List (List Int)) => found.length = pre.length ∧ ∀ r ∈ found, Up n r) (all := zr 0 (n : Int)) (fun pre a post found e hf => ?_) _ [] [] rfl ⟨rfl, fun r hr => by cases hr⟩).mono fun found ⟨hf1, hf2⟩ => ?_
  · have ha := zr_mem.mp (show a ∈ zr 0 (n : Int) by rw [e]; simp)
    have hel := congrArg List.length e
    rw [List.length_append, List.length_cons, zl] at hel
    obtain ⟨hf1, hf2⟩ := hf
    rw [R.bind_ok]
    refine wp_bind (wp_foldI (fun (pre2 : List Int) (told : List Int) => ∃ q : Int → Bool, told = pre2.filter q) (all := zr 0 (n : Int)) (fun pre2 b post2 told e2 ht => ?_) _ [] [] rfl ⟨fun _ => true, rfl⟩) fun told ⟨q, ht⟩ => ?_
    · have hb := zr_mem.mp (show b ∈ zr 0 (n : Int) by rw [e2]; simp)
      have hel2 := congrArg List.length e2
      rw [List.length_append, List.length_cons, zl] at hel2
      have bn : b ∉ pre2 := fun z => by
        have := zr_nodup 0 (n : Int)
        rw [e2] at this
        exact (List.nodup_append.mp this).2.2 b z b (.head _) rfl
      obtain ⟨q, ht⟩ := ht
      have tl : told.length ≤ pre2.length := by rw [ht]; exact List.length_filter_le _ _
      obtain ⟨able, e3, _⟩ := wp_idx (xs := [decide (a < b), (!decide (b = a)), (true : Bool)]) (i := word) hword.1 (by show word < 3; omega)
      rw [e3, R.bind_ok]
      have keep : ∀ t : Bool, (pre2 ++ [b]).filter (fun x => if x = b then t else q x) = told ++ (if t then [b] else []) := fun t => by
        rw [List.filter_append, ht]
        congr 1
        · refine List.filter_congr fun x hx => ?_
          rw [if_neg (fun (e : x = b) => bn (e ▸ hx))]
        · cases t <;> simp
      refine wp_bind (P := fun _ => True) ?_ fun t _ => ?_
      · refine wp_if (fun _ => ?_) fun _ => wp_ok trivial
        exact wp_bind (mix_ok h (by omega) hwide) fun x _ => wp_ok trivial
      · refine wp_if (fun _ => ?_) fun _ => ?_
        · rw [ck_ok (by rw [List.length_append, List.length_singleton]; omega), R.bind_ok]
          exact wp_ok ⟨fun x => if x = b then true else q x, (keep true).symm⟩
        · refine wp_ok ⟨fun x => if x = b then false else q x, ?_⟩
          have := (keep false).symm
          rw [if_neg Bool.false_ne_true, List.append_nil] at this
          exact this
    · rw [ck_ok (by rw [List.length_append, List.length_singleton]; omega), R.bind_ok]
      refine wp_ok ⟨by rw [List.length_append, List.length_append, hf1]; rfl, fun r hr => ?_⟩
      rcases List.mem_append.mp hr with hr | hr
      · exact hf2 r hr
      · cases List.mem_singleton.mp hr
        rw [ht]
        exact up_filter q
  · rw [zl] at hf1
    have e : found.length = n := by omega
    exact ⟨by omega, by omega, fun r hr => by rw [e]; exact hf2 r hr⟩
/-! ### the law -/
theorem f_law_is (ns : List Int) (hn : ns.length ≤ 63) : f_law ns = .ok true := by
  apply wp_eq
  unfold f_law
  obtain ⟨ds, e1, h⟩ := draws_ok ns hn
  rw [e1, R.bind_ok, rng_ok (by omega) (by omega) (by omega) (by omega), R.bind_ok]
  dsimp only
  refine wp_forU (fun turn htn => ?_) (wp_ok rfl)
  have ht := zr_mem.mp htn
  clear htn
  apply wp_eq
  refine wp_bind (glossary_ok h (by omega)) fun g hg => ?_
  have g7 := hg.n7
  have g1 := hg.n1
  have zl := zr_len 0 (g.length : Int)
  rw [rng_ok (by omega) (by omega) (by omega) (by omega), R.bind_ok]
  have hmix : ∀ w ∈ zr 0 (g.length : Int), ∃ b : Bool, ((f_u_law_mix ds (((290 : Int) + (8 * turn)) + w) (5 : Int)).bind fun v7 => R.ok (decide (v7 = (0 : Int)))) = .ok b := fun w hw => by
    have := zr_mem.mp hw
    obtain ⟨x, e, _⟩ := mix_ok h (k := ((290 : Int) + (8 * turn)) + w) (many := 5) (by omega) (by omega)
    rw [e]
    exact ⟨_, rfl⟩
  obtain ⟨q, hq⟩ : ∃ q : Int → Bool, ∀ w ∈ zr 0 (g.length : Int), ((f_u_law_mix ds (((290 : Int) + (8 * turn)) + w) (5 : Int)).bind fun v7 => R.ok (decide (v7 = (0 : Int)))) = .ok (q w) := by
    refine ⟨fun w => match ((f_u_law_mix ds (((290 : Int) + (8 * turn)) + w) (5 : Int)).bind fun v7 => R.ok (decide (v7 = (0 : Int)))) with | .ok b => b | _ => false, fun w hw => ?_⟩
    obtain ⟨b, e⟩ := hmix w hw
    dsimp only
    rw [e]
  rw [Tv.lc_ok q (fun w => w) hq (fun _ _ _ => rfl), R.bind_ok, List.map_id']
  have hk : Up g.length ((zr 0 (g.length : Int)).filter q) := up_filter q
  generalize (zr 0 (g.length : Int)).filter q = known at hk
  have kl := hk.len
  rw [ck_ok (by omega), R.bind_ok]
  have il : ∀ r : List Int, Up g.length r → RB 7 r := fun r hr => rb_ints (fun x hx => by have := hr.2 x hx; omega) (by have := hr.len; omega)
  have gl : RB (7 * 8) g := (rb_list (b := 7) fun r hr => il r (hg.up r hr)).mono (by omega)
  obtain ⟨kept, ekept⟩ := rb_repr (x := (g, known)) (by decide) (rb_pair gl (il known hk)) (by omega)
  rw [ekept, R.bind_ok]
  obtain ⟨sr, esr⟩ := rb_repr (x := (zr 0 g.length).map (rcs g)) (by decide) (rb_list (b := 7) fun r hr => by
    obtain ⟨w, _, rfl⟩ := List.mem_map.mp hr
    exact il _ (rcs_up g w)) (by rw [List.length_map]; omega)
  rw [rests_ok hg, R.bind_ok, esr, R.bind_ok, law_rests_ok hg, R.bind_ok, esr, R.bind_ok]
  refine wp_no (by rw [decide_eq_true rfl]; rfl) ?_
  rw [law_first_ok hg hk, R.bind_ok, first_order_ok hg hk, R.bind_ok]
  obtain ⟨bad, ebad, hbad⟩ := ring_ok hg hk
  rw [ebad, R.bind_ok]
  have finUp : ∀ r : List Int, (∀ w ∈ r, 0 ≤ w ∧ w < (g.length : Int)) → r.length ≤ 7 → RB 7 r := fun r hr hl => rb_ints (fun x hx => by have := hr x hx; omega) hl
  have gf := go_fin (g := g) (known := known)
  have gfl := go_len gf
  obtain ⟨sd, esd⟩ : ∃ s, reprT (fo g known) = .ok s := by
    unfold fo
    split
    · exact rb_repr (by decide) (rb_some (finUp _ gf.inn (by omega))) (by omega)
    · exact rb_repr (by decide) rb_none (by omega)
  rw [esd, R.bind_ok, R.bind_ok]
  have ebd : bad.isNone = (fo g known).isSome := by
    rcases hbad with ⟨h1, h2⟩ | ⟨h1, c, h2, _⟩
    · rw [h1, h2]; rfl
    · rw [h1, h2]; rfl
  refine wp_no (by rw [decide_eq_true rfl, ebd, decide_eq_true rfl]; rfl) ?_
  rw [R.bind_ok, ck_ok (by omega), R.bind_ok, R.bind_ok, ck_ok (by omega), R.bind_ok]
  have tests : ∀ one : List Int, one.length ≤ 100 → (f_is_order g known (some one)).bind (fun v40 => (reprT v40).bind fun v41 => (f_u_law_is_order g known (some one)).bind fun v42 => (reprT v42).bind fun v43 => if (!decide (v41 = v43)) then
                (R.ok (Fl.rt (false : Bool)) : R (Fl Unit Bool))
              else
                (f_is_ring g (some one)).bind fun v44 => (reprT v44).bind fun v45 => (f_u_law_is_ring g (some one)).bind fun v46 => (reprT v46).bind fun v47 => if (!decide (v45 = v47)) then
                  .ok (.rt (false : Bool))
                else
                  .ok (.nx ())) = .ok (.nx ()) := fun one hl => by
    obtain ⟨s1, es1⟩ := rb_repr (x := isO g known one) (by decide) (rb_bool _) (by omega)
    obtain ⟨s2, es2⟩ := rb_repr (x := isR g one) (by decide) (rb_bool _) (by omega)
    rw [is_order_ok hg hk hl, R.bind_ok, es1, R.bind_ok, law_is_order_ok hg hl, R.bind_ok, es1, R.bind_ok, decide_eq_true rfl, Bool.not_true, if_neg Bool.false_ne_true, is_ring_ok hg hl, R.bind_ok, es2, R.bind_ok, law_is_ring_ok hg hl, R.bind_ok, es2, R.bind_ok, decide_eq_true rfl, Bool.not_true, if_neg Bool.false_ne_true]
  have last : ∀ told : Option (List Int), (∀ l, told = some l → l.length ≤ 7) → reprT told = .ok sd → Wp ((if told.isSome then
              (unO told).bind fun v48 => (ckA v48).bind fun _ => 
              .ok ()
            else
              .ok () : R Unit).bind fun s49 => 
            (reprT told).bind fun v51 => (R.ok sd).bind fun v52 => (if (!decide (v51 = v52)) then .ok true else (R.ok kept).bind fun v53 => .ok (!decide (v53 = kept))).bind fun v54 => if v54 then
              (R.ok (Fl.rt (false : Bool)) : R (Fl Unit Bool))
            else
              .ok (.nx ())) (fun y => y = .nx ()) := fun told hl e => by
    refine wp_bind (P := fun _ => True) ?_ fun _ _ => ?_
    · cases told with
      | none => exact wp_ok trivial
      | some l =>
        have := hl l rfl
        refine wp_yes rfl ?_
        show Wp (R.bind (R.ok l) _) _
        rw [R.bind_ok, ckA_ok (by omega), R.bind_ok]
        exact wp_ok trivial
    · rw [e, R.bind_ok, R.bind_ok, decide_eq_true rfl, Bool.not_true, if_neg Bool.false_ne_true, R.bind_ok, R.bind_ok, decide_eq_true rfl]
      exact wp_ok rfl
  have zl2 : (zr 0 (g.length : Int)).length ≤ 7 := by omega
  by_cases z : lf g (fin g known) = []
  · have f : Full g known := z
    have efo : fo g known = some (fin g known) := if_pos z
    have lvl : (lvs g known).length ≤ 7 := by unfold lvs; rw [List.length_map]; omega
    have lvb : ∀ kn : List Int, ∀ x ∈ lvs g kn, x.natAbs < 10 ^ 12 := fun kn x hx => by
      obtain ⟨w, _, rfl⟩ := List.mem_map.mp hx
      have := lv_bound (g := g) (known := kn) g.length w
      show (lv g kn g.length w).natAbs < _
      omega
    have e9 : (fo g known).isNone = false := by rw [efo]; rfl
    refine wp_no e9 ?_
    rw [levels_ok hg hk, if_pos z, R.bind_ok]
    obtain ⟨sl, esl⟩ := rb_repr (x := lvs g known) (by decide) (rb_ints (lvb known) lvl) (by omega)
    have esl2 : reprT (some (lvs g known)) = .ok sl := esl
    rw [esl2, R.bind_ok, law_levels_ok hg f, R.bind_ok, esl, R.bind_ok]
    refine wp_no (by rw [decide_eq_true rfl]; rfl) ?_
    have eu : unO (fo g known) = R.ok (fin g known) := by rw [efo]; rfl
    rw [eu, R.bind_ok, R.bind_ok, R.bind_ok, R.bind_ok, cut_from0 (by decide), cut_none (by decide), show (1 : Int).toNat = 1 from rfl]
    have dl : ((fin g known).drop 1).length ≤ (fin g known).length := by rw [List.length_drop]; omega
    have tl : ((fin g known).take 1).length ≤ (fin g known).length := by rw [List.length_take]; omega
    rw [ck_ok (by rw [List.length_append]; omega), R.bind_ok, ck_ok (by show 10 ≤ 1000000; omega), R.bind_ok]
    refine wp_bind (mix_ok h (by omega) (by omega)) fun spot hspot => ?_
    rw [ck_ok (by rw [List.length_append, List.length_singleton]; omega), R.bind_ok, setSortR_ok (by rw [List.length_append, List.length_singleton]; omega), R.bind_ok]
    have hmore : Up g.length (sortT (dedupT (known ++ [spot]))) := by
      refine ⟨((ints_sorted (xs := dedupT (known ++ [spot]))).and (sort_nodup (dedup_nodup _))).imp fun {a b} h => (by have := h.1; have := h.2; omega), fun x hx => ?_⟩
      have hx := mem_dedup.mp (sort_mem.mp hx)
      rcases List.mem_append.mp hx with hx | hx
      · exact hk.2 x hx
      · cases List.mem_singleton.mp hx; exact hspot
    have hsub : ∀ w ∈ known, w ∈ sortT (dedupT (known ++ [spot])) := fun w hw => sort_mem.mpr (mem_dedup.mpr (List.mem_append_left _ hw))
    generalize sortT (dedupT (known ++ [spot])) = more at hmore hsub
    have f2 := more_full f hsub
    rw [levels_ok hg hmore, if_pos (show lf g (fin g more) = [] from f2), R.bind_ok]
    refine wp_is (x := false) (wp_eq (wp_no rfl ?_)) (wp_no rfl ?_)
    · rw [R.bind_ok]
      have at_ : ∀ (kn : List Int) (w : Int), w ∈ zr 0 (g.length : Int) → idx (lvs g kn) w = .ok (lev g kn w) := fun kn w hw => by
        obtain ⟨w0, w1⟩ := zr_mem.mp hw
        refine idx_ok w0 ?_
        unfold lvs zr
        rw [List.map_map, List.getElem?_map, List.getElem?_range (by omega)]
        show some (lev g kn (0 + ((w.toNat : Nat) : Int))) = _
        rw [show (0 : Int) + ((w.toNat : Nat) : Int) = w by omega]
      have e0 := Tv.lc_ok (p := fun word => (unO (some (lvs g more))).bind fun v72 => (idx v72 word).bind fun v73 => (unO (some (lvs g known))).bind fun v74 => (idx v74 word).bind fun v75 => R.ok (decide (v75 < v73))) (f := fun word : Int => R.ok word) (fun w => decide (lev g known w < lev g more w)) (fun w => w) (xs := zr 0 (g.length : Int)) (fun w hw => by
        show R.bind (R.ok (lvs g more)) _ = _
        rw [R.bind_ok, at_ more w hw, R.bind_ok]
        show R.bind (R.ok (lvs g known)) _ = _
        rw [R.bind_ok, at_ known w hw, R.bind_ok]) (fun _ _ _ => rfl)
      have e00 : (zr 0 (g.length : Int)).filter (fun w => decide (lev g known w < lev g more w)) = [] := List.filter_eq_nil_iff.mpr fun w hw => by
        have := lev_mono f hsub w (zr_mem.mp hw)
        rw [decide_eq_false (by omega)]
        exact Bool.false_ne_true
      rw [e00, List.map_nil] at e0
      refine wp_is e0 ?_
      rw [ck_ok (by show 0 ≤ 1000000; omega), R.bind_ok, decide_eq_true rfl, Bool.not_true, if_neg Bool.false_ne_true, first_order_ok hg hmore, R.bind_ok, R.bind_ok]
      have : fo g more = some (fin g more) := if_pos f2
      rw [this]
      exact wp_ok rfl
    · rw [efo]
      refine wp_forU (fun one hone => ?_) (last (some (fin g known)) (fun l e => by cases e; omega) (by rw [← efo]; exact esd))
      have : ∃ l : List Int, one = some l ∧ l.length ≤ 100 := by
        rcases List.mem_append.mp hone with ho | ho
        · simp only [List.mem_cons, List.not_mem_nil, or_false] at ho
          rcases ho with rfl | rfl | rfl | rfl | rfl | rfl
          · exact ⟨_, rfl, by omega⟩
          · exact ⟨_, rfl, by rw [List.length_reverse]; omega⟩
          · exact ⟨_, rfl, by show 0 ≤ 100; omega⟩
          · exact ⟨_, rfl, by show 2 ≤ 100; omega⟩
          · exact ⟨_, rfl, by show 1 ≤ 100; omega⟩
          · exact ⟨_, rfl, by show 1 ≤ 100; omega⟩
        · simp only [List.mem_cons, List.not_mem_nil, or_false] at ho
          rcases ho with rfl | rfl | rfl | rfl
          · exact ⟨_, rfl, by omega⟩
          · exact ⟨_, rfl, by rw [List.length_reverse]; omega⟩
          · exact ⟨_, rfl, by omega⟩
          · exact ⟨_, rfl, by rw [List.length_append]; omega⟩
      obtain ⟨l, rfl, hl⟩ := this
      exact tests l hl
  · have fn : fo g known = none := if_neg z
    rcases hbad with ⟨_, h2⟩ | ⟨_, c, hbc, c1, c2, c3, c4⟩
    · rw [fn] at h2; cases h2
    have cl : c.length ≤ 7 := by
      have := nodup_int (n := g.length) c2 fun w hw => (c3 w hw).1
      omega
    refine wp_yes (by rw [fn]; rfl) ?_
    have eu : unO bad = R.ok c := by rw [hbc]; rfl
    rw [eu, hbc, law_is_ring_ok hg (by omega), R.bind_ok, isR_true.mpr ⟨c1, c2, fun w hw => (c3 w hw).1, c4⟩]
    refine wp_is (x := false) (wp_eq (wp_no rfl ?_)) (wp_no rfl ?_)
    · have e0 : c.filter (fun word => mem word known) = [] := List.filter_eq_nil_iff.mpr fun w hw => by
        rw [mem_no (c3 w hw).2]
        exact Bool.false_ne_true
      rw [R.bind_ok, List.map_id', e0, ck_ok (by show 0 ≤ 1000000; omega), R.bind_ok, decide_eq_true rfl, Bool.not_true, if_neg Bool.false_ne_true, levels_ok hg hk, if_neg z, R.bind_ok, R.bind_ok]
      exact wp_ok rfl
    · rw [R.bind_ok, R.bind_ok, cut_from0 (by decide), cut_none (by decide), show (1 : Int).toNat = 1 from rfl]
      have dl : (c.drop 1).length ≤ c.length := by rw [List.length_drop]; omega
      have tl : (c.take 1).length ≤ c.length := by rw [List.length_take]; omega
      rw [ck_ok (by rw [List.length_append]; omega), R.bind_ok, R.bind_ok, R.bind_ok, R.bind_ok, R.bind_ok, cut_from0 (by decide), show (1 : Int).toNat = 1 from rfl, ck_ok (by rw [List.length_append]; omega), R.bind_ok, ck_ok (by show 11 ≤ 1000000; omega), R.bind_ok]
      rw [fn] at esd
      rw [fn]
      refine wp_forU (fun one hone => ?_) (last none (fun l e => by cases e) esd)
      have : ∃ l : List Int, one = some l ∧ l.length ≤ 100 := by
        rcases List.mem_append.mp hone with ho | ho
        · simp only [List.mem_cons, List.not_mem_nil, or_false] at ho
          rcases ho with rfl | rfl | rfl | rfl | rfl | rfl
          · exact ⟨_, rfl, by omega⟩
          · exact ⟨_, rfl, by rw [List.length_reverse]; omega⟩
          · exact ⟨_, rfl, by show 0 ≤ 100; omega⟩
          · exact ⟨_, rfl, by show 2 ≤ 100; omega⟩
          · exact ⟨_, rfl, by show 1 ≤ 100; omega⟩
          · exact ⟨_, rfl, by show 1 ≤ 100; omega⟩
        · simp only [List.mem_cons, List.not_mem_nil, or_false] at ho
          rcases ho with rfl | rfl | rfl | rfl | rfl
          · exact ⟨_, rfl, by omega⟩
          · exact ⟨_, rfl, by rw [List.length_append]; omega⟩
          · exact ⟨_, rfl, by omega⟩
          · exact ⟨_, rfl, by rw [List.length_reverse]; omega⟩
          · exact ⟨_, rfl, by rw [List.length_append]; omega⟩
      obtain ⟨l, rfl, hl⟩ := this
      exact tests l hl
theorem answer : ∀ ns : List Int, ns.length ≤ 63 → m_law [.list (ns.map PyData.int)] = .ok (.bool true) := fun ns hn => by
  obtain ⟨d, e, h⟩ : Sim Is (m_law [enc ns]) (.ok true) := f_law_is ns hn ▸ f_law_ok ns
  have h : d = .bool true := h
  subst h
  exact e
end Q
namespace Q
open PySem PySem.Spec PyProof.Rows L2 Dv
set_option maxHeartbeats 4000000 in
theorem all_mk {P : Program} {w : World} {K : PySem.W.Frag} {h : Heap} {mg : Str → Option Value} {fa f0 f1 f2 f3 f4 f5 f6 f7 f8 f9 f10 f11 f12 f13 f14 f15 f16 f17 f18 f19 : Addr} (X : K.In h) (G : h.Ns mainGlobals mg) (hfa : mg "law" = some (.ref fa))
    {od0 an0 od1 an1 od2 an2 od3 an3 od4 an4 od5 an5 od6 an6 od7 an7 od8 an8 od9 an9 od10 an10 od11 an11 od12 an12 od13 an13 od14 an14 od15 an15 od16 an16 od17 an17 od18 an18 od19 an19 : Option Addr} {sl0 sl1 sl2 sl3 sl4 sl5 sl6 sl7 sl8 sl9 sl10 sl11 sl12 sl13 sl14 sl15 sl16 sl17 sl18 sl19 : Array (Option Value)} {oc0 kV0 dc0 pm0 cd0 ct0 oc1 kV1 dc1 pm1 cd1 ct1 oc2 kV2 dc2 pm2 cd2 ct2 oc3 kV3 dc3 pm3 cd3 ct3 oc4 kV4 dc4 pm4 cd4 ct4 oc5 kV5 dc5 pm5 cd5 ct5 oc6 kV6 dc6 pm6 cd6 ct6 oc7 kV7 dc7 pm7 cd7 ct7 oc8 kV8 dc8 pm8 cd8 ct8 oc9 kV9 dc9 pm9 cd9 ct9 oc10 kV10 dc10 pm10 cd10 ct10 oc11 kV11 dc11 pm11 cd11 ct11 oc12 kV12 dc12 pm12 cd12 ct12 oc13 kV13 dc13 pm13 cd13 ct13 oc14 kV14 dc14 pm14 cd14 ct14 oc15 kV15 dc15 pm15 cd15 ct15 oc16 kV16 dc16 pm16 cd16 ct16 oc17 kV17 dc17 pm17 cd17 ct17 oc18 kV18 dc18 pm18 cd18 ct18 oc19 kV19 dc19 pm19 cd19 ct19 : Value}
    (a0 : PySem.W.nsIn K mainGlobals "_law_draws" = some (some (.ref f0))) (l0 : K.lookup f0 = some ⟨oc0, od0, .func (PySem.W.fnOf "_law_draws" "_law_draws" (defArgs (txt 19)) (defBody (txt 19)) (defScope (txt 19)) .none kV0 dc0 pm0 an0 cd0 ct0), sl0⟩) (q0 : PySem.W.codeIn K cd0 "_law_draws" = true) (k0 : PySem.W.keepIn K (.ref f0) = true)
    (a1 : PySem.W.nsIn K mainGlobals "_law_mix" = some (some (.ref f1))) (l1 : K.lookup f1 = some ⟨oc1, od1, .func (PySem.W.fnOf "_law_mix" "_law_mix" (defArgs (txt 20)) (defBody (txt 20)) (defScope (txt 20)) .none kV1 dc1 pm1 an1 cd1 ct1), sl1⟩) (q1 : PySem.W.codeIn K cd1 "_law_mix" = true) (k1 : PySem.W.keepIn K (.ref f1) = true)
    (a2 : PySem.W.nsIn K mainGlobals "_law_glossary" = some (some (.ref f2))) (l2 : K.lookup f2 = some ⟨oc2, od2, .func (PySem.W.fnOf "_law_glossary" "_law_glossary" (defArgs (txt 21)) (defBody (txt 21)) (defScope (txt 21)) .none kV2 dc2 pm2 an2 cd2 ct2), sl2⟩) (q2 : PySem.W.codeIn K cd2 "_law_glossary" = true) (k2 : PySem.W.keepIn K (.ref f2) = true)
    (a3 : PySem.W.nsIn K mainGlobals "_law_first" = some (some (.ref f3))) (l3 : K.lookup f3 = some ⟨oc3, od3, .func (PySem.W.fnOf "_law_first" "_law_first" (defArgs (txt 23)) (defBody (txt 23)) (defScope (txt 23)) .none kV3 dc3 pm3 an3 cd3 ct3), sl3⟩) (q3 : PySem.W.codeIn K cd3 "_law_first" = true) (k3 : PySem.W.keepIn K (.ref f3) = true)
    (a4 : PySem.W.nsIn K mainGlobals "check_glossary" = some (some (.ref f4))) (l4 : K.lookup f4 = some ⟨oc4, od4, .func (PySem.W.fnOf "check_glossary" "check_glossary" (defArgs (txt 7)) (defBody (txt 7)) (defScope (txt 7)) .none kV4 dc4 pm4 an4 cd4 ct4), sl4⟩) (q4 : PySem.W.codeIn K cd4 "check_glossary" = true) (k4 : PySem.W.keepIn K (.ref f4) = true)
    (a5 : PySem.W.nsIn K mainGlobals "check_known" = some (some (.ref f5))) (l5 : K.lookup f5 = some ⟨oc5, od5, .func (PySem.W.fnOf "check_known" "check_known" (defArgs (txt 8)) (defBody (txt 8)) (defScope (txt 8)) .none kV5 dc5 pm5 an5 cd5 ct5), sl5⟩) (q5 : PySem.W.codeIn K cd5 "check_known" = true) (k5 : PySem.W.keepIn K (.ref f5) = true)
    (a6 : PySem.W.nsIn K mainGlobals "order_of" = some (some (.ref f6))) (l6 : K.lookup f6 = some ⟨oc6, od6, .func (PySem.W.fnOf "order_of" "order_of" (defArgs (txt 11)) (defBody (txt 11)) (defScope (txt 11)) .none kV6 dc6 pm6 an6 cd6 ct6), sl6⟩) (q6 : PySem.W.codeIn K cd6 "order_of" = true) (k6 : PySem.W.keepIn K (.ref f6) = true)
    (a7 : PySem.W.nsIn K mainGlobals "first_order" = some (some (.ref f7))) (l7 : K.lookup f7 = some ⟨oc7, od7, .func (PySem.W.fnOf "first_order" "first_order" (defArgs (txt 15)) (defBody (txt 15)) (defScope (txt 15)) .none kV7 dc7 pm7 an7 cd7 ct7), sl7⟩) (q7 : PySem.W.codeIn K cd7 "first_order" = true) (k7 : PySem.W.keepIn K (.ref f7) = true)
    (a8 : PySem.W.nsIn K mainGlobals "ring" = some (some (.ref f8))) (l8 : K.lookup f8 = some ⟨oc8, od8, .func (PySem.W.fnOf "ring" "ring" (defArgs (txt 12)) (defBody (txt 12)) (defScope (txt 12)) .none kV8 dc8 pm8 an8 cd8 ct8), sl8⟩) (q8 : PySem.W.codeIn K cd8 "ring" = true) (k8 : PySem.W.keepIn K (.ref f8) = true)
    (a9 : PySem.W.nsIn K mainGlobals "levels" = some (some (.ref f9))) (l9 : K.lookup f9 = some ⟨oc9, od9, .func (PySem.W.fnOf "levels" "levels" (defArgs (txt 16)) (defBody (txt 16)) (defScope (txt 16)) .none kV9 dc9 pm9 an9 cd9 ct9), sl9⟩) (q9 : PySem.W.codeIn K cd9 "levels" = true) (k9 : PySem.W.keepIn K (.ref f9) = true)
    (a10 : PySem.W.nsIn K mainGlobals "rests_of" = some (some (.ref f10))) (l10 : K.lookup f10 = some ⟨oc10, od10, .func (PySem.W.fnOf "rests_of" "rests_of" (defArgs (txt 9)) (defBody (txt 9)) (defScope (txt 9)) .none kV10 dc10 pm10 an10 cd10 ct10), sl10⟩) (q10 : PySem.W.codeIn K cd10 "rests_of" = true) (k10 : PySem.W.keepIn K (.ref f10) = true)
    (a11 : PySem.W.nsIn K mainGlobals "rests" = some (some (.ref f11))) (l11 : K.lookup f11 = some ⟨oc11, od11, .func (PySem.W.fnOf "rests" "rests" (defArgs (txt 10)) (defBody (txt 10)) (defScope (txt 10)) .none kV11 dc11 pm11 an11 cd11 ct11), sl11⟩) (q11 : PySem.W.codeIn K cd11 "rests" = true) (k11 : PySem.W.keepIn K (.ref f11) = true)
    (a12 : PySem.W.nsIn K mainGlobals "_law_rests" = some (some (.ref f12))) (l12 : K.lookup f12 = some ⟨oc12, od12, .func (PySem.W.fnOf "_law_rests" "_law_rests" (defArgs (txt 22)) (defBody (txt 22)) (defScope (txt 22)) .none kV12 dc12 pm12 an12 cd12 ct12), sl12⟩) (q12 : PySem.W.codeIn K cd12 "_law_rests" = true) (k12 : PySem.W.keepIn K (.ref f12) = true)
    (a13 : PySem.W.nsIn K mainGlobals "_law_is_ring" = some (some (.ref f13))) (l13 : K.lookup f13 = some ⟨oc13, od13, .func (PySem.W.fnOf "_law_is_ring" "_law_is_ring" (defArgs (txt 26)) (defBody (txt 26)) (defScope (txt 26)) .none kV13 dc13 pm13 an13 cd13 ct13), sl13⟩) (q13 : PySem.W.codeIn K cd13 "_law_is_ring" = true) (k13 : PySem.W.keepIn K (.ref f13) = true)
    (a14 : PySem.W.nsIn K mainGlobals "_law_levels" = some (some (.ref f14))) (l14 : K.lookup f14 = some ⟨oc14, od14, .func (PySem.W.fnOf "_law_levels" "_law_levels" (defArgs (txt 24)) (defBody (txt 24)) (defScope (txt 24)) .none kV14 dc14 pm14 an14 cd14 ct14), sl14⟩) (q14 : PySem.W.codeIn K cd14 "_law_levels" = true) (k14 : PySem.W.keepIn K (.ref f14) = true)
    (a15 : PySem.W.nsIn K mainGlobals "is_order" = some (some (.ref f15))) (l15 : K.lookup f15 = some ⟨oc15, od15, .func (PySem.W.fnOf "is_order" "is_order" (defArgs (txt 17)) (defBody (txt 17)) (defScope (txt 17)) .none kV15 dc15 pm15 an15 cd15 ct15), sl15⟩) (q15 : PySem.W.codeIn K cd15 "is_order" = true) (k15 : PySem.W.keepIn K (.ref f15) = true)
    (a16 : PySem.W.nsIn K mainGlobals "_law_is_order" = some (some (.ref f16))) (l16 : K.lookup f16 = some ⟨oc16, od16, .func (PySem.W.fnOf "_law_is_order" "_law_is_order" (defArgs (txt 25)) (defBody (txt 25)) (defScope (txt 25)) .none kV16 dc16 pm16 an16 cd16 ct16), sl16⟩) (q16 : PySem.W.codeIn K cd16 "_law_is_order" = true) (k16 : PySem.W.keepIn K (.ref f16) = true)
    (a17 : PySem.W.nsIn K mainGlobals "ring_in" = some (some (.ref f17))) (l17 : K.lookup f17 = some ⟨oc17, od17, .func (PySem.W.fnOf "ring_in" "ring_in" (defArgs (txt 13)) (defBody (txt 13)) (defScope (txt 13)) .none kV17 dc17 pm17 an17 cd17 ct17), sl17⟩) (q17 : PySem.W.codeIn K cd17 "ring_in" = true) (k17 : PySem.W.keepIn K (.ref f17) = true)
    (a18 : PySem.W.nsIn K mainGlobals "is_ring" = some (some (.ref f18))) (l18 : K.lookup f18 = some ⟨oc18, od18, .func (PySem.W.fnOf "is_ring" "is_ring" (defArgs (txt 14)) (defBody (txt 14)) (defScope (txt 14)) .none kV18 dc18 pm18 an18 cd18 ct18), sl18⟩) (q18 : PySem.W.codeIn K cd18 "is_ring" = true) (k18 : PySem.W.keepIn K (.ref f18) = true)
    (a19 : PySem.W.nsIn K mainGlobals "law" = some (some (.ref f19))) (l19 : K.lookup f19 = some ⟨oc19, od19, .func (PySem.W.fnOf "law" "law" (defArgs (txt 27)) (defBody (txt 27)) (defScope (txt 27)) .none kV19 dc19 pm19 an19 cd19 ct19), sl19⟩) (q19 : PySem.W.codeIn K cd19 "law" = true) (k19 : PySem.W.keepIn K (.ref f19) = true)
    (z0 : PySem.W.nsIn K mainGlobals "range" = some none)
    (z1 : PySem.W.nsIn K mainGlobals "min" = some none)
    (z2 : PySem.W.nsIn K mainGlobals "abs" = some none)
    (z3 : PySem.W.nsIn K mainGlobals "len" = some none)
    (z4 : PySem.W.nsIn K mainGlobals "int" = some none)
    (z5 : PySem.W.nsIn K mainGlobals "list" = some none)
    (z6 : PySem.W.nsIn K mainGlobals "enumerate" = some none)
    (z7 : PySem.W.nsIn K mainGlobals "all" = some none)
    (z8 : PySem.W.nsIn K mainGlobals "max" = some none)
    (z9 : PySem.W.nsIn K mainGlobals "sorted" = some none)
    (z10 : PySem.W.nsIn K mainGlobals "set" = some none)
    (z11 : PySem.W.nsIn K mainGlobals "zip" = some none)
    (z12 : PySem.W.nsIn K mainGlobals "repr" = some none)
    {tc0 : Tok} (c0 : PySem.W.nsIn K mainGlobals "MOST_WORDS" = some (some (.int (9) tc0)))
    : ∃ fd : FuncData, (∀ (s : Shared) (v : Value), BindsTo s fd ⟨[v], []⟩ [("script", v)]) ∧ ∀ base : Heap, K.In base → base.Ns mainGlobals mg → Fk P w K mg base 20 fa fd ["script"] (prom K m_law 3) := by
  have e := hfa.symm.trans (PySem.W.mg_of X G a19)
  cases e
  refine ⟨PySem.W.fnOf "law" "law" (defArgs (txt 27)) (defBody (txt 27)) (defScope (txt 27)) .none kV19 dc19 pm19 an19 cd19 ct19, fun s v => .of_eq rfl, fun base _ _ => ?_⟩
  have M0 : Mod0 P w K mg base c_u_law_draws 0 := mod0_of trivial ⟨PySem.W.mg_none_of X G z0, PySem.W.mg_none_of X G z1, PySem.W.mg_none_of X G z2, PySem.W.mg_none_of X G z3, PySem.W.mg_none_of X G z4, trivial⟩
  have G0 : FnG P w K mg base 1 "_law_draws" m_u_law_draws 3 := FnG.flat (b := true) (fnG_of (ps := ["script"]) M0 k_u_law_draws t_u_law_draws s_u_law_draws (PySem.W.mg_of X G a0) l0 q0 k0 (fun us hl => match us, hl with | [_], _ => rfl))
  have M1 : Mod0 P w K mg base c_u_law_mix 1 := mod0_of trivial ⟨PySem.W.mg_none_of X G z3, PySem.W.mg_none_of X G z4, trivial⟩
  have G1 : FnG P w K mg base 2 "_law_mix" m_u_law_mix 3 := FnG.flat (b := true) (fnG_of (ps := ["draws", "k", "many"]) M1 k_u_law_mix t_u_law_mix s_u_law_mix (PySem.W.mg_of X G a1) l1 q1 k1 (fun us hl => match us, hl with | [_, _, _], _ => rfl))
  have M2 : Mod0 P w K mg base c_u_law_glossary 2 := mod0_of ⟨.inl ⟨G1.up (by decide), fun _ => ⟨true, rfl, flat_g _ _⟩⟩, trivial⟩ ⟨PySem.W.mg_none_of X G z0, trivial⟩
  have G2 : FnG P w K mg base 3 "_law_glossary" m_u_law_glossary 3 := fnG_of (ps := ["draws", "k", "most"]) M2 k_u_law_glossary t_u_law_glossary s_u_law_glossary (PySem.W.mg_of X G a2) l2 q2 k2 (fun us hl => match us, hl with | [_, _, _], _ => rfl)
  have M3 : Mod0 P w K mg base c_u_law_first 3 := mod0_of trivial ⟨PySem.W.mg_none_of X G z5, PySem.W.mg_none_of X G z0, PySem.W.mg_none_of X G z3, trivial⟩
  have G3 : FnG P w K mg base 4 "_law_first" m_u_law_first 3 := FnG.flat (b := true) (fnG_of (ps := ["glossary", "known"]) M3 k_u_law_first t_u_law_first s_u_law_first (PySem.W.mg_of X G a3) l3 q3 k3 (fun us hl => match us, hl with | [_, _], _ => rfl))
  have M4 : Mod0 P w K mg base c_check_glossary 4 := mod0_of ⟨con_int (PySem.W.mg_of X G c0), trivial⟩ ⟨PySem.W.mg_none_of X G z6, PySem.W.mg_none_of X G z3, PySem.W.mg_none_of X G z0, trivial⟩
  have G4 : FnG P w K mg base 5 "check_glossary" m_check_glossary 3 := FnG.flat (b := true) (fnG_of (ps := ["glossary"]) M4 k_check_glossary t_check_glossary s_check_glossary (PySem.W.mg_of X G a4) l4 q4 k4 (fun us hl => match us, hl with | [_], _ => rfl))
  have M5 : Mod0 P w K mg base c_check_known 5 := mod0_of ⟨.inl ⟨G4.up (by decide), fun _ => ⟨true, rfl, flat_g _ _⟩⟩, trivial⟩ ⟨PySem.W.mg_none_of X G z6, PySem.W.mg_none_of X G z3, trivial⟩
  have G5 : FnG P w K mg base 6 "check_known" m_check_known 3 := FnG.flat (b := true) (fnG_of (ps := ["glossary", "known"]) M5 k_check_known t_check_known s_check_known (PySem.W.mg_of X G a5) l5 q5 k5 (fun us hl => match us, hl with | [_, _], _ => rfl))
  have M6 : Mod0 P w K mg base c_order_of 6 := mod0_of trivial ⟨PySem.W.mg_none_of X G z5, PySem.W.mg_none_of X G z0, PySem.W.mg_none_of X G z3, PySem.W.mg_none_of X G z7, trivial⟩
  have G6 : FnG P w K mg base 7 "order_of" m_order_of 6 := fnG_of (ps := ["glossary", "known"]) M6 k_order_of t_order_of s_order_of (PySem.W.mg_of X G a6) l6 q6 k6 (fun us hl => match us, hl with | [_, _], _ => rfl)
  have M7 : Mod0 P w K mg base c_first_order 7 := mod0_of ⟨.inl ⟨G5.up (by decide), fun _ => ⟨true, rfl, flat_g _ _⟩⟩, .inl ⟨G6.up (by decide), fun z => by cases z⟩, trivial⟩ ⟨PySem.W.mg_none_of X G z3, trivial⟩
  have G7 : FnG P w K mg base 8 "first_order" m_first_order 5 := fnG_of (ps := ["glossary", "known"]) M7 k_first_order t_first_order s_first_order (PySem.W.mg_of X G a7) l7 q7 k7 (fun us hl => match us, hl with | [_, _], _ => rfl)
  have M8 : Mod0 P w K mg base c_ring 8 := mod0_of ⟨.inl ⟨G5.up (by decide), fun _ => ⟨true, rfl, flat_g _ _⟩⟩, .inl ⟨G6.up (by decide), fun z => by cases z⟩, trivial⟩ ⟨PySem.W.mg_none_of X G z3, trivial⟩
  have G8 : FnG P w K mg base 9 "ring" m_ring 3 := FnG.flat (b := true) (fnG_of (ps := ["glossary", "known"]) M8 k_ring t_ring s_ring (PySem.W.mg_of X G a8) l8 q8 k8 (fun us hl => match us, hl with | [_, _], _ => rfl))
  have M9 : Mod0 P w K mg base c_levels 9 := mod0_of ⟨.inl ⟨G7.up (by decide), fun z => by cases z⟩, trivial⟩ ⟨PySem.W.mg_none_of X G z0, PySem.W.mg_none_of X G z3, PySem.W.mg_none_of X G z8, trivial⟩
  have G9 : FnG P w K mg base 10 "levels" m_levels 3 := FnG.flat (b := true) (fnG_of (ps := ["glossary", "known"]) M9 k_levels t_levels s_levels (PySem.W.mg_of X G a9) l9 q9 k9 (fun us hl => match us, hl with | [_, _], _ => rfl))
  have M10 : Mod0 P w K mg base c_rests_of 10 := mod0_of trivial ⟨PySem.W.mg_none_of X G z5, PySem.W.mg_none_of X G z9, PySem.W.mg_none_of X G z3, trivial⟩
  have G10 : FnG P w K mg base 11 "rests_of" m_rests_of 3 := FnG.flat (b := true) (fnG_of (ps := ["glossary", "word"]) M10 k_rests_of t_rests_of s_rests_of (PySem.W.mg_of X G a10) l10 q10 k10 (fun us hl => match us, hl with | [_, _], _ => rfl))
  have M11 : Mod0 P w K mg base c_rests 11 := mod0_of ⟨.inl ⟨G4.up (by decide), fun _ => ⟨true, rfl, flat_g _ _⟩⟩, .inl ⟨G10.up (by decide), fun _ => ⟨true, rfl, flat_g _ _⟩⟩, trivial⟩ ⟨PySem.W.mg_none_of X G z0, PySem.W.mg_none_of X G z3, trivial⟩
  have G11 : FnG P w K mg base 12 "rests" m_rests 3 := fnG_of (ps := ["glossary"]) M11 k_rests t_rests s_rests (PySem.W.mg_of X G a11) l11 q11 k11 (fun us hl => match us, hl with | [_], _ => rfl)
  have M12 : Mod0 P w K mg base c_u_law_rests 12 := mod0_of trivial ⟨PySem.W.mg_none_of X G z5, PySem.W.mg_none_of X G z9, PySem.W.mg_none_of X G z10, trivial⟩
  have G12 : FnG P w K mg base 13 "_law_rests" m_u_law_rests 2 := fnG_of (ps := ["glossary"]) M12 k_u_law_rests t_u_law_rests s_u_law_rests (PySem.W.mg_of X G a12) l12 q12 k12 (fun us hl => match us, hl with | [_], _ => rfl)
  have M13 : Mod0 P w K mg base c_u_law_is_ring 13 := mod0_of trivial ⟨PySem.W.mg_none_of X G z3, PySem.W.mg_none_of X G z10, PySem.W.mg_none_of X G z0, trivial⟩
  have G13 : FnG P w K mg base 14 "_law_is_ring" m_u_law_is_ring 3 := FnG.flat (b := true) (fnG_of (ps := ["glossary", "told"]) M13 k_u_law_is_ring t_u_law_is_ring s_u_law_is_ring (PySem.W.mg_of X G a13) l13 q13 k13 (fun us hl => match us, hl with | [_, _], _ => rfl))
  have M14 : Mod0 P w K mg base c_u_law_levels 14 := mod0_of trivial ⟨PySem.W.mg_none_of X G z3, PySem.W.mg_none_of X G z0, PySem.W.mg_none_of X G z8, trivial⟩
  have G14 : FnG P w K mg base 15 "_law_levels" m_u_law_levels 3 := FnG.flat (b := true) (fnG_of (ps := ["glossary", "known"]) M14 k_u_law_levels t_u_law_levels s_u_law_levels (PySem.W.mg_of X G a14) l14 q14 k14 (fun us hl => match us, hl with | [_, _], _ => rfl))
  have M15 : Mod0 P w K mg base c_is_order 15 := mod0_of ⟨.inl ⟨G5.up (by decide), fun _ => ⟨true, rfl, flat_g _ _⟩⟩, trivial⟩ ⟨PySem.W.mg_none_of X G z6, PySem.W.mg_none_of X G z9, PySem.W.mg_none_of X G z5, PySem.W.mg_none_of X G z0, PySem.W.mg_none_of X G z3, PySem.W.mg_none_of X G z7, trivial⟩
  have G15 : FnG P w K mg base 16 "is_order" m_is_order 3 := FnG.flat (b := true) (fnG_of (ps := ["glossary", "known", "told"]) M15 k_is_order t_is_order s_is_order (PySem.W.mg_of X G a15) l15 q15 k15 (fun us hl => match us, hl with | [_, _, _], _ => rfl))
  have M16 : Mod0 P w K mg base c_u_law_is_order 16 := mod0_of trivial ⟨PySem.W.mg_none_of X G z0, PySem.W.mg_none_of X G z9, PySem.W.mg_none_of X G z5, PySem.W.mg_none_of X G z3, trivial⟩
  have G16 : FnG P w K mg base 17 "_law_is_order" m_u_law_is_order 3 := FnG.flat (b := true) (fnG_of (ps := ["glossary", "known", "told"]) M16 k_u_law_is_order t_u_law_is_order s_u_law_is_order (PySem.W.mg_of X G a16) l16 q16 k16 (fun us hl => match us, hl with | [_, _, _], _ => rfl))
  have M17 : Mod0 P w K mg base c_ring_in 17 := mod0_of trivial ⟨PySem.W.mg_none_of X G z7, PySem.W.mg_none_of X G z3, PySem.W.mg_none_of X G z10, PySem.W.mg_none_of X G z11, trivial⟩
  have G17 : FnG P w K mg base 18 "ring_in" m_ring_in 3 := FnG.flat (b := true) (fnG_of (ps := ["glossary", "told"]) M17 k_ring_in t_ring_in s_ring_in (PySem.W.mg_of X G a17) l17 q17 k17 (fun us hl => match us, hl with | [_, _], _ => rfl))
  have M18 : Mod0 P w K mg base c_is_ring 18 := mod0_of ⟨.inl ⟨G4.up (by decide), fun _ => ⟨true, rfl, flat_g _ _⟩⟩, .inl ⟨G17.up (by decide), fun _ => ⟨true, rfl, flat_g _ _⟩⟩, trivial⟩ trivial
  have G18 : FnG P w K mg base 19 "is_ring" m_is_ring 3 := FnG.flat (b := true) (fnG_of (ps := ["glossary", "told"]) M18 k_is_ring t_is_ring s_is_ring (PySem.W.mg_of X G a18) l18 q18 k18 (fun us hl => match us, hl with | [_, _], _ => rfl))
  have M19 : Mod0 P w K mg base c_law 19 := mod0_of ⟨.inl ⟨G0.up (by decide), fun _ => ⟨true, rfl, flat_g _ _⟩⟩, .inl ⟨G2.up (by decide), fun z => by cases z⟩, .inl ⟨G3.up (by decide), fun _ => ⟨true, rfl, flat_g _ _⟩⟩, .inl ⟨G7.up (by decide), fun z => by cases z⟩, .inl ⟨G8.up (by decide), fun _ => ⟨true, rfl, flat_g _ _⟩⟩, .inl ⟨G9.up (by decide), fun _ => ⟨true, rfl, flat_g _ _⟩⟩, .inl ⟨G1.up (by decide), fun _ => ⟨true, rfl, flat_g _ _⟩⟩, .inl ⟨G11.up (by decide), fun z => by cases z⟩, .inl ⟨G12.up (by decide), fun z => by cases z⟩, .inl ⟨G13.up (by decide), fun _ => ⟨true, rfl, flat_g _ _⟩⟩, .inl ⟨G14.up (by decide), fun _ => ⟨true, rfl, flat_g _ _⟩⟩, .inl ⟨G15.up (by decide), fun _ => ⟨true, rfl, flat_g _ _⟩⟩, .inl ⟨G16.up (by decide), fun _ => ⟨true, rfl, flat_g _ _⟩⟩, .inl ⟨G18.up (by decide), fun _ => ⟨true, rfl, flat_g _ _⟩⟩, trivial⟩ ⟨PySem.W.mg_none_of X G z0, PySem.W.mg_none_of X G z3, PySem.W.mg_none_of X G z12, PySem.W.mg_none_of X G z5, PySem.W.mg_none_of X G z9, PySem.W.mg_none_of X G z10, trivial⟩
  obtain ⟨r, look⟩ := Option.isSome_iff_exists.mp k_law
  have fk := fk_of (o := 3) l19 q19 s_law M19 look
  rw [t_law] at fk
  exact fk
end Q
open PySem PySem.W PyProof.Rows
set_option maxHeartbeats 0 in
theorem PySem.Challenge.cw_headsandpages_k54_whole_orders_of_glossa_holds : PySem.Challenge.rw_headsandpages_k54_whole_orders_of_glossa.Holds := by
  w_on; o_law; k_head; (case hw => w_witness2)
  k_fill
  refine Dv.walk_dv (l := PySem.Challenge.rw_headsandpages_k54_whole_orders_of_glossa) (n := 63) (k := 20) (x := "script") (m := Q.m_law) (o := 3) rfl (by decide) rfl ⟨rfl, by decide, by decide⟩ (fun w h Y => PySem.W.kIn_of Y) ?F Q.answer
  case F =>
    intro w mg fa h KX G hmg
    refine' Q.all_mk KX G hmg ?a0 ?l0 ?q0 ?k0 ?a1 ?l1 ?q1 ?k1 ?a2 ?l2 ?q2 ?k2 ?a3 ?l3 ?q3 ?k3 ?a4 ?l4 ?q4 ?k4 ?a5 ?l5 ?q5 ?k5 ?a6 ?l6 ?q6 ?k6 ?a7 ?l7 ?q7 ?k7 ?a8 ?l8 ?q8 ?k8 ?a9 ?l9 ?q9 ?k9 ?a10 ?l10 ?q10 ?k10 ?a11 ?l11 ?q11 ?k11 ?a12 ?l12 ?q12 ?k12 ?a13 ?l13 ?q13 ?k13 ?a14 ?l14 ?q14 ?k14 ?a15 ?l15 ?q15 ?k15 ?a16 ?l16 ?q16 ?k16 ?a17 ?l17 ?q17 ?k17 ?a18 ?l18 ?q18 ?k18 ?a19 ?l19 ?q19 ?k19 ?z0 ?z1 ?z2 ?z3 ?z4 ?z5 ?z6 ?z7 ?z8 ?z9 ?z10 ?z11 ?z12 ?c0
    (case a0 => k_is)
    (case l0 => k_is)
    (case q0 => k_is)
    (case k0 => k_is)
    (case a1 => k_is)
    (case l1 => k_is)
    (case q1 => k_is)
    (case k1 => k_is)
    (case a2 => k_is)
    (case l2 => k_is)
    (case q2 => k_is)
    (case k2 => k_is)
    (case a3 => k_is)
    (case l3 => k_is)
    (case q3 => k_is)
    (case k3 => k_is)
    (case a4 => k_is)
    (case l4 => k_is)
    (case q4 => k_is)
    (case k4 => k_is)
    (case a5 => k_is)
    (case l5 => k_is)
    (case q5 => k_is)
    (case k5 => k_is)
    (case a6 => k_is)
    (case l6 => k_is)
    (case q6 => k_is)
    (case k6 => k_is)
    (case a7 => k_is)
    (case l7 => k_is)
    (case q7 => k_is)
    (case k7 => k_is)
    (case a8 => k_is)
    (case l8 => k_is)
    (case q8 => k_is)
    (case k8 => k_is)
    (case a9 => k_is)
    (case l9 => k_is)
    (case q9 => k_is)
    (case k9 => k_is)
    (case a10 => k_is)
    (case l10 => k_is)
    (case q10 => k_is)
    (case k10 => k_is)
    (case a11 => k_is)
    (case l11 => k_is)
    (case q11 => k_is)
    (case k11 => k_is)
    (case a12 => k_is)
    (case l12 => k_is)
    (case q12 => k_is)
    (case k12 => k_is)
    (case a13 => k_is)
    (case l13 => k_is)
    (case q13 => k_is)
    (case k13 => k_is)
    (case a14 => k_is)
    (case l14 => k_is)
    (case q14 => k_is)
    (case k14 => k_is)
    (case a15 => k_is)
    (case l15 => k_is)
    (case q15 => k_is)
    (case k15 => k_is)
    (case a16 => k_is)
    (case l16 => k_is)
    (case q16 => k_is)
    (case k16 => k_is)
    (case a17 => k_is)
    (case l17 => k_is)
    (case q17 => k_is)
    (case k17 => k_is)
    (case a18 => k_is)
    (case l18 => k_is)
    (case q18 => k_is)
    (case k18 => k_is)
    (case a19 => k_is)
    (case l19 => k_is)
    (case q19 => k_is)
    (case k19 => k_is)
    (case z0 => k_is)
    (case z1 => k_is)
    (case z2 => k_is)
    (case z3 => k_is)
    (case z4 => k_is)
    (case z5 => k_is)
    (case z6 => k_is)
    (case z7 => k_is)
    (case z8 => k_is)
    (case z9 => k_is)
    (case z10 => k_is)
    (case z11 => k_is)
    (case z12 => k_is)
    (case c0 => k_is)

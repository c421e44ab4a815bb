import PyProof.Rows.All
import KE.SortData
import PyProof.ReprReads
import PySem.Syntax
import HandS.Text
import HandS.ForMost
import HandS.Exc
import HandS.ExcOwn
import HandS.TryOnly
import HandS.WordsExc
import HandS.Flow
import KE.DataCmp
import PyProof.StrOps2
import HandS.TupAny
import HandS.Style
import PyProof.ReprRoads
import PyProof.CallFns
import HandS.Deep
import HandS.Codes
import HandS.Conv
import HandS.Iter
import HandS.Comp
import HandS.Ends
import HandS.Words
import PyProof.ReprBulk
import PySem.Challenge.RW_headsandpages_k32_whole_moves_of_chapter
set_option autoImplicit false
set_option Elab.async false
set_option linter.all false
set_option maxRecDepth 100000
/-! Dv0: a small evaluator over plain data. Values, operations, combinators. -/
namespace Dv
open PySem

abbrev D := PyData
/-- what an evaluation comes to: a value, an error of the program with its number, or nothing is said -/
inductive R (α : Type) where
  | ok (a : α) | err (c : Str) (i : Int) | bad
def R.bind {α β : Type} (x : R α) (f : α → R β) : R β :=
  match x with
  | .ok a => f a
  | .err c i => .err c i
  | .bad => .bad
@[simp] theorem R.bind_ok {α β : Type} (a : α) (f : α → R β) : (R.ok a).bind f = f a := rfl
@[simp] theorem R.bind_err {α β : Type} (c : Str) (i : Int) (f : α → R β) : (R.err c i : R α).bind f = .err c i := rfl
@[simp] theorem R.bind_bad {α β : Type} (f : α → R β) : (R.bad : R α).bind f = .bad := rfl
theorem R.bind_eq_ok {α β : Type} {x : R α} {f : α → R β} {b : β} (h : x.bind f = .ok b) : ∃ a, x = .ok a ∧ f a = .ok b := by
  cases x with
  | ok a => exact ⟨a, rfl, h⟩
  | err c i => cases h
  | bad => cases h

abbrev Env := List (Option D)
abbrev DE := Env → R D
abbrev DT := Env → R Bool
abbrev DI := Env → R (List D)

/-- the greatest length of what is made -/
def lim : Nat := 1000000

/-! ### data without dicts, of few levels -/
def fl : Nat → D → Bool
  | _, .none => true
  | _, .bool _ => true
  | _, .int _ => true
  | _, .str _ => true
  | 0, _ => false
  | n + 1, .list xs => xs.all (fl n)
  | n + 1, .tuple xs => xs.all (fl n)
  | _ + 1, .dict _ => false
def deep : Nat := 12

/-! ### operations -/
def addD : D → D → R D
  | .int i, .int j => .ok (.int (i + j))
  | .str a, .str b => if a.length + b.length ≤ lim then .ok (.str (a ++ b)) else .bad
  | .list a, .list b => if a.length + b.length ≤ lim then .ok (.list (a ++ b)) else .bad
  | .tuple a, .tuple b => if a.length + b.length ≤ lim then .ok (.tuple (a ++ b)) else .bad
  | _, _ => .bad
def subD : D → D → R D
  | .int i, .int j => .ok (.int (i - j))
  | _, _ => .bad
def small (i : Int) : Bool := decide (-(2 ^ 64) < i ∧ i < 2 ^ 64)
def repS (s : Str) (k : Nat) : Str := ⟨((List.replicate k s.cps.toList).flatten).toArray⟩
def mulD : D → D → R D
  | .int i, .int j => if small i || small j then .ok (.int (i * j)) else .bad
  | .list a, .int k => if decide (-(2 ^ 63) ≤ k ∧ k < 2 ^ 63) && decide (a.length * k.toNat ≤ lim) then .ok (.list (List.replicate k.toNat a).flatten) else .bad
  | .str a, .int k => if decide (0 ≤ k ∧ k < 2 ^ 63) && decide (a.length * k.toNat ≤ lim) then .ok (.str (repS a k.toNat)) else .bad
  | _, _ => .bad
def divD : D → D → R D
  | .int i, .int j => if 0 < j ∧ j < 1073741824 then .ok (.int (i / j)) else .bad
  | _, _ => .bad
def modD : D → D → R D
  | .int i, .int j => if 0 < j then .ok (.int (i % j)) else .bad
  | _, _ => .bad
def powD : D → D → R D
  | .int i, .int j => if 0 ≤ j ∧ j ≤ 1000 ∧ i.natAbs < 2 ^ 64 then .ok (.int (i ^ j.toNat)) else .bad
  | _, _ => .bad
def binD : Operator → D → D → R D
  | .Add => addD
  | .Sub => subD
  | .Mult => mulD
  | .FloorDiv => divD
  | .Mod => modD
  | .Pow => powD
  | _ => fun _ _ => .bad
def negD : D → R D
  | .int i => .ok (.int (-i))
  | _ => .bad
def truD : D → R Bool
  | .none => .ok false
  | .bool b => .ok b
  | .int i => .ok (i != 0)
  | .str s => .ok (s.length != 0)
  | .list xs => .ok (!xs.isEmpty)
  | .tuple xs => .ok (!xs.isEmpty)
  | .dict _ => .bad
def eqD (x y : D) : R Bool := if fl deep x && fl deep y then .ok (PyData.eqv x y) else .bad
def sLt (a b : Str) : Bool := decide (a.cps.toList < b.cps.toList)
def sLe (a b : Str) : Bool := decide (a.cps.toList ≤ b.cps.toList)
def ltD : D → D → R Bool
  | .int i, .int j => .ok (decide (i < j))
  | .str a, .str b => .ok (sLt a b)
  | .list a, .list b => if W.alike (.list a) (.list b) && fl deep (.list a) && fl deep (.list b) then .ok (W.dataLt (.list a) (.list b)) else .bad
  | .tuple a, .tuple b => if W.alike (.tuple a) (.tuple b) && fl deep (.tuple a) && fl deep (.tuple b) then .ok (W.dataLt (.tuple a) (.tuple b)) else .bad
  | _, _ => .bad
def leD : D → D → R Bool
  | .int i, .int j => .ok (decide (i ≤ j))
  | .str a, .str b => .ok (sLe a b)
  | .list a, .list b => if W.alike (.list a) (.list b) && fl deep (.list a) && fl deep (.list b) then .ok (!W.dataLt (.list b) (.list a)) else .bad
  | .tuple a, .tuple b => if W.alike (.tuple a) (.tuple b) && fl deep (.tuple a) && fl deep (.tuple b) then .ok (!W.dataLt (.tuple b) (.tuple a)) else .bad
  | _, _ => .bad
def memD (x : D) (ys : List D) : R Bool := if fl deep x && ys.all (fl deep) then .ok (ys.any fun y => PyData.eqv y x) else .bad
/-- one sign, or a text, in a text -/
def inS (x y : Str) : Bool := !(Builtin.Str.occurrences y x 0 y.length 1).isEmpty
def inD (x : D) : D → R Bool
  | .list ys => memD x ys
  | .tuple ys => memD x ys
  | .str y => match x with
    | .str z => .ok (inS z y)
    | _ => .bad
  | _ => .bad
def isNone : D → Bool
  | .none => true
  | _ => false
def isD (x : D) : D → R Bool
  | .none => .ok (isNone x)
  | .bool b => (match x with
    | .bool c => .ok (c == b)
    | _ => .bad)
  | _ => .bad
def rnot : R Bool → R Bool
  | .ok b => .ok (!b)
  | .err c i => .err c i
  | .bad => .bad
def cmpD : CmpOp → D → D → R Bool
  | .Eq => eqD
  | .NotEq => fun x y => rnot (eqD x y)
  | .Lt => ltD
  | .LtE => leD
  | .Gt => fun x y => ltD y x
  | .GtE => fun x y => leD y x
  | .Is => isD
  | .IsNot => fun x y => rnot (isD x y)
  | .In => inD
  | .NotIn => fun x y => rnot (inD x y)

/-! ### places, cuts -/
def ixZ (n : Nat) (i : Int) : Option Nat := if 0 ≤ i then (if i < n then some i.toNat else none) else if -(n : Int) ≤ i then some (i + n).toNat else none
def atZ {α : Type} (xs : List α) (i : Int) : Option α := (ixZ xs.length i).bind fun j => xs[j]?
def oR {α : Type} : Option α → R α
  | some a => .ok a
  | none => .bad
def sgn (c : Nat) : Str := ⟨#[c]⟩
def idxD : D → D → R D
  | .list xs, .int i => oR (atZ xs i)
  | .tuple xs, .int i => oR (atZ xs i)
  | .str s, .int i => oR ((atZ s.cps.toList i).map fun c => .str (sgn c))
  | _, _ => .bad
/-- a cut's end: left out, or a number of any sign -/
def cutE (n d : Nat) : Option Int → Nat
  | none => d
  | some k => if k < 0 then (k + n).toNat else min k.toNat n
def cut {α : Type} (xs : List α) (lo hi : Option Int) : List α := (xs.drop (cutE xs.length 0 lo)).take (cutE xs.length xs.length hi - cutE xs.length 0 lo)
def slD (lo hi : Option Int) : D → R D
  | .list xs => .ok (.list (cut xs lo hi))
  | .tuple xs => .ok (.tuple (cut xs lo hi))
  | .str s => .ok (.str ⟨(cut s.cps.toList lo hi).toArray⟩)
  | _ => .bad
def revD : D → R D
  | .list xs => .ok (.list xs.reverse)
  | _ => .bad
def asInt : D → R Int
  | .int i => .ok i
  | _ => .bad
def asBool : D → R Bool
  | .bool b => .ok b
  | _ => .bad
def asList : D → R (List D)
  | .list xs => .ok xs
  | .tuple xs => .ok xs
  | _ => .bad

/-! ### combinators for expressions -/
def eBad : DE := fun _ => .bad
def eC (d : D) : DE := fun _ => .ok d
def eV (i : Nat) : DE := fun δ => match δ[i]? with
  | some (some d) => .ok d
  | _ => .bad
def eBin (op : Operator) (a b : DE) : DE := fun δ => (a δ).bind fun x => (b δ).bind fun y => binD op x y
def eNeg (a : DE) : DE := fun δ => (a δ).bind negD
def tTru (a : DE) : DT := fun δ => (a δ).bind truD
def tVal (a : DE) : DT := fun δ => (a δ).bind asBool
def eT (t : DT) : DE := fun δ => (t δ).bind fun b => .ok (.bool b)
def tNot (t : DT) : DT := fun δ => rnot (t δ)
def tAnd (a b : DT) : DT := fun δ => (a δ).bind fun x => if x then b δ else .ok false
def tOr (a b : DT) : DT := fun δ => (a δ).bind fun x => if x then .ok true else b δ
def tAnds : List DT → DT
  | [] => fun _ => .bad
  | [t] => t
  | t :: ts => tAnd t (tAnds ts)
def tOrs : List DT → DT
  | [] => fun _ => .bad
  | [t] => t
  | t :: ts => tOr t (tOrs ts)
/-- x or y, x and y as values -/
def eOr (a b : DE) : DE := fun δ => (a δ).bind fun x => (truD x).bind fun t => if t then .ok x else b δ
def eAnd (a b : DE) : DE := fun δ => (a δ).bind fun x => (truD x).bind fun t => if t then b δ else .ok x
def eOrs : List DE → DE
  | [] => eBad
  | [a] => a
  | a :: as => eOr a (eOrs as)
def eAnds : List DE → DE
  | [] => eBad
  | [a] => a
  | a :: as => eAnd a (eAnds as)
def eIf (t : DT) (a b : DE) : DE := fun δ => (t δ).bind fun x => if x then a δ else b δ
/-- a chain of comparisons -/
def cmpGo (δ : Env) (x : D) : List (CmpOp × DE) → R Bool
  | [] => .bad
  | [(op, b)] => (b δ).bind fun y => cmpD op x y
  | (op, b) :: r => (b δ).bind fun y => (cmpD op x y).bind fun t => if t then cmpGo δ y r else .ok false
def tCmp (a : DE) (r : List (CmpOp × DE)) : DT := fun δ => (a δ).bind fun x => cmpGo δ x r
def evs : List DE → Env → R (List D)
  | [], _ => .ok []
  | a :: as, δ => (a δ).bind fun x => (evs as δ).bind fun xs => .ok (x :: xs)
def eTup (as : List DE) : DE := fun δ => (evs as δ).bind fun xs => .ok (.tuple xs)
def eLst (as : List DE) : DE := fun δ => (evs as δ).bind fun xs => .ok (.list xs)
def eIx (a b : DE) : DE := fun δ => (a δ).bind fun x => (b δ).bind fun y => idxD x y
def oE : Option DE → Env → R (Option Int)
  | none, _ => .ok none
  | some a, δ => (a δ).bind fun x => (asInt x).bind fun i => .ok (some i)
def eSl (a : DE) (lo hi : Option DE) : DE := fun δ => (a δ).bind fun x => (oE lo δ).bind fun l => (oE hi δ).bind fun h => slD l h x
def eRev (a : DE) : DE := fun δ => (a δ).bind revD
/-- a call of a function whose meaning is m -/
def eCall (m : List D → R D) (as : List DE) : DE := fun δ => (evs as δ).bind m

/-- a call of a method: the receiver is of the type that has it -/
def eMet (ok : D → Bool) (m : List D → R D) (o : DE) (as : List DE) : DE := fun δ => (o δ).bind fun x => if ok x then (evs as δ).bind fun xs => m (x :: xs) else .bad

/-! ### targets -/
abbrev TF := D → Env → R Env
def gNm (i : Nat) : TF := fun d δ => .ok (δ.set i (some d))
def gNo : TF := fun _ _ => .bad
def gAll : List TF → List D → Env → R Env
  | [], [], δ => .ok δ
  | t :: ts, x :: xs, δ => (t x δ).bind fun δ' => gAll ts xs δ'
  | _, _, _ => .bad
def asTup : D → R (List D)
  | .tuple xs => .ok xs
  | _ => .bad
def gTp (ts : List TF) : TF := fun d δ => (asTup d).bind fun xs => gAll ts xs δ

/-! ### what is walked -/
def itemsD : D → R (List D)
  | .list xs => .ok xs
  | .tuple xs => .ok xs
  | .str s => .ok (s.cps.toList.map fun c => .str (sgn c))
  | _ => .bad
def iExp (a : DE) : DI := fun δ => (a δ).bind itemsD
def big (i : Int) : Bool := decide (-(2 ^ 30) ≤ i ∧ i < 2 ^ 30)
def intUp (lo : Int) (n : Nat) : List D := (List.range n).map fun (k : Nat) => PyData.int (lo + k)
def intDn (lo : Int) (n : Nat) : List D := (List.range n).map fun (k : Nat) => PyData.int (lo - k)
def iRng1 (a : DE) : DI := fun δ => (a δ).bind fun x => (asInt x).bind fun i => if big i then .ok (intUp 0 i.toNat) else .bad
def iRng2 (a b : DE) : DI := fun δ => (a δ).bind fun x => (b δ).bind fun y => (asInt x).bind fun i => (asInt y).bind fun j => if big i && big j then .ok (intUp i (j - i).toNat) else .bad
/-- range(a, b, -1) -/
def iRngD (a b : DE) : DI := fun δ => (a δ).bind fun x => (b δ).bind fun y => (asInt x).bind fun i => (asInt y).bind fun j => if big i && big j then .ok (intDn i (i - j).toNat) else .bad
def asLst : D → R (List D)
  | .list xs => .ok xs
  | _ => .bad
def enumL (k : Nat) : List D → List D
  | [] => []
  | x :: xs => .tuple [.int k, x] :: enumL (k + 1) xs
def iEnum (a : DE) : DI := fun δ => (a δ).bind fun x => (asLst x).bind fun xs => .ok (enumL 0 xs)
def iZip (a b : DE) : DI := fun δ => (a δ).bind fun x => (b δ).bind fun y => (asLst x).bind fun xs => (asLst y).bind fun ys => .ok ((xs.zip ys).map fun p => .tuple [p.1, p.2])
def eLstI (it : DI) : DE := fun δ => (it δ).bind fun xs => if xs.length ≤ lim then .ok (.list xs) else .bad
def iBad : DI := fun _ => .bad

/-! ### comprehensions -/
def wipeE (δ : Env) : List Nat → Env
  | [] => δ
  | v :: vs => (wipeE δ vs).set v none
def lcGo (g : TF) (t : DT) (e : DE) (δ : Env) : List D → R (List D)
  | [] => .ok []
  | d :: ds => (g d δ).bind fun δ' => (t δ').bind fun b => if b then (e δ').bind fun y => (lcGo g t e δ ds).bind fun ys => .ok (y :: ys) else lcGo g t e δ ds
def tYes : DT := fun _ => .ok true
def eLc (own : List Nat) (g : TF) (it : DI) (t : DT) (e : DE) : DE := fun δ => (it δ).bind fun ds => (lcGo g t e (wipeE δ own) ds).bind fun ys => if ys.length ≤ lim then .ok (.list ys) else .bad
def lcGo2 (g : TF) (t : DT) (it2 : DI) (g2 : TF) (t2 : DT) (e : DE) (δ : Env) : List D → R (List D)
  | [] => .ok []
  | d :: ds => (g d δ).bind fun δ' => (t δ').bind fun b =>
      if b then (it2 δ').bind fun ds2 => (lcGo g2 t2 e δ' ds2).bind fun ys => (lcGo2 g t it2 g2 t2 e δ ds).bind fun zs => .ok (ys ++ zs)
      else lcGo2 g t it2 g2 t2 e δ ds
def eLc2 (own : List Nat) (g : TF) (it : DI) (t : DT) (it2 : DI) (g2 : TF) (t2 : DT) (e : DE) : DE := fun δ =>
  (it δ).bind fun ds => (lcGo2 g t it2 g2 t2 e (wipeE δ own) ds).bind fun ys => if ys.length ≤ lim then .ok (.list ys) else .bad

/-! ### statements -/
inductive Out where
  | nx (δ : Env) | rt (d : D) | bk (δ : Env) | ct (δ : Env) | err (c : Str) (i : Int) | bad
abbrev DS := Env → Out
def ofR {α : Type} (x : R α) (f : α → Out) : Out :=
  match x with
  | .ok a => f a
  | .err c i => .err c i
  | .bad => .bad
@[simp] theorem ofR_ok {α : Type} (a : α) (f : α → Out) : ofR (.ok a) f = f a := rfl
@[simp] theorem ofR_err {α : Type} (c : Str) (i : Int) (f : α → Out) : ofR (.err c i : R α) f = .err c i := rfl
@[simp] theorem ofR_bad {α : Type} (f : α → Out) : ofR (.bad : R α) f = .bad := rfl
def sBad : DS := fun _ => .bad
def sPass : DS := fun δ => .nx δ
def sBrk : DS := fun δ => .bk δ
def sCnt : DS := fun δ => .ct δ
def sRet (a : DE) : DS := fun δ => ofR (a δ) .rt
def sRetN : DS := fun _ => .rt .none
def sAsg (g : TF) (a : DE) : DS := fun δ => ofR (a δ) fun x => ofR (g x δ) .nx
def sDrop (a : DE) : DS := fun δ => ofR (a δ) fun _ => .nx δ
def andThen (o : Out) (k : DS) : Out :=
  match o with
  | .nx δ => k δ
  | o => o
@[simp] theorem andThen_nx (δ : Env) (k : DS) : andThen (.nx δ) k = k δ := rfl
@[simp] theorem andThen_rt (d : D) (k : DS) : andThen (.rt d) k = .rt d := rfl
@[simp] theorem andThen_bk (δ : Env) (k : DS) : andThen (.bk δ) k = .bk δ := rfl
@[simp] theorem andThen_ct (δ : Env) (k : DS) : andThen (.ct δ) k = .ct δ := rfl
@[simp] theorem andThen_err (c : Str) (i : Int) (k : DS) : andThen (.err c i) k = .err c i := rfl
@[simp] theorem andThen_bad (k : DS) : andThen .bad k = .bad := rfl
def sSeq : List DS → DS
  | [] => sPass
  | [s] => s
  | s :: ss => fun δ => andThen (s δ) (sSeq ss)
def sIf (t : DT) (a b : DS) : DS := fun δ => ofR (t δ) fun x => if x then a δ else b δ
def forGo (g : TF) (body : DS) : List D → DS
  | [] => fun δ => .nx δ
  | d :: ds => fun δ => ofR (g d δ) fun δ1 => match body δ1 with
    | .nx δ' => forGo g body ds δ'
    | .ct δ' => forGo g body ds δ'
    | .bk δ' => .nx δ'
    | o => o
def sFor (g : TF) (it : DI) (body : DS) : DS := fun δ => ofR (it δ) fun ds => forGo g body ds δ
def whlGo (t : DT) (body : DS) : Nat → DS
  | 0 => sBad
  | n + 1 => fun δ => ofR (t δ) fun x => if x then (match body δ with
    | .nx δ' => whlGo t body n δ'
    | .ct δ' => whlGo t body n δ'
    | .bk δ' => .nx δ'
    | o => o) else .nx δ
def turns : Nat := 1000000
def sWhl (t : DT) (body : DS) : DS := whlGo t body turns
/-- x.append(e) of an own list -/
def sApp (i : Nat) (a : DE) : DS := fun δ => ofR (a δ) fun x => match δ[i]? with
  | some (some (.list xs)) => if xs.length < lim then .nx (δ.set i (some (.list (xs ++ [x])))) else .bad
  | _ => .bad
/-- x[e] = a of an own list -/
def sSet (i : Nat) (b a : DE) : DS := fun δ => ofR (a δ) fun x => ofR (b δ) fun y => match δ[i]? with
  | some (some (.list xs)) => ofR (asInt y) fun k => match ixZ xs.length k with
    | some j => .nx (δ.set i (some (.list (xs.set j x))))
    | none => .bad
  | _ => .bad
/-- a def's body run: its parameters, room for its other names -/
def runF (np m : Nat) (body : DS) (as : List D) : R D :=
  if as.length = np then (match body (as.map some ++ List.replicate (m - np) none) with
  | .nx _ => .ok .none
  | .rt d => .ok d
  | .err c i => .err c i
  | _ => .bad) else .bad
end Dv
/-! Dv1: the evaluator's reading of the syntax; the look that tells which lists are a def's own. -/
namespace Dv
open PySem

/-- a name of the module: a datum, or a def by its meaning (own: it hands back what is new; flat: .. in which no list lies) -/
inductive GV where
  | con (d : D) | fn (m : List D → R D) (own flat : Bool)
structure Cfg where
  N : List Str
  ge : List (Str × GV)
  bn : List Str
def Cfg.slot (c : Cfg) (x : Str) : Option Nat := c.N.findIdx? (· == x)
def vis (sc : Scope) (x : Str) : Bool := match sc.names.lookup x with
  | some .local => true
  | some .cell => true
  | some .free => true
  | _ => false
def loc (sc : Scope) (x : Str) : Bool := match sc.names.lookup x with
  | some .local => true
  | some .cell => true
  | _ => false
def glo (sc : Scope) (x : Str) : Bool := match sc.names.lookup x with
  | some .globalImplicit => true
  | _ => false
def fnOf (c : Cfg) (sc : Scope) (x : Str) : Option (List D → R D) := if glo sc x then (match c.ge.lookup x with
  | some (.fn m _ _) => some m
  | _ => none) else none
def isBn (c : Cfg) (sc : Scope) (x : Str) : Bool := glo sc x && c.bn.contains x

/-! ### built-ins by name -/
def lenD : D → R D
  | .list xs => .ok (.int xs.length)
  | .tuple xs => .ok (.int xs.length)
  | .str s => .ok (.int s.length)
  | _ => .bad
def absD : D → R D
  | .int i => .ok (.int (if i < 0 then -i else i))
  | _ => .bad
def intsOf : List D → Option (List Int)
  | [] => some []
  | .int i :: r => (intsOf r).map (i :: ·)
  | _ :: _ => none
def boolsOf : List D → Option (List Bool)
  | [] => some []
  | .bool i :: r => (boolsOf r).map (i :: ·)
  | _ :: _ => none
def strsOf : List D → Option (List Str)
  | [] => some []
  | .str i :: r => (strsOf r).map (i :: ·)
  | _ :: _ => none
def sumD : D → R D
  | .list xs => match intsOf xs with
    | some ns => .ok (.int ns.sum)
    | none => .bad
  | _ => .bad
def allD : D → R D
  | .list xs => match boolsOf xs with
    | some bs => .ok (.bool (bs.all id))
    | none => .bad
  | _ => .bad
def anyD : D → R D
  | .list xs => match boolsOf xs with
    | some bs => .ok (.bool (bs.any id))
    | none => .bad
  | _ => .bad
def intD : D → R D
  | .int i => .ok (.int i)
  | .bool b => .ok (.int (if b then 1 else 0))
  | _ => .bad
def strD : D → R D
  | .int i => if i.natAbs.log2 < 1900 then .ok (.str (toString i)) else .bad
  | _ => .bad
def listD : D → R D
  | .list xs => .ok (.list xs)
  | .tuple xs => .ok (.list xs)
  | _ => .bad
def tupleD : D → R D
  | .list xs => .ok (.tuple xs)
  | .tuple xs => .ok (.tuple xs)
  | _ => .bad
def isTup1 : D → Bool
  | .tuple (_ :: _) => true
  | _ => false
def notTup : D → Bool
  | .none => false
  | .tuple _ => false
  | _ => true
def sortOk (xs : List D) : Bool := decide (xs.length ≤ lim) && xs.all (fl deep) && (xs.all isTup1 || xs.all notTup) && (xs.all fun x => xs.all fun y => W.alike x y)
def sortL (xs : List D) : List D := xs.mergeSort (W.dataLe false id)
def sortedD : D → R D
  | .list xs => if sortOk xs then .ok (.list (sortL xs)) else .bad
  | _ => .bad
def reprOk (d : D) : Bool := fl deep d && d.showable && decide ((PyData.shown d).length ≤ 10000000) && PyData.strOk (PyData.shown d)
def reprD (d : D) : R D := if reprOk d then .ok (.str (PyData.shown d)) else .bad
def maxI : List Int → Option Int
  | [] => none
  | x :: xs => some (xs.foldl (fun m y => if m < y then y else m) x)
def minI : List Int → Option Int
  | [] => none
  | x :: xs => some (xs.foldl (fun m y => if y < m then y else m) x)
def oInt : Option Int → R D
  | some i => .ok (.int i)
  | none => .bad
def bindO {α β : Type} (o : Option α) (f : α → R β) : R β := match o with
  | some a => f a
  | none => .bad
def maxD : List D → R D
  | [.list xs] => bindO (intsOf xs) fun ns => oInt (maxI ns)
  | [.int i, .int j] => .ok (.int (if j > i then j else i))
  | _ => .bad
def minD : List D → R D
  | [.list xs] => bindO (intsOf xs) fun ns => oInt (minI ns)
  | [.int i, .int j] => .ok (.int (if j < i then j else i))
  | _ => .bad
def on1 (f : D → R D) : List D → R D
  | [a] => f a
  | _ => .bad
def callB (x : Str) (as : List D) : R D :=
  if x = "len" then on1 lenD as else if x = "abs" then on1 absD as else if x = "sum" then on1 sumD as else if x = "all" then on1 allD as
  else if x = "any" then on1 anyD as else if x = "int" then on1 intD as else if x = "str" then on1 strD as else if x = "list" then on1 listD as
  else if x = "tuple" then on1 tupleD as else if x = "sorted" then on1 sortedD as else if x = "repr" then on1 reprD as else if x = "max" then maxD as
  else if x = "min" then minD as else .bad
/-- the value is new (a list, if it is one, has no other owner) -/
def freshB (x : Str) : Bool := x != "max" && x != "min"

/-! ### methods that change nothing -/
def indexGo (y : D) : Nat → List D → R D
  | _, [] => .bad
  | n, x :: xs => if PyData.eqv x y then .ok (.int n) else indexGo y (n + 1) xs
def indexD (x y : D) : R D := match x with
  | .list xs => if fl deep y && xs.all (fl deep) then indexGo y 0 xs else .bad
  | _ => .bad
def joinOk (s : Str) (ss : List Str) : Bool := decide ((ss.map (·.length)).sum + ss.length * s.length ≤ 12000000) && decide ((Txt.join s ss).length ≤ 12000000) && PyData.strOk (Txt.join s ss)
def joinD (x y : D) : R D := match x, y with
  | .str s, .list xs => bindO (strsOf xs) fun ss => if joinOk s ss then .ok (.str (Txt.join s ss)) else .bad
  | _, _ => .bad
def startsD (x y : D) : R D := match x, y with
  | .str s, .str t => .ok (.bool (Txt.startswith s t))
  | _, _ => .bad
def on2 (f : D → D → R D) : List D → R D
  | [a, b] => f a b
  | _ => .bad
def callM (m : Str) (as : List D) : R D :=
  if m = "index" then on2 indexD as else if m = "join" then on2 joinD as else if m = "startswith" then on2 startsD as else .bad
def metOk (m : Str) (x : D) : Bool := match x with
  | .list _ => m == "index"
  | .str _ => m != "index"
  | _ => false
def mets : List Str := ["index", "join", "startswith"]

/-! ### the reading -/
def rel (scope sc : Scope) : Scope :=
  { scope with names := scope.names.map fun (n, k) => if (k == .free && sc.kind == .function && sc.names.lookup n == some .cell) then (n, .cell) else (n, k) }
def ownOf (c : Cfg) (scope : Scope) : List Nat := scope.names.filterMap fun p => match p.2 with
  | .local => c.slot p.1
  | .cell => c.slot p.1
  | _ => none
def constD : Const → Option D
  | .none => some .none
  | .bool b => some (.bool b)
  | .int i => some (.int i)
  | .str s => if s.length ≤ 1000 && PyData.strOk s then some (.str s) else none
  | _ => none
def eO : Option D → DE
  | some d => eC d
  | none => eBad
def eName (c : Cfg) (sc : Scope) (x : Str) : DE :=
  if vis sc x then (match c.slot x with
    | some i => eV i
    | none => eBad)
  else if glo sc x then (match c.ge.lookup x with
    | some (.con d) => eC d
    | _ => eBad)
  else eBad
/-- a target -/
def dG (c : Cfg) : Nat → Scope → Expr → TF
  | 0, _, _ => gNo
  | n + 1, sc, e => match e with
    | .Name x _ => if loc sc x then (match c.slot x with
        | some i => gNm i
        | none => gNo) else gNo
    | .Tuple es _ _ => gTp (es.map (dG c n sc))
    | _ => gNo
/-! views of the syntax -/
def isM1 : Expr → Bool
  | .UnaryOp .USub (.Constant (.int 1) _ _) _ => true
  | _ => false
inductive ItK where
  | rng (as : List Expr) | enum (a : Expr) | zip (a b : Expr) | exp
def bnCall (c : Cfg) (sc : Scope) (e : Expr) : Option (Str × List Expr) := match e with
  | .Call (.Name x _) as [] _ => if isBn c sc x then some (x, as) else none
  | _ => none
/-- what kind of thing is walked -/
def itK (c : Cfg) (sc : Scope) (e : Expr) : ItK := match bnCall c sc e with
  | some (x, as) => if x = "range" then .rng as else if x = "enumerate" then (match as with
      | [a] => .enum a
      | _ => .exp) else if x = "zip" then (match as with
      | [a, b] => .zip a b
      | _ => .exp) else .exp
  | none => .exp
def isRng (c : Cfg) (sc : Scope) (e : Expr) : Bool := match itK c sc e with
  | .rng _ => true
  | _ => false
inductive SubK where
  | sl (lo hi : Option Expr) | rev | ix | no
def subK (i : Expr) : SubK := match i with
  | .Slice lo hi st _ => (match st with
    | none => .sl lo hi
    | some e => (match lo, hi with
      | none, none => if isM1 e then .rev else .no
      | _, _ => .no))
  | _ => .ix
inductive CallK where
  | listI (a : Expr) | fn (x : Str) | met (o : Expr) (m : Str) | no
def callK (c : Cfg) (sc : Scope) (f : Expr) (as : List Expr) (kws : List Keyword) : CallK := match kws with
  | [] => (match f with
    | .Name x _ => (match as with
      | [a] => if x = "list" && isBn c sc x && isRng c sc a then .listI a else .fn x
      | _ => .fn x)
    | .Attribute o m _ => .met o m
    | _ => .no)
  | _ => .no
inductive GenK where
  | one (tg it : Expr) (ifs : List Expr) | two (tg it : Expr) (ifs : List Expr) (tg2 it2 : Expr) (ifs2 : List Expr) | no
def genK : List Comprehension → GenK
  | [⟨tg, it, ifs, 0⟩] => .one tg it ifs
  | [⟨tg, it, ifs, 0⟩, ⟨tg2, it2, ifs2, 0⟩] => .two tg it ifs tg2 it2 ifs2
  | _ => .no
mutual
def dE (c : Cfg) : Nat → Scope → Expr → DE
  | 0, _, _ => eBad
  | n + 1, sc, e => match e with
    | .Constant k _ _ => eO (constD k)
    | .Name x _ => eName c sc x
    | .BinOp a op b _ => eBin op (dE c n sc a) (dE c n sc b)
    | .UnaryOp op a _ => (match op with
      | .USub => eNeg (dE c n sc a)
      | .Not => eT (tNot (tTru (dE c n sc a)))
      | _ => eBad)
    | .BoolOp op es _ => (match op with
      | .And => eAnds (es.map (dE c n sc))
      | .Or => eOrs (es.map (dE c n sc)))
    | .IfExp t a b _ => eIf (dT c n sc t) (dE c n sc a) (dE c n sc b)
    | .Compare a ops bs _ => eT (tCmp (dE c n sc a) (ops.zip (bs.map (dE c n sc))))
    | .List es _ => eLst (es.map (dE c n sc))
    | .Tuple es _ _ => eTup (es.map (dE c n sc))
    | .Subscript a i _ => (match subK i with
      | .sl lo hi => eSl (dE c n sc a) (lo.map (dE c n sc)) (hi.map (dE c n sc))
      | .rev => eRev (dE c n sc a)
      | .ix => eIx (dE c n sc a) (dE c n sc i)
      | .no => eBad)
    | .ListComp elt gens scope _ => (match genK gens with
      | .one tg it ifs => eLc (ownOf c scope) (dG c n scope tg) (dI c n sc it) (dIfs c n (rel scope sc) ifs) (dE c n (rel scope sc) elt)
      | .two tg it ifs tg2 it2 ifs2 => eLc2 (ownOf c scope) (dG c n scope tg) (dI c n sc it) (dIfs c n (rel scope sc) ifs)
          (dI c n (rel scope sc) it2) (dG c n scope tg2) (dIfs c n (rel scope sc) ifs2) (dE c n (rel scope sc) elt)
      | .no => eBad)
    | .Call f as kws _ => (match callK c sc f as kws with
      | .listI a => eLstI (dI c n sc a)
      | .fn x => (match fnOf c sc x with
        | some m => eCall m (as.map (dE c n sc))
        | none => if isBn c sc x then eCall (callB x) (as.map (dE c n sc)) else eBad)
      | .met o m => if mets.contains m then eMet (metOk m) (callM m) (dE c n sc o) (as.map (dE c n sc)) else eBad
      | .no => eBad)
    | _ => eBad
def dT (c : Cfg) : Nat → Scope → Expr → DT
  | 0, _, _ => fun _ => .bad
  | n + 1, sc, e => match e with
    | .UnaryOp op a pos => (match op with
      | .Not => tNot (dT c n sc a)
      | op => tTru (dE c n sc (.UnaryOp op a pos)))
    | .BoolOp op es _ => (match op with
      | .And => tAnds (es.map (dT c n sc))
      | .Or => tOrs (es.map (dT c n sc)))
    | .Compare a ops bs _ => tCmp (dE c n sc a) (ops.zip (bs.map (dE c n sc)))
    | .IfExp _ _ _ _ => fun _ => .bad
    | e => tTru (dE c n sc e)
def dIfs (c : Cfg) : Nat → Scope → List Expr → DT
  | 0, _, _ => fun _ => .bad
  | n + 1, sc, es => match es with
    | [] => tYes
    | [e] => dT c n sc e
    | _ => fun _ => .bad
def dI (c : Cfg) : Nat → Scope → Expr → DI
  | 0, _, _ => iBad
  | n + 1, sc, e => match itK c sc e with
    | .rng as => (match as with
      | [a] => iRng1 (dE c n sc a)
      | [a, b] => iRng2 (dE c n sc a) (dE c n sc b)
      | [a, b, s] => if isM1 s then iRngD (dE c n sc a) (dE c n sc b) else iBad
      | _ => iBad)
    | .enum a => iEnum (dE c n sc a)
    | .zip a b => iZip (dE c n sc a) (dE c n sc b)
    | .exp => iExp (dE c n sc e)
end
/-! statements -/
inductive ExK where
  | app (x : Str) (a : Expr) | doc | other
/-- a statement that is an expression -/
def exK (e : Expr) : ExK := match e with
  | .Call (.Attribute (.Name x _) m _) [a] [] _ => if m = "append" then .app x a else .other
  | .Constant (.str _) _ _ => .doc
  | _ => .other
inductive TgK where
  | g (e : Expr) | set (x : Str) (i : Expr) | no
def tgK : List Expr → TgK
  | [.Name x p] => .g (.Name x p)
  | [.Tuple es k p] => .g (.Tuple es k p)
  | [.Subscript (.Name x _) i _] => .set x i
  | _ => .no
def sAt (o : Option Nat) (f : Nat → DS) : DS := match o with
  | some i => f i
  | none => sBad
def dS (c : Cfg) (sc : Scope) : Nat → Stmt → DS
  | 0, _ => sBad
  | n + 1, st => match st with
    | .Pass _ => sPass
    | .Break _ => sBrk
    | .Continue _ => sCnt
    | .Return v _ => (match v with
      | some e => sRet (dE c n sc e)
      | none => sRetN)
    | .Assign tgs e _ => (match tgK tgs with
      | .g tg => sAsg (dG c n sc tg) (dE c n sc e)
      | .set x i => if loc sc x then sAt (c.slot x) fun j => sSet j (dE c n sc i) (dE c n sc e) else sBad
      | .no => sBad)
    | .Expr e _ => (match exK e with
      | .app x a => if loc sc x then sAt (c.slot x) fun j => sApp j (dE c n sc a) else sBad
      | .doc => sPass
      | .other => sDrop (dE c n sc e))
    | .If t a b _ => sIf (dT c n sc t) (sSeq (a.map (dS c sc n))) (sSeq (b.map (dS c sc n)))
    | .For tg it body orelse _ => (match orelse with
      | [] => sFor (dG c n sc tg) (dI c n sc it) (sSeq (body.map (dS c sc n)))
      | _ => sBad)
    | .While t body orelse _ => (match orelse with
      | [] => sWhl (dT c n sc t) (sSeq (body.map (dS c sc n)))
      | _ => sBad)
    | _ => sBad
def dB (c : Cfg) (sc : Scope) (n : Nat) (b : List Stmt) : DS := sSeq (b.map (dS c sc n))
end Dv
/-! Dv2: what stands for what: values and data, slots and names. -/
namespace Dv
open PySem PySem.Spec PyProof.Rows L2

/-- the texts that stand for data -/
def sOk (x : Str) : Prop := x.length ≤ 12000000 ∧ PyData.strOk x = true
/-- a list that is read: tracked, known, or an object of the module, plainly told -/
def SqR (K : PySem.W.Frag) (H : Hp) (a : Addr) (xs : List V) : Prop :=
  Rd H a (.lst xs) ∨ ∃ (its : List Value) (n : Nat), K.lookup a = some { cls := .type "list", data := .seq its.toArray n } ∧ its.length ≤ sizeLine ∧ Vals xs its
theorem SqR.to {K : PySem.W.Frag} {H : Hp} {a : Addr} {xs : List V} (h : SqR K H a xs) : SqL K H a xs := by
  rcases h with h | ⟨its, n, h1, h2, h3⟩
  · exact .inl h
  · exact .inr ⟨_, its.toArray, n, h1, rfl, rfl, rfl, by rw [List.size_toArray]; exact h2, by simpa using h3⟩
theorem SqR.of {K : PySem.W.Frag} {H : Hp} {a : Addr} {xs : List V} (h : H a = some (.lst xs)) : SqR K H a xs := .inl (.inl h)
theorem SqR.mono {K : PySem.W.Frag} {H H' : Hp} {a : Addr} {xs : List V} (e : Same H H') (h : SqR K H a xs) : SqR K H' a xs := by
  rcases h with (h | ⟨o, h⟩) | h
  · exact .inl (.inl (e _ _ h))
  · exact .inl (.inr ⟨o, e _ _ h⟩)
  · exact .inr h
theorem _root_.L2.Inv.lstR {X : Cx} {pins : List (Addr × Obj)} {σ : L2.St} {H : Hp} {s : Shared} {a : Addr} {xs : List V} (I : Inv X pins σ H s) (h : SqR X.K H a xs) :
    xs.length ≤ sizeLine ∧ ∃ (its : List Value) (n : Nat), Vals xs its ∧ xs.length = its.length ∧ s.heap.get? a = some { cls := .type "list", data := .seq its.toArray n } := by
  rcases h with h | ⟨its, n, h1, h2, h3⟩
  · obtain ⟨z, its, n, r, e⟩ := h.ok I.hok
    exact ⟨z, its, n, r, r.length, e⟩
  · exact ⟨by rw [h3.length]; exact h2, its, n, h3, h3.length, I.kIn a _ h1⟩
mutual
/-- v stands for d, all of it in the part F of the heap that never changes -/
inductive Rp (K : PySem.W.Frag) (F : Hp) : V → D → Prop
  | non : Rp K F .non .none
  | bl (b : Bool) : Rp K F (.bl b) (.bool b)
  | int (i : Int) : Rp K F (.int i) (.int i)
  | str {x : Str} : sOk x → Rp K F (.str x) (.str x)
  | lst {a : Addr} {xs : List V} {ds : List D} : SqR K F a xs → Rps K F xs ds → Rp K F (.ref a) (.list ds)
  | tup {a : Addr} {xs : List V} {ds : List D} : SqT K F a xs → Rps K F xs ds → Rp K F (.ref a) (.tuple ds)
inductive Rps (K : PySem.W.Frag) (F : Hp) : List V → List D → Prop
  | nil : Rps K F [] []
  | cons {v : V} {vs : List V} {d : D} {ds : List D} : Rp K F v d → Rps K F vs ds → Rps K F (v :: vs) (d :: ds)
end
variable {K : PySem.W.Frag} {F F' F0 B H H' : Hp}
theorem same_t {K : PySem.W.Frag} {H H' : Hp} {a : Addr} {xs : List V} (e : Same H H') (h : SqT K H a xs) : SqT K H' a xs := by
  rcases h with (h | ⟨o, h⟩) | h
  · exact .inl (.inl (e _ _ h))
  · exact .inl (.inr ⟨o, e _ _ h⟩)
  · exact .inr h
mutual
theorem Rp.mono (e : Same F F') : ∀ (d : D) (v : V), Rp K F v d → Rp K F' v d
  | .none, _, h => by cases h; exact .non
  | .bool _, _, h => by cases h; exact .bl _
  | .int _, _, h => by cases h; exact .int _
  | .str _, _, h => by cases h with | str s => exact .str s
  | .list ds, _, h => by cases h with | lst s r => exact .lst (s.mono e) (Rps.mono e ds _ r)
  | .tuple ds, _, h => by cases h with | tup s r => exact .tup (same_t e s) (Rps.mono e ds _ r)
  | .dict _, _, h => by cases h
theorem Rps.mono (e : Same F F') : ∀ (ds : List D) (vs : List V), Rps K F vs ds → Rps K F' vs ds
  | [], _, h => by cases h; exact .nil
  | d :: ds, _, h => by cases h with | cons a b => exact .cons (Rp.mono e d _ a) (Rps.mono e ds _ b)
end
mutual
theorem Rp.dp (e : Same F H) : ∀ (d : D) (v : V), Rp K F v d → Dp K H v d
  | .none, _, h => by cases h; exact .non
  | .bool _, _, h => by cases h; exact .bl _
  | .int _, _, h => by cases h; exact .int _
  | .str _, _, h => by cases h; exact .str _
  | .list ds, _, h => by cases h with | lst s r => exact .lst (e.seq s.to) (Rps.dp e ds _ r)
  | .tuple ds, _, h => by cases h with | tup s r => exact .tup (same_t e s) (Rps.dp e ds _ r)
  | .dict _, _, h => by cases h
theorem Rps.dp (e : Same F H) : ∀ (ds : List D) (vs : List V), Rps K F vs ds → DpAll K H vs ds
  | [], _, h => by cases h; exact .nil
  | d :: ds, _, h => by cases h with | cons a b => exact .cons (Rp.dp e d _ a) (Rps.dp e ds _ b)
end
theorem Rps.length : ∀ {vs : List V} {ds : List D}, Rps K F vs ds → vs.length = ds.length
  | _, _, .nil => rfl
  | _, _, .cons _ t => by rw [List.length_cons, List.length_cons, Rps.length t]
theorem Rps.get : ∀ {vs : List V} {ds : List D} {i : Nat} {d : D}, Rps K F vs ds → ds[i]? = some d → ∃ v, vs[i]? = some v ∧ Rp K F v d
  | _, _, _, _, .nil, e => by simp at e
  | _, _, 0, _, .cons r _, e => by simp at e; subst e; exact ⟨_, rfl, r⟩
  | _, _, i + 1, d, .cons _ t, e => by
    obtain ⟨v, h1, h2⟩ := Rps.get (i := i) (d := d) t (by simpa using e)
    exact ⟨v, by simpa using h1, h2⟩
theorem Rps.get' {vs : List V} {ds : List D} {i : Nat} {v : V} (r : Rps K F vs ds) (e : vs[i]? = some v) : ∃ d, ds[i]? = some d ∧ Rp K F v d := by
  obtain ⟨hi, _⟩ := List.getElem?_eq_some_iff.mp e
  have hi' : i < ds.length := by rw [← r.length]; exact hi
  obtain ⟨w, e2, q⟩ := r.get (List.getElem?_eq_getElem hi')
  rw [e] at e2
  cases e2
  exact ⟨_, List.getElem?_eq_getElem hi', q⟩
theorem Rps.append : ∀ {vs ws : List V} {ds es : List D}, Rps K F vs ds → Rps K F ws es → Rps K F (vs ++ ws) (ds ++ es)
  | _, _, _, _, .nil, s => s
  | _, _, _, _, .cons r t, s => .cons r (Rps.append t s)
theorem Rps.snoc {vs : List V} {ds : List D} {v : V} {d : D} (r : Rps K F vs ds) (q : Rp K F v d) : Rps K F (vs ++ [v]) (ds ++ [d]) := r.append (.cons q .nil)
theorem Rps.take : ∀ (n : Nat) {vs : List V} {ds : List D}, Rps K F vs ds → Rps K F (vs.take n) (ds.take n)
  | 0, _, _, _ => by simp; exact .nil
  | _ + 1, _, _, .nil => by simp; exact .nil
  | n + 1, _, _, .cons r t => by rw [List.take_succ_cons, List.take_succ_cons]; exact .cons r (Rps.take n t)
theorem Rps.drop : ∀ (n : Nat) {vs : List V} {ds : List D}, Rps K F vs ds → Rps K F (vs.drop n) (ds.drop n)
  | 0, _, _, r => by simpa using r
  | _ + 1, _, _, .nil => by simp; exact .nil
  | n + 1, _, _, .cons _ t => by rw [List.drop_succ_cons, List.drop_succ_cons]; exact Rps.drop n t
theorem Rps.set : ∀ (n : Nat) {vs : List V} {ds : List D} {v : V} {d : D}, Rps K F vs ds → Rp K F v d → Rps K F (vs.set n v) (ds.set n d)
  | _, _, _, _, _, .nil, _ => .nil
  | 0, _, _, _, _, .cons _ t, q => .cons q t
  | n + 1, _, _, _, _, .cons r t, q => .cons r (Rps.set n t q)
theorem Rps.reverse {vs : List V} {ds : List D} (r : Rps K F vs ds) : Rps K F vs.reverse ds.reverse := by
  induction r using Rps.rec (motive_1 := fun _ _ _ => True) with
  | nil => exact .nil
  | cons a b _ ih => rw [List.reverse_cons, List.reverse_cons]; exact ih.snoc a
  | _ => trivial
theorem Rps.rep {vs : List V} {ds : List D} (r : Rps K F vs ds) : ∀ k : Nat, Rps K F (List.replicate k vs).flatten (List.replicate k ds).flatten
  | 0 => .nil
  | k + 1 => by
    rw [List.replicate_succ, List.replicate_succ, List.flatten_cons, List.flatten_cons]
    exact r.append (Rps.rep r k)
theorem Rps.each : ∀ {n : Nat} {vs : List V} {ds : List D}, vs.length = n → ds.length = n → (∀ (i : Nat) (v : V) (d : D), vs[i]? = some v → ds[i]? = some d → Rp K F v d) → Rps K F vs ds
  | 0, [], [], _, _, _ => .nil
  | n + 1, v :: vs, d :: ds, h1, h2, h => .cons (h 0 v d rfl rfl) (Rps.each (n := n) (by simpa using h1) (by simpa using h2) fun i w e a b => h (i + 1) w e (by simpa using a) (by simpa using b))

/-! ### shapes of values -/
theorem Rp.int_inv {v : V} {i : Int} (h : Rp K F v (.int i)) : v = .int i := by cases h; rfl
theorem Rp.bl_inv {v : V} {b : Bool} (h : Rp K F v (.bool b)) : v = .bl b := by cases h; rfl
theorem Rp.non_inv {v : V} (h : Rp K F v .none) : v = .non := by cases h; rfl
theorem Rp.str_inv {v : V} {x : Str} (h : Rp K F v (.str x)) : v = .str x ∧ sOk x := by cases h with | str s => exact ⟨rfl, s⟩

/-! ### a value that may be read: it stands in F, or it is a list of the def's own -/
def Rh (K : PySem.W.Frag) (F H : Hp) (v : V) (d : D) : Prop := Rp K F v d ∨ ∃ p xs ds, v = .ref p ∧ d = .list ds ∧ H p = some (.lst xs) ∧ Rps K F xs ds
/-- a value that is the def's own: a list at a place that neither F nor the heap at the def's entry knows; else any value -/
def Ow (K : PySem.W.Frag) (B F H : Hp) (v : V) (d : D) : Prop := match d with
  | .list ds => ∃ p xs, v = .ref p ∧ F p = none ∧ B p = none ∧ H p = some (.lst xs) ∧ Rps K F xs ds
  | d => Rp K F v d
theorem Ow.rh {v : V} {d : D} (h : Ow K B F H v d) : Rh K F H v d := by
  cases d with
  | list ds => obtain ⟨p, xs, e, _, _, a, b⟩ := h; exact .inr ⟨p, xs, ds, e, rfl, a, b⟩
  | _ => exact .inl h
theorem Rh.list_inv {v : V} {ds : List D} (FH : Same F H) (h : Rh K F H v (.list ds)) : ∃ p xs, v = .ref p ∧ SqR K H p xs ∧ Rps K F xs ds := by
  rcases h with h | ⟨p, xs, _, e, e2, a, b⟩
  · cases h with | lst s r => exact ⟨_, _, rfl, s.mono FH, r⟩
  · cases e2
    exact ⟨p, xs, e, SqR.of a, b⟩
theorem Rh.tup_inv {v : V} {ds : List D} (FH : Same F H) (h : Rh K F H v (.tuple ds)) : ∃ p xs, v = .ref p ∧ SqT K H p xs ∧ Rps K F xs ds := by
  rcases h with h | ⟨p, xs, _, e, e2, a, b⟩
  · cases h with | tup s r => exact ⟨_, _, rfl, same_t FH s, r⟩
  · cases e2
theorem Rh.int_inv {v : V} {i : Int} (h : Rh K F H v (.int i)) : v = .int i := by
  rcases h with h | ⟨p, xs, _, e, e2, a, b⟩
  · exact h.int_inv
  · cases e2
theorem Rh.bl_inv {v : V} {b : Bool} (h : Rh K F H v (.bool b)) : v = .bl b := by
  rcases h with h | ⟨p, xs, _, e, e2, _⟩
  · exact h.bl_inv
  · cases e2
theorem Rh.non_inv {v : V} (h : Rh K F H v .none) : v = .non := by
  rcases h with h | ⟨p, xs, _, e, e2, _⟩
  · exact h.non_inv
  · cases e2
theorem Rh.str_inv {v : V} {x : Str} (h : Rh K F H v (.str x)) : v = .str x ∧ sOk x := by
  rcases h with h | ⟨p, xs, _, e, e2, _⟩
  · exact h.str_inv
  · cases e2
theorem Rh.dict_inv {v : V} {kvs : List (D × D)} (h : Rh K F H v (.dict kvs)) : False := by
  rcases h with h | ⟨p, xs, _, e, e2, _⟩
  · cases h
  · cases e2
theorem Rh.mono {v : V} {d : D} (e1 : Same F F') (e2 : Same H H') (h : Rh K F H v d) : Rh K F' H' v d := by
  rcases h with h | ⟨p, xs, ds, e, e', a, b⟩
  · exact .inl (Rp.mono e1 _ _ h)
  · exact .inr ⟨p, xs, ds, e, e', e2 _ _ a, Rps.mono e1 _ _ b⟩
theorem Rh.dp {v : V} {d : D} (e : Same F H) (h : Rh K F H v d) : Dp K H v d := by
  rcases h with h | ⟨p, xs, ds, rfl, rfl, a, b⟩
  · exact Rp.dp e _ _ h
  · exact .lst (SqL.of a) (Rps.dp e _ _ b)

/-! ### freezing -/
theorem same_new {p : Addr} {o : HO} (h : H p = none) : Same H (upd H p o) := fun b x e => by
  rw [upd_ne (ne_of_none e h)]
  exact e
theorem same_upd_to {p : Addr} {o : HO} (e : Same F H) (h : H p = some o) : Same (upd F p o) H := fun b x q => by
  by_cases hb : b = p
  · subst hb; rw [upd_same] at q; cases q; exact h
  · rw [upd_ne hb] at q; exact e _ _ q
/-- F' goes on from F by what is new behind B -/
def New (B F F' : Hp) : Prop := ∀ p, F' p ≠ none → F p ≠ none ∨ B p = none
theorem New.refl (B F : Hp) : New B F F := fun _ h => .inl h
theorem New.trans {F1 F2 F3 : Hp} (a : New B F1 F2) (b : New B F2 F3) : New B F1 F3 := fun p h => by
  rcases b p h with h | h
  · exact a p h
  · exact .inr h
theorem New.upd {p : Addr} {o : HO} (h : B p = none) : New B F (upd F p o) := fun q hq => by
  by_cases e : q = p
  · subst e; exact .inr h
  · rw [upd_ne e] at hq; exact .inl hq
/-- from a later entry -/
theorem New.back {B' : Hp} (e : Same B B') (h : New B' F F') : New B F F' := fun p hp => by
  rcases h p hp with h | h
  · exact .inl h
  · exact .inr (e.free h)
theorem Ow.frz {v : V} {d : D} (FH : Same F H) (h : Ow K B F H v d) : ∃ F', Same F F' ∧ Same F' H ∧ New B F F' ∧ Rp K F' v d ∧ (∀ q, F' q ≠ none → F q ≠ none ∨ ∃ ds, d = .list ds ∧ v = .ref q) := by
  cases d with
  | list ds =>
    obtain ⟨p, xs, rfl, fp, bp, hp, r⟩ := h
    refine ⟨upd F p (.lst xs), same_new fp, same_upd_to FH hp, New.upd bp, .lst (SqR.of upd_same) (Rps.mono (same_new fp) _ _ r), fun q hq => ?_⟩
    by_cases e : q = p
    · subst e; exact .inr ⟨ds, rfl, rfl⟩
    · rw [upd_ne e] at hq; exact .inl hq
  | _ => exact ⟨F, Same.refl F, FH, New.refl _ _, h, fun q hq => .inl hq⟩

/-! ### the state of a def: F0, B the frozen part and the heap at its entry -/
def own (a : List Bool) (i : Nat) : Bool := a.getD i false
structure SI (K : PySem.W.Frag) (F0 B F H : Hp) (σ : L2.St) (a : List Bool) (δ : Env) : Prop where
  len : σ.length = δ.length
  BH : Same B H
  FH : Same F H
  F0F : Same F0 F
  new : New B F0 F
  sl : ∀ (i : Nat) (d : D), δ[i]? = some (some d) → ∃ v, σ[i]? = some (some v) ∧ (own a i = true → Ow K B F H v d) ∧ (own a i = false → Rp K F v d)
  dj : ∀ (i j : Nat) (d e : List D) (p : Addr), own a i = true → own a j = true → δ[i]? = some (some (.list d)) → δ[j]? = some (some (.list e)) → σ[i]? = some (some (.ref p)) → σ[j]? = some (some (.ref p)) → i = j
theorem Ow.mono {v : V} {d : D} (e1 : Same F F') (e2 : Same H H') (n : ∀ p, H p ≠ none → F p = none → F' p = none) (h : Ow K B F H v d) : Ow K B F' H' v d := by
  cases d with
  | list ds =>
    obtain ⟨p, xs, e, fp, bp, hp, r⟩ := h
    exact ⟨p, xs, e, n p (by rw [hp]; simp) fp, bp, e2 _ _ hp, Rps.mono e1 _ _ r⟩
  | _ => exact Rp.mono e1 _ _ h
/-- a later heap, a later frozen part, what is frozen being new -/
theorem SI.later {σ : L2.St} {a : List Bool} {δ : Env} (S : SI K F0 B F H σ a δ) (e1 : Same F F') (e2 : Same H H') (e3 : Same F' H') (n : New H F F') : SI K F0 B F' H' σ a δ where
  len := S.len
  BH := S.BH.trans e2
  FH := e3
  F0F := S.F0F.trans e1
  new := S.new.trans (n.back S.BH)
  sl := fun i d h => by
    obtain ⟨v, e, h1, h2⟩ := S.sl i d h
    refine ⟨v, e, fun o => (h1 o).mono e1 e2 fun p hp fp => ?_, fun o => Rp.mono e1 _ _ (h2 o)⟩
    cases q : F' p with
    | none => rfl
    | some o =>
      rcases n p (by rw [q]; simp) with z | z
      · exact absurd fp z
      · exact absurd z hp
  dj := S.dj
/-- the heap grows -/
theorem SI.grow {σ : L2.St} {a : List Bool} {δ : Env} (S : SI K F0 B F H σ a δ) (e2 : Same H H') : SI K F0 B F H' σ a δ := S.later (Same.refl F) e2 (S.FH.trans e2) (New.refl _ _)
theorem SI.rh {σ : L2.St} {a : List Bool} {δ : Env} (S : SI K F0 B F H σ a δ) {i : Nat} {d : D} (h : δ[i]? = some (some d)) : ∃ v, σ[i]? = some (some v) ∧ Rh K F H v d := by
  obtain ⟨v, e, h1, h2⟩ := S.sl i d h
  cases o : own a i with
  | true => exact ⟨v, e, (h1 o).rh⟩
  | false => exact ⟨v, e, .inl (h2 o)⟩
end Dv
/-! Dv3: the judgements over data; names, constants, operators, calls by values. -/
namespace Dv
open PySem PySem.Spec PyProof.Rows L2

def Ans {α : Type} (r : R α) (k : α → Prop) (e : Str → Int → Prop) : Prop := match r with
  | .ok a => k a
  | .err c i => e c i
  | .bad => False
theorem Ans.bind_iff {α β : Type} {x : R α} {f : α → R β} {k : β → Prop} {e : Str → Int → Prop} : Ans (x.bind f) k e ↔ Ans x (fun a => Ans (f a) k e) e := by
  cases x <;> exact Iff.rfl
theorem Ans.mono {α : Type} {x : R α} {k k' : α → Prop} {e e' : Str → Int → Prop} (h : Ans x k e) (hk : ∀ a, x = .ok a → k a → k' a) (he : ∀ c i, e c i → e' c i) : Ans x k' e' := by
  cases x with
  | ok a => exact hk a rfl h
  | err c i => exact he c i h
  | bad => exact h
theorem Ans.imp {α : Type} {x : R α} {k k' : α → Prop} {e : Str → Int → Prop} (h : Ans x k e) (hk : ∀ a, k a → k' a) : Ans x k' e := h.mono (fun a _ => hk a) fun _ _ q => q

/-- what is wanted of an error: at the slots and a heap of which the heap behind it is a later one -/
structure Wi where
  ew : L2.St → Hp → Str → Int → Prop
  mono : ∀ σ H H' c i, Same H H' → ew σ H c i → ew σ H' c i
/-- none is let out -/
def wi0 : Wi := ⟨fun _ _ _ _ => False, fun _ _ _ _ _ _ h => h⟩

/-- what is known of a value: it is read | the def's own | frozen | new behind H -/
def Res (K : PySem.W.Frag) (k : Nat) (B H F' H' : Hp) (v : V) (d : D) : Prop := match k with
  | 0 => Rh K F' H' v d
  | 1 => Ow K B F' H' v d
  | 2 => Rp K F' v d
  | _ => Ow K H F' H' v d
variable {K : PySem.W.Frag} {F F' F0 B H H' : Hp} {v : V} {d : D} {k : Nat}
theorem Res.rh (h : Res K k B H F' H' v d) : Rh K F' H' v d := by
  match k with
  | 0 => exact h
  | 1 => exact Ow.rh h
  | 2 => exact .inl h
  | _ + 3 => exact Ow.rh h
theorem Ow.early (e : Same B H) (h : Ow K H F' H' v d) : Ow K B F' H' v d := by
  cases d with
  | list ds => obtain ⟨p, xs, a, b, c, r⟩ := h; exact ⟨p, xs, a, b, e.free c, r⟩
  | _ => exact h

/-! ### the judgements -/
def tJ (K : PySem.W.Frag) (W : Wi) (a : List Bool) (f : DE) (k : Nat) : TE := fun σ H Q => ∃ F0 B F δ, SI K F0 B F H σ a δ ∧
  Ans (f δ) (fun d => ∀ v F' H', SI K F0 B F' H' σ a δ → Same F F' → Same H H' → New H F F' → Res K k B H F' H' v d → Q v H') (W.ew σ H)
def tJT (K : PySem.W.Frag) (W : Wi) (a : List Bool) (t : DT) : TT := fun σ H Q => ∃ F0 B F δ, SI K F0 B F H σ a δ ∧
  Ans (t δ) (fun b => ∀ F' H', SI K F0 B F' H' σ a δ → Same F F' → Same H H' → New H F F' → Q b H') (W.ew σ H)
/-- an expression, a test, arguments -/
def JE (X : Cx) (W : Wi) (a : List Bool) (e : Expr) (f : DE) (k : Nat) : Prop := PE X e (tJ X.K W a f k)
def JT (X : Cx) (W : Wi) (a : List Bool) (e : Expr) (t : DT) : Prop := PT X e (tJT X.K W a t)
theorem _root_.L2.PE.imp {X : Cx} {e : Expr} {t t' : TE} (h : PE X e t) (i : ∀ σ H Q, t' σ H Q → t σ H Q) : PE X e t' := ⟨fun pins s σ H Q I q => h.run pins s σ H Q I (i σ H Q q)⟩
theorem _root_.L2.PT.imp {X : Cx} {e : Expr} {t t' : TT} (h : PT X e t) (i : ∀ σ H Q, t' σ H Q → t σ H Q) : PT X e t' := ⟨fun pins s σ H Q I q => h.run pins s σ H Q I (i σ H Q q)⟩
theorem _root_.L2.PA.imp {X : Cx} {es : List Expr} {t t' : TA} (h : PA X es t) (i : ∀ σ H Q, t' σ H Q → t σ H Q) : PA X es t' := ⟨fun pos pins s σ H Q I q => h.run pos pins s σ H Q I (i σ H Q q)⟩
theorem _root_.L2.PS.imp {X : Cx} {st : Stmt} {t t' : TS} (h : PS X st t) (i : ∀ D σ H, t' D σ H → t D σ H) : PS X st t' := ⟨fun pins s σ H D I q => h.run pins s σ H D I (i D σ H q)⟩
theorem _root_.L2.PSs.imp {X : Cx} {st : List Stmt} {t t' : TS} (h : PSs X st t) (i : ∀ D σ H, t' D σ H → t D σ H) : PSs X st t' := ⟨fun pins s σ H D I q => h.run pins s σ H D I (i D σ H q)⟩

variable {X : Cx} {W : Wi} {a : List Bool} {e : Expr} {f : DE} {t : DT}
/-- weaker: what is new is frozen, or the def's own; what is either may be read -/
theorem JE.to0 (h : JE X W a e f k) : JE X W a e f 0 := h.imp fun σ H Q ⟨F0, B, F, δ, S, q⟩ => ⟨F0, B, F, δ, S, q.imp fun d g v F' H' S' e1 e2 n r => g v F' H' S' e1 e2 n r.rh⟩
theorem JE.to1 (h : JE X W a e f 3) : JE X W a e f 1 := h.imp fun σ H Q ⟨F0, B, F, δ, S, q⟩ => ⟨F0, B, F, δ, S, q.imp fun d g v F' H' S' e1 e2 n r => g v F' H' S' e1 e2 n (Ow.early S.BH r)⟩
/-- freezing, in a state, of what came new behind H0 -/
theorem SI.freeze {σ : L2.St} {δ : Env} {Fp H0 : Hp} (S0 : SI K F0 B Fp H0 σ a δ) (S : SI K F0 B F H σ a δ) (o : Ow K H0 F H v d) :
    ∃ F', Same F F' ∧ New H0 F F' ∧ Rp K F' v d ∧ SI K F0 B F' H σ a δ := by
  cases d with
  | list ds =>
    obtain ⟨p, xs, rfl, fp, np, hp, r⟩ := o
    have e1 : Same F (upd F p (.lst xs)) := same_new fp
    refine ⟨upd F p (.lst xs), e1, New.upd np, .lst (SqR.of upd_same) (Rps.mono e1 _ _ r), ⟨S.len, S.BH, same_upd_to S.FH hp, S.F0F.trans e1, S.new.trans (New.upd (S0.BH.free np)), fun i x h => ?_, S.dj⟩⟩
    obtain ⟨w, e, h1, h2⟩ := S.sl i x h
    refine ⟨w, e, fun o => ?_, fun o => Rp.mono e1 _ _ (h2 o)⟩
    have g := h1 o
    cases x with
    | list es =>
      obtain ⟨q, ys, rfl, fq, bq, hq, rq⟩ := g
      obtain ⟨w', e', h1', _⟩ := S0.sl i _ h
      rw [e] at e'
      cases e'
      obtain ⟨q', ys', eq, _, _, hq', _⟩ := h1' o
      cases eq
      have ne : q ≠ p := ne_of_none hq' np
      exact ⟨q, ys, rfl, by rw [upd_ne ne]; exact fq, bq, hq, Rps.mono e1 _ _ rq⟩
    | _ => exact Rp.mono e1 _ _ g
  | _ => exact ⟨F, Same.refl F, New.refl _ _, o, S⟩
theorem JE.frz (h : JE X W a e f 3) : JE X W a e f 2 := h.imp fun σ H Q ⟨F0, B, F, δ, S, q⟩ => ⟨F0, B, F, δ, S, q.imp fun d g v F' H' S' e1 e2 n r => by
  obtain ⟨F2, z1, z2, z3, z4⟩ := S.freeze S' r
  exact g v F2 H' z4 (e1.trans z1) e2 (n.trans z2) z3⟩

/-! ### names, constants -/
theorem slot_get {c : Cfg} {x : Str} {i : Nat} (h : c.slot x = some i) : c.N[i]? = some x := by
  unfold Cfg.slot at h
  obtain ⟨hi, h1, _⟩ := List.findIdx?_eq_some_iff_getElem.mp h
  rw [List.getElem?_eq_getElem hi]
  exact congrArg some (eq_of_beq h1)
theorem vis_of {sc : Scope} {x : Str} (h : vis sc x = true) : Vis sc x := by
  unfold vis at h
  split at h
  · exact .inl (by assumption)
  · exact .inr (.inl (by assumption))
  · exact .inr (.inr (by assumption))
  · cases h
theorem loc_of {sc : Scope} {x : Str} (h : loc sc x = true) : Loc sc x := by
  unfold loc at h
  split at h
  · exact .inl (by assumption)
  · exact .inr (by assumption)
  · cases h
theorem glo_of {sc : Scope} {x : Str} (h : glo sc x = true) : sc.names.lookup x = some .globalImplicit := by
  unfold glo at h
  split at h
  · assumption
  · cases h
theorem eV_ok {δ : Env} {i : Nat} {d : D} (h : eV i δ = .ok d) : δ[i]? = some (some d) := by
  unfold eV at h
  split at h
  · cases h; assumption
  · cases h
theorem Ans.eV {δ : Env} {i : Nat} {k : D → Prop} {e : Str → Int → Prop} (h : Ans (eV i δ) k e) : ∃ d, δ[i]? = some (some d) ∧ k d := by
  unfold Dv.eV at h
  split at h
  · exact ⟨_, by assumption, h⟩
  · exact h.elim
theorem je_var {i : Nat} {x : Str} {pos : Pos} (hN : X.N[i]? = some x) (hv : Vis X.env.scope x) (hd : (x == ("__debug__" : Str)) = false) (hcd : (x == ("__classdict__" : Str)) = false) :
    JE X W a (.Name x pos) (eV i) (if own a i then 1 else 2) := (pe_var hN hv hd hcd).imp fun σ H Q ⟨F0, B, F, δ, S, q⟩ => by
  obtain ⟨d, h, g⟩ := q.eV
  obtain ⟨v, e, h1, h2⟩ := S.sl i d h
  refine ⟨v, e, g v F H S (Same.refl F) (Same.refl H) (New.refl _ _) ?_⟩
  cases o : own a i with
  | true => exact h1 o
  | false => exact h2 o
theorem je_const {k : Const} {d : D} {j : Nat} {pos : Pos} (h : constD k = some d) : JE X W a (.Constant k j pos) (eC d) 3 := by
  have fin : ∀ {v : V}, (∀ F, Rp X.K F v d) → (∀ ds, d ≠ .list ds) → PE X (.Constant k j pos) (tC v) → JE X W a (.Constant k j pos) (eC d) 3 := fun {v} r nl p => p.imp fun σ H Q ⟨F0, B, F, δ, S, q⟩ =>
    q v F H S (Same.refl F) (Same.refl H) (New.refl _ _) (by
      cases d with
      | list ds => exact absurd rfl (nl ds)
      | _ => exact r F)
  cases k with
  | none => cases h; exact fin (fun _ => .non) (by intro _ q; cases q) pe_non
  | bool b => cases h; exact fin (fun _ => .bl b) (by intro _ q; cases q) pe_bl
  | int i => cases h; exact fin (fun _ => .int i) (by intro _ q; cases q) pe_int
  | str s =>
    have h : (if decide (s.length ≤ 1000) && PyData.strOk s then some (PyData.str s) else none) = some d := h
    split at h
    · rename_i hs
      cases h
      rw [Bool.and_eq_true] at hs
      refine fin (fun _ => .str ⟨?_, hs.2⟩) (by intro _ q; cases q) pe_str
      have := of_decide_eq_true hs.1
      omega
    · cases h
  | _ => cases h
theorem je_glob {x : Str} {pos : Pos} {d : D} {v : V} {u : Value} (hg : Gl X x) (hm : X.mg x = some u) (r : RelV v u) (rp : ∀ F, Rp X.K F v d) (hd : (x == ("__debug__" : Str)) = false) :
    JE X W a (.Name x pos) (eC d) 2 := (pe_glob hg hm r hd).imp fun σ H Q ⟨F0, B, F, δ, S, q⟩ => q v F H S (Same.refl F) (Same.refl H) (New.refl _ _) (rp F)

/-! ### operations by values -/
/-- a new value behind H -/
def OkV (K : PySem.W.Frag) (F H : Hp) (Q : VK) (z : D) : Prop := ∀ w F' H', Same F F' → Same H H' → Same F' H' → New H F F' → Ow K H F' H' w z → Q w H'
/-- an item of what was there -/
def OkF (K : PySem.W.Frag) (F H : Hp) (Q : VK) (z : D) : Prop := ∀ w, Rp K F w z → Q w H
def noE : Str → Int → Prop := fun _ _ => False
def r2 (K : PySem.W.Frag) (g : D → D → R D) : R2 := fun x y H Q => ∃ F d e, Same F H ∧ Rh K F H x d ∧ Rh K F H y e ∧ Ans (g d e) (OkV K F H Q) noE
def r2F (K : PySem.W.Frag) (g : D → D → R D) : R2 := fun x y H Q => ∃ F d e, Same F H ∧ Rh K F H x d ∧ Rh K F H y e ∧ Ans (g d e) (OkF K F H Q) noE
def r1 (K : PySem.W.Frag) (g : D → R D) : V → Hp → VK → Prop := fun x H Q => ∃ F d, Same F H ∧ Rh K F H x d ∧ Ans (g d) (OkV K F H Q) noE
inductive Rhs (K : PySem.W.Frag) (F H : Hp) : List V → List D → Prop
  | nil : Rhs K F H [] []
  | cons {v : V} {vs : List V} {d : D} {ds : List D} : Rh K F H v d → Rhs K F H vs ds → Rhs K F H (v :: vs) (d :: ds)
theorem Rhs.mono (e1 : Same F F') (e2 : Same H H') : ∀ {vs : List V} {ds : List D}, Rhs K F H vs ds → Rhs K F' H' vs ds
  | _, _, .nil => .nil
  | _, _, .cons r t => .cons (r.mono e1 e2) (Rhs.mono e1 e2 t)
def rN (K : PySem.W.Frag) (g : List D → R D) : List V → Hp → VK → Prop := fun xs H Q => ∃ F ds, Same F H ∧ Rhs K F H xs ds ∧ Ans (g ds) (OkV K F H Q) noE
def rNF (K : PySem.W.Frag) (g : List D → R D) : List V → Hp → VK → Prop := fun xs H Q => ∃ F ds, Same F H ∧ Rhs K F H xs ds ∧ Ans (g ds) (OkF K F H Q) noE

variable {a1 b1 : Expr} {fa fb : DE} {pos : Pos}
theorem OkV.fin {F0 B F H H1 : Hp} {σ : L2.St} {δ : Env} {Q : VK} {z : D} (S : SI K F0 B F H σ a δ) (e : Same H1 H) (q : ∀ v F' H', SI K F0 B F' H' σ a δ → Same F F' → Same H1 H' → New H F F' → Res K 3 B H1 F' H' v z → Q v H') : OkV K F H Q z :=
  fun w F' H' e1 e2 e3 n r => q w F' H' (S.later e1 e2 e3 n) e1 (e.trans e2) n (Ow.early e r)
theorem OkF.fin {F0 B F H H1 : Hp} {σ : L2.St} {δ : Env} {Q : VK} {z : D} (S : SI K F0 B F H σ a δ) (e : Same H1 H) (q : ∀ v F' H', SI K F0 B F' H' σ a δ → Same F F' → Same H1 H' → New H F F' → Res K 2 B H1 F' H' v z → Q v H') : OkF K F H Q z :=
  fun w r => q w F H S (Same.refl F) e (New.refl _ _) r
/-- two expressions, then what their values come to -/
theorem je_two {r : R2} {g : D → D → R D} {k : Nat} {ex : Expr}
    (hk : ∀ (F0 B F H H1 : Hp) (σ : L2.St) (δ : Env) (x y : V) (d e : D) (Q : VK), SI X.K F0 B F H σ a δ → Same H1 H → Rh X.K F H x d → Rh X.K F H y e →
      Ans (g d e) (fun z => ∀ v F' H', SI X.K F0 B F' H' σ a δ → Same F F' → Same H1 H' → New H F F' → Res X.K k B H1 F' H' v z → Q v H') noE → r x y H Q)
    (hp : ∀ ta tb, PE X a1 ta → PE X b1 tb → PE X ex (tOp r ta tb)) (ha : JE X W a a1 fa 0) (hb : JE X W a b1 fb 0)
    (ng : ∀ d e c i, g d e ≠ .err c i) : JE X W a ex (fun δ => (fa δ).bind fun x => (fb δ).bind fun y => g x y) k := (hp _ _ ha hb).imp fun σ H Q ⟨F0, B, F, δ, S, q⟩ => by
  rw [Ans.bind_iff] at q
  refine ⟨F0, B, F, δ, S, q.imp fun d q v F1 H1 S1 e1 e2 n1 r1 => ⟨F0, B, F1, δ, S1, ?_⟩⟩
  rw [Ans.bind_iff] at q
  refine q.mono (fun e _ q w F2 H2 S2 e3 e4 n2 r2 => ?_) fun c i z => W.mono _ _ _ _ _ e2 z
  refine hk F0 B F2 H2 H σ δ v w d e Q S2 (e2.trans e4) (Rh.mono e3 e4 r1) r2 ?_
  have nb := ng d e
  revert q nb
  cases g d e with
  | ok z => exact fun q _ v F' H' S' e5 e6 n3 r3 => q v F' H' S' (e1.trans (e3.trans e5)) e6 (n1.trans ((n2.back e2).trans (n3.back (e2.trans e4)))) r3
  | err c i => exact fun _ nb => absurd rfl (nb c i)
  | bad => exact fun q _ => q
theorem je_op {g : D → D → R D} {op : Operator} (ho : OpR X (binaryOp op) (r2 X.K g)) (ha : JE X W a a1 fa 0) (hb : JE X W a b1 fb 0) (ng : ∀ d e c i, g d e ≠ .err c i) :
    JE X W a (.BinOp a1 op b1 pos) (fun δ => (fa δ).bind fun x => (fb δ).bind fun y => g x y) 3 :=
  je_two (fun F0 B F H H1 σ δ x y d e Q S e1 rx ry q => ⟨F, d, e, S.FH, rx, ry, q.imp fun z q => OkV.fin S e1 q⟩) (fun _ _ p q => pe_op ho p q) ha hb ng
theorem je_ix {g : D → D → R D} (ho : IxR X (r2F X.K g)) (hs : PlainIx b1) (ha : JE X W a a1 fa 0) (hb : JE X W a b1 fb 0) (ng : ∀ d e c i, g d e ≠ .err c i) :
    JE X W a (.Subscript a1 b1 pos) (fun δ => (fa δ).bind fun x => (fb δ).bind fun y => g x y) 2 :=
  je_two (fun F0 B F H H1 σ δ x y d e Q S e1 rx ry q => ⟨F, d, e, S.FH, rx, ry, q.imp fun z q => OkF.fin S e1 q⟩) (fun _ _ p q => pe_ix ho p q hs) ha hb ng
/-- one expression, then what its value comes to -/
theorem je_one {r : V → Hp → VK → Prop} {g : D → R D} {k : Nat} {ex : Expr}
    (hk : ∀ (F0 B F H H1 : Hp) (σ : L2.St) (δ : Env) (x : V) (d : D) (Q : VK), SI X.K F0 B F H σ a δ → Same H1 H → Rh X.K F H x d →
      Ans (g d) (fun z => ∀ v F' H', SI X.K F0 B F' H' σ a δ → Same F F' → Same H1 H' → New H F F' → Res X.K k B H1 F' H' v z → Q v H') noE → r x H Q)
    (hp : ∀ ta, PE X a1 ta → PE X ex (fun σ H Q => ta σ H fun x H1 => r x H1 Q)) (ha : JE X W a a1 fa 0)
    (ng : ∀ d c i, g d ≠ .err c i) : JE X W a ex (fun δ => (fa δ).bind g) k := (hp _ ha).imp fun σ H Q ⟨F0, B, F, δ, S, q⟩ => by
  rw [Ans.bind_iff] at q
  refine ⟨F0, B, F, δ, S, q.imp fun d q v F1 H1 S1 e1 e2 n1 r1 => ?_⟩
  refine hk F0 B F1 H1 H σ δ v d Q S1 e2 r1 ?_
  have nb := ng d
  revert q nb
  cases g d with
  | ok z => exact fun q _ v F' H' S' e5 e6 n3 r3 => q v F' H' S' (e1.trans e5) e6 (n1.trans (n3.back e2)) r3
  | err c i => exact fun _ nb => absurd rfl (nb c i)
  | bad => exact fun q _ => q
theorem je_un {g : D → R D} {op : UnaryOp} (ho : UnR X (unaryOp op) (r1 X.K g)) (ha : JE X W a a1 fa 0) (ng : ∀ d c i, g d ≠ .err c i) : JE X W a (.UnaryOp op a1 pos) (fun δ => (fa δ).bind g) 3 :=
  je_one (fun F0 B F H H1 σ δ x d Q S e1 rx q => ⟨F, d, S.FH, rx, q.imp fun z q => OkV.fin S e1 q⟩) (fun _ p => pe_un ho p) ha ng

/-! ### argument lists -/
/-- all frozen | all readable -/
def tJA (K : PySem.W.Frag) (W : Wi) (a : List Bool) (fs : List DE) (P : Hp → Hp → List V → List D → Prop) : TA := fun σ H Q => ∃ F0 B F δ, SI K F0 B F H σ a δ ∧
  Ans (evs fs δ) (fun ds => ∀ vs F' H', SI K F0 B F' H' σ a δ → Same F F' → Same H H' → New H F F' → P F' H' vs ds → Q vs H') (W.ew σ H)
def JA (X : Cx) (W : Wi) (a : List Bool) (es : List Expr) (fs : List DE) : Prop := PA X es (tJA X.K W a fs fun F _ vs ds => Rps X.K F vs ds)
def JR (X : Cx) (W : Wi) (a : List Bool) (es : List Expr) (fs : List DE) : Prop := PA X es (tJA X.K W a fs fun F H vs ds => Rhs X.K F H vs ds)
theorem evs_len : ∀ (fs : List DE) (δ : Env) (ds : List D), evs fs δ = .ok ds → ds.length = fs.length
  | [], _, _, h => by cases h; rfl
  | f :: fs, δ, ds, h => by
    unfold evs at h
    obtain ⟨x, _, h⟩ := R.bind_eq_ok h
    obtain ⟨xs, h2, h⟩ := R.bind_eq_ok h
    cases h
    rw [List.length_cons, List.length_cons, evs_len fs δ xs h2]
theorem ja_nil : JA X W a [] [] := PA.imp pa_nil fun σ H Q ⟨F0, B, F, δ, S, q⟩ => q [] F H S (Same.refl F) (Same.refl H) (New.refl _ _) .nil
theorem jr_nil : JR X W a [] [] := PA.imp pa_nil fun σ H Q ⟨F0, B, F, δ, S, q⟩ => q [] F H S (Same.refl F) (Same.refl H) (New.refl _ _) .nil
theorem ja_cons {es : List Expr} {fs : List DE} (h : JE X W a e f 2) (t : JA X W a es fs) (hs : starEach (e :: es) X.env = (false, eval e X.env) :: starEach es X.env) : JA X W a (e :: es) (f :: fs) :=
  PA.imp (pa_cons h t hs) fun σ H Q ⟨F0, B, F, δ, S, q⟩ => by
    unfold evs at q
    rw [Ans.bind_iff] at q
    refine ⟨F0, B, F, δ, S, q.imp fun d q v F1 H1 S1 e1 e2 n1 r1 => ⟨F0, B, F1, δ, S1, ?_⟩⟩
    rw [Ans.bind_iff] at q
    exact q.mono (fun ds _ q vs F2 H2 S2 e3 e4 n2 r2 => q (v :: vs) F2 H2 S2 (e1.trans e3) (e2.trans e4) (n1.trans (n2.back e2)) (.cons (Rp.mono e3 _ _ r1) r2)) fun c i z => W.mono _ _ _ _ _ e2 z
theorem jr_cons {es : List Expr} {fs : List DE} (h : JE X W a e f 0) (t : JR X W a es fs) (hs : starEach (e :: es) X.env = (false, eval e X.env) :: starEach es X.env) : JR X W a (e :: es) (f :: fs) :=
  PA.imp (pa_cons h t hs) fun σ H Q ⟨F0, B, F, δ, S, q⟩ => by
    unfold evs at q
    rw [Ans.bind_iff] at q
    refine ⟨F0, B, F, δ, S, q.imp fun d q v F1 H1 S1 e1 e2 n1 r1 => ⟨F0, B, F1, δ, S1, ?_⟩⟩
    rw [Ans.bind_iff] at q
    exact q.mono (fun ds _ q vs F2 H2 S2 e3 e4 n2 r2 => q (v :: vs) F2 H2 S2 (e1.trans e3) (e2.trans e4) (n1.trans (n2.back e2)) (.cons (Rh.mono e3 e4 r1) r2)) fun c i z => W.mono _ _ _ _ _ e2 z
theorem je_list {es : List Expr} {fs : List DE} (h : JA X W a es fs) (hl : fs.length ≤ 100000) : JE X W a (.List es pos) (eLst fs) 3 := (pe_lst h).imp fun σ H Q ⟨F0, B, F, δ, S, q⟩ => by
  unfold eLst at q
  rw [Ans.bind_iff] at q
  refine ⟨F0, B, F, δ, S, q.mono (fun ds eq q vs F1 H1 S1 e1 e2 n1 r1 => ⟨?_, fun p hp => ?_⟩) fun _ _ z => z⟩
  · rw [r1.length, evs_len fs δ ds eq]
    exact Nat.le_trans hl (by decide)
  · have fp : F1 p = none := S1.FH.free hp
    have g := same_new (o := .lst vs) hp
    exact q (.ref p) F1 (upd H1 p (.lst vs)) (S1.grow g) e1 (e2.trans g) n1 ⟨p, vs, rfl, fp, e2.free hp, upd_same, r1⟩
theorem je_tup {es : List Expr} {fs : List DE} {j : Nat} (h : JA X W a es fs) (hl : fs.length ≤ 100000) : JE X W a (.Tuple es j pos) (eTup fs) 3 := (pe_tup h).imp fun σ H Q ⟨F0, B, F, δ, S, q⟩ => by
  unfold eTup at q
  rw [Ans.bind_iff] at q
  refine ⟨F0, B, F, δ, S, q.mono (fun ds eq q vs F1 H1 S1 e1 e2 n1 r1 => ⟨?_, fun p hp => ?_⟩) fun _ _ z => z⟩
  · rw [r1.length, evs_len fs δ ds eq]
    exact Nat.le_trans hl (by decide)
  · have fp : F1 p = none := S1.FH.free hp
    have g := same_new (o := .tup vs) hp
    have g1 := same_new (o := .tup vs) fp
    refine q (.ref p) (upd F1 p (.tup vs)) (upd H1 p (.tup vs)) (S1.later g1 g (same_upd_to (S1.FH.trans g) upd_same) (New.upd hp)) (e1.trans g1) (e2.trans g) (n1.trans (New.upd (e2.free hp))) ?_
    exact Rp.tup (SqT.of upd_same) (Rps.mono g1 _ _ r1)
end Dv
/-! Dv4: operators over data. -/
namespace Dv
open PySem PySem.Spec PyProof.Rows L2
variable {K : PySem.W.Frag} {F F' F0 B H H' : Hp} {v : V} {d : D} {k : Nat}

/-! ### few levels, no dict -/
mutual
theorem Rp.lay : ∀ (d : D) (v : V), Rp K F v d → d.canLay0 = true
  | .none, _, _ => by simp only [PyData.canLay0]
  | .bool _, _, _ => by simp only [PyData.canLay0]
  | .int _, _, _ => by simp only [PyData.canLay0]
  | .str x, _, h => by cases h with | str s => simpa only [PyData.canLay0] using s.2
  | .list ds, _, h => by cases h with | lst _ r => simpa only [PyData.canLay0] using Rps.lay ds _ r
  | .tuple ds, _, h => by cases h with | tup _ r => simpa only [PyData.canLay0] using Rps.lay ds _ r
  | .dict _, _, h => by cases h
theorem Rps.lay : ∀ (ds : List D) (vs : List V), Rps K F vs ds → PyData.canLayAll0 ds = true
  | [], _, _ => by simp only [PyData.canLayAll0]
  | d :: ds, _, h => by cases h with | cons a b => simp only [PyData.canLayAll0, Rp.lay d _ a, Rps.lay ds _ b, Bool.and_self]
end
theorem Rh.lay {v : V} {d : D} (h : Rh K F H v d) : d.canLay0 = true := by
  rcases h with h | ⟨p, xs, ds, rfl, rfl, a, b⟩
  · exact Rp.lay _ _ h
  · simpa only [PyData.canLay0] using Rps.lay ds _ b
theorem fl_depth : ∀ (n : Nat) (d : D), fl n d = true → d.depth ≤ n := by
  intro n
  induction n with
  | zero =>
    intro d h
    cases d <;> first | (simp only [PyData.depth]; exact Nat.le_refl _) | (simp [fl] at h)
  | succ n ih =>
    have all : ∀ (xs : List D), xs.all (fl n) = true → PyData.depthAll xs ≤ n := by
      intro xs
      induction xs with
      | nil => intro _; simp only [PyData.depthAll]; exact Nat.zero_le _
      | cons x xs ih2 =>
        intro h
        rw [List.all_cons, Bool.and_eq_true] at h
        simp only [PyData.depthAll]
        exact Nat.max_le.mpr ⟨ih x h.1, ih2 h.2⟩
    intro d h
    cases d with
    | list xs => simp only [fl] at h; simp only [PyData.depth]; exact Nat.succ_le_succ (all xs h)
    | tuple xs => simp only [fl] at h; simp only [PyData.depth]; exact Nat.succ_le_succ (all xs h)
    | dict kvs => simp [fl] at h
    | _ => simp only [PyData.depth]; exact Nat.zero_le _
theorem deep_depth {d : D} (h : fl deep d = true) : d.depth ≤ 64 := Nat.le_trans (fl_depth _ _ h) (by decide)
theorem shaped_of {d : D} (h : fl deep d = true) (hv : Rh K F H v d) : SeqAt.shaped d = true := by
  unfold SeqAt.shaped
  rw [hv.lay, Bool.true_and]
  exact decide_eq_true (deep_depth h)

section
variable {X : Cx} {pins : List (Addr × Obj)} {σ : L2.St} {s : Shared} {Q : VK}
theorem Ans.if_bad {α : Type} {c : Prop} [Decidable c] {x : α} {k : α → Prop} {e : Str → Int → Prop} (h : Ans (if c then .ok x else .bad) k e) : c ∧ k x := by
  by_cases hc : c
  · rw [if_pos hc] at h; exact ⟨hc, h⟩
  · rw [if_neg hc] at h; exact h.elim
theorem okInt {F : Hp} {z : Int} (FH : Same F H) (q : OkV K F H Q (.int z)) : Q (.int z) H := q _ F H (Same.refl F) (Same.refl H) FH (New.refl _ _) (Rp.int z)
theorem okBl {F : Hp} {z : Bool} (FH : Same F H) (q : OkV K F H Q (.bool z)) : Q (.bl z) H := q _ F H (Same.refl F) (Same.refl H) FH (New.refl _ _) (Rp.bl z)
theorem okStr {F : Hp} {z : Str} (FH : Same F H) (z2 : sOk z) (q : OkV K F H Q (.str z)) : Q (.str z) H := q _ F H (Same.refl F) (Same.refl H) FH (New.refl _ _) (Rp.str z2)
theorem okNon {F : Hp} (FH : Same F H) (q : OkV K F H Q .none) : Q .non H := q _ F H (Same.refl F) (Same.refl H) FH (New.refl _ _) Rp.non
theorem okLst {F : Hp} {p : Addr} {vs : List V} {ds : List D} (FH : Same F H) (np : H p = none) (r : Rps K F vs ds) (q : OkV K F H Q (.list ds)) : Q (.ref p) (upd H p (.lst vs)) :=
  q _ F _ (Same.refl F) (same_new np) (FH.trans (same_new np)) (New.refl _ _) ⟨p, vs, rfl, FH.free np, np, upd_same, r⟩
theorem okTup {F : Hp} {p : Addr} {vs : List V} {ds : List D} (FH : Same F H) (np : H p = none) (r : Rps K F vs ds) (q : OkV K F H Q (.tuple ds)) : Q (.ref p) (upd H p (.tup vs)) := by
  have g := same_new (o := .tup vs) np
  have g1 := same_new (o := .tup vs) (FH.free np)
  exact q _ (upd F p (.tup vs)) _ g1 g (same_upd_to (FH.trans g) upd_same) (New.upd np) (Rp.tup (SqT.of upd_same) (Rps.mono g1 _ _ r))
/-- a tuple that stands already -/
theorem okTupOld {F : Hp} {p : Addr} {vs : List V} {ds : List D} (FH : Same F H) (t : SqT K H p vs) (ds0 : List D) (h : Rh K F H (.ref p) (.tuple ds0)) (e : ds = ds0) (q : OkV K F H Q (.tuple ds)) : Q (.ref p) H := by
  subst e
  rcases h with h | ⟨_, _, _, _, e2, _⟩
  · exact q _ F H (Same.refl F) (Same.refl H) FH (New.refl _ _) h
  · cases e2
theorem strOk_app {x y : Str} (hx : PyData.strOk x = true) (hy : PyData.strOk y = true) : PyData.strOk (x ++ y) = true := by
  unfold PyData.strOk at *
  show (x.cps ++ y.cps).all _ = true
  rw [Array.all_append, hx, hy]
  rfl
theorem len_app (x y : Str) : (x ++ y).length = x.length + y.length := by
  show (x.cps ++ y.cps).size = _
  rw [Array.size_append]
  rfl
theorem cat_list {l b : Addr} {xs zs : List V} {v u : Value} (I : Inv X pins σ H s) (h1 : SqR X.K H l xs) (h2 : SqR X.K H b zs) (rx : RelV (.ref l) v) (ry : RelV (.ref b) u) (hz : xs.length + zs.length ≤ sizeLine)
    (q : ∀ p, H p = none → Q (.ref p) (upd H p (.lst (xs ++ zs)))) : wpAny (model X.prog X.w) X.A (binaryOp .Add v u) (EP X pins σ Q) X.xe s := by
  cases rx
  cases ry
  obtain ⟨z, its, n, r, hl, e⟩ := I.lstR h1
  obtain ⟨z2, its2, n2, r2, hl2, e2⟩ := I.lstR h2
  refine PySem.P.add_list e e2 ?_ (by rw [List.size_toArray, List.size_toArray]; omega)
  rw [show its.toArray ++ its2.toArray = (its ++ its2).toArray from by simp]
  exact ⟨.ref _, _, I.lnew (t' := s.toks) (r.append r2) (by rw [List.length_append]; omega), rfl, q _ I.fresh⟩
theorem HandS_catA {a b : Addr} {xs ys : List V} {v u : Value} (I : Inv X pins σ H s) (h1 : SqT X.K H a xs) (h2 : SqT X.K H b ys) (rx : RelV (.ref a) v) (ry : RelV (.ref b) u) (hz : xs.length + ys.length ≤ sizeLine)
    (q0 : xs = [] → Q (.ref b) H) (q1 : xs ≠ [] → ys = [] → Q (.ref a) H) (q2 : xs ≠ [] → ys ≠ [] → ∀ p, H p = none → Q (.ref p) (upd H p (.tup (xs ++ ys)))) :
    wpAny (model X.prog X.w) X.A (binaryOp .Add v u) (EP X pins σ Q) X.xe s := op_catA pins s σ H _ _ v u Q I rx ry ⟨a, b, xs, ys, rfl, rfl, h1, h2, hz, q0, q1, q2⟩
theorem isNon {F : Hp} {x : V} {d : D} (h : Rh K F H x d) : decide (x = V.non) = isNone d := by
  rcases h with h | ⟨p, xs, ds, rfl, rfl, _, _⟩
  · cases h <;> rfl
  · rfl
theorem line_of {n : Nat} (h : n ≤ lim) : n ≤ sizeLine := Nat.le_trans h (by decide)
theorem o_add : OpR X (binaryOp .Add) (r2 X.K addD) := by
  intro pins s σ H x y v u Q I rx ry ⟨F, d, e, FH, hx, hy, q⟩
  unfold addD at q
  split at q
  · rw [hx.int_inv] at rx; rw [hy.int_inv] at ry
    exact op_add pins s σ H _ _ v u Q I rx ry ⟨_, _, rfl, rfl, okInt FH q⟩
  · obtain ⟨e1, s1⟩ := hx.str_inv
    obtain ⟨e2, s2⟩ := hy.str_inv
    rw [e1] at rx; rw [e2] at ry
    obtain ⟨hc, q⟩ := q.if_bad
    refine op_add_str pins s σ H _ _ v u Q I rx ry ⟨_, _, rfl, rfl, line_of hc, okStr FH ⟨?_, strOk_app s1.2 s2.2⟩ q⟩
    rw [len_app]
    unfold lim at hc
    omega
  · obtain ⟨p, xs, e1, h1, w1⟩ := hx.list_inv FH
    obtain ⟨p', xs', e2, h2, w2⟩ := hy.list_inv FH
    subst e1 e2
    obtain ⟨hc, q⟩ := q.if_bad
    exact cat_list I h1 h2 rx ry (by rw [w1.length, w2.length]; exact line_of hc) fun p np => okLst FH np (w1.append w2) q
  · obtain ⟨p, xs, e1, h1, w1⟩ := hx.tup_inv FH
    obtain ⟨p', xs', e2, h2, w2⟩ := hy.tup_inv FH
    subst e1 e2
    obtain ⟨hc, q⟩ := q.if_bad
    refine HandS_catA I h1 h2 rx ry (by rw [w1.length, w2.length]; exact line_of hc) (fun e => ?_) (fun _ e => ?_) fun _ _ p np => okTup FH np (w1.append w2) q
    · subst e; cases w1; exact okTupOld FH h2 _ hy (by simp) q
    · subst e; cases w2; exact okTupOld FH h1 _ hx (by simp) q
  · exact q.elim
theorem o_sub : OpR X (binaryOp .Sub) (r2 X.K subD) := by
  intro pins s σ H x y v u Q I rx ry ⟨F, d, e, FH, hx, hy, q⟩
  unfold subD at q
  split at q
  · rw [hx.int_inv] at rx; rw [hy.int_inv] at ry
    exact op_sub pins s σ H _ _ v u Q I rx ry ⟨_, _, rfl, rfl, okInt FH q⟩
  · exact q.elim
theorem o_div : OpR X (binaryOp .FloorDiv) (r2 X.K divD) := by
  intro pins s σ H x y v u Q I rx ry ⟨F, d, e, FH, hx, hy, q⟩
  unfold divD at q
  split at q
  · rw [hx.int_inv] at rx; rw [hy.int_inv] at ry
    obtain ⟨hc, q⟩ := q.if_bad
    exact op_fdiv pins s σ H _ _ v u Q I rx ry ⟨_, _, rfl, rfl, hc, okInt FH q⟩
  · exact q.elim
theorem o_mod : OpR X (binaryOp .Mod) (r2 X.K modD) := by
  intro pins s σ H x y v u Q I rx ry ⟨F, d, e, FH, hx, hy, q⟩
  unfold modD at q
  split at q
  · rw [hx.int_inv] at rx; rw [hy.int_inv] at ry
    obtain ⟨hc, q⟩ := q.if_bad
    exact op_mod pins s σ H _ _ v u Q I rx ry ⟨_, _, rfl, rfl, hc, okInt FH q⟩
  · exact q.elim
theorem o_pow : OpR X (binaryOp .Pow) (r2 X.K powD) := by
  intro pins s σ H x y v u Q I rx ry ⟨F, d, e, FH, hx, hy, q⟩
  unfold powD at q
  split at q
  · rw [hx.int_inv] at rx; rw [hy.int_inv] at ry
    obtain ⟨hc, q⟩ := q.if_bad
    exact op_pow pins s σ H _ _ v u Q I rx ry ⟨_, _, rfl, rfl, ⟨hc.1, by omega, hc.2.2⟩, okInt FH q⟩
  · exact q.elim
theorem small_of {i : Int} (h : small i = true) : -(2 ^ 64) < i ∧ i < 2 ^ 64 := of_decide_eq_true h
theorem rep_list {l : Addr} {xs : List V} {kk : Int} {v u : Value} (I : Inv X pins σ H s) (h1 : SqR X.K H l xs) (rx : RelV (.ref l) v) (ry : RelV (.int kk) u) (b1 : -(2 ^ 63) ≤ kk) (b2 : kk < 2 ^ 63) (hz : xs.length * kk.toNat ≤ sizeLine)
    (q : ∀ p, H p = none → Q (.ref p) (upd H p (.lst (List.replicate kk.toNat xs).flatten))) : wpAny (model X.prog X.w) X.A (binaryOp .Mult v u) (EP X pins σ Q) X.xe s := by
  cases rx
  obtain ⟨t, rfl⟩ := ry
  obtain ⟨z, its, n, r, hl, e⟩ := I.lstR h1
  have hlen : its.toArray.size * kk.toNat ≤ sizeLine := by rw [List.size_toArray, ← hl]; exact hz
  have hcap : ¬ its.toArray.size * kk.toNat > (2 ^ 63 - 1) / 8 := by
    have w1 : (sizeLine : Nat) ≤ (2 ^ 63 - 1) / 8 := by decide
    omega
  have hfit : ¬ (!Builtin.List.listFitsIndex kk) = true := by
    rw [fitsIndex_both b1 b2]
    exact Bool.false_ne_true
  have hlong : ¬ Builtin.List.listTooLong (its.toArray.size * kk.toNat) = true := by
    rw [notLongL hlen]
    exact Bool.false_ne_true
  have f0 : ∀ m : Nat, List.foldl (fun a b => a ++ b) #[] (List.replicate m its.toArray) = (List.replicate m its).flatten.toArray := fun m => by
    have w2 := foldl_rep its m []
    rw [List.nil_append] at w2
    exact w2
  have hnew : List.foldl (fun a b => a ++ b) #[] (List.replicate (if its.toArray.isEmpty = true then 0 else kk.toNat) its.toArray) = (List.replicate kk.toNat its).flatten.toArray := by
    rw [f0]
    cases its with
    | nil => simp
    | cons a r' => rw [if_neg (by simp)]
  refine wpAny_binaryOp_repeat_ref (T := "list") (U := "int") (by decide) ⟨_, e, rfl⟩ (fun s' => typeIs_int s' kk t) noFill_list_mul F.fills_int_mul F.slot_int_rmul repeat_list F.slot_int_index.lookup ?_
  refine call_meets F.slot_int_rmul (typeIs_int s kk t) F.entry_int_rmul (F.args_int_rmul_2 _ _) (int___rmul___int_list kk t l its.toArray n) ⟨e, rfl, ⟨_, e, rfl⟩, ?_⟩
  refine call_meets F.slot_list_mul ⟨_, e, rfl⟩ F.entry_list_mul (F.args_list_mul_2 _ _) (AutoListH.list___mul___list_int_3 l its.toArray n kk t hfit hcap hlong) ⟨e, ?_⟩
  rw [hnew]
  exact ⟨.ref _, _, I.lnew (t' := s.toks) (r.rep kk.toNat) (by rw [PyProof.Rows.lm_len_rep_flat, Nat.mul_comm]; exact hz), rfl, q _ I.fresh⟩
theorem u_neg : UnR X (unaryOp .USub) (r1 X.K negD) := by
  intro pins s σ H x v Q I rx ⟨F, d, FH, hx, q⟩
  unfold negD at q
  split at q
  · rw [hx.int_inv] at rx
    exact un_neg pins s σ H _ v Q I rx ⟨_, rfl, okInt FH q⟩
  · exact q.elim

/-! ### comparisons -/
def r2B (K : PySem.W.Frag) (g : D → D → R Bool) : R2 := fun x y H Q => ∃ F d e, Same F H ∧ Rh K F H x d ∧ Rh K F H y e ∧ Ans (g d e) (fun b => Q (.bl b) H) noE
theorem dpr {u : Value} (I : Inv X pins σ H s) (FH : Same F H) (h : Rh X.K F H v d) (r : RelV v u) : ∃ as, Reads s.heap u d as := Dp.reads I d v u (h.dp FH) r
theorem units64 (hr : Room k X.A) : X.A.units + 64 < cLine := hr.units
theorem c_eq (hr : Room k X.A) : OpR X (compareOp .Eq) (r2B X.K eqD) := by
  intro pins s σ H x y v u Q I rx ry ⟨F, d, e, FH, hx, hy, q⟩
  obtain ⟨hc, q⟩ := q.if_bad
  rw [Bool.and_eq_true] at hc
  obtain ⟨as, r1⟩ := dpr I FH hx rx
  obtain ⟨bs, r2⟩ := dpr I FH hy ry
  exact SeqAt.compareEq_shaped r1 r2 (shaped_of hc.1 hx) (shaped_of hc.2 hy) hr.units ⟨.bl _, H, I, rfl, q⟩
theorem Ans.rnot {r : R Bool} {k : Bool → Prop} {e : Str → Int → Prop} (h : Ans (Dv.rnot r) k e) : Ans r (fun b => k (!b)) e := by
  cases r <;> exact h
theorem c_ne (hr : Room k X.A) : OpR X (compareOp .NotEq) (r2B X.K fun x y => rnot (eqD x y)) := by
  intro pins s σ H x y v u Q I rx ry ⟨F, d, e, FH, hx, hy, q⟩
  obtain ⟨hc, q⟩ := q.rnot.if_bad
  rw [Bool.and_eq_true] at hc
  obtain ⟨as, r1⟩ := dpr I FH hx rx
  obtain ⟨bs, r2⟩ := dpr I FH hy ry
  exact SeqAt.compareNe_shaped r1 r2 (shaped_of hc.1 hx) (shaped_of hc.2 hy) hr.units ⟨.bl _, H, I, rfl, q⟩
theorem room_min (hr : Room k X.A) {d e : D} (h : fl deep d = true) : X.A.units + min d.depth e.depth < cLine := by
  have h1 := deep_depth h
  have h2 : min d.depth e.depth ≤ d.depth := Nat.min_le_left _ _
  have h3 := hr.units
  omega
theorem alike_int (i j : Int) : PySem.W.alike (.int i) (.int j) = true := by simp [PySem.W.alike]
theorem alike_str (i j : Str) : PySem.W.alike (.str i) (.str j) = true := by simp [PySem.W.alike]
theorem lt_cases {d e : D} {kk : Bool → Prop} (q : Ans (ltD d e) kk noE) : PySem.W.alike d e = true ∧ fl deep d = true ∧ d ≠ .none ∧ kk (PySem.W.dataLt d e) := by
  unfold ltD at q
  split at q
  · exact ⟨alike_int _ _, rfl, by simp, by rw [PySem.W.dataLt_int]; exact q⟩
  · exact ⟨alike_str _ _, rfl, by simp, by rw [PySem.W.dataLt_str]; exact q⟩
  · obtain ⟨hc, q⟩ := q.if_bad
    rw [Bool.and_eq_true, Bool.and_eq_true] at hc
    exact ⟨hc.1.1, hc.1.2, by simp, q⟩
  · obtain ⟨hc, q⟩ := q.if_bad
    rw [Bool.and_eq_true, Bool.and_eq_true] at hc
    exact ⟨hc.1.1, hc.1.2, by simp, q⟩
  · exact q.elim
theorem le_cases {d e : D} {kk : Bool → Prop} (q : Ans (leD d e) kk noE) : PySem.W.alike d e = true ∧ fl deep d = true ∧ fl deep e = true ∧ d ≠ .none ∧ e ≠ .none ∧ kk (!PySem.W.dataLt e d) := by
  unfold leD at q
  split at q
  · refine ⟨alike_int _ _, rfl, rfl, by simp, by simp, ?_⟩
    rw [PySem.W.dataLt_int, PySem.W.not_lt_int]; exact q
  · refine ⟨alike_str _ _, rfl, rfl, by simp, by simp, ?_⟩
    rw [PySem.W.dataLt_str, PySem.W.not_lt_str]; exact q
  · obtain ⟨hc, q⟩ := q.if_bad
    rw [Bool.and_eq_true, Bool.and_eq_true] at hc
    exact ⟨hc.1.1, hc.1.2, hc.2, by simp, by simp, q⟩
  · obtain ⟨hc, q⟩ := q.if_bad
    rw [Bool.and_eq_true, Bool.and_eq_true] at hc
    exact ⟨hc.1.1, hc.1.2, hc.2, by simp, by simp, q⟩
  · exact q.elim
mutual
theorem alike_symm : ∀ d e : D, PySem.W.alike d e = true → PySem.W.alike e d = true
  | .none, e, h => by cases e <;> simp_all [PySem.W.alike]
  | .bool _, e, h => by cases e <;> simp_all [PySem.W.alike]
  | .int _, e, h => by cases e <;> simp_all [PySem.W.alike]
  | .str _, e, h => by cases e <;> simp_all [PySem.W.alike]
  | .list xs, e, h => by
    cases e with
    | list ys => simp only [PySem.W.alike] at *; exact alikeAll_symm xs ys h
    | _ => simp [PySem.W.alike] at h
  | .tuple xs, e, h => by
    cases e with
    | tuple ys => simp only [PySem.W.alike] at *; exact alikeAll_symm xs ys h
    | _ => simp [PySem.W.alike] at h
  | .dict _, e, h => by cases e <;> simp [PySem.W.alike] at h
theorem alikeAll_symm : ∀ xs ys : List D, PySem.W.alikeAll xs ys = true → PySem.W.alikeAll ys xs = true
  | [], ys, _ => by cases ys <;> simp [PySem.W.alikeAll]
  | x :: xs, [], _ => by simp [PySem.W.alikeAll]
  | x :: xs, y :: ys, h => by
    simp only [PySem.W.alikeAll, Bool.and_eq_true] at *
    exact ⟨alike_symm x y h.1, alikeAll_symm xs ys h.2⟩
end
theorem c_lt (hr : Room k X.A) : OpR X (compareOp .Lt) (r2B X.K ltD) := by
  intro pins s σ H x y v u Q I rx ry ⟨F, d, e, FH, hx, hy, q⟩
  obtain ⟨as, r1⟩ := dpr I FH hx rx
  obtain ⟨bs, r2⟩ := dpr I FH hy ry
  obtain ⟨h1, h2, h3, q⟩ := lt_cases q
  exact PySem.W.lt_data r1 r2 h1 h3 (room_min hr h2) ⟨.bl _, H, I, rfl, q⟩
theorem c_gt (hr : Room k X.A) : OpR X (compareOp .Gt) (r2B X.K fun x y => ltD y x) := by
  intro pins s σ H x y v u Q I rx ry ⟨F, d, e, FH, hx, hy, q⟩
  obtain ⟨as, r1⟩ := dpr I FH hx rx
  obtain ⟨bs, r2⟩ := dpr I FH hy ry
  obtain ⟨h1, h2, h3, q⟩ := lt_cases q
  refine PySem.W.gt_data r1 r2 (alike_symm _ _ h1) (fun z => ?_) (by rw [Nat.min_comm]; exact room_min hr h2) ⟨.bl _, H, I, rfl, q⟩
  subst z
  cases e <;> first | exact absurd rfl h3 | simp [PySem.W.alike] at h1
theorem c_le (hr : Room k X.A) : OpR X (compareOp .LtE) (r2B X.K leD) := by
  intro pins s σ H x y v u Q I rx ry ⟨F, d, e, FH, hx, hy, q⟩
  obtain ⟨as, r1⟩ := dpr I FH hx rx
  obtain ⟨bs, r2⟩ := dpr I FH hy ry
  obtain ⟨h1, h2, h3, h4, h5, q⟩ := le_cases q
  exact PySem.W.le_data r1 r2 h1 h4 (room_min hr h2) ⟨.bl _, H, I, rfl, q⟩
theorem c_ge (hr : Room k X.A) : OpR X (compareOp .GtE) (r2B X.K fun x y => leD y x) := by
  intro pins s σ H x y v u Q I rx ry ⟨F, d, e, FH, hx, hy, q⟩
  obtain ⟨as, r1⟩ := dpr I FH hx rx
  obtain ⟨bs, r2⟩ := dpr I FH hy ry
  obtain ⟨h1, h2, h3, h4, h5, q⟩ := le_cases q
  exact PySem.W.ge_data r1 r2 (alike_symm _ _ h1) h5 (room_min hr h3) ⟨.bl _, H, I, rfl, q⟩
theorem c_is : OpR X (compareOp .Is) (r2B X.K isD) := by
  intro pins s σ H x y v u Q I rx ry ⟨F, d, e, FH, hx, hy, q⟩
  cases e with
  | none =>
    rw [hy.non_inv] at ry
    refine op_isN pins s σ H x .non v u Q I rx ry ⟨rfl, ?_⟩
    have q : Q (.bl (isNone d)) H := q
    rw [isNon hx]
    exact q
  | bool b =>
    rw [hy.bl_inv] at ry
    cases d with
    | bool c =>
      rw [hx.bl_inv] at rx
      refine op_isBl pins s σ H _ _ v u Q I rx ry ⟨c, b, rfl, rfl, ?_⟩
      have q : Q (.bl (c == b)) H := q
      rw [Bool.beq_eq_decide_eq] at q
      exact q
    | _ => exact q.elim
  | _ => exact q.elim
theorem c_isn : OpR X (compareOp .IsNot) (r2B X.K fun x y => rnot (isD x y)) := by
  intro pins s σ H x y v u Q I rx ry ⟨F, d, e, FH, hx, hy, q⟩
  have q := q.rnot
  cases e with
  | none =>
    rw [hy.non_inv] at ry
    refine op_notN pins s σ H x .non v u Q I rx ry ⟨rfl, ?_⟩
    have q : Q (.bl (!isNone d)) H := q
    rw [isNon hx]
    exact q
  | bool b =>
    rw [hy.bl_inv] at ry
    cases d with
    | bool c =>
      rw [hx.bl_inv] at rx
      refine op_notBl pins s σ H _ _ v u Q I rx ry ⟨c, b, rfl, rfl, ?_⟩
      have q : Q (.bl (!(c == b))) H := q
      rw [Bool.beq_eq_decide_eq] at q
      exact q
    | _ => exact q.elim
  | _ => exact q.elim
theorem Ans.mem {x : D} {ys : List D} {kk : Bool → Prop} (q : Ans (memD x ys) kk noE) : fl deep x = true ∧ kk (ys.any fun y => PyData.eqv y x) := by
  obtain ⟨hc, q⟩ := q.if_bad
  rw [Bool.and_eq_true] at hc
  exact ⟨hc.1, q⟩
theorem room_in' (hr : Room k X.A) {d : D} {ys : List D} (h : fl deep d = true) : X.A.units + 1 + min (PyData.depthAll ys) d.depth < cLine := by
  have h1 := fl_depth _ _ h
  have h2 : min (PyData.depthAll ys) d.depth ≤ d.depth := Nat.min_le_right _ _
  have h3 := hr.units
  unfold deep at h1
  omega
theorem lay_list {ds : List D} (h : (PyData.list ds).canLay0 = true) : PyData.canLayAll0 ds = true := by simpa only [PyData.canLay0] using h
theorem lay_tup {ds : List D} (h : (PyData.tuple ds).canLay0 = true) : PyData.canLayAll0 ds = true := by simpa only [PyData.canLay0] using h
theorem c_in (hr : Room k X.A) : OpR X (compareOp .In) (r2B X.K inD) := by
  intro pins s σ H x y v u Q I rx ry ⟨F, d, e, FH, hx, hy, q⟩
  obtain ⟨as, r1⟩ := dpr I FH hx rx
  obtain ⟨bs, r2⟩ := dpr I FH hy ry
  cases e with
  | list ys =>
    obtain ⟨h1, q⟩ := Ans.mem q
    exact SeqAt.in_list_reads r2 r1 (lay_list hy.lay) hx.lay (room_in' hr h1) ⟨.bl _, H, I, rfl, q⟩
  | tuple ys =>
    obtain ⟨h1, q⟩ := Ans.mem q
    exact SeqAt.in_tuple_reads r2 r1 (lay_tup hy.lay) hx.lay (room_in' hr h1) ⟨.bl _, H, I, rfl, q⟩
  | str z =>
    obtain ⟨e2, _⟩ := hy.str_inv
    rw [e2] at ry
    cases d with
    | str w =>
      obtain ⟨e1, _⟩ := hx.str_inv
      rw [e1] at rx
      exact op_in_str pins s σ H _ _ v u Q I rx ry ⟨_, _, rfl, rfl, q⟩
    | _ => exact q.elim
  | _ => exact q.elim
theorem c_nin (hr : Room k X.A) : OpR X (compareOp .NotIn) (r2B X.K fun x y => rnot (inD x y)) := by
  intro pins s σ H x y v u Q I rx ry ⟨F, d, e, FH, hx, hy, q⟩
  have q := q.rnot
  obtain ⟨as, r1⟩ := dpr I FH hx rx
  obtain ⟨bs, r2⟩ := dpr I FH hy ry
  cases e with
  | list ys =>
    obtain ⟨h1, q⟩ := Ans.mem q
    exact SeqAt.notIn_list_reads r2 r1 (lay_list hy.lay) hx.lay (room_in' hr h1) ⟨.bl _, H, I, rfl, q⟩
  | tuple ys =>
    obtain ⟨h1, q⟩ := Ans.mem q
    exact SeqAt.notIn_tuple_reads r2 r1 (lay_tup hy.lay) hx.lay (room_in' hr h1) ⟨.bl _, H, I, rfl, q⟩
  | str z =>
    obtain ⟨e2, _⟩ := hy.str_inv
    rw [e2] at ry
    cases d with
    | str w =>
      obtain ⟨e1, _⟩ := hx.str_inv
      rw [e1] at rx
      exact op_notin_str pins s σ H _ _ v u Q I rx ry ⟨_, _, rfl, rfl, q⟩
    | _ => exact q.elim
  | _ => exact q.elim
theorem c_all (hr : Room k X.A) (op : CmpOp) : OpR X (compareOp op) (r2B X.K (cmpD op)) := by
  cases op with
  | Eq => exact c_eq hr
  | NotEq => exact c_ne hr
  | Lt => exact c_lt hr
  | LtE => exact c_le hr
  | Gt => exact c_gt hr
  | GtE => exact c_ge hr
  | Is => exact c_is
  | IsNot => exact c_isn
  | In => exact c_in hr
  | NotIn => exact c_nin hr
end
end Dv
/-! Dv5: products, places, cuts, chains of comparisons, tests. -/
namespace Dv
open PySem PySem.Spec PyProof.Rows L2
variable {K : PySem.W.Frag} {F F' F0 B H H' : Hp} {v : V} {d : D} {k : Nat}
section
variable {X : Cx} {pins : List (Addr × Obj)} {σ : L2.St} {s : Shared} {Q : VK}
theorem foldl_cps (c : Array Nat) : ∀ (n : Nat) (acc : Array Nat), (List.replicate n c).foldl (fun a b => a ++ b) acc = acc ++ (List.replicate n c.toList).flatten.toArray
  | 0, acc => by simp
  | n + 1, acc => by
    rw [List.replicate_succ, List.foldl_cons, foldl_cps c n, List.replicate_succ, List.flatten_cons]
    apply Array.ext'
    simp
theorem repS_eq (x : Str) (n : Nat) : (⟨(List.replicate n x.cps).foldl (fun a b => a ++ b) #[]⟩ : Str) = repS x n := by
  rw [foldl_cps]
  simp [repS]
theorem repS_len (x : Str) (n : Nat) : (repS x n).length = x.length * n := by
  show ((List.replicate n x.cps.toList).flatten.toArray).size = x.cps.size * n
  rw [List.size_toArray, PyProof.Rows.lm_len_rep_flat, Array.length_toList, Nat.mul_comm]
theorem repS_zero (x : Str) : repS x 0 = Str.empty := rfl
theorem repS_one (x : Str) : repS x 1 = x := by
  cases x
  simp [repS]
theorem repS_nil {x : Str} (h : x.length = 0) (n : Nat) : repS x n = x := by
  have h2 : (repS x n).length = 0 := by rw [repS_len, h, Nat.zero_mul]
  have a : (repS x n).cps = #[] := Array.size_eq_zero_iff.mp h2
  have b : x.cps = #[] := Array.size_eq_zero_iff.mp h
  cases x
  simp only [Str.mk.injEq] at *
  cases hr : repS ⟨_⟩ n
  simp_all
theorem strOk_rep {x : Str} (h : PyData.strOk x = true) : ∀ n : Nat, PyData.strOk (repS x n) = true := by
  intro n
  unfold PyData.strOk at *
  unfold repS
  rw [← Array.all_toList] at h ⊢
  rw [List.all_eq_true] at *
  intro c hc
  simp only [List.mem_flatten, List.mem_replicate] at hc
  obtain ⟨l, ⟨_, rfl⟩, hc⟩ := hc
  exact h c hc
theorem o_mul : OpR X (binaryOp .Mult) (r2 X.K mulD) := by
  intro pins s σ H x y v u Q I rx ry ⟨F, d, e, FH, hx, hy, q⟩
  unfold mulD at q
  split at q
  · rw [hx.int_inv] at rx; rw [hy.int_inv] at ry
    obtain ⟨hc, q⟩ := q.if_bad
    rw [Bool.or_eq_true] at hc
    exact op_mul pins s σ H _ _ v u Q I rx ry ⟨_, _, rfl, rfl, hc.elim (fun z => .inl (small_of z)) fun z => .inr (small_of z), okInt FH q⟩
  · obtain ⟨p, xs, e1, h1, w1⟩ := hx.list_inv FH
    rw [e1] at rx; rw [hy.int_inv] at ry
    obtain ⟨hc, q⟩ := q.if_bad
    rw [Bool.and_eq_true] at hc
    have c1 := of_decide_eq_true hc.1
    exact rep_list I h1 rx ry c1.1 c1.2 (by rw [w1.length]; exact line_of (of_decide_eq_true hc.2)) fun p np => okLst FH np (w1.rep _) q
  · rename_i a kk
    obtain ⟨e1, s1⟩ := hx.str_inv
    rw [e1] at rx; rw [hy.int_inv] at ry
    obtain ⟨t, rfl⟩ := rx
    obtain ⟨t', rfl⟩ := ry
    obtain ⟨hc, q⟩ := q.if_bad
    rw [Bool.and_eq_true] at hc
    obtain ⟨c1, c2⟩ := of_decide_eq_true hc.1
    have c3 : a.length * kk.toNat ≤ lim := of_decide_eq_true hc.2
    have hz : a.length * kk.toNat ≤ sizeLine := line_of c3
    have sk : sOk (repS a kk.toNat) := ⟨by rw [repS_len]; unfold lim at c3; omega, strOk_rep s1.2 _⟩
    refine P.mul_str (by rw [decide_eq_false (by omega), decide_eq_false (by omega)]; rfl) (fun h1 h2 => ?_) (fun h1 h2 => ?_) ?_
    · have h3 : (0 : Int) < kk := by omega
      rw [Int.not_lt]
      refine (Int.le_ediv_iff_mul_le h3).mpr ?_
      have h4 : ((a.length * kk.toNat : Nat) : Int) ≤ 16777216 := by
        have := hz
        rw [sizeLine_eq] at this
        omega
      rw [Int.natCast_mul, Int.toNat_of_nonneg c1] at h4
      omega
    · show decide (a.length * kk.toNat > sizeLine) = false
      exact decide_eq_false (by omega)
    · by_cases h1 : kk < 1
      · rw [if_pos h1]
        have e0 : kk.toNat = 0 := by omega
        rw [e0, repS_zero] at q sk
        exact ⟨by decide, .str _, H, I.tok _, ⟨_, rfl⟩, okStr FH sk q⟩
      · rw [if_neg h1]
        by_cases h2 : (kk == 1 || a.length == 0) = true
        · rw [if_pos h2]
          have e0 : repS a kk.toNat = a := by
            rw [Bool.or_eq_true] at h2
            rcases h2 with h2 | h2
            · have : kk = 1 := eq_of_beq h2
              subst this
              exact repS_one a
            · exact repS_nil (eq_of_beq h2) _
          rw [e0] at q sk
          exact ⟨.str _, H, I, ⟨_, rfl⟩, okStr FH sk q⟩
        · rw [if_neg h2, repS_eq]
          refine ⟨by rw [repS_len]; exact hz, .str _, H, I.tok _, ⟨_, rfl⟩, okStr FH sk q⟩
  · exact q.elim
theorem o_all (op : Operator) : OpR X (binaryOp op) (r2 X.K (binD op)) := by
  cases op with
  | Add => exact o_add
  | Sub => exact o_sub
  | Mult => exact o_mul
  | FloorDiv => exact o_div
  | Mod => exact o_mod
  | Pow => exact o_pow
  | _ => exact fun _ _ _ _ _ _ _ _ _ _ _ _ ⟨_, _, _, _, _, _, q⟩ => q.elim

/-! ### places -/
theorem ixZ_eq (n : Nat) (i : Int) : ixZ n i = ixN n i := rfl
theorem atZ_eq {α : Type} (xs : List α) (i : Int) : atZ xs i = atI xs i := rfl
theorem at_rps {F : Hp} {vs : List V} {ds : List D} (r : Rps K F vs ds) {i : Int} {d : D} (h : atZ ds i = some d) : ∃ v, atI vs i = some v ∧ Rp K F v d := by
  unfold atZ at h
  obtain ⟨j, h1, h2⟩ := Option.bind_eq_some_iff.mp h
  obtain ⟨v, e, q⟩ := r.get h2
  refine ⟨v, ?_, q⟩
  unfold atI
  rw [r.length, ← ixZ_eq, h1]
  exact e
theorem Ans.oR {α : Type} {o : Option α} {kk : α → Prop} {e : Str → Int → Prop} (h : Ans (Dv.oR o) kk e) : ∃ a, o = some a ∧ kk a := by
  cases o with
  | none => exact h.elim
  | some a => exact ⟨a, rfl, h⟩
theorem strOk_mem {x : Str} (h : PyData.strOk x = true) {c : Nat} (hc : c ∈ x.cps.toList) : decide (c < 0x110000) = true := by
  unfold PyData.strOk at h
  rw [← Array.all_toList, List.all_eq_true] at h
  exact h c hc
theorem strOk_of {l : List Nat} (h : ∀ c ∈ l, decide (c < 0x110000) = true) : PyData.strOk ⟨l.toArray⟩ = true := by
  unfold PyData.strOk
  rw [← Array.all_toList, List.all_eq_true]
  simpa using h
theorem atI_mem {α : Type} {xs : List α} {i : Int} {v : α} (h : atI xs i = some v) : v ∈ xs := by
  unfold atI at h
  obtain ⟨j, h1, h2⟩ := Option.bind_eq_some_iff.mp h
  exact List.mem_of_getElem? h2
theorem sOk_sgn {x : Str} (s : sOk x) {c : Nat} (hc : c ∈ x.cps.toList) : sOk (sgn c) := by
  refine ⟨by show 1 ≤ _; decide, ?_⟩
  unfold sgn
  exact strOk_of (l := [c]) fun z hz => by
    rw [List.mem_singleton.mp hz]
    exact strOk_mem s.2 hc
theorem line_str {x : Str} (s : sOk x) : x.length ≤ sizeLine := Nat.le_trans s.1 (by decide)
theorem ix_all : IxR X (r2F X.K idxD) := by
  intro a b pins s σ H x y v u Q I rx ry ⟨F, d, e, FH, hx, hy, q⟩
  unfold idxD at q
  split at q
  · rw [hy.int_inv] at ry
    obtain ⟨p, xs, e1, h1, w1⟩ := hx.list_inv FH
    rw [e1] at rx
    obtain ⟨z, hz, q⟩ := q.oR
    obtain ⟨w, hw, rw'⟩ := at_rps w1 hz
    exact ix_list a b pins s σ H _ _ v u Q I rx ry ⟨p, xs, _, w, rfl, rfl, h1.to, hw, q w rw'⟩
  · rw [hy.int_inv] at ry
    obtain ⟨p, xs, e1, h1, w1⟩ := hx.tup_inv FH
    rw [e1] at rx
    obtain ⟨z, hz, q⟩ := q.oR
    obtain ⟨w, hw, rw'⟩ := at_rps w1 hz
    exact ix_tup a b pins s σ H _ _ v u Q I rx ry ⟨p, xs, _, w, rfl, rfl, h1, hw, q w rw'⟩
  · rw [hy.int_inv] at ry
    obtain ⟨e1, s1⟩ := hx.str_inv
    rw [e1] at rx
    obtain ⟨z, hz, q⟩ := q.oR
    obtain ⟨c, hc, rfl⟩ := Option.map_eq_some_iff.mp hz
    exact ix_str a b pins s σ H _ _ v u Q I rx ry ⟨_, _, c, rfl, rfl, line_str s1, hc, q _ (.str (sOk_sgn s1 (atI_mem hc)))⟩
  · exact q.elim

/-! ### cuts -/
theorem cutE_eq (n dd : Nat) (hd : dd ≤ n) (o : Option Int) : cutE n dd o = HT.sIx n dd o := by
  cases o with
  | none => exact (HT.sIx_none n dd).symm
  | some i =>
    have h := HT.clip_eq i n dd
    unfold cutE
    show (if i < 0 then (i + (n : Int)).toNat else min i.toNat n) = _
    by_cases hi : i < 0
    · rw [if_pos hi] at *
      omega
    · rw [if_neg hi] at *
      omega
theorem cut_eq {α : Type} (xs : List α) (lo hi : Option Int) : cut xs lo hi = (xs.drop (HT.sIx xs.length 0 lo)).take (HT.sIx xs.length xs.length hi - HT.sIx xs.length 0 lo) := by
  unfold cut
  rw [cutE_eq _ _ (Nat.zero_le _), cutE_eq _ _ (Nat.le_refl _)]
theorem cut_rps {F : Hp} {vs : List V} {ds : List D} (r : Rps K F vs ds) (lo hi : Option Int) : Rps K F (cutV vs lo hi) (cut ds lo hi) := by
  rw [cut_eq]
  unfold cutV
  rw [r.length]
  exact Rps.take _ (Rps.drop _ r)
def rSl (K : PySem.W.Frag) : V → Option Int → Option Int → Hp → VK → Prop := fun x lo hi H Q => ∃ F d, Same F H ∧ Rh K F H x d ∧ Ans (slD lo hi d) (OkV K F H Q) noE
theorem sl_all : SlR X (rSl X.K) := by
  intro pins s σ H x v vl vu lo hi sl Q I rx hs pl pu ⟨F, d, FH, hx, q⟩
  unfold slD at q
  split at q
  · obtain ⟨p, xs, e1, h1, w1⟩ := hx.list_inv FH
    rw [e1] at rx
    exact sl_list pins s σ H _ v vl vu lo hi sl Q I rx hs pl pu ⟨p, xs, rfl, h1.to, fun p np => okLst FH np (cut_rps w1 lo hi) q⟩
  · obtain ⟨p, xs, e1, h1, w1⟩ := hx.tup_inv FH
    subst e1
    refine sl_tupA pins s σ H _ v vl vu lo hi sl Q I rx hs pl pu ⟨p, xs, rfl, h1, fun hw => ?_, fun _ p np => okTup FH np (cut_rps w1 lo hi) q⟩
    refine okTupOld FH h1 _ hx ?_ q
    rw [cut_eq, ← w1.length, hw.1, hw.2, List.drop_zero, Nat.sub_zero, w1.length, List.take_length]
  · rename_i z
    obtain ⟨e1, s1⟩ := hx.str_inv
    rw [e1] at rx
    have e : cutS z lo hi = ⟨(cut z.cps.toList lo hi).toArray⟩ := by
      rw [cut_eq]
      unfold cutS
      rw [Array.length_toList]
      rfl
    refine sl_str pins s σ H _ v vl vu lo hi sl Q I rx hs pl pu ⟨z, rfl, line_str s1, ?_⟩
    rw [e]
    have q : OkV X.K F H Q (.str ⟨(cut z.cps.toList lo hi).toArray⟩) := q
    refine okStr FH ⟨?_, strOk_of fun c hc => strOk_mem s1.2 ?_⟩ q
    · rw [← e]
      exact Nat.le_trans (cutS_length z lo hi) s1.1
    · unfold cut at hc
      exact List.mem_of_mem_drop (List.mem_of_mem_take hc)
  · exact q.elim
end
end Dv
/-! Dv6: the judgements for places, cuts, comparisons, tests, choices. -/
namespace Dv
open PySem PySem.Spec PyProof.Rows L2
variable {K : PySem.W.Frag} {F F' F0 B H H' : Hp} {v : V} {d : D} {k : Nat}
variable {X : Cx} {W : Wi} {a : List Bool} {e a1 b1 : Expr} {f fa fb : DE} {t : DT} {pos : Pos}
/-- no program error comes out of an operation -/
theorem ng_all {α β : Type} {g : α → β → R D} : True := trivial
theorem ne_err_bin (op : Operator) (x y : D) (c : Str) (i : Int) : binD op x y ≠ .err c i := by
  cases op <;> (simp only [binD]; try (unfold addD; split)) <;> (try (unfold subD; split)) <;> (try (unfold mulD; split)) <;> (try (unfold divD; split)) <;> (try (unfold modD; split)) <;> (try (unfold powD; split)) <;>
    (try split) <;> (intro h; cases h)
theorem ne_err_neg (x : D) (c : Str) (i : Int) : negD x ≠ .err c i := by
  unfold negD; split <;> (intro h; cases h)
theorem ne_err_oR {α : Type} (o : Option α) (c : Str) (i : Int) : oR o ≠ .err c i := by
  cases o <;> (intro h; cases h)
theorem ne_err_idx (x y : D) (c : Str) (i : Int) : idxD x y ≠ .err c i := by
  unfold idxD; split <;> first | exact ne_err_oR _ _ _ | (intro h; cases h)
theorem ne_err_sl (lo hi : Option Int) (x : D) (c : Str) (i : Int) : slD lo hi x ≠ .err c i := by
  unfold slD; split <;> (intro h; cases h)
theorem je_bin {op : Operator} (ha : JE X W a a1 fa 0) (hb : JE X W a b1 fb 0) : JE X W a (.BinOp a1 op b1 pos) (eBin op fa fb) 3 := je_op (o_all op) ha hb fun d e c i => ne_err_bin op d e c i
theorem je_neg (ha : JE X W a a1 fa 0) : JE X W a (.UnaryOp .USub a1 pos) (eNeg fa) 3 := je_un u_neg ha ne_err_neg
theorem je_at (hs : PlainIx b1) (ha : JE X W a a1 fa 0) (hb : JE X W a b1 fb 0) : JE X W a (.Subscript a1 b1 pos) (eIx fa fb) 2 := je_ix ix_all hs ha hb ne_err_idx
theorem plainIx_of {i : Expr} (h : subK i = .ix) : PlainIx i := by
  intro o j
  cases i with
  | Slice lo hi st p =>
    cases st with
    | none => cases h
    | some e =>
      cases lo <;> cases hi <;> simp only [subK] at h <;> first | cases h | (split at h <;> cases h)
  | _ => rfl
/-! ### cuts -/
def tJO (K : PySem.W.Frag) (W : Wi) (a : List Bool) (o : Option DE) : TO := fun σ H Q => ∃ F0 B F δ, SI K F0 B F H σ a δ ∧
  Ans (oE o δ) (fun i => ∀ F' H', SI K F0 B F' H' σ a δ → Same F F' → Same H H' → New H F F' → Q i H') (W.ew σ H)
theorem _root_.L2.PO.imp {X : Cx} {e : Option Expr} {t t' : TO} (h : PO X e t) (i : ∀ σ H Q, t' σ H Q → t σ H Q) : PO X e t' := ⟨fun pins s σ H Q I q => h.run pins s σ H Q I (i σ H Q q)⟩
theorem jo_none : PO X none (tJO X.K W a none) := po_none.imp fun σ H Q ⟨F0, B, F, δ, S, q⟩ => q F H S (Same.refl F) (Same.refl H) (New.refl _ _)
theorem Ans.asInt {x : D} {kk : Int → Prop} {e : Str → Int → Prop} (h : Ans (Dv.asInt x) kk e) : ∃ i, x = .int i ∧ kk i := by
  unfold Dv.asInt at h
  split at h
  · exact ⟨_, rfl, h⟩
  · exact h.elim
theorem jo_some (h : JE X W a e f 0) : PO X (some e) (tJO X.K W a (some f)) := PO.imp (po_some h) fun σ H Q ⟨F0, B, F, δ, S, q⟩ => by
  unfold oE at q
  rw [Ans.bind_iff] at q
  refine ⟨F0, B, F, δ, S, q.imp fun d q v F' H' S' e1 e2 n r => ?_⟩
  rw [Ans.bind_iff] at q
  obtain ⟨i, rfl, q⟩ := q.asInt
  exact ⟨i, Rh.int_inv r, q F' H' S' e1 e2 n⟩
theorem je_slice {lo hi : Option Expr} {flo fhi : Option DE} {p2 : Pos} (ha : JE X W a a1 fa 0) (hl : PO X lo (tJO X.K W a flo)) (hh : PO X hi (tJO X.K W a fhi)) :
    JE X W a (.Subscript a1 (.Slice lo hi none p2) pos) (eSl fa flo fhi) 3 := (pe_slice sl_all ha hl hh).imp fun σ H Q ⟨F0, B, F, δ, S, q⟩ => by
  unfold eSl at q
  rw [Ans.bind_iff] at q
  refine ⟨F0, B, F, δ, S, q.imp fun d q v F1 H1 S1 e1 e2 n1 r1 => ⟨F0, B, F1, δ, S1, ?_⟩⟩
  rw [Ans.bind_iff] at q
  refine q.mono (fun l _ q F2 H2 S2 e3 e4 n2 => ⟨F0, B, F2, δ, S2, ?_⟩) fun c i z => W.mono _ _ _ _ _ e2 z
  rw [Ans.bind_iff] at q
  refine q.mono (fun u _ q F3 H3 S3 e5 e6 n3 => ⟨F3, d, S3.FH, Rh.mono (e3.trans e5) (e4.trans e6) r1, ?_⟩) fun c i z => W.mono _ _ _ _ _ (e2.trans e4) z
  have nb := ne_err_sl l u d
  revert q nb
  cases slD l u d with
  | ok z => exact fun q _ => OkV.fin S3 (e2.trans (e4.trans e6)) fun v F' H' S' e7 e8 n4 r => q v F' H' S' (e1.trans (e3.trans (e5.trans e7))) e8 (n1.trans ((n2.back e2).trans ((n3.back (e2.trans e4)).trans (n4.back (e2.trans (e4.trans e6)))))) r
  | err c i => exact fun _ nb => absurd rfl (nb c i)
  | bad => exact fun q _ => q
theorem isM1_of {e : Expr} (h : isM1 e = true) : ∃ kk p1 p2, e = .UnaryOp .USub (.Constant (.int 1) kk p1) p2 := by
  unfold isM1 at h
  split at h
  · exact ⟨_, _, _, rfl⟩
  · cases h
theorem je_rev {e2 : Expr} {p2 : Pos} (h : isM1 e2 = true) (ha : JE X W a a1 fa 0) : JE X W a (.Subscript a1 (.Slice none none (some e2) p2) pos) (eRev fa) 3 := by
  obtain ⟨kk, p1, p3, rfl⟩ := isM1_of h
  refine (pe_revL ha).imp fun σ H Q ⟨F0, B, F, δ, S, q⟩ => ?_
  unfold eRev at q
  rw [Ans.bind_iff] at q
  refine ⟨F0, B, F, δ, S, q.imp fun d q v F1 H1 S1 e1 e2 n1 r1 => ?_⟩
  unfold revD at q
  split at q
  · obtain ⟨p, xs, e4, h1, w1⟩ := Rh.list_inv S1.FH r1
    refine ⟨p, xs, e4, h1.to, fun p np => ?_⟩
    have g := same_new (o := .lst xs.reverse) np
    exact q (.ref p) F1 _ (S1.grow g) e1 (e2.trans g) n1 ⟨p, _, rfl, S1.FH.free np, e2.free np, upd_same, w1.reverse⟩
  · exact q.elim

/-! ### tests -/
theorem jt_truth (h : JE X W a e f 0) (he : ∀ whole, isTrue e X.env whole = (do let v ← whole; standAt e.pos; holding [v] (truthy v))) : JT X W a e (tTru f) := by
  refine (pt_truth h he).imp fun σ H Q ⟨F0, B, F, δ, S, q⟩ => ?_
  unfold tTru at q
  rw [Ans.bind_iff] at q
  refine ⟨F0, B, F, δ, S, q.imp fun d q v F1 H1 S1 e1 e2 n1 r1 => ?_⟩
  unfold truD at q
  split at q
  · rw [Rh.non_inv r1]; exact ⟨false, rfl, q F1 H1 S1 e1 e2 n1⟩
  · rw [Rh.bl_inv r1]; exact ⟨_, rfl, q F1 H1 S1 e1 e2 n1⟩
  · rw [Rh.int_inv r1]; exact ⟨_, rfl, q F1 H1 S1 e1 e2 n1⟩
  · rename_i z
    obtain ⟨e4, s1⟩ := Rh.str_inv r1
    rw [e4]
    refine ⟨z.length != 0, ⟨line_str s1, ?_⟩, q F1 H1 S1 e1 e2 n1⟩
    simp [bne, BEq.beq]
  · obtain ⟨p, xs, e4, h1, w1⟩ := Rh.list_inv S1.FH r1
    rw [e4]
    refine ⟨_, .inl ⟨xs, h1.to, rfl⟩, ?_⟩
    have e5 : xs.isEmpty = (List.isEmpty ‹List D›) := by cases w1 <;> rfl
    rw [e5]
    exact q F1 H1 S1 e1 e2 n1
  · obtain ⟨p, xs, e4, h1, w1⟩ := Rh.tup_inv S1.FH r1
    rw [e4]
    refine ⟨_, .inr (.inl ⟨xs, h1, rfl⟩), ?_⟩
    have e5 : xs.isEmpty = (List.isEmpty ‹List D›) := by cases w1 <;> rfl
    rw [e5]
    exact q F1 H1 S1 e1 e2 n1
  · exact q.elim
theorem jt_not (h : JT X W a e t) : JT X W a (.UnaryOp .Not e pos) (Dv.tNot t) := (pt_not h).imp fun σ H Q ⟨F0, B, F, δ, S, q⟩ => by
  unfold Dv.tNot at q
  exact ⟨F0, B, F, δ, S, q.rnot⟩
end Dv
/-! Dv7: and, or, chains of comparisons, choices. -/
namespace Dv
open PySem PySem.Spec PyProof.Rows L2
variable {K : PySem.W.Frag} {F F' F0 B H H' : Hp} {v : V} {d : D} {k : Nat}
variable {X : Cx} {W : Wi} {a : List Bool} {e a1 b1 : Expr} {f fa fb : DE} {t : DT} {pos : Pos}
/-- one expression of a list, and its meaning -/
inductive Each2 {α β : Type} (P : α → β → Prop) : List α → List β → Prop
  | nil : Each2 P [] []
  | cons {x : α} {y : β} {xs : List α} {ys : List β} : P x y → Each2 P xs ys → Each2 P (x :: xs) (y :: ys)
theorem Each2.map {α β : Type} {P : α → β → Prop} {g : α → β} : ∀ (xs : List α), (∀ x, x ∈ xs → P x (g x)) → Each2 P xs (xs.map g)
  | [], _ => .nil
  | x :: xs, h => .cons (h x List.mem_cons_self) (Each2.map xs fun y hy => h y (List.mem_cons_of_mem _ hy))

def PWJ (X : Cx) (W : Wi) (a : List Bool) (e : Expr) (t : DT) : Prop := PW X e (tJT X.K W a t)
theorem _root_.L2.PW.imp {X : Cx} {e : Expr} {t t' : TT} (h : PW X e t) (i : ∀ σ H Q, t' σ H Q → t σ H Q) : PW X e t' := ⟨fun whole pins s σ H Q I q => h.run whole pins s σ H Q I (i σ H Q q)⟩
theorem jw_ands : ∀ {es : List Expr} {ts : List DT}, Each2 (JT X W a) es ts → es ≠ [] → PWJ X W a (.BoolOp .And es pos) (tAnds ts)
  | _, _, .nil, h => absurd rfl h
  | _, _, .cons h1 .nil, _ => pw_and1 h1
  | _, _, .cons h1 (.cons h2 hr), _ => (pw_and h1 (jw_ands (.cons h2 hr) (by simp))).imp fun σ H Q ⟨F0, B, F, δ, S, q⟩ => by
    unfold tAnds Dv.tAnd at q
    rw [Ans.bind_iff] at q
    refine ⟨F0, B, F, δ, S, q.imp fun b q F1 H1 S1 e1 e2 n1 => ?_⟩
    cases b with
    | true =>
      refine iteT ⟨F0, B, F1, δ, S1, ?_⟩
      exact Ans.mono q (fun b _ q F2 H2 S2 e3 e4 n2 => q F2 H2 S2 (e1.trans e3) (e2.trans e4) (n1.trans (n2.back e2))) fun c i z => W.mono _ _ _ _ _ e2 z
    | false => exact iteF (q F1 H1 S1 e1 e2 n1)
theorem jw_ors : ∀ {es : List Expr} {ts : List DT}, Each2 (JT X W a) es ts → es ≠ [] → PWJ X W a (.BoolOp .Or es pos) (tOrs ts)
  | _, _, .nil, h => absurd rfl h
  | _, _, .cons h1 .nil, _ => pw_or1 h1
  | _, _, .cons h1 (.cons h2 hr), _ => (pw_or h1 (jw_ors (.cons h2 hr) (by simp))).imp fun σ H Q ⟨F0, B, F, δ, S, q⟩ => by
    unfold tOrs Dv.tOr at q
    rw [Ans.bind_iff] at q
    refine ⟨F0, B, F, δ, S, q.imp fun b q F1 H1 S1 e1 e2 n1 => ?_⟩
    cases b with
    | true => exact iteT (q F1 H1 S1 e1 e2 n1)
    | false =>
      refine iteF ⟨F0, B, F1, δ, S1, ?_⟩
      exact Ans.mono q (fun b _ q F2 H2 S2 e3 e4 n2 => q F2 H2 S2 (e1.trans e3) (e2.trans e4) (n1.trans (n2.back e2))) fun c i z => W.mono _ _ _ _ _ e2 z
theorem jt_ands {es : List Expr} {ts : List DT} (h : Each2 (JT X W a) es ts) (hn : es ≠ []) : JT X W a (.BoolOp .And es pos) (tAnds ts) := PW.pt (jw_ands h hn)
theorem jt_ors {es : List Expr} {ts : List DT} (h : Each2 (JT X W a) es ts) (hn : es ≠ []) : JT X W a (.BoolOp .Or es pos) (tOrs ts) := PW.pt (jw_ors h hn)

/-! ### a value by a value's truth -/
theorem truV {F : Hp} {x : V} {d : D} {b : Bool} (FH : Same F H) (r : Rh K F H x d) (h : truD d = .ok b) : TruV K x H b := by
  unfold truD at h
  split at h
  · cases h; rw [Rh.non_inv r]; exact rfl
  · cases h; rw [Rh.bl_inv r]; exact rfl
  · cases h; rw [Rh.int_inv r]; exact rfl
  · obtain ⟨e4, s1⟩ := Rh.str_inv r
    cases h
    rw [e4]
    exact ⟨line_str s1, by simp [bne, BEq.beq]⟩
  · obtain ⟨p, xs, e4, h1, w1⟩ := Rh.list_inv FH r
    cases h
    rw [e4]
    exact .inl ⟨xs, h1.to, by cases w1 <;> rfl⟩
  · obtain ⟨p, xs, e4, h1, w1⟩ := Rh.tup_inv FH r
    cases h
    rw [e4]
    exact .inr (.inl ⟨xs, h1, by cases w1 <;> rfl⟩)
  · cases h
theorem Ans.ok_of {α : Type} {r : R α} {kk : α → Prop} {e : Str → Int → Prop} (h : Ans r kk e) (ne : ∀ c i, r ≠ .err c i) : ∃ x, r = .ok x ∧ kk x := by
  cases r with
  | ok x => exact ⟨x, rfl, h⟩
  | err c i => exact absurd rfl (ne c i)
  | bad => exact h.elim
theorem ne_err_tru (x : D) (c : Str) (i : Int) : truD x ≠ .err c i := by
  unfold truD; split <;> (intro h; cases h)
theorem Res.later {B H H1 F2 H2 : Hp} {v : V} {d : D} (e1 : Same B H) (e2 : Same H H1) (r : Res K k B H1 F2 H2 v d) : Res K k B H F2 H2 v d := by
  match k with
  | 0 => exact r
  | 1 => exact r
  | 2 => exact r
  | _ + 3 => exact Ow.early e2 r
theorem je_not (h : JE X W a e f 0) : JE X W a (.UnaryOp .Not e pos) (eT (Dv.tNot (tTru f))) 3 := (pe_notT h).imp fun σ H Q ⟨F0, B, F, δ, S, q⟩ => by
  unfold eT at q
  rw [Ans.bind_iff] at q
  unfold Dv.tNot tTru at q
  have q := q.rnot
  rw [Ans.bind_iff] at q
  refine ⟨F0, B, F, δ, S, q.imp fun d q v F1 H1 S1 e1 e2 n1 r1 => ?_⟩
  obtain ⟨b, hb, q⟩ := q.ok_of (ne_err_tru d)
  exact ⟨b, truV S1.FH r1 hb, q _ F1 H1 S1 e1 e2 n1 (Rp.bl _)⟩
theorem je_ors : ∀ {es : List Expr} {fs : List DE}, Each2 (fun e f => JE X W a e f k) es fs → es ≠ [] → JE X W a (.BoolOp .Or es pos) (eOrs fs) k
  | _, _, .nil, h => absurd rfl h
  | _, _, .cons h1 .nil, _ => pe_one h1
  | _, _, .cons h1 (.cons h2 hr), _ => (pe_orT h1 (je_ors (.cons h2 hr) (by simp))).imp fun σ H Q ⟨F0, B, F, δ, S, q⟩ => by
    unfold eOrs eOr at q
    rw [Ans.bind_iff] at q
    refine ⟨F0, B, F, δ, S, q.imp fun d q v F1 H1 S1 e1 e2 n1 r1 => ?_⟩
    rw [Ans.bind_iff] at q
    obtain ⟨b, hb, q⟩ := q.ok_of (ne_err_tru d)
    refine ⟨b, truV S1.FH r1.rh hb, ?_⟩
    cases b with
    | true => exact iteT (q v F1 H1 S1 e1 e2 n1 r1)
    | false =>
      refine iteF ⟨F0, B, F1, δ, S1, ?_⟩
      exact Ans.mono q (fun b _ q v F2 H2 S2 e3 e4 n2 r2 => q v F2 H2 S2 (e1.trans e3) (e2.trans e4) (n1.trans (n2.back e2)) (Res.later S.BH e2 r2)) fun c i z => W.mono _ _ _ _ _ e2 z
theorem je_ands : ∀ {es : List Expr} {fs : List DE}, Each2 (fun e f => JE X W a e f k) es fs → es ≠ [] → JE X W a (.BoolOp .And es pos) (eAnds fs) k
  | _, _, .nil, h => absurd rfl h
  | _, _, .cons h1 .nil, _ => pe_one h1
  | _, _, .cons h1 (.cons h2 hr), _ => (pe_andT h1 (je_ands (.cons h2 hr) (by simp))).imp fun σ H Q ⟨F0, B, F, δ, S, q⟩ => by
    unfold eAnds eAnd at q
    rw [Ans.bind_iff] at q
    refine ⟨F0, B, F, δ, S, q.imp fun d q v F1 H1 S1 e1 e2 n1 r1 => ?_⟩
    rw [Ans.bind_iff] at q
    obtain ⟨b, hb, q⟩ := q.ok_of (ne_err_tru d)
    refine ⟨b, truV S1.FH r1.rh hb, ?_⟩
    cases b with
    | true =>
      refine iteT ⟨F0, B, F1, δ, S1, ?_⟩
      exact Ans.mono q (fun b _ q v F2 H2 S2 e3 e4 n2 r2 => q v F2 H2 S2 (e1.trans e3) (e2.trans e4) (n1.trans (n2.back e2)) (Res.later S.BH e2 r2)) fun c i z => W.mono _ _ _ _ _ e2 z
    | false => exact iteF (q v F1 H1 S1 e1 e2 n1 r1)
theorem je_if {c : Expr} (hc : JT X W a c t) (ha : JE X W a a1 fa k) (hb : JE X W a b1 fb k) : JE X W a (.IfExp c a1 b1 pos) (eIf t fa fb) k := (pe_ifExp hc ha hb).imp fun σ H Q ⟨F0, B, F, δ, S, q⟩ => by
  unfold eIf at q
  rw [Ans.bind_iff] at q
  refine ⟨F0, B, F, δ, S, q.imp fun b q F1 H1 S1 e1 e2 n1 => ?_⟩
  cases b with
  | true =>
    refine iteT ⟨F0, B, F1, δ, S1, ?_⟩
    exact Ans.mono q (fun b _ q v F2 H2 S2 e3 e4 n2 r2 => q v F2 H2 S2 (e1.trans e3) (e2.trans e4) (n1.trans (n2.back e2)) (Res.later S.BH e2 r2)) fun c i z => W.mono _ _ _ _ _ e2 z
  | false =>
    refine iteF ⟨F0, B, F1, δ, S1, ?_⟩
    exact Ans.mono q (fun b _ q v F2 H2 S2 e3 e4 n2 r2 => q v F2 H2 S2 (e1.trans e3) (e2.trans e4) (n1.trans (n2.back e2)) (Res.later S.BH e2 r2)) fun c i z => W.mono _ _ _ _ _ e2 z

/-! ### chains -/
def notSet : Expr → Bool
  | .Set _ _ _ => false
  | _ => true
theorem behind_false {op : CmpOp} {e : Expr} (h : notSet e = true) : behindInMarks op e = false := by
  cases e <;> first | rfl | (simp [notSet] at h)
theorem lastMarks_false : ∀ (ops : List CmpOp) (es : List Expr), (∀ e ∈ es, notSet e = true) → lastMarks ops es = false
  | [], _, _ => by cases ‹List Expr› <;> rfl
  | [_], [], _ => rfl
  | [op], [e], h => behind_false (h e List.mem_cons_self)
  | [_], _ :: _ :: _, _ => by simp [lastMarks]
  | _ :: _ :: _, [], _ => rfl
  | _ :: o :: ops, e :: es, h => by
    have := lastMarks_false (o :: ops) es fun x hx => h x (List.mem_cons_of_mem _ hx)
    cases es with
    | nil => simp [lastMarks]
    | cons e2 es => simpa [lastMarks] using this
/-- what is wanted of the rest of a chain, from the value at hand -/
theorem ne_err_cmp (op : CmpOp) (x y : D) (c : Str) (i : Int) : cmpD op x y ≠ .err c i := by
  have h1 : ∀ x y : D, eqD x y ≠ .err c i := fun x y => by unfold eqD; split <;> (intro h; cases h)
  have h2 : ∀ x y : D, ltD x y ≠ .err c i := fun x y => by unfold ltD; split <;> (try split) <;> (intro h; cases h)
  have h3 : ∀ x y : D, leD x y ≠ .err c i := fun x y => by unfold leD; split <;> (try split) <;> (intro h; cases h)
  have h4 : ∀ x y : D, isD x y ≠ .err c i := fun x y => by unfold isD; split <;> (try split) <;> (intro h; cases h)
  have h5 : ∀ (x : D) (ys : List D), memD x ys ≠ .err c i := fun x ys => by unfold memD; split <;> (intro h; cases h)
  have h6 : ∀ x y : D, inD x y ≠ .err c i := fun x y => by
    unfold inD
    split
    · exact h5 _ _
    · exact h5 _ _
    · split <;> (intro h; cases h)
    · intro h; cases h
  have hn : ∀ r : R Bool, r ≠ .err c i → rnot r ≠ .err c i := fun r hr => by
    cases r <;> simp_all [rnot]
  cases op with
  | Eq => exact h1 x y
  | NotEq => exact hn _ (h1 x y)
  | Lt => exact h2 x y
  | LtE => exact h3 x y
  | Gt => exact h2 y x
  | GtE => exact h3 y x
  | Is => exact h4 x y
  | IsNot => exact hn _ (h4 x y)
  | In => exact h6 x y
  | NotIn => exact hn _ (h6 x y)
theorem ans_noE {α : Type} {r : R α} {kk : α → Prop} {e : Str → Int → Prop} (h : Ans r kk e) (ne : ∀ c i, r ≠ .err c i) : Ans r kk noE := by
  cases r with
  | ok x => exact h
  | err c i => exact absurd rfl (ne c i)
  | bad => exact h
theorem chain_run {n : Nat} (hr : Room n X.A) {p : Pos} : ∀ {ops : List CmpOp} {es : List Expr} {fs : List DE}, ops.length = es.length → Each2 (fun e f => JE X W a e f 0) es fs → es ≠ [] →
    ∀ (pins : List (Addr × Obj)) (s : Shared) (σ : L2.St) (H F0 B F : Hp) (δ : Env) (x : V) (u : Value) (d : D) (Q : VK), Inv X pins σ H s → SI X.K F0 B F H σ a δ → RelV x u → Rh X.K F H x d →
      Ans (cmpGo δ d (ops.zip fs)) (fun b => ∀ F' H', SI X.K F0 B F' H' σ a δ → Same F F' → Same H H' → New H F F' → Q (.bl b) H') (W.ew σ H) →
      wpAny (model X.prog X.w) X.A (compareChain p u ops (evalEach es X.env)) (EP X pins σ Q) X.xe s
  | _, _, _, _, .nil, hn => absurd rfl hn
  | [], _ :: _, _, hl, _, _ => by cases hl
  | [op], [b], _, _, .cons (y := fb) hb .nil, _ => fun pins s σ H F0 B F δ x u d Q I S rx r q => by
    have q : Ans ((fb δ).bind fun y => cmpD op d y) _ _ := q
    rw [Ans.bind_iff] at q
    refine chain_last (thn (hb.run pins s σ H (fun y H1 => r2B X.K (cmpD op) x y H1 Q) I ⟨F0, B, F, δ, S, q.imp fun e q w F1 H1 S1 e1 e2 n1 r1 => ?_⟩) fun w s1 ⟨y, H1, I1, r1, q1⟩ => c_all hr op pins s1 σ H1 x y u w Q I1 rx r1 q1)
    exact ⟨F1, d, e, S1.FH, Rh.mono e1 e2 r, r1, (ans_noE q (ne_err_cmp op d e)).imp fun bb q => q F1 H1 S1 e1 e2 n1⟩
  | op :: op' :: ops, b :: b' :: es, _, hl, .cons (y := fb) hb (.cons (y := fb') (ys := fs) hb' hr'), _ => fun pins s σ H F0 B F δ x u d Q I S rx r q => by
    have q : Ans ((fb δ).bind fun y => (cmpD op d y).bind fun t => if t then cmpGo δ y ((op' :: ops).zip (fb' :: fs)) else .ok false) _ _ := q
    rw [Ans.bind_iff] at q
    refine chain_link (thn (hb.run pins s σ H (fun y H1 => ∃ F1 e, SI X.K F0 B F1 H1 σ a δ ∧ Same F F1 ∧ Same H H1 ∧ New H F F1 ∧ Rh X.K F1 H1 y e ∧
      Ans ((cmpD op d e).bind fun t => if t then cmpGo δ e ((op' :: ops).zip (fb' :: fs)) else .ok false) (fun b => ∀ F' H', SI X.K F0 B F' H' σ a δ → Same F F' → Same H H' → New H F F' → Q (.bl b) H') (W.ew σ H))
      I ⟨F0, B, F, δ, S, q.imp fun e q w F1 H1 S1 e1 e2 n1 r1 => ⟨F1, e, S1, e1, e2, n1, r1, q⟩⟩) fun w s1 ⟨y, H1, I1, r1, F1, e, S1, e1, e2, n1, rh1, q1⟩ => ?_)
    rw [Ans.bind_iff] at q1
    obtain ⟨bb, hbb, q1⟩ := q1.ok_of (ne_err_cmp op d e)
    refine thn (c_all hr op pins s1 σ H1 x y u w (fun z H2 => z = .bl bb ∧ H2 = H1) I1 rx r1 ⟨F1, d, e, S1.FH, Rh.mono e1 e2 r, rh1, by rw [hbb]; exact ⟨rfl, rfl⟩⟩) fun c s2 ⟨z, H2, I2, r2, ez, eH⟩ => ?_
    subst ez eH
    cases r2
    refine wpAny_truthy_bool ?_
    cases bb with
    | false =>
      rw [if_neg Bool.false_ne_true]
      exact ⟨.bl false, H2, I2, rfl, q1 F1 H2 S1 e1 e2 n1⟩
    | true =>
      rw [if_pos rfl]
      exact chain_run hr (by simpa using hl) (.cons hb' hr') (by simp) _ _ _ _ _ _ _ _ _ _ _ _ I2 S1 r1 rh1 (Ans.mono q1 (fun b _ q F' H' S' e3 e4 n2 => q F' H' S' (e1.trans e3) (e2.trans e4) (n1.trans (n2.back e2))) fun c i z => W.mono _ _ _ _ _ e2 z)
  | [_], _ :: _ :: _, _, hl, _, _ => by simp at hl
  | _ :: _ :: _, [_], _, hl, _, _ => by simp at hl
theorem test_run {n : Nat} (hr : Room n X.A) {p : Pos} : ∀ {ops : List CmpOp} {es : List Expr} {fs : List DE}, ops.length = es.length → Each2 (fun e f => JE X W a e f 0) es fs → es ≠ [] →
    ∀ (pins : List (Addr × Obj)) (s : Shared) (σ : L2.St) (H F0 B F : Hp) (δ : Env) (x : V) (u : Value) (d : D) (Q : Bool → Hp → Prop), Inv X pins σ H s → SI X.K F0 B F H σ a δ → RelV x u → Rh X.K F H x d →
      Ans (cmpGo δ d (ops.zip fs)) (fun b => ∀ F' H', SI X.K F0 B F' H' σ a δ → Same F F' → Same H H' → New H F F' → Q b H') (W.ew σ H) →
      wpAny (model X.prog X.w) X.A (testChain p u ops (evalEach es X.env)) (TP X pins σ Q) X.xe s
  | _, _, _, _, .nil, hn => absurd rfl hn
  | [], _ :: _, _, hl, _, _ => by cases hl
  | [op], [b], _, _, .cons (y := fb) hb .nil, _ => fun pins s σ H F0 B F δ x u d Q I S rx r q => by
    have q : Ans ((fb δ).bind fun y => cmpD op d y) _ _ := q
    rw [Ans.bind_iff] at q
    refine test_last (thn (hb.run pins s σ H (fun y H1 => r2B X.K (cmpD op) x y H1 (fun z H2 => ∃ bb, z = .bl bb ∧ Q bb H2)) I ⟨F0, B, F, δ, S, q.imp fun e q w F1 H1 S1 e1 e2 n1 r1 => ?_⟩) fun w s1 ⟨y, H1, I1, r1, q1⟩ =>
      thn (c_all hr op pins s1 σ H1 x y u w _ I1 rx r1 q1) fun c s2 ⟨z, H2, I2, r2, bb, ez, q2⟩ => ?_)
    · exact ⟨F1, d, e, S1.FH, Rh.mono e1 e2 r, r1, (ans_noE q (ne_err_cmp op d e)).imp fun bb q => ⟨bb, rfl, q F1 H1 S1 e1 e2 n1⟩⟩
    · subst ez
      cases r2
      exact wpAny_truthy_bool ⟨H2, I2, q2⟩
  | op :: op' :: ops, b :: b' :: es, _, hl, .cons (y := fb) hb (.cons (y := fb') (ys := fs) hb' hr'), _ => fun pins s σ H F0 B F δ x u d Q I S rx r q => by
    have q : Ans ((fb δ).bind fun y => (cmpD op d y).bind fun t => if t then cmpGo δ y ((op' :: ops).zip (fb' :: fs)) else .ok false) _ _ := q
    rw [Ans.bind_iff] at q
    refine test_link (thn (hb.run pins s σ H (fun y H1 => ∃ F1 e, SI X.K F0 B F1 H1 σ a δ ∧ Same F F1 ∧ Same H H1 ∧ New H F F1 ∧ Rh X.K F1 H1 y e ∧
      Ans ((cmpD op d e).bind fun t => if t then cmpGo δ e ((op' :: ops).zip (fb' :: fs)) else .ok false) (fun b => ∀ F' H', SI X.K F0 B F' H' σ a δ → Same F F' → Same H H' → New H F F' → Q b H') (W.ew σ H))
      I ⟨F0, B, F, δ, S, q.imp fun e q w F1 H1 S1 e1 e2 n1 r1 => ⟨F1, e, S1, e1, e2, n1, r1, q⟩⟩) fun w s1 ⟨y, H1, I1, r1, F1, e, S1, e1, e2, n1, rh1, q1⟩ => ?_)
    rw [Ans.bind_iff] at q1
    obtain ⟨bb, hbb, q1⟩ := q1.ok_of (ne_err_cmp op d e)
    refine thn (c_all hr op pins s1 σ H1 x y u w (fun z H2 => z = .bl bb ∧ H2 = H1) I1 rx r1 ⟨F1, d, e, S1.FH, Rh.mono e1 e2 r, rh1, by rw [hbb]; exact ⟨rfl, rfl⟩⟩) fun c s2 ⟨z, H2, I2, r2, ez, eH⟩ => ?_
    subst ez eH
    cases r2
    refine wpAny_truthy_bool ?_
    cases bb with
    | false =>
      rw [if_neg Bool.false_ne_true]
      exact ⟨H2, I2, q1 F1 H2 S1 e1 e2 n1⟩
    | true =>
      rw [if_pos rfl]
      exact test_run hr (by simpa using hl) (.cons hb' hr') (by simp) _ _ _ _ _ _ _ _ _ _ _ _ I2 S1 r1 rh1 (Ans.mono q1 (fun b _ q F' H' S' e3 e4 n2 => q F' H' S' (e1.trans e3) (e2.trans e4) (n1.trans (n2.back e2))) fun c i z => W.mono _ _ _ _ _ e2 z)
  | [_], _ :: _ :: _, _, hl, _, _ => by simp at hl
  | _ :: _ :: _, [_], _, hl, _, _ => by simp at hl
theorem je_cmp {n : Nat} (hr : Room n X.A) {ops : List CmpOp} {es : List Expr} {fs : List DE} (hl : ops.length = es.length) (hs : ∀ e ∈ es, notSet e = true) (hn : es ≠ []) (ha : JE X W a a1 fa 0) (h : Each2 (fun e f => JE X W a e f 0) es fs) :
    JE X W a (.Compare a1 ops es pos) (eT (tCmp fa (ops.zip fs))) 3 := by
  refine ⟨fun pins s σ H Q I ⟨F0, B, F, δ, S, q⟩ => ?_⟩
  unfold eT tCmp at q
  rw [Ans.bind_iff, Ans.bind_iff] at q
  show wpAny _ _ (do compareChain pos (← eval a1 X.env) ops (markedEach ops es (evalEach es X.env))) _ _ s
  rw [markedEach_of_false _ _ _ (lastMarks_false ops es hs)]
  refine wpAny_bind (thn (ha.run pins s σ H (fun x H1 => ∃ F1 d, SI X.K F0 B F1 H1 σ a δ ∧ Same F F1 ∧ Same H H1 ∧ New H F F1 ∧ Rh X.K F1 H1 x d ∧
    Ans (cmpGo δ d (ops.zip fs)) (fun b => ∀ v F' H', SI X.K F0 B F' H' σ a δ → Same F F' → Same H H' → New H F F' → Res X.K 3 B H F' H' v (.bool b) → Q v H') (W.ew σ H)) I
    ⟨F0, B, F, δ, S, q.imp fun d q v F1 H1 S1 e1 e2 n1 r1 => ⟨F1, d, S1, e1, e2, n1, r1, q⟩⟩) fun u s1 ⟨x, H1, I1, r1, F1, d, S1, e1, e2, n1, rh, q1⟩ => ?_)
  exact chain_run hr hl h hn _ _ _ _ _ _ _ _ _ _ _ _ I1 S1 r1 rh (Ans.mono q1 (fun b _ q F' H' S' e3 e4 n2 => q _ F' H' S' (e1.trans e3) (e2.trans e4) (n1.trans (n2.back e2)) (Rp.bl b)) fun c i z => W.mono _ _ _ _ _ e2 z)
theorem jt_cmp {n : Nat} (hr : Room n X.A) {ops : List CmpOp} {es : List Expr} {fs : List DE} (hl : ops.length = es.length) (hs : ∀ e ∈ es, notSet e = true) (hn : es ≠ []) (ha : JE X W a a1 fa 0) (h : Each2 (fun e f => JE X W a e f 0) es fs) :
    JT X W a (.Compare a1 ops es pos) (tCmp fa (ops.zip fs)) := by
  refine ⟨fun pins s σ H Q I ⟨F0, B, F, δ, S, q⟩ => ?_⟩
  unfold tCmp at q
  rw [Ans.bind_iff] at q
  show wpAny _ _ (do testChain pos (← eval a1 X.env) ops (markedEach ops es (evalEach es X.env))) _ _ s
  rw [markedEach_of_false _ _ _ (lastMarks_false ops es hs)]
  refine wpAny_bind (thn (ha.run pins s σ H (fun x H1 => ∃ F1 d, SI X.K F0 B F1 H1 σ a δ ∧ Same F F1 ∧ Same H H1 ∧ New H F F1 ∧ Rh X.K F1 H1 x d ∧
    Ans (cmpGo δ d (ops.zip fs)) (fun b => ∀ F' H', SI X.K F0 B F' H' σ a δ → Same F F' → Same H H' → New H F F' → Q b H') (W.ew σ H)) I
    ⟨F0, B, F, δ, S, q.imp fun d q v F1 H1 S1 e1 e2 n1 r1 => ⟨F1, d, S1, e1, e2, n1, r1, q⟩⟩) fun u s1 ⟨x, H1, I1, r1, F1, d, S1, e1, e2, n1, rh, q1⟩ => ?_)
  exact test_run hr hl h hn _ _ _ _ _ _ _ _ _ _ _ _ I1 S1 r1 rh (Ans.mono q1 (fun b _ q F' H' S' e3 e4 n2 => q F' H' S' (e1.trans e3) (e2.trans e4) (n1.trans (n2.back e2))) fun c i z => W.mono _ _ _ _ _ e2 z)
end Dv
/-! Dv8: built-in functions by their values. -/
namespace Dv
open PySem PySem.Spec PyProof.Rows L2
variable {X : Cx} {K : PySem.W.Frag} {F F' F0 B H H' : Hp} {v : V} {d : D} {k : Nat} {σ : L2.St} {pins : List (Addr × Obj)} {s : Shared} {Q : VK} {e : Str → Int → Prop}

theorem Rhs.one {xs : List V} (h : Rhs K F H xs [d]) : ∃ v, xs = [v] ∧ Rh K F H v d := by
  cases h with
  | cons a t => cases t; exact ⟨_, rfl, a⟩
theorem Rhs.two {xs : List V} {d2 : D} (h : Rhs K F H xs [d, d2]) : ∃ v w, xs = [v, w] ∧ Rh K F H v d ∧ Rh K F H w d2 := by
  cases h with
  | cons a t =>
    obtain ⟨w, rfl, b⟩ := t.one
    exact ⟨_, w, rfl, a, b⟩
theorem Ans.on1 {f : D → R D} {ds : List D} {kk : D → Prop} (h : Ans (on1 f ds) kk e) : ∃ d, ds = [d] ∧ Ans (f d) kk e := by
  match ds, h with
  | [d], h => exact ⟨d, rfl, h⟩
  | [], h => exact False.elim h
  | _ :: _ :: _, h => exact False.elim h
theorem Ans.on2 {f : D → D → R D} {ds : List D} {kk : D → Prop} (h : Ans (on2 f ds) kk e) : ∃ d d2, ds = [d, d2] ∧ Ans (f d d2) kk e := by
  match ds, h with
  | [d, d2], h => exact ⟨d, d2, rfl, h⟩
  | [], h => exact False.elim h
  | [_], h => exact False.elim h
  | _ :: _ :: _ :: _, h => exact False.elim h
/-- a function of one value by what it does at the value -/
theorem b_one {f : Value} {g : D → R D} {r : List V → Hp → VK → Prop} (hc : CallR X f r)
    (h : ∀ (F H : Hp) (v : V) (d : D) (Q : VK), Same F H → Rh X.K F H v d → Ans (g d) (OkV X.K F H Q) noE → r [v] H Q) : CallR X f (rN X.K (on1 g)) := by
  intro pins s σ H xs us Q I rs q
  obtain ⟨F, ds, FH, rh, q⟩ := q
  obtain ⟨d, rfl, q⟩ := q.on1
  obtain ⟨v, rfl, rv⟩ := rh.one
  exact hc pins s σ H [v] us Q I rs (h F H v d Q FH rv q)
theorem b_len : CallR X (.builtin "len") (rN X.K (on1 lenD)) := b_one call_len fun F H v d Q FH rv q => by
  cases d with
  | list ds =>
    obtain ⟨p, xs, rfl, sq, rs⟩ := rv.list_inv FH
    refine ⟨_, xs.length, rfl, .inl ⟨xs, sq.to, rfl⟩, ?_⟩
    rw [rs.length]
    exact okInt FH q
  | tuple ds =>
    obtain ⟨p, xs, rfl, sq, rs⟩ := rv.tup_inv FH
    refine ⟨_, xs.length, rfl, .inr ⟨xs, sq, rfl⟩, ?_⟩
    rw [rs.length]
    exact okInt FH q
  | str x =>
    obtain ⟨rfl, z⟩ := rv.str_inv
    exact ⟨_, x.length, rfl, ⟨line_str z, rfl⟩, okInt FH q⟩
  | _ => exact False.elim q
theorem b_abs : CallR X (.builtin "abs") (rN X.K (on1 absD)) := b_one call_abs fun F H v d Q FH rv q => by
  cases d with
  | int i => cases rv.int_inv; exact ⟨i, rfl, okInt FH q⟩
  | _ => exact False.elim q
theorem b_int : CallR X (.type "int") (rN X.K (on1 intD)) := b_one call_int1 fun F H v d Q FH rv q => by
  cases d with
  | int i => cases rv.int_inv; exact .inl ⟨i, rfl, okInt FH q⟩
  | bool b => cases rv.bl_inv; exact .inr ⟨b, rfl, okInt FH q⟩
  | _ => exact False.elim q
theorem digits_ok (i : Int) (h : i.natAbs.log2 < 1900) : sOk (toString i : Str) := by
  refine ⟨Nat.le_trans ?_ (show 5000 ≤ 12000000 by decide), ?_⟩
  · have e := int_text_length_le (k := 1900) (by decide) h
    rw [PySem.ofString_length]
    omega
  · show (Str.ofString (toString i)).cps.all _ = true
    rw [Str.ofString_eq_toList, ← Array.all_toList]
    refine List.all_eq_true.mpr fun c hc => ?_
    obtain ⟨ch, _, rfl⟩ := List.mem_map.mp (by simpa using hc)
    exact decide_eq_true (by have h1 := ch.valid; have e : ch.toNat = ch.val.toNat := rfl; unfold UInt32.isValidChar Nat.isValidChar at h1; omega)
theorem b_str : CallR X (.type "str") (rN X.K (on1 strD)) := b_one call_str_int fun F H v d Q FH rv q => by
  cases d with
  | int i =>
    cases rv.int_inv
    obtain ⟨h, q⟩ := Ans.if_bad (c := i.natAbs.log2 < 1900) q
    exact ⟨i, rfl, by omega, okStr FH (digits_ok i h) q⟩
  | _ => exact False.elim q
theorem b_list : CallR X (.type "list") (rN X.K (on1 listD)) := b_one call_list_of fun F H v d Q FH rv q => by
  cases d with
  | list ds =>
    obtain ⟨p, xs, rfl, sq, rs⟩ := rv.list_inv FH
    exact ⟨p, xs, rfl, .inl sq.to, fun l hl => okLst FH hl rs q⟩
  | tuple ds =>
    obtain ⟨p, xs, rfl, sq, rs⟩ := rv.tup_inv FH
    exact ⟨p, xs, rfl, .inr sq, fun l hl => okLst FH hl rs q⟩
  | _ => exact False.elim q
theorem b_tuple : CallR X (.type "tuple") (rN X.K (on1 tupleD)) := b_one call_tuple_of fun F H v d Q FH rv q => by
  cases d with
  | list ds =>
    obtain ⟨p, xs, rfl, sq, rs⟩ := rv.list_inv FH
    exact ⟨p, xs, rfl, .inl ⟨sq.to, fun l hl => okTup FH hl rs q⟩⟩
  | tuple ds =>
    obtain ⟨p, xs, rfl, sq, rs⟩ := rv.tup_inv FH
    exact ⟨p, xs, rfl, .inr ⟨sq, okTupOld FH sq ds rv rfl q⟩⟩
  | _ => exact False.elim q
theorem Rps.intsOf {F : Hp} : ∀ {vs : List V} {ds : List D} {ns : List Int}, Rps K F vs ds → Dv.intsOf ds = some ns → vs = ns.map V.int
  | _, _, ns, .nil, h => by cases h; rfl
  | _, _, ns, .cons (d := d) a t, h => by
    cases d with
    | int i =>
      cases a.int_inv
      unfold Dv.intsOf at h
      obtain ⟨ms, h1, rfl⟩ := Option.map_eq_some_iff.mp h
      rw [List.map_cons, ← Rps.intsOf t h1]
    | _ => cases h
theorem Rps.boolsOf {F : Hp} : ∀ {vs : List V} {ds : List D} {ns : List Bool}, Rps K F vs ds → Dv.boolsOf ds = some ns → vs = ns.map V.bl
  | _, _, ns, .nil, h => by cases h; rfl
  | _, _, ns, .cons (d := d) a t, h => by
    cases d with
    | bool i =>
      cases a.bl_inv
      unfold Dv.boolsOf at h
      obtain ⟨ms, h1, rfl⟩ := Option.map_eq_some_iff.mp h
      rw [List.map_cons, ← Rps.boolsOf t h1]
    | _ => cases h
theorem Rps.strsOf {F : Hp} : ∀ {vs : List V} {ds : List D} {ns : List Str}, Rps K F vs ds → Dv.strsOf ds = some ns → vs = ns.map V.str ∧ ∀ x ∈ ns, sOk x
  | _, _, ns, .nil, h => by cases h; exact ⟨rfl, by simp⟩
  | _, _, ns, .cons (d := d) a t, h => by
    cases d with
    | str i =>
      obtain ⟨rfl, z⟩ := a.str_inv
      unfold Dv.strsOf at h
      obtain ⟨ms, h1, rfl⟩ := Option.map_eq_some_iff.mp h
      obtain ⟨h2, h3⟩ := Rps.strsOf t h1
      rw [List.map_cons, ← h2]
      refine ⟨rfl, fun x hx => ?_⟩
      rcases List.mem_cons.mp hx with rfl | hx
      · exact z
      · exact h3 x hx
    | _ => cases h
theorem Ans.bindO {α β : Type} {o : Option α} {f : α → R β} {kk : β → Prop} (h : Ans (Dv.bindO o f) kk e) : ∃ a, o = some a ∧ Ans (f a) kk e := by
  cases o with
  | none => exact False.elim h
  | some a => exact ⟨a, rfl, h⟩
theorem b_sum (hc : X.calm = true) : CallR X (.builtin "sum") (rN X.K (on1 sumD)) := b_one (cr_sum hc) fun F H v d Q FH rv q => by
  cases d with
  | list ds =>
    obtain ⟨p, xs, rfl, sq, rs⟩ := rv.list_inv FH
    have q : Ans (match intsOf ds with | some ns => R.ok (.int ns.sum) | none => .bad) (OkV X.K F H Q) noE := q
    cases h : intsOf ds with
    | none => rw [h] at q; exact False.elim q
    | some ns =>
      rw [h] at q
      exact ⟨p, ns, rfl, by rw [← rs.intsOf h]; exact sq.to, okInt FH q⟩
  | _ => exact False.elim q
theorem b_all (hc : X.calm = true) : CallR X (.builtin "all") (rN X.K (on1 allD)) := b_one (cr_all hc) fun F H v d Q FH rv q => by
  cases d with
  | list ds =>
    obtain ⟨p, xs, rfl, sq, rs⟩ := rv.list_inv FH
    have q : Ans (match boolsOf ds with | some ns => R.ok (.bool (ns.all id)) | none => .bad) (OkV X.K F H Q) noE := q
    cases h : boolsOf ds with
    | none => rw [h] at q; exact False.elim q
    | some ns =>
      rw [h] at q
      exact ⟨p, ns, rfl, by rw [← rs.boolsOf h]; exact sq.to, okBl FH q⟩
  | _ => exact False.elim q
theorem b_any (hc : X.calm = true) : CallR X (.builtin "any") (rN X.K (on1 anyD)) := b_one (cr_any hc) fun F H v d Q FH rv q => by
  cases d with
  | list ds =>
    obtain ⟨p, xs, rfl, sq, rs⟩ := rv.list_inv FH
    have q : Ans (match boolsOf ds with | some ns => R.ok (.bool (ns.any id)) | none => .bad) (OkV X.K F H Q) noE := q
    cases h : boolsOf ds with
    | none => rw [h] at q; exact False.elim q
    | some ns =>
      rw [h] at q
      exact ⟨p, ns, rfl, by rw [← rs.boolsOf h]; exact sq.to, okBl FH q⟩
  | _ => exact False.elim q
theorem maxFold : ∀ (xs : List Int) (m : Int), m ≤ xs.foldl (fun m y => if m < y then y else m) m ∧ (∀ y ∈ xs, y ≤ xs.foldl (fun m y => if m < y then y else m) m) ∧ (xs.foldl (fun m y => if m < y then y else m) m = m ∨ xs.foldl (fun m y => if m < y then y else m) m ∈ xs)
  | [], m => ⟨Int.le_refl _, by simp, .inl rfl⟩
  | x :: xs, m => by
    obtain ⟨h1, h2, h3⟩ := maxFold xs (if m < x then x else m)
    rw [List.foldl_cons]
    have hm : m ≤ (if m < x then x else m) ∧ x ≤ (if m < x then x else m) ∧ ((if m < x then x else m) = m ∨ (if m < x then x else m) = x) := by split <;> omega
    refine ⟨by omega, fun y hy => ?_, ?_⟩
    · rcases List.mem_cons.mp hy with rfl | hy
      · omega
      · exact h2 y hy
    · rcases h3 with h3 | h3
      · rw [h3]
        rcases hm.2.2 with e | e
        · exact .inl e
        · rw [e]; exact .inr (List.mem_cons_self ..)
      · exact .inr (List.mem_cons_of_mem _ h3)
theorem minFold : ∀ (xs : List Int) (m : Int), xs.foldl (fun m y => if y < m then y else m) m ≤ m ∧ (∀ y ∈ xs, xs.foldl (fun m y => if y < m then y else m) m ≤ y) ∧ (xs.foldl (fun m y => if y < m then y else m) m = m ∨ xs.foldl (fun m y => if y < m then y else m) m ∈ xs)
  | [], m => ⟨Int.le_refl _, by simp, .inl rfl⟩
  | x :: xs, m => by
    obtain ⟨h1, h2, h3⟩ := minFold xs (if x < m then x else m)
    rw [List.foldl_cons]
    have hm : (if x < m then x else m) ≤ m ∧ (if x < m then x else m) ≤ x ∧ ((if x < m then x else m) = m ∨ (if x < m then x else m) = x) := by split <;> omega
    refine ⟨by omega, fun y hy => ?_, ?_⟩
    · rcases List.mem_cons.mp hy with rfl | hy
      · omega
      · exact h2 y hy
    · rcases h3 with h3 | h3
      · rw [h3]
        rcases hm.2.2 with e | e
        · exact .inl e
        · rw [e]; exact .inr (List.mem_cons_self ..)
      · exact .inr (List.mem_cons_of_mem _ h3)
theorem maxI_is {ns : List Int} {m m' : Int} (h : maxI ns = some m) (h1 : m' ∈ ns) (h2 : ∀ y, y ∈ ns → y ≤ m') : m' = m := by
  cases ns with
  | nil => cases h
  | cons x xs =>
    obtain ⟨a, b, c⟩ := maxFold xs x
    have e : xs.foldl (fun m y => if m < y then y else m) x = m := Option.some.inj h
    rw [e] at a b c
    have h3 : m ∈ x :: xs := by
      rcases c with c | c
      · rw [c]; exact List.mem_cons_self ..
      · exact List.mem_cons_of_mem _ c
    have h4 := h2 m h3
    rcases List.mem_cons.mp h1 with rfl | h1
    · omega
    · have := b m' h1
      omega
theorem minI_is {ns : List Int} {m m' : Int} (h : minI ns = some m) (h1 : m' ∈ ns) (h2 : ∀ y, y ∈ ns → m' ≤ y) : m' = m := by
  cases ns with
  | nil => cases h
  | cons x xs =>
    obtain ⟨a, b, c⟩ := minFold xs x
    have e : xs.foldl (fun m y => if y < m then y else m) x = m := Option.some.inj h
    rw [e] at a b c
    have h3 : m ∈ x :: xs := by
      rcases c with c | c
      · rw [c]; exact List.mem_cons_self ..
      · exact List.mem_cons_of_mem _ c
    have h4 := h2 m h3
    rcases List.mem_cons.mp h1 with rfl | h1
    · omega
    · have := b m' h1
      omega
theorem oInt_some {o : Option Int} {kk : D → Prop} (h : Ans (oInt o) kk e) : ∃ m, o = some m ∧ kk (.int m) := by
  cases o with
  | none => exact False.elim h
  | some m => exact ⟨m, rfl, h⟩
theorem b_max (hc : X.calm = true) : CallR X (.builtin "max") (rN X.K maxD) := by
  intro pins s σ H xs us Q I rs q
  obtain ⟨F, ds, FH, rh, q⟩ := q
  unfold maxD at q
  split at q
  · rename_i es
    obtain ⟨v, rfl, rv⟩ := rh.one
    obtain ⟨p, ys, rfl, sq, rq⟩ := rv.list_inv FH
    obtain ⟨ns, h, q⟩ := q.bindO
    obtain ⟨m, hm, q⟩ := oInt_some q
    refine cr_max hc pins s σ H _ us Q I rs ⟨p, ns, rfl, by rw [← rq.intsOf h]; exact sq.to, ?_, fun m' h1 h2 => ?_⟩
    · cases ns with
      | nil => cases hm
      | cons => simp
    · cases maxI_is hm h1 h2
      exact okInt FH q
  · rename_i i j
    obtain ⟨v, w, rfl, rv, rw'⟩ := rh.two
    cases rv.int_inv
    cases rw'.int_inv
    exact call_max2 hc pins s σ H _ us Q I rs ⟨i, j, rfl, okInt FH q⟩
  · exact False.elim q
theorem b_min (hc : X.calm = true) : CallR X (.builtin "min") (rN X.K minD) := by
  intro pins s σ H xs us Q I rs q
  obtain ⟨F, ds, FH, rh, q⟩ := q
  unfold minD at q
  split at q
  · rename_i es
    obtain ⟨v, rfl, rv⟩ := rh.one
    obtain ⟨p, ys, rfl, sq, rq⟩ := rv.list_inv FH
    obtain ⟨ns, h, q⟩ := q.bindO
    obtain ⟨m, hm, q⟩ := oInt_some q
    refine cr_min hc pins s σ H _ us Q I rs ⟨p, ns, rfl, by rw [← rq.intsOf h]; exact sq.to, ?_, fun m' h1 h2 => ?_⟩
    · cases ns with
      | nil => cases hm
      | cons => simp
    · cases minI_is hm h1 h2
      exact okInt FH q
  · rename_i i j
    obtain ⟨v, w, rfl, rv, rw'⟩ := rh.two
    cases rv.int_inv
    cases rw'.int_inv
    exact call_min2 hc pins s σ H _ us Q I rs ⟨i, j, rfl, okInt FH q⟩
  · exact False.elim q
/-! ### repr -/
theorem noDict_hsm' {d : PyData} {as : List Addr} (h : d.hasDict = false) : d.hasDict = true → sysModules ∉ as := fun h' => by rw [h] at h'; cases h'
theorem b_repr {n : Nat} (hr : Room n X.A) (hg : X.A.guards = some []) : CallR X (.builtin "repr") (rN X.K (on1 reprD)) := by
  intro pins s σ H xs us Q I rs q
  obtain ⟨F, ds, FH, rh, q⟩ := q
  obtain ⟨d, rfl, q⟩ := q.on1
  obtain ⟨v, rfl, rv⟩ := rh.one
  obtain ⟨u, rfl, ru⟩ := rs.one
  obtain ⟨h, q⟩ := Ans.if_bad (c := reprOk d = true) q
  unfold reprOk at h
  rw [Bool.and_eq_true, Bool.and_eq_true, Bool.and_eq_true] at h
  obtain ⟨⟨⟨h1, h2⟩, h3⟩, h4⟩ := h
  have h3 := of_decide_eq_true h3
  have hz : (PyData.shown d).length ≤ sizeLine := Nat.le_trans h3 (by decide)
  have fin : ∀ (h' : Heap) (u : Tok) (tk : Nat), (∀ b o, s.heap.get? b = some o → h'.get? b = some o) → EP X pins σ Q (.str d.shown u) { s with heap := h', toks := tk } := fun h' u tk hk =>
    ⟨.str d.shown, H, I.kept hk, ⟨_, rfl⟩, okStr FH ⟨Nat.le_trans h3 (by decide), h4⟩ q⟩
  obtain ⟨as, rd⟩ := dpr I FH rv ru
  have hdep := fl_depth _ _ h1
  have e12 : deep = 12 := rfl
  have hu := units64 hr
  cases d with
  | none => cases rv.non_inv; cases ru; exact PySem.P.repr_of_none (fin _ _ _ fun _ _ e => e)
  | bool b =>
    cases rv.bl_inv; cases ru
    refine PySem.P.repr_of_bool ?_
    have := fin s.heap s.toks (s.toks + 1) fun _ _ e => e
    simpa only [PyData.shown] using this
  | int i =>
    cases rv.int_inv
    obtain ⟨t, rfl⟩ := ru
    exact PySem.P.repr_of_int (of_decide_eq_true (by simpa only [PyData.showable] using h2)) (by
      have := fin s.heap s.toks (s.toks + 1) fun _ _ e => e
      simpa only [PyData.shown] using this)
  | str x =>
    obtain ⟨rfl, z⟩ := rv.str_inv
    obtain ⟨t, rfl⟩ := ru
    exact PySem.P.repr_of_str (by
      have := fin s.heap s.toks (s.toks + 1) fun _ _ e => e
      simpa only [PyData.shown] using this) (by simpa only [PyData.shown] using hz)
  | list ds =>
    obtain ⟨p, ys, rfl, sq, rq⟩ := rv.list_inv FH
    cases ru
    exact PySem.repr_of_reads' rd h2 (noDict_hsm' (PySem.PyData.hasDict_of_canLay _ rv.lay)) hg (by omega) (fun _ _ e => e) fin hz
  | tuple ds =>
    obtain ⟨p, ys, rfl, sq, rq⟩ := rv.tup_inv FH
    cases ru
    exact PySem.repr_of_reads' rd h2 (noDict_hsm' (PySem.PyData.hasDict_of_canLay _ rv.lay)) hg (by omega) (fun _ _ e => e) fin hz
  | dict kvs => exact rv.dict_inv.elim
/-! ### sorted -/
def stands (K : PySem.W.Frag) (F : Hp) (u : Value) (d : D) : Prop := ∃ v, RelV v u ∧ Rp K F v d
theorem each_of {F : Hp} : ∀ {vs : List V} {us : List Value} {ds : List D}, Vals vs us → Rps K F vs ds → PySem.W.EachIs (stands K F) us ds
  | _, _, _, .nil, .nil => .nil
  | _, _, _, .cons a b, .cons c d => .cons ⟨_, a, c⟩ (each_of b d)
theorem each_to {F : Hp} : ∀ {us : List Value} {ds : List D}, PySem.W.EachIs (stands K F) us ds → ∃ vs, Vals vs us ∧ Rps K F vs ds
  | _, _, .nil => ⟨[], .nil, .nil⟩
  | _, _, .cons ⟨v, a, c⟩ t => by
    obtain ⟨vs, b, d⟩ := each_to t
    exact ⟨v :: vs, .cons a b, .cons c d⟩
theorem each_reads {F : Hp} (I : Inv X pins σ H s) (FH : Same F H) : ∀ {us : List Value} {ds : List D}, PySem.W.EachIs (stands X.K F) us ds → PySem.W.EachIs (fun v b => ∃ as, Reads s.heap v (id b) as) us ds
  | _, _, .nil => .nil
  | _, _, .cons ⟨v, a, c⟩ t => .cons (dpr I FH (.inl c) a) (each_reads I FH t)
theorem b_sorted {n : Nat} (hr : Room n X.A) : CallR X (.builtin "sorted") (rN X.K (on1 sortedD)) := by
  intro pins s σ H xs us Q I rs q
  obtain ⟨F, ds, FH, rh, q⟩ := q
  obtain ⟨d, rfl, q⟩ := q.on1
  obtain ⟨v, rfl, rv⟩ := rh.one
  obtain ⟨u, rfl, ru⟩ := rs.one
  cases d with
  | list ds =>
    obtain ⟨p, ys, rfl, sq, rq⟩ := rv.list_inv FH
    cases ru
    obtain ⟨h, q⟩ := Ans.if_bad (c := sortOk ds = true) q
    unfold sortOk at h
    rw [Bool.and_eq_true, Bool.and_eq_true, Bool.and_eq_true] at h
    obtain ⟨⟨⟨h0, h1⟩, h2⟩, h3⟩ := h
    have h0 := of_decide_eq_true h0
    have hu := units64 hr
    obtain ⟨its, rv', pl, hz⟩ := I.list sq.to
    have ee := each_of rv' rq
    refine PySem.W.sorted_data (enc := id) (R := stands X.K F) pl.isList ee (each_reads I FH ee) ?_ ?_ (line_of h0) ?_ fun out ho eo => ?_
    · intro a ha b hb
      rw [List.map_id] at ha hb
      exact List.all_eq_true.mp (List.all_eq_true.mp h3 a ha) b hb
    · rw [List.map_id]
      rw [Bool.or_eq_true] at h2
      rcases h2 with h2 | h2
      · refine .inl fun a ha => ?_
        have := List.all_eq_true.mp h2 a ha
        cases a with
        | tuple zs =>
          cases zs with
          | nil => cases this
          | cons x r => exact ⟨x, r, rfl⟩
        | _ => cases this
      · refine .inr fun a ha => ?_
        have := List.all_eq_true.mp h2 a ha
        cases a with
        | none => cases this
        | tuple zs => cases this
        | _ => exact ⟨by simp, by simp⟩
    · intro b hb
      have := fl_depth _ _ (List.all_eq_true.mp h1 b hb)
      have e12 : deep = 12 := rfl
      show _ + 2 + b.depth < _
      omega
    · obtain ⟨vs, rv2, rq2⟩ := each_to eo
      obtain ⟨c, hc⟩ := sortedAll_at s.heap its out.toArray
      have hn : vs.length ≤ sizeLine := by
        rw [rv2.length, ho]; exact line_of h0
      refine ⟨.ref (s.heap.objs.size + 1), _, I.laid (t' := s.toks) (o := .lst vs) (fun b o e => sortedAll_old e) (Nat.le_succ _) ⟨hn, out, c, rv2, hc⟩, rfl, ?_⟩
      exact okLst FH (I.hok.fresh (Nat.le_succ _)) rq2 q
  | _ => exact False.elim q
end Dv
/-! Dv9: calls of built-ins and of methods; freezing by names. -/
namespace Dv
open PySem PySem.Spec PyProof.Rows L2
variable {X : Cx} {W : Wi} {K : PySem.W.Frag} {F F' F0 B H H' : Hp} {v : V} {d : D} {k : Nat} {σ : L2.St} {δ : Env} {pins : List (Addr × Obj)} {s : Shared} {Q : VK} {e : Expr} {a : List Bool} {f : DE} {pos p : Pos}

/-! ### no stars -/
def plainE : Expr → Bool
  | .Starred _ _ => false
  | _ => true
theorem star_cons {e : Expr} {es : List Expr} {env : PySem.Env} (h : plainE e = true) : starEach (e :: es) env = (false, eval e env) :: starEach es env := by
  cases e <;> first | rfl | cases h
theorem star_any {es : List Expr} {env : PySem.Env} (pos : Pos) (h : es.all plainE = true) : (backTo pos (starEach es env)).any (·.1) = false := by
  induction es with
  | nil => rfl
  | cons e es ih =>
    rw [List.all_cons, Bool.and_eq_true] at h
    rw [star_cons h.1]
    show (false || (backTo pos (starEach es env)).any (·.1)) = false
    rw [ih h.2]
    rfl
theorem star_all {es : List Expr} {env : PySem.Env} (pos : Pos) (h : es.all plainE = true) : (backTo pos (starEach es env)).all (fun x => !x.1) = true := by
  induction es with
  | nil => rfl
  | cons e es ih =>
    rw [List.all_cons, Bool.and_eq_true] at h
    rw [star_cons h.1]
    show (true && (backTo pos (starEach es env)).all _) = true
    rw [ih h.2]
    rfl
theorem ja_all : ∀ {es : List Expr} {fs : List DE}, Each2 (fun e f => JE X W a e f 2) es fs → es.all plainE = true → JA X W a es fs
  | _, _, .nil, _ => ja_nil
  | _, _, .cons h t, hp => by
    rw [List.all_cons, Bool.and_eq_true] at hp
    exact ja_cons h (ja_all t hp.2) (star_cons hp.1)
theorem jr_all : ∀ {es : List Expr} {fs : List DE}, Each2 (fun e f => JE X W a e f 0) es fs → es.all plainE = true → JR X W a es fs
  | _, _, .nil, _ => jr_nil
  | _, _, .cons h t, hp => by
    rw [List.all_cons, Bool.and_eq_true] at hp
    exact jr_cons h (jr_all t hp.2) (star_cons hp.1)

/-! ### built-ins -/
theorem je_callB {fs : List DE} {g : List D → R D} {t : TE}
    (hc : PE X e t) (ht : ∀ σ H Q, tCB (rN X.K g) (tJA X.K W a fs fun F H vs ds => Rhs X.K F H vs ds) σ H Q → t σ H Q) (ng : ∀ ds c i, g ds ≠ .err c i) : JE X W a e (eCall g fs) 3 :=
  hc.imp fun σ H Q ⟨F0, B, F, δ, S, q⟩ => by
    refine ht σ H Q ⟨F0, B, F, δ, S, ?_⟩
    unfold eCall at q
    rw [Ans.bind_iff] at q
    exact q.imp fun ds q vs F1 H1 S1 e1 e2 n1 r1 => ⟨F1, ds, S1.FH, r1, (ans_noE q (ng ds)).imp fun z q w F' H' e3 e4 e5 n r => q w F' H' (S1.later e3 e4 e5 n) (e1.trans e3) (e2.trans e4) (n1.trans (n.back e2)) (Ow.early e2 r)⟩
theorem ne_err_on1 {f : D → R D} (h : ∀ d c i, f d ≠ .err c i) : ∀ ds c i, on1 f ds ≠ .err c i := by
  intro ds c i
  match ds with
  | [d] => exact h d c i
  | [] => intro h; cases h
  | _ :: _ :: _ => intro h; cases h
theorem ne_bindO {α β : Type} {o : Option α} {f : α → R β} (h : ∀ a c i, f a ≠ .err c i) (c : Str) (i : Int) : bindO o f ≠ .err c i := by
  cases o with
  | none => intro h; cases h
  | some a => exact h a c i
theorem ne_oInt (o : Option Int) (c : Str) (i : Int) : oInt o ≠ .err c i := by cases o <;> intro h <;> cases h
theorem ite_ne {α : Type} {c : Prop} [Decidable c] {a b z : α} (ha : a ≠ z) (hb : b ≠ z) : (if c then a else b) ≠ z := by
  by_cases h : c
  · rw [if_pos h]; exact ha
  · rw [if_neg h]; exact hb
theorem ite_is {α : Type} {c : Prop} [Decidable c] {a b z : α} (ha : a = z) (hb : b = z) : (if c then a else b) = z := by
  by_cases h : c
  · rw [if_pos h]; exact ha
  · rw [if_neg h]; exact hb
theorem ne_err_callB (x : Str) : ∀ ds c i, callB x ds ≠ .err c i := by
  intro ds c i
  unfold callB
  refine ite_ne (ne_err_on1 (fun d c i => by unfold lenD; split <;> (try split) <;> intro h <;> cases h) ds c i) ?_
  refine ite_ne (ne_err_on1 (fun d c i => by unfold absD; split <;> (try split) <;> intro h <;> cases h) ds c i) ?_
  refine ite_ne (ne_err_on1 (fun d c i => by unfold sumD; split <;> (try split) <;> intro h <;> cases h) ds c i) ?_
  refine ite_ne (ne_err_on1 (fun d c i => by unfold allD; split <;> (try split) <;> intro h <;> cases h) ds c i) ?_
  refine ite_ne (ne_err_on1 (fun d c i => by unfold anyD; split <;> (try split) <;> intro h <;> cases h) ds c i) ?_
  refine ite_ne (ne_err_on1 (fun d c i => by unfold intD; split <;> (try split) <;> intro h <;> cases h) ds c i) ?_
  refine ite_ne (ne_err_on1 (fun d c i => by unfold strD; split <;> (try split) <;> intro h <;> cases h) ds c i) ?_
  refine ite_ne (ne_err_on1 (fun d c i => by unfold listD; split <;> (try split) <;> intro h <;> cases h) ds c i) ?_
  refine ite_ne (ne_err_on1 (fun d c i => by unfold tupleD; split <;> (try split) <;> intro h <;> cases h) ds c i) ?_
  refine ite_ne (ne_err_on1 (fun d c i => by unfold sortedD; split <;> (try split) <;> intro h <;> cases h) ds c i) ?_
  refine ite_ne (ne_err_on1 (fun d c i => by unfold reprD; split <;> (try split) <;> intro h <;> cases h) ds c i) ?_
  refine ite_ne (by
    unfold maxD
    split
    · exact ne_bindO (fun a c i => ne_oInt _ c i) c i
    · intro h; cases h
    · intro h; cases h) ?_
  refine ite_ne (by
    unfold minD
    split
    · exact ne_bindO (fun a c i => ne_oInt _ c i) c i
    · intro h; cases h
    · intro h; cases h) ?_
  intro h; cases h
/-- which built-ins are known -/
def bnames : List Str := ["len", "abs", "sum", "all", "any", "int", "str", "list", "tuple", "sorted", "repr", "max", "min"]
theorem never {t : TE} (h : ∀ σ H Q, ¬ t σ H Q) : PE X e t := ⟨fun _ _ σ H Q _ q => (h σ H Q q).elim⟩
theorem je_bad {f : DE} (h : ∀ δ, f δ = .bad) : JE X W a e f k := never fun σ H Q ⟨_, _, _, δ, _, q⟩ => by rw [h δ] at q; exact q
theorem jt_bad {t : DT} (h : ∀ δ, t δ = .bad) : JT X W a e t := ⟨fun _ _ σ H Q _ ⟨_, _, _, δ, _, q⟩ => by rw [h δ] at q; exact q.elim⟩
theorem callB_nil (x : Str) : callB x [] = .bad := by
  unfold callB
  iterate 13 refine ite_is rfl ?_
  rfl
theorem je_bn {n : Nat} (hr : Room n X.A) (hg : X.A.guards = some []) (hc : X.calm = true) {x : Str} (hx : x ∈ bnames) (gl : Gl X x) (hm : X.mg x = none) : ∀ {es : List Expr} {fs : List DE}, JR X W a es fs → es.all plainE = true → Each2 (fun _ _ => True) es fs →
    JE X W a (.Call (.Name x p) es [] pos) (eCall (callB x) fs) 3
  | [], _, _, _, .nil => je_bad fun δ => by show callB x [] = _; exact callB_nil x
  | e :: es, f :: fs, ha, hp, .cons _ _ => by
    rw [List.all_cons, Bool.and_eq_true] at hp
    have he := fun (env : PySem.Env) => star_cons (es := es) (env := env) hp.1
    have hpl := star_any (env := X.env) pos hp.2
    have ng := ne_err_callB x
    simp only [bnames, List.mem_cons, List.mem_nil_iff, or_false] at hx
    rcases hx with rfl | rfl | rfl | rfl | rfl | rfl | rfl | rfl | rfl | rfl | rfl | rfl | rfl
    · exact je_callB (pe_callB b_len gl hm rfl ha (by decide) (by decide) (he _) hpl) (fun _ _ _ q => q) ng
    · exact je_callB (pe_callB b_abs gl hm rfl ha (by decide) (by decide) (he _) hpl) (fun _ _ _ q => q) ng
    · exact je_callB (pe_callB (b_sum hc) gl hm rfl ha (by decide) (by decide) (he _) hpl) (fun _ _ _ q => q) ng
    · exact je_callB (pe_callB (b_all hc) gl hm rfl ha (by decide) (by decide) (he _) hpl) (fun _ _ _ q => q) ng
    · exact je_callB (pe_callB (b_any hc) gl hm rfl ha (by decide) (by decide) (he _) hpl) (fun _ _ _ q => q) ng
    · exact je_callB (pe_callTy b_int gl hm rfl ha (by decide) (by decide) (he _) hpl) (fun _ _ _ q => q) ng
    · exact je_callB (pe_callTy b_str gl hm rfl ha (by decide) (by decide) (he _) hpl) (fun _ _ _ q => q) ng
    · exact je_callB (pe_callTy b_list gl hm rfl ha (by decide) (by decide) (he _) hpl) (fun _ _ _ q => q) ng
    · exact je_callB (pe_callTy b_tuple gl hm rfl ha (by decide) (by decide) (he _) hpl) (fun _ _ _ q => q) ng
    · exact je_callB (pe_callB (b_sorted hr) gl hm rfl ha (by decide) (by decide) (he _) hpl) (fun _ _ _ q => q) ng
    · exact je_callB (pe_callB (b_repr hr hg) gl hm rfl ha (by decide) (by decide) (he _) hpl) (fun _ _ _ q => q) ng
    · exact je_callB (pe_callB (b_max hc) gl hm rfl ha (by decide) (by decide) (he _) hpl) (fun _ _ _ q => q) ng
    · exact je_callB (pe_callB (b_min hc) gl hm rfl ha (by decide) (by decide) (he _) hpl) (fun _ _ _ q => q) ng

/-! ### methods -/
def MR (X : Cx) (id : String) (g : List D → R D) : Prop := ∃ r : V → List V → Hp → VK → Prop, MtR X id r ∧ ∀ x xs H Q, rN X.K g (x :: xs) H Q → r x xs H Q
theorem m_starts : MR X "str.startswith" (on2 startsD) := ⟨_, mt_startswith, fun x xs H Q ⟨F, ds, FH, rh, q⟩ => by
  obtain ⟨d, d2, rfl, q2⟩ := q.on2
  obtain ⟨v, w, e, rv, rw'⟩ := rh.two
  cases e
  unfold startsD at q2
  split at q2
  · obtain ⟨rfl, z⟩ := rv.str_inv
    obtain ⟨rfl, z2⟩ := rw'.str_inv
    exact ⟨_, _, rfl, rfl, okBl FH q2⟩
  · exact False.elim q2⟩
theorem m_join : MR X "str.join" (on2 joinD) := ⟨_, mt_join, fun x xs H Q ⟨F, ds, FH, rh, q⟩ => by
  obtain ⟨d, d2, rfl, q2⟩ := q.on2
  obtain ⟨v, w, e, rv, rw'⟩ := rh.two
  cases e
  unfold joinD at q2
  split at q2
  · obtain ⟨rfl, z⟩ := rv.str_inv
    obtain ⟨a, ys, rfl, sq, rs⟩ := rw'.list_inv FH
    obtain ⟨ss, hs, q2⟩ := q2.bindO
    obtain ⟨h, q2⟩ := Ans.if_bad (c := joinOk _ ss = true) q2
    unfold joinOk at h
    rw [Bool.and_eq_true, Bool.and_eq_true] at h
    obtain ⟨⟨h1, h2⟩, h3⟩ := h
    have h1 := of_decide_eq_true h1
    have h2 := of_decide_eq_true h2
    obtain ⟨e1, _⟩ := rs.strsOf hs
    exact ⟨_, a, ss, rfl, rfl, .inl (by rw [← e1]; exact sq.to), by omega, okStr FH ⟨h2, h3⟩ q2⟩
  · exact False.elim q2⟩
theorem index_of {y : D} : ∀ {xs : List D} {n : Nat} {kk : D → Prop} {e : Str → Int → Prop}, Ans (indexGo y n xs) kk e → ∃ j z, xs[j]? = some z ∧ PyData.eqv z y = true ∧ (∀ (m : Nat) (z' : D), m < j → xs[m]? = some z' → PyData.eqv z' y = false) ∧ kk (.int ((n + j : Nat) : Int))
  | [], _, _, _, h => False.elim h
  | x :: xs, n, kk, e, h => by
    unfold indexGo at h
    by_cases hx : PyData.eqv x y = true
    · rw [if_pos hx] at h
      exact ⟨0, x, rfl, hx, fun m z hm => absurd hm (Nat.not_lt_zero m), h⟩
    · rw [if_neg hx] at h
      obtain ⟨j, z, h1, h2, h3, h4⟩ := index_of h
      refine ⟨j + 1, z, by simpa using h1, h2, fun m z' hm hz => ?_, ?_⟩
      · cases m with
        | zero => simp at hz; subst hz; simpa using hx
        | succ m => exact h3 m z' (by omega) (by simpa using hz)
      · have e1 : n + (j + 1) = n + 1 + j := by omega
        rw [e1]
        exact h4
theorem fl_mono : ∀ (n : Nat) (d : D), fl n d = true → fl (n + 1) d = true := by
  intro n
  induction n with
  | zero => intro d h; cases d <;> first | rfl | cases h
  | succ n ih =>
    intro d h
    cases d with
    | list xs =>
      unfold fl at h ⊢
      exact List.all_eq_true.mpr fun x hx => ih x (List.all_eq_true.mp h x hx)
    | tuple xs =>
      unfold fl at h ⊢
      exact List.all_eq_true.mpr fun x hx => ih x (List.all_eq_true.mp h x hx)
    | dict kvs => cases h
    | _ => rfl
theorem shaped_list {F H : Hp} {v : V} {ds : List D} (h : ds.all (fl deep) = true) (hv : Rh K F H v (.list ds)) : SeqAt.shaped (.list ds) = true := by
  have h13 : fl 13 (.list ds) = true := h
  have hd := fl_depth _ _ h13
  have hl := hv.lay
  unfold SeqAt.shaped
  rw [Bool.and_eq_true]
  refine ⟨?_, ?_⟩ <;> first | exact hl | exact decide_eq_true (by omega)
theorem m_index {n : Nat} (hr : Room n X.A) : MR X "list.index" (on2 indexD) := ⟨_, mt_indexD (by have := hr.un; omega), fun x xs H Q ⟨F, ds, FH, rh, q⟩ => by
  obtain ⟨d, d2, rfl, q2⟩ := q.on2
  obtain ⟨v, w, e, rv, rw'⟩ := rh.two
  cases e
  unfold indexD at q2
  split at q2
  · rename_i es
    have q2 : Ans (if (fl deep d2 && es.all (fl deep)) = true then indexGo d2 0 es else .bad) (OkV X.K F H Q) noE := q2
    split at q2
    · rename_i h
      rw [Bool.and_eq_true] at h
      obtain ⟨j, z, h1, h2, h3, h4⟩ := index_of q2
      obtain ⟨p, ys, rfl, sq, rs⟩ := rv.list_inv FH
      rw [Nat.zero_add] at h4
      exact ⟨p, w, d2, es, j, z, rfl, rfl, rv.dp FH, rw'.dp FH, shaped_list h.2 rv, shaped_of h.1 rw', h1, h2, h3, okInt FH h4⟩
    · exact False.elim q2
  · exact False.elim q2⟩
/-- what stands ahead of a method's dot is not super() -/
def baseOk : Expr → Bool
  | .Call (.Name x _) [] [] _ => x != "super"
  | _ => true
theorem base_of {o : Expr} {m : Str} {env : PySem.Env} {whole : Sem Value} (h : baseOk o = true) : attributeBase o m env whole = whole := by
  unfold attributeBase
  split
  · rename_i x _ pos
    have h : (x != "super") = true := h
    rw [h]
    rfl
  · rfl
def metTy (m : Str) : String := if m = "index" then "list" else "str"
theorem metOk_ty {m : Str} {F H : Hp} {v : V} {d : D} (FH : Same F H) (h : metOk m d = true) (r : Rh K F H v d) (hm : m ∈ mets) : tyV K (metTy m) v H := by
  cases d with
  | list ds =>
    obtain ⟨p, xs, rfl, sq, _⟩ := r.list_inv FH
    have : m = "index" := eq_of_beq h
    subst this
    exact .inl ⟨rfl, xs, sq.to⟩
  | str x =>
    obtain ⟨rfl, _⟩ := r.str_inv
    have h : (m != "index") = true := h
    show metTy m = "str"
    unfold metTy
    rw [if_neg (by simpa using h)]
  | _ => cases h
theorem ne_err_callM (m : Str) : ∀ ds c i, callM m ds ≠ .err c i := by
  have two : ∀ {f : D → D → R D}, (∀ x y c i, f x y ≠ .err c i) → ∀ ds c i, on2 f ds ≠ .err c i := by
    intro f hf ds c i
    match ds with
    | [x, y] => exact hf x y c i
    | [] => intro h; cases h
    | [_] => intro h; cases h
    | _ :: _ :: _ :: _ => intro h; cases h
  have ig : ∀ (y : D) (xs : List D) (n : Nat) (c : Str) (i : Int), indexGo y n xs ≠ .err c i := by
    intro y xs
    induction xs with
    | nil => intro n c i h; cases h
    | cons x xs ih =>
      intro n c i
      unfold indexGo
      split
      · intro h; cases h
      · exact ih _ c i
  intro ds c i
  unfold callM
  split
  · exact two (fun x y c i => by
      unfold indexD
      split
      · split
        · exact ig _ _ _ _ _
        · intro h; cases h
      · intro h; cases h) ds c i
  split
  · exact two (fun x y c i => by
      unfold joinD
      split
      · exact ne_bindO (fun ss c i => by split <;> intro h <;> cases h) c i
      · intro h; cases h) ds c i
  split
  · exact two (fun x y c i => by unfold startsD; split <;> intro h <;> cases h) ds c i
  · intro h; cases h
theorem je_met1 {m : Str} {T id : String} {o : Expr} {es : List Expr} {fo : DE} {fs : List DE} {apos : Pos} {g : List D → R D} (pa : PlainAttrs T) (slot : Slot T m id) (hty : typeOf (.builtin id) = pure (.type "method_descriptor")) (hm : MR X id g) (ok : D → Bool)
    (hok : ∀ (F H : Hp) (v : V) (d : D), Same F H → ok d = true → Rh X.K F H v d → tyV X.K T v H) (ng : ∀ ds c i, g ds ≠ .err c i)
    (ho : JE X W a o fo 0) (ha : JR X W a (e :: es) fs) (hp : (e :: es).all plainE = true) (hb : baseOk o = true) (hl : (apos.endLine == pos.line) = true) (hf : decide ((e :: es).length < 29) = true) :
    JE X W a (.Call (.Attribute o m apos) (e :: es) [] pos) (eMet ok g fo fs) 3 := by
  obtain ⟨r, hr, hg⟩ := hm
  have hp' := hp
  rw [List.all_cons, Bool.and_eq_true] at hp'
  have hf := of_decide_eq_true hf
  refine (pe_bm pa slot hty hr ho ha (base_of hb) ?_ hl (star_cons hp'.1) (star_any pos hp'.2)).imp fun σ H Q ⟨F0, B, F, δ, S, q⟩ => ?_
  · show ((backTo pos (starEach (e :: es) X.env)).all (fun x => !x.1) && true && decide ((e :: es).length + 0 + 0 < 30)) = true
    rw [star_all pos hp, decide_eq_true (by omega)]
    rfl
  · unfold eMet at q
    rw [Ans.bind_iff] at q
    refine ⟨F0, B, F, δ, S, q.imp fun d q v F1 H1 S1 e1 e2 n1 r1 => ?_⟩
    split at q
    · rename_i h
      refine ⟨hok F1 H1 v d S1.FH h r1, F0, B, F1, δ, S1, ?_⟩
      rw [Ans.bind_iff] at q
      exact q.mono (fun ds _ q vs F2 H2 S2 e3 e4 n2 r2 => hg _ _ _ _ ⟨F2, d :: ds, S2.FH, .cons (Rh.mono e3 e4 r1) r2, (ans_noE q (ng _)).imp fun z q w F' H' e5 e6 e7 n r =>
        q w F' H' (S2.later e5 e6 e7 n) (e1.trans (e3.trans e5)) ((e2.trans e4).trans e6) (n1.trans ((n2.back e2).trans (n.back (e2.trans e4)))) (Ow.early (e2.trans e4) r)⟩) fun c i z => W.mono _ _ _ _ _ e2 z
    · exact False.elim q
theorem je_met {n : Nat} (hr : Room n X.A) {m : Str} {o : Expr} {fo : DE} {apos : Pos} (hm : m ∈ mets) (ho : JE X W a o fo 0) (hb : baseOk o = true) (hl : (apos.endLine == pos.line) = true) : ∀ {es : List Expr} {fs : List DE}, JR X W a es fs → es.all plainE = true → Each2 (fun _ _ => True) es fs →
    decide (es.length < 29) = true → es ≠ [] → JE X W a (.Call (.Attribute o m apos) es [] pos) (eMet (metOk m) (callM m) fo fs) 3
  | [], _, _, _, _, _, h => absurd rfl h
  | e :: es, fs, ha, hp, _, hf, _ => by
    have ng := ne_err_callM m
    have hm' := hm
    simp only [mets, List.mem_cons, List.mem_nil_iff, or_false] at hm'
    rcases hm' with rfl | rfl | rfl
    · exact je_met1 PySem.F.plainAttrs_list PySem.F.slot_list_index PySem.F.type_list_index (m_index hr) _ (fun F H v d FH h r => metOk_ty FH h r hm) ng ho ha hp hb hl hf
    · exact je_met1 PySem.F.plainAttrs_str PySem.F.slot_str_join PySem.F.type_str_join m_join _ (fun F H v d FH h r => metOk_ty FH h r hm) ng ho ha hp hb hl hf
    · exact je_met1 PySem.F.plainAttrs_str PySem.F.slot_str_startswith PySem.F.type_str_startswith m_starts _ (fun F H v d FH h r => metOk_ty FH h r hm) ng ho ha hp hb hl hf
end Dv
/-! Dv10: what is walked. -/
namespace Dv
open PySem PySem.Spec PyProof.Rows L2
variable {X : Cx} {W : Wi} {K : PySem.W.Frag} {F F' F0 F1 B H H' H1 : Hp} {v : V} {d : D} {k : Nat} {σ : L2.St} {δ : Env} {pins : List (Addr × Obj)} {s : Shared} {Q : VK} {e tg a1 b1 : Expr} {a : List Bool} {f fa fb : DE} {pos p : Pos}

def ItOf (K : PySem.W.Frag) (F : Hp) (J : It) (ds : List D) : Prop :=
  (∀ (i : Nat) (H F1 : Hp), Same F F1 → Same F1 H → ds.length ≤ i → J.stop i H) ∧
  (∀ (i : Nat) (d : D) (H F1 : Hp), Same F F1 → Same F1 H → ds[i]? = some d → J.go i H ∧ ∀ x H', J.yld i H x H' → ∃ F2, Same F1 F2 ∧ Same H H' ∧ Same F2 H' ∧ New H F1 F2 ∧ Rp K F2 x d)
def tJI (K : PySem.W.Frag) (W : Wi) (a : List Bool) (di : DI) : TI := fun σ H R => ∃ F0 B F δ, SI K F0 B F H σ a δ ∧
  Ans (di δ) (fun ds => ∀ J F' H', SI K F0 B F' H' σ a δ → Same F F' → Same H H' → New H F F' → ItOf K F' J ds → R J H') (W.ew σ H)
def JI (X : Cx) (W : Wi) (a : List Bool) (tg e : Expr) (di : DI) : Prop := PI X tg e (tJI X.K W a di)
theorem _root_.L2.PI.imp {X : Cx} {tg e : Expr} {t t' : TI} (h : PI X tg e t) (i : ∀ σ H R, t' σ H R → t σ H R) : PI X tg e t' := ⟨fun pins s σ H R I q => h.run pins s σ H R I (i σ H R q)⟩

theorem SqR.lenOf {a : Addr} {xs : List V} {ds : List D} (r : Rps K F xs ds) (i : Nat) : ds.length ≤ i ↔ xs.length ≤ i := by rw [r.length]
/-- a list as the library reads it has the items that it is known to have -/
theorem it_list {p : Addr} {xs : List V} {ds : List D} (sq : SqR K F p xs) (rs : Rps K F xs ds) : ItOf K F (Itl K p) ds := by
  refine ⟨fun i H F1 e1 e2 hi => ⟨xs, (sq.mono (e1.trans e2)).to, by rw [rs.length]; exact hi⟩, fun i d H F1 e1 e2 hd => ?_⟩
  obtain ⟨v, hv, rv⟩ := rs.get hd
  refine ⟨⟨xs, v, (sq.mono (e1.trans e2)).to, hv⟩, fun x H' ⟨eH, hx⟩ => ?_⟩
  subst eH
  have := hx xs (sq.mono (e1.trans e2)).to
  rw [hv] at this
  cases this
  exact ⟨F1, Same.refl _, Same.refl _, e2, New.refl _ _, Rp.mono e1 _ _ rv⟩
theorem it_tup {p : Addr} {xs : List V} {ds : List D} (sq : SqT K F p xs) (rs : Rps K F xs ds) : ItOf K F (Itt K p) ds := by
  refine ⟨fun i H F1 e1 e2 hi => ⟨xs, same_t (e1.trans e2) sq, by rw [rs.length]; exact hi⟩, fun i d H F1 e1 e2 hd => ?_⟩
  obtain ⟨v, hv, rv⟩ := rs.get hd
  refine ⟨⟨xs, v, same_t (e1.trans e2) sq, hv⟩, fun x H' ⟨eH, hx⟩ => ?_⟩
  subst eH
  have := hx xs (same_t (e1.trans e2) sq)
  rw [hv] at this
  cases this
  exact ⟨F1, Same.refl _, Same.refl _, e2, New.refl _ _, Rp.mono e1 _ _ rv⟩
theorem it_up (lo : Int) (n : Nat) : ItOf K F (Itr lo n) (intUp lo n) := by
  refine ⟨fun i H F1 e1 e2 hi => (show n ≤ i by simpa [intUp] using hi), fun i d H F1 e1 e2 hd => ?_⟩
  unfold intUp at hd
  rw [List.getElem?_map] at hd
  obtain ⟨j, hj, rfl⟩ := Option.map_eq_some_iff.mp hd
  obtain ⟨h1, h2⟩ := List.getElem?_eq_some_iff.mp hj
  rw [List.getElem_range] at h2
  rw [List.length_range] at h1
  subst h2
  exact ⟨h1, fun x H' ⟨eH, hx⟩ => by subst eH hx; exact ⟨F1, Same.refl _, Same.refl _, e2, New.refl _ _, .int _⟩⟩
theorem it_dn (lo : Int) (n : Nat) : ItOf K F (Itc lo (-1) n) (intDn lo n) := by
  refine ⟨fun i H F1 e1 e2 hi => (show n ≤ i by simpa [intDn] using hi), fun i d H F1 e1 e2 hd => ?_⟩
  unfold intDn at hd
  rw [List.getElem?_map] at hd
  obtain ⟨j, hj, rfl⟩ := Option.map_eq_some_iff.mp hd
  obtain ⟨h1, h2⟩ := List.getElem?_eq_some_iff.mp hj
  rw [List.getElem_range] at h2
  rw [List.length_range] at h1
  subst h2
  refine ⟨h1, fun x H' ⟨eH, hx⟩ => ?_⟩
  subst eH hx
  have e : lo + (i : Int) * -1 = lo - i := by omega
  rw [e]
  exact ⟨F1, Same.refl _, Same.refl _, e2, New.refl _ _, .int _⟩
theorem it_str {x : Str} (z : sOk x) : ItOf K F (Its x) (x.cps.toList.map fun c => .str (sgn c)) := by
  refine ⟨fun i H F1 e1 e2 hi => (show x.cps.size ≤ i by simpa using hi), fun i d H F1 e1 e2 hd => ?_⟩
  rw [List.getElem?_map] at hd
  obtain ⟨c, hc, rfl⟩ := Option.map_eq_some_iff.mp hd
  obtain ⟨h1, h2⟩ := List.getElem?_eq_some_iff.mp hc
  refine ⟨(show i < x.cps.size by simpa using h1), fun y H' ⟨eH, c', hc', hy⟩ => ?_⟩
  subst eH hy
  rw [← Array.getElem?_toList, hc] at hc'
  cases hc'
  exact ⟨F1, Same.refl _, Same.refl _, e2, New.refl _ _, .str (sOk_sgn z (List.mem_of_getElem? hc))⟩
theorem enum_get : ∀ (ds : List D) (k i : Nat) (d : D), (enumL k ds)[i]? = some d → ∃ y, ds[i]? = some y ∧ d = .tuple [.int ((k + i : Nat) : Int), y]
  | [], _, _, _, h => by simp [enumL] at h
  | x :: xs, k, 0, d, h => by
    simp [enumL] at h
    exact ⟨x, rfl, by rw [← h]; rfl⟩
  | x :: xs, k, i + 1, d, h => by
    have h' : (enumL (k + 1) xs)[i]? = some d := by simpa [enumL] using h
    obtain ⟨y, h1, h2⟩ := enum_get xs (k + 1) i d h'
    refine ⟨y, by simpa using h1, ?_⟩
    rw [h2]
    have : k + 1 + i = k + (i + 1) := by omega
    rw [this]
theorem enum_len : ∀ (ds : List D) (k : Nat), (enumL k ds).length = ds.length
  | [], _ => rfl
  | x :: xs, k => by show (enumL (k + 1) xs).length + 1 = _; rw [enum_len xs (k + 1)]; rfl
theorem pair_new {T : Addr} {x y : V} {dx dy : D} (e2 : Same F1 H) (hT : H T = none) (rx : Rp K F1 x dx) (ry : Rp K F1 y dy) :
    ∃ F2, Same F1 F2 ∧ Same H (upd H T (.tup [x, y])) ∧ Same F2 (upd H T (.tup [x, y])) ∧ New H F1 F2 ∧ Rp K F2 (.ref T) (.tuple [dx, dy]) := by
  have fT : F1 T = none := e2.free hT
  have g1 := same_new (o := .tup [x, y]) fT
  have g := same_new (o := .tup [x, y]) hT
  exact ⟨upd F1 T (.tup [x, y]), g1, g, same_upd_to (e2.trans g) upd_same, New.upd hT, .tup (SqT.of upd_same) (.cons (Rp.mono g1 _ _ rx) (.cons (Rp.mono g1 _ _ ry) .nil))⟩
theorem it_enum {p : Addr} {xs : List V} {ds : List D} (sq : SqR K F p xs) (rs : Rps K F xs ds) : ItOf K F (Ite K p) (enumL 0 ds) := by
  refine ⟨fun i H F1 e1 e2 hi => ⟨xs, (sq.mono (e1.trans e2)).to, by rw [rs.length]; rw [enum_len] at hi; exact hi⟩, fun i d H F1 e1 e2 hd => ?_⟩
  obtain ⟨y, hy, rfl⟩ := enum_get ds 0 i d hd
  obtain ⟨v, hv, rv⟩ := rs.get hy
  refine ⟨⟨xs, v, (sq.mono (e1.trans e2)).to, hv⟩, fun x H' ⟨T, z, ex, hT, eH, hx⟩ => ?_⟩
  have := hx xs (sq.mono (e1.trans e2)).to
  rw [hv] at this
  cases this
  subst ex eH
  rw [Nat.zero_add]
  exact pair_new e2 hT (.int _) (Rp.mono e1 _ _ rv)
theorem it_zip {p q : Addr} {xs ys : List V} {ds es : List D} (sq : SqR K F p xs) (rs : Rps K F xs ds) (sq2 : SqR K F q ys) (rs2 : Rps K F ys es) : ItOf K F (Itz K p q) ((ds.zip es).map fun p => .tuple [p.1, p.2]) := by
  refine ⟨fun i H F1 e1 e2 hi => ⟨xs, ys, (sq.mono (e1.trans e2)).to, (sq2.mono (e1.trans e2)).to, ?_⟩, fun i d H F1 e1 e2 hd => ?_⟩
  · rw [List.length_map, List.length_zip] at hi
    rw [rs.length, rs2.length]
    omega
  rw [List.getElem?_map] at hd
  obtain ⟨⟨y, y2⟩, hy, rfl⟩ := Option.map_eq_some_iff.mp hd
  obtain ⟨hy1, hy2⟩ := List.getElem?_zip_eq_some.mp hy
  obtain ⟨v, hv, rv⟩ := rs.get hy1
  obtain ⟨w, hw, rw'⟩ := rs2.get hy2
  refine ⟨⟨xs, ys, v, w, (sq.mono (e1.trans e2)).to, (sq2.mono (e1.trans e2)).to, hv, hw⟩, fun x H' ⟨T, z, z2, ex, hT, eH, hx, hx2⟩ => ?_⟩
  have := hx xs (sq.mono (e1.trans e2)).to
  rw [hv] at this
  cases this
  have := hx2 ys (sq2.mono (e1.trans e2)).to
  rw [hw] at this
  cases this
  subst ex eH
  exact pair_new e2 hT (Rp.mono e1 _ _ rv) (Rp.mono e1 _ _ rw')

/-! ### the iterables -/
theorem ji_bad {di : DI} (h : ∀ δ, di δ = .bad) : JI X W a tg e di := ⟨fun _ _ σ H R _ ⟨_, _, _, δ, _, q⟩ => by rw [h δ] at q; exact q.elim⟩
theorem ji_exp (h : JE X W a e f 2) : JI X W a tg e (iExp f) := by
  refine ⟨fun pins s σ H R I ⟨F0, B, F, δ, S, q⟩ => ?_⟩
  unfold iExp at q
  rw [Ans.bind_iff] at q
  refine thn (h.run pins s σ H (fun x H1 => ∃ (F1 : Hp) (d : D) (ds : List D), SI X.K F0 B F1 H1 σ a δ ∧ Same F F1 ∧ Same H H1 ∧ New H F F1 ∧ Rp X.K F1 x d ∧ itemsD d = Dv.R.ok ds ∧
    (∀ J F' H', SI X.K F0 B F' H' σ a δ → Same F F' → Same H H' → New H F F' → ItOf X.K F' J ds → R J H')) I ⟨F0, B, F, δ, S, q.imp fun d q v F1 H1 S1 e1 e2 n1 r1 => ?_⟩) fun v s1 ⟨x, H1, I1, r1, F1, d, ds, S1, e1, e2, n1, rp, ed, q⟩ => ?_
  · cases d with
    | list xs => exact ⟨F1, _, xs, S1, e1, e2, n1, r1, rfl, q⟩
    | tuple xs => exact ⟨F1, _, xs, S1, e1, e2, n1, r1, rfl, q⟩
    | str x => exact ⟨F1, _, _, S1, e1, e2, n1, r1, rfl, q⟩
    | _ => exact False.elim q
  · cases d with
    | list xs =>
      cases ed
      cases rp with
      | lst sq rs =>
        cases r1
        obtain ⟨its, rv, p, hz⟩ := I1.list (sq.mono S1.FH).to
        exact wpAny_pyIter_list p.isList (pi_one (tk := s1.toks) I1 _ (turn_list _ _) ⟨_, Heap.get?_push_size _ rfl, rfl, rfl⟩ (q _ F1 H1 S1 e1 e2 n1 (it_list sq rs)))
    | tuple xs =>
      cases ed
      cases rp with
      | tup sq rs =>
        cases r1
        obtain ⟨its, rv, p, hz⟩ := I1.tuple (same_t S1.FH sq)
        exact wpAny_pyIter_tuple (show s1.heap.IsTuple _ its.toArray from p) (pi_one (tk := s1.toks) I1 _ (turn_tuple _ _) ⟨_, Heap.get?_push_size _ rfl, rfl, rfl⟩ (q _ F1 H1 S1 e1 e2 n1 (it_tup sq rs)))
    | str x =>
      cases ed
      obtain ⟨rfl, z⟩ := rp.str_inv
      obtain ⟨t, rfl⟩ := r1
      have q := q _ F1 H1 S1 e1 e2 n1 (it_str z)
      cases ha : x.cps.all (· < 128)
      · exact wpAny_pyIter_wide ha (pi_one (tk := s1.toks) I1 _ (turn_str _ x t "str_iterator" (.inr rfl)) ⟨_, Heap.get?_push_size _ rfl, rfl, rfl⟩ q)
      · exact wpAny_pyIter_ascii ha (pi_one (tk := s1.toks) I1 _ (turn_str _ x t "str_ascii_iterator" (.inl rfl)) ⟨_, Heap.get?_push_size _ rfl, rfl, rfl⟩ q)
    | _ => cases ed
theorem big_of {i : Int} (h : big i = true) : -(2 ^ 30) ≤ i ∧ i < 2 ^ 30 := of_decide_eq_true h
theorem ji_rng1 (gl : Gl X "range") (hm : X.mg "range" = none) (hp : plainE a1 = true) (h : JE X W a a1 fa 0) : JI X W a tg (.Call (.Name "range" p) [a1] [] pos) (iRng1 fa) :=
  (pi_range1 gl hm (jr_all (.cons h .nil) (by simp [hp])) (star_cons hp)).imp fun σ H R ⟨F0, B, F, δ, S, q⟩ => by
    refine ⟨F0, B, F, δ, S, ?_⟩
    unfold iRng1 at q
    rw [Ans.bind_iff] at q
    unfold evs
    rw [Ans.bind_iff]
    refine q.imp fun d q vs F1 H1 S1 e1 e2 n1 r1 => ?_
    obtain ⟨i, rfl, q2⟩ := Ans.asInt (by rw [Ans.bind_iff] at q; exact q)
    obtain ⟨v, rfl, rv⟩ := r1.one
    cases rv.int_inv
    split at q2
    · rename_i hb
      have hb := big_of hb
      exact ⟨i, rfl, by omega, by omega, q2 _ F1 H1 S1 e1 e2 n1 (it_up 0 _)⟩
    · exact False.elim q2
theorem two_args (hp : plainE a1 = true) (hp2 : plainE b1 = true) (h : JE X W a a1 fa 0) (h2 : JE X W a b1 fb 0) : JR X W a [a1, b1] [fa, fb] := jr_all (.cons h (.cons h2 .nil)) (by simp [hp, hp2])
theorem evs2 (fa fb : DE) (δ : Env) : evs [fa, fb] δ = (fa δ).bind fun x => (fb δ).bind fun y => .ok [x, y] := by
  unfold evs
  cases fa δ with
  | ok x => cases h : fb δ <;> simp [evs, h]
  | _ => rfl
theorem ji_rng2 (gl : Gl X "range") (hm : X.mg "range" = none) (hp : plainE a1 = true) (hp2 : plainE b1 = true) (h : JE X W a a1 fa 0) (h2 : JE X W a b1 fb 0) : JI X W a tg (.Call (.Name "range" p) [a1, b1] [] pos) (iRng2 fa fb) :=
  (pi_range2 gl hm (two_args hp hp2 h h2) (by rw [star_cons hp, star_cons hp2]; rfl) (by rw [star_cons hp2]; rfl)).imp fun σ H R ⟨F0, B, F, δ, S, q⟩ => by
    refine ⟨F0, B, F, δ, S, ?_⟩
    unfold iRng2 at q
    rw [evs2]
    rw [Ans.bind_iff] at q ⊢
    refine q.imp fun d q => ?_
    rw [Ans.bind_iff] at q ⊢
    refine q.imp fun d2 q vs F1 H1 S1 e1 e2 n1 r1 => ?_
    obtain ⟨i, rfl, q2⟩ := Ans.asInt (by rw [Ans.bind_iff] at q; exact q)
    obtain ⟨j, rfl, q3⟩ := Ans.asInt (by rw [Ans.bind_iff] at q2; exact q2)
    obtain ⟨v, w, rfl, rv, rw'⟩ := r1.two
    cases rv.int_inv
    cases rw'.int_inv
    split at q3
    · rename_i hb
      rw [Bool.and_eq_true] at hb
      have hb1 := big_of hb.1
      have hb2 := big_of hb.2
      exact ⟨i, j, rfl, ⟨by omega, by omega, by omega, by omega⟩, q3 _ F1 H1 S1 e1 e2 n1 (it_up i _)⟩
    · exact False.elim q3
theorem je_m1 {e : Expr} (h : isM1 e = true) : JE X W a e (eC (.int (-1))) 3 := by
  obtain ⟨kk, p1, p2, rfl⟩ := isM1_of h
  exact (je_neg (fa := eC (.int 1)) ((je_const rfl).to0)).imp fun σ H Q q => q
theorem ji_rngD {c1 : Expr} (gl : Gl X "range") (hm : X.mg "range" = none) (hp : plainE a1 = true) (hp2 : plainE b1 = true) (h : JE X W a a1 fa 0) (h2 : JE X W a b1 fb 0) (h3 : isM1 c1 = true) : JI X W a tg (.Call (.Name "range" p) [a1, b1, c1] [] pos) (iRngD fa fb) := by
  have hp3 : plainE c1 = true := by obtain ⟨kk, p1, p2, rfl⟩ := isM1_of h3; rfl
  refine (pi_range3 gl hm (jr_all (.cons h (.cons h2 (.cons (je_m1 (W := W) (a := a) h3).to0 .nil))) (by simp [hp, hp2, hp3])) (star_cons hp) (star_any _ (by simp [hp2, hp3]))).imp fun σ H R ⟨F0, B, F, δ, S, q⟩ => ?_
  refine ⟨F0, B, F, δ, S, ?_⟩
  have e3 : evs [fa, fb, eC (.int (-1))] δ = (fa δ).bind fun x => (fb δ).bind fun y => .ok [x, y, .int (-1)] := by
    unfold evs
    cases fa δ with
    | ok x => cases h : fb δ <;> simp [evs, h, eC]
    | _ => rfl
  unfold iRngD at q
  rw [e3]
  rw [Ans.bind_iff] at q ⊢
  refine q.imp fun d q => ?_
  rw [Ans.bind_iff] at q ⊢
  refine q.imp fun d2 q vs F1 H1 S1 e1 e2 n1 r1 => ?_
  obtain ⟨i, rfl, q2⟩ := Ans.asInt (by rw [Ans.bind_iff] at q; exact q)
  obtain ⟨j, rfl, q3⟩ := Ans.asInt (by rw [Ans.bind_iff] at q2; exact q2)
  cases r1 with
  | cons rv r1 =>
    obtain ⟨w, u, rfl, rw', ru⟩ := r1.two
    cases rv.int_inv
    cases rw'.int_inv
    cases ru.int_inv
    split at q3
    · rename_i hb
      rw [Bool.and_eq_true] at hb
      have hb1 := big_of hb.1
      have hb2 := big_of hb.2
      exact ⟨i, j, -1, (i - j).toNat, rfl, RgC.neg (by omega) (by omega) (by omega) (by omega), q3 _ F1 H1 S1 e1 e2 n1 (it_dn i _)⟩
    · exact False.elim q3
theorem Ans.asLst {x : D} {kk : List D → Prop} {e : Str → Int → Prop} (h : Ans (Dv.asLst x) kk e) : ∃ xs, x = .list xs ∧ kk xs := by
  cases x with
  | list xs => exact ⟨xs, rfl, h⟩
  | _ => exact False.elim h
theorem Ans.asTup {x : D} {kk : List D → Prop} {e : Str → Int → Prop} (h : Ans (Dv.asTup x) kk e) : ∃ xs, x = .tuple xs ∧ kk xs := by
  cases x with
  | tuple xs => exact ⟨xs, rfl, h⟩
  | _ => exact False.elim h
theorem ji_enum {tpos : Pos} {elts : List Expr} {kk : Nat} (gl : Gl X "enumerate") (hm : X.mg "enumerate" = none) (hp : plainE a1 = true) (h : JE X W a a1 fa 2) : JI X W a (.Tuple elts kk tpos) (.Call (.Name "enumerate" p) [a1] [] pos) (iEnum fa) :=
  (pi_enum gl hm (ja_all (.cons h .nil) (by simp [hp])) (star_cons hp)).imp fun σ H R ⟨F0, B, F, δ, S, q⟩ => by
    refine ⟨F0, B, F, δ, S, ?_⟩
    unfold iEnum at q
    unfold evs
    rw [Ans.bind_iff] at q ⊢
    refine q.imp fun d q vs F1 H1 S1 e1 e2 n1 r1 => ?_
    obtain ⟨ds, rfl, q2⟩ := Ans.asLst (by rw [Ans.bind_iff] at q; exact q)
    cases r1 with
    | cons rv r1 =>
      cases r1
      cases rv with
      | lst sq rs => exact ⟨_, _, rfl, (sq.mono S1.FH).to, q2 _ F1 H1 S1 e1 e2 n1 (it_enum sq rs)⟩
theorem ji_zip {tpos : Pos} {elts : List Expr} {kk : Nat} (gl : Gl X "zip") (hm : X.mg "zip" = none) (hp : plainE a1 = true) (hp2 : plainE b1 = true) (h : JE X W a a1 fa 2) (h2 : JE X W a b1 fb 2) : JI X W a (.Tuple elts kk tpos) (.Call (.Name "zip" p) [a1, b1] [] pos) (iZip fa fb) :=
  (pi_zip gl hm (ja_all (.cons h (.cons h2 .nil)) (by simp [hp, hp2])) (star_cons hp) (star_any _ (by simp [hp2]))).imp fun σ H R ⟨F0, B, F, δ, S, q⟩ => by
    refine ⟨F0, B, F, δ, S, ?_⟩
    unfold iZip at q
    rw [evs2]
    rw [Ans.bind_iff] at q ⊢
    refine q.imp fun d q => ?_
    rw [Ans.bind_iff] at q ⊢
    refine q.imp fun d2 q vs F1 H1 S1 e1 e2 n1 r1 => ?_
    obtain ⟨ds, rfl, q2⟩ := Ans.asLst (by rw [Ans.bind_iff] at q; exact q)
    obtain ⟨es, rfl, q3⟩ := Ans.asLst (by rw [Ans.bind_iff] at q2; exact q2)
    cases r1 with
    | cons rv r1 =>
      cases r1 with
      | cons rw' r1 =>
        cases r1
        cases rv with
        | lst sq rs =>
          cases rw' with
          | lst sq2 rs2 => exact ⟨_, _, _, _, rfl, (sq.mono S1.FH).to, (sq2.mono S1.FH).to, q3 _ F1 H1 S1 e1 e2 n1 (it_zip sq rs sq2 rs2)⟩

/-! ### list(range(..)) -/
theorem rps_up {F : Hp} (lo : Int) (n : Nat) : Rps K F ((List.range n).map fun (i : Nat) => V.int (lo + i)) (intUp lo n) := by
  unfold intUp
  generalize List.range n = l
  induction l with
  | nil => exact .nil
  | cons x l ih => exact .cons (.int _) ih
theorem je_lr {b : Expr} {te : L2.St → Hp → (Int → Int → Hp → Prop) → Prop} {di : DI} (hc : X.calm = true) (gl : Gl X "list") (hm : X.mg "list" = none) (hb : plainE b = true) (h : PRg X b te)
    (ht : ∀ σ H (R : Int → Int → Hp → Prop) F0 B F δ, SI X.K F0 B F H σ a δ → Ans (di δ) (fun ds => ∀ (lo hi : Int) F' H', ds = intUp lo (hi - lo).toNat → big lo = true → big hi = true → SI X.K F0 B F' H' σ a δ → Same F F' → Same H H' → New H F F' → R lo hi H') (W.ew σ H) → te σ H R) :
    JE X W a (.Call (.Name "list" p) [b] [] pos) (fun δ => (di δ).bind fun xs => if xs.length ≤ lim then .ok (.list xs) else .bad) 3 :=
  (pe_listRg hc gl hm h (star_cons hb)).imp fun σ H Q ⟨F0, B, F, δ, S, q⟩ => by
    refine ht σ H _ F0 B F δ S ?_
    rw [Ans.bind_iff] at q
    refine q.imp fun ds q lo hi F1 H1 eds hlo hhi S1 e1 e2 n1 => ?_
    obtain ⟨hl, q⟩ := Ans.if_bad (c := ds.length ≤ lim) q
    have h1 := big_of hlo
    have h2 := big_of hhi
    subst eds
    have hl : (hi - lo).toNat ≤ lim := by simpa [intUp] using hl
    have e24 : lim = 1000000 := rfl
    refine ⟨⟨by omega, by omega, by omega, by omega, by omega⟩, fun z hz => ?_⟩
    have fz : F1 z = none := S1.FH.free hz
    have g := same_new (o := .lst (rgV lo hi)) hz
    exact q (.ref z) F1 (upd H1 z (.lst (rgV lo hi))) (S1.grow g) e1 (e2.trans g) n1 ⟨z, _, rfl, fz, e2.free hz, upd_same, rps_up lo _⟩
theorem je_lr1 (hc : X.calm = true) (gl : Gl X "list") (hm : X.mg "list" = none) (gl2 : Gl X "range") (hm2 : X.mg "range" = none) {p2 pos2 : Pos} (hp : plainE a1 = true) (h : JE X W a a1 fa 0) :
    JE X W a (.Call (.Name "list" p) [.Call (.Name "range" p2) [a1] [] pos2] [] pos) (eLstI (iRng1 fa)) 3 :=
  je_lr hc gl hm rfl (prg_1 gl2 hm2 h (star_cons hp)) fun σ H R F0 B F δ S q => by
    refine ⟨F0, B, F, δ, S, ?_⟩
    unfold iRng1 at q
    rw [Ans.bind_iff] at q
    refine q.imp fun d q v F1 H1 S1 e1 e2 n1 r1 => ?_
    obtain ⟨i, rfl, q2⟩ := Ans.asInt (by rw [Ans.bind_iff] at q; exact q)
    have r1 : Rh X.K F1 H1 v (.int i) := r1
    cases r1.int_inv
    split at q2
    · rename_i hb
      exact ⟨i, rfl, q2 0 i F1 H1 (by rw [Int.sub_zero]) (by decide) hb S1 e1 e2 n1⟩
    · exact False.elim q2
theorem je_lr2 (hc : X.calm = true) (gl : Gl X "list") (hm : X.mg "list" = none) (gl2 : Gl X "range") (hm2 : X.mg "range" = none) {p2 pos2 : Pos} (hp : plainE a1 = true) (hp2 : plainE b1 = true) (h : JE X W a a1 fa 0) (h2 : JE X W a b1 fb 0) :
    JE X W a (.Call (.Name "list" p) [.Call (.Name "range" p2) [a1, b1] [] pos2] [] pos) (eLstI (iRng2 fa fb)) 3 :=
  je_lr hc gl hm rfl (prg_2 gl2 hm2 h h2 (star_cons hp) (star_cons hp2) (star_any _ (by simp [hp2]))) fun σ H R F0 B F δ S q => by
    refine ⟨F0, B, F, δ, S, ?_⟩
    unfold iRng2 at q
    rw [Ans.bind_iff] at q
    refine q.imp fun d q v F1 H1 S1 e1 e2 n1 r1 => ⟨F0, B, F1, δ, S1, ?_⟩
    rw [Ans.bind_iff] at q
    refine q.mono (fun d2 _ q w F2 H2 S2 e3 e4 n2 r2 => ?_) fun c i z => W.mono _ _ _ _ _ e2 z
    obtain ⟨i, rfl, q2⟩ := Ans.asInt (by rw [Ans.bind_iff] at q; exact q)
    obtain ⟨j, rfl, q3⟩ := Ans.asInt (by rw [Ans.bind_iff] at q2; exact q2)
    have r1 : Rh X.K F1 H1 v (.int i) := r1
    have r2 : Rh X.K F2 H2 w (.int j) := r2
    cases r1.int_inv
    cases r2.int_inv
    split at q3
    · rename_i hb
      rw [Bool.and_eq_true] at hb
      exact ⟨i, j, rfl, rfl, q3 i j F2 H2 rfl hb.1 hb.2 S2 (e1.trans e3) (e2.trans e4) (n1.trans (n2.back e2))⟩
    · exact False.elim q3
end Dv
/-! Dv11: targets, list comprehensions. -/
namespace Dv
open PySem PySem.Spec PyProof.Rows L2
variable {X : Cx} {W : Wi} {K : PySem.W.Frag} {F F' F0 F1 B H H' H1 : Hp} {v : V} {d : D} {k : Nat} {σ : L2.St} {δ : Env} {pins : List (Addr × Obj)} {s : Shared} {Q : VK} {e tg a1 b1 : Expr} {a : List Bool} {f fa fb : DE} {pos p : Pos}

/-- those slots are no longer the def's own -/
def clr (a : List Bool) : List Nat → List Bool
  | [] => a
  | v :: vs => (clr a vs).set v false
theorem own_set (a : List Bool) (v i : Nat) (h : own (a.set v false) i = true) : own a i = true ∧ i ≠ v := by
  unfold own at h ⊢
  by_cases e : i = v
  · subst e
    rw [List.getD_eq_getElem?_getD, List.getElem?_set] at h
    split at h
    · split at h <;> cases h
    · exact absurd rfl (by assumption)
  · refine ⟨?_, e⟩
    rw [List.getD_eq_getElem?_getD, List.getElem?_set_ne (fun z => e z.symm)] at h
    rw [List.getD_eq_getElem?_getD]
    exact h
theorem own_set_ne (a : List Bool) (v i : Nat) (h : own (a.set v false) i = false) : own a i = false ∨ i = v := by
  by_cases e : i = v
  · exact .inr e
  · left
    unfold own at h ⊢
    rw [List.getD_eq_getElem?_getD, List.getElem?_set_ne (fun z => e z.symm)] at h
    rw [List.getD_eq_getElem?_getD]
    exact h
theorem own_clr : ∀ (vs : List Nat) (i : Nat), own (clr a vs) i = true → own a i = true ∧ i ∉ vs
  | [], i, h => ⟨h, by simp⟩
  | v :: vs, i, h => by
    obtain ⟨h1, h2⟩ := own_set _ _ _ h
    obtain ⟨h3, h4⟩ := own_clr vs i h1
    exact ⟨h3, by simp only [List.mem_cons, not_or]; exact ⟨h2, h4⟩⟩
theorem own_clr_ne : ∀ (vs : List Nat) (i : Nat), own (clr a vs) i = false → own a i = false ∨ i ∈ vs
  | [], i, h => .inl h
  | v :: vs, i, h => by
    rcases own_set_ne _ _ _ h with h1 | h1
    · rcases own_clr_ne vs i h1 with h2 | h2
      · exact .inl h2
      · exact .inr (List.mem_cons_of_mem _ h2)
    · exact .inr (by rw [h1]; exact List.mem_cons_self ..)
/-! ### the slots wiped -/
theorem wipeE_len : ∀ vs : List Nat, (wipeE δ vs).length = δ.length
  | [] => rfl
  | v :: vs => by unfold wipeE; rw [List.length_set, wipeE_len vs]
theorem wipe_ne {i : Nat} : ∀ (vs : List Nat), i ∉ vs → (wipe σ vs)[i]? = σ[i]?
  | [], _ => rfl
  | v :: vs, h => by
    simp only [List.mem_cons, not_or] at h
    unfold wipe
    rw [List.getElem?_set_ne (fun z => h.1 z.symm)]
    exact wipe_ne vs h.2
theorem wipeE_some {i : Nat} {x : D} : ∀ (vs : List Nat), (wipeE δ vs)[i]? = some (some x) → δ[i]? = some (some x) ∧ i ∉ vs
  | [], h => ⟨h, by simp⟩
  | v :: vs, h => by
    unfold wipeE at h
    by_cases e : v = i
    · subst e
      by_cases hv : v < (wipeE δ vs).length
      · rw [List.getElem?_set_self hv] at h; cases h
      · rw [List.getElem?_eq_none (by simpa using hv)] at h; cases h
    · rw [List.getElem?_set_ne e] at h
      obtain ⟨h1, h2⟩ := wipeE_some vs h
      exact ⟨h1, by simp only [List.mem_cons, not_or]; exact ⟨fun z => e z.symm, h2⟩⟩
theorem SI.wiped (S : SI K F0 B F H σ a δ) (vs : List Nat) : SI K F0 B F H (wipe σ vs) (clr a vs) (wipeE δ vs) where
  len := by rw [wipe_length, wipeE_len]; exact S.len
  BH := S.BH
  FH := S.FH
  F0F := S.F0F
  new := S.new
  sl := fun i d h => by
    obtain ⟨h1, h2⟩ := wipeE_some vs h
    obtain ⟨v, e, g1, g2⟩ := S.sl i d h1
    refine ⟨v, by rw [wipe_ne vs h2]; exact e, fun o => g1 (own_clr vs i o).1, fun o => ?_⟩
    rcases own_clr_ne vs i o with o | o
    · exact g2 o
    · exact absurd o h2
  dj := fun i j d e p oi oj hi hj si sj => by
    obtain ⟨h1, h2⟩ := wipeE_some vs hi
    obtain ⟨h3, h4⟩ := wipeE_some vs hj
    rw [wipe_ne vs h2] at si
    rw [wipe_ne vs h4] at sj
    exact S.dj i j d e p (own_clr vs i oi).1 (own_clr vs j oj).1 h1 h3 si sj
/-- a slot set to what is frozen -/
theorem SI.setF (S : SI K F0 B F H σ a δ) {i : Nat} (r : Rp K F v d) : SI K F0 B F H (σ.set i (some v)) (a.set i false) (δ.set i (some d)) where
  len := by rw [List.length_set, List.length_set]; exact S.len
  BH := S.BH
  FH := S.FH
  F0F := S.F0F
  new := S.new
  sl := fun j x h => by
    by_cases e : i = j
    · subst e
      have hl : i < δ.length := by
        obtain ⟨h1, _⟩ := List.getElem?_eq_some_iff.mp h
        rw [List.length_set] at h1
        exact h1
      rw [List.getElem?_set_self hl] at h
      cases h
      refine ⟨v, by rw [List.getElem?_set_self (by rw [S.len]; exact hl)], fun o => absurd rfl (own_set _ _ _ o).2, fun _ => r⟩
    · rw [List.getElem?_set_ne e] at h
      obtain ⟨w, e2, g1, g2⟩ := S.sl j x h
      refine ⟨w, by rw [List.getElem?_set_ne e]; exact e2, fun o => g1 (own_set _ _ _ o).1, fun o => ?_⟩
      rcases own_set_ne _ _ _ o with o | o
      · exact g2 o
      · exact absurd o.symm e
  dj := fun x y d1 d2 p ox oy hx hy sx sy => by
    obtain ⟨ox, nx⟩ := own_set _ _ _ ox
    obtain ⟨oy, ny⟩ := own_set _ _ _ oy
    rw [List.getElem?_set_ne (fun z => nx z.symm)] at hx sx
    rw [List.getElem?_set_ne (fun z => ny z.symm)] at hy sy
    exact S.dj x y d1 d2 p ox oy hx hy sx sy
/-- the heap changes at a place that the state does not know -/
theorem SI.at_new (S : SI K F0 B F H σ a δ) {D : Addr} {o : HO} (fD : F D = none) (bD : B D = none) (ns : ∀ i ds, own a i = true → δ[i]? = some (some (.list ds)) → σ[i]? ≠ some (some (.ref D))) : SI K F0 B F (upd H D o) σ a δ where
  len := S.len
  BH := fun b x e => by
    by_cases h : b = D
    · subst h; rw [bD] at e; cases e
    · rw [upd_ne h]; exact S.BH b x e
  FH := fun b x e => by
    by_cases h : b = D
    · subst h; rw [fD] at e; cases e
    · rw [upd_ne h]; exact S.FH b x e
  F0F := S.F0F
  new := S.new
  sl := fun i d h => by
    obtain ⟨v, e, h1, h2⟩ := S.sl i d h
    refine ⟨v, e, fun oi => ?_, h2⟩
    have g := h1 oi
    cases d with
    | list ds =>
      obtain ⟨p, xs, rfl, fp, bp, hp, r⟩ := g
      have np : p ≠ D := fun z => ns i ds oi h (by rw [e, z])
      exact ⟨p, xs, rfl, fp, bp, by rw [upd_ne np]; exact hp, r⟩
    | _ => exact g
  dj := S.dj

/-! ### targets of what is frozen -/
def tJG (K : PySem.W.Frag) (a : List Bool) (g : TF) (ts : List Nat) : TG := fun v σ H Q => ∃ F0 B F δ d, SI K F0 B F H σ a δ ∧ Rp K F v d ∧
  Ans (g d δ) (fun δ' => ∀ σ', SI K F0 B F H σ' (clr a ts) δ' → (∀ i, i ∉ ts → σ'[i]? = σ[i]?) → σ'.length = σ.length → Q σ' H) noE
def JG (X : Cx) (a : List Bool) (tg : Expr) (g : TF) (ts : List Nat) : Prop := PG X tg (tJG X.K a g ts)
theorem _root_.L2.PG.imp {X : Cx} {tg : Expr} {t t' : TG} (h : PG X tg t) (i : ∀ v σ H Q, t' v σ H Q → t v σ H Q) : PG X tg t' := ⟨fun pins s σ H v u Q I r q => h.run pins s σ H v u Q I r (i v σ H Q q)⟩
theorem _root_.L2.PGs.imp {X : Cx} {tg : List Expr} {t t' : TGs} (h : PGs X tg t) (i : ∀ v σ H Q, t' v σ H Q → t v σ H Q) : PGs X tg t' := ⟨fun pins s σ H v u Q I r q => h.run pins s σ H v u Q I r (i v σ H Q q)⟩
theorem jg_bad {g : TF} {ts : List Nat} (h : ∀ d δ, g d δ = .bad) : JG X a tg g ts := ⟨fun _ _ σ H v u Q _ _ ⟨_, _, _, δ, d, _, _, q⟩ => by rw [h d δ] at q; exact q.elim⟩
theorem jg_name {i : Nat} {x : Str} (nd : X.N.Nodup) (hi : X.N[i]? = some x) (hx : Loc X.env.scope x) (hf : X.fn x = true ∨ X.env.scope.names.lookup x = some .local) : JG X a (.Name x pos) (gNm i) [i] :=
  (pg_name nd hi hx hf).imp fun v σ H Q ⟨F0, B, F, δ, d, S, r, q⟩ => q (σ.set i (some v)) (S.setF r) (fun j hj => by rw [List.getElem?_set_ne (fun z => hj (by rw [z]; simp))]) (by rw [List.length_set])
def tJGs (K : PySem.W.Frag) (a : List Bool) (gs : List TF) (ts : List Nat) : TGs := fun vs σ H Q => ∃ F0 B F δ ds, SI K F0 B F H σ a δ ∧ Rps K F vs ds ∧
  Ans (gAll gs ds δ) (fun δ' => ∀ σ', SI K F0 B F H σ' (clr a ts) δ' → (∀ i, i ∉ ts → σ'[i]? = σ[i]?) → σ'.length = σ.length → Q σ' H) noE
theorem clr_app : ∀ (ts us : List Nat), clr a (ts ++ us) = clr (clr a us) ts
  | [], _ => rfl
  | t :: ts, us => by show (clr a (ts ++ us)).set t false = (clr (clr a us) ts).set t false; rw [clr_app ts us]
def plainT : Expr → Bool
  | .Starred _ _ => false
  | _ => true
theorem jgs_nil : PGs X [] (tJGs X.K a [] []) := pgs_nil.imp fun vs σ H Q ⟨F0, B, F, δ, ds, S, rs, q⟩ => by
  cases ds with
  | nil => cases rs; exact ⟨rfl, q σ S (fun _ _ => rfl) rfl⟩
  | cons d ds => exact False.elim q
theorem jgs_cons {e : Expr} {es : List Expr} {g : TF} {gs : List TF} {ts us : List Nat} (h : JG X a e g ts) (t : PGs X es (tJGs X.K (clr a ts) gs us)) (hp : plainT e = true) : PGs X (e :: es) (tJGs X.K a (g :: gs) (us ++ ts)) :=
  (pgs_cons h t (by cases e <;> first | rfl | cases hp)).imp fun vs σ H Q ⟨F0, B, F, δ, ds, S, rs, q⟩ => by
    cases ds with
    | nil => exact False.elim q
    | cons d ds =>
      cases rs with
      | cons r rs =>
        unfold gAll at q
        rw [Ans.bind_iff] at q
        refine ⟨_, _, rfl, F0, B, F, δ, d, S, r, q.imp fun δ' q σ' S' hs hl => ⟨F0, B, F, δ', ds, S', rs, q.imp fun δ2 q σ2 S2 hs2 hl2 => q σ2 (by rw [clr_app]; exact S2) (fun i hi => ?_) (hl2.trans hl)⟩⟩
        rw [List.mem_append, not_or] at hi
        rw [hs2 i hi.1, hs i hi.2]
theorem gAll_len : ∀ {gs : List TF} {ds : List D} {δ : Env} {k : Env → Prop}, Ans (gAll gs ds δ) k noE → ds.length = gs.length
  | [], [], _, _, _ => rfl
  | [], _ :: _, _, _, h => False.elim h
  | _ :: _, [], _, _, h => False.elim h
  | g :: gs, d :: ds, δ, k, h => by
    unfold gAll at h
    rw [Ans.bind_iff] at h
    cases e : g d δ with
    | ok δ' =>
      rw [e] at h
      rw [List.length_cons, List.length_cons, gAll_len h]
    | err c i => rw [e] at h; exact False.elim h
    | bad => rw [e] at h; exact False.elim h
theorem each_len {es : List Expr} {env : PySem.Env} : (assignEach es env).length = es.length := by
  induction es with
  | nil => rfl
  | cons e es ih => cases e <;> (show (assignEach es env).length + 1 = _; rw [ih]; rfl)
theorem each_plain {es : List Expr} {env : PySem.Env} (h : es.all plainT = true) : (assignEach es env).findIdx? (·.1) = none := by
  rw [List.findIdx?_eq_none_iff]
  induction es with
  | nil => intro x hx; cases hx
  | cons e es ih =>
    rw [List.all_cons, Bool.and_eq_true] at h
    intro x hx
    have e2 : assignEach (e :: es) env = (false, assign e env) :: assignEach es env := by
      have h1 := h.1
      cases e <;> first | rfl | cases h1
    rw [e2] at hx
    rcases List.mem_cons.mp hx with rfl | hx
    · rfl
    · exact ih h.2 x hx
theorem jg_tup {es : List Expr} {gs : List TF} {ts : List Nat} {kk : Nat} (hc : X.calm = true) (hp : es.all plainT = true) (hl : gs.length = es.length) (h : PGs X es (tJGs X.K a gs ts)) : JG X a (.Tuple es kk pos) (gTp gs) ts :=
  (pg_tup hc h (n := es.length) each_len (each_plain hp)).imp fun v σ H Q ⟨F0, B, F, δ, d, S, r, q⟩ => by
    unfold gTp at q
    rw [Ans.bind_iff] at q
    obtain ⟨ds, rfl, q⟩ := q.asTup
    cases r with
    | tup sq rs => exact ⟨_, _, rfl, same_t S.FH sq, by rw [rs.length, gAll_len q, hl], F0, B, F, δ, ds, S, rs, q⟩

/-! ### a list comprehension -/
def tJTs (K : PySem.W.Frag) (a : List Bool) (t : DT) : TT := tJT K wi0 a t
theorem Ans.if_t {α : Type} {b : Bool} {x y : R α} {k : α → Prop} {e : Str → Int → Prop} : Ans (if b = true then x else y) k e ↔ if b = true then Ans x k e else Ans y k e := by
  cases b <;> exact Iff.rfl
theorem wipe_set_in {vs : List Nat} {σ σ' : L2.St} (hl : σ'.length = σ.length) (h : ∀ i, i ∉ vs → σ'[i]? = σ[i]?) : wipe σ' vs = wipe σ vs := by
  apply List.ext_getElem?
  intro i
  by_cases hi : i ∈ vs
  · have key : ∀ (τ : L2.St) (us : List Nat), i ∈ us → (wipe τ us)[i]? = if i < τ.length then some none else none := by
      intro τ us
      induction us with
      | nil => intro h; cases h
      | cons u us ih =>
        intro hm
        unfold wipe
        by_cases e : u = i
        · subst e
          rw [List.getElem?_set]
          simp [wipe_length]
        · rw [List.getElem?_set_ne e]
          exact ih ((List.mem_cons.mp hm).resolve_left fun z => e z.symm)
    rw [key σ' vs hi, key σ vs hi, hl]
  · rw [wipe_ne vs hi, wipe_ne vs hi]
    exact h i hi
/-- the slots of the state that are the def's own stand for places that are known -/
theorem SI.ownAt (S : SI K F0 B F H σ a δ) {Lp : Addr} (hD : H Lp = none) : ∀ i ds, own a i = true → δ[i]? = some (some (.list ds)) → σ[i]? ≠ some (some (.ref Lp)) := fun i ds o h z => by
  obtain ⟨v, e, h1, _⟩ := S.sl i _ h
  obtain ⟨p, xs, rfl, _, _, hp, _⟩ := h1 o
  rw [e] at z
  cases z
  rw [hD] at hp
  cases hp
/-- a list under construction at Lp: what holds between the turns -/
structure Mk (K : PySem.W.Frag) (F0 B F1 H1 : Hp) (σ : L2.St) (a : List Bool) (δ : Env) (Lp : Addr) (F H : Hp) (acc : List V) (ys : List D) : Prop where
  S : SI K F0 B F H σ a δ
  fD : F Lp = none
  hD : H Lp = some (.lst acc)
  rs : Rps K F acc ys
  e1 : Same F1 F
  e2 : Same H1 H
  n : New H1 F1 F
theorem Mk.start (S : SI K F0 B F H σ a δ) {Lp : Addr} (hD : H Lp = none) : Mk K F0 B F H σ a δ Lp F (upd H Lp (.lst [])) [] [] :=
  ⟨S.grow (same_new hD), S.FH.free hD, upd_same, .nil, Same.refl _, same_new hD, New.refl _ _⟩
/-- later, nothing built -/
theorem Mk.later {Lp : Addr} {acc : List V} {ys : List D} {F2 H2 : Hp} (M : Mk K F0 B F1 H1 σ a δ Lp F H acc ys) (S2 : SI K F0 B F2 H2 σ a δ) (e1 : Same F F2) (e2 : Same H H2) (n : New H F F2) : Mk K F0 B F1 H1 σ a δ Lp F2 H2 acc ys := by
  refine ⟨S2, ?_, e2 _ _ M.hD, Rps.mono e1 _ _ M.rs, M.e1.trans e1, M.e2.trans e2, M.n.trans (n.back M.e2)⟩
  cases q : F2 Lp with
  | none => rfl
  | some o =>
    rcases n Lp (by rw [q]; simp) with z | z
    · exact absurd M.fD z
    · rw [M.hD] at z; cases z
theorem Mk.push {Lp : Addr} {acc : List V} {ys : List D} (M : Mk K F0 B F1 H1 σ a δ Lp F H acc ys) (h1D : H1 Lp = none) (S1 : SI K F0 B F1 H1 σ a δ) {y : V} {d : D} (r : Rp K F y d) : Mk K F0 B F1 H1 σ a δ Lp F (upd H Lp (.lst (acc ++ [y]))) (acc ++ [y]) (ys ++ [d]) := by
  refine ⟨M.S.at_new M.fD (S1.BH.free h1D) (S1.ownAt h1D), M.fD, upd_same, M.rs.snoc r, M.e1, fun b x e => ?_, M.n⟩
  have : b ≠ Lp := ne_of_none e h1D
  rw [upd_ne this]
  exact M.e2 b x e
theorem drop_cons {α : Type} {ds : List α} {i : Nat} (h : i < ds.length) : ds.drop i = ds[i] :: ds.drop (i + 1) := (List.drop_eq_getElem_cons h)
theorem wipe_twice (vs : List Nat) : wipe (wipe σ vs) vs = wipe σ vs := wipe_set_in (wipe_length σ vs) fun i hi => wipe_ne vs hi
theorem Ans.get {α : Type} {x : R α} {k : α → Prop} (h : Ans x k noE) : ∃ y, x = .ok y ∧ k y := by
  cases x with
  | ok y => exact ⟨y, rfl, h⟩
  | err c i => exact False.elim h
  | bad => exact False.elim h
theorem je_lc {iter elt : Expr} {ifs : List Expr} {scope : Scope} {ow : List (Str × Nat)} {di : DI} {g : TF} {t : DT} {ts : List Nat} (hc : X.calm = true) (nd : X.N.Nodup) (hi : JI X wi0 a tg iter di) (ok : BlkOk X.N X.env.scope scope ow)
    (hg : ∀ (s : Shared) (H : Hp) (C : Addr) (cl : List (Str × Addr)) (fp : List Addr), JG (X.blk s H scope (compEnvC scope cl C X.env) fp) (clr a (ow.map (·.2))) tg g ts) (hts : ∀ i ∈ ts, i ∈ ow.map (·.2))
    (ht : ∀ (s : Shared) (H : Hp) (C : Addr) (cl : List (Str × Addr)) (fp : List Addr), PTs (X.blk s H scope (compEnvC scope cl C X.env) fp) ifs (tJT X.K wi0 (clr (clr a (ow.map (·.2))) ts) t))
    (he : ∀ (s : Shared) (H : Hp) (C : Addr) (cl : List (Str × Addr)) (fp : List Addr), JE (X.blk s H scope (compEnvC scope cl C X.env) fp) wi0 (clr (clr a (ow.map (·.2))) ts) elt f 2) (hs : ∀ x, foldedSetIterable iter X.env x = pure x)
    {σ : L2.St} {H : Hp} {Q : VK} (h : tJ X.K wi0 a (eLc (ow.map (·.2)) g di t f) 3 σ H Q) :
    tLc (tJI X.K wi0 a di) (tJG X.K (clr a (ow.map (·.2))) g ts) (tJT X.K wi0 (clr (clr a (ow.map (·.2))) ts) t) (tJ X.K wi0 (clr (clr a (ow.map (·.2))) ts) f 2) (ow.map (·.2)) σ H Q := by
  obtain ⟨F0, B, F, δ, S, q⟩ := h
  unfold eLc at q
  rw [Ans.bind_iff] at q
  refine ⟨F0, B, F, δ, S, q.imp fun ds q J F1 H1 S1 e1 e2 n1 it Lp hL => ?_⟩
  rw [Ans.bind_iff] at q
  generalize hvs : ow.map (·.2) = vs at *
  have step : ∀ (ys : List D) (i : Nat), Ans (lcGo g t f (wipeE δ vs) (ds.drop i)) (fun zs => Ans (if (ys ++ zs).length ≤ lim then Dv.R.ok (PyData.list (ys ++ zs)) else .bad) (fun d => ∀ v F' H', SI X.K F0 B F' H' σ a δ → Same F F' → Same H H' → New H F F' → Res X.K 3 B H F' H' v d → Q v H') noE) noE → ys.length ≤ lim := by
    intro ys i h
    obtain ⟨zs, _, h⟩ := h.get
    obtain ⟨h, _⟩ := Ans.if_bad (c := (ys ++ zs).length ≤ lim) h
    rw [List.length_append] at h
    omega
  refine ⟨fun i m H3 => ∃ F3 acc ys, m = ds.length - i ∧ i ≤ ds.length ∧ Mk X.K F0 B F1 H1 (wipe σ vs) (clr a vs) (wipeE δ vs) Lp F3 H3 acc ys ∧
    Ans (lcGo g t f (wipeE δ vs) (ds.drop i)) (fun zs => Ans (if (ys ++ zs).length ≤ lim then Dv.R.ok (PyData.list (ys ++ zs)) else .bad) (fun d => ∀ v F' H', SI X.K F0 B F' H' σ a δ → Same F F' → Same H H' → New H F F' → Res X.K 3 B H F' H' v d → Q v H') noE) noE,
    ⟨ds.length, F1, [], [], by simp, Nat.zero_le _, Mk.start (S1.wiped vs) hL, q⟩, ?_⟩
  rintro i m H3 ⟨F3, acc, ys, rfl, hi, M, q⟩
  by_cases hlt : i < ds.length
  · have hd : ds[i]? = some ds[i] := List.getElem?_eq_getElem hlt
    obtain ⟨go, yld⟩ := it.2 i _ H3 F3 M.e1 M.S.FH hd
    have sz := step ys i q
    rw [drop_cons hlt] at q
    unfold lcGo at q
    refine .inr ⟨go, fun H' => ∃ F3 acc ys, i + 1 ≤ ds.length ∧ Mk X.K F0 B F1 H1 (wipe σ vs) (clr a vs) (wipeE δ vs) Lp F3 H' acc ys ∧
      Ans (lcGo g t f (wipeE δ vs) (ds.drop (i + 1))) (fun zs => Ans (if (ys ++ zs).length ≤ lim then Dv.R.ok (PyData.list (ys ++ zs)) else .bad) (fun d => ∀ v F' H', SI X.K F0 B F' H' σ a δ → Same F F' → Same H H' → New H F F' → Res X.K 3 B H F' H' v d → Q v H') noE) noE,
      fun H' ⟨F4, acc4, ys4, h1, h2, h3⟩ => ⟨ds.length - (i + 1), by omega, F4, acc4, ys4, rfl, h1, h2, h3⟩, fun x H4 hy => ?_⟩
    obtain ⟨F4, e3, e4, e5, n4, rx⟩ := yld x H4 hy
    have M4 := M.later (M.S.later e3 e4 e5 n4) e3 e4 n4
    rw [Ans.bind_iff] at q
    refine ⟨F0, B, F4, wipeE δ vs, ds[i], M4.S, rx, q.imp fun δ2 q σ2 S2 hs2 hl2 => ⟨?_, F0, B, F4, δ2, S2, ?_⟩⟩
    · exact (wipe_set_in (σ := wipe σ vs) hl2 fun j hj => hs2 j fun z => hj (hts j z)).trans (wipe_twice vs)
    rw [Ans.bind_iff] at q
    refine q.imp fun b q F5 H5 S5 e6 e7 n5 => ?_
    have M5 := M4.later (M4.S.later e6 e7 S5.FH n5) e6 e7 n5
    cases b with
    | false => exact ⟨F5, acc, ys, hlt, M5, q⟩
    | true =>
      have q : Ans ((f δ2).bind fun y => (lcGo g t f (wipeE δ vs) (ds.drop (i + 1))).bind fun ys => .ok (y :: ys)) _ noE := q
      rw [Ans.bind_iff] at q
      refine ⟨F0, B, F5, δ2, S5, q.imp fun y q vy F6 H6 S6 e8 e9 n6 r6 => ?_⟩
      have M6 := M5.later (M5.S.later e8 e9 S6.FH n6) e8 e9 n6
      have la : acc.length = ys.length := M.rs.length
      refine ⟨acc, M6.hD, Nat.lt_of_le_of_lt (by rw [la]; exact sz) (by decide), F6, _, ys ++ [y], hlt, M6.push hL (S1.wiped vs) r6, ?_⟩
      rw [Ans.bind_iff] at q
      refine q.imp fun zs q => ?_
      have e10 : ys ++ [y] ++ zs = ys ++ y :: zs := by simp
      rw [e10]
      exact q
  · have ei : i = ds.length := by omega
    rw [List.drop_eq_nil_of_le (by omega)] at q
    have q : Ans (if (ys ++ []).length ≤ lim then Dv.R.ok (PyData.list (ys ++ [])) else .bad) _ noE := q
    obtain ⟨_, q⟩ := Ans.if_bad (c := (ys ++ []).length ≤ lim) q
    rw [List.append_nil] at q
    exact .inl ⟨it.1 i H3 F3 M.e1 M.S.FH (by omega), q (.ref Lp) F3 H3 (S1.later M.e1 M.e2 M.S.FH M.n) (e1.trans M.e1) (e2.trans M.e2) (n1.trans (M.n.back e2)) ⟨Lp, acc, rfl, M.fD, e2.free hL, M.hD, M.rs⟩⟩
end Dv
/-! Dv12: calls of defs; the context; the look at an expression. -/
namespace Dv
open PySem PySem.Spec PyProof.Rows L2
variable {X : Cx} {W : Wi} {K : PySem.W.Frag} {F F' F0 F1 B H H' H1 : Hp} {v : V} {d : D} {k : Nat} {σ : L2.St} {δ : Env} {pins : List (Addr × Obj)} {s : Shared} {Q : VK} {e tg a1 b1 : Expr} {a : List Bool} {f fa fb : DE} {pos p : Pos}

/-! ### what a def gives -/
/-- the frozen arguments' data in, the answer out; o: what it hands back is new -/
def prom (K : PySem.W.Frag) (m : List D → R D) (o : Bool) : List V → Hp → VK → Prop := fun vs H Q => ∃ F ds, Same F H ∧ Rps K F vs ds ∧
  Ans (m ds) (fun d => ∀ v F' H', Same F F' → Same H H' → Same F' H' → New H F F' → (o = true → Ow K H F' H' v d) → (o = false → Rp K F' v d) → Q v H') noE
/-- a def keeps what it gives, called from code that no guard stands around -/
structure Fk (P : Program) (w : World) (K : PySem.W.Frag) (mg : Str → Option Value) (base : Heap) (k : Nat) (f : Addr) (fd : FuncData) (ps : List Str) (sp : List V → Hp → VK → Prop) : Prop where
  many : ∀ vs H Q, sp vs H Q → vs.length = ps.length
  does : ∀ (A : Around) (outer : List PySem.Env) (s : Shared) (H : Hp) (args : Args) (us : List Value) (vs : List V) (Q : VK), Room k A → A.guards = some [] → Env0 P w K mg base A outer s H →
    BindsTo s fd args (ps.zip us) → Vals vs us → sp vs H Q → codeAny (model P w) A (.call (.ref f) args) (CR CX0 outer P w H s Q E0) s
def FnAt (X : Cx) (x : Str) (m : List D → R D) (o : Bool) : Prop := ∃ (k : Nat) (f : Addr) (fd : FuncData) (ps : List Str), Fk X.prog X.w X.K X.mg X.base k f fd ps (prom X.K m o) ∧ Room k X.A ∧ X.mg x = some (.ref f) ∧
  PySem.W.keepIn X.K (.ref f) = true ∧ Binds X.K fd ps []
theorem Fk.called {f : Addr} {fd : FuncData} {ps : List Str} {sp : List V → Hp → VK → Prop} {us : List Value} {vs : List V} (fk : Fk X.prog X.w X.K X.mg X.base k f fd ps sp) (room : Room k X.A) (gu : X.A.guards = some []) (bi : Binds X.K fd ps [])
    (I : Inv X pins σ H s) (rel : Vals vs us) (q : sp vs H Q) : wpAny (model X.prog X.w) X.A (call (.ref f) us) (EP X pins σ Q) X.xe s := by
  have n : us.length = ps.length := rel.length.symm.trans (fk.many vs H Q q)
  have b := bi s us I.kIn (by rw [List.append_nil]; exact n)
  rw [List.append_nil] at b
  refine wpAny_call (codeAny_mono (fk.does X.A X.stack s H ⟨us, []⟩ us vs Q room gu I.env0 b rel q) fun res s' z => ?_)
  match res, z with
  | .ok (.ret _), z => exact I.after z
  | .ok .next, z => exact False.elim z
  | .ok .brk, z => exact False.elim z
  | .ok .cont, z => exact False.elim z
  | .error _, z => exact False.elim z
def notDbg (x : Str) : Bool := !(x == ("__debug__" : Str)) && !(x == ("__classdict__" : Str))
theorem dbg1 {x : Str} (h : notDbg x = true) : (x == ("__debug__" : Str)) = false := by
  unfold notDbg at h
  rw [Bool.and_eq_true] at h
  simpa using h.1
theorem dbg2 {x : Str} (h : notDbg x = true) : (x == ("__classdict__" : Str)) = false := by
  unfold notDbg at h
  rw [Bool.and_eq_true] at h
  simpa using h.2
def tFn (K : PySem.W.Frag) (m : List D → R D) (o : Bool) (t : TA) : TE := fun σ H Q => t σ H fun vs H1 => prom K m o vs H1 Q
theorem pe_fn0 {x : Str} {m : List D → R D} {o : Bool} (fa : FnAt X x m o) (gu : X.A.guards = some []) (gl : Gl X x) (hx : notDbg x = true) : PE X (.Call (.Name x p) [] [] pos) (tFn X.K m o L2.tNil) := by
  obtain ⟨k, f, fd, ps, fk, room, hm, keep, bi⟩ := fa
  refine ⟨fun pins s σ H Q I q => wpAny_Call_Name_kw (ld_glob I gl hm ?_ (dbg1 hx))⟩
  exact PySem.W.callWith_K0 I.kIn keep (fk.called (us := []) room gu bi I .nil q)
theorem pe_fn {x : Str} {m : List D → R D} {o : Bool} {t : TA} {es : List Expr} (fa : FnAt X x m o) (gu : X.A.guards = some []) (gl : Gl X x) (hx : notDbg x = true) (ha : PA X (e :: es) t) (hp : (e :: es).all plainE = true) : PE X (.Call (.Name x p) (e :: es) [] pos) (tFn X.K m o t) := by
  rw [List.all_cons, Bool.and_eq_true] at hp
  obtain ⟨k, f, fd, ps, fk, room, hm, keep, bi⟩ := fa
  refine ⟨fun pins s σ H Q I q => wpAny_Call_Name_kw (ld_glob I gl hm ?_ (dbg1 hx))⟩
  exact PySem.W.callWith_K (h₀ := X.base) I.ok.mod.kin keep (thn (ha.run pos pins s σ H _ I q) fun us s1 ⟨vs, H1, I1, r, q1⟩ => ⟨I1.kIn, fk.called room gu bi I1 r q1⟩) (star_cons hp.1) (star_any pos hp.2)
theorem je_fnT {m : List D → R D} {o : Bool} {fs : List DE} {t : TA} (h : PE X e (tFn X.K m o t)) (ht : ∀ σ H Q, tJA X.K wi0 a fs (fun F _ vs ds => Rps X.K F vs ds) σ H Q → t σ H Q) :
    JE X wi0 a e (eCall m fs) (if o then 3 else 2) := h.imp fun σ H Q ⟨F0, B, F, δ, S, q⟩ => by
  unfold eCall at q
  rw [Ans.bind_iff] at q
  refine ht σ H _ ⟨F0, B, F, δ, S, q.imp fun ds q vs F1 H1 S1 e1 e2 n1 r1 => ⟨F1, ds, S1.FH, r1, q.mono (fun d _ q v F2 H2 e3 e4 e5 n2 h1 h2 => ?_) fun _ _ z => z⟩⟩
  refine q v F2 H2 (S1.later e3 e4 e5 n2) (e1.trans e3) (e2.trans e4) (n1.trans (n2.back e2)) ?_
  cases o with
  | true => exact Ow.early e2 (h1 rfl)
  | false => exact h2 rfl
theorem je_fn {x : Str} {m : List D → R D} {o : Bool} (fa : FnAt X x m o) (gu : X.A.guards = some []) (gl : Gl X x) (hx : notDbg x = true) : ∀ {es : List Expr} {fs : List DE}, Each2 (fun e f => JE X wi0 a e f 2) es fs → es.all plainE = true →
    JE X wi0 a (.Call (.Name x p) es [] pos) (eCall m fs) (if o then 3 else 2)
  | _, _, .nil, _ => je_fnT (pe_fn0 fa gu gl hx) fun σ H Q ⟨F0, B, F, δ, S, q⟩ => q [] F H S (Same.refl F) (Same.refl H) (New.refl _ _) .nil
  | _, _, .cons h t, hp => je_fnT (pe_fn fa gu gl hx (ja_all (.cons h t) hp) hp) fun σ H Q q => q

/-! ### a call that keeps nothing of its arguments -/
mutual
/-- no list lies in it -/
def nol : D → Bool
  | .none => true
  | .bool _ => true
  | .int _ => true
  | .str _ => true
  | .list _ => false
  | .tuple xs => nols xs
  | .dict _ => false
def nols : List D → Bool
  | [] => true
  | x :: xs => nol x && nols xs
end
def flatD (o : Bool) : D → Bool
  | .list xs => o && nols xs
  | d => nol d
def Flat (m : List D → R D) (o : Bool) : Prop := ∀ ds d, m ds = .ok d → flatD o d = true
/-- an answer that is not flat is none -/
def gFlat (o : Bool) (m : List D → R D) : List D → R D := fun ds => (m ds).bind fun d => if flatD o d then .ok d else .bad
theorem flat_g (o : Bool) (m : List D → R D) : Flat (gFlat o m) o := fun ds d h => by
  obtain ⟨x, _, h⟩ := R.bind_eq_ok h
  split at h
  · cases h; assumption
  · cases h
/-- all lists of the heap frozen for a while -/
def allF (F H : Hp) : Hp := fun b => match F b with
  | some o => some o
  | none => match H b with
    | some (.lst xs) => some (.lst xs)
    | _ => none
theorem allF_F {b : Addr} {o : HO} (h : F b = some o) : allF F H b = some o := by unfold allF; rw [h]
theorem allF_new {b : Addr} (h : F b = none) (h2 : allF F H b ≠ none) : ∃ xs, allF F H b = some (.lst xs) := by
  unfold allF at h2 ⊢
  rw [h] at h2 ⊢
  dsimp only at h2 ⊢
  split at h2
  · rename_i xs e; exact ⟨xs, rfl⟩
  · exact absurd rfl h2
theorem allF_H (FH : Same F H) : Same (allF F H) H := fun b o h => by
  unfold allF at h
  split at h
  · rename_i x e; cases h; exact FH b _ e
  · split at h
    · rename_i xs e; cases h; exact e
    · cases h
theorem allF_rps (FH : Same F H) : ∀ {vs : List V} {ds : List D}, Rhs K F H vs ds → Rps K (allF F H) vs ds
  | _, _, .nil => .nil
  | _, _, .cons r t => .cons (by
      have up : Same F (allF F H) := fun b o h => allF_F h
      rcases r with r | ⟨p, xs, ds, rfl, rfl, hp, rs⟩
      · exact Rp.mono up _ _ r
      · refine .lst (SqR.of ?_) (Rps.mono up _ _ rs)
        cases q : F p with
        | some o => rw [allF_F q, ← FH p o q, hp]
        | none => unfold allF; rw [q, hp]) (allF_rps FH t)
/-- thawed again -/
def thaw (F H F2 : Hp) : Hp := fun b => if F b = none ∧ allF F H b ≠ none then none else F2 b
theorem thaw_tup {F2 : Hp} (e : Same (allF F H) F2) {a : Addr} {xs : List V} (h : SqT K F2 a xs) : SqT K (thaw F H F2) a xs := by
  have at_ : ∀ {b : Addr} {o : HO}, F2 b = some o → (∀ xs, o ≠ .lst xs) → thaw F H F2 b = some o := fun {b o} h nl => by
    unfold thaw
    rw [if_neg]
    · exact h
    · intro ⟨z1, z2⟩
      obtain ⟨xs, z3⟩ := allF_new z1 z2
      have := e b _ z3
      rw [h] at this
      exact nl xs (Option.some.inj this)
  rcases h with (h | ⟨o, h⟩) | h
  · exact .inl (.inl (at_ h fun _ z => by cases z))
  · exact .inl (.inr ⟨o, at_ h fun _ z => by cases z⟩)
  · exact .inr h
mutual
theorem thaw_rp {F2 : Hp} (e : Same (allF F H) F2) : ∀ (d : D) (v : V), nol d = true → Rp K F2 v d → Rp K (thaw F H F2) v d
  | .none, _, _, h => by cases h; exact .non
  | .bool _, _, _, h => by cases h; exact .bl _
  | .int _, _, _, h => by cases h; exact .int _
  | .str _, _, _, h => by cases h with | str s => exact .str s
  | .list ds, _, n, _ => by cases n
  | .tuple ds, _, n, h => by cases h with | tup s r => exact .tup (thaw_tup e s) (thaw_rps e ds _ n r)
  | .dict _, _, _, h => by cases h
theorem thaw_rps {F2 : Hp} (e : Same (allF F H) F2) : ∀ (ds : List D) (vs : List V), nols ds = true → Rps K F2 vs ds → Rps K (thaw F H F2) vs ds
  | [], _, _, h => by cases h; exact .nil
  | d :: ds, _, n, h => by
    have n : (nol d && nols ds) = true := n
    rw [Bool.and_eq_true] at n
    cases h with | cons a b => exact .cons (thaw_rp e d _ n.1 a) (thaw_rps e ds _ n.2 b)
end
theorem je_fnBT {m : List D → R D} {o : Bool} {fs : List DE} {t : TA} (fl : Flat m o) (h : PE X e (tFn X.K m o t)) (ht : ∀ σ H Q, tJA X.K wi0 a fs (fun F H vs ds => Rhs X.K F H vs ds) σ H Q → t σ H Q) :
    JE X wi0 a e (eCall m fs) (if o then 3 else 2) := h.imp fun σ H Q ⟨F0, B, F, δ, S, q⟩ => by
  unfold eCall at q
  rw [Ans.bind_iff] at q
  refine ht σ H _ ⟨F0, B, F, δ, S, q.imp fun ds q vs F1 H1 S1 e1 e2 n1 r1 => ⟨allF F1 H1, ds, allF_H S1.FH, allF_rps S1.FH r1, q.mono (fun d eq q v F2 H2 e3 e4 e5 n2 h1 h2 => ?_) fun _ _ z => z⟩⟩
  have flat := fl ds d eq
  have up : Same F1 (allF F1 H1) := fun b o h => allF_F h
  have e6 : Same F1 (thaw F1 H1 F2) := fun b o h => by
    unfold thaw
    rw [if_neg (by rw [h]; simp)]
    exact e3 b o (up b o h)
  have sub : ∀ {b}, thaw F1 H1 F2 b ≠ none → thaw F1 H1 F2 b = F2 b ∧ ¬ (F1 b = none ∧ allF F1 H1 b ≠ none) := fun {b} h => by
    unfold thaw at h ⊢
    split at h
    · exact absurd rfl h
    · rename_i z; rw [if_neg z]; exact ⟨rfl, z⟩
  have e7 : Same (thaw F1 H1 F2) H2 := fun b o h => by
    obtain ⟨z1, _⟩ := sub (by rw [h]; simp)
    rw [z1] at h
    exact e5 b o h
  have n3 : New H1 F1 (thaw F1 H1 F2) := fun b h => by
    obtain ⟨z1, z2⟩ := sub h
    rw [z1] at h
    rcases n2 b h with z | z
    · left
      intro z3
      exact z2 ⟨z3, z⟩
    · exact .inr z
  have none_of : ∀ {b}, F2 b = none → thaw F1 H1 F2 b = none := fun {b} h => by unfold thaw; split <;> first | rfl | exact h
  refine q v (thaw F1 H1 F2) H2 (S1.later e6 e4 e7 n3) (e1.trans e6) (e2.trans e4) (n1.trans (n3.back e2)) ?_
  cases o with
  | true =>
    have g := h1 rfl
    have g2 : Ow X.K H1 (thaw F1 H1 F2) H2 v d := by
      cases d with
      | list ds =>
        obtain ⟨p, xs, rfl, fp, bp, hp, rs⟩ := g
        have nl : (true && nols ds) = true := flat
        exact ⟨p, xs, rfl, none_of fp, bp, hp, thaw_rps e3 ds xs nl rs⟩
      | none => exact thaw_rp e3 _ v flat g
      | bool b => exact thaw_rp e3 _ v flat g
      | int i => exact thaw_rp e3 _ v flat g
      | str x => exact thaw_rp e3 _ v flat g
      | tuple ds => exact thaw_rp e3 _ v flat g
      | dict kvs => cases flat
    exact Ow.early e2 g2
  | false =>
    have nl : nol d = true := by
      cases d with
      | list ds => cases flat
      | _ => exact flat
    exact thaw_rp e3 d v nl (h2 rfl)
theorem je_fnB {x : Str} {m : List D → R D} {o : Bool} (fl : Flat m o) (fa : FnAt X x m o) (gu : X.A.guards = some []) (gl : Gl X x) (hx : notDbg x = true) : ∀ {es : List Expr} {fs : List DE}, Each2 (fun e f => JE X wi0 a e f 0) es fs → es.all plainE = true →
    JE X wi0 a (.Call (.Name x p) es [] pos) (eCall m fs) (if o then 3 else 2)
  | _, _, .nil, _ => je_fnBT fl (pe_fn0 fa gu gl hx) fun σ H Q ⟨F0, B, F, δ, S, q⟩ => q [] F H S (Same.refl F) (Same.refl H) (New.refl _ _) .nil
  | _, _, .cons h t, hp => je_fnBT fl (pe_fn fa gu gl hx (jr_all (.cons h t) hp) hp) fun σ H Q q => q

/-! ### the context -/
structure Ctx (c : Cfg) (X : Cx) (sc : Scope) : Prop where
  hN : X.N = c.N
  nd : X.N.Nodup
  calm : X.calm = true
  room : ∃ n, Room n X.A
  gu : X.A.guards = some []
  sc : X.env.scope = sc
  gl : ∀ x d, c.ge.lookup x = some (.con d) → ∃ v u, X.mg x = some u ∧ RelV v u ∧ ∀ F, Rp X.K F v d
  fn : ∀ x m o fl, c.ge.lookup x = some (.fn m o fl) → FnAt X x m o ∧ (fl = true → Flat m o)
  bn : ∀ x, c.bn.contains x = true → X.mg x = none
theorem Ctx.blk {c : Cfg} {sc : Scope} (C : Ctx c X sc) (s : Shared) (H : Hp) (scope : Scope) (ca : Addr) (cl : List (Str × Addr)) (fp : List Addr) : Ctx c (X.blk s H scope (compEnvC scope cl ca X.env) fp) (rel scope sc) :=
  ⟨C.hN, C.nd, C.calm, C.room, C.gu, by rw [← C.sc]; rfl, C.gl, C.fn, C.bn⟩
theorem Ctx.glo {c : Cfg} {sc : Scope} (C : Ctx c X sc) {x : Str} (h : Dv.glo sc x = true) : Gl X x := by
  have := glo_of h
  rw [← C.sc] at this
  exact this
theorem Ctx.vis {c : Cfg} {sc : Scope} (C : Ctx c X sc) {x : Str} (h : Dv.vis sc x = true) : Vis X.env.scope x := by
  have := vis_of h
  rw [← C.sc] at this
  exact this
theorem Ctx.slot {c : Cfg} {sc : Scope} (C : Ctx c X sc) {x : Str} {i : Nat} (h : c.slot x = some i) : X.N[i]? = some x := by
  rw [C.hN]
  exact slot_get h
theorem lookup_map {names : List (Str × NameKind)} {g : Str × NameKind → Str × NameKind} (hg : ∀ p, (g p).1 = p.1) (x : Str) : (names.map g).lookup x = (names.find? (fun p => x == p.1)).map fun p => (g p).2 := by
  induction names with
  | nil => rfl
  | cons p ps ih =>
    rw [List.map_cons]
    have e : g p = ((g p).1, (g p).2) := rfl
    rw [e, List.lookup_cons, hg, List.find?_cons]
    cases h : x == p.1 with
    | true => rfl
    | false => exact ih
theorem lookup_find (names : List (Str × NameKind)) (x : Str) : names.lookup x = (names.find? (fun p => x == p.1)).map fun p => p.2 := by
  have := lookup_map (names := names) (g := fun p => p) (fun _ => rfl) x
  rw [List.map_id'] at this
  exact this
theorem rel_loc {scope sc : Scope} {x : Str} {kd : NameKind} (h : scope.names.lookup x = some kd) (hk : (kd == .free) = false) : (rel scope sc).names.lookup x = some kd := by
  unfold rel
  show (scope.names.map _).lookup x = _
  rw [lookup_map (by intro ⟨n, k⟩; dsimp only; split <;> rfl)]
  rw [lookup_find] at h
  obtain ⟨⟨n, k⟩, h1, h2⟩ := Option.map_eq_some_iff.mp h
  have h2 : k = kd := h2
  subst h2
  rw [h1]
  show some _ = some _
  dsimp only
  rw [hk]
  rfl
/-- where a target's names may be stored -/
def StOk (X : Cx) (tsc : Scope) : Prop := ∀ x, Dv.loc tsc x = true → Loc X.env.scope x ∧ (X.fn x = true ∨ X.env.scope.names.lookup x = some .local)
theorem StOk.blk {c : Cfg} {sc : Scope} (C : Ctx c X sc) (s : Shared) (H : Hp) (scope : Scope) (ca : Addr) (cl : List (Str × Addr)) (fp : List Addr) : StOk (X.blk s H scope (compEnvC scope cl ca X.env) fp) scope := fun x hx => by
  have e : (compEnvC scope cl ca X.env).scope = rel scope sc := (C.blk s H scope ca cl fp).sc
  rcases loc_of hx with h | h
  · have := rel_loc (sc := sc) h rfl
    rw [← e] at this
    exact ⟨.inl this, .inr this⟩
  · have := rel_loc (sc := sc) h rfl
    rw [← e] at this
    refine ⟨.inr this, .inl ?_⟩
    show (scope.names.lookup x == some .cell) = true
    rw [h]
    rfl
end Dv
/-! Dv13: the look at an expression, and that it is sound. -/
namespace Dv
open PySem PySem.Spec PyProof.Rows L2

/-- the slots that a target sets (the last first) -/
def tSs (f : Expr → Option (List Nat)) : List Expr → Option (List Nat)
  | [] => some []
  | e :: es => (f e).bind fun ts => (tSs f es).bind fun us => some (us ++ ts)
def tS (c : Cfg) : Nat → Scope → Expr → Option (List Nat)
  | 0, _, _ => none
  | n + 1, sc, e => match e with
    | .Name x _ => if loc sc x then (match c.slot x with
        | some i => some [i]
        | none => none) else none
    | .Tuple es _ _ => if es.all plainT then tSs (tS c n sc) es else none
    | _ => none
def isTup : Expr → Bool
  | .Tuple _ _ _ => true
  | _ => false
def kj (k1 k2 : Nat) : Nat := if k1 = k2 then k1 else if k1 + k2 = 4 then 1 else if k1 + k2 = 5 then 2 else 0
def kjs : List Nat → Nat
  | [] => 9
  | [k] => k
  | k :: ks => kj k (kjs ks)
def kF (k : Nat) : Bool := k == 2 || k == 3
def k3 (k : Nat) : Bool := decide (k ≤ 3)
def kN (c : Cfg) (a : List Bool) (sc : Scope) (x : Str) : Nat :=
  if vis sc x then (match c.slot x with
    | some i => if notDbg x then (if own a i then 1 else 2) else 9
    | none => 3)
  else if glo sc x then (match c.ge.lookup x with
    | some (.con _) => if notDbg x then 2 else 9
    | _ => 3)
  else 3
def ownP (c : Cfg) (scope : Scope) : List (Str × Nat) := scope.names.filterMap fun p => match p.2 with
  | .local => (c.slot p.1).map fun i => (p.1, i)
  | .cell => (c.slot p.1).map fun i => (p.1, i)
  | _ => none
def fnOwn (c : Cfg) (x : Str) : Bool := match c.ge.lookup x with
  | some (.fn _ o _) => o
  | _ => false
def fnFlat (c : Cfg) (x : Str) : Bool := match c.ge.lookup x with
  | some (.fn _ _ fl) => fl
  | _ => false
mutual
def kE (c : Cfg) : Nat → List Bool → Scope → Expr → Nat
  | 0, _, _, _ => 3
  | n + 1, a, sc, e => match e with
    | .Constant _ _ _ => 3
    | .Name x _ => kN c a sc x
    | .BinOp x _ y _ => if k3 (kE c n a sc x) && k3 (kE c n a sc y) then 3 else 9
    | .UnaryOp _ x _ => if k3 (kE c n a sc x) then 3 else 9
    | .BoolOp _ es _ => if es.all (fun e => k3 (kE c n a sc e)) && !es.isEmpty then kjs (es.map (kE c n a sc)) else 9
    | .IfExp t x y _ => if kT c n a sc t && k3 (kE c n a sc x) && k3 (kE c n a sc y) then kj (kE c n a sc x) (kE c n a sc y) else 9
    | .Compare x ops ys _ => if k3 (kE c n a sc x) && ys.all (fun e => k3 (kE c n a sc e)) && ys.all notSet && decide (ops.length = ys.length) && !ys.isEmpty then 3 else 9
    | .List es _ => if es.all (fun e => kF (kE c n a sc e)) && es.all plainE && decide (es.length ≤ 100000) then 3 else 9
    | .Tuple es _ _ => if es.all (fun e => kF (kE c n a sc e)) && es.all plainE && decide (es.length ≤ 100000) then 3 else 9
    | .Subscript x i _ => (match subK i with
      | .sl lo hi => if k3 (kE c n a sc x) && lo.all (fun e => k3 (kE c n a sc e)) && hi.all (fun e => k3 (kE c n a sc e)) then 3 else 9
      | .rev => if k3 (kE c n a sc x) then 3 else 9
      | .ix => if k3 (kE c n a sc x) && k3 (kE c n a sc i) then 2 else 9
      | .no => 3)
    | .ListComp elt gens scope _ => (match genK gens with
      | .one tg it ifs => (match tS c n scope tg with
        | some ts => if kI c n a sc (isTup tg) it && notSet it && blkC c.N sc scope (ownP c scope) && ts.all (fun i => (ownOf c scope).contains i) &&
            kIfs c n (clr (clr a (ownOf c scope)) ts) (rel scope sc) ifs && kF (kE c n (clr (clr a (ownOf c scope)) ts) (rel scope sc) elt) then 3 else 9
        | none => 9)
      | .two _ _ _ _ _ _ => 9
      | .no => 3)
    | .Call f as kws _ => (match callK c sc f as kws with
      | .listI a1 => (match itK c sc a1 with
        | .rng [_] => if kI c n a sc false a1 then 3 else 9
        | .rng [_, _] => if kI c n a sc false a1 then 3 else 9
        | _ => 9)
      | .fn x => (match fnOf c sc x with
        | some _ => if notDbg x && as.all (fun e => if fnFlat c x then k3 (kE c n a sc e) else kF (kE c n a sc e)) && as.all plainE then (if fnOwn c x then 3 else 2) else 9
        | none => if isBn c sc x then (if bnames.contains x && as.all (fun e => k3 (kE c n a sc e)) && as.all plainE then 3 else 9) else 3)
      | .met o m => if mets.contains m then (if k3 (kE c n a sc o) && as.all (fun e => k3 (kE c n a sc e)) && as.all plainE && !as.isEmpty && decide (as.length < 29) && baseOk o && f.pos.endLine == e.pos.line then 3 else 9) else 3
      | .no => 3)
    | _ => 3
def kT (c : Cfg) : Nat → List Bool → Scope → Expr → Bool
  | 0, _, _, _ => true
  | n + 1, a, sc, e => match e with
    | .UnaryOp op x pos => (match op with
      | .Not => kT c n a sc x
      | op => k3 (kE c n a sc (.UnaryOp op x pos)))
    | .BoolOp _ es _ => es.all (kT c n a sc) && !es.isEmpty
    | .Compare x ops ys _ => k3 (kE c n a sc x) && ys.all (fun e => k3 (kE c n a sc e)) && ys.all notSet && decide (ops.length = ys.length) && !ys.isEmpty
    | .IfExp _ _ _ _ => true
    | e => k3 (kE c n a sc e)
def kIfs (c : Cfg) : Nat → List Bool → Scope → List Expr → Bool
  | 0, _, _, _ => true
  | n + 1, a, sc, es => match es with
    | [] => true
    | [e] => kT c n a sc e
    | _ => false
def kI (c : Cfg) : Nat → List Bool → Scope → Bool → Expr → Bool
  | 0, _, _, _, _ => true
  | n + 1, a, sc, tt, e => match itK c sc e with
    | .rng as => isBn c sc "range" && (match as with
      | [x] => plainE x && k3 (kE c n a sc x)
      | [x, y] => plainE x && plainE y && k3 (kE c n a sc x) && k3 (kE c n a sc y)
      | [x, y, z] => plainE x && plainE y && k3 (kE c n a sc x) && k3 (kE c n a sc y)
      | _ => true)
    | .enum x => tt && isBn c sc "enumerate" && plainE x && kF (kE c n a sc x)
    | .zip x y => tt && isBn c sc "zip" && plainE x && plainE y && kF (kE c n a sc x) && kF (kE c n a sc y)
    | .exp => kF (kE c n a sc e)
end
theorem ite9 {b : Bool} {k : Nat} (h : k3 (if b = true then k else 9) = true) : b = true := by
  cases b with
  | true => rfl
  | false => cases h
variable {X : Cx} {W : Wi} {K : PySem.W.Frag} {k : Nat} {e : Expr} {a : List Bool} {f : DE} {c : Cfg} {n : Nat} {sc : Scope} {pos p : Pos}
theorem JE.kF (h : JE X W a e f k) (hk : kF k = true) : JE X W a e f 2 := by
  unfold Dv.kF at hk
  rw [Bool.or_eq_true] at hk
  rcases hk with hk | hk
  · cases eq_of_beq hk; exact h
  · cases eq_of_beq hk; exact h.frz
theorem k3_of_kF (hk : Dv.kF k = true) : k3 k = true := by
  unfold Dv.kF at hk
  rw [Bool.or_eq_true] at hk
  rcases hk with hk | hk
  · cases eq_of_beq hk; rfl
  · cases eq_of_beq hk; rfl
def kle (k k' : Nat) : Bool := k == k' || k' == 0 || (k == 3 && (k' == 1 || k' == 2))
theorem JE.weak {k' : Nat} (h : JE X W a e f k) (hk : kle k k' = true) : JE X W a e f k' := by
  unfold kle at hk
  simp only [Bool.or_eq_true, Bool.and_eq_true, beq_iff_eq] at hk
  rcases hk with (hk | hk) | ⟨hk, hk2 | hk2⟩
  · subst hk; exact h
  · subst hk; exact h.to0
  · subst hk hk2; exact h.to1
  · subst hk hk2; exact h.frz
theorem kj_all : ∀ k1 : Fin 4, ∀ k2 : Fin 4, kle k1 (kj k1 k2) = true ∧ kle k2 (kj k1 k2) = true ∧ k3 (kj k1 k2) = true := by decide
theorem kj_of {k1 k2 : Nat} (h1 : k3 k1 = true) (h2 : k3 k2 = true) : kle k1 (kj k1 k2) = true ∧ kle k2 (kj k1 k2) = true ∧ k3 (kj k1 k2) = true := by
  have h1 := of_decide_eq_true h1
  have h2 := of_decide_eq_true h2
  exact kj_all ⟨k1, by omega⟩ ⟨k2, by omega⟩
theorem kle_all : ∀ k1 k2 k3 : Fin 4, kle k1 k2 = true → kle k2 k3 = true → kle k1 k3 = true := by decide
theorem kle_trans {k1 k2 k3' : Nat} (h1 : k3 k1 = true) (h2 : k3 k2 = true) (h3 : k3 k3' = true) (a : kle k1 k2 = true) (b : kle k2 k3' = true) : kle k1 k3' = true := by
  have h1 := of_decide_eq_true h1
  have h2 := of_decide_eq_true h2
  have h3 := of_decide_eq_true h3
  exact kle_all ⟨k1, by omega⟩ ⟨k2, by omega⟩ ⟨k3', by omega⟩ a b
theorem kle_refl (k : Nat) : kle k k = true := by unfold kle; simp
theorem kjs_of : ∀ {ks : List Nat}, (∀ k ∈ ks, k3 k = true) → ks ≠ [] → k3 (kjs ks) = true ∧ ∀ k ∈ ks, kle k (kjs ks) = true
  | [], _, h => absurd rfl h
  | [k], h, _ => ⟨h k (by simp), fun k' hk => by
    have : k' = k := by simpa using hk
    subst this
    exact kle_refl _⟩
  | k :: k2 :: ks, h, _ => by
    obtain ⟨h1, h2⟩ := kjs_of (ks := k2 :: ks) (fun k hk => h k (List.mem_cons_of_mem _ hk)) (by simp)
    have h0 := h k (List.mem_cons_self ..)
    obtain ⟨g1, g2, g3⟩ := kj_of h0 h1
    refine ⟨g3, fun k' hk => ?_⟩
    rcases List.mem_cons.mp hk with rfl | hk
    · exact g1
    · exact kle_trans (h _ (List.mem_cons_of_mem _ hk)) h1 g3 (h2 k' hk) g2
structure Sound (c : Cfg) (n : Nat) : Prop where
  E : ∀ X sc a e, Ctx c X sc → k3 (kE c n a sc e) = true → JE X wi0 a e (dE c n sc e) (kE c n a sc e)
  T : ∀ X sc a e, Ctx c X sc → kT c n a sc e = true → JT X wi0 a e (dT c n sc e)
  P : ∀ X sc a es, Ctx c X sc → kIfs c n a sc es = true → PTs X es (tJT X.K wi0 a (dIfs c n sc es))
  I : ∀ X sc a tg e, Ctx c X sc → kI c n a sc (isTup tg) e = true → JI X wi0 a tg e (dI c n sc e)
theorem pts_bad {es : List Expr} {t : DT} (h : ∀ δ, t δ = .bad) : PTs X es (tJT X.K W a t) := ⟨fun _ _ σ H Q _ ⟨_, _, _, δ, _, q⟩ => by rw [h δ] at q; exact q.elim⟩
theorem sound0 : Sound c 0 := ⟨fun _ _ _ _ _ _ => je_bad fun _ => by unfold dE; rfl, fun _ _ _ _ _ _ => jt_bad fun _ => by unfold dT; rfl, fun _ _ _ _ _ _ => pts_bad fun _ => by unfold dIfs; rfl, fun _ _ _ _ _ _ _ => ji_bad fun _ => by unfold dI; rfl⟩
theorem name_ok (C : Ctx c X sc) {x : Str} (h : k3 (kN c a sc x) = true) : JE X wi0 a (.Name x pos) (eName c sc x) (kN c a sc x) := by
  unfold kN at h ⊢
  unfold eName
  by_cases hv : vis sc x = true
  · rw [if_pos hv] at h ⊢
    rw [if_pos hv]
    cases hs : c.slot x with
    | none => exact je_bad fun _ => rfl
    | some i =>
      rw [hs] at h
      have hd := ite9 (b := notDbg x) h
      show JE X wi0 a _ (eV i) (if notDbg x = true then _ else 9)
      rw [if_pos hd]
      exact je_var (C.slot hs) (C.vis hv) (dbg1 hd) (dbg2 hd)
  · rw [if_neg hv] at h ⊢
    rw [if_neg hv]
    by_cases hg : glo sc x = true
    · rw [if_pos hg] at h ⊢
      rw [if_pos hg]
      cases hl : c.ge.lookup x with
      | none => exact je_bad fun _ => rfl
      | some gv =>
        cases gv with
        | con d =>
          rw [hl] at h
          have hd := ite9 (b := notDbg x) h
          show JE X wi0 a _ (eC d) (if notDbg x = true then 2 else 9)
          rw [if_pos hd]
          obtain ⟨v, u, hm, r, rp⟩ := C.gl x d hl
          exact je_glob (C.glo hg) hm r rp (dbg1 hd)
        | fn m o fl => exact je_bad fun _ => rfl
    · rw [if_neg hg] at h ⊢
      rw [if_neg hg]
      exact je_bad fun _ => rfl
end Dv
/-! Dv14: the look at an expression is sound. -/
namespace Dv
open PySem PySem.Spec PyProof.Rows L2
variable {X : Cx} {W : Wi} {K : PySem.W.Frag} {k : Nat} {e : Expr} {a : List Bool} {f : DE} {c : Cfg} {n : Nat} {sc : Scope} {pos p : Pos}

theorem and2 {x y : Bool} (h : (x && y) = true) : x = true ∧ y = true := by simpa using h
theorem and3 {x y z : Bool} (h : (x && y && z) = true) : x = true ∧ y = true ∧ z = true := by
  obtain ⟨h, h3⟩ := and2 h
  obtain ⟨h1, h2⟩ := and2 h
  exact ⟨h1, h2, h3⟩
theorem each_map {P : Expr → DE → Prop} {g : Expr → DE} {es : List Expr} (h : ∀ e ∈ es, P e (g e)) : Each2 P es (es.map g) := Each2.map es h
theorem each_true (es : List Expr) (g : Expr → DE) : Each2 (fun _ _ => True) es (es.map g) := Each2.map es fun _ _ => trivial
theorem ne_of_isEmpty {es : List Expr} (h : (!es.isEmpty) = true) : es ≠ [] := by
  cases es with
  | nil => cases h
  | cons e es => simp
theorem all3 (h : Sound c n) (C : Ctx c X sc) {es : List Expr} (ha : es.all (fun e => k3 (kE c n a sc e)) = true) : Each2 (fun e f => JE X wi0 a e f 0) es (es.map (dE c n sc)) :=
  each_map fun e he => (h.E X sc a e C (List.all_eq_true.mp ha e he)).to0
theorem allFr (h : Sound c n) (C : Ctx c X sc) {es : List Expr} (ha : es.all (fun e => Dv.kF (kE c n a sc e)) = true) : Each2 (fun e f => JE X wi0 a e f 2) es (es.map (dE c n sc)) :=
  each_map fun e he => (h.E X sc a e C (k3_of_kF (List.all_eq_true.mp ha e he))).kF (List.all_eq_true.mp ha e he)
theorem map_len {α β : Type} (es : List α) (g : α → β) : (es.map g).length = es.length := List.length_map ..
theorem sub_ok (h : Sound c n) (C : Ctx c X sc) {x i : Expr} (hk : k3 (kE c (n + 1) a sc (.Subscript x i pos)) = true) : JE X wi0 a (.Subscript x i pos) (dE c (n + 1) sc (.Subscript x i pos)) (kE c (n + 1) a sc (.Subscript x i pos)) := by
  unfold kE dE at *
  dsimp only at *
  cases hs : subK i with
  | sl lo hi =>
    rw [hs] at hk
    dsimp only at hk ⊢
    have hb := ite9 hk
    rw [if_pos hb]
    obtain ⟨h1, h2, h3⟩ := and3 hb
    have ei : ∃ p2, i = .Slice lo hi none p2 := by
      unfold subK at hs
      split at hs
      · split at hs
        · cases hs; exact ⟨_, rfl⟩
        · split at hs <;> (try split at hs) <;> cases hs
      · cases hs
    obtain ⟨p2, rfl⟩ := ei
    refine je_slice (h.E X sc a x C h1).to0 ?_ ?_
    · cases lo with
      | none => exact jo_none
      | some e => exact jo_some (h.E X sc a e C h2).to0
    · cases hi with
      | none => exact jo_none
      | some e => exact jo_some (h.E X sc a e C h3).to0
  | rev =>
    rw [hs] at hk
    dsimp only at hk ⊢
    have hb := ite9 hk
    rw [if_pos hb]
    have ei : ∃ e p2, i = .Slice none none (some e) p2 ∧ isM1 e = true := by
      unfold subK at hs
      split at hs
      · split at hs
        · cases hs
        · split at hs
          · split at hs
            · exact ⟨_, _, rfl, by assumption⟩
            · cases hs
          · cases hs
      · cases hs
    obtain ⟨e, p2, rfl, he⟩ := ei
    exact je_rev he (h.E X sc a x C hb).to0
  | ix =>
    rw [hs] at hk
    dsimp only at hk ⊢
    have hb : (k3 (kE c n a sc x) && k3 (kE c n a sc i)) = true := by
      cases hh : (k3 (kE c n a sc x) && k3 (kE c n a sc i)) with
      | true => rfl
      | false => rw [hh] at hk; cases hk
    rw [if_pos hb]
    obtain ⟨h1, h2⟩ := and2 hb
    exact je_at (plainIx_of hs) (h.E X sc a x C h1).to0 (h.E X sc a i C h2).to0
  | no =>
    exact je_bad fun _ => rfl
theorem ownP_snd (c : Cfg) (scope : Scope) : (ownP c scope).map (·.2) = ownOf c scope := by
  unfold ownP ownOf
  rw [List.map_filterMap]
  congr 1
  funext p
  obtain ⟨x, kd⟩ := p
  cases kd <;> (dsimp only; first | rfl | (cases c.slot x <;> rfl))
theorem slot_i {c : Cfg} {x : Str} {i : Nat} (h : c.slot x = some i) : c.N[i]? = some x := slot_get h
/-- targets -/
theorem tg_ok (C : Ctx c X sc) {tsc : Scope} (hst : StOk X tsc) : ∀ (n : Nat) (e : Expr) (ts : List Nat), tS c n tsc e = some ts → ∀ a, JG X a e (dG c n tsc e) ts := by
  intro n
  induction n with
  | zero => intro e ts h; cases h
  | succ n ih =>
    intro e ts h b
    unfold tS at h
    split at h
    · rename_i x px
      split at h
      · rename_i hl
        split at h
        · rename_i i hs
          cases h
          unfold dG
          dsimp only
          rw [if_pos hl, hs]
          obtain ⟨h1, h2⟩ := hst x hl
          exact jg_name C.nd (C.slot hs) h1 h2
        · cases h
      · cases h
    · rename_i es kk ps
      split at h
      · rename_i hp
        unfold dG
        dsimp only
        refine jg_tup C.calm hp (map_len _ _) ?_
        have key : ∀ (es : List Expr) (ts : List Nat), es.all plainT = true → tSs (tS c n tsc) es = some ts → ∀ b, PGs X es (tJGs X.K b (es.map (dG c n tsc)) ts) := by
          intro es
          induction es with
          | nil => intro ts _ h b; cases h; exact jgs_nil
          | cons e es ihs =>
            intro ts hp h b
            rw [List.all_cons] at hp
            obtain ⟨hp1, hp2⟩ := and2 hp
            unfold tSs at h
            obtain ⟨t1, e1, h⟩ := Option.bind_eq_some_iff.mp h
            obtain ⟨t2, e2, h⟩ := Option.bind_eq_some_iff.mp h
            cases h
            exact jgs_cons (ih e t1 e1 b) (ihs t2 hp2 e2 _) hp1
        exact key es ts hp h b
      · cases h
    · cases h
theorem fold_ok {it : Expr} (h : notSet it = true) (env : PySem.Env) (x : Value) : foldedSetIterable it env x = pure x := by
  cases it <;> first | rfl | cases h
theorem lc_ok (h : Sound c n) (C : Ctx c X sc) {elt : Expr} {gens : List Comprehension} {scope : Scope} (hk : k3 (kE c (n + 1) a sc (.ListComp elt gens scope pos)) = true) : JE X wi0 a (.ListComp elt gens scope pos) (dE c (n + 1) sc (.ListComp elt gens scope pos)) (kE c (n + 1) a sc (.ListComp elt gens scope pos)) := by
  unfold kE dE at *
  dsimp only at *
  cases hs : genK gens with
  | one tg it ifs =>
    rw [hs] at hk
    dsimp only at hk ⊢
    cases ht : tS c n scope tg with
    | none => rw [ht] at hk; cases hk
    | some ts =>
      rw [ht] at hk
      dsimp only at hk ⊢
      have hb := ite9 hk
      rw [if_pos hb]
      obtain ⟨hb, h6⟩ := and2 hb
      obtain ⟨hb, h5⟩ := and2 hb
      obtain ⟨hb, h4⟩ := and2 hb
      obtain ⟨h1, h2, h3⟩ := and3 hb
      have eg : gens = [⟨tg, it, ifs, 0⟩] := by
        unfold genK at hs
        split at hs <;> cases hs
        rfl
      subst eg
      rw [← C.hN, ← C.sc] at h3
      have ok := blkOk_by h3
      have eo := ownP_snd c scope
      refine PE.imp (pe_lc (wi := tJI X.K wi0 a (dI c n sc it)) (g := tJG X.K (clr a (ownOf c scope)) (dG c n scope tg) ts) (tt := tJT X.K wi0 (clr (clr a (ownOf c scope)) ts) (dIfs c n (rel scope sc) ifs)) (te := tJ X.K wi0 (clr (clr a (ownOf c scope)) ts) (dE c n (rel scope sc) elt) 2)
        C.calm C.nd (h.I X sc a tg it C h1) ok (fun s H ca cl fp => tg_ok (C.blk s H scope ca cl fp) (StOk.blk C s H scope ca cl fp) n tg ts ht (clr a (ownOf c scope)))
        (fun s H ca cl fp => h.P _ _ _ ifs (C.blk s H scope ca cl fp) h5) (fun s H ca cl fp => (h.E _ _ _ elt (C.blk s H scope ca cl fp) (k3_of_kF h6)).kF h6) (fold_ok h2 _)) fun σ H Q q => ?_
      have q : tJ X.K wi0 a (eLc (ownOf c scope) (dG c n scope tg) (dI c n sc it) (dIfs c n (rel scope sc) ifs) (dE c n (rel scope sc) elt)) 3 σ H Q := q
      rw [← eo] at q
      rw [← eo]
      refine je_lc C.calm C.nd (h.I X sc a tg it C h1) ok (fun s H ca cl fp => by rw [eo]; exact tg_ok (C.blk s H scope ca cl fp) (StOk.blk C s H scope ca cl fp) n tg ts ht (clr a (ownOf c scope))) (fun i hi => ?_)
        (fun s H ca cl fp => by rw [eo]; exact h.P _ _ _ ifs (C.blk s H scope ca cl fp) h5) (fun s H ca cl fp => by rw [eo]; exact (h.E _ _ _ elt (C.blk s H scope ca cl fp) (k3_of_kF h6)).kF h6) (fold_ok h2 _) q
      have := List.all_eq_true.mp h4 i hi
      rw [eo]
      simpa using this
  | two tg it ifs tg2 it2 ifs2 => rw [hs] at hk; cases hk
  | no => exact je_bad fun _ => rfl
theorem bn_of (C : Ctx c X sc) {x : Str} (h : isBn c sc x = true) : Gl X x ∧ X.mg x = none := by
  unfold isBn at h
  obtain ⟨h1, h2⟩ := and2 h
  exact ⟨C.glo h1, C.bn x h2⟩
theorem rng_of {e : Expr} {as : List Expr} (h : itK c sc e = .rng as) : ∃ p2 pos2, e = .Call (.Name "range" p2) as [] pos2 := by
  unfold itK bnCall at h
  split at h
  · rename_i x as' hb
    split at hb
    · split at hb
      · cases hb
        split at h
        · rename_i hx
          subst hx
          cases h
          exact ⟨_, _, rfl⟩
        · split at h
          · split at h <;> cases h
          · split at h
            · split at h <;> cases h
            · cases h
      · cases hb
    · cases hb
  · cases h
theorem enum_of {e x : Expr} (h : itK c sc e = .enum x) : ∃ p2 pos2, e = .Call (.Name "enumerate" p2) [x] [] pos2 := by
  unfold itK bnCall at h
  split at h
  · rename_i y as' hb
    split at hb
    · split at hb
      · cases hb
        split at h
        · cases h
        · split at h
          · rename_i hx
            subst hx
            split at h
            · cases h; exact ⟨_, _, rfl⟩
            · cases h
          · split at h
            · split at h <;> cases h
            · cases h
      · cases hb
    · cases hb
  · cases h
theorem zip_of {e x y : Expr} (h : itK c sc e = .zip x y) : ∃ p2 pos2, e = .Call (.Name "zip" p2) [x, y] [] pos2 := by
  unfold itK bnCall at h
  split at h
  · rename_i z as' hb
    split at hb
    · split at hb
      · cases hb
        split at h
        · cases h
        · split at h
          · split at h <;> cases h
          · split at h
            · rename_i hx
              subst hx
              split at h
              · cases h; exact ⟨_, _, rfl⟩
              · cases h
            · cases h
      · cases hb
    · cases hb
  · cases h
end Dv
/-! Dv15: the look at an expression is sound: all forms. -/
namespace Dv
open PySem PySem.Spec PyProof.Rows L2
variable {X : Cx} {W : Wi} {K : PySem.W.Frag} {k : Nat} {e tg : Expr} {a : List Bool} {f : DE} {c : Cfg} {n : Nat} {sc : Scope} {pos p : Pos}

theorem zip_map (ops : List CmpOp) (es : List Expr) (g : Expr → DE) (hl : ops.length = es.length) : True := trivial
theorem cmp_e (h : Sound c n) (C : Ctx c X sc) {x : Expr} {ops : List CmpOp} {ys : List Expr} (hb : (k3 (kE c n a sc x) && ys.all (fun e => k3 (kE c n a sc e)) && ys.all notSet && decide (ops.length = ys.length) && !ys.isEmpty) = true) :
    JE X wi0 a (.Compare x ops ys pos) (eT (tCmp (dE c n sc x) (ops.zip (ys.map (dE c n sc))))) 3 ∧ JT X wi0 a (.Compare x ops ys pos) (tCmp (dE c n sc x) (ops.zip (ys.map (dE c n sc)))) := by
  obtain ⟨hb, h5⟩ := and2 hb
  obtain ⟨hb, h4⟩ := and2 hb
  obtain ⟨h1, h2, h3⟩ := and3 hb
  obtain ⟨m, hr⟩ := C.room
  have hs : ∀ e ∈ ys, notSet e = true := fun e he => List.all_eq_true.mp h3 e he
  exact ⟨je_cmp hr (of_decide_eq_true h4) hs (ne_of_isEmpty h5) (h.E X sc a x C h1).to0 (all3 h C h2), jt_cmp hr (of_decide_eq_true h4) hs (ne_of_isEmpty h5) (h.E X sc a x C h1).to0 (all3 h C h2)⟩
theorem listI_of {f : Expr} {as : List Expr} {kws : List Keyword} {b : Expr} (h : callK c sc f as kws = .listI b) : kws = [] ∧ as = [b] ∧ isBn c sc "list" = true ∧ ∃ p, f = .Name "list" p := by
  unfold callK at h
  split at h
  · split at h
    · split at h
      · split at h
        · rename_i hb
          cases h
          rw [Bool.and_eq_true, Bool.and_eq_true, decide_eq_true_eq] at hb
          obtain ⟨⟨h1, h2⟩, h3⟩ := hb
          subst h1
          exact ⟨rfl, rfl, h2, _, rfl⟩
        · cases h
      · cases h
    · cases h
    · cases h
  · cases h
theorem fn_of' {f : Expr} {as : List Expr} {kws : List Keyword} {x : Str} (h : callK c sc f as kws = .fn x) : kws = [] ∧ ∃ p, f = .Name x p := by
  unfold callK at h
  split at h
  · split at h
    · split at h
      · split at h
        · cases h
        · cases h; exact ⟨rfl, _, rfl⟩
      · cases h; exact ⟨rfl, _, rfl⟩
    · cases h
    · cases h
  · cases h
theorem met_of {f : Expr} {as : List Expr} {kws : List Keyword} {o : Expr} {m : Str} (h : callK c sc f as kws = .met o m) : kws = [] ∧ ∃ p, f = .Attribute o m p := by
  unfold callK at h
  split at h
  · split at h
    · split at h
      · split at h <;> cases h
      · cases h
    · cases h; exact ⟨rfl, _, rfl⟩
    · cases h
  · cases h
theorem fnOf_of {x : Str} {m : List D → R D} (h : fnOf c sc x = some m) : glo sc x = true ∧ c.ge.lookup x = some (.fn m (fnOwn c x) (fnFlat c x)) := by
  unfold fnOf at h
  split at h
  · rename_i hg
    refine ⟨hg, ?_⟩
    unfold fnOwn fnFlat
    split at h
    · rename_i m' o fl hl
      cases h
      rw [hl]
    · cases h
  · cases h
theorem call_ok (h : ∀ m, m ≤ n → Sound c m) (C : Ctx c X sc) {fx : Expr} {as : List Expr} {kws : List Keyword} (hk : k3 (kE c (n + 1) a sc (.Call fx as kws pos)) = true) :
    JE X wi0 a (.Call fx as kws pos) (dE c (n + 1) sc (.Call fx as kws pos)) (kE c (n + 1) a sc (.Call fx as kws pos)) := by
  have hn := h n (Nat.le_refl _)
  unfold kE dE at *
  dsimp only at *
  cases hs : callK c sc fx as kws with
  | listI b =>
    rw [hs] at hk
    dsimp only at hk ⊢
    obtain ⟨rfl, rfl, hl, p0, rfl⟩ := listI_of hs
    obtain ⟨gl, gm⟩ := bn_of C hl
    have run : ∀ as2 : List Expr, itK c sc b = .rng as2 → (as2.length = 1 ∨ as2.length = 2) → kI c n a sc false b = true → JE X wi0 a (.Call (.Name "list" p0) [b] [] pos) (eLstI (dI c n sc b)) 3 := by
      intro as2 hi hl2 hb
      obtain ⟨p2, pos2, rfl⟩ := rng_of hi
      cases n with
      | zero => exact je_bad fun _ => by unfold dI; rfl
      | succ m =>
        have hm := h m (Nat.le_succ _)
        unfold kI at hb
        unfold dI
        rw [hi] at hb ⊢
        dsimp only at hb ⊢
        obtain ⟨hr, hb⟩ := and2 hb
        obtain ⟨gl2, gm2⟩ := bn_of C hr
        match as2, hl2, hb with
        | [x], _, hb =>
          obtain ⟨b1, b2⟩ := and2 hb
          exact je_lr1 C.calm gl gm gl2 gm2 b1 (hm.E X sc a x C b2).to0
        | [x, y], _, hb =>
          obtain ⟨hb, b4⟩ := and2 hb
          obtain ⟨b1, b2, b3⟩ := and3 hb
          exact je_lr2 C.calm gl gm gl2 gm2 b1 b2 (hm.E X sc a x C b3).to0 (hm.E X sc a y C b4).to0
        | [], hl2, _ => simp at hl2
        | _ :: _ :: _ :: _, hl2, _ => simp at hl2
    split at hk
    · rename_i x hi
      have hb := ite9 hk
      rw [if_pos hb]
      exact run _ hi (.inl rfl) hb
    · rename_i x y hi
      have hb := ite9 hk
      rw [if_pos hb]
      exact run _ hi (.inr rfl) hb
    · cases hk
  | fn x =>
    rw [hs] at hk
    dsimp only at hk ⊢
    obtain ⟨rfl, p0, rfl⟩ := fn_of' hs
    cases hf : fnOf c sc x with
    | some m =>
      rw [hf] at hk
      dsimp only at hk ⊢
      have hb : (notDbg x && as.all (fun e => if fnFlat c x = true then k3 (kE c n a sc e) else Dv.kF (kE c n a sc e)) && as.all plainE) = true := by
        cases hh : (notDbg x && as.all (fun e => if fnFlat c x = true then k3 (kE c n a sc e) else Dv.kF (kE c n a sc e)) && as.all plainE) with
        | true => rfl
        | false => rw [hh] at hk; cases hk
      rw [if_pos hb]
      obtain ⟨h1, h2, h3⟩ := and3 hb
      obtain ⟨hg, hl⟩ := fnOf_of hf
      obtain ⟨fa, fl⟩ := C.fn x m _ _ hl
      cases hfl : fnFlat c x with
      | true =>
        rw [hfl] at h2 fl
        exact je_fnB (pos := pos) (p := p0) (fl rfl) fa C.gu (C.glo hg) h1 (all3 hn C h2) h3
      | false =>
        rw [hfl] at h2
        exact je_fn (pos := pos) (p := p0) fa C.gu (C.glo hg) h1 (allFr hn C h2) h3
    | none =>
      rw [hf] at hk
      dsimp only at hk ⊢
      by_cases hb : isBn c sc x = true
      · rw [if_pos hb] at hk ⊢
        rw [if_pos hb]
        have hb2 := ite9 hk
        rw [if_pos hb2]
        obtain ⟨h1, h2, h3⟩ := and3 hb2
        obtain ⟨gl, gm⟩ := bn_of C hb
        obtain ⟨m, hr⟩ := C.room
        exact je_bn hr C.gu C.calm (by simpa using h1) gl gm (jr_all (all3 hn C h2) h3) h3 (each_true _ _)
      · rw [if_neg hb]
        exact je_bad fun _ => rfl
  | met o m =>
    rw [hs] at hk
    dsimp only at hk ⊢
    obtain ⟨rfl, p0, rfl⟩ := met_of hs
    by_cases hb : mets.contains m = true
    · rw [if_pos hb] at hk ⊢
      rw [if_pos hb]
      have hb2 := ite9 hk
      rw [if_pos hb2]
      obtain ⟨hb2, b7⟩ := and2 hb2
      obtain ⟨hb2, b6⟩ := and2 hb2
      obtain ⟨hb2, b5⟩ := and2 hb2
      obtain ⟨hb2, b4⟩ := and2 hb2
      obtain ⟨b1, b2, b3⟩ := and3 hb2
      obtain ⟨q, hr⟩ := C.room
      exact je_met hr (by simpa using hb) (hn.E X sc a o C b1).to0 b6 b7 (jr_all (all3 hn C b2) b3) b3 (each_true _ _) b5 (ne_of_isEmpty b4)
    · rw [if_neg hb]
      exact je_bad fun _ => rfl
  | no => exact je_bad fun _ => rfl
theorem sound_I (h : Sound c n) (C : Ctx c X sc) (hk : kI c (n + 1) a sc (isTup tg) e = true) : JI X wi0 a tg e (dI c (n + 1) sc e) := by
  unfold kI at hk
  unfold dI
  cases hi : itK c sc e with
  | rng as =>
    rw [hi] at hk
    dsimp only at hk ⊢
    obtain ⟨hr, hb⟩ := and2 hk
    obtain ⟨gl, gm⟩ := bn_of C hr
    obtain ⟨p2, pos2, rfl⟩ := rng_of hi
    match as, hb with
    | [x], hb =>
      obtain ⟨b1, b2⟩ := and2 hb
      exact ji_rng1 gl gm b1 (h.E X sc a x C b2).to0
    | [x, y], hb =>
      obtain ⟨hb, b4⟩ := and2 hb
      obtain ⟨b1, b2, b3⟩ := and3 hb
      exact ji_rng2 gl gm b1 b2 (h.E X sc a x C b3).to0 (h.E X sc a y C b4).to0
    | [x, y, z], hb =>
      obtain ⟨hb, b4⟩ := and2 hb
      obtain ⟨b1, b2, b3⟩ := and3 hb
      dsimp only
      by_cases hm : isM1 z = true
      · rw [if_pos hm]
        exact ji_rngD gl gm b1 b2 (h.E X sc a x C b3).to0 (h.E X sc a y C b4).to0 hm
      · rw [if_neg hm]
        exact ji_bad fun _ => rfl
    | [], _ => exact ji_bad fun _ => rfl
    | _ :: _ :: _ :: _ :: _, _ => exact ji_bad fun _ => rfl
  | enum x =>
    rw [hi] at hk
    dsimp only at hk ⊢
    obtain ⟨hb, b4⟩ := and2 hk
    obtain ⟨b1, b2, b3⟩ := and3 hb
    obtain ⟨gl, gm⟩ := bn_of C b2
    obtain ⟨p2, pos2, rfl⟩ := enum_of hi
    cases tg with
    | Tuple es kk tp => exact ji_enum gl gm b3 ((h.E X sc a x C (k3_of_kF b4)).kF b4)
    | _ => cases b1
  | zip x y =>
    rw [hi] at hk
    dsimp only at hk ⊢
    obtain ⟨hb, b6⟩ := and2 hk
    obtain ⟨hb, b5⟩ := and2 hb
    obtain ⟨hb, b4⟩ := and2 hb
    obtain ⟨b1, b2, b3⟩ := and3 hb
    obtain ⟨gl, gm⟩ := bn_of C b2
    obtain ⟨p2, pos2, rfl⟩ := zip_of hi
    cases tg with
    | Tuple es kk tp => exact ji_zip gl gm b3 b4 ((h.E X sc a x C (k3_of_kF b5)).kF b5) ((h.E X sc a y C (k3_of_kF b6)).kF b6)
    | _ => cases b1
  | exp =>
    rw [hi] at hk
    dsimp only at hk ⊢
    exact ji_exp ((h.E X sc a e C (k3_of_kF hk)).kF hk)
theorem sound_P (h : Sound c n) (C : Ctx c X sc) {es : List Expr} (hk : kIfs c (n + 1) a sc es = true) : PTs X es (tJT X.K wi0 a (dIfs c (n + 1) sc es)) := by
  unfold kIfs at hk
  unfold dIfs
  match es, hk with
  | [], _ => exact ⟨fun pins s σ H Q I ⟨F0, B, F, δ, S, q⟩ => pts_nil.run pins s σ H Q I (q F H S (Same.refl F) (Same.refl H) (New.refl _ _))⟩
  | [e], hk => exact pts_one (h.T X sc a e C hk)
  | _ :: _ :: _, hk => cases hk
theorem bools_ok (h : Sound c n) (C : Ctx c X sc) {op : BoolOp} {es : List Expr} (hk : k3 (kE c (n + 1) a sc (.BoolOp op es pos)) = true) : JE X wi0 a (.BoolOp op es pos) (dE c (n + 1) sc (.BoolOp op es pos)) (kE c (n + 1) a sc (.BoolOp op es pos)) := by
  unfold kE dE at *
  dsimp only at *
  have hb : (es.all (fun e => k3 (kE c n a sc e)) && !es.isEmpty) = true := by
    cases hh : (es.all (fun e => k3 (kE c n a sc e)) && !es.isEmpty) with
    | true => rfl
    | false => rw [hh] at hk; cases hk
  rw [if_pos hb]
  obtain ⟨h1, h2⟩ := and2 hb
  have ne := ne_of_isEmpty h2
  have al := List.all_eq_true.mp h1
  obtain ⟨g1, g2⟩ := kjs_of (ks := es.map (kE c n a sc)) (fun k hk => by
    obtain ⟨e, he, rfl⟩ := List.mem_map.mp hk
    exact al e he) (by simpa using ne)
  have ea : Each2 (fun e f => JE X wi0 a e f (kjs (es.map (kE c n a sc)))) es (es.map (dE c n sc)) := each_map fun e he => (h.E X sc a e C (al e he)).weak (g2 _ (List.mem_map_of_mem he))
  cases op with
  | And => exact je_ands ea ne
  | Or => exact je_ors ea ne
theorem sound_E (h : ∀ m, m ≤ n → Sound c m) (C : Ctx c X sc) (hk : k3 (kE c (n + 1) a sc e) = true) : JE X wi0 a e (dE c (n + 1) sc e) (kE c (n + 1) a sc e) := by
  have hn := h n (Nat.le_refl _)
  cases e with
  | Call f as kws pos => exact call_ok h C hk
  | BoolOp op es pos => exact bools_ok hn C hk
  | ListComp elt gens scope pos => exact lc_ok hn C hk
  | Subscript x i pos => exact sub_ok hn C hk
  | Constant k j pos =>
    unfold kE dE
    dsimp only
    cases hc : constD k with
    | none => exact je_bad fun _ => rfl
    | some d => exact je_const hc
  | Name x pos =>
    unfold kE dE at *
    exact name_ok C hk
  | BinOp x op y pos =>
    unfold kE dE at *
    dsimp only at *
    have hb := ite9 hk
    rw [if_pos hb]
    obtain ⟨h1, h2⟩ := and2 hb
    exact je_bin (hn.E X sc a x C h1).to0 (hn.E X sc a y C h2).to0
  | UnaryOp op x pos =>
    unfold kE dE at *
    dsimp only at *
    have hb := ite9 hk
    rw [if_pos hb]
    have hx := (hn.E X sc a x C hb).to0
    cases op with
    | USub => exact je_neg hx
    | Not => exact je_not hx
    | _ => exact je_bad fun _ => rfl
  | IfExp t x y pos =>
    unfold kE dE at *
    dsimp only at *
    have hb : (kT c n a sc t && k3 (kE c n a sc x) && k3 (kE c n a sc y)) = true := by
      cases hh : (kT c n a sc t && k3 (kE c n a sc x) && k3 (kE c n a sc y)) with
      | true => rfl
      | false => rw [hh] at hk; cases hk
    rw [if_pos hb]
    obtain ⟨h1, h2, h3⟩ := and3 hb
    obtain ⟨g1, g2, _⟩ := kj_of h2 h3
    exact je_if (hn.T X sc a t C h1) ((hn.E X sc a x C h2).weak g1) ((hn.E X sc a y C h3).weak g2)
  | Compare x ops ys pos =>
    unfold kE dE at *
    dsimp only at *
    have hb := ite9 hk
    rw [if_pos hb]
    exact (cmp_e hn C hb).1
  | List es pos =>
    unfold kE dE at *
    dsimp only at *
    have hb := ite9 hk
    rw [if_pos hb]
    obtain ⟨h1, h2, h3⟩ := and3 hb
    exact je_list (ja_all (allFr hn C h1) h2) (by rw [map_len]; exact of_decide_eq_true h3)
  | Tuple es kk pos =>
    unfold kE dE at *
    dsimp only at *
    have hb := ite9 hk
    rw [if_pos hb]
    obtain ⟨h1, h2, h3⟩ := and3 hb
    exact je_tup (ja_all (allFr hn C h1) h2) (by rw [map_len]; exact of_decide_eq_true h3)
  | _ => exact je_bad fun _ => by unfold dE; rfl
theorem sound_T (h : ∀ m, m ≤ n → Sound c m) (C : Ctx c X sc) (hk : kT c (n + 1) a sc e = true) : JT X wi0 a e (dT c (n + 1) sc e) := by
  have hn := h n (Nat.le_refl _)
  cases e with
  | BoolOp op es pos =>
    unfold kT dT at *
    dsimp only at *
    obtain ⟨h1, h2⟩ := and2 hk
    have ea : Each2 (JT X wi0 a) es (es.map (dT c n sc)) := Each2.map es fun e he => hn.T X sc a e C (List.all_eq_true.mp h1 e he)
    cases op with
    | And => exact jt_ands ea (ne_of_isEmpty h2)
    | Or => exact jt_ors ea (ne_of_isEmpty h2)
  | Compare x ops ys pos =>
    unfold kT dT at *
    exact (cmp_e hn C hk).2
  | IfExp t x y pos => exact jt_bad fun _ => by unfold dT; rfl
  | UnaryOp op x pos =>
    unfold kT dT at *
    cases op with
    | Not => exact jt_not (hn.T X sc a x C hk)
    | _ => exact jt_truth (hn.E X sc a _ C hk).to0 (fun _ => rfl)
  | _ =>
    unfold kT dT at *
    exact jt_truth (hn.E X sc a _ C hk).to0 (fun _ => rfl)
theorem sound_upto (c : Cfg) : ∀ n m, m ≤ n → Sound c m
  | 0, m, h => by cases Nat.le_zero.mp h; exact sound0
  | n + 1, m, h => by
    have ih := sound_upto c n
    rcases Nat.lt_or_eq_of_le h with h | h
    · exact ih m (Nat.le_of_lt_succ h)
    · subst h
      have hn := ih n (Nat.le_refl _)
      exact ⟨fun X sc a e C hk => sound_E ih C hk, fun X sc a e C hk => sound_T ih C hk, fun X sc a es C hk => sound_P hn C hk, fun X sc a tg e C hk => sound_I hn C hk⟩
theorem sound (c : Cfg) (n : Nat) : Sound c n := sound_upto c n n (Nat.le_refl _)
end Dv
/-! Dv16: statements. -/
namespace Dv
open PySem PySem.Spec PyProof.Rows L2
variable {X : Cx} {W : Wi} {K : PySem.W.Frag} {F F' F0 F1 B H H' H1 : Hp} {v : V} {d : D} {k : Nat} {σ : L2.St} {δ : Env} {pins : List (Addr × Obj)} {s : Shared} {Q : VK} {e tg a1 b1 : Expr} {a : List Bool} {f fa fb : DE} {pos p : Pos} {c : Cfg} {n : Nat} {sc : Scope} {o : Bool}

/-! ### freezing slots -/
theorem SI.ext {b : List Bool} (S : SI K F0 B F H σ a δ) (h : ∀ i, own a i = own b i) : SI K F0 B F H σ b δ :=
  ⟨S.len, S.BH, S.FH, S.F0F, S.new, fun i d e => by rw [← h i]; exact S.sl i d e, fun i j d e p oi oj => S.dj i j d e p (by rw [h i]; exact oi) (by rw [h j]; exact oj)⟩
theorem SI.drop1 (S : SI K F0 B F H σ a δ) (i : Nat) : ∃ F', Same F F' ∧ SI K F0 B F' H σ (a.set i false) δ := by
  have triv : (own a i = true → ∀ d, δ[i]? = some (some d) → ∃ v, σ[i]? = some (some v) ∧ Rp K F v d) → ∃ F', Same F F' ∧ SI K F0 B F' H σ (a.set i false) δ := fun h => by
    refine ⟨F, Same.refl F, S.len, S.BH, S.FH, S.F0F, S.new, fun j d e => ?_, fun x y d1 d2 p ox oy => S.dj x y d1 d2 p (own_set _ _ _ ox).1 (own_set _ _ _ oy).1⟩
    obtain ⟨v, e2, g1, g2⟩ := S.sl j d e
    refine ⟨v, e2, fun z => g1 (own_set _ _ _ z).1, fun z => ?_⟩
    cases q : own a j with
    | false => exact g2 q
    | true =>
      rcases own_set_ne _ _ _ z with z | z
      · rw [q] at z; cases z
      · subst z
        obtain ⟨w, e3, r⟩ := h q d e
        rw [e2] at e3
        cases e3
        exact r
  cases ho : own a i with
  | false => exact triv fun z => by rw [ho] at z; cases z
  | true =>
    cases hd : δ[i]? with
    | none => exact triv fun _ d z => by rw [hd] at z; cases z
    | some od =>
      cases od with
      | none => exact triv fun _ d z => by rw [hd] at z; cases z
      | some d =>
        obtain ⟨v, e2, g1, _⟩ := S.sl i d hd
        have g := g1 ho
        cases d with
        | list ds =>
          obtain ⟨p, xs, rfl, fp, bp, hp, r⟩ := g
          have sn := same_new (o := .lst xs) fp
          refine ⟨upd F p (.lst xs), sn, S.len, S.BH, same_upd_to S.FH hp, S.F0F.trans sn, S.new.trans (New.upd bp), fun j d e => ?_, fun x y d1 d2 p ox oy => S.dj x y d1 d2 p (own_set _ _ _ ox).1 (own_set _ _ _ oy).1⟩
          obtain ⟨w, e3, w1, w2⟩ := S.sl j d e
          refine ⟨w, e3, fun z => ?_, fun z => ?_⟩
          · obtain ⟨z, nz⟩ := own_set _ _ _ z
            have g := w1 z
            cases d with
            | list es =>
              obtain ⟨q, ys, rfl, fq, bq, hq, rq⟩ := g
              have ne : q ≠ p := fun z2 => nz (S.dj j i es ds p z ho e hd (by rw [← z2]; exact e3) e2)
              exact ⟨q, ys, rfl, by rw [upd_ne ne]; exact fq, bq, hq, Rps.mono sn _ _ rq⟩
            | _ => exact Rp.mono sn _ _ g
          · rcases own_set_ne _ _ _ z with z | z
            · exact Rp.mono sn _ _ (w2 z)
            · subst z
              rw [hd] at e
              cases e
              rw [e2] at e3
              cases e3
              exact .lst (SqR.of upd_same) (Rps.mono sn _ _ r)
        | _ => exact triv fun _ d z => by rw [hd] at z; cases z; exact ⟨v, e2, g⟩
theorem SI.drops (S : SI K F0 B F H σ a δ) : ∀ l : List Nat, ∃ F', Same F F' ∧ SI K F0 B F' H σ (clr a l) δ
  | [] => ⟨F, Same.refl F, S⟩
  | i :: l => by
    obtain ⟨F1, e1, S1⟩ := SI.drops S l
    obtain ⟨F2, e2, S2⟩ := S1.drop1 i
    exact ⟨F2, e1.trans e2, S2⟩
def leA (b a : List Bool) : Bool := (List.range b.length).all fun i => !own b i || own a i
theorem leA_of {b : List Bool} (h : leA b a = true) (i : Nat) (o : own b i = true) : own a i = true := by
  by_cases hi : i < b.length
  · have := List.all_eq_true.mp h i (List.mem_range.mpr hi)
    rw [o] at this
    simpa using this
  · unfold own at o
    rw [List.getD_eq_getElem?_getD, List.getElem?_eq_none (by omega)] at o
    cases o
/-- fewer are the def's own -/
theorem SI.less {b : List Bool} (S : SI K F0 B F H σ a δ) (h : leA b a = true) : ∃ F', Same F F' ∧ SI K F0 B F' H σ b δ := by
  obtain ⟨F', e, S'⟩ := S.drops ((List.range a.length).filter fun i => own a i && !own b i)
  refine ⟨F', e, S'.ext fun i => ?_⟩
  cases q : own (clr a ((List.range a.length).filter fun i => own a i && !own b i)) i with
  | true =>
    obtain ⟨h1, h2⟩ := own_clr _ _ q
    have hi : i < a.length := by
      apply Classical.byContradiction
      intro hi
      unfold own at h1
      rw [List.getD_eq_getElem?_getD, List.getElem?_eq_none (by omega)] at h1
      cases h1
    cases z : own b i with
    | true => rfl
    | false =>
      exfalso
      apply h2
      rw [List.mem_filter]
      exact ⟨List.mem_range.mpr hi, by rw [h1, z]; rfl⟩
  | false =>
    cases z : own b i with
    | false => rfl
    | true =>
      have h1 := leA_of h i z
      rcases own_clr_ne _ _ q with h2 | h2
      · rw [h1] at h2; cases h2
      · rw [List.mem_filter] at h2
        rw [z] at h2
        simp at h2

/-! ### a list of the def's own changes -/
theorem SI.change (S : SI K F0 B F H σ a δ) {i : Nat} {p : Addr} {ds ds' : List D} {xs' : List V} (oi : own a i = true) (hd : δ[i]? = some (some (.list ds))) (hs : σ[i]? = some (some (.ref p))) (r : Rps K F xs' ds') :
    SI K F0 B F (upd H p (.lst xs')) σ a (δ.set i (some (.list ds'))) := by
  obtain ⟨v, e, g, _⟩ := S.sl i _ hd
  rw [hs] at e
  cases e
  obtain ⟨q, xs, eq, fp, bp, hp, _⟩ := g oi
  cases eq
  have hl : i < δ.length := (List.getElem?_eq_some_iff.mp hd).1
  have up : ∀ {b x}, F b = some x → b ≠ p := fun z => ne_of_none z fp
  refine ⟨by rw [List.length_set]; exact S.len, fun b x z => ?_, fun b x z => ?_, S.F0F, S.new, fun j d z => ?_, fun x y d1 d2 q ox oy hx hy sx sy => ?_⟩
  · rw [upd_ne (ne_of_none z bp)]; exact S.BH b x z
  · rw [upd_ne (up z)]; exact S.FH b x z
  · by_cases hj : i = j
    · subst hj
      rw [List.getElem?_set_self hl] at z
      cases z
      exact ⟨_, hs, fun _ => ⟨p, xs', rfl, fp, bp, upd_same, r⟩, fun z => by rw [oi] at z; cases z⟩
    · rw [List.getElem?_set_ne hj] at z
      obtain ⟨w, e2, g1, g2⟩ := S.sl j d z
      refine ⟨w, e2, fun oj => ?_, g2⟩
      have g := g1 oj
      cases d with
      | list es =>
        obtain ⟨q, ys, rfl, fq, bq, hq, rq⟩ := g
        have ne : q ≠ p := fun z2 => hj (S.dj i j ds es p oi oj hd z hs (by rw [e2, z2]))
        exact ⟨q, ys, rfl, fq, bq, by rw [upd_ne ne]; exact hq, rq⟩
      | _ => exact g
  · have fix : ∀ {z : Nat} {d : List D}, (δ.set i (some (.list ds')))[z]? = some (some (.list d)) → ∃ d', δ[z]? = some (some (.list d')) := fun {z d} h => by
      by_cases hz : i = z
      · subst hz; exact ⟨_, hd⟩
      · rw [List.getElem?_set_ne hz] at h; exact ⟨d, h⟩
    obtain ⟨d1', h1⟩ := fix hx
    obtain ⟨d2', h2⟩ := fix hy
    exact S.dj x y d1' d2' q ox oy h1 h2 sx sy
theorem own_true (a : List Bool) (i j : Nat) (h : own (a.set i true) j = true) : j = i ∨ own a j = true := by
  by_cases e : j = i
  · exact .inl e
  · right
    unfold own at h ⊢
    rw [List.getD_eq_getElem?_getD, List.getElem?_set_ne (fun z => e z.symm)] at h
    rw [List.getD_eq_getElem?_getD]
    exact h
theorem own_false (a : List Bool) (i j : Nat) (hi : own (a.set i true) i = true) (h : own (a.set i true) j = false) : own a j = false ∧ j ≠ i := by
  have ne : j ≠ i := fun e => by rw [e, hi] at h; cases h
  refine ⟨?_, ne⟩
  unfold own at h ⊢
  rw [List.getD_eq_getElem?_getD, List.getElem?_set_ne (fun z => ne z.symm)] at h
  rw [List.getD_eq_getElem?_getD]
  exact h
/-- a slot set to what is new -/
theorem SI.setO {Fs Hs : Hp} (Ss : SI K F0 B Fs Hs σ a δ) (S : SI K F0 B F H σ a δ) {i : Nat} (ho : own (a.set i true) i = true) (r : Ow K Hs F H v d) : SI K F0 B F H (σ.set i (some v)) (a.set i true) (δ.set i (some d)) := by
  have rB : Ow K B F H v d := Ow.early Ss.BH r
  have apart : ∀ (j : Nat) (ds es : List D) (p : Addr), own a j = true → δ[j]? = some (some (.list ds)) → σ[j]? = some (some (.ref p)) → d = .list es → v = .ref p → False := fun j ds es p oj hd hs e1 e2 => by
    subst e1 e2
    obtain ⟨q, xs, e, _, np, _, _⟩ := r
    cases e
    obtain ⟨w, e3, g, _⟩ := Ss.sl j _ hd
    rw [hs] at e3
    cases e3
    obtain ⟨q2, ys, e, _, _, hq, _⟩ := g oj
    cases e
    rw [np] at hq
    cases hq
  refine ⟨by rw [List.length_set, List.length_set]; exact S.len, S.BH, S.FH, S.F0F, S.new, fun j x z => ?_, fun x y d1 d2 q ox oy hx hy sx sy => ?_⟩
  · by_cases hj : i = j
    · subst hj
      have hl : i < δ.length := by
        have := (List.getElem?_eq_some_iff.mp z).1
        rw [List.length_set] at this
        exact this
      rw [List.getElem?_set_self hl] at z
      cases z
      exact ⟨v, List.getElem?_set_self (by rw [S.len]; exact hl), fun _ => rB, fun z => by rw [ho] at z; cases z⟩
    · rw [List.getElem?_set_ne hj] at z
      obtain ⟨w, e2, g1, g2⟩ := S.sl j x z
      refine ⟨w, by rw [List.getElem?_set_ne hj]; exact e2, fun oj => ?_, fun oj => g2 (own_false _ _ _ ho oj).1⟩
      rcases own_true _ _ _ oj with z2 | z2
      · exact absurd z2.symm hj
      · exact g1 z2
  · have at_i : ∀ {z : Nat}, own (a.set i true) z = true → z = i ∨ (z ≠ i ∧ own a z = true) := fun {z} h => by
      by_cases e : z = i
      · exact .inl e
      · exact .inr ⟨e, (own_true _ _ _ h).resolve_left e⟩
    have self : ∀ {z : Nat} {dz : List D} {q : Addr}, z = i → (δ.set i (some d))[z]? = some (some (.list dz)) → (σ.set i (some v))[z]? = some (some (.ref q)) → d = .list dz ∧ v = .ref q := fun {z dz q} e h1 h2 => by
      subst e
      have hl : z < δ.length := by
        have := (List.getElem?_eq_some_iff.mp h1).1
        rw [List.length_set] at this
        exact this
      rw [List.getElem?_set_self hl] at h1
      rw [List.getElem?_set_self (by rw [S.len]; exact hl)] at h2
      cases h1; cases h2
      exact ⟨rfl, rfl⟩
    rcases at_i ox with ex | ⟨nx, ox⟩
    · rcases at_i oy with ey | ⟨ny, oy⟩
      · rw [ex, ey]
      · obtain ⟨e1, e2⟩ := self ex hx sx
        rw [List.getElem?_set_ne (fun z => ny z.symm)] at hy sy
        exact (apart y d2 d1 q oy hy sy e1 e2).elim
    · rcases at_i oy with ey | ⟨ny, oy⟩
      · obtain ⟨e1, e2⟩ := self ey hy sy
        rw [List.getElem?_set_ne (fun z => nx z.symm)] at hx sx
        exact (apart x d1 d2 q ox hx sx e1 e2).elim
      · rw [List.getElem?_set_ne (fun z => nx z.symm)] at hx sx
        rw [List.getElem?_set_ne (fun z => ny z.symm)] at hy sy
        exact S.dj x y d1 d2 q ox oy hx hy sx sy
end Dv
/-! Dv17: statements: the rules. -/
namespace Dv
open PySem PySem.Spec PyProof.Rows L2
variable {X : Cx} {W : Wi} {K : PySem.W.Frag} {F F' F0 F1 B H H' H1 : Hp} {v : V} {d : D} {k : Nat} {σ : L2.St} {δ : Env} {pins : List (Addr × Obj)} {s : Shared} {Q : VK} {e tg a1 b1 : Expr} {a b : List Bool} {f fa fb : DE} {pos p : Pos} {c : Cfg} {n : Nat} {sc : Scope} {o : Bool} {D : Ends}

/-- what is the def's own behind a statement: going on, broken off, turned -/
structure KR where
  nx : List Bool
  bk : List Bool
  ct : List Bool
def OutOk (K : PySem.W.Frag) (o : Bool) (F0 B : Hp) (r : KR) (D : Ends) : Out → Prop
  | .nx δ' => ∀ σ' F' H', SI K F0 B F' H' σ' r.nx δ' → D.nx σ' H'
  | .bk δ' => ∀ σ' F' H', SI K F0 B F' H' σ' r.bk δ' → D.bk σ' H'
  | .ct δ' => ∀ σ' F' H', SI K F0 B F' H' σ' r.ct δ' → D.ct σ' H'
  | .rt d => ∀ v F' H', Same F0 F' → Same B H' → Same F' H' → New B F0 F' → (o = true → Ow K B F' H' v d) → (o = false → Rp K F' v d) → D.rt v H'
  | .err _ _ => False
  | .bad => False
def tJS (K : PySem.W.Frag) (o : Bool) (a : List Bool) (r : KR) (f : DS) : TS := fun D σ H => ∃ F0 B F δ, SI K F0 B F H σ a δ ∧ OutOk K o F0 B r D (f δ)
def JS (X : Cx) (o : Bool) (a : List Bool) (st : Stmt) (r : KR) (f : DS) : Prop := PS X st (tJS X.K o a r f)
def JSs (X : Cx) (o : Bool) (a : List Bool) (st : List Stmt) (r : KR) (f : DS) : Prop := PSs X st (tJS X.K o a r f)
def KR.le (r r' : KR) : Prop := leA r'.nx r.nx = true ∧ leA r'.bk r.bk = true ∧ leA r'.ct r.ct = true
theorem OutOk.less {r r' : KR} (h : r.le r') {D : Ends} : ∀ {x : Out}, OutOk K o F0 B r' D x → OutOk K o F0 B r D x
  | .nx δ, q => fun σ' F' H' S => by obtain ⟨F2, _, S2⟩ := S.less h.1; exact q σ' F2 H' S2
  | .bk δ, q => fun σ' F' H' S => by obtain ⟨F2, _, S2⟩ := S.less h.2.1; exact q σ' F2 H' S2
  | .ct δ, q => fun σ' F' H' S => by obtain ⟨F2, _, S2⟩ := S.less h.2.2; exact q σ' F2 H' S2
  | .rt d, q => q
  | .err _ _, q => q
  | .bad, q => q
variable {st : Stmt} {sts : List Stmt} {r r' : KR} {g : DS}
theorem JS.less (h : JS X o a st r g) (hl : r.le r') : JS X o a st r' g := h.imp fun D σ H ⟨F0, B, F, δ, S, q⟩ => ⟨F0, B, F, δ, S, q.less hl⟩
theorem JSs.less (h : JSs X o a sts r g) (hl : r.le r') : JSs X o a sts r' g := h.imp fun D σ H ⟨F0, B, F, δ, S, q⟩ => ⟨F0, B, F, δ, S, q.less hl⟩
/-- first some slots are frozen -/
theorem JS.pre (h : JS X o b st r g) (hl : leA b a = true) : JS X o a st r g := h.imp fun D σ H ⟨F0, B, F, δ, S, q⟩ => by
  obtain ⟨F', _, S'⟩ := S.less hl
  exact ⟨F0, B, F', δ, S', q⟩
theorem js_bad (h : ∀ δ, g δ = .bad) : JS X o a st r g := ps_never.imp fun D σ H ⟨F0, B, F, δ, S, q⟩ => by rw [h δ] at q; exact q
theorem OutOk.ofR {α : Type} {x : R α} {k : α → Out} (h : OutOk K o F0 B r D (Dv.ofR x k)) : ∃ y, x = .ok y ∧ OutOk K o F0 B r D (k y) := by
  cases x with
  | ok y => exact ⟨y, rfl, h⟩
  | err c i => exact h.elim
  | bad => exact h.elim
theorem Ans.of_ok {α : Type} {x : R α} {y : α} {k : α → Prop} {e : Str → Int → Prop} (h : x = .ok y) (q : k y) : Ans x k e := by subst h; exact q

/-! ### small statements -/
theorem js_pass {q : Pos} (h : r.nx = a) : JS X o a (.Pass q) r sPass := ps_pass.imp fun D σ H ⟨F0, B, F, δ, S, q⟩ => q σ F H (by rw [h]; exact S)
theorem js_brk {q : Pos} (h : r.bk = a) : JS X o a (.Break q) r sBrk := ps_break.imp fun D σ H ⟨F0, B, F, δ, S, q⟩ => q σ F H (by rw [h]; exact S)
theorem js_cnt {q : Pos} (h : r.ct = a) : JS X o a (.Continue q) r sCnt := ps_continue.imp fun D σ H ⟨F0, B, F, δ, S, q⟩ => q σ F H (by rw [h]; exact S)
theorem js_doc {x : Str} {j : Nat} {q q' : Pos} (h : r.nx = a) : JS X o a (.Expr (.Constant (.str x) j q) q') r sPass := ps_doc.imp fun D σ H ⟨F0, B, F, δ, S, q⟩ => q σ F H (by rw [h]; exact S)
theorem js_drop {q : Pos} (he : JE X wi0 a e f 0) (hs : swapsWith e none q.line X.env = pure false) (h : r.nx = a) : JS X o a (.Expr e q) r (sDrop f) := (ps_expr he hs).imp fun D σ H ⟨F0, B, F, δ, S, q⟩ => by
  obtain ⟨d, e1, q⟩ := q.ofR
  exact ⟨F0, B, F, δ, S, Ans.of_ok e1 fun v F' H' S' _ _ _ _ => q σ F' H' (by rw [h]; exact S')⟩
theorem js_retN {q : Pos} : JS X o a (.Return none q) r sRetN := ps_retN.imp fun D σ H ⟨F0, B, F, δ, S, q⟩ => q .non F H S.F0F S.BH S.FH S.new (fun _ => Rp.non) fun _ => Rp.non
theorem js_retO {q : Pos} (he : JE X wi0 a e f 1) : JS X true a (.Return (some e) q) r (sRet f) := (ps_ret he).imp fun D σ H ⟨F0, B, F, δ, S, q⟩ => by
  obtain ⟨d, e1, q⟩ := q.ofR
  exact ⟨F0, B, F, δ, S, Ans.of_ok e1 fun v F' H' S' _ _ _ r => q v F' H' S'.F0F S'.BH S'.FH S'.new (fun _ => r) fun z => by cases z⟩
theorem js_retF {q : Pos} (he : JE X wi0 a e f 2) : JS X false a (.Return (some e) q) r (sRet f) := (ps_ret he).imp fun D σ H ⟨F0, B, F, δ, S, q⟩ => by
  obtain ⟨d, e1, q⟩ := q.ofR
  exact ⟨F0, B, F, δ, S, Ans.of_ok e1 fun v F' H' S' _ _ _ r => q v F' H' S'.F0F S'.BH S'.FH S'.new (fun z => by cases z) fun _ => r⟩
theorem js_if {q : Pos} {t : DT} {s1 s2 : List Stmt} {g1 g2 : DS} (ht : JT X wi0 a e t) (h1 : JSs X o a s1 r g1) (h2 : JSs X o a s2 r g2) : JS X o a (.If e s1 s2 q) r (sIf t g1 g2) := (ps_if ht h1 h2).imp fun D σ H ⟨F0, B, F, δ, S, q⟩ => by
  obtain ⟨b, e1, q⟩ := q.ofR
  refine ⟨F0, B, F, δ, S, Ans.of_ok e1 fun F' H' S' _ _ _ => ?_⟩
  cases b with
  | true => exact ⟨F0, B, F', δ, S', q⟩
  | false => exact ⟨F0, B, F', δ, S', q⟩
/-! ### blocks -/
theorem jss_nil (h : r.nx = a) : JSs X o a [] r (sSeq []) := pss_nil.imp fun D σ H ⟨F0, B, F, δ, S, q⟩ => q σ F H (by rw [h]; exact S)
theorem jss_one (h : JS X o a st r g) : JSs X o a [st] r (sSeq [g]) := pss_one h
theorem jss_cons {gs : List DS} {g2 : DS} {st2 : Stmt} {sts : List Stmt} {r1 r2 : KR} (h : JS X o a st r1 g) (t : JSs X o r1.nx (st2 :: sts) r2 (sSeq (g2 :: gs))) (hb : r1.bk = r.bk) (hb2 : r2.bk = r.bk) (hc : r1.ct = r.ct) (hc2 : r2.ct = r.ct) (hn : r2.nx = r.nx) :
    JSs X o a (st :: st2 :: sts) r (sSeq (g :: g2 :: gs)) := (pss_cons h t).imp fun D σ H ⟨F0, B, F, δ, S, q⟩ => by
  refine ⟨F0, B, F, δ, S, ?_⟩
  have q : OutOk X.K o F0 B r D (andThen (g δ) (sSeq (g2 :: gs))) := q
  revert q
  cases g δ with
  | nx δ' =>
    intro q σ' F' H' S'
    refine ⟨F0, B, F', δ', S', ?_⟩
    have e : r2 = r := by cases r2; cases r; simp_all
    rw [e]
    exact q
  | bk δ' => intro q σ' F' H' S'; rw [hb] at S'; exact q σ' F' H' S'
  | ct δ' => intro q σ' F' H' S'; rw [hc] at S'; exact q σ' F' H' S'
  | rt d => exact fun q => q
  | err _ _ => exact fun q => q
  | bad => exact fun q => q

/-! ### assignments -/
theorem js_asgF {q : Pos} {ts : List Nat} {gt : TF} (he : JE X wi0 a e f 2) (hg : JG X a tg gt ts) (hs : swapsWithSole [tg] e q.line X.env = pure false) (hw : swappedStores [tg] e X.env = pure none) (hp : plainT tg = true) (h : r.nx = clr a ts) :
    JS X o a (.Assign [tg] e q) r (sAsg gt f) := (ps_asg he hg hs hw (by cases tg <;> first | rfl | cases hp)).imp fun D σ H ⟨F0, B, F, δ, S, q⟩ => by
  obtain ⟨d, e1, q⟩ := q.ofR
  obtain ⟨δ', e2, q⟩ := q.ofR
  exact ⟨F0, B, F, δ, S, Ans.of_ok e1 fun v F' H' S' _ _ _ rv => ⟨F0, B, F', δ, d, S', rv, Ans.of_ok e2 fun σ' S2 _ _ => q σ' F' H' (by rw [h]; exact S2)⟩⟩
/-- a tuple's items, the tuple read -/
theorem js_asgT {q : Pos} {ts : List Nat} {gs : List TF} {es : List Expr} {kk : Nat} {tp : Pos} (he : JE X wi0 a e f 0) (hg : JG X a (.Tuple es kk tp) (gTp gs) ts) (hs : swapsWithSole [.Tuple es kk tp] e q.line X.env = pure false) (hw : swappedStores [.Tuple es kk tp] e X.env = pure none) (h : r.nx = clr a ts) :
    JS X o a (.Assign [.Tuple es kk tp] e q) r (sAsg (gTp gs) f) := (ps_asg he hg hs hw rfl).imp fun D σ H ⟨F0, B, F, δ, S, q⟩ => by
  obtain ⟨d, e1, q⟩ := q.ofR
  obtain ⟨δ', e2, q⟩ := q.ofR
  refine ⟨F0, B, F, δ, S, Ans.of_ok e1 fun v F' H' S' _ _ _ rv => ⟨F0, B, F', δ, d, S', ?_, Ans.of_ok e2 fun σ' S2 _ _ => q σ' F' H' (by rw [h]; exact S2)⟩⟩
  unfold gTp at e2
  obtain ⟨ds, e3, _⟩ := R.bind_eq_ok e2
  cases d with
  | tuple xs =>
    rcases (show Rh X.K F' H' v (.tuple xs) from rv) with z | ⟨_, _, _, _, z, _⟩
    · exact z
    · cases z
  | _ => cases e3
theorem tJ_set {i : Nat} (ho : own (a.set i true) i = true) (h : r.nx = a.set i true) {te : TE} (ht : ∀ σ H Q, tJ X.K wi0 a f 3 σ H Q → te σ H Q) {D : Ends} {σ : L2.St} {H : Hp} (q : tJS X.K o a r (sAsg (gNm i) f) D σ H) : tAsg te (gName i) D σ H := by
  obtain ⟨F0, B, F, δ, S, q⟩ := q
  obtain ⟨d, e1, q⟩ := q.ofR
  refine ht σ H _ ⟨F0, B, F, δ, S, Ans.of_ok e1 fun v F' H' S' _ _ _ rv => ?_⟩
  exact q _ F' H' (by rw [h]; exact S.setO S' ho rv)
theorem js_asgO {q : Pos} {i : Nat} {x : Str} {px : Pos} (he : JE X wi0 a e f 3) (nd : X.N.Nodup) (hi : X.N[i]? = some x) (hx : Loc X.env.scope x) (hf : X.fn x = true ∨ X.env.scope.names.lookup x = some .local) (hs : swapsWith e (some (.Name x px)) q.line X.env = pure false)
    (ho : own (a.set i true) i = true) (h : r.nx = a.set i true) : JS X o a (.Assign [.Name x px] e q) r (sAsg (gNm i) f) := (ps_set nd hi hx he hs hf).imp fun D σ H q => tJ_set ho h (fun _ _ _ z => z) q

/-! ### x.append(e), x[i] = e -/
theorem js_app {q apos px : Pos} {i : Nat} {x : Str} (he : JE X wi0 a e f 2) (hp : plainE e = true) (hi : X.N[i]? = some x) (hv : Vis X.env.scope x) (hd : notDbg x = true) (hl : (apos.endLine == pos.line) = true) (ho : own a i = true) (h : r.nx = a) :
    JS X o a (.Expr (.Call (.Attribute (.Name x px) "append" apos) [e] [] pos) q) r (sApp i f) := by
  have pe := pe_bm (cpos := pos) (apos := apos) (es := []) PySem.F.plainAttrs_list PySem.F.slot_list_append PySem.F.type_list_append mt_append (pe_var (pos := px) hi hv (dbg1 hd) (dbg2 hd)) (ja_all (.cons he .nil) (by simp [hp])) rfl
    (by show ((backTo pos (starEach [e] X.env)).all (fun x => !x.1) && true && decide (1 + 0 + 0 < 30)) = true
        rw [star_all pos (by simp [hp])]; rfl) hl (star_cons hp) rfl
  refine (ps_expr pe rfl).imp fun D σ H ⟨F0, B, F, δ, S, q⟩ => ?_
  obtain ⟨d, e1, q⟩ := q.ofR
  split at q
  · rename_i ds hds
    split at q
    · rename_i hlen
      obtain ⟨v, ev, g1, _⟩ := S.sl i _ hds
      obtain ⟨p, xs, rfl, fp, bp, hpp, rx⟩ := g1 ho
      refine ⟨_, ev, .inl ⟨rfl, xs, SqL.of hpp⟩, F0, B, F, δ, S, ?_⟩
      refine Ans.of_ok (y := [d]) (by unfold evs; rw [e1]; rfl) fun vs F' H' S' e3 e4 n1 rs => ?_
      cases rs with
      | cons rv rs =>
        cases rs
        obtain ⟨w, ew, g2, _⟩ := S'.sl i _ hds
        rw [ev] at ew
        cases ew
        obtain ⟨p2, xs2, eq, fp2, bp2, hp2, rx2⟩ := g2 ho
        cases eq
        refine ⟨p, xs2, _, rfl, rfl, hp2, ?_, ?_⟩
        · rw [rx2.length]
          exact Nat.lt_of_lt_of_le hlen (by decide)
        · exact q σ F' _ (by rw [h]; exact S'.change ho hds ev (rx2.snoc rv))
    · exact q.elim
  · exact q.elim
theorem js_set {q px : Pos} {i : Nat} {x : Str} {ix : Expr} {fi : DE} (he : JE X wi0 a e f 2) (hix : JE X wi0 a ix fi 0) (hpl : PlainIx ix) (hi : X.N[i]? = some x) (hv : Vis X.env.scope x) (hd : notDbg x = true) (ho : own a i = true) (h : r.nx = a)
    (hs : swapsWithSole [.Subscript (.Name x px) ix pos] e q.line X.env = pure false) (ha : ∀ v, assign (.Subscript (.Name x px) ix pos) X.env v = (do
      let ov ← holding [v] (eval (.Name x px) X.env)
      let iv ← holding [v, ov] (eval ix X.env)
      standAt pos
      holding [v, ov, iv] (setItem ov iv v)
      release [v, ov, iv] [])) : JS X o a (.Assign [.Subscript (.Name x px) ix pos] e q) r (sSet i fi f) := by
  have pg := pg_sub (pos := pos) (pe_var (pos := px) hi hv (dbg1 hd) (dbg2 hd)) hix set_list ha
  refine (ps_asg he pg hs rfl rfl).imp fun D σ H ⟨F0, B, F, δ, S, q⟩ => ?_
  obtain ⟨d, e1, q⟩ := q.ofR
  obtain ⟨y, e2, q⟩ := q.ofR
  split at q
  · rename_i ds hds
    obtain ⟨kk, e3, q3⟩ := q.ofR
    split at q3
    · rename_i j hj
      refine ⟨F0, B, F, δ, S, Ans.of_ok e1 fun v F' H' S' e4 e5 n1 rv => ?_⟩
      obtain ⟨w, ew, g2, _⟩ := S'.sl i _ hds
      refine ⟨w, ew, F0, B, F', δ, S', Ans.of_ok e2 fun u F2 H2 S2 e6 e7 n2 ru => ?_⟩
      have ey : y = .int kk := by
        cases y with
        | int z => cases e3; rfl
        | _ => cases e3
      subst ey
      have ru : Rh X.K F2 H2 u (.int kk) := ru
      cases ru.int_inv
      obtain ⟨w2, ew2, g3, _⟩ := S2.sl i _ hds
      rw [ew] at ew2
      cases ew2
      obtain ⟨p, xs, rfl, fp, bp, hp, rx⟩ := g3 ho
      refine ⟨p, xs, kk, j, rfl, rfl, hp, ?_, ?_⟩
      · rw [← ixZ_eq, rx.length]
        exact hj
      · exact q3 σ F2 _ (by rw [h]; exact S2.change ho hds ew (Rps.set j rx (Rp.mono e6 _ _ rv)))
    · exact q3.elim
  · exact q.elim
end Dv
/-! Dv18: loops; a comprehension that is given a name; stores in parallel. -/
namespace Dv
open PySem PySem.Spec PyProof.Rows L2
variable {X : Cx} {W : Wi} {K : PySem.W.Frag} {F F' F0 F1 B H H' H1 : Hp} {v : V} {d : D} {k : Nat} {σ : L2.St} {δ : Env} {pins : List (Addr × Obj)} {s : Shared} {Q : VK} {e tg a1 b1 : Expr} {a b : List Bool} {f fa fb : DE} {pos p : Pos} {c : Cfg} {n : Nat} {sc : Scope} {o : Bool} {D : Ends} {st : Stmt} {sts body : List Stmt} {r r' rb : KR} {g : DS}

theorem js_for {q : Pos} {gt : TF} {ts : List Nat} {di : DI} (hp : PassesOwn (model X.prog X.w) X.A X.env X.xe) (hc : X.calm = true) (hi : JI X wi0 a tg e di) (hg : JG X a tg gt ts) (hb : JSs X o (clr a ts) body rb g) (hs : ∀ x, foldedSetIterable e X.env x = pure x)
    (h1 : leA a rb.nx = true) (h2 : leA a rb.ct = true) (h3 : leA r.nx a = true) (h4 : leA r.nx rb.bk = true) : JS X o a (.For tg e body [] q) r (sFor gt di g) := (ps_for hp hc hi hg hb hs).imp fun D σ H ⟨F0, B, F, δ, S, q⟩ => by
  obtain ⟨ds, e1, q⟩ := q.ofR
  refine ⟨F0, B, F, δ, S, Ans.of_ok e1 fun J F1 H1 S1 _ _ _ it => ?_⟩
  refine ⟨fun i m σ H => m = ds.length - i ∧ i ≤ ds.length ∧ ∃ F3 δ3, Same F1 F3 ∧ SI X.K F0 B F3 H σ a δ3 ∧ OutOk X.K o F0 B r D (forGo gt g (ds.drop i) δ3), ⟨ds.length, by simp, Nat.zero_le _, F1, δ, Same.refl _, S1, q⟩, ?_⟩
  rintro i m σ H ⟨rfl, hle, F3, δ3, e3, S3, q⟩
  by_cases hlt : i < ds.length
  · obtain ⟨go, yld⟩ := it.2 i _ H F3 e3 S3.FH (List.getElem?_eq_getElem hlt)
    rw [drop_cons hlt] at q
    have q : OutOk X.K o F0 B r D (Dv.ofR (gt ds[i] δ3) fun δ1 => match g δ1 with
      | .nx δ' => forGo gt g (ds.drop (i + 1)) δ'
      | .ct δ' => forGo gt g (ds.drop (i + 1)) δ'
      | .bk δ' => .nx δ'
      | o => o) := q
    obtain ⟨δ1, e4, q⟩ := q.ofR
    refine .inr ⟨go, fun σ' H' => i + 1 ≤ ds.length ∧ ∃ F4 δ4, Same F1 F4 ∧ SI X.K F0 B F4 H' σ' a δ4 ∧ OutOk X.K o F0 B r D (forGo gt g (ds.drop (i + 1)) δ4), fun σ' H' ⟨h5, F4, δ4, h6, h7, h8⟩ => ⟨ds.length - (i + 1), by omega, rfl, h5, F4, δ4, h6, h7, h8⟩, fun x H4 hy => ?_⟩
    obtain ⟨F4, e5, e6, e7, n4, rx⟩ := yld x H4 hy
    have S4 := S3.later e5 e6 e7 n4
    refine ⟨F0, B, F4, δ3, _, S4, rx, Ans.of_ok e4 fun σ5 S5 _ _ => ?_⟩
    -- F4 as the frozen part that must stay
    have S5' : SI X.K F4 B F4 H4 σ5 (clr a ts) δ1 := ⟨S5.len, S5.BH, S5.FH, Same.refl _, New.refl _ _, S5.sl, S5.dj⟩
    have back : ∀ {σ' : L2.St} {a' : List Bool} {δ' : Env} {F' H' : Hp}, SI X.K F4 B F' H' σ' a' δ' → SI X.K F0 B F' H' σ' a' δ' := fun S => ⟨S.len, S.BH, S.FH, S5.F0F.trans S.F0F, S5.new.trans S.new, S.sl, S.dj⟩
    refine ⟨F4, B, F4, δ1, S5', ?_⟩
    revert q
    cases g δ1 with
    | nx δ' =>
      intro q σ' F' H' S'
      obtain ⟨F2, e8, S2⟩ := (back S').less h1
      exact ⟨hlt, F2, δ', (e3.trans e5).trans (S'.F0F.trans e8), S2, q⟩
    | ct δ' =>
      intro q σ' F' H' S'
      obtain ⟨F2, e8, S2⟩ := (back S').less h2
      exact ⟨hlt, F2, δ', (e3.trans e5).trans (S'.F0F.trans e8), S2, q⟩
    | bk δ' =>
      intro q σ' F' H' S'
      obtain ⟨F2, e8, S2⟩ := (back S').less h4
      exact q σ' F2 H' S2
    | rt d => exact fun q v F' H' g1 g2 g3 g4 g5 g6 => q v F' H' (S5.F0F.trans g1) g2 g3 (S5.new.trans g4) g5 g6
    | err _ _ => exact fun q => q
    | bad => exact fun q => q
  · rw [List.drop_eq_nil_of_le (by omega)] at q
    refine .inl ⟨it.1 i H F3 e3 S3.FH (by omega), ?_⟩
    obtain ⟨F2, _, S2⟩ := S3.less h3
    exact q σ F2 H S2
theorem js_while {q : Pos} {t : DT} (hp : PassesOwn (model X.prog X.w) X.A X.env X.xe) (ht : JT X wi0 a e t) (hb : JSs X o a body rb g) (h1 : leA a rb.nx = true) (h2 : leA a rb.ct = true) (h3 : leA r.nx a = true) (h4 : leA r.nx rb.bk = true) :
    JS X o a (.While e body [] q) r (sWhl t g) := (ps_while hp ht hb).imp fun D σ H ⟨F0, B, F, δ, S, q⟩ => by
  refine ⟨fun m σ H => ∃ F3 δ3, SI X.K F0 B F3 H σ a δ3 ∧ OutOk X.K o F0 B r D (whlGo t g m δ3), ⟨turns, F, δ, S, q⟩, ?_⟩
  rintro m σ H ⟨F3, δ3, S3, q⟩
  cases m with
  | zero => exact q.elim
  | succ m =>
    have q : OutOk X.K o F0 B r D (Dv.ofR (t δ3) fun x => if x then (match g δ3 with
      | .nx δ' => whlGo t g m δ'
      | .ct δ' => whlGo t g m δ'
      | .bk δ' => .nx δ'
      | o => o) else .nx δ3) := q
    obtain ⟨x, e1, q⟩ := q.ofR
    refine ⟨F0, B, F3, δ3, S3, Ans.of_ok e1 fun F4 H4 S4 _ _ _ => ?_⟩
    cases x with
    | false =>
      obtain ⟨F2, _, S2⟩ := S4.less h3
      exact q σ F2 H4 S2
    | true =>
      have q : OutOk X.K o F0 B r D (match g δ3 with
        | .nx δ' => whlGo t g m δ'
        | .ct δ' => whlGo t g m δ'
        | .bk δ' => .nx δ'
        | o => o) := q
      refine ⟨fun σ' H' => ∃ F4 δ4, SI X.K F0 B F4 H' σ' a δ4 ∧ OutOk X.K o F0 B r D (whlGo t g m δ4), fun σ' H' z => ⟨m, Nat.lt_succ_self m, z⟩, F0, B, F4, δ3, S4, ?_⟩
      revert q
      cases g δ3 with
      | nx δ' =>
        intro q σ' F' H' S'
        obtain ⟨F2, _, S2⟩ := S'.less h1
        exact ⟨F2, δ', S2, q⟩
      | ct δ' =>
        intro q σ' F' H' S'
        obtain ⟨F2, _, S2⟩ := S'.less h2
        exact ⟨F2, δ', S2, q⟩
      | bk δ' =>
        intro q σ' F' H' S'
        obtain ⟨F2, _, S2⟩ := S'.less h4
        exact q σ' F2 H' S2
      | rt d => exact fun q => q
      | err _ _ => exact fun q => q
      | bad => exact fun q => q

/-! ### a, b = x, y -/
def starred : Expr → Bool
  | .Starred _ _ => true
  | _ => false
def nmIn (sc : Scope) (line : Nat) : Expr → Option Str
  | .Name id pos => if sc.names.lookup id == some .local && pos.line == line then some id else none
  | _ => none
/-- what the stores of a written tuple come to: unknown | one by one | from the right -/
def swP (sc : Scope) (ts vs : List Expr) : Option (Option (List Str)) :=
  if !(ts.length == 2 || ts.length == 3) || vs.length != ts.length then some none
  else if vs.any starred then some none
  else
    let names := ts.filterMap (nmIn sc ((ts.head?.map (·.pos.line)).getD 0))
    if names.length != ts.length || names.eraseDups.length != names.length then some none
    else if vs.all (foldedForSure 8) then some none
    else if vs.all (constantsAlone 8) then none
    else some (some names)
theorem ifs_to {α : Type} {z : Sem (Option α)} {b1 b2 b3 b4 b5 : Bool} {w : α} {res : Option α} (h : (if b1 then some none else if b2 then some none else if b3 then some none else if b4 then some none else if b5 then none else some (some w)) = some res) :
    (if (b1 || false) = true then (pure none : Sem (Option α)) else if b2 = true then pure none else if b3 = true then pure none else if b4 = true then pure none else if b5 = true then z else pure (some w)) = pure res := by
  cases b1 <;> cases b2 <;> cases b3 <;> cases b4 <;> cases b5 <;> first | (cases h; rfl) | cases h
theorem swP_of {ts vs : List Expr} {k1 k2 : Nat} {p1 p2 : Pos} {env : PySem.Env} (he : env.scope = sc) (hk : sc.kind = .function) {res : Option (List Str)} (h : swP sc ts vs = some res) : swappedStores [.Tuple ts k1 p1] (.Tuple vs k2 p2) env = pure res := by
  subst he
  have hb : env.blockKind = .function := by unfold Env.blockKind; rw [hk]; rfl
  unfold swP at h
  have q := ifs_to (z := do unsupported "assign.tuple-of-constant-expressions:order-of-the-stores"; pure (some (ts.filterMap (nmIn env.scope ((ts.head?.map (·.pos.line)).getD 0))))) h
  rw [← q]
  unfold swappedStores
  simp only [hb]
  rfl
theorem vals_two {vs : List V} {d1 d2 : Dv.D} (h : Rps K F vs [d1, d2]) : ∃ v w, vs = [v, w] ∧ Rp K F v d1 ∧ Rp K F w d2 := by
  cases h with
  | cons r t =>
    cases t with
    | cons r2 t => cases t; exact ⟨_, _, rfl, r, r2⟩
theorem vals_three {vs : List V} {d1 d2 d3 : Dv.D} (h : Rps K F vs [d1, d2, d3]) : ∃ u v w, vs = [u, v, w] ∧ Rp K F u d1 ∧ Rp K F v d2 ∧ Rp K F w d3 := by
  cases h with
  | cons r t =>
    obtain ⟨v, w, rfl, r2, r3⟩ := vals_two t
    exact ⟨_, v, w, rfl, r, r2, r3⟩
theorem tup_ok {fs : List DE} {d : Dv.D} {δ : Env} (h : eTup fs δ = .ok d) : ∃ ds, evs fs δ = .ok ds ∧ d = .tuple ds := by
  obtain ⟨ds, h1, h2⟩ := R.bind_eq_ok h
  cases h2
  exact ⟨ds, h1, rfl⟩
theorem js_par {x y : Str} {e1 e2 : Expr} {f1 f2 : DE} {i j : Nat} {px py pt p2 q : Pos} {kt k2 : Nat} (hc : X.calm = true) (nd : X.N.Nodup) (hsc : X.env.scope = sc) (hk : sc.kind = .function) (hi : X.N[i]? = some x) (hj : X.N[j]? = some y) (hij : i ≠ j)
    (hx : sc.names.lookup x = some .local) (hy : sc.names.lookup y = some .local) (h1 : JE X wi0 a e1 f1 2) (h2 : JE X wi0 a e2 f2 2) (hp : [e1, e2].all plainE = true) (hw : swP sc [.Name x px, .Name y py] [e1, e2] = some (some [x, y])) (hr : r.nx = clr a [j, i]) :
    JS X o a (.Assign [.Tuple [.Name x px, .Name y py] kt pt] (.Tuple [e1, e2] k2 p2) q) r (sAsg (gTp [gNm i, gNm j]) (eTup [f1, f2])) :=
  (ps_par hc nd hi hj hij (by rw [hsc]; exact hx) (by rw [hsc]; exact hy) (ja_all (.cons h1 (.cons h2 .nil)) hp) (swP_of hsc hk hw) rfl).imp fun D σ H ⟨F0, B, F, δ, S, q⟩ => by
    obtain ⟨d, q1, q⟩ := q.ofR
    obtain ⟨δ2, q2, q⟩ := q.ofR
    obtain ⟨ds, q3, rfl⟩ := tup_ok q1
    have hl := evs_len _ _ _ q3
    match ds, hl, q2, q3 with
    | [d1, d2], _, q2, q3 =>
      have e : δ2 = (δ.set i (some d1)).set j (some d2) := by
        have : Dv.R.ok ((δ.set i (some d1)).set j (some d2)) = Dv.R.ok δ2 := q2
        cases this; rfl
      subst e
      refine ⟨F0, B, F, δ, S, Ans.of_ok q3 fun vs F' H' S' _ _ _ rs => ?_⟩
      obtain ⟨v, w, rfl, r1, r2⟩ := vals_two rs
      exact ⟨v, w, rfl, q _ F' H' (by rw [hr]; exact (S'.setF r1).setF r2)⟩
theorem js_par3 {x y z : Str} {e1 e2 e3 : Expr} {f1 f2 f3 : DE} {i j l : Nat} {px py pz pt p2 q : Pos} {kt k2 : Nat} (hc : X.calm = true) (nd : X.N.Nodup) (hsc : X.env.scope = sc) (hk : sc.kind = .function) (hi : X.N[i]? = some x) (hj : X.N[j]? = some y) (hl : X.N[l]? = some z) (hij : i ≠ j) (hil : i ≠ l) (hjl : j ≠ l)
    (hx : sc.names.lookup x = some .local) (hy : sc.names.lookup y = some .local) (hz : sc.names.lookup z = some .local) (h1 : JE X wi0 a e1 f1 2) (h2 : JE X wi0 a e2 f2 2) (h3 : JE X wi0 a e3 f3 2) (hp : [e1, e2, e3].all plainE = true) (hw : swP sc [.Name x px, .Name y py, .Name z pz] [e1, e2, e3] = some (some [x, y, z])) (hr : r.nx = clr a [l, j, i]) :
    JS X o a (.Assign [.Tuple [.Name x px, .Name y py, .Name z pz] kt pt] (.Tuple [e1, e2, e3] k2 p2) q) r (sAsg (gTp [gNm i, gNm j, gNm l]) (eTup [f1, f2, f3])) :=
  (ps_par3 hc nd hi hj hl hij hil hjl (by rw [hsc]; exact hx) (by rw [hsc]; exact hy) (by rw [hsc]; exact hz) (ja_all (.cons h1 (.cons h2 (.cons h3 .nil))) hp) (swP_of hsc hk hw) rfl).imp fun D σ H ⟨F0, B, F, δ, S, q⟩ => by
    obtain ⟨d, q1, q⟩ := q.ofR
    obtain ⟨δ2, q2, q⟩ := q.ofR
    obtain ⟨ds, q3, rfl⟩ := tup_ok q1
    have hl := evs_len _ _ _ q3
    match ds, hl, q2, q3 with
    | [d1, d2, d3], _, q2, q3 =>
      have e : δ2 = ((δ.set i (some d1)).set j (some d2)).set l (some d3) := by
        have : Dv.R.ok (((δ.set i (some d1)).set j (some d2)).set l (some d3)) = Dv.R.ok δ2 := q2
        cases this; rfl
      subst e
      refine ⟨F0, B, F, δ, S, Ans.of_ok q3 fun vs F' H' S' _ _ _ rs => ?_⟩
      obtain ⟨u, v, w, rfl, r1, r2, r3⟩ := vals_three rs
      exact ⟨u, v, w, rfl, q _ F' H' (by rw [hr]; exact ((S'.setF r1).setF r2).setF r3)⟩
/-- a name = [..] on one line -/
theorem js_lcN (h : Sound c n) (C : Ctx c X sc) {elt : Expr} {gens : List Comprehension} {scope : Scope} {i : Nat} {y : Str} {py q : Pos} (hkk : kE c (n + 1) a sc (.ListComp elt gens scope pos) = 3) (hg1 : genK gens ≠ .no) (hi : X.N[i]? = some y) (hk : sc.kind = .function) (hy : sc.names.lookup y = some .local)
    (hl : (py.line == pos.line) = true) (ha : (scope.names.any fun (n, k) => n == y && (k == .local || k == .cell)) = false) (ho : own (a.set i true) i = true) (hr : r.nx = a.set i true) :
    JS X o a (.Assign [.Name y py] (.ListComp elt gens scope pos) q) r (sAsg (gNm i) (dE c (n + 1) sc (.ListComp elt gens scope pos))) := by
  have hk0 : k3 (kE c (n + 1) a sc (.ListComp elt gens scope pos)) = true := by rw [hkk]; rfl
  clear hkk
  unfold kE at hk0
  unfold dE
  dsimp only at *
  cases hs : genK gens with
  | one tg it ifs =>
    rw [hs] at hk0
    dsimp only at hk0 ⊢
    cases ht : tS c n scope tg with
    | none => rw [ht] at hk0; cases hk0
    | some ts =>
      rw [ht] at hk0
      dsimp only at hk0 ⊢
      have hb := ite9 hk0
      obtain ⟨hb, h6⟩ := and2 hb
      obtain ⟨hb, h5⟩ := and2 hb
      obtain ⟨hb, h4⟩ := and2 hb
      obtain ⟨h1, h2, h3⟩ := and3 hb
      have eg : gens = [⟨tg, it, ifs, 0⟩] := by
        unfold genK at hs
        split at hs <;> cases hs
        rfl
      subst eg
      rw [← C.hN, ← C.sc] at h3
      have ok := blkOk_by h3
      have eo := ownP_snd c scope
      have ky : X.env.scope.names.lookup y = some .local := by rw [C.sc]; exact hy
      refine PS.imp (ps_setLc (i := i) (wi := tJI X.K wi0 a (dI c n sc it)) (g := tJG X.K (clr a (ownOf c scope)) (dG c n scope tg) ts) (tt := tJT X.K wi0 (clr (clr a (ownOf c scope)) ts) (dIfs c n (rel scope sc) ifs)) (te := tJ X.K wi0 (clr (clr a (ownOf c scope)) ts) (dE c n (rel scope sc) elt) 2)
        C.calm C.nd hi ky (sw_true (by rw [C.sc]; exact hk) ky hl ha) (h.I X sc a tg it C h1) ok (fun s H ca cl fp => tg_ok (C.blk s H scope ca cl fp) (StOk.blk C s H scope ca cl fp) n tg ts ht (clr a (ownOf c scope)))
        (fun s H ca cl fp => h.P _ _ _ ifs (C.blk s H scope ca cl fp) h5) (fun s H ca cl fp => (h.E _ _ _ elt (C.blk s H scope ca cl fp) (k3_of_kF h6)).kF h6) (fold_ok h2 _)) fun D σ H q => tJ_set ho hr (fun σ H Q q => ?_) q
      rw [← eo] at q
      rw [← eo]
      refine je_lc C.calm C.nd (h.I X sc a tg it C h1) ok (fun s H ca cl fp => by rw [eo]; exact tg_ok (C.blk s H scope ca cl fp) (StOk.blk C s H scope ca cl fp) n tg ts ht (clr a (ownOf c scope))) (fun i hi => ?_)
        (fun s H ca cl fp => by rw [eo]; exact h.P _ _ _ ifs (C.blk s H scope ca cl fp) h5) (fun s H ca cl fp => by rw [eo]; exact (h.E _ _ _ elt (C.blk s H scope ca cl fp) (k3_of_kF h6)).kF h6) (fold_ok h2 _) q
      have := List.all_eq_true.mp h4 i hi
      rw [eo]
      simpa using this
  | two tg it ifs tg2 it2 ifs2 => rw [hs] at hk0; cases hk0
  | no => exact absurd hs hg1
end Dv
/-! Dv19: the look at statements. -/
namespace Dv
open PySem PySem.Spec PyProof.Rows L2

/-- the slots of the names that flow to where what is frozen is wanted (no proof leans on it) -/
def fzE (c : Cfg) : Nat → Bool → Scope → Expr → List Nat
  | 0, _, _, _ => []
  | n + 1, esc, sc, e => match e with
    | .Name x _ => if esc && vis sc x then (c.slot x).toList else []
    | .BinOp x _ y _ => fzE c n false sc x ++ fzE c n false sc y
    | .UnaryOp _ x _ => fzE c n false sc x
    | .BoolOp _ es _ => es.flatMap (fzE c n esc sc)
    | .IfExp t x y _ => fzE c n false sc t ++ fzE c n esc sc x ++ fzE c n esc sc y
    | .Compare x _ ys _ => fzE c n false sc x ++ ys.flatMap (fzE c n false sc)
    | .List es _ => es.flatMap (fzE c n true sc)
    | .Tuple es _ _ => es.flatMap (fzE c n true sc)
    | .Subscript x i _ => fzE c n false sc x ++ fzE c n false sc i
    | .Slice lo hi st _ => lo.toList.flatMap (fzE c n false sc) ++ hi.toList.flatMap (fzE c n false sc)
    | .ListComp elt gens scope _ => fzE c n true (rel scope sc) elt ++ (match genK gens with
      | .one _ it ifs => fzE c n true sc it ++ ifs.flatMap (fzE c n false (rel scope sc))
      | .two _ it ifs _ it2 ifs2 => fzE c n true sc it ++ ifs.flatMap (fzE c n false (rel scope sc)) ++ fzE c n true (rel scope sc) it2 ++ ifs2.flatMap (fzE c n false (rel scope sc))
      | .no => [])
    | .Call f as kws _ => (match callK c sc f as kws with
      | .listI x => fzE c n false sc x
      | .fn x => as.flatMap (fzE c n (((fnOf c sc x).isSome && !fnFlat c x) || x == "enumerate" || x == "zip") sc)
      | .met ob _ => fzE c n false sc ob ++ as.flatMap (fzE c n false sc)
      | .no => [])
    | _ => []
def top (c : Cfg) : List Bool := List.replicate c.N.length true
def mt (a b : List Bool) : List Bool := List.zipWith (· && ·) a b
def KR.all (c : Cfg) : KR := ⟨top c, top c, top c⟩
def KR.go (c : Cfg) (a : List Bool) : KR := ⟨a, top c, top c⟩
def noComp : Expr → Bool
  | .ListComp _ _ _ _ => false
  | .SetComp _ _ _ _ => false
  | .DictComp _ _ _ _ _ => false
  | _ => true
def noTup : Expr → Bool
  | .Tuple _ _ _ => false
  | _ => true
def plainIx : Expr → Bool
  | .Slice _ _ _ _ => false
  | _ => true
def genOk : List Comprehension → Bool
  | gens => match genK gens with
    | .no => false
    | _ => true
/-- x = e, a, b = e at the state a -/
def kA (c : Cfg) (n : Nat) (sc : Scope) (a : List Bool) (tg e : Expr) : Option KR := match tg with
  | .Name x px => if loc sc x then (match c.slot x with
    | some i => (match e with
      | .ListComp elt gens scope pos => if kE c n a sc e == 3 && genOk gens && sc.names.lookup x == some .local && px.line == pos.line && !(scope.names.any fun (n, k) => n == x && (k == .local || k == .cell)) && own (a.set i true) i
          then some (.go c (a.set i true)) else none
      | e => if noComp e then (if kE c n a sc e == 3 && own (a.set i true) i then some (.go c (a.set i true)) else if kF (kE c n a sc e) then some (.go c (clr a [i])) else none) else none)
    | none => none) else none
  | .Tuple ts _ _ => if noComp e then (match tS c n sc tg with
    | some tl => (match e with
      | .Tuple vs _ _ => (match swP sc ts vs with
        | some none => if k3 (kE c n a sc e) then some (.go c (clr a tl)) else none
        | some (some _) => (match ts, vs with
          | [.Name x _, .Name y _], [e1, e2] => (match c.slot x, c.slot y with
            | some i, some j => if swP sc ts vs == some (some [x, y]) && i != j && sc.names.lookup x == some .local && sc.names.lookup y == some .local && kF (kE c (n - 1) a sc e1) && kF (kE c (n - 1) a sc e2) && vs.all plainE
                then some (.go c (clr a [j, i])) else none
            | _, _ => none)
          | [.Name x _, .Name y _, .Name z _], [e1, e2, e3] => (match c.slot x, c.slot y, c.slot z with
            | some i, some j, some l => if swP sc ts vs == some (some [x, y, z]) && i != j && i != l && j != l && sc.names.lookup x == some .local && sc.names.lookup y == some .local && sc.names.lookup z == some .local &&
                kF (kE c (n - 1) a sc e1) && kF (kE c (n - 1) a sc e2) && kF (kE c (n - 1) a sc e3) && vs.all plainE then some (.go c (clr a [l, j, i])) else none
            | _, _, _ => none)
          | _, _ => none)
        | none => none)
      | _ => if k3 (kE c n a sc e) then some (.go c (clr a tl)) else none)
    | none => none) else none
  | _ => none
def loopA (body : List Bool → Option KR) : Nat → List Bool → Option (List Bool × KR)
  | 0, _ => none
  | m + 1, a => match body a with
    | some r => if leA a r.nx && leA a r.ct then some (a, r) else loopA body m (mt a (mt r.nx r.ct))
    | none => none
def kB (c : Cfg) (f : List Bool → Stmt → Option KR) : List Bool → List Stmt → Option KR
  | a, [] => some (.go c a)
  | a, s :: ss => match ss with
    | [] => f a s
    | _ => (match f a s with
      | some r1 => (match kB c f r1.nx ss with
        | some r2 => some ⟨r2.nx, mt r1.bk r2.bk, mt r1.ct r2.ct⟩
        | none => none)
      | none => none)
def kS (c : Cfg) (o : Bool) (sc : Scope) : Nat → List Bool → Stmt → Option KR
  | 0, _, _ => some (.all c)
  | n + 1, a, st => match st with
    | .Pass _ => some (.go c a)
    | .Break _ => some ⟨top c, a, top c⟩
    | .Continue _ => some ⟨top c, top c, a⟩
    | .Return v _ => (match v with
      | some e =>
        let a1 := clr a (fzE c n (!o) sc e)
        if leA a1 a && (if o then kle (kE c n a1 sc e) 1 && k3 (kE c n a1 sc e) else kF (kE c n a1 sc e)) then some (.all c) else none
      | none => some (.all c))
    | .Assign tgs e _ => (match tgK tgs with
      | .g tg =>
        let a1 := clr a (fzE c n true sc e)
        if leA a1 a then kA c n sc a1 tg e else none
      | .set x i => if loc sc x then (match c.slot x with
        | some j =>
          let a1 := clr a (fzE c n true sc e ++ fzE c n false sc i)
          if leA a1 a && kF (kE c n a1 sc e) && k3 (kE c n a1 sc i) && plainIx i && vis sc x && notDbg x && own a1 j && noComp e then some (.go c a1) else none
        | none => none) else none
      | .no => some (.all c))
    | .Expr e q => (match exK e with
      | .app x ax => if loc sc x then (match c.slot x with
        | some j =>
          let a1 := clr a (fzE c n true sc ax)
          if leA a1 a && kF (kE c n a1 sc ax) && plainE ax && vis sc x && notDbg x && own a1 j && (match e with
            | .Call f _ _ pos => f.pos.endLine == pos.line
            | _ => false) then some (.go c a1) else none
        | none => none) else none
      | .doc => some (.go c a)
      | .other =>
        let a1 := clr a (fzE c n false sc e)
        if leA a1 a && noComp e && k3 (kE c n a1 sc e) then some (.go c a1) else none)
    | .If t x y _ =>
      let a1 := clr a (fzE c n false sc t)
      if leA a1 a && kT c n a1 sc t then (match kB c (kS c o sc n) a1 x, kB c (kS c o sc n) a1 y with
        | some r1, some r2 => some ⟨mt r1.nx r2.nx, mt r1.bk r2.bk, mt r1.ct r2.ct⟩
        | _, _ => none) else none
    | .For tg it body orelse _ => (match orelse with
      | [] => (match tS c n sc tg with
        | some ts => (match loopA (fun b => kB c (kS c o sc n) (clr b ts) body) 9 (clr a (fzE c n true sc it)) with
          | some (b, rb) => if leA b a && kI c n b sc (isTup tg) it && notSet it && leA (mt b rb.bk) b && leA (mt b rb.bk) rb.bk && leA b rb.nx && leA b rb.ct then some (.go c (mt b rb.bk)) else none
          | none => none)
        | none => none)
      | _ => some (.all c))
    | .While t body orelse _ => (match orelse with
      | [] => (match loopA (fun b => kB c (kS c o sc n) b body) 9 (clr a (fzE c n false sc t)) with
        | some (b, rb) => if leA b a && kT c n b sc t && leA (mt b rb.bk) b && leA (mt b rb.bk) rb.bk && leA b rb.nx && leA b rb.ct then some (.go c (mt b rb.bk)) else none
        | none => none)
      | _ => some (.all c))
    | _ => some (.all c)
end Dv
/-! Dv20: the look at statements is sound. -/
namespace Dv
open PySem PySem.Spec PyProof.Rows L2
variable {X : Cx} {a b : List Bool} {c : Cfg} {n : Nat} {sc : Scope} {o : Bool} {st : Stmt} {sts body : List Stmt} {r r' rb : KR} {g : DS} {e tg : Expr} {pos p q : Pos}

theorem mt_own (a b : List Bool) (i : Nat) (h : own (mt a b) i = true) : own a i = true ∧ own b i = true := by
  unfold own mt at *
  rw [List.getD_eq_getElem?_getD, List.getElem?_zipWith] at h
  rw [List.getD_eq_getElem?_getD, List.getD_eq_getElem?_getD]
  cases ha : a[i]? with
  | none => rw [ha] at h; cases h
  | some x =>
    cases hb : b[i]? with
    | none => rw [ha, hb] at h; cases h
    | some y =>
      rw [ha, hb] at h
      have h : (x && y) = true := h
      exact and2 h
theorem leA_mk {b a : List Bool} (h : ∀ i, own b i = true → own a i = true) : leA b a = true := List.all_eq_true.mpr fun i _ => by
  cases q : own b i with
  | false => rfl
  | true => rw [h i q]; rfl
theorem leA_mt1 (a b : List Bool) : leA (mt a b) a = true := leA_mk fun i h => (mt_own a b i h).1
theorem leA_mt2 (a b : List Bool) : leA (mt a b) b = true := leA_mk fun i h => (mt_own a b i h).2
theorem leA_refl (a : List Bool) : leA a a = true := leA_mk fun _ h => h
/-- what the look at statements says, for all statements -/
def SndS (c : Cfg) (o : Bool) (sc : Scope) (f : List Bool → Stmt → Option KR) (g : Stmt → DS) (X : Cx) : Prop := ∀ a st r, f a st = some r → JS X o a st r (g st)
theorem kB_ok {f : List Bool → Stmt → Option KR} {g : Stmt → DS} (h : SndS c o sc f g X) : ∀ (sts : List Stmt) (a : List Bool) (r : KR), kB c f a sts = some r → JSs X o a sts r (sSeq (sts.map g))
  | [], a, r, hk => by cases hk; exact jss_nil rfl
  | [s], a, r, hk => jss_one (h a s r hk)
  | s :: s2 :: ss, a, r, hk => by
    unfold kB at hk
    split at hk
    · rename_i e1; cases e1
    · cases hf : f a s with
      | none => rw [hf] at hk; cases hk
      | some r1 =>
        rw [hf] at hk
        dsimp only at hk
        cases h2 : kB c f r1.nx (s2 :: ss) with
        | none => rw [h2] at hk; cases hk
        | some r2 =>
          rw [h2] at hk
          cases hk
          exact jss_cons (r1 := ⟨r1.nx, mt r1.bk r2.bk, mt r1.ct r2.ct⟩) (r2 := ⟨r2.nx, mt r1.bk r2.bk, mt r1.ct r2.ct⟩) ((h a s r1 hf).less ⟨leA_refl _, leA_mt1 _ _, leA_mt1 _ _⟩)
            ((kB_ok h (s2 :: ss) r1.nx r2 h2).less ⟨leA_refl _, leA_mt2 _ _, leA_mt2 _ _⟩) rfl rfl rfl rfl rfl
theorem loopA_ok {f : List Bool → Option KR} : ∀ (m : Nat) (a b : List Bool) (r : KR), loopA f m a = some (b, r) → f b = some r
  | 0, a, b, r, h => by cases h
  | m + 1, a, b, r, h => by
    unfold loopA at h
    cases hf : f a with
    | none => rw [hf] at h; cases h
    | some r1 =>
      rw [hf] at h
      dsimp only at h
      split at h
      · cases h; exact hf
      · exact loopA_ok m _ b r h
theorem noComp_with {env : PySem.Env} {t : Option Expr} {l : Nat} (h : noComp e = true) : swapsWith e t l env = pure false := by
  cases e <;> first | rfl | cases h
theorem noComp_sole {env : PySem.Env} {t : Expr} {l : Nat} (h : noComp e = true) : swapsWithSole [t] e l env = pure false := noComp_with h
theorem noTup_sw {env : PySem.Env} {ts : List Expr} {k : Nat} {p : Pos} (h : noTup e = true) : swappedStores [.Tuple ts k p] e env = pure none := by
  cases e <;> first | rfl | cases h
theorem name_sw {env : PySem.Env} {x : Str} {p : Pos} : swappedStores [.Name x p] e env = pure none := by
  cases e <;> rfl
theorem some_if {α : Type} {b : Bool} {x y : α} (h : (if b = true then some x else none) = some y) : b = true ∧ x = y := by
  cases b with
  | true => exact ⟨rfl, Option.some.inj h⟩
  | false => cases h
theorem asgT_ok (C : Ctx c X sc) (hst : StOk X sc) {ts : List Expr} {kk : Nat} {tp : Pos} {tl : List Nat} (ht : tS c n sc (.Tuple ts kk tp) = some tl) (h3 : k3 (kE c n a sc e) = true) (hn : noComp e = true) (hw : swappedStores [.Tuple ts kk tp] e X.env = pure none) :
    JS X o a (.Assign [.Tuple ts kk tp] e q) (.go c (clr a tl)) (sAsg (dG c n sc (.Tuple ts kk tp)) (dE c n sc e)) := by
  have g := tg_ok C hst n _ tl ht a
  cases n with
  | zero => cases ht
  | succ m =>
    unfold dG at g ⊢
    exact js_asgT ((sound c (m + 1)).E X sc a e C h3).to0 g (noComp_sole hn) hw rfl
theorem kA_ok (C : Ctx c X sc) (hst : StOk X sc) (hk : sc.kind = .function) (h : kA c n sc a tg e = some r) : JS X o a (.Assign [tg] e q) r (sAsg (dG c n sc tg) (dE c n sc e)) := by
  unfold kA at h
  split at h
  · rename_i x px
    split at h
    · rename_i hl
      obtain ⟨l1, l2⟩ := hst x hl
      split at h
      · rename_i i hs
        have ni := C.slot hs
        have hg : n = 0 ∨ dG c n sc (.Name x px) = gNm i := by
          cases n with
          | zero => exact .inl rfl
          | succ m => right; unfold dG; dsimp only; rw [if_pos hl, hs]
        have zero : n = 0 → JS X o a (.Assign [.Name x px] e q) r (sAsg (dG c n sc (.Name x px)) (dE c n sc e)) := fun z => js_bad fun δ => by subst z; unfold dE; rfl
        rcases hg with z | hg
        · exact zero z
        rw [hg]
        split at h
        · rename_i elt gens scope pos
          obtain ⟨hb, rfl⟩ := some_if h
          obtain ⟨hb, h6⟩ := and2 hb
          obtain ⟨hb, h5⟩ := and2 hb
          obtain ⟨hb, h4⟩ := and2 hb
          obtain ⟨h1, h2, h3⟩ := and3 hb
          cases n with
          | zero => exact js_bad fun δ => by unfold dE; rfl
          | succ m =>
            refine js_lcN (sound c m) C (by simpa using h1) (fun z => ?_) ni hk (by simpa using h3) h4 (by simpa using h5) h6 rfl
            unfold genOk at h2
            dsimp only at h2
            rw [z] at h2
            cases h2
        · split at h
          · rename_i hn
            split at h
            · rename_i hb
              cases h
              obtain ⟨h1, h2⟩ := and2 hb
              have h1 : kE c n a sc e = 3 := by simpa using h1
              have je := (sound c n).E X sc a e C (by rw [h1]; rfl)
              rw [h1] at je
              exact js_asgO je C.nd ni l1 l2 (noComp_with hn) h2 rfl
            · obtain ⟨hb, rfl⟩ := some_if h
              exact js_asgF (((sound c n).E X sc a e C (k3_of_kF hb)).kF hb) (jg_name C.nd ni l1 l2) (noComp_sole hn) name_sw rfl rfl
          · cases h
      · cases h
    · cases h
  · rename_i ts kk tp
    split at h
    · rename_i hn
      split at h
      · rename_i tl ht
        split at h
        · rename_i vs k2 p2
          split at h
          · rename_i hw
            obtain ⟨hb, rfl⟩ := some_if h
            exact asgT_ok C hst ht hb hn (swP_of C.sc hk hw)
          · split at h
            · rename_i x px y py e1 e2 _
              split at h
              · rename_i i j hi hj
                obtain ⟨hb, rfl⟩ := some_if h
                obtain ⟨hb, h7⟩ := and2 hb
                obtain ⟨hb, h6⟩ := and2 hb
                obtain ⟨hb, h5⟩ := and2 hb
                obtain ⟨hb, h4⟩ := and2 hb
                obtain ⟨h1, h2, h3⟩ := and3 hb
                have h3 : sc.names.lookup x = some .local := by simpa using h3
                have h4 : sc.names.lookup y = some .local := by simpa using h4
                have lx : loc sc x = true := by unfold loc; rw [h3]
                have ly : loc sc y = true := by unfold loc; rw [h4]
                match n with
                | 0 => exact js_bad fun δ => by unfold dE; rfl
                | 1 => exact js_bad fun δ => by unfold dE; unfold dE; rfl
                | m + 2 =>
                  have t := (sound c (m + 1)).E X sc a
                  have jj := js_par (o := o) (q := q) (kt := kk) (k2 := k2) (pt := tp) (p2 := p2) (r := .go c (clr a [j, i])) C.calm C.nd C.sc hk (C.slot hi) (C.slot hj) (by simpa using h2) h3 h4 ((t e1 C (k3_of_kF h5)).kF h5) ((t e2 C (k3_of_kF h6)).kF h6) h7 (by simpa using h1) rfl
                  have eg : dG c (m + 2) sc (.Tuple [.Name x px, .Name y py] kk tp) = gTp [gNm i, gNm j] := by
                    unfold dG
                    dsimp only
                    rw [List.map_cons, List.map_cons, List.map_nil]
                    unfold dG
                    dsimp only
                    rw [if_pos lx, if_pos ly, hi, hj]
                  rw [eg]
                  exact jj
              · cases h
            · rename_i x px y py z pz e1 e2 e3 _
              split at h
              · rename_i i j l hi hj hl
                obtain ⟨hb, rfl⟩ := some_if h
                obtain ⟨hb, h11⟩ := and2 hb
                obtain ⟨hb, h10⟩ := and2 hb
                obtain ⟨hb, h9⟩ := and2 hb
                obtain ⟨hb, h8⟩ := and2 hb
                obtain ⟨hb, h7⟩ := and2 hb
                obtain ⟨hb, h6⟩ := and2 hb
                obtain ⟨hb, h5⟩ := and2 hb
                obtain ⟨hb, h4⟩ := and2 hb
                obtain ⟨h1, h2, h3⟩ := and3 hb
                have h5 : sc.names.lookup x = some .local := by simpa using h5
                have h6 : sc.names.lookup y = some .local := by simpa using h6
                have h7 : sc.names.lookup z = some .local := by simpa using h7
                have lx : loc sc x = true := by unfold loc; rw [h5]
                have ly : loc sc y = true := by unfold loc; rw [h6]
                have lz : loc sc z = true := by unfold loc; rw [h7]
                match n with
                | 0 => exact js_bad fun δ => by unfold dE; rfl
                | 1 => exact js_bad fun δ => by unfold dE; unfold dE; rfl
                | m + 2 =>
                  have t := (sound c (m + 1)).E X sc a
                  have jj := js_par3 (o := o) (q := q) (kt := kk) (k2 := k2) (pt := tp) (p2 := p2) (r := .go c (clr a [l, j, i])) C.calm C.nd C.sc hk (C.slot hi) (C.slot hj) (C.slot hl) (by simpa using h2) (by simpa using h3) (by simpa using h4) h5 h6 h7
                    ((t e1 C (k3_of_kF h8)).kF h8) ((t e2 C (k3_of_kF h9)).kF h9) ((t e3 C (k3_of_kF h10)).kF h10) h11 (by simpa using h1) rfl
                  have eg : dG c (m + 2) sc (.Tuple [.Name x px, .Name y py, .Name z pz] kk tp) = gTp [gNm i, gNm j, gNm l] := by
                    unfold dG
                    dsimp only
                    rw [List.map_cons, List.map_cons, List.map_cons, List.map_nil]
                    unfold dG
                    dsimp only
                    rw [if_pos lx, if_pos ly, if_pos lz, hi, hj, hl]
                  rw [eg]
                  exact jj
              · cases h
            · cases h
          · cases h
        · rename_i hnt
          obtain ⟨hb, rfl⟩ := some_if h
          refine asgT_ok C hst ht hb hn (noTup_sw ?_)
          cases e <;> first | rfl | exact absurd rfl (hnt _ _ _)
      · cases h
    · cases h
  · cases h
end Dv
/-! Dv21: the look at statements is sound: all forms. -/
namespace Dv
open PySem PySem.Spec PyProof.Rows L2
variable {X : Cx} {a b : List Bool} {c : Cfg} {n : Nat} {sc : Scope} {o : Bool} {st : Stmt} {sts body : List Stmt} {r r' rb : KR} {g : DS} {e tg : Expr} {pos p q : Pos}

theorem tgK_g {tgs : List Expr} {e : Expr} (h : tgK tgs = .g e) : tgs = [e] := by
  unfold tgK at h
  split at h <;> cases h <;> rfl
theorem tgK_set {tgs : List Expr} {x : Str} {i : Expr} (h : tgK tgs = .set x i) : ∃ p1 p2, tgs = [.Subscript (.Name x p1) i p2] := by
  unfold tgK at h
  split at h <;> cases h
  exact ⟨_, _, rfl⟩
theorem exK_app {e : Expr} {x : Str} {ax : Expr} (h : exK e = .app x ax) : ∃ p1 p2 p3, e = .Call (.Attribute (.Name x p1) "append" p2) [ax] [] p3 := by
  unfold exK at h
  split at h
  · split at h
    · rename_i hm
      subst hm
      cases h
      exact ⟨_, _, _, rfl⟩
    · cases h
  · cases h
  · cases h
theorem exK_doc {e : Expr} (h : exK e = .doc) : ∃ x j p, e = .Constant (.str x) j p := by
  unfold exK at h
  split at h
  · split at h <;> cases h
  · exact ⟨_, _, _, rfl⟩
  · cases h
theorem assign_sub {ob ix : Expr} {env : PySem.Env} (h : plainIx ix = true) (v : Value) : assign (.Subscript ob ix pos) env v = (do
    let ov ← holding [v] (eval ob env)
    let iv ← holding [v, ov] (eval ix env)
    standAt pos
    holding [v, ov, iv] (setItem ov iv v)
    release [v, ov, iv] []) := by
  cases ix <;> first | rfl | cases h
theorem plainIx_to {ix : Expr} (h : plainIx ix = true) : PlainIx ix := by
  intro x y
  cases ix <;> first | rfl | cases h
theorem sound_S (c : Cfg) (o : Bool) (hk : sc.kind = .function) (C : Ctx c X sc) (hst : StOk X sc) (hp : PassesOwn (model X.prog X.w) X.A X.env X.xe) : ∀ n, SndS c o sc (kS c o sc n) (dS c sc n) X := by
  intro n
  induction n with
  | zero => intro a st r h; exact js_bad fun δ => by unfold dS; rfl
  | succ n ih =>
    intro a st r h
    have bad : ∀ {g : DS}, (∀ δ, g δ = .bad) → JS X o a st r g := fun h => js_bad h
    cases st with
    | Pass q => unfold kS at h; unfold dS; cases h; exact js_pass rfl
    | Break q => unfold kS at h; unfold dS; cases h; exact js_brk rfl
    | Continue q => unfold kS at h; unfold dS; cases h; exact js_cnt rfl
    | Return v q =>
      unfold kS at h
      unfold dS
      cases v with
      | none => exact js_retN
      | some e =>
        dsimp only at h ⊢
        obtain ⟨hb, rfl⟩ := some_if h
        obtain ⟨h1, h2⟩ := and2 hb
        cases o with
        | true =>
          have h2 : (kle (kE c n (clr a (fzE c n (!true) sc e)) sc e) 1 && k3 (kE c n (clr a (fzE c n (!true) sc e)) sc e)) = true := h2
          obtain ⟨h2, h3⟩ := and2 h2
          exact (js_retO (((sound c n).E X sc _ e C h3).weak h2)).pre h1
        | false =>
          have h2 : kF (kE c n (clr a (fzE c n (!false) sc e)) sc e) = true := h2
          exact (js_retF (((sound c n).E X sc _ e C (k3_of_kF h2)).kF h2)).pre h1
    | Assign tgs e q =>
      unfold kS at h
      unfold dS
      dsimp only at h ⊢
      cases ht : tgK tgs with
      | g tg =>
        rw [ht] at h
        dsimp only at h ⊢
        cases tgK_g ht
        split at h
        · rename_i hl
          exact (kA_ok C hst hk h).pre hl
        · cases h
      | set x i =>
        rw [ht] at h
        dsimp only at h ⊢
        obtain ⟨p1, p2, rfl⟩ := tgK_set ht
        split at h
        · rename_i hl
          rw [if_pos hl]
          cases hs : c.slot x with
          | none => rw [hs] at h; cases h
          | some j =>
            rw [hs] at h
            dsimp only at h ⊢
            obtain ⟨hb, rfl⟩ := some_if h
            obtain ⟨hb, h8⟩ := and2 hb
            obtain ⟨hb, h7⟩ := and2 hb
            obtain ⟨hb, h6⟩ := and2 hb
            obtain ⟨hb, h5⟩ := and2 hb
            obtain ⟨hb, h4⟩ := and2 hb
            obtain ⟨h1, h2, h3⟩ := and3 hb
            exact (js_set (((sound c n).E X sc _ e C (k3_of_kF h2)).kF h2) ((sound c n).E X sc _ i C h3).to0 (plainIx_to h4) (C.slot hs) (C.vis h5) h6 h7 rfl (noComp_sole h8) (assign_sub h4)).pre h1
        · cases h
      | no => exact js_bad fun δ => rfl
    | Expr e q =>
      unfold kS at h
      unfold dS
      dsimp only at h ⊢
      cases he : exK e with
      | app x ax =>
        rw [he] at h
        dsimp only at h ⊢
        obtain ⟨p1, p2, p3, rfl⟩ := exK_app he
        split at h
        · rename_i hl
          rw [if_pos hl]
          cases hs : c.slot x with
          | none => rw [hs] at h; cases h
          | some j =>
            rw [hs] at h
            dsimp only at h ⊢
            obtain ⟨hb, rfl⟩ := some_if h
            obtain ⟨hb, h7⟩ := and2 hb
            obtain ⟨hb, h6⟩ := and2 hb
            obtain ⟨hb, h5⟩ := and2 hb
            obtain ⟨hb, h4⟩ := and2 hb
            obtain ⟨h1, h2, h3⟩ := and3 hb
            exact (js_app (((sound c n).E X sc _ ax C (k3_of_kF h2)).kF h2) h3 (C.slot hs) (C.vis h4) h5 h7 h6 rfl).pre h1
        · cases h
      | doc =>
        rw [he] at h
        obtain ⟨x, j, p, rfl⟩ := exK_doc he
        cases h
        exact js_doc rfl
      | other =>
        rw [he] at h
        dsimp only at h ⊢
        obtain ⟨hb, rfl⟩ := some_if h
        obtain ⟨h1, h2, h3⟩ := and3 hb
        exact (js_drop ((sound c n).E X sc _ e C h3).to0 (noComp_with h2) rfl).pre h1
    | If t x y q =>
      unfold kS at h
      unfold dS
      dsimp only at h ⊢
      split at h
      · rename_i hb
        obtain ⟨h1, h2⟩ := and2 hb
        split at h
        · rename_i r1 r2 e1 e2
          cases h
          exact (js_if ((sound c n).T X sc _ t C h2) ((kB_ok ih x _ r1 e1).less ⟨leA_mt1 _ _, leA_mt1 _ _, leA_mt1 _ _⟩) ((kB_ok ih y _ r2 e2).less ⟨leA_mt2 _ _, leA_mt2 _ _, leA_mt2 _ _⟩)).pre h1
        · cases h
      · cases h
    | For tg it body orelse q =>
      unfold kS at h
      unfold dS
      dsimp only at h ⊢
      cases orelse with
      | cons s ss => exact js_bad fun δ => rfl
      | nil =>
        dsimp only at h ⊢
        cases ht : tS c n sc tg with
        | none => rw [ht] at h; cases h
        | some ts =>
          rw [ht] at h
          dsimp only at h
          split at h
          · rename_i b rb hl
            obtain ⟨hb, rfl⟩ := some_if h
            obtain ⟨hb, h7⟩ := and2 hb
            obtain ⟨hb, h6⟩ := and2 hb
            obtain ⟨hb, h5⟩ := and2 hb
            obtain ⟨hb, h4⟩ := and2 hb
            obtain ⟨h1, h2, h3⟩ := and3 hb
            have hf := loopA_ok _ _ _ _ hl
            exact (js_for hp C.calm ((sound c n).I X sc b tg it C h2) (tg_ok C hst n tg ts ht b) (kB_ok ih body _ rb hf) (fold_ok h3 _) h6 h7 h4 h5).pre h1
          · cases h
    | While t body orelse q =>
      unfold kS at h
      unfold dS
      dsimp only at h ⊢
      cases orelse with
      | cons s ss => exact js_bad fun δ => rfl
      | nil =>
        dsimp only at h ⊢
        split at h
        · rename_i b rb hl
          obtain ⟨hb, rfl⟩ := some_if h
          obtain ⟨hb, h6⟩ := and2 hb
          obtain ⟨hb, h5⟩ := and2 hb
          obtain ⟨hb, h4⟩ := and2 hb
          obtain ⟨h1, h2, h3⟩ := and3 hb
          have hf := loopA_ok _ _ _ _ hl
          exact (js_while hp ((sound c n).T X sc b t C h2) (kB_ok ih body _ rb hf) h5 h6 h3 h4).pre h1
        · cases h
    | _ => exact js_bad fun δ => by unfold dS; rfl
end Dv
/-! Dv22: a def keeps its promise; the law's call. -/
namespace Dv
open PySem PySem.Spec PyProof.Rows L2
section
variable {P : Program} {w : World} {K : PySem.W.Frag} {mg : Str → Option Value} {base : Heap} {c : Cfg} {o : Bool} {n k : Nat}

/-- what the module's names stand for -/
structure Mod0 (P : Program) (w : World) (K : PySem.W.Frag) (mg : Str → Option Value) (base : Heap) (c : Cfg) (k : Nat) : Prop where
  con : ∀ x d, c.ge.lookup x = some (.con d) → ∃ v u, mg x = some u ∧ RelV v u ∧ ∀ F, Rp K F v d
  fn : ∀ x m o fl, c.ge.lookup x = some (.fn m o fl) → (fl = true → Flat m o) ∧ ∃ (j : Nat) (f : Addr) (fd : FuncData) (ps : List Str), j ≤ k ∧ Fk P w K mg base j f fd ps (prom K m o) ∧ mg x = some (.ref f) ∧ PySem.W.keepIn K (.ref f) = true ∧ Binds K fd ps []
  bn : ∀ x, c.bn.contains x = true → mg x = none
theorem start_si {N : List Str} {vs : List V} {ds : List D} {F H : Hp} {np : Nat} (FH : Same F H) (rs : Rps K F vs ds) (hp : ds.length = np) (hn : np ≤ N.length) :
    SI K F H F H (L2.start N vs) (clr (List.replicate N.length true) (List.range np)) (ds.map some ++ List.replicate (N.length - np) none) where
  len := by
    unfold L2.start
    rw [List.length_append, List.length_append, List.length_map, List.length_map, List.length_replicate, List.length_replicate, rs.length, hp]
  BH := Same.refl H
  FH := FH
  F0F := Same.refl F
  new := New.refl _ _
  sl := fun i d h => by
    by_cases hi : i < ds.length
    · rw [List.getElem?_append_left (by simpa using hi), List.getElem?_map] at h
      obtain ⟨d', h1, h2⟩ := Option.map_eq_some_iff.mp h
      cases h2
      obtain ⟨v, h3, r⟩ := rs.get h1
      refine ⟨v, ?_, fun z => ?_, fun _ => r⟩
      · unfold L2.start
        rw [List.getElem?_append_left (by rw [List.length_map, rs.length]; exact hi), List.getElem?_map, h3]
        rfl
      · exact absurd (List.mem_range.mpr (by omega)) (own_clr _ _ z).2
    · rw [List.getElem?_append_right (by simpa using Nat.le_of_not_lt hi), List.getElem?_replicate] at h
      split at h <;> cases h
  dj := fun i j d e p oi oj hi hj _ _ => by
    have hi' : i < ds.length := by
      apply Classical.byContradiction
      intro z
      rw [List.getElem?_append_right (by simpa using Nat.le_of_not_lt z), List.getElem?_replicate] at hi
      split at hi <;> cases hi
    exact absurd (List.mem_range.mpr (by omega)) (own_clr _ _ oi).2
/-- a def's body, looked at -/
theorem fk_of {name qual : Str} {params : Arguments} {body : List Stmt} {scope : Scope} {dV kV doc pm cdv ct oc : Value} {an od : Option Addr} {osl : Array (Option Value)} {f : Addr} {ps : List Str} {r : KR}
    (at_f : K.lookup f = some ⟨oc, od, .func (PySem.W.fnOf name qual params body scope dV kV doc pm an cdv ct), osl⟩) (code : PySem.W.codeIn K cdv qual = true) (sco : FnScope c.N ps scope) (m0 : Mod0 P w K mg base c k)
    (look : kB c (kS c o scope n) (clr (top c) (List.range ps.length)) body = some r) :
    Fk P w K mg base (k + 1) f (PySem.W.fnOf name qual params body scope dV kV doc pm an cdv ct) ps (prom K (runF ps.length c.N.length (dB c scope n body)) o) := by
  have many : ∀ vs H Q, prom K (runF ps.length c.N.length (dB c scope n body)) o vs H Q → vs.length = ps.length := fun vs H Q ⟨F, ds, _, rs, q⟩ => by
    rw [rs.length]
    unfold runF at q
    split at q
    · assumption
    · exact q.elim
  refine ⟨many, fun A outer s H args us vs Q room gu ent bnd rel q => ?_⟩
  have cnt : vs.length = ps.length := many vs H Q q
  have inK : K.In s.heap := ent.mod.kin.keeps fun b o z => (ent.bs b o z).1
  have nolim : s.heap.NoLimit := ent.mod.nolimit.keeps fun b o z => (ent.bs b o z).1
  refine codeAny_call_function room.depth (inK _ _ at_f) rfl sco.co sco.gen rfl (PySem.W.codeRec_of inK code) (bnd _ _ _ _ ?_)
  refine wpAny_newFunctionEnv_cells sco.kind (fun ⟨y, u⟩ hy => ?_) fun env he s1 x => ?_
  · rcases sco.par y (List.of_mem_zip hy).1 with z | z
    · exact .inl z
    · exact .inr ⟨z, PySem.W.cellsFrom_some _ _ _ (.inl z)⟩
  cases he
  refine ⟨nolim.keeps x.toInCall.keep, codeAny_func ?_⟩
  have I : Inv (cxOf CX0 P w K mg base c.N qual scope f cdv A outer s H E0) [] (L2.start c.N vs) H s1 := inv_start sco room.hd ent cnt rel x
  have rd := room.deeper (envOfC qual scope s.heap.objs.size f cdv)
  have C : Ctx c (cxOf CX0 P w K mg base c.N qual scope f cdv A outer s H E0) scope := by
    refine ⟨rfl, sco.nd, rfl, ⟨k, rd⟩, gu, rfl, m0.con, fun x m o fl h => ?_, m0.bn⟩
    obtain ⟨flat, j, f, fd, ps, hj, fk, h1, h2, h3⟩ := m0.fn x m o fl h
    exact ⟨⟨j, f, fd, ps, fk, rd.mono hj, h1, h2, h3⟩, flat⟩
  have st : StOk (cxOf CX0 P w K mg base c.N qual scope f cdv A outer s H E0) scope := fun x hx => ⟨loc_of hx, .inl rfl⟩
  have owns : PassesOwn (model P w) (cxOf CX0 P w K mg base c.N qual scope f cdv A outer s H E0).A (cxOf CX0 P w K mg base c.N qual scope f cdv A outer s H E0).env (cxOf CX0 P w K mg base c.N qual scope f cdv A outer s H E0).xe :=
    L2.passes_of (X := cxOf CX0 P w K mg base c.N qual scope f cdv A outer s H E0) rfl
  have run := kB_ok (sound_S c o sco.kind C st owns n) body _ r look
  obtain ⟨F, ds, FH, rs, q⟩ := q
  have hpl : ps.length ≤ c.N.length := by have := congrArg List.length sco.pre; rw [List.length_take] at this; omega
  have hd : ds.length = ps.length := rs.length.symm.trans cnt
  have S := start_si (N := c.N) FH rs hd hpl
  refine wpAny_mono (run.run [] s1 (L2.start c.N vs) H { nx := fun _ H' => Q .non H', rt := Q } I ⟨F, H, F, _, S, ?_⟩) (fun fl s' hs => ?_) fun _ _ z => z
  · unfold runF at q
    rw [if_pos hd] at q
    show OutOk K o F H r _ (dB c scope n body (ds.map some ++ List.replicate (c.N.length - ps.length) none))
    revert q
    cases dB c scope n body (ds.map some ++ List.replicate (c.N.length - ps.length) none) with
    | nx δ' => exact fun q σ' F' H' S' => q .non F' H' S'.F0F S'.BH S'.FH S'.new (fun _ => Rp.non) fun _ => Rp.non
    | rt d => exact fun q v F' H' g1 g2 g3 g4 g5 g6 => q v F' H' g1 g2 g3 g4 g5 g6
    | bk δ' => exact fun q => q.elim
    | ct δ' => exact fun q => q.elim
    | err _ _ => exact fun q => q
    | bad => exact fun q => q
  · match fl, hs with
    | .ret u, ⟨v, σ', H', J, rv, z⟩ => exact ⟨v, H', J.os, J.bare, J.base, J.hok, rv, z⟩
    | .next, ⟨σ', H', J, z⟩ => exact ⟨.non, H', J.os, J.bare, J.base, J.hok, rfl, z⟩
    | .brk, ⟨_, _, _, z⟩ => exact z.elim
    | .cont, ⟨_, _, _, z⟩ => exact z.elim
end
end Dv
/-! Dv23: the law's call at the end of the top. -/
namespace Dv
open PySem PySem.Spec PyProof.Rows L2
section
variable {P : Program} {w : World} {K : PySem.W.Frag} {mg mb : Str → Option Value} {k : Nat} {fa a : Addr} {fd : FuncData} {x : Str} {m : List D → R D} {o : Bool} {st : Shared} {vs : List Value} {ns : List Int}

/-- the law answers True, what stood before stands -/
abbrev Told (st : Shared) : Result → Shared → Prop := fun r s' => r = .ok (.ret (.bool true)) ∧ OldK st.heap s'.heap ∧ s'.os = st.os ∧ AllBare s'.gens
theorem vals_of_ints : ∀ {vs : List Value} {ns : List Int}, IntsAre vs ns → Vals (ns.map V.int) vs
  | _, _, .nil => .nil
  | _, _, .cons n t h => .cons ⟨t, rfl⟩ (vals_of_ints h)
theorem rps_ints {F : Hp} : ∀ ns : List Int, Rps K F (ns.map V.int) (ns.map PyData.int)
  | [] => .nil
  | n :: ns => .cons (.int n) (rps_ints ns)
/-- from a heap of which nothing but the script may be tracked, and that only as it is -/
theorem told_from {H : Hp} (inK : K.In st.heap) (glob : st.heap.Ns mainGlobals mg) (blt : st.heap.Ns builtinsNs mb) (boot : ∀ x : Str, x ≠ "__name__" → mb x = bootBuiltins x) (nolim : st.heap.NoLimit) (gens : st.gens = #[])
    (at_a : st.heap.get? a = some { cls := .type "list", data := .seq vs.toArray }) (room : Room k callerA)
    (fk : ∀ base : Heap, K.In base → base.Ns mainGlobals mg → Fk P w K mg base k fa fd [x] (prom K m o)) (bnd : ∀ (s : Shared) (u : Value), BindsTo s fd ⟨[u], []⟩ [(x, u)])
    (stands : Rp K H (.ref a) (.list (ns.map PyData.int))) (answer : m [.list (ns.map PyData.int)] = .ok (.bool true))
    (hok : HOk P w H st.heap) (one : ∀ b, H b ≠ none → b = a) (kept : ∀ b u, H b = some u → ∃ ob xs, u = .frz ob (.lst xs)) (apart : H a ≠ none → K.lookup a = none) :
    codeAny (model P w) callerA (.call (.ref fa) ⟨[.ref a], []⟩) (Told st) st := by
  have seen : ∀ {b : Addr} {ob : Obj}, st.heap.get? b = some ob → H b = none → (hidT st.heap H).get? b = some ob := fun z z2 => hidT_get z z2
  have noDict : ∀ {b : Addr} {ob : Obj} {es : Array DictEntry} {ep : Nat}, st.heap.get? b = some ob → ob.data = .dict es ep → H b = none := fun {b ob es ep} z z2 => by
    cases hb : H b with
    | none => rfl
    | some u =>
      cases one b (by rw [hb]; simp)
      rw [at_a] at z
      cases z
      cases (show Data.seq vs.toArray _ = Data.dict es ep from z2)
  have names : ∀ {b : Addr} {mm : Str → Option Value}, st.heap.Ns b mm → (hidT st.heap H).Ns b mm := fun {b mm} z => by
    obtain ⟨ob, es, ep, z1, z2, z3⟩ := z
    exact ⟨ob, es, ep, seen z1 (noDict z1 z2), z2, z3⟩
  have kb : K.In (hidT st.heap H) := fun b ob z => seen (inK b ob z) (by
    cases hb : H b with
    | none => rfl
    | some u =>
      cases one b (by rw [hb]; simp)
      rw [apart (by rw [hb]; simp)] at z
      cases z)
  have md : Mod K mg (hidT st.heap H) := by
    refine ⟨kb, names glob, ⟨mb, names blt, boot⟩, ?_⟩
    obtain ⟨mc, z1, z2⟩ := nolim
    exact ⟨mc, names z1, z2⟩
  have ent : Env0 P w K mg (hidT st.heap H) callerA [] st H := by
    refine ⟨rfl, md, fun b ob z => of_hidT z, Nat.le_of_eq (hidT_size _ _), trivial, fun b hb => ?_, hok, .of_eq gens⟩
    cases (show b ∈ ([] : List Addr) from hb)
  have q : prom K m o [.ref a] H (fun v _ => v = .bl true) := by
    refine ⟨H, [.list (ns.map PyData.int)], Same.refl H, .cons stands .nil, ?_⟩
    rw [answer]
    intro v F' H' _ _ _ _ h1 h2
    cases o with
    | true => exact (show Rp K F' v (.bool true) from h1 rfl).bl_inv
    | false => exact (h2 rfl).bl_inv
  refine codeAny_mono ((fk _ kb (names glob)).does callerA [] st H ⟨[.ref a], []⟩ [.ref a] [.ref a] _ room rfl ent (bnd st (.ref a)) (.cons rfl .nil) q) fun r s' z => ?_
  match r, z with
  | .error _, z => exact False.elim z
  | .ok .next, z => exact False.elim z
  | .ok .brk, z => exact False.elim z
  | .ok .cont, z => exact False.elim z
  | .ok (.ret u), ⟨v, H', os, bare, un, hok', rv, z⟩ =>
    have z : v = .bl true := z
    subst z
    cases (show u = Value.bool true from rv)
    refine ⟨rfl, OldK.of_keep fun b ob z => ?_, os, bare⟩
    cases hb : H b with
    | none => exact un.keep b ob z hb (fun z => by cases (show b ∈ ([] : List Addr) from z)) (fun z => by cases (show b ∈ ([] : List Addr) from z))
    | some u =>
      obtain ⟨ob2, xs, rfl⟩ := kept b u hb
      obtain ⟨z1, _⟩ := hok b _ hb
      obtain ⟨z2, _⟩ := hok' b _ (un.frzs b ob2 _ hb)
      rw [z] at z1
      cases z1
      exact z2
theorem law_told (inK : K.In st.heap) (glob : st.heap.Ns mainGlobals mg) (blt : st.heap.Ns builtinsNs mb) (boot : ∀ x : Str, x ≠ "__name__" → mb x = bootBuiltins x) (nolim : st.heap.NoLimit) (gens : st.gens = #[])
    (at_a : st.heap.get? a = some { cls := .type "list", data := .seq vs.toArray }) (theInts : IntsAre vs ns) (len : ns.length ≤ sizeLine) (room : Room k callerA)
    (fk : ∀ base : Heap, K.In base → base.Ns mainGlobals mg → Fk P w K mg base k fa fd [x] (prom K m o)) (bnd : ∀ (s : Shared) (u : Value), BindsTo s fd ⟨[u], []⟩ [(x, u)])
    (answer : m [.list (ns.map PyData.int)] = .ok (.bool true)) : codeAny (model P w) callerA (.call (.ref fa) ⟨[.ref a], []⟩) (Told st) st := by
  have rv := vals_of_ints theInts
  have lv := theInts.length
  cases hk : K.lookup a with
  | some ob =>
    have z := inK a ob hk
    rw [at_a] at z
    cases z
    refine told_from (H := fun _ => none) inK glob blt boot nolim gens at_a room fk bnd (.lst (.inr ⟨vs, _, hk, by rw [lv]; exact len, rv⟩) (rps_ints ns)) answer (fun b u z => ?_) (fun b z => absurd rfl z) (fun b u z => ?_) (fun z => absurd rfl z)
    · cases (show (none : Option HO) = some u from z)
    · cases (show (none : Option HO) = some u from z)
  | none =>
    have at1 : ∀ {b : Addr} {u : HO}, (if b = a then some (HO.frz { cls := .type "list", data := .seq vs.toArray } (.lst (ns.map V.int))) else none) = some u → b = a ∧ u = .frz { cls := .type "list", data := .seq vs.toArray } (.lst (ns.map V.int)) := fun {b u} z => by
      by_cases hb : b = a
      · rw [if_pos hb] at z; cases z; exact ⟨hb, rfl⟩
      · rw [if_neg hb] at z; cases z
    refine told_from (H := fun b => if b = a then some (.frz { cls := .type "list", data := .seq vs.toArray } (.lst (ns.map V.int))) else none) inK glob blt boot nolim gens at_a room fk bnd
      (.lst (.inl (.inr ⟨{ cls := .type "list", data := .seq vs.toArray }, if_pos rfl⟩)) (rps_ints ns)) answer (fun b u z => ?_) (fun b z => ?_) (fun b u z => ?_) fun _ => hk
    · obtain ⟨rfl, rfl⟩ := at1 z
      exact ⟨at_a, by rw [List.length_map]; exact len, vs, _, rv, at_a⟩
    · cases hb : (if b = a then some (HO.frz { cls := .type "list", data := .seq vs.toArray } (.lst (ns.map V.int))) else none) with
      | none => exact absurd hb z
      | some u => exact (at1 hb).1
    · exact ⟨_, _, (at1 z).2⟩
end
/-- what k_head leaves, from the law's own promise -/
theorem walk_dv {l : PySem.W.OpenLaw} {n k : Nat} {q : Program} {loose : List Str} {XP : (Str → Option Value) → Heap → Prop} {YP : World → Heap → Prop} {d : DefRec} {K : Params → PySem.W.Frag} {x : Str} {m : List D → R D} {o : Bool}
    (most : l.most = some n) (most2 : n ≤ sizeLine) (nodef : d.params.defaults = []) (room : Room k callerA) (inK : ∀ (w : World) (h : Heap), YP w h → (K w.params).In h)
    (fk : ∀ (w : World) (mg : Str → Option Value) (fa : Addr) (h : Heap), (K w.params).In h → h.Ns mainGlobals mg → mg d.name = some (.ref fa) →
      ∃ fd : FuncData, (∀ (s : Shared) (u : Value), BindsTo s fd ⟨[u], []⟩ [(x, u)]) ∧ ∀ base : Heap, (K w.params).In base → base.Ns mainGlobals mg → Fk l.prog w (K w.params) mg base k fa fd [x] (prom (K w.params) m o))
    (answer : ∀ ns : List Int, ns.length ≤ n → m [.list (ns.map PyData.int)] = .ok (.bool true)) : PySem.W.WalkO q loose XP YP l.row.toRowW d [] (fun f vs => PySem.call f vs) := by
  refine Att.attach_call most nodef fun w s₀ s₁ mg mb fa ob pm cd doc a vs ns G Y _ _ _ at_law at_a theInts len gens => ?_
  obtain ⟨fd, bnd, fk⟩ := fk w mg fa _ (inK w _ Y) G.T.g at_law
  exact law_told (inK w _ Y) G.T.g G.T.b G.T.builtins G.T.nolimit gens at_a theInts (Nat.le_trans len most2) room fk bnd (answer ns len)
end Dv
/-! Dv24: a module's defs, one by one. -/
namespace Dv
open PySem PySem.Spec PyProof.Rows L2
section
variable {P : Program} {w : World} {K : PySem.W.Frag} {mg : Str → Option Value} {base : Heap} {c : Cfg} {o : Bool} {n k j : Nat}

/-- a def under its name, with its meaning -/
def FnG (P : Program) (w : World) (K : PySem.W.Frag) (mg : Str → Option Value) (base : Heap) (k : Nat) (x : Str) (m : List D → R D) (o : Bool) : Prop :=
  ∃ (j : Nat) (f : Addr) (fd : FuncData) (ps : List Str), j ≤ k ∧ Fk P w K mg base j f fd ps (prom K m o) ∧ mg x = some (.ref f) ∧ PySem.W.keepIn K (.ref f) = true ∧ Binds K fd ps []
theorem FnG.up {x : Str} {m : List D → R D} (h : FnG P w K mg base j x m o) (hj : j ≤ k) : FnG P w K mg base k x m o := by
  obtain ⟨i, f, fd, ps, h1, h2, h3, h4, h5⟩ := h
  exact ⟨i, f, fd, ps, Nat.le_trans h1 hj, h2, h3, h4, h5⟩
def ConG (K : PySem.W.Frag) (mg : Str → Option Value) (x : Str) (d : D) : Prop := ∃ v u, mg x = some u ∧ RelV v u ∧ ∀ F, Rp K F v d
def geOk (P : Program) (w : World) (K : PySem.W.Frag) (mg : Str → Option Value) (base : Heap) (k : Nat) : List (Str × GV) → Prop
  | [] => True
  | (x, .con d) :: r => ConG K mg x d ∧ geOk P w K mg base k r
  | (x, .fn m o fl) :: r => (FnG P w K mg base k x m o ∧ (fl = true → Flat m o)) ∧ geOk P w K mg base k r
def bnOk (mg : Str → Option Value) : List Str → Prop
  | [] => True
  | x :: r => mg x = none ∧ bnOk mg r
theorem geOk.con : ∀ {l : List (Str × GV)}, geOk P w K mg base k l → ∀ x d, l.lookup x = some (.con d) → ConG K mg x d
  | [], _, x, d, h => by cases h
  | (y, .con e) :: r, g, x, d, h => by
    rw [List.lookup_cons] at h
    cases q : x == y with
    | true => rw [q] at h; cases h; rw [eq_of_beq q]; exact g.1
    | false => rw [q] at h; exact geOk.con g.2 x d h
  | (y, .fn m o fl) :: r, g, x, d, h => by
    rw [List.lookup_cons] at h
    cases q : x == y with
    | true => rw [q] at h; cases h
    | false => rw [q] at h; exact geOk.con g.2 x d h
theorem geOk.fn : ∀ {l : List (Str × GV)}, geOk P w K mg base k l → ∀ x m o fl, l.lookup x = some (.fn m o fl) → (fl = true → Flat m o) ∧ FnG P w K mg base k x m o
  | [], _, x, m, o, fl, h => by cases h
  | (y, .con e) :: r, g, x, m, o, fl, h => by
    rw [List.lookup_cons] at h
    cases q : x == y with
    | true => rw [q] at h; cases h
    | false => rw [q] at h; exact geOk.fn g.2 x m o fl h
  | (y, .fn m' o' fl') :: r, g, x, m, o, fl, h => by
    rw [List.lookup_cons] at h
    cases q : x == y with
    | true => rw [q] at h; cases h; rw [eq_of_beq q]; exact ⟨g.1.2, g.1.1⟩
    | false => rw [q] at h; exact geOk.fn g.2 x m o fl h
theorem bnOk.at : ∀ {l : List Str}, bnOk mg l → ∀ x, l.contains x = true → mg x = none
  | [], _, x, h => by cases h
  | y :: r, g, x, h => by
    rw [List.contains_cons, Bool.or_eq_true] at h
    rcases h with h | h
    · rw [eq_of_beq h]; exact g.1
    · exact bnOk.at g.2 x h
theorem mod0_of (g : geOk P w K mg base k c.ge) (b : bnOk mg c.bn) : Mod0 P w K mg base c k := ⟨g.con, g.fn, b.at⟩
/-- a def's promise from its text, looked at -/
theorem fnG_of {name : Str} {st : Stmt} {f : Addr} {oc : Value} {od an : Option Addr} {osl : Array (Option Value)} {kV doc pm cdv ct : Value} {ps : List Str} {b : DS}
    (m0 : Mod0 P w K mg base c k) (look : (kB c (kS c o (defScope st) n) (clr (top c) (List.range ps.length)) (defBody st)).isSome = true) (tie : dB c (defScope st) n (defBody st) = b) (sco : FnScope c.N ps (defScope st))
    (mgf : mg name = some (.ref f)) (lk : K.lookup f = some ⟨oc, od, .func (PySem.W.fnOf name name (defArgs st) (defBody st) (defScope st) .none kV doc pm an cdv ct), osl⟩) (code : PySem.W.codeIn K cdv name = true) (keep : PySem.W.keepIn K (.ref f) = true)
    (bind : ∀ us : List Value, us.length = ps.length → bindArgs (PySem.W.fnOf name name (defArgs st) (defBody st) (defScope st) .none kV doc pm an cdv ct) ⟨us, []⟩ = pure (ps.zip us)) :
    FnG P w K mg base (k + 1) name (runF ps.length c.N.length b) o := by
  obtain ⟨r, look⟩ := Option.isSome_iff_exists.mp look
  subst tie
  exact ⟨k + 1, f, _, ps, Nat.le_refl _, fk_of lk code sco m0 look, mgf, keep, .all bind⟩
/-- .. where what is not flat is not answered for -/
theorem FnG.flat {x : Str} {m : List D → R D} (h : FnG P w K mg base k x m o) : FnG P w K mg base k x (gFlat o m) o := by
  obtain ⟨j, f, fd, ps, hj, fk, h1, h2, h3⟩ := h
  have imp : ∀ vs H Q, prom K (gFlat o m) o vs H Q → prom K m o vs H Q := fun vs H Q ⟨F, ds, FH, rs, q⟩ => by
    refine ⟨F, ds, FH, rs, ?_⟩
    unfold gFlat at q
    rw [Ans.bind_iff] at q
    exact q.imp fun d q => by
      split at q
      · exact q
      · exact q.elim
  exact ⟨j, f, fd, ps, hj, ⟨fun vs H Q q => fk.many vs H Q (imp vs H Q q), fun A outer s H args us vs Q r g e b v q => fk.does A outer s H args us vs Q r g e b v (imp vs H Q q)⟩, h1, h2, h3⟩
/-- a constant of the module -/
theorem con_int {x : Str} {i : Int} {t : Tok} (h : mg x = some (.int i t)) : ConG K mg x (.int i) := ⟨.int i, _, h, ⟨t, rfl⟩, fun _ => .int i⟩
theorem con_str {x y : Str} {t : Tok} (h : mg x = some (.str y t)) (z : decide (y.length ≤ 1000) = true) (z2 : PyData.strOk y = true) : ConG K mg x (.str y) := ⟨.str y, _, h, ⟨t, rfl⟩, fun _ => .str ⟨by have := of_decide_eq_true z; omega, z2⟩⟩
end
end Dv
/-! Pl0: plain laws of the evaluator: texts of data, sorting, equality, loops. -/
namespace Dv
open PySem PySem.Spec PyProof.Rows L2

/-! ### texts of data in which no text lies -/
theorem strOk_lit (s : String) : PyData.strOk (Str.ofString s) = true := by
  unfold PyData.strOk
  rw [Str.ofString_eq_toList, ← Array.all_toList]
  refine List.all_eq_true.mpr fun c hc => ?_
  obtain ⟨ch, _, rfl⟩ := List.mem_map.mp (by simpa using hc)
  exact decide_eq_true (by have h1 := ch.valid; have e : ch.toNat = ch.val.toNat := rfl; unfold UInt32.isValidChar Nat.isValidChar at h1; omega)
theorem strOk_from : ∀ (ts : List Str) (k : Nat) (acc : Str), PyData.strOk acc = true → (∀ t ∈ ts, PyData.strOk t = true) → PyData.strOk (textFrom k acc ts) = true
  | [], k, acc, h, _ => h
  | t :: r, k, acc, h, ht => strOk_from r (k + 1) _ (strOk_app (strOk_app h (strOk_lit _)) (ht t (List.mem_cons_self ..))) fun x hx => ht x (List.mem_cons_of_mem _ hx)
theorem strOk_join (sep : Str) (hs : PyData.strOk sep = true) : ∀ ts : List Str, (∀ t ∈ ts, PyData.strOk t = true) → PyData.strOk (Str.join sep ts) = true
  | [], _ => (by decide +kernel : PyData.strOk Str.empty = true)
  | [t], h => h t (by simp)
  | t :: u :: r, h => strOk_app (strOk_app (h t (by simp)) hs) (strOk_join sep hs (u :: r) fun x hx => h x (List.mem_cons_of_mem _ hx))
mutual
/-- small numbers, truth values, None, lists and tuples of such -/
def sml : D → Bool
  | .none => true
  | .bool _ => true
  | .int i => decide (i.natAbs < 10 ^ 12)
  | .str _ => false
  | .list xs => smls xs
  | .tuple xs => smls xs
  | .dict _ => false
def smls : List D → Bool
  | [] => true
  | x :: xs => sml x && smls xs
end
theorem log_small {i : Int} (h : i.natAbs < 10 ^ 12) : i.natAbs.log2 < 1920 := by
  by_cases z : i.natAbs = 0
  · rw [z]; decide
  · have h1 : i.natAbs < 2 ^ 1920 := Nat.lt_of_lt_of_le (Nat.lt_trans h (by decide : 10 ^ 12 < 2 ^ 40)) (Nat.pow_le_pow_right (by decide) (by decide))
    exact (Nat.log2_lt z).mpr h1
mutual
theorem sml_shown : ∀ d : D, sml d = true → d.showable = true ∧ d.leavesShort 13 = true ∧ PyData.strOk d.shown = true
  | .none, _ => ⟨rfl, rfl, strOk_lit _⟩
  | .bool b, _ => ⟨rfl, rfl, by cases b <;> exact strOk_lit _⟩
  | .int i, h => by
    have h := of_decide_eq_true h
    have e := int_text_length_le10 (k := 12) (by decide) h
    refine ⟨decide_eq_true (log_small h), decide_eq_true ?_, strOk_lit _⟩
    show (Str.ofString (toString i)).length ≤ 13
    rw [PySem.ofString_length]
    exact e
  | .str _, h => by cases h
  | .list xs, h => by
    obtain ⟨h1, h2, h3⟩ := smls_shown xs h
    exact ⟨h1, h2, strOk_app (strOk_from _ _ _ (strOk_lit _) h3) (strOk_lit _)⟩
  | .tuple xs, h => by
    obtain ⟨h1, h2, h3⟩ := smls_shown xs h
    refine ⟨h1, h2, strOk_app (strOk_app (strOk_lit _) (strOk_join _ (strOk_lit _) _ h3)) (strOk_lit _)⟩
  | .dict _, h => by cases h
theorem smls_shown : ∀ xs : List D, smls xs = true → PyData.showableAll xs = true ∧ PyData.leavesShortAll 13 xs = true ∧ ∀ t ∈ PyData.shownAll xs, PyData.strOk t = true
  | [], _ => ⟨rfl, rfl, fun t h => by cases h⟩
  | x :: xs, h => by
    have h : (sml x && smls xs) = true := h
    obtain ⟨h1, h2⟩ := and2 h
    obtain ⟨a1, a2, a3⟩ := sml_shown x h1
    obtain ⟨b1, b2, b3⟩ := smls_shown xs h2
    refine ⟨?_, ?_, fun t ht => ?_⟩
    · show (x.showable && PyData.showableAll xs) = true
      rw [a1, b1]; rfl
    · show (x.leavesShort 13 && PyData.leavesShortAll 13 xs) = true
      rw [a2, b2]; rfl
    · rcases List.mem_cons.mp ht with rfl | ht
      · exact a3
      · exact b3 t ht
end
theorem repr_sml {d : D} (h : sml d = true) (h2 : fl deep d = true) (h3 : d.bulk ≤ 600000) : reprD d = .ok (.str d.shown) := by
  obtain ⟨a1, a2, a3⟩ := sml_shown d h
  have h4 := PyData.shown_le_bulk 13 (by decide) d a2
  unfold reprD reprOk
  rw [h2, a1, a3, decide_eq_true (show d.shown.length ≤ 10000000 by omega)]
  rfl
/-! ### lists of numbers -/
abbrev il (ns : List Int) : D := .list (ns.map .int)
theorem fl_ints (n : Nat) (ns : List Int) : fl (n + 1) (il ns) = true := List.all_eq_true.mpr fun x hx => by
  obtain ⟨i, _, rfl⟩ := List.mem_map.mp hx
  cases n <;> rfl
theorem fl_all_ints (n : Nat) (ns : List Int) : (ns.map PyData.int).all (fl n) = true := List.all_eq_true.mpr fun x hx => by
  obtain ⟨i, _, rfl⟩ := List.mem_map.mp hx
  cases n <;> rfl
theorem sml_ints : ∀ {ns : List Int}, (∀ i ∈ ns, i.natAbs < 10 ^ 12) → smls (ns.map .int) = true
  | [], _ => rfl
  | n :: ns, h => by
    show (decide (n.natAbs < 10 ^ 12) && smls (ns.map .int)) = true
    rw [decide_eq_true (h n (by simp)), sml_ints fun i hi => h i (List.mem_cons_of_mem _ hi)]
    rfl
theorem bulk_ints : ∀ ns : List Int, PyData.bulkAll (ns.map .int) = ns.length
  | [] => rfl
  | n :: ns => by
    show 0 + 1 + PyData.bulkAll (ns.map .int) = ns.length + 1
    rw [bulk_ints ns]
    omega
theorem repr_ints {ns : List Int} (h : ∀ i ∈ ns, i.natAbs < 10 ^ 12) (h2 : ns.length ≤ 600000) : reprD (il ns) = .ok (.str (il ns).shown) :=
  repr_sml (sml_ints h) (fl_ints _ ns) (by show PyData.bulkAll _ ≤ _; rw [bulk_ints]; exact h2)
theorem eqv_ints : ∀ (a b : List Int), PyData.eqvAll (a.map .int) (b.map .int) = decide (a = b)
  | [], [] => rfl
  | [], _ :: _ => rfl
  | _ :: _, [] => rfl
  | x :: xs, y :: ys => by
    show ((x == y) && PyData.eqvAll (xs.map .int) (ys.map .int)) = _
    rw [eqv_ints xs ys]
    by_cases h : x = y <;> by_cases h2 : xs = ys <;> simp [h, h2]
theorem eq_ints (a b : List Int) : eqD (il a) (il b) = .ok (decide (a = b)) := by
  unfold eqD
  rw [show fl deep (il a) = true from fl_ints _ a, show fl deep (il b) = true from fl_ints _ b]
  show R.ok (PyData.eqvAll _ _) = _
  rw [eqv_ints]
theorem eq_int (a b : Int) : eqD (.int a) (.int b) = .ok (decide (a = b)) := by
  show R.ok (a == b) = _
  by_cases h : a = b <;> simp [h]
theorem eq_str (a b : Str) : eqD (.str a) (.str b) = .ok (a == b) := rfl
theorem intsOf_map : ∀ ns : List Int, intsOf (ns.map .int) = some ns
  | [] => rfl
  | n :: ns => by
    show (intsOf (ns.map .int)).map (n :: ·) = _
    rw [intsOf_map ns]
    rfl
def isort (ns : List Int) : List Int := ns.mergeSort fun a b => decide (a ≤ b)
theorem sort_ints {ns : List Int} (h : ns.length ≤ lim) : sortedD (il ns) = .ok (il (isort ns)) := by
  have h1 : sortOk (ns.map .int) = true := by
    unfold sortOk
    rw [List.length_map, decide_eq_true h, fl_all_ints]
    have h2 : (ns.map PyData.int).all notTup = true := List.all_eq_true.mpr fun x hx => by
      obtain ⟨i, _, rfl⟩ := List.mem_map.mp hx
      rfl
    have h3 : ((ns.map PyData.int).all fun x => (ns.map PyData.int).all fun y => PySem.W.alike x y) = true := List.all_eq_true.mpr fun x hx => List.all_eq_true.mpr fun y hy => by
      obtain ⟨i, _, rfl⟩ := List.mem_map.mp hx
      obtain ⟨j, _, rfl⟩ := List.mem_map.mp hy
      exact alike_int i j
    rw [h2, h3, Bool.or_true]
    rfl
  show (if sortOk (ns.map .int) = true then Dv.R.ok (PyData.list (sortL (ns.map .int))) else .bad) = _
  rw [if_pos h1]
  unfold sortL isort il
  rw [List.map_mergeSort (r := fun a b => decide (a ≤ b)) (s := PySem.W.dataLe false id) (f := PyData.int)]
  intro a _ b _
  have := PySem.W.dataLe_int (β := Int) (fun x => x)
  exact (congrFun (congrFun this a) b).symm
theorem isort_perm (ns : List Int) : (isort ns).Perm ns := List.mergeSort_perm ns _
theorem isort_sorted (ns : List Int) : (isort ns).Pairwise (· ≤ ·) := by
  have := List.pairwise_mergeSort (le := fun a b : Int => decide (a ≤ b)) (fun a b c h1 h2 => by simp at *; omega) (fun a b => by simp; omega) ns
  exact this.imp fun h => of_decide_eq_true h
theorem sorted_eq {a b : List Int} (p : a.Perm b) (ha : a.Pairwise (· ≤ ·)) (hb : b.Pairwise (· ≤ ·)) : a = b :=
  p.eq_of_pairwise (fun x y _ _ h1 h2 => Int.le_antisymm h1 h2) ha hb
theorem isort_id {ns : List Int} (h : ns.Pairwise (· ≤ ·)) : isort ns = ns := sorted_eq (isort_perm ns) (isort_sorted ns) h
end Dv
/-! Pl1: what an outcome comes to; loops; comprehensions. -/
namespace Dv
open PySem PySem.Spec PyProof.Rows L2

/-- an outcome: going on | broken off | turned | handed back -/
def W0 (o : Out) (nx bk ct : Env → Prop) (rt : D → Prop) : Prop := match o with
  | .nx δ => nx δ
  | .bk δ => bk δ
  | .ct δ => ct δ
  | .rt d => rt d
  | .err _ _ => False
  | .bad => False
/-- the same, shut -/
structure W4 (o : Out) (nx bk ct : Env → Prop) (rt : D → Prop) : Prop where
  go : W0 o nx bk ct rt
def noB : Env → Prop := fun _ => False
variable {δ : Env} {nx bk ct nx' bk' ct' : Env → Prop} {rt rt' : D → Prop} {s : DS} {ss : List DS} {d : D} {o : Out}
theorem W4.mono (h : W4 o nx bk ct rt) (h1 : ∀ δ, nx δ → nx' δ) (h2 : ∀ δ, bk δ → bk' δ) (h3 : ∀ δ, ct δ → ct' δ) (h4 : ∀ d, rt d → rt' d) : W4 o nx' bk' ct' rt' := by
  have h := h.go
  cases o with
  | nx δ => exact ⟨h1 δ h⟩
  | bk δ => exact ⟨h2 δ h⟩
  | ct δ => exact ⟨h3 δ h⟩
  | rt d => exact ⟨h4 d h⟩
  | err _ _ => exact ⟨h⟩
  | bad => exact ⟨h⟩
theorem W4.and_then {k : DS} (h : W4 o (fun δ => W4 (k δ) nx bk ct rt) bk ct rt) : W4 (andThen o k) nx bk ct rt := by
  have h := h.go
  cases o with
  | nx δ => exact h
  | bk δ => exact ⟨h⟩
  | ct δ => exact ⟨h⟩
  | rt d => exact ⟨h⟩
  | err _ _ => exact ⟨h⟩
  | bad => exact ⟨h⟩
theorem W4.of_eq {δ' : Env} (h : o = .nx δ') (q : nx δ') : W4 o nx bk ct rt := by subst h; exact ⟨q⟩
theorem w_seq2 {t : DS} {ts : List DS} (h : W4 (s δ) (fun δ => W4 (sSeq (t :: ts) δ) nx bk ct rt) bk ct rt) : W4 (sSeq (s :: t :: ts) δ) nx bk ct rt := W4.and_then h
theorem w_one (h : W4 (s δ) nx bk ct rt) : W4 (sSeq [s] δ) nx bk ct rt := h
theorem w_nil (h : nx δ) : W4 (sSeq [] δ) nx bk ct rt := ⟨h⟩
theorem w_asg {g : TF} {e : DE} {δ' : Env} (h : e δ = .ok d) (h2 : g d δ = .ok δ') (q : nx δ') : W4 (sAsg g e δ) nx bk ct rt := by
  unfold sAsg; rw [h]; show W4 (ofR (g d δ) .nx) nx bk ct rt; rw [h2]; exact ⟨q⟩
theorem w_set {i : Nat} {e : DE} (h : e δ = .ok d) (q : nx (δ.set i (some d))) : W4 (sAsg (gNm i) e δ) nx bk ct rt := w_asg h rfl q
theorem w_drop {e : DE} (h : e δ = .ok d) (q : nx δ) : W4 (sDrop e δ) nx bk ct rt := by unfold sDrop; rw [h]; exact ⟨q⟩
theorem w_ret {e : DE} (h : e δ = .ok d) (q : rt d) : W4 (sRet e δ) nx bk ct rt := by unfold sRet; rw [h]; exact ⟨q⟩
theorem w_if {t : DT} {x y : DS} {b : Bool} (h : t δ = .ok b) (h1 : b = true → W4 (x δ) nx bk ct rt) (h2 : b = false → W4 (y δ) nx bk ct rt) : W4 (sIf t x y δ) nx bk ct rt := by
  unfold sIf; rw [h]
  cases b with
  | true => exact h1 rfl
  | false => exact h2 rfl
theorem w_if_t {t : DT} {x y : DS} (h : t δ = .ok true) (h1 : W4 (x δ) nx bk ct rt) : W4 (sIf t x y δ) nx bk ct rt := by unfold sIf; rw [h]; exact h1
theorem w_if_f {t : DT} {x y : DS} (h : t δ = .ok false) (h1 : W4 (y δ) nx bk ct rt) : W4 (sIf t x y δ) nx bk ct rt := by unfold sIf; rw [h]; exact h1
theorem w_app {i : Nat} {e : DE} {xs : List D} (h : e δ = .ok d) (h2 : δ[i]? = some (some (.list xs))) (h3 : xs.length < lim) (q : nx (δ.set i (some (.list (xs ++ [d]))))) : W4 (sApp i e δ) nx bk ct rt := by
  unfold sApp; rw [h]; simp only [ofR_ok]; rw [h2]; dsimp only; rw [if_pos h3]; exact ⟨q⟩
theorem w_forGo {g : TF} {body : DS} : ∀ (ds : List D) (I : Nat → Env → Prop) (i : Nat) (δ : Env), I i δ → (∀ (j : Nat) (d : D) (δ : Env), ds[j]? = some d → I (i + j) δ → ∃ δ1, g d δ = .ok δ1 ∧ W4 (body δ1) (I (i + j + 1)) nx (I (i + j + 1)) rt) →
    (∀ δ, I (i + ds.length) δ → nx δ) → W4 (forGo g body ds δ) nx bk ct rt
  | [], I, i, δ, h, _, hn => ⟨hn δ h⟩
  | d :: ds, I, i, δ, h, hs, hn => by
    obtain ⟨δ1, h1, h2⟩ := hs 0 d δ rfl h
    have again : ∀ δ', I (i + 1) δ' → W4 (forGo g body ds δ') nx bk ct rt := fun δ' h' => w_forGo ds I (i + 1) δ' h' (fun j d δ hd hI => by
      obtain ⟨δ1, h1, h2⟩ := hs (j + 1) d δ (by simpa using hd) (by rw [show i + (j + 1) = i + 1 + j by omega]; exact hI)
      refine ⟨δ1, h1, ?_⟩
      rw [show i + 1 + j + 1 = i + (j + 1) + 1 by omega]
      exact h2) fun δ hI => hn δ (by rw [List.length_cons, show i + (ds.length + 1) = i + 1 + ds.length by omega]; exact hI)
    show W4 (ofR (g d δ) fun δ1 => _) nx bk ct rt
    rw [h1]
    show W4 (match body δ1 with
      | .nx δ' => forGo g body ds δ'
      | .ct δ' => forGo g body ds δ'
      | .bk δ' => .nx δ'
      | o => o) nx bk ct rt
    revert h2
    cases body δ1 with
    | nx δ' => exact fun h2 => again δ' h2.go
    | ct δ' => exact fun h2 => again δ' h2.go
    | bk δ' => exact fun h2 => ⟨h2.go⟩
    | rt d => exact fun h2 => ⟨h2.go⟩
    | err _ _ => exact fun h2 => ⟨h2.go⟩
    | bad => exact fun h2 => ⟨h2.go⟩
/-- a for loop: I holds at the turns -/
theorem w_for {g : TF} {it : DI} {body : DS} {ds : List D} (I : Nat → Env → Prop) (h : it δ = .ok ds) (h0 : I 0 δ) (hs : ∀ (j : Nat) (d : D) (δ : Env), ds[j]? = some d → I j δ → ∃ δ1, g d δ = .ok δ1 ∧ W4 (body δ1) (I (j + 1)) nx (I (j + 1)) rt)
    (hn : ∀ δ, I ds.length δ → nx δ) : W4 (sFor g it body δ) nx bk ct rt := by
  unfold sFor; rw [h]
  exact w_forGo ds I 0 δ h0 (fun j d δ hd hI => by rw [Nat.zero_add] at hI ⊢; exact hs j d δ hd hI) fun δ hI => hn δ (by rw [Nat.zero_add] at hI; exact hI)
theorem w_any {t : DS} {ts : List DS} {N : Env → Prop} (h : W4 (s δ) N noB noB (fun _ => False)) (q : ∀ δ', N δ' → W4 (sSeq (t :: ts) δ') nx bk ct rt) : W4 (sSeq (s :: t :: ts) δ) nx bk ct rt :=
  w_seq2 (h.mono (fun δ hn => q δ hn) (fun _ z => z.elim) (fun _ z => z.elim) fun _ z => z.elim)
theorem w_to {t : DS} {ts : List DS} {δ' : Env} (h : W4 (s δ) (fun x => x = δ') noB noB (fun _ => False)) (q : W4 (sSeq (t :: ts) δ') nx bk ct rt) : W4 (sSeq (s :: t :: ts) δ) nx bk ct rt :=
  w_any h fun _ z => by rw [z]; exact q
theorem run_of {np m : Nat} {body : DS} {as : List D} (hl : as.length = np) (h : W4 (body (as.map some ++ List.replicate (m - np) none)) (fun _ => rt .none) noB noB rt) : ∃ d, runF np m body as = .ok d ∧ rt d := by
  unfold runF
  rw [if_pos hl]
  revert h
  cases body (as.map some ++ List.replicate (m - np) none) with
  | nx δ => exact fun h => ⟨_, rfl, h.go⟩
  | rt d => exact fun h => ⟨d, rfl, h.go⟩
  | bk δ => exact fun h => h.go.elim
  | ct δ => exact fun h => h.go.elim
  | err _ _ => exact fun h => h.go.elim
  | bad => exact fun h => h.go.elim
theorem run_flat {np m : Nat} {o : Bool} {body : DS} {as : List D} (hl : as.length = np) (h : W4 (body (as.map some ++ List.replicate (m - np) none)) (fun _ => flatD o .none = true ∧ rt .none) noB noB (fun d => flatD o d = true ∧ rt d)) :
    ∃ d, gFlat o (runF np m body) as = .ok d ∧ rt d := by
  obtain ⟨d, h1, h2, h3⟩ := run_of (rt := fun d => flatD o d = true ∧ rt d) hl h
  refine ⟨d, ?_, h3⟩
  unfold gFlat
  rw [h1]
  show (if flatD o d = true then Dv.R.ok d else .bad) = _
  rw [if_pos h2]
theorem nols_ints : ∀ ns : List Int, nols (ns.map .int) = true
  | [] => rfl
  | n :: ns => nols_ints ns
theorem flat_ints (ns : List Int) : flatD true (il ns) = true := by show (true && nols _) = true; rw [nols_ints]; rfl

/-! ### comprehensions whose parts answer -/
theorem lcGo_pure {g : TF} {t : DT} {e : DE} {δ : Env} (gs : D → Env) (p : D → Bool) (h : D → D) : ∀ (ds : List D), (∀ d ∈ ds, g d δ = .ok (gs d) ∧ t (gs d) = .ok (p d) ∧ (p d = true → e (gs d) = .ok (h d))) → lcGo g t e δ ds = .ok ((ds.filter p).map h)
  | [], _ => rfl
  | d :: ds, hd => by
    obtain ⟨h1, h2, h3⟩ := hd d (List.mem_cons_self ..)
    have ih := lcGo_pure gs p h ds fun x hx => hd x (List.mem_cons_of_mem _ hx)
    unfold lcGo
    rw [h1, R.bind_ok, h2, R.bind_ok]
    cases q : p d with
    | true =>
      rw [if_pos rfl, h3 q, R.bind_ok, ih, List.filter_cons_of_pos q]
      rfl
    | false =>
      rw [if_neg (by simp), ih, List.filter_cons_of_neg (by rw [q]; simp)]
theorem lc_pure {own : List Nat} {g : TF} {it : DI} {t : DT} {e : DE} {δ : Env} {ds : List D} (gs : D → Env) (p : D → Bool) (h : D → D) (hi : it δ = .ok ds) (hl : ds.length ≤ lim)
    (hd : ∀ d ∈ ds, g d (wipeE δ own) = .ok (gs d) ∧ t (gs d) = .ok (p d) ∧ (p d = true → e (gs d) = .ok (h d))) : eLc own g it t e δ = .ok (.list ((ds.filter p).map h)) := by
  unfold eLc
  rw [hi, R.bind_ok, lcGo_pure gs p h ds hd, R.bind_ok, if_pos]
  rw [List.length_map]
  exact Nat.le_trans (List.length_filter_le _ _) hl
/-- over numbers, one name set -/
theorem lc_int {own : List Nat} {i : Nat} {it : DI} {t : DT} {e : DE} {δ : Env} {ns : List Int} (p : Int → Bool) (h : Int → D) (hi : it δ = .ok (ns.map .int)) (hl : ns.length ≤ lim)
    (hd : ∀ n ∈ ns, t ((wipeE δ own).set i (some (.int n))) = .ok (p n) ∧ (p n = true → e ((wipeE δ own).set i (some (.int n))) = .ok (h n))) : eLc own (gNm i) it t e δ = .ok (.list ((ns.filter p).map h)) := by
  have := lc_pure (own := own) (g := gNm i) (it := it) (t := t) (e := e) (δ := δ) (ds := ns.map .int) (fun d => (wipeE δ own).set i (some d)) (fun d => match d with | .int n => p n | _ => false) (fun d => match d with | .int n => h n | d => d) hi (by rw [List.length_map]; exact hl)
    (fun d hd' => by
      obtain ⟨n, hn, rfl⟩ := List.mem_map.mp hd'
      exact ⟨rfl, (hd n hn).1, (hd n hn).2⟩)
  rw [this, List.filter_map, List.map_map]
  rfl
theorem up_ints (lo : Int) (n : Nat) : intUp lo n = ((List.range n).map fun (k : Nat) => lo + (k : Int)).map PyData.int := by
  unfold intUp; rw [List.map_map]; rfl
/-- lo, .., hi - 1 -/
def zr (lo hi : Int) : List Int := (List.range (hi - lo).toNat).map fun (k : Nat) => lo + (k : Int)
theorem mem_zr {lo hi x : Int} : x ∈ zr lo hi ↔ lo ≤ x ∧ x < hi := by
  unfold zr
  rw [List.mem_map]
  constructor
  · rintro ⟨k, hk, rfl⟩
    have := List.mem_range.mp hk
    omega
  · intro ⟨h1, h2⟩
    exact ⟨(x - lo).toNat, List.mem_range.mpr (by omega), by omega⟩
theorem len_zr (lo hi : Int) : (zr lo hi).length = (hi - lo).toNat := by unfold zr; rw [List.length_map, List.length_range]
theorem zr_sorted (lo hi : Int) : (zr lo hi).Pairwise (· < ·) := by
  unfold zr
  rw [List.pairwise_map]
  exact List.pairwise_lt_range.imp fun h => by omega
theorem zr_get {lo hi : Int} {j : Nat} (h : j < (hi - lo).toNat) : (zr lo hi)[j]? = some (lo + j) := by
  unfold zr
  rw [List.getElem?_map, List.getElem?_range h]
  rfl
theorem rng2_is {a b : DE} {δ : Env} {i j : Int} (h1 : a δ = .ok (.int i)) (h2 : b δ = .ok (.int j)) (b1 : big i = true) (b2 : big j = true) : iRng2 a b δ = .ok ((zr i j).map .int) := by
  unfold iRng2
  rw [h1, R.bind_ok, h2, R.bind_ok]
  show (if (big i && big j) = true then Dv.R.ok (intUp i (j - i).toNat) else .bad) = _
  rw [b1, b2]
  show Dv.R.ok (intUp i (j - i).toNat) = _
  rw [up_ints]
  rfl
theorem rng1_is {a : DE} {δ : Env} {j : Int} (h1 : a δ = .ok (.int j)) (b1 : big j = true) : iRng1 a δ = .ok ((zr 0 j).map .int) := by
  unfold iRng1
  rw [h1, R.bind_ok]
  show (if big j = true then Dv.R.ok (intUp 0 j.toNat) else .bad) = _
  rw [b1]
  show Dv.R.ok (intUp 0 j.toNat) = _
  rw [up_ints]
  unfold zr
  rw [Int.sub_zero]
/-! ### what the parts answer, for simp -/
theorem addI (i j : Int) : addD (.int i) (.int j) = .ok (.int (i + j)) := rfl
theorem subI (i j : Int) : subD (.int i) (.int j) = .ok (.int (i - j)) := rfl
theorem negI (i : Int) : negD (.int i) = .ok (.int (-i)) := rfl
theorem ltI (i j : Int) : ltD (.int i) (.int j) = .ok (decide (i < j)) := rfl
theorem leI (i j : Int) : leD (.int i) (.int j) = .ok (decide (i ≤ j)) := rfl
theorem rnotI (b : Bool) : rnot (.ok b) = .ok (!b) := rfl
theorem andB (x y : Bool) : (if x = true then Dv.R.ok y else .ok false) = .ok (x && y) := by cases x <;> rfl
theorem orB (x y : Bool) : (if x = true then Dv.R.ok true else .ok y) = .ok (x || y) := by cases x <;> rfl
theorem bAdd : binD .Add = addD := rfl
theorem bSub : binD .Sub = subD := rfl
theorem bMul : binD .Mult = mulD := rfl
theorem bDiv : binD .FloorDiv = divD := rfl
theorem bMod : binD .Mod = modD := rfl
theorem bPow : binD .Pow = powD := rfl
theorem cEq (x y : D) : cmpD .Eq x y = eqD x y := rfl
theorem cNe (x y : D) : cmpD .NotEq x y = rnot (eqD x y) := rfl
theorem cLt (x y : D) : cmpD .Lt x y = ltD x y := rfl
theorem cLe (x y : D) : cmpD .LtE x y = leD x y := rfl
theorem cGt (x y : D) : cmpD .Gt x y = ltD y x := rfl
theorem cGe (x y : D) : cmpD .GtE x y = leD y x := rfl
theorem cIs (x y : D) : cmpD .Is x y = isD x y := rfl
theorem cIsn (x y : D) : cmpD .IsNot x y = rnot (isD x y) := rfl
theorem cIn (x y : D) : cmpD .In x y = inD x y := rfl
theorem cNin (x y : D) : cmpD .NotIn x y = rnot (inD x y) := rfl
theorem eV_is {i : Nat} {δ : Env} {d : D} (h : δ[i]? = some (some d)) : eV i δ = .ok d := by unfold eV; rw [h]
theorem eC_is (d : D) (δ : Env) : eC d δ = .ok d := rfl
theorem eBin_is (op : Operator) (a b : DE) (δ : Env) : eBin op a b δ = (a δ).bind fun x => (b δ).bind fun y => binD op x y := rfl
theorem eIx_is (a b : DE) (δ : Env) : eIx a b δ = (a δ).bind fun x => (b δ).bind fun y => idxD x y := rfl
theorem eCall_is (m : List D → R D) (as : List DE) (δ : Env) : eCall m as δ = (evs as δ).bind m := rfl
theorem eTup_is (as : List DE) (δ : Env) : eTup as δ = (evs as δ).bind fun xs => .ok (.tuple xs) := rfl
theorem eLst_is (as : List DE) (δ : Env) : eLst as δ = (evs as δ).bind fun xs => .ok (.list xs) := rfl
theorem evs_nil (δ : Env) : evs [] δ = .ok [] := rfl
theorem evs_cons (a : DE) (as : List DE) (δ : Env) : evs (a :: as) δ = (a δ).bind fun x => (evs as δ).bind fun xs => .ok (x :: xs) := rfl
theorem eIf_is (t : DT) (a b : DE) (δ : Env) : eIf t a b δ = (t δ).bind fun x => if x then a δ else b δ := rfl
theorem eT_is (t : DT) (δ : Env) : eT t δ = (t δ).bind fun b => .ok (.bool b) := rfl
theorem tTru_is (a : DE) (δ : Env) : tTru a δ = (a δ).bind truD := rfl
theorem tNot_is (t : DT) (δ : Env) : tNot t δ = rnot (t δ) := rfl
theorem tCmp1_is (a b : DE) (op : CmpOp) (δ : Env) : tCmp a [(op, b)] δ = (a δ).bind fun x => (b δ).bind fun y => cmpD op x y := rfl
theorem tCmp2_is (a b c : DE) (op op2 : CmpOp) (δ : Env) : tCmp a [(op, b), (op2, c)] δ = (a δ).bind fun x => (b δ).bind fun y => (cmpD op x y).bind fun t => if t then (c δ).bind fun z => cmpD op2 y z else .ok false := rfl
theorem tAnds2_is (a b : DT) (δ : Env) : tAnds [a, b] δ = (a δ).bind fun x => if x then b δ else .ok false := rfl
theorem tOrs2_is (a b : DT) (δ : Env) : tOrs [a, b] δ = (a δ).bind fun x => if x then .ok true else b δ := rfl
theorem tOrs3_is (a b c : DT) (δ : Env) : tOrs [a, b, c] δ = (a δ).bind fun x => if x then .ok true else tOrs [b, c] δ := rfl
theorem tOrs4_is (a b c d : DT) (δ : Env) : tOrs [a, b, c, d] δ = (a δ).bind fun x => if x then .ok true else tOrs [b, c, d] δ := rfl
theorem eV0 (x : D) (l : Env) : eV 0 (some x :: l) = .ok x := rfl
theorem eVs (n : Nat) (x : Option D) (l : Env) : eV (n + 1) (x :: l) = eV n l := by unfold eV; rw [List.getElem?_cons_succ]
theorem B_len (xs : List D) : callB "len" [.list xs] = .ok (.int xs.length) := rfl
theorem B_abs (i : Int) : callB "abs" [.int i] = .ok (.int (if i < 0 then -i else i)) := rfl
theorem B_int (i : Int) : callB "int" [.int i] = .ok (.int i) := rfl
theorem B_min (i j : Int) : callB "min" [.int i, .int j] = .ok (.int (if j < i then j else i)) := rfl
theorem B_max (i j : Int) : callB "max" [.int i, .int j] = .ok (.int (if j > i then j else i)) := rfl
theorem B_sorted (d : D) : callB "sorted" [d] = sortedD d := rfl
theorem B_repr (d : D) : callB "repr" [d] = reprD d := rfl
end Dv
namespace Q
open PySem PySem.Spec PyProof.Rows L2 Dv

def txt (i : Nat) : Stmt := PySem.Challenge.pw_headsandpages_k32_whole_moves_of_chapter.main.body.getD i (.Pass ⟨0, 0, 0, 0⟩)
def c_u_law_draws : Cfg := ⟨["script", "draws", "k", "rest", "turn", "mixed"], [], ["range", "min", "abs", "len", "int"]⟩
def b_u_law_draws : DS :=
  (sSeq [sAsg (gNm 1) (eLst []),
    sFor (gNm 2) (iRng1 (eCall (callB "min") [eC (.int 63), eCall (callB "len") [eV 0]]))
      (sSeq [sAsg (gNm 3) (eCall (callB "abs") [eIx (eV 0) (eV 2)]),
        sIf (tCmp (eV 3) [(.GtE, eBin .Pow (eC (.int 10)) (eC (.int 18)))])
          (sSeq [sFor (gNm 4) (iRng1 (eC (.int 60)))
              (sSeq [sIf (tCmp (eV 3) [(.Gt, eC (.int 0))])
                  (sSeq [sApp 1 (eBin .Mod (eCall (callB "int") [eV 3]) (eC (.int 65536))),
                    sAsg (gNm 3) (eBin .FloorDiv (eV 3) (eC (.int 65536)))])
                  (sSeq [])])])
          (sSeq [sAsg (gNm 5) (eBin .Mod (eCall (callB "int") [eBin .Add (eBin .Mult (eV 3) (eC (.int 48271))) (eBin .Mult (eBin .Add (eV 2) (eC (.int 1))) (eC (.int 69621)))]) (eC (.int 2147483647))),
            sAsg (gNm 5) (eBin .Mod (eCall (callB "int") [eBin .Add (eBin .Add (eBin .Mult (eV 5) (eC (.int 16807))) (eBin .Mult (eC (.int 11)) (eV 2))) (eC (.int 5))]) (eC (.int 2147483629))),
            sApp 1 (eBin .Mod (eCall (callB "int") [eV 5]) (eC (.int 65536))),
            sApp 1 (eBin .Mod (eCall (callB "int") [eBin .FloorDiv (eV 5) (eC (.int 65536))]) (eC (.int 32768)))])]),
    sRet (eV 1)])
def m_u_law_draws : List D → R D := gFlat true (runF 1 6 b_u_law_draws)
theorem t_u_law_draws : dB c_u_law_draws (defScope (txt 22)) 60 (defBody (txt 22)) = b_u_law_draws := by kernel_rfl
theorem k_u_law_draws : (kB c_u_law_draws (kS c_u_law_draws true (defScope (txt 22)) 60) (clr (top c_u_law_draws) (List.range 1)) (defBody (txt 22))).isSome = true := by kernel_rfl
theorem s_u_law_draws : FnScope c_u_law_draws.N ["script"] (defScope (txt 22)) := C8.fnScope_by (by decide +kernel)
def c_u_law_order : Cfg := ⟨["pages", "move", "part", "rest", "place", "a", "b", "c", "page"], [], ["list", "len", "range"]⟩
def b_u_law_order : DS :=
  (sSeq [sAsg (gTp [gNm 5, gNm 6, gNm 7]) (eV 1),
    sAsg (gNm 2) (eLstI (iRng2 (eV 5) (eBin .Add (eV 6) (eC (.int 1))))),
    sAsg (gNm 3) (eLc [8] (gNm 8) (iRng2 (eC (.int 1)) (eBin .Add (eV 0) (eC (.int 1)))) (tOrs [tCmp (eV 8) [(.Lt, eV 5)], tCmp (eV 8) [(.Gt, eV 6)]]) (eV 8)),
    sAsg (gNm 4) (eCall (callB "len") [eLc [8] (gNm 8) (iExp (eV 3)) (tCmp (eV 8) [(.LtE, eV 7)]) (eV 8)]),
    sRet (eBin .Add (eBin .Add (eSl (eV 3) none (some (eV 4))) (eV 2)) (eSl (eV 3) (some (eV 4)) none))])
def m_u_law_order : List D → R D := gFlat true (runF 2 9 b_u_law_order)
theorem t_u_law_order : dB c_u_law_order (defScope (txt 24)) 60 (defBody (txt 24)) = b_u_law_order := by kernel_rfl
theorem k_u_law_order : (kB c_u_law_order (kS c_u_law_order true (defScope (txt 24)) 60) (clr (top c_u_law_order) (List.range 2)) (defBody (txt 24))).isSome = true := by kernel_rfl
theorem s_u_law_order : FnScope c_u_law_order.N ["pages", "move"] (defScope (txt 24)) := C8.fnScope_by (by decide +kernel)
def c_check_move : Cfg := ⟨["pages", "move", "a", "b", "c"], [("MOST_PAGE", .con (.int 999))], []⟩
def b_check_move : DS :=
  (sSeq [sIf (tNot (tCmp (eC (.int 1)) [(.LtE, eV 0), (.LtE, eC (.int 999))]))
      (sSeq [sBad])
      (sSeq []),
    sAsg (gTp [gNm 2, gNm 3, gNm 4]) (eV 1),
    sIf (tNot (tCmp (eC (.int 1)) [(.LtE, eV 2), (.LtE, eV 3), (.LtE, eV 0)]))
      (sSeq [sBad])
      (sSeq []),
    sIf (tAnds [tNot (tCmp (eC (.int 0)) [(.LtE, eV 4), (.Lt, eV 2)]), tNot (tCmp (eV 3) [(.Lt, eV 4), (.LtE, eV 0)])])
      (sSeq [sBad])
      (sSeq [])])
def m_check_move : List D → R D := gFlat true (runF 2 5 b_check_move)
theorem t_check_move : dB c_check_move (defScope (txt 13)) 60 (defBody (txt 13)) = b_check_move := by kernel_rfl
theorem k_check_move : (kB c_check_move (kS c_check_move true (defScope (txt 13)) 60) (clr (top c_check_move) (List.range 2)) (defBody (txt 13))).isSome = true := by kernel_rfl
theorem s_check_move : FnScope c_check_move.N ["pages", "move"] (defScope (txt 13)) := C8.fnScope_by (by decide +kernel)
def c_bad_of : Cfg := ⟨["pages", "some", "k", "page"], [], ["enumerate"]⟩
def b_bad_of : DS :=
  (sSeq [sFor (gTp [gNm 2, gNm 3]) (iEnum (eV 1))
      (sSeq [sIf (tOrs [tNot (tCmp (eC (.int 1)) [(.LtE, eV 3), (.LtE, eV 0)]), tAnds [tCmp (eV 2) [(.Gt, eC (.int 0))], tCmp (eIx (eV 1) (eBin .Sub (eV 2) (eC (.int 1)))) [(.GtE, eV 3)]]])
          (sSeq [sRet (eV 2)])
          (sSeq [])]),
    sRet (eC .none)])
def m_bad_of : List D → R D := gFlat false (runF 2 4 b_bad_of)
theorem t_bad_of : dB c_bad_of (defScope (txt 15)) 60 (defBody (txt 15)) = b_bad_of := by kernel_rfl
theorem k_bad_of : (kB c_bad_of (kS c_bad_of false (defScope (txt 15)) 60) (clr (top c_bad_of) (List.range 2)) (defBody (txt 15))).isSome = true := by kernel_rfl
theorem s_bad_of : FnScope c_bad_of.N ["pages", "some"] (defScope (txt 15)) := C8.fnScope_by (by decide +kernel)
def c_runs_of : Cfg := ⟨["some", "k", "page"], [], ["len", "enumerate"]⟩
def b_runs_of : DS :=
  (sSeq [sRet (eCall (callB "len") [eLc [1, 2] (gTp [gNm 1, gNm 2]) (iEnum (eV 0)) (tOrs [tCmp (eV 1) [(.Eq, eC (.int 0))], tCmp (eBin .Add (eIx (eV 0) (eBin .Sub (eV 1) (eC (.int 1)))) (eC (.int 1))) [(.NotEq, eV 2)]]) (eV 1)])])
def m_runs_of : List D → R D := gFlat true (runF 1 3 b_runs_of)
theorem t_runs_of : dB c_runs_of (defScope (txt 18)) 60 (defBody (txt 18)) = b_runs_of := by kernel_rfl
theorem k_runs_of : (kB c_runs_of (kS c_runs_of true (defScope (txt 18)) 60) (clr (top c_runs_of) (List.range 1)) (defBody (txt 18))).isSome = true := by kernel_rfl
theorem s_runs_of : FnScope c_runs_of.N ["some"] (defScope (txt 18)) := C8.fnScope_by (by decide +kernel)
def c_new_page : Cfg := ⟨["move", "page", "long", "a", "b", "c"], [], []⟩
def b_new_page : DS :=
  (sSeq [sAsg (gTp [gNm 3, gNm 4, gNm 5]) (eV 0),
    sAsg (gNm 2) (eBin .Add (eBin .Sub (eV 4) (eV 3)) (eC (.int 1))),
    sIf (tCmp (eV 3) [(.LtE, eV 1), (.LtE, eV 4)])
      (sSeq [sRet (eBin .Add (eBin .Add (eBin .Sub (eV 1) (eV 3)) (eC (.int 1))) (eIf (tCmp (eV 5) [(.Lt, eV 3)]) (eV 5) (eBin .Sub (eV 5) (eV 2))))])
      (sSeq []),
    sIf (tCmp (eV 5) [(.Lt, eV 1), (.Lt, eV 3)])
      (sSeq [sRet (eBin .Add (eV 1) (eV 2))])
      (sSeq []),
    sIf (tCmp (eV 4) [(.Lt, eV 1), (.LtE, eV 5)])
      (sSeq [sRet (eBin .Sub (eV 1) (eV 2))])
      (sSeq []),
    sRet (eV 1)])
def m_new_page : List D → R D := gFlat false (runF 2 6 b_new_page)
theorem t_new_page : dB c_new_page (defScope (txt 14)) 60 (defBody (txt 14)) = b_new_page := by kernel_rfl
theorem k_new_page : (kB c_new_page (kS c_new_page false (defScope (txt 14)) 60) (clr (top c_new_page) (List.range 2)) (defBody (txt 14))).isSome = true := by kernel_rfl
theorem s_new_page : FnScope c_new_page.N ["move", "page"] (defScope (txt 14)) := C8.fnScope_by (by decide +kernel)
def c_broken : Cfg := ⟨["pages", "move", "heads", "found", "k", "some", "page"], [("check_move", .fn m_check_move true true), ("bad_of", .fn m_bad_of false true), ("runs_of", .fn m_runs_of true true), ("new_page", .fn m_new_page false true), ("MOST_HEADS", .con (.int 8))], ["enumerate", "len", "sorted"]⟩
def b_broken : DS :=
  (sSeq [sDrop (eCall m_check_move [eV 0, eV 1]),
    sIf (tNot (tCmp (eC (.int 1)) [(.LtE, eCall (callB "len") [eV 2]), (.LtE, eC (.int 8))]))
      (sSeq [sBad])
      (sSeq []),
    sFor (gTp [gNm 4, gNm 5]) (iEnum (eV 2))
      (sSeq [sIf (tCmp (eCall m_bad_of [eV 0, eV 5]) [(.IsNot, eC .none)])
          (sSeq [sBad])
          (sSeq [])]),
    sAsg (gNm 3) (eLst []),
    sFor (gTp [gNm 4, gNm 5]) (iEnum (eV 2))
      (sSeq [sIf (tCmp (eCall m_runs_of [eCall (callB "sorted") [eLc [6] (gNm 6) (iExp (eV 5)) (tYes) (eCall m_new_page [eV 1, eV 6])]]) [(.Gt, eCall m_runs_of [eV 5])])
          (sSeq [sApp 3 (eV 4)])
          (sSeq [])]),
    sRet (eV 3)])
def m_broken : List D → R D := gFlat true (runF 3 7 b_broken)
theorem t_broken : dB c_broken (defScope (txt 20)) 60 (defBody (txt 20)) = b_broken := by kernel_rfl
theorem k_broken : (kB c_broken (kS c_broken true (defScope (txt 20)) 60) (clr (top c_broken) (List.range 3)) (defBody (txt 20))).isSome = true := by kernel_rfl
theorem s_broken : FnScope c_broken.N ["pages", "move", "heads"] (defScope (txt 20)) := C8.fnScope_by (by decide +kernel)
def c_back : Cfg := ⟨["pages", "move", "start", "stop", "a", "b", "c"], [("check_move", .fn m_check_move true true), ("new_page", .fn m_new_page false true)], []⟩
def b_back : DS :=
  (sSeq [sDrop (eCall m_check_move [eV 0, eV 1]),
    sAsg (gTp [gNm 4, gNm 5, gNm 6]) (eV 1),
    sAsg (gNm 2) (eCall m_new_page [eV 1, eV 4]),
    sAsg (gNm 3) (eCall m_new_page [eV 1, eV 5]),
    sRet (eTup [eV 2, eV 3, eIf (tCmp (eV 2) [(.GtE, eV 4)]) (eBin .Sub (eV 4) (eC (.int 1))) (eV 5)])])
def m_back : List D → R D := gFlat true (runF 2 7 b_back)
theorem t_back : dB c_back (defScope (txt 17)) 60 (defBody (txt 17)) = b_back := by kernel_rfl
theorem k_back : (kB c_back (kS c_back true (defScope (txt 17)) 60) (clr (top c_back) (List.range 2)) (defBody (txt 17))).isSome = true := by kernel_rfl
theorem s_back : FnScope c_back.N ["pages", "move"] (defScope (txt 17)) := C8.fnScope_by (by decide +kernel)
def c_u_law_mix : Cfg := ⟨["draws", "k", "many", "value"], [], ["len", "int"]⟩
def b_u_law_mix : DS :=
  (sSeq [sAsg (gNm 3) (eC (.int 0)),
    sIf (tCmp (eCall (callB "len") [eV 0]) [(.Gt, eC (.int 0))])
      (sSeq [sAsg (gNm 3) (eIx (eV 0) (eBin .Mod (eCall (callB "int") [eV 1]) (eCall (callB "len") [eV 0])))])
      (sSeq []),
    sIf (tCmp (eV 1) [(.Lt, eCall (callB "len") [eV 0])])
      (sSeq [sRet (eBin .Mod (eCall (callB "int") [eV 3]) (eV 2))])
      (sSeq []),
    sRet (eBin .Mod (eCall (callB "int") [eBin .FloorDiv (eCall (callB "int") [eBin .Add (eBin .Mult (eV 3) (eC (.int 7919))) (eBin .Mult (eV 1) (eC (.int 104729)))]) (eC (.int 3))]) (eV 2))])
def m_u_law_mix : List D → R D := gFlat true (runF 3 4 b_u_law_mix)
theorem t_u_law_mix : dB c_u_law_mix (defScope (txt 23)) 60 (defBody (txt 23)) = b_u_law_mix := by kernel_rfl
theorem k_u_law_mix : (kB c_u_law_mix (kS c_u_law_mix true (defScope (txt 23)) 60) (clr (top c_u_law_mix) (List.range 3)) (defBody (txt 23))).isSome = true := by kernel_rfl
theorem s_u_law_mix : FnScope c_u_law_mix.N ["draws", "k", "many"] (defScope (txt 23)) := C8.fnScope_by (by decide +kernel)
def c_moved : Cfg := ⟨["pages", "move", "some", "page"], [("check_move", .fn m_check_move true true), ("bad_of", .fn m_bad_of false true), ("new_page", .fn m_new_page false true)], ["sorted"]⟩
def b_moved : DS :=
  (sSeq [sDrop (eCall m_check_move [eV 0, eV 1]),
    sIf (tCmp (eCall m_bad_of [eV 0, eV 2]) [(.IsNot, eC .none)])
      (sSeq [sBad])
      (sSeq []),
    sRet (eCall (callB "sorted") [eLc [3] (gNm 3) (iExp (eV 2)) (tYes) (eCall m_new_page [eV 1, eV 3])])])
def m_moved : List D → R D := gFlat true (runF 3 4 b_moved)
theorem t_moved : dB c_moved (defScope (txt 16)) 60 (defBody (txt 16)) = b_moved := by kernel_rfl
theorem k_moved : (kB c_moved (kS c_moved true (defScope (txt 16)) 60) (clr (top c_moved) (List.range 3)) (defBody (txt 16))).isSome = true := by kernel_rfl
theorem s_moved : FnScope c_moved.N ["pages", "move", "some"] (defScope (txt 16)) := C8.fnScope_by (by decide +kernel)
def c_u_law_runs : Cfg := ⟨["some", "page"], [], ["len"]⟩
def b_u_law_runs : DS :=
  (sSeq [sRet (eCall (callB "len") [eLc [1] (gNm 1) (iExp (eV 0)) (tCmp (eBin .Sub (eV 1) (eC (.int 1))) [(.NotIn, eV 0)]) (eV 1)])])
def m_u_law_runs : List D → R D := gFlat true (runF 1 2 b_u_law_runs)
theorem t_u_law_runs : dB c_u_law_runs (defScope (txt 25)) 60 (defBody (txt 25)) = b_u_law_runs := by kernel_rfl
theorem k_u_law_runs : (kB c_u_law_runs (kS c_u_law_runs true (defScope (txt 25)) 60) (clr (top c_u_law_runs) (List.range 1)) (defBody (txt 25))).isSome = true := by kernel_rfl
theorem s_u_law_runs : FnScope c_u_law_runs.N ["some"] (defScope (txt 25)) := C8.fnScope_by (by decide +kernel)
def c_bad_page : Cfg := ⟨["pages", "k", "page"], [("MOST_PAGE", .con (.int 999))], ["enumerate"]⟩
def b_bad_page : DS :=
  (sSeq [sFor (gTp [gNm 1, gNm 2]) (iEnum (eV 0))
      (sSeq [sIf (tOrs [tNot (tCmp (eC (.int 1)) [(.LtE, eV 2), (.LtE, eC (.int 999))]), tAnds [tCmp (eV 1) [(.Gt, eC (.int 0))], tCmp (eIx (eV 0) (eBin .Sub (eV 1) (eC (.int 1)))) [(.GtE, eV 2)]]])
          (sSeq [sRet (eV 1)])
          (sSeq [])]),
    sRet (eC .none)])
def m_bad_page : List D → R D := gFlat false (runF 1 3 b_bad_page)
theorem t_bad_page : dB c_bad_page (defScope (txt 9)) 60 (defBody (txt 9)) = b_bad_page := by kernel_rfl
theorem k_bad_page : (kB c_bad_page (kS c_bad_page false (defScope (txt 9)) 60) (clr (top c_bad_page) (List.range 1)) (defBody (txt 9))).isSome = true := by kernel_rfl
theorem s_bad_page : FnScope c_bad_page.N ["pages"] (defScope (txt 9)) := C8.fnScope_by (by decide +kernel)
def c_check_pages : Cfg := ⟨["pages"], [("bad_page", .fn m_bad_page false true)], []⟩
def b_check_pages : DS :=
  (sSeq [sIf (tCmp (eCall m_bad_page [eV 0]) [(.IsNot, eC .none)])
      (sSeq [sBad])
      (sSeq [])])
def m_check_pages : List D → R D := gFlat true (runF 1 1 b_check_pages)
theorem t_check_pages : dB c_check_pages (defScope (txt 10)) 60 (defBody (txt 10)) = b_check_pages := by kernel_rfl
theorem k_check_pages : (kB c_check_pages (kS c_check_pages true (defScope (txt 10)) 60) (clr (top c_check_pages) (List.range 1)) (defBody (txt 10))).isSome = true := by kernel_rfl
theorem s_check_pages : FnScope c_check_pages.N ["pages"] (defScope (txt 10)) := C8.fnScope_by (by decide +kernel)
def c_count_runs : Cfg := ⟨["some"], [("check_pages", .fn m_check_pages true true), ("runs_of", .fn m_runs_of true true)], []⟩
def b_count_runs : DS :=
  (sSeq [sDrop (eCall m_check_pages [eV 0]),
    sRet (eCall m_runs_of [eV 0])])
def m_count_runs : List D → R D := gFlat true (runF 1 1 b_count_runs)
theorem t_count_runs : dB c_count_runs (defScope (txt 19)) 60 (defBody (txt 19)) = b_count_runs := by kernel_rfl
theorem k_count_runs : (kB c_count_runs (kS c_count_runs true (defScope (txt 19)) 60) (clr (top c_count_runs) (List.range 1)) (defBody (txt 19))).isSome = true := by kernel_rfl
theorem s_count_runs : FnScope c_count_runs.N ["some"] (defScope (txt 19)) := C8.fnScope_by (by decide +kernel)
def c_law : Cfg := ⟨["script", "draws", "pages", "a", "b", "places", "c", "move", "order", "heads", "t", "kept", "due", "k", "found", "every", "home", "kind", "some", "told", "new", "inside", "start", "size", "page"], [("_law_draws", .fn m_u_law_draws true true), ("_law_order", .fn m_u_law_order true true), ("broken", .fn m_broken true true), ("back", .fn m_back true true), ("_law_mix", .fn m_u_law_mix true true), ("moved", .fn m_moved true true), ("_law_runs", .fn m_u_law_runs true true), ("count_runs", .fn m_count_runs true true)], ["range", "repr", "list", "len", "sorted", "min", "max"]⟩
def l_law : List DS :=
  [sAsg (gNm 1) (eCall m_u_law_draws [eV 0]),
    sAsg (gNm 2) (eIx (eLst [eBin .Add (eC (.int 1)) (eCall m_u_law_mix [eV 1, eC (.int 0), eC (.int 12)]), eBin .Add (eC (.int 1)) (eCall m_u_law_mix [eV 1, eC (.int 0), eC (.int 60)]), eC (.int 999)]) (eIx (eLst [eC (.int 0), eC (.int 0), eC (.int 1), eC (.int 1), eC (.int 2)]) (eCall m_u_law_mix [eV 1, eC (.int 1), eC (.int 5)]))),
    sAsg (gNm 3) (eBin .Add (eC (.int 1)) (eCall m_u_law_mix [eV 1, eC (.int 2), eV 2])),
    sAsg (gNm 4) (eBin .Add (eV 3) (eCall m_u_law_mix [eV 1, eC (.int 3), eCall (callB "min") [eBin .Add (eBin .Sub (eV 2) (eV 3)) (eC (.int 1)), eC (.int 30)]])),
    sAsg (gNm 5) (eBin .Add (eLstI (iRng1 (eV 3))) (eLstI (iRng2 (eBin .Add (eV 4) (eC (.int 1))) (eBin .Add (eV 2) (eC (.int 1)))))),
    sAsg (gNm 6) (eIx (eV 5) (eCall m_u_law_mix [eV 1, eC (.int 4), eCall (callB "len") [eV 5]])),
    sAsg (gNm 7) (eTup [eV 3, eV 4, eV 6]),
    sAsg (gNm 8) (eCall m_u_law_order [eV 2, eV 7]),
    sAsg (gNm 9) (eLst []),
    sFor (gNm 10) (iRng1 (eBin .Add (eC (.int 1)) (eCall m_u_law_mix [eV 1, eC (.int 5), eC (.int 8)])))
      (sSeq [sAsg (gTp [gNm 22, gNm 23]) (eTup [eBin .Add (eC (.int 1)) (eCall m_u_law_mix [eV 1, eBin .Add (eC (.int 10)) (eBin .Mult (eC (.int 2)) (eV 10)), eV 2]), eBin .Add (eC (.int 1)) (eCall m_u_law_mix [eV 1, eBin .Add (eC (.int 11)) (eBin .Mult (eC (.int 2)) (eV 10)), eC (.int 12)])]),
        sAsg (gNm 17) (eCall m_u_law_mix [eV 1, eBin .Add (eC (.int 30)) (eV 10), eC (.int 3)]),
        sIf (tCmp (eV 17) [(.Eq, eC (.int 0))])
          (sSeq [sApp 9 (eLstI (iRng2 (eV 22) (eBin .Add (eCall (callB "min") [eV 2, eBin .Add (eV 22) (eV 23)]) (eC (.int 1)))))])
          (sSeq [sApp 9 (eLc [24] (gNm 24) (iRng2 (eCall (callB "max") [eC (.int 1), eBin .Sub (eV 22) (eC (.int 20))]) (eBin .Add (eCall (callB "min") [eV 2, eBin .Add (eV 22) (eC (.int 20))]) (eC (.int 1)))) (tCmp (eCall m_u_law_mix [eV 1, eBin .Add (eC (.int 40)) (eV 24), eBin .Add (eC (.int 2)) (eV 17)]) [(.Eq, eC (.int 0))]) (eV 24))])]),
    sAsg (gNm 11) (eCall (callB "repr") [eV 9]),
    sAsg (gNm 12) (eLst []),
    sFor (gNm 13) (iRng1 (eCall (callB "len") [eV 9]))
      (sSeq [sAsg (gNm 18) (eIx (eV 9) (eV 13)),
        sAsg (gNm 19) (eCall m_moved [eV 2, eV 7, eV 18]),
        sAsg (gNm 20) (eCall (callB "sorted") [eLc [24] (gNm 24) (iExp (eV 18)) (tYes) (eBin .Add (eMet (metOk "index") (callM "index") (eV 8) [eV 24]) (eC (.int 1)))]),
        sIf (tOrs [tCmp (eCall (callB "repr") [eV 19]) [(.NotEq, eCall (callB "repr") [eV 20])], tCmp (eCall m_moved [eV 2, eCall m_back [eV 2, eV 7], eV 19]) [(.NotEq, eV 18)], tCmp (eCall (callB "repr") [eCall m_count_runs [eV 18]]) [(.NotEq, eCall (callB "repr") [eCall m_u_law_runs [eV 18]])]])
          (sSeq [sRet (eC (.bool false))])
          (sSeq []),
        sIf (tCmp (eCall m_u_law_runs [eV 20]) [(.Gt, eCall m_u_law_runs [eV 18])])
          (sSeq [sApp 12 (eV 13)])
          (sSeq []),
        sAsg (gNm 21) (eLc [24] (gNm 24) (iExp (eV 18)) (tCmp (eV 3) [(.LtE, eV 24), (.LtE, eV 4)]) (eV 24)),
        sIf (tAnds [tCmp (eV 21) [(.Eq, eV 18)], tCmp (eCall m_u_law_runs [eV 20]) [(.NotEq, eCall m_u_law_runs [eV 18])]])
          (sSeq [sRet (eC (.bool false))])
          (sSeq []),
        sApp 19 (eC (.int 0)),
        sIf (tCmp (eCall m_moved [eV 2, eV 7, eV 18]) [(.NotEq, eV 20)])
          (sSeq [sRet (eC (.bool false))])
          (sSeq [])]),
    sAsg (gNm 14) (eCall m_broken [eV 2, eV 7, eV 9]),
    sIf (tCmp (eCall (callB "repr") [eV 14]) [(.NotEq, eCall (callB "repr") [eV 12])])
      (sSeq [sRet (eC (.bool false))])
      (sSeq []),
    sApp 14 (eC (.int 99)),
    sAsg (gNm 15) (eLstI (iRng2 (eC (.int 1)) (eBin .Add (eV 2) (eC (.int 1))))),
    sIf (tOrs [tCmp (eCall m_broken [eV 2, eV 7, eV 9]) [(.NotEq, eV 12)], tCmp (eCall m_moved [eV 2, eV 7, eV 15]) [(.NotEq, eV 15)], tCmp (eCall m_count_runs [eV 15]) [(.NotEq, eC (.int 1))], tCmp (eCall m_count_runs [eLst []]) [(.NotEq, eC (.int 0))]])
      (sSeq [sRet (eC (.bool false))])
      (sSeq []),
    sAsg (gNm 16) (eCall m_back [eV 2, eCall m_back [eV 2, eV 7]]),
    sRet (eAnds [eT (tCmp (eCall (callB "repr") [eV 9]) [(.Eq, eV 11)]), eT (tCmp (eLc [24] (gNm 24) (iExp (eSl (eV 15) none (some (eC (.int 40))))) (tYes) (eCall m_moved [eV 2, eV 16, eLst [eV 24]])) [(.Eq, eLc [24] (gNm 24) (iExp (eSl (eV 15) none (some (eC (.int 40))))) (tYes) (eCall m_moved [eV 2, eV 7, eLst [eV 24]]))])])]
def b_law : DS := sSeq l_law
def m_law : List D → R D := runF 1 25 b_law
theorem t_law : dB c_law (defScope (txt 26)) 60 (defBody (txt 26)) = b_law := by kernel_rfl
theorem k_law : (kB c_law (kS c_law true (defScope (txt 26)) 60) (clr (top c_law) (List.range 1)) (defBody (txt 26))).isSome = true := by kernel_rfl
theorem s_law : FnScope c_law.N ["script"] (defScope (txt 26)) := C8.fnScope_by (by decide +kernel)
end Q
namespace Q
open PySem Dv
/-! ### what is drawn -/
theorem il_at {ns : List Int} {k : Int} (h0 : 0 ≤ k) (h1 : k < ns.length) : ∃ n, ns[k.toNat]? = some n ∧ n ∈ ns ∧ idxD (il ns) (.int k) = .ok (.int n) := by
  have hk : k.toNat < ns.length := by omega
  refine ⟨ns[k.toNat], List.getElem?_eq_getElem hk, List.getElem_mem hk, ?_⟩
  show oR (atZ (ns.map PyData.int) k) = _
  unfold atZ ixZ
  rw [if_pos h0, List.length_map, if_pos h1]
  show oR ((ns.map PyData.int)[k.toNat]?) = _
  rw [List.getElem?_map, List.getElem?_eq_getElem hk]
  rfl
theorem md {i j : Int} (h : 0 < j) : modD (.int i) (.int j) = .ok (.int (i % j)) := by show (if 0 < j then _ else _) = _; rw [if_pos h]
theorem dv {i j : Int} (h : 0 < j) (h2 : j < 1073741824) : divD (.int i) (.int j) = .ok (.int (i / j)) := by show (if 0 < j ∧ j < 1073741824 then _ else _) = _; rw [if_pos ⟨h, h2⟩]
theorem ml {i j : Int} (h : small j = true) : mulD (.int i) (.int j) = .ok (.int (i * j)) := by show (if (small i || small j) = true then _ else _) = _; rw [h, Bool.or_true, if_pos rfl]
theorem ml2 {i j : Int} (h : small i = true) : mulD (.int i) (.int j) = .ok (.int (i * j)) := by show (if (small i || small j) = true then _ else _) = _; rw [h, Bool.true_or, if_pos rfl]
theorem pw {i j : Int} (h : 0 ≤ j) (h2 : j ≤ 1000) (h3 : i.natAbs < 2 ^ 64) : powD (.int i) (.int j) = .ok (.int (i ^ j.toNat)) := by show (if 0 ≤ j ∧ j ≤ 1000 ∧ i.natAbs < 2 ^ 64 then _ else _) = _; rw [if_pos ⟨h, h2, h3⟩]
def drawn (j : Nat) (ds : List Int) : Prop := (∀ d ∈ ds, 0 ≤ d ∧ d < 65536) ∧ ds.length ≤ j
theorem il_push (ds : List Int) (d : Int) : il (ds ++ [d]) = .list (ds.map .int ++ [.int d]) := by simp [il]
theorem drawn.push {j k : Nat} {ds : List Int} (h : drawn j ds) {d : Int} (h0 : 0 ≤ d) (h1 : d < 65536) (hk : j + 1 ≤ k) : drawn k (ds ++ [d]) := by
  refine ⟨fun x hx => ?_, by rw [List.length_append]; have := h.2; simp; omega⟩
  rcases List.mem_append.mp hx with hx | hx
  · exact h.1 x hx
  · cases List.mem_singleton.mp hx
    exact ⟨h0, h1⟩
theorem drawn.up {j k : Nat} {ds : List Int} (h : drawn j ds) (hk : j ≤ k) : drawn k ds := ⟨h.1, Nat.le_trans h.2 hk⟩
theorem draws_ok (ns : List Int) (hn : ns.length ≤ 63) : ∃ ds : List Int, m_u_law_draws [il ns] = .ok (il ds) ∧ drawn 5000 ds := by
  have : ∃ d, m_u_law_draws [il ns] = .ok d ∧ ∃ ds, d = il ds ∧ drawn 5000 ds := by
    refine run_flat rfl ?_
    show W4 (b_u_law_draws [some (il ns), none, none, none, none, none]) _ noB noB _
    unfold b_u_law_draws
    refine w_seq2 (w_set (d := .list []) rfl ?_)
    have hrng : iRng1 (eCall (callB "min") [eC (.int 63), eCall (callB "len") [eV 0]]) [some (il ns), some (.list []), none, none, none, none] = .ok ((zr 0 ns.length).map .int) := by
      refine rng1_is ?_ (decide_eq_true (by omega))
      show callB "min" [.int 63, .int ((ns.map PyData.int).length)] = _
      rw [B_min, List.length_map]
      congr 2
      split <;> omega
    refine w_seq2 (w_for (fun j δ => ∃ ds x2 x3 x4 x5, δ = [some (il ns), some (il ds), x2, x3, x4, x5] ∧ drawn (60 * j) ds) hrng ⟨[], none, none, none, none, rfl, ⟨fun d h => absurd h (by simp), Nat.le_refl _⟩⟩ ?_ ?_)
    · rintro j d δ hd ⟨ds, x2, x3, x4, x5, rfl, hds⟩
      rw [List.getElem?_map] at hd
      obtain ⟨n, hn2, rfl⟩ := Option.map_eq_some_iff.mp hd
      have hj : j < ns.length := by
        have := (List.getElem?_eq_some_iff.mp hn2).1
        rw [len_zr] at this
        omega
      rw [zr_get (by omega)] at hn2
      have hnj : n = 0 + (j : Int) := (Option.some.inj hn2).symm
      clear hn2
      obtain ⟨z, _, _, hz⟩ := il_at (ns := ns) (k := n) (by omega) (by omega)
      clear hnj
      have hlim : lim = 1000000 := rfl
      refine ⟨_, rfl, ?_⟩
      refine w_seq2 (w_set (d := .int (if z < 0 then -z else z)) ?_ ?_)
      · show (R.bind _ _ : R D) = _
        show ((idxD (il ns) (.int n)).bind fun x => R.bind (.ok []) fun xs => .ok (x :: xs)).bind (callB "abs") = _
        rw [hz]
        rfl
      have hr : 0 ≤ (if z < 0 then -z else z) := by split <;> omega
      generalize (if z < 0 then -z else z) = rest at hr ⊢
      have hpow : ∀ (x2 x5 : Option D), tCmp (eV 3) [(.GtE, eBin .Pow (eC (.int 10)) (eC (.int 18)))] [some (il ns), some (il ds), x2, some (.int rest), x4, x5] = .ok (decide ((10 : Int) ^ 18 ≤ rest)) := fun x2 x5 => by
        have : powD (.int 10) (.int 18) = .ok (.int ((10 : Int) ^ (18 : Int).toNat)) := pw (by decide) (by decide) (by decide)
        simp only [eBin_is, eCall_is, eIx_is, eTup_is, eLst_is, eT_is, eIf_is, evs_nil, evs_cons, eV0, eVs, eC_is, tTru_is, tNot_is, tCmp1_is, tCmp2_is, tAnds2_is, tOrs2_is, tOrs3_is, tOrs4_is, bAdd, bSub, bMul, bDiv, bMod, bPow, cEq, cNe, cLt, cLe, cGt, cGe, cIs, cIsn, addI, subI, negI, ltI, leI, rnotI, andB, orB, List.set_cons_succ, List.set_cons_zero, R.bind_ok, B_int, this]
        rfl
      refine w_one (w_if (b := decide ((10 : Int) ^ 18 ≤ rest)) (hpow _ _) (fun hz1 => ?_) fun hz1 => ?_)
      · clear hz1 hpow
        refine w_one (w_for (ds := (zr 0 60).map .int) (fun i δ => ∃ ds x2 rest x4 x5, δ = [some (il ns), some (il ds), x2, some (.int rest), x4, x5] ∧ drawn (60 * j + i) ds) (rng1_is rfl rfl) ⟨ds, _, rest, x4, x5, rfl, hds⟩ ?_ ?_)
        · rintro i d δ hd ⟨ds, x2, rest, x4, x5, rfl, hds⟩
          refine ⟨_, rfl, ?_⟩
          have hi : i < 60 := by
            have := (List.getElem?_eq_some_iff.mp hd).1
            rw [List.length_map, len_zr] at this
            omega
          refine w_one (w_if (b := decide (0 < rest)) rfl (fun _ => ?_) fun _ => ?_)
          · refine w_seq2 (w_app (d := .int (rest % 65536)) (xs := ds.map .int) (by simp only [eBin_is, eCall_is, eIx_is, eTup_is, eLst_is, eT_is, eIf_is, evs_nil, evs_cons, eV0, eVs, eC_is, tTru_is, tNot_is, tCmp1_is, tCmp2_is, tAnds2_is, tOrs2_is, tOrs3_is, tOrs4_is, bAdd, bSub, bMul, bDiv, bMod, bPow, cEq, cNe, cLt, cLe, cGt, cGe, cIs, cIsn, addI, subI, negI, ltI, leI, rnotI, andB, orB, List.set_cons_succ, List.set_cons_zero, R.bind_ok, B_int, md (show (0 : Int) < 65536 by omega)]) rfl (by rw [List.length_map]; have := hds.2; omega) ?_)
            refine w_one (w_set (d := .int (rest / 65536)) (by simp only [eBin_is, eCall_is, eIx_is, eTup_is, eLst_is, eT_is, eIf_is, evs_nil, evs_cons, eV0, eVs, eC_is, tTru_is, tNot_is, tCmp1_is, tCmp2_is, tAnds2_is, tOrs2_is, tOrs3_is, tOrs4_is, bAdd, bSub, bMul, bDiv, bMod, bPow, cEq, cNe, cLt, cLe, cGt, cGe, cIs, cIsn, addI, subI, negI, ltI, leI, rnotI, andB, orB, List.set_cons_succ, List.set_cons_zero, R.bind_ok, B_int, dv (show (0 : Int) < 65536 by omega) (by omega)]) ?_)
            exact ⟨ds ++ [rest % 65536], x2, rest / 65536, some d, x5, by simp only [eBin_is, eCall_is, eIx_is, eTup_is, eLst_is, eT_is, eIf_is, evs_nil, evs_cons, eV0, eVs, eC_is, tTru_is, tNot_is, tCmp1_is, tCmp2_is, tAnds2_is, tOrs2_is, tOrs3_is, tOrs4_is, bAdd, bSub, bMul, bDiv, bMod, bPow, cEq, cNe, cLt, cLe, cGt, cGe, cIs, cIsn, addI, subI, negI, ltI, leI, rnotI, andB, orB, List.set_cons_succ, List.set_cons_zero, R.bind_ok, B_int, il, List.map_append, List.map_cons, List.map_nil], hds.push (by omega) (by omega) (by omega)⟩
          · exact w_nil ⟨ds, x2, rest, _, x5, rfl, hds.up (by omega)⟩
        · rintro δ ⟨ds, x2, rest, x4, x5, rfl, hds⟩
          exact ⟨ds, x2, _, x4, x5, rfl, hds.up (by rw [List.length_map, len_zr]; omega)⟩
      · clear hz1 hpow
        refine w_seq2 (w_set (d := .int ((rest * 48271 + (n + 1) * 69621) % 2147483647)) ?_ ?_)
        · have e1 : mulD (.int rest) (.int 48271) = .ok (.int (rest * 48271)) := ml rfl
          have e2 : mulD (.int (n + 1)) (.int 69621) = .ok (.int ((n + 1) * 69621)) := ml rfl
          simp only [eBin_is, eCall_is, eIx_is, eTup_is, eLst_is, eT_is, eIf_is, evs_nil, evs_cons, eV0, eVs, eC_is, tTru_is, tNot_is, tCmp1_is, tCmp2_is, tAnds2_is, tOrs2_is, tOrs3_is, tOrs4_is, bAdd, bSub, bMul, bDiv, bMod, bPow, cEq, cNe, cLt, cLe, cGt, cGe, cIs, cIsn, addI, subI, negI, ltI, leI, rnotI, andB, orB, List.set_cons_succ, List.set_cons_zero, R.bind_ok, B_int, e1, e2, md (show (0 : Int) < 2147483647 by omega)]
        generalize (rest * 48271 + (n + 1) * 69621) % 2147483647 = m1
        refine w_seq2 (w_set (d := .int ((m1 * 16807 + 11 * n + 5) % 2147483629)) ?_ ?_)
        · have e1 : mulD (.int m1) (.int 16807) = .ok (.int (m1 * 16807)) := ml rfl
          have e2 : mulD (.int 11) (.int n) = .ok (.int (11 * n)) := ml2 rfl
          simp only [eBin_is, eCall_is, eIx_is, eTup_is, eLst_is, eT_is, eIf_is, evs_nil, evs_cons, eV0, eVs, eC_is, tTru_is, tNot_is, tCmp1_is, tCmp2_is, tAnds2_is, tOrs2_is, tOrs3_is, tOrs4_is, bAdd, bSub, bMul, bDiv, bMod, bPow, cEq, cNe, cLt, cLe, cGt, cGe, cIs, cIsn, addI, subI, negI, ltI, leI, rnotI, andB, orB, List.set_cons_succ, List.set_cons_zero, R.bind_ok, B_int, e1, e2, md (show (0 : Int) < 2147483629 by omega)]
        generalize hm : (m1 * 16807 + 11 * n + 5) % 2147483629 = m2
        refine w_seq2 (w_app (d := .int (m2 % 65536)) (xs := ds.map .int) (by simp only [eBin_is, eCall_is, eIx_is, eTup_is, eLst_is, eT_is, eIf_is, evs_nil, evs_cons, eV0, eVs, eC_is, tTru_is, tNot_is, tCmp1_is, tCmp2_is, tAnds2_is, tOrs2_is, tOrs3_is, tOrs4_is, bAdd, bSub, bMul, bDiv, bMod, bPow, cEq, cNe, cLt, cLe, cGt, cGe, cIs, cIsn, addI, subI, negI, ltI, leI, rnotI, andB, orB, List.set_cons_succ, List.set_cons_zero, R.bind_ok, B_int, md (show (0 : Int) < 65536 by omega)]) rfl (by rw [List.length_map]; have := hds.2; omega) ?_)
        refine w_one (w_app (d := .int (m2 / 65536 % 32768)) (xs := ds.map .int ++ [.int (m2 % 65536)]) ?_ rfl (by rw [List.length_append, List.length_map]; have := hds.2; simp; omega) ?_)
        · simp only [eBin_is, eCall_is, eIx_is, eTup_is, eLst_is, eT_is, eIf_is, evs_nil, evs_cons, eV0, eVs, eC_is, tTru_is, tNot_is, tCmp1_is, tCmp2_is, tAnds2_is, tOrs2_is, tOrs3_is, tOrs4_is, bAdd, bSub, bMul, bDiv, bMod, bPow, cEq, cNe, cLt, cLe, cGt, cGe, cIs, cIsn, addI, subI, negI, ltI, leI, rnotI, andB, orB, List.set_cons_succ, List.set_cons_zero, R.bind_ok, B_int, dv (show (0 : Int) < 65536 by omega) (by omega), md (show (0 : Int) < 32768 by omega)]
        · refine ⟨ds ++ [m2 % 65536, m2 / 65536 % 32768], some (.int n), some (.int rest), x4, some (.int m2), by simp only [eBin_is, eCall_is, eIx_is, eTup_is, eLst_is, eT_is, eIf_is, evs_nil, evs_cons, eV0, eVs, eC_is, tTru_is, tNot_is, tCmp1_is, tCmp2_is, tAnds2_is, tOrs2_is, tOrs3_is, tOrs4_is, bAdd, bSub, bMul, bDiv, bMod, bPow, cEq, cNe, cLt, cLe, cGt, cGe, cIs, cIsn, addI, subI, negI, ltI, leI, rnotI, andB, orB, List.set_cons_succ, List.set_cons_zero, R.bind_ok, B_int, il, List.map_append, List.map_cons, List.map_nil, List.append_assoc, List.cons_append, List.nil_append], ?_⟩
          have h1 := hds.push (d := m2 % 65536) (k := 60 * j + 1) (by omega) (by omega) (by omega)
          have h2 := h1.push (d := m2 / 65536 % 32768) (k := 60 * (j + 1)) (by omega) (by omega) (by omega)
          rw [List.append_assoc] at h2
          exact h2
    · rintro δ ⟨ds, x2, x3, x4, x5, rfl, hds⟩
      refine w_one (w_ret rfl ⟨flat_ints ds, ds, rfl, hds.up ?_⟩)
      rw [List.length_map, len_zr]
      omega
  obtain ⟨d, h1, ds, rfl, h2⟩ := this
  exact ⟨ds, h1, h2⟩
theorem mix_ok {ds : List Int} (h : drawn 5000 ds) {k many : Int} (hk : 0 ≤ k) (hm : 0 < many) : ∃ r, m_u_law_mix [il ds, .int k, .int many] = .ok (.int r) ∧ 0 ≤ r ∧ r < many := by
  have : ∃ d, m_u_law_mix [il ds, .int k, .int many] = .ok d ∧ ∃ r, d = .int r ∧ 0 ≤ r ∧ r < many := by
    refine run_flat rfl ?_
    show W4 (b_u_law_mix [some (il ds), some (.int k), some (.int many), none]) _ noB noB _
    unfold b_u_law_mix
    have rest : ∀ v : Int, 0 ≤ v → v < 65536 → W4 (sSeq [sIf (tCmp (eV 1) [(.Lt, eCall (callB "len") [eV 0])]) (sSeq [sRet (eBin .Mod (eCall (callB "int") [eV 3]) (eV 2))]) (sSeq []),
        sRet (eBin .Mod (eCall (callB "int") [eBin .FloorDiv (eCall (callB "int") [eBin .Add (eBin .Mult (eV 3) (eC (.int 7919))) (eBin .Mult (eV 1) (eC (.int 104729)))]) (eC (.int 3))]) (eV 2))] [some (il ds), some (.int k), some (.int many), some (.int v)])
        (fun _ => flatD true .none = true ∧ ∃ r, PyData.none = .int r ∧ 0 ≤ r ∧ r < many) noB noB (fun d => flatD true d = true ∧ ∃ r, d = .int r ∧ 0 ≤ r ∧ r < many) := by
      intro v v0 v1
      have fin : ∀ z : Int, flatD true (.int (z % many)) = true ∧ ∃ r, PyData.int (z % many) = .int r ∧ 0 ≤ r ∧ r < many := fun z => ⟨rfl, _, rfl, Int.emod_nonneg _ (by omega), Int.emod_lt_of_pos _ hm⟩
      refine w_seq2 (w_if (b := decide (k < ((ds.map PyData.int).length : Int))) rfl (fun _ => ?_) fun _ => ?_)
      · exact w_one (w_ret (md hm) (fin v))
      · refine w_nil (w_one (w_ret (d := .int ((v * 7919 + k * 104729) / 3 % many)) ?_ (fin _)))
        have e1 : mulD (.int v) (.int 7919) = .ok (.int (v * 7919)) := ml rfl
        have e2 : mulD (.int k) (.int 104729) = .ok (.int (k * 104729)) := ml rfl
        simp only [eBin_is, eCall_is, eIx_is, eTup_is, eLst_is, eT_is, eIf_is, evs_nil, evs_cons, eV0, eVs, eC_is, tTru_is, tNot_is, tCmp1_is, tCmp2_is, tAnds2_is, tOrs2_is, tOrs3_is, tOrs4_is, bAdd, bSub, bMul, bDiv, bMod, bPow, cEq, cNe, cLt, cLe, cGt, cGe, cIs, cIsn, addI, subI, negI, ltI, leI, rnotI, andB, orB, List.set_cons_succ, List.set_cons_zero, R.bind_ok, B_int, e1, e2, dv (show (0 : Int) < 3 by omega) (by omega), md hm]
    refine w_seq2 (w_set (d := .int 0) rfl ?_)
    refine w_seq2 (w_if (b := decide (((ds.map PyData.int).length : Int) > 0)) rfl (fun hb => ?_) fun _ => ?_)
    · have hl : 0 < (ds.length : Int) := by have := of_decide_eq_true hb; rw [List.length_map] at this; exact this
      obtain ⟨n, _, hn, e⟩ := il_at (ns := ds) (k := k % ds.length) (Int.emod_nonneg _ (by omega)) (Int.emod_lt_of_pos _ hl)
      refine w_one (w_set (d := .int n) ?_ ?_)
      · have e1 : modD (.int k) (.int ((ds.map PyData.int).length : Int)) = .ok (.int (k % ds.length)) := by rw [List.length_map]; exact md hl
        simp only [eBin_is, eCall_is, eIx_is, eTup_is, eLst_is, eT_is, eIf_is, evs_nil, evs_cons, eV0, eVs, eC_is, tTru_is, tNot_is, tCmp1_is, tCmp2_is, tAnds2_is, tOrs2_is, tOrs3_is, tOrs4_is, bAdd, bSub, bMul, bDiv, bMod, bPow, cEq, cNe, cLt, cLe, cGt, cGe, cIs, cIsn, addI, subI, negI, ltI, leI, rnotI, andB, orB, List.set_cons_succ, List.set_cons_zero, R.bind_ok, B_int, il, B_len, e1]
        exact e
      · exact rest n (h.1 n hn).1 (h.1 n hn).2
    · exact w_nil (rest 0 (by decide) (by decide))
  obtain ⟨d, h1, r, rfl, h2⟩ := this
  exact ⟨r, h1, h2⟩
end Q
namespace Q
open PySem Dv
/-! ### a move of pages -/
/-- where a page comes to stand -/
def np (a b c p : Int) : Int :=
  if a ≤ p ∧ p ≤ b then p - a + 1 + (if c < a then c else c - (b - a + 1))
  else if c < p ∧ p < a then p + (b - a + 1)
  else if b < p ∧ p ≤ c then p - (b - a + 1)
  else p
structure Mv (P a b c : Int) : Prop where
  p0 : 1 ≤ P
  p1 : P ≤ 999
  a0 : 1 ≤ a
  ab : a ≤ b
  bP : b ≤ P
  cc : (0 ≤ c ∧ c < a) ∨ (b < c ∧ c ≤ P)
abbrev mvD (a b c : Int) : D := .tuple [.int a, .int b, .int c]
theorem np_in {P a b c p : Int} (m : Mv P a b c) (h0 : 1 ≤ p) (h1 : p ≤ P) : 1 ≤ np a b c p ∧ np a b c p ≤ P := by
  have := m.a0; have := m.ab; have := m.bP; have := m.cc
  unfold np
  split
  · split <;> omega
  · split
    · omega
    · split <;> omega
theorem np_inj {P a b c p q : Int} (m : Mv P a b c) (hp : 1 ≤ p ∧ p ≤ P) (hq : 1 ≤ q ∧ q ≤ P) (h : np a b c p = np a b c q) : p = q := by
  have := m.a0; have := m.ab; have := m.bP; have := m.cc
  unfold np at h
  by_cases hc : c < a
  · simp only [if_pos hc] at h
    split at h <;> split at h <;> (try split at h) <;> (try split at h) <;> (try split at h) <;> omega
  · simp only [if_neg hc] at h
    split at h <;> split at h <;> (try split at h) <;> (try split at h) <;> (try split at h) <;> omega
/-- the move back -/
def bc (a b c : Int) : Int := if np a b c a ≥ a then a - 1 else b
theorem np_a {a b c : Int} (h : a ≤ b) : np a b c a = 1 + (if c < a then c else c - (b - a + 1)) := by
  unfold np; rw [if_pos ⟨Int.le_refl _, h⟩]; omega
theorem np_b {a b c : Int} (h : a ≤ b) : np a b c b = b - a + 1 + (if c < a then c else c - (b - a + 1)) := by
  unfold np; rw [if_pos ⟨h, Int.le_refl _⟩]
theorem mv_back {P a b c : Int} (m : Mv P a b c) : Mv P (np a b c a) (np a b c b) (bc a b c) := by
  have := m.a0; have := m.ab; have := m.bP; have := m.cc
  refine ⟨m.p0, m.p1, ?_, ?_, ?_, ?_⟩
  · rw [np_a m.ab]; split <;> omega
  · rw [np_a m.ab, np_b m.ab]; omega
  · rw [np_b m.ab]; split <;> omega
  · unfold bc; rw [np_a m.ab, np_b m.ab]; split <;> split <;> omega
theorem np_back {P a b c p : Int} (m : Mv P a b c) (hp : 1 ≤ p) (hq : p ≤ P) : np (np a b c a) (np a b c b) (bc a b c) (np a b c p) = p := by
  have := m.a0; have := m.ab; have := m.bP; have := m.cc
  unfold bc
  rw [np_a m.ab, np_b m.ab]
  by_cases hc : c < a
  · simp only [if_pos hc]
    unfold np
    simp only [if_pos hc]
    by_cases h1 : a ≤ p ∧ p ≤ b
    · simp only [if_pos h1]
      rw [if_pos (by omega)]
      split <;> split <;> omega
    · simp only [if_neg h1]
      by_cases h2 : c < p ∧ p < a
      · simp only [if_pos h2]
        rw [if_neg (by omega)]
        split <;> (try split) <;> (try split) <;> omega
      · simp only [if_neg h2]
        rw [if_neg (by omega : ¬ (b < p ∧ p ≤ c))]
        rw [if_neg (by omega)]
        split <;> (try split) <;> (try split) <;> omega
  · simp only [if_neg hc]
    unfold np
    simp only [if_neg hc]
    by_cases h1 : a ≤ p ∧ p ≤ b
    · simp only [if_pos h1]
      rw [if_pos (by omega)]
      split <;> split <;> omega
    · simp only [if_neg h1]
      rw [if_neg (by omega : ¬ (c < p ∧ p < a))]
      by_cases h2 : b < p ∧ p ≤ c
      · simp only [if_pos h2]
        rw [if_neg (by omega)]
        split <;> (try split) <;> (try split) <;> omega
      · simp only [if_neg h2]
        rw [if_neg (by omega)]
        split <;> (try split) <;> (try split) <;> omega
/-! ### the defs -/
theorem check_ok {P a b c : Int} (m : Mv P a b c) : m_check_move [.int P, mvD a b c] = .ok .none := by
  have := m.a0; have := m.ab; have := m.bP; have h6 := m.cc; have := m.p0; have := m.p1
  obtain ⟨d, h, rfl⟩ := run_flat (np := 2) (m := 5) (o := true) (body := b_check_move) (as := [.int P, mvD a b c]) (rt := fun d => d = .none) rfl (by
    show W4 (b_check_move [some (.int P), some (mvD a b c), none, none, none]) _ noB noB _
    unfold b_check_move
    refine w_seq2 (w_if_f ?_ (w_nil ?_))
    · simp only [eBin_is, eCall_is, eIx_is, eTup_is, eLst_is, eT_is, eIf_is, evs_nil, evs_cons, eV0, eVs, eC_is, tTru_is, tNot_is, tCmp1_is, tCmp2_is, tAnds2_is, tOrs2_is, tOrs3_is, tOrs4_is, bAdd, bSub, bMul, bDiv, bMod, bPow, cEq, cNe, cLt, cLe, cGt, cGe, cIs, cIsn, addI, subI, negI, ltI, leI, rnotI, andB, orB, List.set_cons_succ, List.set_cons_zero, R.bind_ok, B_int]
      rw [decide_eq_true m.p0, decide_eq_true m.p1]; rfl
    refine w_seq2 (w_asg (d := mvD a b c) (δ' := [some (.int P), some (mvD a b c), some (.int a), some (.int b), some (.int c)]) rfl rfl ?_)
    refine w_seq2 (w_if_f (x := sSeq [sBad]) ?_ (w_nil ?_))
    · simp only [tCmp, cmpGo, eBin_is, eCall_is, eIx_is, eTup_is, eLst_is, eT_is, eIf_is, evs_nil, evs_cons, eV0, eVs, eC_is, tTru_is, tNot_is, tCmp1_is, tCmp2_is, tAnds2_is, tOrs2_is, tOrs3_is, tOrs4_is, bAdd, bSub, bMul, bDiv, bMod, bPow, cEq, cNe, cLt, cLe, cGt, cGe, cIs, cIsn, addI, subI, negI, ltI, leI, rnotI, andB, orB, List.set_cons_succ, List.set_cons_zero, R.bind_ok, B_int]
      rw [decide_eq_true m.a0, decide_eq_true m.ab, decide_eq_true m.bP]; rfl
    refine w_one (w_if_f ?_ (w_nil ⟨rfl, rfl⟩))
    simp only [eBin_is, eCall_is, eIx_is, eTup_is, eLst_is, eT_is, eIf_is, evs_nil, evs_cons, eV0, eVs, eC_is, tTru_is, tNot_is, tCmp1_is, tCmp2_is, tAnds2_is, tOrs2_is, tOrs3_is, tOrs4_is, bAdd, bSub, bMul, bDiv, bMod, bPow, cEq, cNe, cLt, cLe, cGt, cGe, cIs, cIsn, addI, subI, negI, ltI, leI, rnotI, andB, orB, List.set_cons_succ, List.set_cons_zero, R.bind_ok, B_int]
    rcases h6 with ⟨h6, h7⟩ | ⟨h6, h7⟩
    · rw [decide_eq_true h6, decide_eq_true h7]; rfl
    · rw [decide_eq_true h6, decide_eq_true h7]; simp)
  exact h
theorem page_ok (a b c p : Int) : m_new_page [mvD a b c, .int p] = .ok (.int (np a b c p)) := by
  obtain ⟨d, h, rfl⟩ := run_flat (np := 2) (m := 6) (o := false) (body := b_new_page) (as := [mvD a b c, .int p]) (rt := fun d => d = .int (np a b c p)) rfl (by
    show W4 (b_new_page [some (mvD a b c), some (.int p), none, none, none, none]) _ noB noB _
    unfold b_new_page
    have fin : ∀ z : Int, z = np a b c p → flatD false (.int z) = true ∧ PyData.int z = .int (np a b c p) := fun z hz => ⟨rfl, by rw [hz]⟩
    refine w_seq2 (w_asg (d := mvD a b c) (δ' := [some (mvD a b c), some (.int p), none, some (.int a), some (.int b), some (.int c)]) rfl rfl ?_)
    refine w_seq2 (w_set (d := .int (b - a + 1)) (by simp only [eBin_is, eCall_is, eIx_is, eTup_is, eLst_is, eT_is, eIf_is, evs_nil, evs_cons, eV0, eVs, eC_is, tTru_is, tNot_is, tCmp1_is, tCmp2_is, tAnds2_is, tOrs2_is, tOrs3_is, tOrs4_is, bAdd, bSub, bMul, bDiv, bMod, bPow, cEq, cNe, cLt, cLe, cGt, cGe, cIs, cIsn, addI, subI, negI, ltI, leI, rnotI, andB, orB, List.set_cons_succ, List.set_cons_zero, R.bind_ok, B_int]) ?_)
    refine w_seq2 (w_if (b := decide (a ≤ p) && decide (p ≤ b)) (by simp only [eBin_is, eCall_is, eIx_is, eTup_is, eLst_is, eT_is, eIf_is, evs_nil, evs_cons, eV0, eVs, eC_is, tTru_is, tNot_is, tCmp1_is, tCmp2_is, tAnds2_is, tOrs2_is, tOrs3_is, tOrs4_is, bAdd, bSub, bMul, bDiv, bMod, bPow, cEq, cNe, cLt, cLe, cGt, cGe, cIs, cIsn, addI, subI, negI, ltI, leI, rnotI, andB, orB, List.set_cons_succ, List.set_cons_zero, R.bind_ok, B_int]) (fun h => ?_) fun h => w_nil ?_)
    · have h : a ≤ p ∧ p ≤ b := by simpa using h
      refine w_one (w_ret (d := .int (p - a + 1 + (if c < a then c else c - (b - a + 1)))) ?_ (fin _ (by unfold np; rw [if_pos h])))
      simp only [eBin_is, eCall_is, eIx_is, eTup_is, eLst_is, eT_is, eIf_is, evs_nil, evs_cons, eV0, eVs, eC_is, tTru_is, tNot_is, tCmp1_is, tCmp2_is, tAnds2_is, tOrs2_is, tOrs3_is, tOrs4_is, bAdd, bSub, bMul, bDiv, bMod, bPow, cEq, cNe, cLt, cLe, cGt, cGe, cIs, cIsn, addI, subI, negI, ltI, leI, rnotI, andB, orB, List.set_cons_succ, List.set_cons_zero, R.bind_ok, B_int]
      by_cases hc : c < a
      · rw [decide_eq_true hc, if_pos rfl, if_pos hc]; rfl
      · rw [decide_eq_false hc, if_neg (by simp), if_neg hc]; rfl
    have h1 : ¬ (a ≤ p ∧ p ≤ b) := by intro z; rw [decide_eq_true z.1, decide_eq_true z.2] at h; cases h
    refine w_seq2 (w_if (b := decide (c < p) && decide (p < a)) (by simp only [eBin_is, eCall_is, eIx_is, eTup_is, eLst_is, eT_is, eIf_is, evs_nil, evs_cons, eV0, eVs, eC_is, tTru_is, tNot_is, tCmp1_is, tCmp2_is, tAnds2_is, tOrs2_is, tOrs3_is, tOrs4_is, bAdd, bSub, bMul, bDiv, bMod, bPow, cEq, cNe, cLt, cLe, cGt, cGe, cIs, cIsn, addI, subI, negI, ltI, leI, rnotI, andB, orB, List.set_cons_succ, List.set_cons_zero, R.bind_ok, B_int]) (fun h => ?_) fun h => w_nil ?_)
    · have h : c < p ∧ p < a := by simpa using h
      exact w_one (w_ret (d := .int (p + (b - a + 1))) (by simp only [eBin_is, eCall_is, eIx_is, eTup_is, eLst_is, eT_is, eIf_is, evs_nil, evs_cons, eV0, eVs, eC_is, tTru_is, tNot_is, tCmp1_is, tCmp2_is, tAnds2_is, tOrs2_is, tOrs3_is, tOrs4_is, bAdd, bSub, bMul, bDiv, bMod, bPow, cEq, cNe, cLt, cLe, cGt, cGe, cIs, cIsn, addI, subI, negI, ltI, leI, rnotI, andB, orB, List.set_cons_succ, List.set_cons_zero, R.bind_ok, B_int]) (fin _ (by unfold np; rw [if_neg h1, if_pos h])))
    have h2 : ¬ (c < p ∧ p < a) := by intro z; rw [decide_eq_true z.1, decide_eq_true z.2] at h; cases h
    refine w_seq2 (w_if (b := decide (b < p) && decide (p ≤ c)) (by simp only [eBin_is, eCall_is, eIx_is, eTup_is, eLst_is, eT_is, eIf_is, evs_nil, evs_cons, eV0, eVs, eC_is, tTru_is, tNot_is, tCmp1_is, tCmp2_is, tAnds2_is, tOrs2_is, tOrs3_is, tOrs4_is, bAdd, bSub, bMul, bDiv, bMod, bPow, cEq, cNe, cLt, cLe, cGt, cGe, cIs, cIsn, addI, subI, negI, ltI, leI, rnotI, andB, orB, List.set_cons_succ, List.set_cons_zero, R.bind_ok, B_int]) (fun h => ?_) fun h => w_nil ?_)
    · have h : b < p ∧ p ≤ c := by simpa using h
      exact w_one (w_ret (d := .int (p - (b - a + 1))) (by simp only [eBin_is, eCall_is, eIx_is, eTup_is, eLst_is, eT_is, eIf_is, evs_nil, evs_cons, eV0, eVs, eC_is, tTru_is, tNot_is, tCmp1_is, tCmp2_is, tAnds2_is, tOrs2_is, tOrs3_is, tOrs4_is, bAdd, bSub, bMul, bDiv, bMod, bPow, cEq, cNe, cLt, cLe, cGt, cGe, cIs, cIsn, addI, subI, negI, ltI, leI, rnotI, andB, orB, List.set_cons_succ, List.set_cons_zero, R.bind_ok, B_int]) (fin _ (by unfold np; rw [if_neg h1, if_neg h2, if_pos h])))
    have h3 : ¬ (b < p ∧ p ≤ c) := by intro z; rw [decide_eq_true z.1, decide_eq_true z.2] at h; cases h
    exact w_one (w_ret (d := .int p) (by simp only [eBin_is, eCall_is, eIx_is, eTup_is, eLst_is, eT_is, eIf_is, evs_nil, evs_cons, eV0, eVs, eC_is, tTru_is, tNot_is, tCmp1_is, tCmp2_is, tAnds2_is, tOrs2_is, tOrs3_is, tOrs4_is, bAdd, bSub, bMul, bDiv, bMod, bPow, cEq, cNe, cLt, cLe, cGt, cGe, cIs, cIsn, addI, subI, negI, ltI, leI, rnotI, andB, orB, List.set_cons_succ, List.set_cons_zero, R.bind_ok, B_int]) (fin _ (by unfold np; rw [if_neg h1, if_neg h2, if_neg h3]))))
  exact h
abbrev Srt (ns : List Int) : Prop := ns.Pairwise (· < ·)
theorem il_get {ns : List Int} {j : Nat} {n : Int} (h : ns[j]? = some n) {k : Int} (hk : k = j) : idxD (il ns) (.int k) = .ok (.int n) := by
  have hj := (List.getElem?_eq_some_iff.mp h).1
  obtain ⟨m, h1, _, h2⟩ := il_at (ns := ns) (k := k) (by omega) (by omega)
  rw [show k.toNat = j by omega, h] at h1
  cases h1
  exact h2
theorem srt_lt {ns : List Int} (s : Srt ns) {i j : Nat} {x y : Int} (hi : ns[i]? = some x) (hj : ns[j]? = some y) (h : i < j) : x < y := by
  obtain ⟨h1, rfl⟩ := List.getElem?_eq_some_iff.mp hi
  obtain ⟨h2, rfl⟩ := List.getElem?_eq_some_iff.mp hj
  exact List.pairwise_iff_getElem.mp s i j h1 h2 h
theorem enum_ints {ns : List Int} {j : Nat} {d : D} (h : (enumL 0 (ns.map PyData.int))[j]? = some d) : ∃ n k : Int, ns[j]? = some n ∧ k = j ∧ d = .tuple [.int k, .int n] := by
  obtain ⟨y, h1, h2⟩ := enum_get _ 0 j d h
  rw [List.getElem?_map] at h1
  obtain ⟨n, h3, rfl⟩ := Option.map_eq_some_iff.mp h1
  exact ⟨n, _, h3, rfl, by rw [h2, Nat.zero_add]⟩
theorem before {ns : List Int} {j : Nat} {n : Int} (h : ns[j]? = some n) (hj : 0 < j) : ∃ q, ns[j - 1]? = some q := by
  have := (List.getElem?_eq_some_iff.mp h).1
  exact ⟨_, List.getElem?_eq_getElem (show j - 1 < ns.length by omega)⟩
theorem bad_ok {P : Int} {ns : List Int} (s : Srt ns) (h : ∀ n ∈ ns, 1 ≤ n ∧ n ≤ P) : m_bad_of [.int P, il ns] = .ok .none := by
  obtain ⟨d, h, rfl⟩ := run_flat (np := 2) (m := 4) (o := false) (body := b_bad_of) (as := [.int P, il ns]) (rt := fun d => d = .none) rfl (by
    show W4 (b_bad_of [some (.int P), some (il ns), none, none]) _ noB noB _
    unfold b_bad_of
    refine w_seq2 (w_for (ds := enumL 0 (ns.map .int)) (fun j δ => ∃ x2 x3, δ = [some (.int P), some (il ns), x2, x3]) rfl ⟨none, none, rfl⟩ ?_ ?_)
    · rintro j d δ hd ⟨x2, x3, rfl⟩
      obtain ⟨n, k, hn, hk, rfl⟩ := enum_ints hd
      obtain ⟨h1, h2⟩ := h n (List.mem_of_getElem? hn)
      refine ⟨[some (.int P), some (il ns), some (.int k), some (.int n)], rfl, ?_⟩
      refine w_one (w_if_f ?_ (w_nil ⟨_, _, rfl⟩))
      by_cases hj : 0 < j
      · obtain ⟨q, hq⟩ := before hn hj
        have e := il_get hq (k := k - 1) (by omega)
        have lt := srt_lt s hq hn (by omega)
        simp only [eBin_is, eCall_is, eIx_is, eTup_is, eLst_is, eT_is, eIf_is, evs_nil, evs_cons, eV0, eVs, eC_is, tTru_is, tNot_is, tCmp1_is, tCmp2_is, tAnds2_is, tOrs2_is, tOrs3_is, tOrs4_is, bAdd, bSub, bMul, bDiv, bMod, bPow, cEq, cNe, cLt, cLe, cGt, cGe, cIs, cIsn, addI, subI, negI, ltI, leI, rnotI, andB, orB, List.set_cons_succ, List.set_cons_zero, R.bind_ok, B_int, e]
        rw [decide_eq_true h1, decide_eq_true h2, decide_eq_false (show ¬ n ≤ q by omega)]
        cases decide (0 < k) <;> rfl
      · have e : decide (0 < k) = false := decide_eq_false (by omega)
        simp only [eBin_is, eCall_is, eIx_is, eTup_is, eLst_is, eT_is, eIf_is, evs_nil, evs_cons, eV0, eVs, eC_is, tTru_is, tNot_is, tCmp1_is, tCmp2_is, tAnds2_is, tOrs2_is, tOrs3_is, tOrs4_is, bAdd, bSub, bMul, bDiv, bMod, bPow, cEq, cNe, cLt, cLe, cGt, cGe, cIs, cIsn, addI, subI, negI, ltI, leI, rnotI, andB, orB, List.set_cons_succ, List.set_cons_zero, R.bind_ok, B_int, e]
        rw [decide_eq_true h1, decide_eq_true h2]
        rfl
    · rintro δ ⟨x2, x3, rfl⟩
      exact w_one (w_ret (d := .none) rfl ⟨rfl, rfl⟩))
  exact h
theorem badp_ok {ns : List Int} (s : Srt ns) (h : ∀ n ∈ ns, 1 ≤ n ∧ n ≤ 999) : m_bad_page [il ns] = .ok .none := by
  obtain ⟨d, h, rfl⟩ := run_flat (np := 1) (m := 3) (o := false) (body := b_bad_page) (as := [il ns]) (rt := fun d => d = .none) rfl (by
    show W4 (b_bad_page [some (il ns), none, none]) _ noB noB _
    unfold b_bad_page
    refine w_seq2 (w_for (ds := enumL 0 (ns.map .int)) (fun j δ => ∃ x2 x3, δ = [some (il ns), x2, x3]) rfl ⟨none, none, rfl⟩ ?_ ?_)
    · rintro j d δ hd ⟨x2, x3, rfl⟩
      obtain ⟨n, k, hn, hk, rfl⟩ := enum_ints hd
      obtain ⟨h1, h2⟩ := h n (List.mem_of_getElem? hn)
      refine ⟨[some (il ns), some (.int k), some (.int n)], rfl, ?_⟩
      refine w_one (w_if_f ?_ (w_nil ⟨_, _, rfl⟩))
      by_cases hj : 0 < j
      · obtain ⟨q, hq⟩ := before hn hj
        have e := il_get hq (k := k - 1) (by omega)
        have lt := srt_lt s hq hn (by omega)
        simp only [eBin_is, eCall_is, eIx_is, eTup_is, eLst_is, eT_is, eIf_is, evs_nil, evs_cons, eV0, eVs, eC_is, tTru_is, tNot_is, tCmp1_is, tCmp2_is, tAnds2_is, tOrs2_is, tOrs3_is, tOrs4_is, bAdd, bSub, bMul, bDiv, bMod, bPow, cEq, cNe, cLt, cLe, cGt, cGe, cIs, cIsn, addI, subI, negI, ltI, leI, rnotI, andB, orB, List.set_cons_succ, List.set_cons_zero, R.bind_ok, B_int, e]
        rw [decide_eq_true h1, decide_eq_true h2, decide_eq_false (show ¬ n ≤ q by omega)]
        cases decide (0 < k) <;> rfl
      · have e : decide (0 < k) = false := decide_eq_false (by omega)
        simp only [eBin_is, eCall_is, eIx_is, eTup_is, eLst_is, eT_is, eIf_is, evs_nil, evs_cons, eV0, eVs, eC_is, tTru_is, tNot_is, tCmp1_is, tCmp2_is, tAnds2_is, tOrs2_is, tOrs3_is, tOrs4_is, bAdd, bSub, bMul, bDiv, bMod, bPow, cEq, cNe, cLt, cLe, cGt, cGe, cIs, cIsn, addI, subI, negI, ltI, leI, rnotI, andB, orB, List.set_cons_succ, List.set_cons_zero, R.bind_ok, B_int, e]
        rw [decide_eq_true h1, decide_eq_true h2]
        rfl
    · rintro δ ⟨x2, x3, rfl⟩
      exact w_one (w_ret (d := .none) rfl ⟨rfl, rfl⟩))
  exact h
/-- how many runs -/
def fst (ns : List Int) (n : Int) : Bool := !(ns.contains (n - 1))
def rn (ns : List Int) : Int := (ns.filter (fst ns)).length
theorem fst_at {ns : List Int} (s : Srt ns) {j : Nat} {n : Int} (h : ns[j]? = some n) : fst ns n = (decide (j = 0) || (match ns[j - 1]? with | some q => !decide (q + 1 = n) | none => true)) := by
  unfold fst
  by_cases hj : j = 0
  · rw [decide_eq_true hj, Bool.true_or]
    rw [Bool.not_eq_true', Bool.eq_false_iff]
    intro hc
    have hc : n - 1 ∈ ns := by simpa using hc
    obtain ⟨i, hi⟩ := List.getElem?_of_mem hc
    by_cases z : i = j
    · rw [z, h] at hi; have := Option.some.inj hi; omega
    · have := srt_lt s h hi (by omega); omega
  · rw [decide_eq_false hj, Bool.false_or]
    obtain ⟨q, hq⟩ := before h (by omega)
    rw [hq]
    dsimp only
    congr 1
    rw [Bool.eq_iff_iff, decide_eq_true_eq]
    constructor
    · intro hc
      have hc : n - 1 ∈ ns := by simpa using hc
      obtain ⟨i, hi⟩ := List.getElem?_of_mem hc
      have h3 : i < j := by
        apply Classical.byContradiction
        intro z
        by_cases z2 : i = j
        · rw [z2, h] at hi; have := Option.some.inj hi; omega
        · have := srt_lt s h hi (by omega); omega
      by_cases h4 : i = j - 1
      · rw [h4, hq] at hi; have := Option.some.inj hi; omega
      · have h5 := srt_lt s hi hq (by omega)
        have h6 := srt_lt s hq h (by omega)
        omega
    · intro hc
      have : n - 1 ∈ ns := by rw [← hc, Int.add_sub_cancel]; exact List.mem_of_getElem? hq
      simpa using this
theorem enum_count {p : D → Bool} {q : Int → Bool} : ∀ (ns : List Int) (k : Nat), (∀ (j : Nat) (n : Int), ns[j]? = some n → p (.tuple [.int ((k + j : Nat) : Int), .int n]) = q n) → ((enumL k (ns.map .int)).filter p).length = (ns.filter q).length
  | [], _, _ => rfl
  | n :: ns, k, h => by
    have ih := enum_count (p := p) (q := q) ns (k + 1) fun j m hm => by
      have := h (j + 1) m (by simpa using hm)
      rw [show k + (j + 1) = k + 1 + j by omega] at this
      exact this
    have h0 := h 0 n rfl
    rw [Nat.add_zero] at h0
    show ((PyData.tuple [.int (k : Int), .int n] :: enumL (k + 1) (ns.map .int)).filter p).length = _
    cases hq : q n with
    | true => rw [List.filter_cons_of_pos (by rw [h0, hq]), List.filter_cons_of_pos hq, List.length_cons, List.length_cons, ih]
    | false => rw [List.filter_cons_of_neg (by rw [h0, hq]; simp), List.filter_cons_of_neg (by rw [hq]; simp), ih]
theorem mem_ints (ns : List Int) (x : Int) : memD (.int x) (ns.map .int) = .ok (ns.contains x) := by
  unfold memD
  rw [show fl deep (.int x) = true from rfl, fl_all_ints]
  show Dv.R.ok _ = _
  congr 1
  induction ns with
  | nil => rfl
  | cons n ns ih =>
    rw [List.map_cons, List.any_cons, ih, List.contains_cons]
    congr 1
    show (n == x) = (x == n)
    rw [Bool.beq_comm]
theorem lawruns_ok {ns : List Int} (hl : ns.length ≤ lim) : m_u_law_runs [il ns] = .ok (.int (rn ns)) := by
  obtain ⟨d, h, rfl⟩ := run_flat (np := 1) (m := 2) (o := true) (body := b_u_law_runs) (as := [il ns]) (rt := fun d => d = .int (rn ns)) rfl (by
    show W4 (b_u_law_runs [some (il ns), none]) _ noB noB _
    unfold b_u_law_runs
    refine w_one (w_ret (d := .int (rn ns)) ?_ ⟨rfl, rfl⟩)
    have e := lc_int (own := [1]) (i := 1) (it := iExp (eV 0)) (t := tCmp (eBin .Sub (eV 1) (eC (.int 1))) [(.NotIn, eV 0)]) (e := eV 1) (δ := [some (il ns), none]) (ns := ns) (fst ns) .int rfl hl fun n _ => by
      refine ⟨?_, fun _ => rfl⟩
      show tCmp _ _ [some (il ns), some (.int n)] = _
      simp only [eBin_is, eCall_is, eIx_is, eTup_is, eLst_is, eT_is, eIf_is, evs_nil, evs_cons, eV0, eVs, eC_is, tTru_is, tNot_is, tCmp1_is, tCmp2_is, tAnds2_is, tOrs2_is, tOrs3_is, tOrs4_is, bAdd, bSub, bMul, bDiv, bMod, bPow, cEq, cNe, cLt, cLe, cGt, cGe, cIs, cIsn, addI, subI, negI, ltI, leI, rnotI, andB, orB, List.set_cons_succ, List.set_cons_zero, R.bind_ok, B_int, cNin]
      show rnot (memD (.int (n - 1)) (ns.map .int)) = _
      rw [mem_ints]
      rfl
    simp only [eCall_is, evs_cons, evs_nil, e, R.bind_ok, B_len, List.length_map]
    rfl)
  exact h
theorem runs_ok {ns : List Int} (s : Srt ns) (hl : ns.length ≤ lim) : m_runs_of [il ns] = .ok (.int (rn ns)) := by
  obtain ⟨d, h, rfl⟩ := run_flat (np := 1) (m := 3) (o := true) (body := b_runs_of) (as := [il ns]) (rt := fun d => d = .int (rn ns)) rfl (by
    show W4 (b_runs_of [some (il ns), none, none]) _ noB noB _
    unfold b_runs_of
    refine w_one (w_ret (d := .int (rn ns)) ?_ ⟨rfl, rfl⟩)
    have e := lc_pure (own := [1, 2]) (g := gTp [gNm 1, gNm 2]) (it := iEnum (eV 0)) (t := tOrs [tCmp (eV 1) [(.Eq, eC (.int 0))], tCmp (eBin .Add (eIx (eV 0) (eBin .Sub (eV 1) (eC (.int 1)))) (eC (.int 1))) [(.NotEq, eV 2)]]) (e := eV 1) (δ := [some (il ns), none, none]) (ds := enumL 0 (ns.map .int))
      (fun d => match d with | .tuple [x, y] => [some (il ns), some x, some y] | _ => [])
      (fun d => match d with | .tuple [.int k, .int n] => decide (k = 0) || (match idxD (il ns) (.int (k - 1)) with | .ok (.int q) => !decide (q + 1 = n) | _ => true) | _ => false)
      (fun d => match d with | .tuple [x, y] => x | d => d) rfl (by rw [enum_len, List.length_map]; exact hl) fun d hd => by
        obtain ⟨j, hj⟩ := List.getElem?_of_mem hd
        obtain ⟨n, k, hn, hk, rfl⟩ := enum_ints hj
        refine ⟨rfl, ?_, fun _ => rfl⟩
        dsimp only
        by_cases z : j = 0
        · have e0 : decide (k = 0) = true := decide_eq_true (by omega)
          simp only [eBin_is, eCall_is, eIx_is, eTup_is, eLst_is, eT_is, eIf_is, evs_nil, evs_cons, eV0, eVs, eC_is, tTru_is, tNot_is, tCmp1_is, tCmp2_is, tAnds2_is, tOrs2_is, tOrs3_is, tOrs4_is, bAdd, bSub, bMul, bDiv, bMod, bPow, cEq, cNe, cLt, cLe, cGt, cGe, cIs, cIsn, addI, subI, negI, ltI, leI, rnotI, andB, orB, List.set_cons_succ, List.set_cons_zero, R.bind_ok, B_int, eq_int, e0, Bool.true_or, if_pos]
        · have e0 : decide (k = 0) = false := decide_eq_false (by omega)
          obtain ⟨q, hq⟩ := before hn (by omega)
          have e := il_get hq (k := k - 1) (by omega)
          simp only [eBin_is, eCall_is, eIx_is, eTup_is, eLst_is, eT_is, eIf_is, evs_nil, evs_cons, eV0, eVs, eC_is, tTru_is, tNot_is, tCmp1_is, tCmp2_is, tAnds2_is, tOrs2_is, tOrs3_is, tOrs4_is, bAdd, bSub, bMul, bDiv, bMod, bPow, cEq, cNe, cLt, cLe, cGt, cGe, cIs, cIsn, addI, subI, negI, ltI, leI, rnotI, andB, orB, List.set_cons_succ, List.set_cons_zero, R.bind_ok, B_int, eq_int, e0, e]
    have e2 := enum_count (p := fun d => match d with | .tuple [.int k, .int n] => decide (k = 0) || (match idxD (il ns) (.int (k - 1)) with | .ok (.int q) => !decide (q + 1 = n) | _ => true) | _ => false) (q := fst ns) ns 0 fun j n hn => by
      rw [fst_at s hn, Nat.zero_add]
      dsimp only
      by_cases z : j = 0
      · have e0 : decide ((j : Int) = 0) = true := decide_eq_true (by omega)
        rw [e0, decide_eq_true z]
        rfl
      · have e0 : decide ((j : Int) = 0) = false := decide_eq_false (by omega)
        obtain ⟨q, hq⟩ := before hn (by omega)
        have e := il_get hq (k := (j : Int) - 1) (by omega)
        rw [e0, decide_eq_false z, e, hq]
    simp only [eCall_is, evs_cons, evs_nil, e, R.bind_ok, B_len, List.length_map]
    show Dv.R.ok (PyData.int _) = _
    unfold rn
    rw [e2])
  exact h
theorem pages_ok {ns : List Int} (s : Srt ns) (h : ∀ n ∈ ns, 1 ≤ n ∧ n ≤ 999) : m_check_pages [il ns] = .ok .none := by
  obtain ⟨d, h, rfl⟩ := run_flat (np := 1) (m := 1) (o := true) (body := b_check_pages) (as := [il ns]) (rt := fun d => d = .none) rfl (by
    show W4 (b_check_pages [some (il ns)]) _ noB noB _
    unfold b_check_pages
    refine w_one (w_if_f ?_ (w_nil ⟨rfl, rfl⟩))
    simp only [eBin_is, eCall_is, eIx_is, eTup_is, eLst_is, eT_is, eIf_is, evs_nil, evs_cons, eV0, eVs, eC_is, tTru_is, tNot_is, tCmp1_is, tCmp2_is, tAnds2_is, tOrs2_is, tOrs3_is, tOrs4_is, bAdd, bSub, bMul, bDiv, bMod, bPow, cEq, cNe, cLt, cLe, cGt, cGe, cIs, cIsn, addI, subI, negI, ltI, leI, rnotI, andB, orB, List.set_cons_succ, List.set_cons_zero, R.bind_ok, B_int, badp_ok s h]
    rfl)
  exact h
theorem count_ok {ns : List Int} (s : Srt ns) (h : ∀ n ∈ ns, 1 ≤ n ∧ n ≤ 999) (hl : ns.length ≤ lim) : m_count_runs [il ns] = .ok (.int (rn ns)) := by
  obtain ⟨d, h, rfl⟩ := run_flat (np := 1) (m := 1) (o := true) (body := b_count_runs) (as := [il ns]) (rt := fun d => d = .int (rn ns)) rfl (by
    show W4 (b_count_runs [some (il ns)]) _ noB noB _
    unfold b_count_runs
    refine w_seq2 (w_drop (d := .none) (by simp only [eBin_is, eCall_is, eIx_is, eTup_is, eLst_is, eT_is, eIf_is, evs_nil, evs_cons, eV0, eVs, eC_is, tTru_is, tNot_is, tCmp1_is, tCmp2_is, tAnds2_is, tOrs2_is, tOrs3_is, tOrs4_is, bAdd, bSub, bMul, bDiv, bMod, bPow, cEq, cNe, cLt, cLe, cGt, cGe, cIs, cIsn, addI, subI, negI, ltI, leI, rnotI, andB, orB, List.set_cons_succ, List.set_cons_zero, R.bind_ok, B_int, pages_ok s h]) ?_)
    exact w_one (w_ret (d := .int (rn ns)) (by simp only [eBin_is, eCall_is, eIx_is, eTup_is, eLst_is, eT_is, eIf_is, evs_nil, evs_cons, eV0, eVs, eC_is, tTru_is, tNot_is, tCmp1_is, tCmp2_is, tAnds2_is, tOrs2_is, tOrs3_is, tOrs4_is, bAdd, bSub, bMul, bDiv, bMod, bPow, cEq, cNe, cLt, cLe, cGt, cGe, cIs, cIsn, addI, subI, negI, ltI, leI, rnotI, andB, orB, List.set_cons_succ, List.set_cons_zero, R.bind_ok, B_int, runs_ok s hl]) ⟨rfl, rfl⟩))
  exact h
/-! ### moved, back, broken -/
/-- the pages of a head behind the move -/
def mvd (a b c : Int) (ns : List Int) : List Int := isort (ns.map (np a b c))
theorem isort_srt {ns : List Int} (nd : ns.Nodup) : Srt (isort ns) := by
  have h1 := isort_sorted ns
  have h2 : (isort ns).Nodup := (isort_perm ns).nodup_iff.mpr nd
  exact (h1.and h2).imp fun ⟨x, y⟩ => by omega
structure Hd (P : Int) (ns : List Int) : Prop where
  s : Srt ns
  r : ∀ n ∈ ns, 1 ≤ n ∧ n ≤ P
  l : ns.length ≤ 1000
theorem Hd.mvd {P a b c : Int} {ns : List Int} (m : Mv P a b c) (h : Hd P ns) : Hd P (Q.mvd a b c ns) := by
  have nd : (ns.map (np a b c)).Nodup := by
    show List.Pairwise _ _
    rw [List.pairwise_map]
    exact h.s.imp_of_mem fun {x y} hx hy lt z => by have := np_inj m (h.r x hx) (h.r y hy) z; omega
  refine ⟨isort_srt nd, fun n hn => ?_, ?_⟩
  · have := (isort_perm _).mem_iff.mp hn
    obtain ⟨p, hp, rfl⟩ := List.mem_map.mp this
    exact np_in m (h.r p hp).1 (h.r p hp).2
  · rw [Q.mvd, (isort_perm _).length_eq, List.length_map]; exact h.l
theorem Hd.lim {P : Int} {ns : List Int} (h : Hd P ns) : ns.length ≤ Dv.lim := Nat.le_trans h.l (by decide)
theorem mvd_is {a b c : Int} {own : List Nat} {i : Nat} {it : DI} {δ : Dv.Env} {ns : List Int} {mv : DE} (hi : it δ = .ok (ns.map .int)) (hl : ns.length ≤ lim) (hm : ∀ n ∈ ns, mv ((wipeE δ own).set i (some (.int n))) = .ok (mvD a b c)) (hi2 : i < δ.length) :
    eCall (callB "sorted") [eLc own (gNm i) it tYes (eCall m_new_page [mv, eV i])] δ = .ok (il (mvd a b c ns)) := by
  have e := lc_int (own := own) (i := i) (it := it) (t := tYes) (e := eCall m_new_page [mv, eV i]) (δ := δ) (ns := ns) (fun _ => true) (fun n => .int (np a b c n)) hi hl fun n hn => by
    refine ⟨rfl, fun _ => ?_⟩
    have e2 : eV i ((wipeE δ own).set i (some (.int n))) = .ok (.int n) := eV_is (List.getElem?_set_self (by rw [wipeE_len]; exact hi2))
    simp only [eCall_is, evs_cons, evs_nil, hm n hn, e2, R.bind_ok, page_ok]
  have e3 : ((ns.filter fun _ => true).map fun n => PyData.int (np a b c n)) = (ns.map (np a b c)).map .int := by
    rw [List.filter_eq_self.mpr (fun _ _ => rfl), List.map_map]; rfl
  rw [e3] at e
  simp only [eCall_is, evs_cons, evs_nil, e, R.bind_ok, B_sorted]
  exact sort_ints (by rw [List.length_map]; exact hl)
theorem moved_ok {P a b c : Int} {ns : List Int} (m : Mv P a b c) (h : Hd P ns) : m_moved [.int P, mvD a b c, il ns] = .ok (il (mvd a b c ns)) := by
  obtain ⟨d, h, rfl⟩ := run_flat (np := 3) (m := 4) (o := true) (body := b_moved) (as := [.int P, mvD a b c, il ns]) (rt := fun d => d = il (mvd a b c ns)) rfl (by
    show W4 (b_moved [some (.int P), some (mvD a b c), some (il ns), none]) _ noB noB _
    unfold b_moved
    refine w_seq2 (w_drop (d := .none) (by simp only [eBin_is, eCall_is, eIx_is, eTup_is, eLst_is, eT_is, eIf_is, evs_nil, evs_cons, eV0, eVs, eC_is, tTru_is, tNot_is, tCmp1_is, tCmp2_is, tAnds2_is, tOrs2_is, tOrs3_is, tOrs4_is, bAdd, bSub, bMul, bDiv, bMod, bPow, cEq, cNe, cLt, cLe, cGt, cGe, cIs, cIsn, addI, subI, negI, ltI, leI, rnotI, andB, orB, List.set_cons_succ, List.set_cons_zero, R.bind_ok, B_int, check_ok m]) ?_)
    refine w_seq2 (w_if_f ?_ (w_nil ?_))
    · simp only [eBin_is, eCall_is, eIx_is, eTup_is, eLst_is, eT_is, eIf_is, evs_nil, evs_cons, eV0, eVs, eC_is, tTru_is, tNot_is, tCmp1_is, tCmp2_is, tAnds2_is, tOrs2_is, tOrs3_is, tOrs4_is, bAdd, bSub, bMul, bDiv, bMod, bPow, cEq, cNe, cLt, cLe, cGt, cGe, cIs, cIsn, addI, subI, negI, ltI, leI, rnotI, andB, orB, List.set_cons_succ, List.set_cons_zero, R.bind_ok, B_int, bad_ok h.s h.r]; rfl
    · exact w_one (w_ret (d := il (mvd a b c ns)) (mvd_is rfl h.lim (fun n _ => rfl) (by simp)) ⟨flat_ints _, rfl⟩))
  exact h
theorem back_ok {P a b c : Int} (m : Mv P a b c) : m_back [.int P, mvD a b c] = .ok (mvD (np a b c a) (np a b c b) (bc a b c)) := by
  obtain ⟨d, h, rfl⟩ := run_flat (np := 2) (m := 7) (o := true) (body := b_back) (as := [.int P, mvD a b c]) (rt := fun d => d = mvD (np a b c a) (np a b c b) (bc a b c)) rfl (by
    show W4 (b_back [some (.int P), some (mvD a b c), none, none, none, none, none]) _ noB noB _
    unfold b_back
    refine w_seq2 (w_drop (d := .none) (by simp only [eBin_is, eCall_is, eIx_is, eTup_is, eLst_is, eT_is, eIf_is, evs_nil, evs_cons, eV0, eVs, eC_is, tTru_is, tNot_is, tCmp1_is, tCmp2_is, tAnds2_is, tOrs2_is, tOrs3_is, tOrs4_is, bAdd, bSub, bMul, bDiv, bMod, bPow, cEq, cNe, cLt, cLe, cGt, cGe, cIs, cIsn, addI, subI, negI, ltI, leI, rnotI, andB, orB, List.set_cons_succ, List.set_cons_zero, R.bind_ok, B_int, check_ok m]) ?_)
    refine w_seq2 (w_asg (d := mvD a b c) (δ' := [some (.int P), some (mvD a b c), none, none, some (.int a), some (.int b), some (.int c)]) rfl rfl ?_)
    refine w_seq2 (w_set (d := .int (np a b c a)) (by simp only [eBin_is, eCall_is, eIx_is, eTup_is, eLst_is, eT_is, eIf_is, evs_nil, evs_cons, eV0, eVs, eC_is, tTru_is, tNot_is, tCmp1_is, tCmp2_is, tAnds2_is, tOrs2_is, tOrs3_is, tOrs4_is, bAdd, bSub, bMul, bDiv, bMod, bPow, cEq, cNe, cLt, cLe, cGt, cGe, cIs, cIsn, addI, subI, negI, ltI, leI, rnotI, andB, orB, List.set_cons_succ, List.set_cons_zero, R.bind_ok, B_int, page_ok]) ?_)
    refine w_seq2 (w_set (d := .int (np a b c b)) (by simp only [eBin_is, eCall_is, eIx_is, eTup_is, eLst_is, eT_is, eIf_is, evs_nil, evs_cons, eV0, eVs, eC_is, tTru_is, tNot_is, tCmp1_is, tCmp2_is, tAnds2_is, tOrs2_is, tOrs3_is, tOrs4_is, bAdd, bSub, bMul, bDiv, bMod, bPow, cEq, cNe, cLt, cLe, cGt, cGe, cIs, cIsn, addI, subI, negI, ltI, leI, rnotI, andB, orB, List.set_cons_succ, List.set_cons_zero, R.bind_ok, B_int, page_ok]) ?_)
    refine w_one (w_ret (d := mvD (np a b c a) (np a b c b) (bc a b c)) ?_ ⟨rfl, rfl⟩)
    simp only [eBin_is, eCall_is, eIx_is, eTup_is, eLst_is, eT_is, eIf_is, evs_nil, evs_cons, eV0, eVs, eC_is, tTru_is, tNot_is, tCmp1_is, tCmp2_is, tAnds2_is, tOrs2_is, tOrs3_is, tOrs4_is, bAdd, bSub, bMul, bDiv, bMod, bPow, cEq, cNe, cLt, cLe, cGt, cGe, cIs, cIsn, addI, subI, negI, ltI, leI, rnotI, andB, orB, List.set_cons_succ, List.set_cons_zero, R.bind_ok, B_int, bc]
    by_cases hc : a ≤ np a b c a
    · rw [decide_eq_true hc, if_pos rfl, if_pos hc]; rfl
    · rw [decide_eq_false hc, if_neg (by simp), if_neg hc]; rfl)
  exact h
theorem mvd_back {P a b c : Int} {ns : List Int} (m : Mv P a b c) (h : Hd P ns) : mvd (np a b c a) (np a b c b) (bc a b c) (mvd a b c ns) = ns := by
  refine sorted_eq ?_ (isort_sorted _) (h.s.imp fun h => Int.le_of_lt h)
  refine (isort_perm _).trans ?_
  have p := (isort_perm (ns.map (np a b c))).map (np (np a b c a) (np a b c b) (bc a b c))
  refine p.trans ?_
  rw [List.map_map]
  have e : ns.map (np (np a b c a) (np a b c b) (bc a b c) ∘ np a b c) = ns := by
    conv => rhs; rw [← List.map_id ns]
    exact List.map_congr_left fun x hx => np_back m (h.r x hx).1 (h.r x hx).2
  rw [e]
/-- a list of heads -/
abbrev hdD (hs : List (List Int)) : D := .list (hs.map il)
def dueL (a b c : Int) (hs : List (List Int)) : Nat → List Int
  | 0 => []
  | j + 1 => dueL a b c hs j ++ (match hs[j]? with | some ns => if rn (mvd a b c ns) > rn ns then [(j : Int)] else [] | none => [])
theorem due_len {a b c : Int} {hs : List (List Int)} : ∀ j, (dueL a b c hs j).length ≤ j
  | 0 => Nat.le_refl _
  | j + 1 => by
    have := due_len (a := a) (b := b) (c := c) (hs := hs) j
    unfold dueL
    rw [List.length_append]
    cases hs[j]? with
    | none => simp; omega
    | some ns => dsimp only; split <;> simp <;> omega
theorem enum_heads {hs : List (List Int)} {j : Nat} {d : D} (h : (enumL 0 (hs.map il))[j]? = some d) : ∃ (ns : List Int) (k : Int), hs[j]? = some ns ∧ k = j ∧ d = .tuple [.int k, il ns] := by
  obtain ⟨y, h1, h2⟩ := enum_get _ 0 j d h
  rw [List.getElem?_map] at h1
  obtain ⟨n, h3, rfl⟩ := Option.map_eq_some_iff.mp h1
  exact ⟨n, _, h3, rfl, by rw [h2, Nat.zero_add]⟩
theorem broken_ok {P a b c : Int} {hs : List (List Int)} (m : Mv P a b c) (h : ∀ ns ∈ hs, Hd P ns) (h1 : 1 ≤ hs.length) (h8 : hs.length ≤ 8) : m_broken [.int P, mvD a b c, hdD hs] = .ok (il (dueL a b c hs hs.length)) := by
  obtain ⟨d, h, rfl⟩ := run_flat (np := 3) (m := 7) (o := true) (body := b_broken) (as := [.int P, mvD a b c, hdD hs]) (rt := fun d => d = il (dueL a b c hs hs.length)) rfl (by
    show W4 (b_broken [some (.int P), some (mvD a b c), some (hdD hs), none, none, none, none]) _ noB noB _
    unfold b_broken
    refine w_seq2 (w_drop (d := .none) (by simp only [eBin_is, eCall_is, eIx_is, eTup_is, eLst_is, eT_is, eIf_is, evs_nil, evs_cons, eV0, eVs, eC_is, tTru_is, tNot_is, tCmp1_is, tCmp2_is, tAnds2_is, tOrs2_is, tOrs3_is, tOrs4_is, bAdd, bSub, bMul, bDiv, bMod, bPow, cEq, cNe, cLt, cLe, cGt, cGe, cIs, cIsn, addI, subI, negI, ltI, leI, rnotI, andB, orB, List.set_cons_succ, List.set_cons_zero, R.bind_ok, B_int, check_ok m]) ?_)
    refine w_seq2 (w_if_f ?_ (w_nil ?_))
    · simp only [eBin_is, eCall_is, eIx_is, eTup_is, eLst_is, eT_is, eIf_is, evs_nil, evs_cons, eV0, eVs, eC_is, tTru_is, tNot_is, tCmp1_is, tCmp2_is, tAnds2_is, tOrs2_is, tOrs3_is, tOrs4_is, bAdd, bSub, bMul, bDiv, bMod, bPow, cEq, cNe, cLt, cLe, cGt, cGe, cIs, cIsn, addI, subI, negI, ltI, leI, rnotI, andB, orB, List.set_cons_succ, List.set_cons_zero, R.bind_ok, B_int, B_len, List.length_map]
      rw [decide_eq_true (show (1 : Int) ≤ (hs.length : Int) by omega), decide_eq_true (show (hs.length : Int) ≤ 8 by omega)]
      rfl
    refine w_seq2 (w_for (ds := enumL 0 (hs.map il)) (fun j δ => ∃ x4 x5, δ = [some (.int P), some (mvD a b c), some (hdD hs), none, x4, x5, none]) rfl ⟨none, none, rfl⟩ ?_ ?_)
    · rintro j d δ hd ⟨x4, x5, rfl⟩
      obtain ⟨ns, k, hn, hk, rfl⟩ := enum_heads hd
      have g := h ns (List.mem_of_getElem? hn)
      refine ⟨[some (.int P), some (mvD a b c), some (hdD hs), none, some (.int k), some (il ns), none], rfl, ?_⟩
      refine w_one (w_if_f ?_ (w_nil ⟨_, _, rfl⟩))
      simp only [eBin_is, eCall_is, eIx_is, eTup_is, eLst_is, eT_is, eIf_is, evs_nil, evs_cons, eV0, eVs, eC_is, tTru_is, tNot_is, tCmp1_is, tCmp2_is, tAnds2_is, tOrs2_is, tOrs3_is, tOrs4_is, bAdd, bSub, bMul, bDiv, bMod, bPow, cEq, cNe, cLt, cLe, cGt, cGe, cIs, cIsn, addI, subI, negI, ltI, leI, rnotI, andB, orB, List.set_cons_succ, List.set_cons_zero, R.bind_ok, B_int, bad_ok g.s g.r]
      rfl
    rintro δ ⟨x4, x5, rfl⟩
    refine w_seq2 (w_set (d := il []) rfl ?_)
    refine w_seq2 (w_for (ds := enumL 0 (hs.map il)) (fun j δ => ∃ x4 x5, δ = [some (.int P), some (mvD a b c), some (hdD hs), some (il (dueL a b c hs j)), x4, x5, none]) rfl ⟨x4, x5, rfl⟩ ?_ ?_)
    · rintro j d δ hd ⟨x4, x5, rfl⟩
      obtain ⟨ns, k, hn, hk, rfl⟩ := enum_heads hd
      have hj := (List.getElem?_eq_some_iff.mp hn).1
      have g := h ns (List.mem_of_getElem? hn)
      have g2 := g.mvd m
      refine ⟨[some (.int P), some (mvD a b c), some (hdD hs), some (il (dueL a b c hs j)), some (.int k), some (il ns), none], rfl, ?_⟩
      have e1 : eCall (callB "sorted") [eLc [6] (gNm 6) (iExp (eV 5)) tYes (eCall m_new_page [eV 1, eV 6])] [some (.int P), some (mvD a b c), some (hdD hs), some (il (dueL a b c hs j)), some (.int k), some (il ns), none] = .ok (il (mvd a b c ns)) := mvd_is rfl g.lim (fun n _ => rfl) (by simp)
      have e2 : tCmp (eCall m_runs_of [eCall (callB "sorted") [eLc [6] (gNm 6) (iExp (eV 5)) tYes (eCall m_new_page [eV 1, eV 6])]]) [(.Gt, eCall m_runs_of [eV 5])] [some (.int P), some (mvD a b c), some (hdD hs), some (il (dueL a b c hs j)), some (.int k), some (il ns), none] = .ok (decide (rn ns < rn (mvd a b c ns))) := by
        rw [tCmp1_is, eCall_is, evs_cons, e1]
        simp only [eBin_is, eCall_is, eIx_is, eTup_is, eLst_is, eT_is, eIf_is, evs_nil, evs_cons, eV0, eVs, eC_is, tTru_is, tNot_is, tCmp1_is, tCmp2_is, tAnds2_is, tOrs2_is, tOrs3_is, tOrs4_is, bAdd, bSub, bMul, bDiv, bMod, bPow, cEq, cNe, cLt, cLe, cGt, cGe, cIs, cIsn, addI, subI, negI, ltI, leI, rnotI, andB, orB, List.set_cons_succ, List.set_cons_zero, R.bind_ok, B_int, runs_ok g2.s g2.lim, runs_ok g.s g.lim]
      refine w_one (w_if e2 (fun hb => ?_) fun hb => ?_)
      · have hb := of_decide_eq_true hb
        refine w_one (w_app (d := .int k) (xs := (dueL a b c hs j).map .int) (by simp only [eBin_is, eCall_is, eIx_is, eTup_is, eLst_is, eT_is, eIf_is, evs_nil, evs_cons, eV0, eVs, eC_is, tTru_is, tNot_is, tCmp1_is, tCmp2_is, tAnds2_is, tOrs2_is, tOrs3_is, tOrs4_is, bAdd, bSub, bMul, bDiv, bMod, bPow, cEq, cNe, cLt, cLe, cGt, cGe, cIs, cIsn, addI, subI, negI, ltI, leI, rnotI, andB, orB, List.set_cons_succ, List.set_cons_zero, R.bind_ok, B_int]) rfl (by rw [List.length_map]; have := due_len (a := a) (b := b) (c := c) (hs := hs) j; have : lim = 1000000 := rfl; omega) ?_)
        refine ⟨some (.int k), some (il ns), ?_⟩
        have e3 : dueL a b c hs (j + 1) = dueL a b c hs j ++ [k] := by
          show dueL a b c hs j ++ _ = _
          rw [hn]; dsimp only; rw [if_pos hb, hk]
        rw [e3, il_push]
        rfl
      · have hb := of_decide_eq_false hb
        refine w_nil ⟨some (.int k), some (il ns), ?_⟩
        have e3 : dueL a b c hs (j + 1) = dueL a b c hs j := by
          show dueL a b c hs j ++ _ = _
          rw [hn]; dsimp only; rw [if_neg hb, List.append_nil]
        rw [e3]
    · rintro δ ⟨x4, x5, rfl⟩
      rw [enum_len, List.length_map]
      exact w_one (w_ret (d := il (dueL a b c hs hs.length)) rfl ⟨flat_ints _, rfl⟩))
  exact h
/-! ### the order -/
theorem zr_app {lo m hi : Int} (h1 : lo ≤ m) (h2 : m ≤ hi) : zr lo hi = zr lo m ++ zr m hi := by
  apply List.ext_getElem?
  intro j
  rw [List.getElem?_append, len_zr]
  by_cases hj : j < (hi - lo).toNat
  · rw [zr_get hj]
    split
    · rw [zr_get (by omega)]
    · rw [zr_get (by omega)]
      congr 1
      omega
  · rw [List.getElem?_eq_none (by rw [len_zr]; omega)]
    rw [if_neg (by omega), List.getElem?_eq_none (by rw [len_zr]; omega)]
theorem zr_all {lo hi : Int} {p : Int → Bool} (h : ∀ n, lo ≤ n → n < hi → p n = true) : (zr lo hi).filter p = zr lo hi := List.filter_eq_self.mpr fun n hn => h n (mem_zr.mp hn).1 (mem_zr.mp hn).2
theorem zr_none {lo hi : Int} {p : Int → Bool} (h : ∀ n, lo ≤ n → n < hi → p n = false) : (zr lo hi).filter p = [] := List.filter_eq_nil_iff.mpr fun n hn => by rw [h n (mem_zr.mp hn).1 (mem_zr.mp hn).2]; simp
/-- ahead of the place | behind it -/
def o1 (a b c : Int) : List Int := if c < a then zr 1 (c + 1) else zr 1 a ++ zr (b + 1) (c + 1)
def o2 (P a b c : Int) : List Int := if c < a then zr (c + 1) a ++ zr (b + 1) (P + 1) else zr (c + 1) (P + 1)
def ord (P a b c : Int) : List Int := o1 a b c ++ zr a (b + 1) ++ o2 P a b c
theorem o_rest {P a b c : Int} (m : Mv P a b c) : (zr 1 (P + 1)).filter (fun n => decide (n < a) || decide (b < n)) = o1 a b c ++ o2 P a b c := by
  have := m.a0; have := m.ab; have := m.bP; have hc := m.cc
  rw [zr_app (show (1 : Int) ≤ a by omega) (show a ≤ P + 1 by omega), zr_app (show a ≤ b + 1 by omega) (show b + 1 ≤ P + 1 by omega), List.filter_append, List.filter_append]
  rw [zr_all (lo := 1) (hi := a) fun n h1 h2 => by simp; omega, zr_none (lo := a) (hi := b + 1) fun n h1 h2 => by simp; omega, zr_all (lo := b + 1) (hi := P + 1) fun n h1 h2 => by simp; omega]
  unfold o1 o2
  by_cases h : c < a
  · rw [if_pos h, if_pos h, zr_app (show (1 : Int) ≤ c + 1 by omega) (show c + 1 ≤ a by omega)]
    simp
  · rw [if_neg h, if_neg h, zr_app (lo := b + 1) (show b + 1 ≤ c + 1 by omega) (show c + 1 ≤ P + 1 by omega)]
    simp
theorem o_place {P a b c : Int} (m : Mv P a b c) : (o1 a b c ++ o2 P a b c).filter (fun n => decide (n ≤ c)) = o1 a b c := by
  have := m.a0; have := m.ab; have := m.bP; have hc := m.cc
  unfold o1 o2
  by_cases h : c < a
  · rw [if_pos h, if_pos h, List.filter_append, List.filter_append, zr_all fun n h1 h2 => by simp; omega, zr_none (lo := c + 1) fun n h1 h2 => by simp; omega, zr_none (lo := b + 1) fun n h1 h2 => by simp; omega]
    simp
  · rw [if_neg h, if_neg h, List.filter_append, List.filter_append, zr_all (lo := 1) fun n h1 h2 => by simp; omega, zr_all (lo := b + 1) fun n h1 h2 => by simp; omega, zr_none (lo := c + 1) fun n h1 h2 => by simp; omega]
    simp
theorem cut_lo {xs ys : List D} {k : Int} (h : k = xs.length) : cut (xs ++ ys) none (some k) = xs := by
  unfold cut cutE
  dsimp only
  rw [if_neg (by omega), List.drop_zero, List.length_append, show min k.toNat (xs.length + ys.length) - 0 = xs.length by omega, List.take_left']
  rfl
theorem cut_hi {xs ys : List D} {k : Int} (h : k = xs.length) : cut (xs ++ ys) (some k) none = ys := by
  unfold cut cutE
  dsimp only
  rw [if_neg (by omega), List.length_append, show min k.toNat (xs.length + ys.length) = xs.length by omega, List.drop_left' rfl]
  exact List.take_of_length_le (by omega)
theorem len_o1 {a b c : Int} : (o1 a b c).length = if c < a then (c + 1 - 1).toNat else (a - 1).toNat + (c + 1 - (b + 1)).toNat := by
  unfold o1; split
  · rw [len_zr]
  · rw [List.length_append, len_zr, len_zr]
theorem len_o2 {P a b c : Int} : (o2 P a b c).length = if c < a then (a - (c + 1)).toNat + (P + 1 - (b + 1)).toNat else (P + 1 - (c + 1)).toNat := by
  unfold o2; split
  · rw [List.length_append, len_zr, len_zr]
  · rw [len_zr]
theorem order_ok {P a b c : Int} (m : Mv P a b c) : m_u_law_order [.int P, mvD a b c] = .ok (il (ord P a b c)) := by
  have h1 := m.a0; have h2 := m.ab; have h3 := m.bP; have hc := m.cc; have h4 := m.p1
  have l1 := len_o1 (a := a) (b := b) (c := c)
  have l2 := len_o2 (P := P) (a := a) (b := b) (c := c)
  have hlim : lim = 1000000 := rfl
  have b1 : ∀ x : Int, 0 ≤ x → x ≤ 1000 → big x = true := fun x _ _ => decide_eq_true (by omega)
  obtain ⟨d, h, rfl⟩ := run_flat (np := 2) (m := 9) (o := true) (body := b_u_law_order) (as := [.int P, mvD a b c]) (rt := fun d => d = il (ord P a b c)) rfl (by
    show W4 (b_u_law_order [some (.int P), some (mvD a b c), none, none, none, none, none, none, none]) _ noB noB _
    unfold b_u_law_order
    refine w_seq2 (w_asg (d := mvD a b c) (δ' := [some (.int P), some (mvD a b c), none, none, none, some (.int a), some (.int b), some (.int c), none]) rfl rfl ?_)
    refine w_seq2 (w_set (d := il (zr a (b + 1))) ?_ ?_)
    · have e := rng2_is (a := eV 5) (b := eBin .Add (eV 6) (eC (.int 1))) (δ := [some (.int P), some (mvD a b c), none, none, none, some (.int a), some (.int b), some (.int c), none]) (i := a) (j := b + 1) rfl rfl (b1 _ (by omega) (by omega)) (b1 _ (by omega) (by omega))
      unfold eLstI
      rw [e, R.bind_ok, if_pos (by rw [List.length_map, len_zr]; omega)]
    refine w_seq2 (w_set (d := il (o1 a b c ++ o2 P a b c)) ?_ ?_)
    · rw [← o_rest m]
      exact lc_int (ns := zr 1 (P + 1)) _ .int (rng2_is rfl rfl (b1 _ (by omega) (by omega)) (b1 _ (by omega) (by omega))) (by rw [len_zr]; omega) fun n _ => ⟨by
        show tOrs _ [some (.int P), some (mvD a b c), some (il (zr a (b + 1))), none, none, some (.int a), some (.int b), some (.int c), some (.int n)] = _
        simp only [eBin_is, eCall_is, eIx_is, eTup_is, eLst_is, eT_is, eIf_is, evs_nil, evs_cons, eV0, eVs, eC_is, tTru_is, tNot_is, tCmp1_is, tCmp2_is, tAnds2_is, tOrs2_is, tOrs3_is, tOrs4_is, bAdd, bSub, bMul, bDiv, bMod, bPow, cEq, cNe, cLt, cLe, cGt, cGe, cIs, cIsn, addI, subI, negI, ltI, leI, rnotI, andB, orB, List.set_cons_succ, List.set_cons_zero, R.bind_ok, B_int], fun _ => rfl⟩
    refine w_seq2 (w_set (d := .int (o1 a b c).length) ?_ ?_)
    · have e := lc_int (own := [8]) (i := 8) (it := iExp (eV 3)) (t := tCmp (eV 8) [(.LtE, eV 7)]) (e := eV 8) (δ := [some (.int P), some (mvD a b c), some (il (zr a (b + 1))), some (il (o1 a b c ++ o2 P a b c)), none, some (.int a), some (.int b), some (.int c), none]) (ns := o1 a b c ++ o2 P a b c) (fun n => decide (n ≤ c)) .int rfl (by rw [List.length_append, l1, l2]; split <;> omega) fun n _ => ⟨by
        show tCmp _ _ [some (.int P), some (mvD a b c), some (il (zr a (b + 1))), some (il (o1 a b c ++ o2 P a b c)), none, some (.int a), some (.int b), some (.int c), some (.int n)] = _
        simp only [eBin_is, eCall_is, eIx_is, eTup_is, eLst_is, eT_is, eIf_is, evs_nil, evs_cons, eV0, eVs, eC_is, tTru_is, tNot_is, tCmp1_is, tCmp2_is, tAnds2_is, tOrs2_is, tOrs3_is, tOrs4_is, bAdd, bSub, bMul, bDiv, bMod, bPow, cEq, cNe, cLt, cLe, cGt, cGe, cIs, cIsn, addI, subI, negI, ltI, leI, rnotI, andB, orB, List.set_cons_succ, List.set_cons_zero, R.bind_ok, B_int], fun _ => rfl⟩
      rw [o_place m] at e
      show eCall _ _ [some (.int P), some (mvD a b c), some (il (zr a (b + 1))), some (il (o1 a b c ++ o2 P a b c)), none, some (.int a), some (.int b), some (.int c), none] = _
      simp only [eCall_is, evs_cons, evs_nil, e, R.bind_ok, B_len, List.length_map]
    refine w_one (w_ret (d := il (ord P a b c)) ?_ ⟨flat_ints _, rfl⟩)
    have ea : il (o1 a b c ++ o2 P a b c) = .list ((o1 a b c).map .int ++ (o2 P a b c).map .int) := by rw [il, List.map_append]
    have s1 : slD none (some ((o1 a b c).length : Int)) (il (o1 a b c ++ o2 P a b c)) = .ok (il (o1 a b c)) := by
      rw [ea]; show Dv.R.ok (PyData.list (cut _ none (some _))) = _
      rw [cut_lo (by rw [List.length_map])]
    have s2 : slD (some ((o1 a b c).length : Int)) none (il (o1 a b c ++ o2 P a b c)) = .ok (il (o2 P a b c)) := by
      rw [ea]; show Dv.R.ok (PyData.list (cut _ (some _) none)) = _
      rw [cut_hi (by rw [List.length_map])]
    show eBin _ _ _ [some (.int P), some (mvD a b c), some (il (zr a (b + 1))), some (il (o1 a b c ++ o2 P a b c)), some (.int (o1 a b c).length), some (.int a), some (.int b), some (.int c), none] = _
    have e1 : eSl (eV 3) none (some (eV 4)) [some (.int P), some (mvD a b c), some (il (zr a (b + 1))), some (il (o1 a b c ++ o2 P a b c)), some (.int (o1 a b c).length), some (.int a), some (.int b), some (.int c), none] = .ok (il (o1 a b c)) := s1
    have e2 : eSl (eV 3) (some (eV 4)) none [some (.int P), some (mvD a b c), some (il (zr a (b + 1))), some (il (o1 a b c ++ o2 P a b c)), some (.int (o1 a b c).length), some (.int a), some (.int b), some (.int c), none] = .ok (il (o2 P a b c)) := s2
    have ad : ∀ xs ys : List Int, xs.length + ys.length ≤ 5000 → addD (il xs) (il ys) = .ok (il (xs ++ ys)) := fun xs ys hl => by
      show (if _ then _ else _) = _
      rw [if_pos (by rw [List.length_map, List.length_map]; omega), il, List.map_append]
    simp only [eBin_is, e1, e2, eV0, eVs, R.bind_ok, bAdd]
    rw [ad _ _ (by rw [l1, len_zr]; split <;> omega), R.bind_ok, ad _ _ (by rw [List.length_append, l1, l2, len_zr]; split <;> omega)]
    rfl)
  exact h
theorem ord_len {P a b c : Int} (m : Mv P a b c) : (ord P a b c).length = P.toNat := by
  have h1 := m.a0; have h2 := m.ab; have h3 := m.bP; have hc := m.cc
  unfold ord
  rw [List.length_append, List.length_append, len_o1, len_o2, len_zr]
  split <;> omega
theorem zr_at {lo hi n : Int} {j : Nat} (h : (zr lo hi)[j]? = some n) : j < (hi - lo).toNat ∧ n = lo + j := by
  have hj := (List.getElem?_eq_some_iff.mp h).1
  rw [len_zr] at hj
  rw [zr_get hj] at h
  exact ⟨hj, (Option.some.inj h).symm⟩
theorem ord_at {P a b c q : Int} (m : Mv P a b c) {j : Nat} (h : (ord P a b c)[j]? = some q) : (1 ≤ q ∧ q ≤ P) ∧ np a b c q = j + 1 := by
  have h1 := m.a0; have h2 := m.ab; have h3 := m.bP; have hc := m.cc
  unfold ord o1 o2 at h
  by_cases hca : c < a
  · simp only [if_pos hca] at h
    rw [List.getElem?_append, List.getElem?_append, List.length_append, len_zr, len_zr] at h
    split at h
    · split at h
      · obtain ⟨g1, g2⟩ := zr_at h
        refine ⟨by omega, ?_⟩
        unfold np; rw [if_neg (by omega), if_neg (by omega), if_neg (by omega)]; omega
      · obtain ⟨g1, g2⟩ := zr_at h
        refine ⟨by omega, ?_⟩
        unfold np; rw [if_pos (by omega), if_pos hca]; omega
    · rw [List.getElem?_append, len_zr] at h
      split at h
      · obtain ⟨g1, g2⟩ := zr_at h
        refine ⟨by omega, ?_⟩
        unfold np; rw [if_neg (by omega), if_pos (by omega)]; omega
      · obtain ⟨g1, g2⟩ := zr_at h
        refine ⟨by omega, ?_⟩
        unfold np; rw [if_neg (by omega), if_neg (by omega), if_neg (by omega)]; omega
  · simp only [if_neg hca] at h
    rw [List.getElem?_append, List.getElem?_append, List.length_append, List.length_append, len_zr, len_zr, len_zr] at h
    split at h
    · split at h
      · rw [List.getElem?_append, len_zr] at h
        split at h
        · obtain ⟨g1, g2⟩ := zr_at h
          refine ⟨by omega, ?_⟩
          unfold np; rw [if_neg (by omega), if_neg (by omega), if_neg (by omega)]; omega
        · obtain ⟨g1, g2⟩ := zr_at h
          refine ⟨by omega, ?_⟩
          unfold np; rw [if_neg (by omega), if_neg (by omega), if_pos (by omega)]; omega
      · obtain ⟨g1, g2⟩ := zr_at h
        refine ⟨by omega, ?_⟩
        unfold np; rw [if_pos (by omega), if_neg hca]; omega
    · obtain ⟨g1, g2⟩ := zr_at h
      refine ⟨by omega, ?_⟩
      unfold np; rw [if_neg (by omega), if_neg (by omega), if_neg (by omega)]; omega
theorem index_at {p : Int} : ∀ (xs : List Int) (i k : Nat), xs[i]? = some p → (∀ j, j < i → xs[j]? ≠ some p) → indexGo (.int p) k (xs.map .int) = .ok (.int ((k + i : Nat) : Int))
  | [], _, _, h, _ => by simp at h
  | x :: xs, 0, k, h, _ => by
    have : x = p := by simpa using h
    subst this
    show (if PyData.eqv (.int x) (.int x) = true then _ else _) = _
    rw [if_pos (by show (x == x) = true; simp)]
    rfl
  | x :: xs, i + 1, k, h, hn => by
    have h0 : x ≠ p := fun z => hn 0 (by omega) (by rw [z]; rfl)
    show (if PyData.eqv (.int x) (.int p) = true then _ else _) = _
    rw [if_neg (by show ¬ (x == p) = true; simpa using h0)]
    have := index_at xs i (k + 1) (by simpa using h) fun j hj => by have := hn (j + 1) (by omega); simpa using this
    rw [this, show k + 1 + i = k + (i + 1) by omega]
theorem index_ok {P a b c p : Int} (m : Mv P a b c) (hp : 1 ≤ p ∧ p ≤ P) : callM "index" [il (ord P a b c), .int p] = .ok (.int (np a b c p - 1)) := by
  obtain ⟨r1, r2⟩ := np_in m hp.1 hp.2
  have hl := ord_len m
  have hj : (np a b c p - 1).toNat < (ord P a b c).length := by omega
  have e := List.getElem?_eq_getElem hj
  obtain ⟨g1, g2⟩ := ord_at m e
  have : (ord P a b c)[(np a b c p - 1).toNat] = p := np_inj m g1 hp (by rw [g2]; omega)
  rw [this] at e
  have i := index_at (ord P a b c) _ 0 e fun j hj2 z => by
    obtain ⟨_, g3⟩ := ord_at m z
    omega
  show indexD (il (ord P a b c)) (.int p) = _
  show (if (fl deep (.int p) && ((ord P a b c).map PyData.int).all (fl deep)) = true then indexGo (.int p) 0 ((ord P a b c).map PyData.int) else .bad) = _
  rw [fl_all_ints, show fl deep (.int p) = true from rfl, i, Nat.zero_add]
  show Dv.R.ok _ = _
  congr 2
  omega
end Q
namespace Q
open PySem Dv
theorem eMet_is (ok : D → Bool) (m : List D → R D) (o : DE) (as : List DE) (δ : Dv.Env) : eMet ok m o as δ = (o δ).bind fun x => if ok x then (evs as δ).bind fun xs => m (x :: xs) else .bad := rfl
mutual
theorem eqv_fl : ∀ (d : D) (n : Nat), fl n d = true → PyData.eqv d d = true
  | .none, _, _ => rfl
  | .bool b, _, _ => by cases b <;> rfl
  | .int i, _, _ => by show (i == i) = true; simp
  | .str x, _, _ => by show (x == x) = true; simp
  | .list xs, 0, h => by cases h
  | .list xs, n + 1, h => eqv_fls xs n h
  | .tuple xs, 0, h => by cases h
  | .tuple xs, n + 1, h => eqv_fls xs n h
  | .dict _, 0, h => by cases h
  | .dict _, _ + 1, h => by cases h
theorem eqv_fls : ∀ (xs : List D) (n : Nat), xs.all (fl n) = true → PyData.eqvAll xs xs = true
  | [], _, _ => rfl
  | x :: xs, n, h => by
    rw [List.all_cons] at h
    obtain ⟨h1, h2⟩ := and2 h
    show (PyData.eqv x x && PyData.eqvAll xs xs) = true
    rw [eqv_fl x n h1, eqv_fls xs n h2]
    rfl
end
theorem eq_self' {d : D} (h : fl deep d = true) : eqD d d = .ok true := by
  unfold eqD
  rw [h, eqv_fl d _ h]
  rfl
/-! ### what holds of heads within the part; of all pages; of one page -/
theorem rn_shift {ns : List Int} {s : Int} : rn (ns.map (· + s)) = rn ns := by
  unfold rn
  have : (ns.map (· + s)).filter (fst (ns.map (· + s))) = (ns.filter (fst ns)).map (· + s) := by
    rw [List.filter_map]
    congr 1
    apply List.filter_congr
    intro n _
    show fst (ns.map (· + s)) (n + s) = fst ns n
    unfold fst
    congr 1
    rw [Bool.eq_iff_iff, List.contains_iff_mem, List.contains_iff_mem, List.mem_map]
    constructor
    · rintro ⟨m, hm, e⟩
      rw [show n - 1 = m by omega]
      exact hm
    · intro h
      exact ⟨n - 1, h, by omega⟩
  rw [this, List.length_map]
theorem inside_same {P a b c : Int} {ns : List Int} (m : Mv P a b c) (h : Hd P ns) (hin : ∀ n ∈ ns, a ≤ n ∧ n ≤ b) : rn (mvd a b c ns) = rn ns := by
  have e : ns.map (np a b c) = ns.map (· + (1 - a + (if c < a then c else c - (b - a + 1)))) := List.map_congr_left fun n hn => by
    unfold np
    rw [if_pos (hin n hn)]
    omega
  have : mvd a b c ns = ns.map (· + (1 - a + (if c < a then c else c - (b - a + 1)))) := by
    unfold mvd
    rw [e]
    refine isort_id ?_
    rw [List.pairwise_map]
    exact h.s.imp fun h => by omega
  rw [this, rn_shift]
theorem full {lo hi : Int} : ∀ (ns : List Int), Srt ns → (∀ n ∈ ns, lo ≤ n ∧ n < hi) → ns.length = (hi - lo).toNat → ns = zr lo hi := by
  intro ns s r l
  have low : ∀ (j : Nat) (n : Int), ns[j]? = some n → lo + j ≤ n := by
    intro j
    induction j with
    | zero => intro n h; have := r n (List.mem_of_getElem? h); omega
    | succ j ih =>
      intro n h
      obtain ⟨q, hq⟩ := before h (by omega)
      have hq : ns[j]? = some q := by simpa using hq
      have := ih q hq
      have := srt_lt s hq h (by omega)
      omega
  have high : ∀ (i : Nat) (j : Nat) (n : Int), j + 1 + i = ns.length → ns[j]? = some n → n + i < hi := by
    intro i
    induction i with
    | zero => intro j n _ h; have := r n (List.mem_of_getElem? h); omega
    | succ i ih =>
      intro j n hj h
      have h1 : j + 1 < ns.length := by omega
      have h2 := List.getElem?_eq_getElem h1
      have := ih (j + 1) _ (by omega) h2
      have := srt_lt s h h2 (by omega)
      omega
  apply List.ext_getElem?
  intro j
  by_cases hj : j < ns.length
  · have h1 := List.getElem?_eq_getElem hj
    have a1 := low j _ h1
    have a2 := high (ns.length - (j + 1)) j _ (by omega) h1
    rw [h1, zr_get (by omega)]
    congr 1
    omega
  · rw [List.getElem?_eq_none (by omega), List.getElem?_eq_none (by rw [len_zr]; omega)]
theorem every_hd {P a b c : Int} (m : Mv P a b c) : Hd P (zr 1 (P + 1)) := ⟨zr_sorted _ _, fun n hn => by have := mem_zr.mp hn; omega, by rw [len_zr]; have := m.p1; omega⟩
theorem every_same {P a b c : Int} (m : Mv P a b c) : mvd a b c (zr 1 (P + 1)) = zr 1 (P + 1) := by
  have h := (every_hd m).mvd m
  refine full _ h.s (fun n hn => by have := h.r n hn; omega) ?_
  rw [mvd, (isort_perm _).length_eq, List.length_map, len_zr]
theorem every_runs {P : Int} (h : 1 ≤ P) : rn (zr 1 (P + 1)) = 1 := by
  unfold rn
  have : (zr 1 (P + 1)).filter (fst (zr 1 (P + 1))) = [1] := by
    rw [zr_app (show (1 : Int) ≤ 2 by omega) (show (2 : Int) ≤ P + 1 by omega), List.filter_append]
    rw [zr_all (lo := 1) (hi := 2) fun n h1 h2 => by
      unfold fst
      rw [Bool.not_eq_true', Bool.eq_false_iff]
      intro z
      rw [List.contains_iff_mem, List.mem_append, mem_zr, mem_zr] at z
      omega]
    rw [zr_none (lo := 2) (hi := P + 1) fun n h1 h2 => by
      unfold fst
      rw [Bool.not_eq_false', List.contains_iff_mem, List.mem_append, mem_zr, mem_zr]
      omega]
    rfl
  rw [this]
  rfl
theorem one_same {P a b c p : Int} (m : Mv P a b c) (hp : 1 ≤ p ∧ p ≤ P) :
    mvd (np (np a b c a) (np a b c b) (bc a b c) (np a b c a)) (np (np a b c a) (np a b c b) (bc a b c) (np a b c b)) (bc (np a b c a) (np a b c b) (bc a b c)) [p] = mvd a b c [p] := by
  have h1 := np_back m hp.1 hp.2
  obtain ⟨r1, r2⟩ := np_in m hp.1 hp.2
  have h2 := np_back (mv_back m) r1 r2
  rw [h1] at h2
  unfold mvd
  rw [List.map_singleton, List.map_singleton, h2]
theorem one_hd {P p : Int} (hp : 1 ≤ p ∧ p ≤ P) : Hd P [p] := ⟨List.pairwise_singleton _ _, fun n hn => by cases List.mem_singleton.mp hn; exact hp, by simp⟩
theorem heads_repr {hs : List (List Int)} (h : ∀ ns ∈ hs, ns.length ≤ 1000 ∧ ∀ n ∈ ns, 1 ≤ n ∧ n ≤ 999) (h8 : hs.length ≤ 8) : reprD (hdD hs) = .ok (.str (hdD hs).shown) := by
  refine repr_sml ?_ ?_ ?_
  · show smls (hs.map il) = true
    clear h8
    induction hs with
    | nil => rfl
    | cons ns hs ih =>
      show (smls (ns.map .int) && smls (hs.map il)) = true
      rw [sml_ints fun i hi => by have := (h ns (by simp)).2 i hi; omega, ih fun x hx => h x (List.mem_cons_of_mem _ hx)]
      rfl
  · exact List.all_eq_true.mpr fun x hx => by
      obtain ⟨ns, _, rfl⟩ := List.mem_map.mp hx
      exact fl_ints _ ns
  · have : ∀ l : List (List Int), (∀ ns ∈ l, ns.length ≤ 1000) → PyData.bulkAll (l.map il) ≤ 1001 * l.length := by
      intro l
      induction l with
      | nil => intro _; exact Nat.le_refl _
      | cons ns l ih =>
        intro hl
        show PyData.bulkAll (ns.map .int) + 1 + PyData.bulkAll (l.map il) ≤ _
        rw [bulk_ints, List.length_cons]
        have := hl ns (by simp)
        have := ih fun x hx => hl x (List.mem_cons_of_mem _ hx)
        omega
    have := this hs fun ns hn => (h ns hn).1
    show PyData.bulkAll (hs.map il) ≤ _
    omega
theorem dueL_small {a b c : Int} {hs : List (List Int)} : ∀ j, ∀ n ∈ dueL a b c hs j, 0 ≤ n ∧ n < j
  | 0, n, h => by cases h
  | j + 1, n, h => by
    unfold dueL at h
    rcases List.mem_append.mp h with h | h
    · have := dueL_small j n h; omega
    · split at h
      · split at h
        · have := List.mem_singleton.mp h; omega
        · cases h
      · cases h
theorem fl_heads (hs : List (List Int)) : fl deep (hdD hs) = true := List.all_eq_true.mpr fun x hx => by
  obtain ⟨ns, _, rfl⟩ := List.mem_map.mp hx
  exact fl_ints _ ns
theorem lst1 {a : DE} {δ : Dv.Env} {j : Int} (h : a δ = .ok (.int j)) (h0 : -1000 ≤ j) (h1 : j ≤ 1100) : eLstI (iRng1 a) δ = .ok (il (zr 0 j)) := by
  unfold eLstI
  rw [rng1_is h (decide_eq_true (by omega)), R.bind_ok, if_pos (by rw [List.length_map, len_zr]; have : lim = 1000000 := rfl; omega)]
theorem lst2 {a b : DE} {δ : Dv.Env} {i j : Int} (h : a δ = .ok (.int i)) (h' : b δ = .ok (.int j)) (i0 : -1000 ≤ i) (i1 : i ≤ 1100) (j0 : -1000 ≤ j) (j1 : j ≤ 1100) : eLstI (iRng2 a b) δ = .ok (il (zr i j)) := by
  unfold eLstI
  rw [rng2_is h h' (decide_eq_true (by omega)) (decide_eq_true (by omega)), R.bind_ok, if_pos (by rw [List.length_map, len_zr]; have : lim = 1000000 := rfl; omega)]
theorem addL {xs ys : List Int} (h : xs.length + ys.length ≤ 100000) : addD (il xs) (il ys) = .ok (il (xs ++ ys)) := by
  show (if _ then _ else _) = _
  have : lim = 1000000 := rfl
  rw [if_pos (by rw [List.length_map, List.length_map]; omega), il, List.map_append]
theorem hd_zr {P lo hi : Int} (h0 : 1 ≤ lo) (h1 : hi ≤ P + 1) (h2 : P ≤ 999) : Hd P (zr lo hi) := ⟨zr_sorted _ _, fun n hn => by have := mem_zr.mp hn; omega, by rw [len_zr]; omega⟩
theorem Hd.filter {P : Int} {ns : List Int} (h : Hd P ns) (p : Int → Bool) : Hd P (ns.filter p) := ⟨h.s.sublist (List.filter_sublist ..), fun n hn => h.r n (List.mem_filter.mp hn).1, Nat.le_trans (List.length_filter_le _ _) h.l⟩
def LE (s ds P A B pl c mv o : D) (x9 x10 x11 x12 x13 x14 x15 x16 x17 x18 x19 x20 x21 x22 x23 x24 : Option D) : Dv.Env :=
  [some s, some ds, some P, some A, some B, some pl, some c, some mv, some o, x9, x10, x11, x12, x13, x14, x15, x16, x17, x18, x19, x20, x21, x22, x23, x24]
theorem w_setE {e : DE} {δ δ' : Dv.Env} {i : Nat} {d : D} {nx bk ct : Dv.Env → Prop} {rt : D → Prop} (h : e δ = .ok d) (h2 : δ.set i (some d) = δ') (q : nx δ') : W4 (sAsg (gNm i) e δ) nx bk ct rt := by subst h2; exact w_set h q
theorem w_appE {e : DE} {δ δ' : Dv.Env} {i : Nat} {d : D} {xs : List D} {nx bk ct : Dv.Env → Prop} {rt : D → Prop} (h : e δ = .ok d) (h2 : δ[i]? = some (some (.list xs))) (h3 : xs.length < lim) (h4 : δ.set i (some (.list (xs ++ [d]))) = δ') (q : nx δ') : W4 (sApp i e δ) nx bk ct rt := by subst h4; exact w_app h h2 h3 q
theorem hd_at {hs : List (List Int)} {j : Nat} {ns : List Int} (h : hs[j]? = some ns) {k : Int} (hk : k = j) : idxD (hdD hs) (.int k) = .ok (il ns) := by
  have hj := (List.getElem?_eq_some_iff.mp h).1
  show oR (atZ (hs.map il) k) = _
  unfold atZ ixZ
  rw [if_pos (by omega), List.length_map, if_pos (by omega)]
  show oR ((hs.map il)[k.toNat]?) = _
  rw [List.getElem?_map, show k.toNat = j by omega, h]
  rfl
theorem repr_int {i : Int} (h : i.natAbs < 10 ^ 12) : reprD (.int i) = .ok (.str (PyData.int i).shown) := repr_sml (decide_eq_true h) rfl (Nat.zero_le _)
theorem rn_le (ns : List Int) : 0 ≤ rn ns ∧ rn ns ≤ ns.length := by
  have := List.length_filter_le (fst ns) ns
  unfold rn
  omega
theorem cut_front {ns : List Int} {k : Int} (h : 0 ≤ k) : slD none (some k) (il ns) = .ok (il (ns.take (min k.toNat ns.length))) := by
  show Dv.R.ok (PyData.list (cut (ns.map .int) none (some k))) = _
  unfold cut cutE
  dsimp only
  rw [if_neg (by omega), List.drop_zero, List.length_map, Nat.sub_zero, il, List.map_take]
theorem hd_push (hs : List (List Int)) (ns : List Int) : hdD (hs ++ [ns]) = .list (hs.map il ++ [il ns]) := by simp [hdD]
theorem tail_ok {script ds : List Int} {P A B c : Int} {PL : D} (m : Mv P A B c) {hs : List (List Int)} (hhs : ∀ ns ∈ hs, Hd P ns) (hs1 : 1 ≤ hs.length) (hs8 : hs.length ≤ 8) (x10 x17 x22 x23 x24 : Option D) :
    W4 (sSeq (l_law.drop 10) (LE (il script) (il ds) (.int P) (.int A) (.int B) PL (.int c) (mvD A B c) (il (ord P A B c)) (some (hdD hs)) x10 none none none none none none x17 none none none none x22 x23 x24)) (fun _ => PyData.none = .bool true) noB noB (fun d => d = .bool true) := by
  have hlim : lim = 1000000 := rfl
  have hP0 := m.p0
  have hP1 := m.p1
  unfold l_law
  simp only [List.drop_succ_cons, List.drop_zero]
  have h999 : ∀ ns ∈ hs, ns.length ≤ 1000 ∧ ∀ n ∈ ns, 1 ≤ n ∧ n ≤ 999 := fun ns hns => ⟨(hhs ns hns).l, fun n hn => by have := (hhs ns hns).r n hn; omega⟩
  obtain ⟨KS, hrep⟩ : ∃ KS : Str, reprD (hdD hs) = .ok (.str KS) := ⟨_, heads_repr h999 hs8⟩
  refine w_to (δ' := LE (il script) (il ds) (.int P) (.int A) (.int B) PL (.int c) (mvD A B c) (il (ord P A B c)) (some (hdD hs)) x10 (some (.str KS)) none none none none none x17 none none none none x22 x23 x24) (w_setE (d := .str KS) (δ' := LE (il script) (il ds) (.int P) (.int A) (.int B) PL (.int c) (mvD A B c) (il (ord P A B c)) (some (hdD hs)) x10 (some (.str KS)) none none none none none x17 none none none none x22 x23 x24) (by simp only [LE, eBin_is, eCall_is, eIx_is, eTup_is, eLst_is, eT_is, eIf_is, evs_nil, evs_cons, eV0, eVs, eC_is, tTru_is, tNot_is, tCmp1_is, tCmp2_is, tAnds2_is, tOrs2_is, tOrs3_is, tOrs4_is, bAdd, bSub, bMul, bDiv, bMod, bPow, cEq, cNe, cLt, cLe, cGt, cGe, cIs, cIsn, addI, subI, negI, ltI, leI, rnotI, andB, orB, List.set_cons_succ, List.set_cons_zero, R.bind_ok, B_int, B_repr, hrep]) rfl rfl) ?_
  refine w_to (δ' := LE (il script) (il ds) (.int P) (.int A) (.int B) PL (.int c) (mvD A B c) (il (ord P A B c)) (some (hdD hs)) x10 (some (.str KS)) (some (il [])) none none none none x17 none none none none x22 x23 x24) (w_setE (d := il []) (δ' := LE (il script) (il ds) (.int P) (.int A) (.int B) PL (.int c) (mvD A B c) (il (ord P A B c)) (some (hdD hs)) x10 (some (.str KS)) (some (il [])) none none none none x17 none none none none x22 x23 x24) rfl rfl rfl) ?_
  refine w_any (N := fun δ => ∃ x13 x18 x19 x20 x21 x24, δ = LE (il script) (il ds) (.int P) (.int A) (.int B) PL (.int c) (mvD A B c) (il (ord P A B c)) (some (hdD hs)) x10 (some (.str KS)) (some (il (dueL A B c hs hs.length))) x13 none none none x17 x18 x19 x20 x21 x22 x23 x24) (w_for (ds := (zr 0 (hs.length : Int)).map .int) (fun j δ => ∃ x13 x18 x19 x20 x21 x24, δ = LE (il script) (il ds) (.int P) (.int A) (.int B) PL (.int c) (mvD A B c) (il (ord P A B c)) (some (hdD hs)) x10 (some (.str KS)) (some (il (dueL A B c hs j))) x13 none none none x17 x18 x19 x20 x21 x22 x23 x24)
    (rng1_is (by simp only [LE, eBin_is, eCall_is, eIx_is, eTup_is, eLst_is, eT_is, eIf_is, evs_nil, evs_cons, eV0, eVs, eC_is, tTru_is, tNot_is, tCmp1_is, tCmp2_is, tAnds2_is, tOrs2_is, tOrs3_is, tOrs4_is, bAdd, bSub, bMul, bDiv, bMod, bPow, cEq, cNe, cLt, cLe, cGt, cGe, cIs, cIsn, addI, subI, negI, ltI, leI, rnotI, andB, orB, List.set_cons_succ, List.set_cons_zero, R.bind_ok, B_int, B_len, List.length_map]) (decide_eq_true (by omega))) ⟨none, none, none, none, none, x24, rfl⟩ ?_ (fun δ z => by
      rw [List.length_map, len_zr, show ((hs.length : Int) - 0).toNat = hs.length by omega] at z
      exact z)) ?_
  · rintro j d δ hd ⟨x13, x18, x19, x20, x21, x24, rfl⟩
    rw [List.getElem?_map] at hd
    obtain ⟨kk, ht, rfl⟩ := Option.map_eq_some_iff.mp hd
    obtain ⟨ht1, ht2⟩ := zr_at ht
    have hj : j < hs.length := by omega
    have hkj : kk = j := by omega
    obtain ⟨ns, hns⟩ : ∃ ns, hs[j]? = some ns := ⟨_, List.getElem?_eq_getElem hj⟩
    have g := hhs ns (List.mem_of_getElem? hns)
    have g2 := g.mvd m
    have g999 := (h999 ns (List.mem_of_getElem? hns)).2
    have eix := hd_at hns hkj
    have hrl := rn_le ns
    have hgl := g.l
    clear ht hd ht1 ht2
    refine ⟨LE (il script) (il ds) (.int P) (.int A) (.int B) PL (.int c) (mvD A B c) (il (ord P A B c)) (some (hdD hs)) x10 (some (.str KS)) (some (il (dueL A B c hs j))) (some (.int kk)) none none none x17 x18 x19 x20 x21 x22 x23 x24, rfl, ?_⟩
    refine w_to (δ' := LE (il script) (il ds) (.int P) (.int A) (.int B) PL (.int c) (mvD A B c) (il (ord P A B c)) (some (hdD hs)) x10 (some (.str KS)) (some (il (dueL A B c hs j))) (some (.int kk)) none none none x17 (some (il ns)) x19 x20 x21 x22 x23 x24) (w_setE (d := il ns) (δ' := LE (il script) (il ds) (.int P) (.int A) (.int B) PL (.int c) (mvD A B c) (il (ord P A B c)) (some (hdD hs)) x10 (some (.str KS)) (some (il (dueL A B c hs j))) (some (.int kk)) none none none x17 (some (il ns)) x19 x20 x21 x22 x23 x24) (by simp only [LE, eBin_is, eCall_is, eIx_is, eTup_is, eLst_is, eT_is, eIf_is, evs_nil, evs_cons, eV0, eVs, eC_is, tTru_is, tNot_is, tCmp1_is, tCmp2_is, tAnds2_is, tOrs2_is, tOrs3_is, tOrs4_is, bAdd, bSub, bMul, bDiv, bMod, bPow, cEq, cNe, cLt, cLe, cGt, cGe, cIs, cIsn, addI, subI, negI, ltI, leI, rnotI, andB, orB, List.set_cons_succ, List.set_cons_zero, R.bind_ok, B_int, eix]) rfl rfl) ?_
    refine w_to (δ' := LE (il script) (il ds) (.int P) (.int A) (.int B) PL (.int c) (mvD A B c) (il (ord P A B c)) (some (hdD hs)) x10 (some (.str KS)) (some (il (dueL A B c hs j))) (some (.int kk)) none none none x17 (some (il ns)) (some (il (mvd A B c ns))) x20 x21 x22 x23 x24) (w_setE (d := il (mvd A B c ns)) (δ' := LE (il script) (il ds) (.int P) (.int A) (.int B) PL (.int c) (mvD A B c) (il (ord P A B c)) (some (hdD hs)) x10 (some (.str KS)) (some (il (dueL A B c hs j))) (some (.int kk)) none none none x17 (some (il ns)) (some (il (mvd A B c ns))) x20 x21 x22 x23 x24) (by simp only [LE, eBin_is, eCall_is, eIx_is, eTup_is, eLst_is, eT_is, eIf_is, evs_nil, evs_cons, eV0, eVs, eC_is, tTru_is, tNot_is, tCmp1_is, tCmp2_is, tAnds2_is, tOrs2_is, tOrs3_is, tOrs4_is, bAdd, bSub, bMul, bDiv, bMod, bPow, cEq, cNe, cLt, cLe, cGt, cGe, cIs, cIsn, addI, subI, negI, ltI, leI, rnotI, andB, orB, List.set_cons_succ, List.set_cons_zero, R.bind_ok, B_int, moved_ok m g]) rfl rfl) ?_
    have enew : eCall (callB "sorted") [eLc [24] (gNm 24) (iExp (eV 18)) tYes (eBin .Add (eMet (metOk "index") (callM "index") (eV 8) [eV 24]) (eC (.int 1)))] (LE (il script) (il ds) (.int P) (.int A) (.int B) PL (.int c) (mvD A B c) (il (ord P A B c)) (some (hdD hs)) x10 (some (.str KS)) (some (il (dueL A B c hs j))) (some (.int kk)) none none none x17 (some (il ns)) (some (il (mvd A B c ns))) x20 x21 x22 x23 x24) = .ok (il (mvd A B c ns)) := by
      have e := lc_int (own := [24]) (i := 24) (it := iExp (eV 18)) (t := tYes) (e := eBin .Add (eMet (metOk "index") (callM "index") (eV 8) [eV 24]) (eC (.int 1))) (δ := LE (il script) (il ds) (.int P) (.int A) (.int B) PL (.int c) (mvD A B c) (il (ord P A B c)) (some (hdD hs)) x10 (some (.str KS)) (some (il (dueL A B c hs j))) (some (.int kk)) none none none x17 (some (il ns)) (some (il (mvd A B c ns))) x20 x21 x22 x23 x24)
        (ns := ns) (fun _ => true) (fun n => .int (np A B c n)) rfl g.lim fun n hn => by
          refine ⟨rfl, fun _ => ?_⟩
          show eBin _ _ _ (LE (il script) (il ds) (.int P) (.int A) (.int B) PL (.int c) (mvD A B c) (il (ord P A B c)) (some (hdD hs)) x10 (some (.str KS)) (some (il (dueL A B c hs j))) (some (.int kk)) none none none x17 (some (il ns)) (some (il (mvd A B c ns))) x20 x21 x22 x23 (some (.int n))) = _
          have em : metOk "index" (il (ord P A B c)) = true := rfl
          simp only [LE, eBin_is, eCall_is, eIx_is, eTup_is, eLst_is, eT_is, eIf_is, evs_nil, evs_cons, eV0, eVs, eC_is, tTru_is, tNot_is, tCmp1_is, tCmp2_is, tAnds2_is, tOrs2_is, tOrs3_is, tOrs4_is, bAdd, bSub, bMul, bDiv, bMod, bPow, cEq, cNe, cLt, cLe, cGt, cGe, cIs, cIsn, addI, subI, negI, ltI, leI, rnotI, andB, orB, List.set_cons_succ, List.set_cons_zero, R.bind_ok, B_int, eMet_is, em, if_pos, index_ok m (g.r n hn), Int.sub_add_cancel]
      have e3 : ((ns.filter fun _ => true).map fun n => PyData.int (np A B c n)) = (ns.map (np A B c)).map .int := by
        rw [List.filter_eq_self.mpr (fun _ _ => rfl), List.map_map]; rfl
      rw [e3] at e
      simp only [eCall_is, evs_cons, evs_nil, e, R.bind_ok, B_sorted]
      exact sort_ints (by rw [List.length_map]; exact g.lim)
    refine w_to (δ' := LE (il script) (il ds) (.int P) (.int A) (.int B) PL (.int c) (mvD A B c) (il (ord P A B c)) (some (hdD hs)) x10 (some (.str KS)) (some (il (dueL A B c hs j))) (some (.int kk)) none none none x17 (some (il ns)) (some (il (mvd A B c ns))) (some (il (mvd A B c ns))) x21 x22 x23 x24) (w_setE (d := il (mvd A B c ns)) (δ' := LE (il script) (il ds) (.int P) (.int A) (.int B) PL (.int c) (mvD A B c) (il (ord P A B c)) (some (hdD hs)) x10 (some (.str KS)) (some (il (dueL A B c hs j))) (some (.int kk)) none none none x17 (some (il ns)) (some (il (mvd A B c ns))) (some (il (mvd A B c ns))) x21 x22 x23 x24) enew rfl rfl) ?_
    have rp1 : reprD (il (mvd A B c ns)) = .ok (.str (il (mvd A B c ns)).shown) := repr_ints (fun i hi => by have := g2.r i hi; omega) (by have := g2.l; omega)
    have rp2 : reprD (.int (rn ns)) = .ok (.str (PyData.int (rn ns)).shown) := repr_int (by omega)
    have mb : m_moved [.int P, mvD (np A B c A) (np A B c B) (bc A B c), il (mvd A B c ns)] = .ok (il ns) := by rw [moved_ok (mv_back m) g2, mvd_back m g]
    refine w_to (w_if_f ?_ (w_nil rfl)) ?_
    · simp only [LE, eBin_is, eCall_is, eIx_is, eTup_is, eLst_is, eT_is, eIf_is, evs_nil, evs_cons, eV0, eVs, eC_is, tTru_is, tNot_is, tCmp1_is, tCmp2_is, tAnds2_is, tOrs2_is, tOrs3_is, tOrs4_is, bAdd, bSub, bMul, bDiv, bMod, bPow, cEq, cNe, cLt, cLe, cGt, cGe, cIs, cIsn, addI, subI, negI, ltI, leI, rnotI, andB, orB, List.set_cons_succ, List.set_cons_zero, R.bind_ok, B_int, B_repr, rp1, back_ok m, mb, count_ok g.s g999 g.lim, lawruns_ok g.lim, rp2, eq_str, eq_ints]
      simp
    -- due
    have eruns : tCmp (eCall m_u_law_runs [eV 20]) [(.Gt, eCall m_u_law_runs [eV 18])] (LE (il script) (il ds) (.int P) (.int A) (.int B) PL (.int c) (mvD A B c) (il (ord P A B c)) (some (hdD hs)) x10 (some (.str KS)) (some (il (dueL A B c hs j))) (some (.int kk)) none none none x17 (some (il ns)) (some (il (mvd A B c ns))) (some (il (mvd A B c ns))) x21 x22 x23 x24) = .ok (decide (rn ns < rn (mvd A B c ns))) := by
      simp only [LE, eBin_is, eCall_is, eIx_is, eTup_is, eLst_is, eT_is, eIf_is, evs_nil, evs_cons, eV0, eVs, eC_is, tTru_is, tNot_is, tCmp1_is, tCmp2_is, tAnds2_is, tOrs2_is, tOrs3_is, tOrs4_is, bAdd, bSub, bMul, bDiv, bMod, bPow, cEq, cNe, cLt, cLe, cGt, cGe, cIs, cIsn, addI, subI, negI, ltI, leI, rnotI, andB, orB, List.set_cons_succ, List.set_cons_zero, R.bind_ok, B_int, lawruns_ok g.lim, lawruns_ok g2.lim]
    refine w_to (δ' := LE (il script) (il ds) (.int P) (.int A) (.int B) PL (.int c) (mvD A B c) (il (ord P A B c)) (some (hdD hs)) x10 (some (.str KS)) (some (il (dueL A B c hs (j + 1)))) (some (.int kk)) none none none x17 (some (il ns)) (some (il (mvd A B c ns))) (some (il (mvd A B c ns))) x21 x22 x23 x24) (w_if eruns (fun hb => ?_) fun hb => ?_) ?_
    · have hb := of_decide_eq_true hb
      have e3 : dueL A B c hs (j + 1) = dueL A B c hs j ++ [kk] := by
        show dueL A B c hs j ++ _ = _
        rw [hns]; dsimp only; rw [if_pos hb, hkj]
      refine w_one (w_appE (d := .int kk) (xs := (dueL A B c hs j).map .int) (by simp only [LE, eBin_is, eCall_is, eIx_is, eTup_is, eLst_is, eT_is, eIf_is, evs_nil, evs_cons, eV0, eVs, eC_is, tTru_is, tNot_is, tCmp1_is, tCmp2_is, tAnds2_is, tOrs2_is, tOrs3_is, tOrs4_is, bAdd, bSub, bMul, bDiv, bMod, bPow, cEq, cNe, cLt, cLe, cGt, cGe, cIs, cIsn, addI, subI, negI, ltI, leI, rnotI, andB, orB, List.set_cons_succ, List.set_cons_zero, R.bind_ok, B_int]) rfl (by rw [List.length_map]; have := due_len (a := A) (b := B) (c := c) (hs := hs) j; omega) rfl ?_)
      rw [e3, il_push]
      rfl
    · have hb := of_decide_eq_false hb
      have e3 : dueL A B c hs (j + 1) = dueL A B c hs j := by
        show dueL A B c hs j ++ _ = _
        rw [hns]; dsimp only; rw [if_neg hb, List.append_nil]
      rw [e3]
      exact w_nil rfl
    have e := lc_int (own := [24]) (i := 24) (it := iExp (eV 18)) (t := tCmp (eV 3) [(.LtE, eV 24), (.LtE, eV 4)]) (e := eV 24) (δ := LE (il script) (il ds) (.int P) (.int A) (.int B) PL (.int c) (mvD A B c) (il (ord P A B c)) (some (hdD hs)) x10 (some (.str KS)) (some (il (dueL A B c hs (j + 1)))) (some (.int kk)) none none none x17 (some (il ns)) (some (il (mvd A B c ns))) (some (il (mvd A B c ns))) x21 x22 x23 x24)
      (ns := ns) (fun n => decide (A ≤ n) && decide (n ≤ B)) .int rfl g.lim fun n hn => ⟨by
        show tCmp _ _ (LE (il script) (il ds) (.int P) (.int A) (.int B) PL (.int c) (mvD A B c) (il (ord P A B c)) (some (hdD hs)) x10 (some (.str KS)) (some (il (dueL A B c hs (j + 1)))) (some (.int kk)) none none none x17 (some (il ns)) (some (il (mvd A B c ns))) (some (il (mvd A B c ns))) x21 x22 x23 (some (.int n))) = _
        simp only [LE, eBin_is, eCall_is, eIx_is, eTup_is, eLst_is, eT_is, eIf_is, evs_nil, evs_cons, eV0, eVs, eC_is, tTru_is, tNot_is, tCmp1_is, tCmp2_is, tAnds2_is, tOrs2_is, tOrs3_is, tOrs4_is, bAdd, bSub, bMul, bDiv, bMod, bPow, cEq, cNe, cLt, cLe, cGt, cGe, cIs, cIsn, addI, subI, negI, ltI, leI, rnotI, andB, orB, List.set_cons_succ, List.set_cons_zero, R.bind_ok, B_int], fun _ => rfl⟩
    refine w_to (δ' := LE (il script) (il ds) (.int P) (.int A) (.int B) PL (.int c) (mvD A B c) (il (ord P A B c)) (some (hdD hs)) x10 (some (.str KS)) (some (il (dueL A B c hs (j + 1)))) (some (.int kk)) none none none x17 (some (il ns)) (some (il (mvd A B c ns))) (some (il (mvd A B c ns))) (some (il (ns.filter fun n => decide (A ≤ n) && decide (n ≤ B)))) x22 x23 x24) (w_setE (d := il (ns.filter fun n => decide (A ≤ n) && decide (n ≤ B))) (δ' := LE (il script) (il ds) (.int P) (.int A) (.int B) PL (.int c) (mvD A B c) (il (ord P A B c)) (some (hdD hs)) x10 (some (.str KS)) (some (il (dueL A B c hs (j + 1)))) (some (.int kk)) none none none x17 (some (il ns)) (some (il (mvd A B c ns))) (some (il (mvd A B c ns))) (some (il (ns.filter fun n => decide (A ≤ n) && decide (n ≤ B)))) x22 x23 x24) e rfl rfl) ?_
    refine w_to (w_if_f ?_ (w_nil rfl)) ?_
    · simp only [LE, eBin_is, eCall_is, eIx_is, eTup_is, eLst_is, eT_is, eIf_is, evs_nil, evs_cons, eV0, eVs, eC_is, tTru_is, tNot_is, tCmp1_is, tCmp2_is, tAnds2_is, tOrs2_is, tOrs3_is, tOrs4_is, bAdd, bSub, bMul, bDiv, bMod, bPow, cEq, cNe, cLt, cLe, cGt, cGe, cIs, cIsn, addI, subI, negI, ltI, leI, rnotI, andB, orB, List.set_cons_succ, List.set_cons_zero, R.bind_ok, B_int, lawruns_ok g.lim, lawruns_ok g2.lim, eq_ints, eq_int]
      by_cases z : ns.filter (fun n => decide (A ≤ n) && decide (n ≤ B)) = ns
      · have : rn (mvd A B c ns) = rn ns := inside_same m g fun n hn => by
          have := List.filter_eq_self.mp z n hn
          simpa using this
        rw [decide_eq_true this]
        simp
      · rw [decide_eq_false z]
        rfl
    refine w_to (δ' := LE (il script) (il ds) (.int P) (.int A) (.int B) PL (.int c) (mvD A B c) (il (ord P A B c)) (some (hdD hs)) x10 (some (.str KS)) (some (il (dueL A B c hs (j + 1)))) (some (.int kk)) none none none x17 (some (il ns)) (some (.list ((mvd A B c ns).map .int ++ [.int 0]))) (some (il (mvd A B c ns))) (some (il (ns.filter fun n => decide (A ≤ n) && decide (n ≤ B)))) x22 x23 x24) (w_appE (d := .int 0) (xs := (mvd A B c ns).map .int) (δ' := LE (il script) (il ds) (.int P) (.int A) (.int B) PL (.int c) (mvD A B c) (il (ord P A B c)) (some (hdD hs)) x10 (some (.str KS)) (some (il (dueL A B c hs (j + 1)))) (some (.int kk)) none none none x17 (some (il ns)) (some (.list ((mvd A B c ns).map .int ++ [.int 0]))) (some (il (mvd A B c ns))) (some (il (ns.filter fun n => decide (A ≤ n) && decide (n ≤ B)))) x22 x23 x24) rfl rfl (by rw [List.length_map]; have := g2.l; omega) rfl rfl) ?_
    refine w_one (w_if_f ?_ (w_nil ⟨_, _, _, _, _, _, rfl⟩))
    simp only [LE, eBin_is, eCall_is, eIx_is, eTup_is, eLst_is, eT_is, eIf_is, evs_nil, evs_cons, eV0, eVs, eC_is, tTru_is, tNot_is, tCmp1_is, tCmp2_is, tAnds2_is, tOrs2_is, tOrs3_is, tOrs4_is, bAdd, bSub, bMul, bDiv, bMod, bPow, cEq, cNe, cLt, cLe, cGt, cGe, cIs, cIsn, addI, subI, negI, ltI, leI, rnotI, andB, orB, List.set_cons_succ, List.set_cons_zero, R.bind_ok, B_int, moved_ok m g, eq_ints]
    simp
  rintro δ ⟨x13, x18, x19, x20, x21, x24, rfl⟩
  have rpd : reprD (il (dueL A B c hs hs.length)) = .ok (.str (il (dueL A B c hs hs.length)).shown) := repr_ints (fun i hi => by have := dueL_small hs.length i hi; omega) (by have := due_len (a := A) (b := B) (c := c) (hs := hs) hs.length; omega)
  have hbr := broken_ok m hhs hs1 hs8
  refine w_to (δ' := LE (il script) (il ds) (.int P) (.int A) (.int B) PL (.int c) (mvD A B c) (il (ord P A B c)) (some (hdD hs)) x10 (some (.str KS)) (some (il (dueL A B c hs hs.length))) x13 (some (il (dueL A B c hs hs.length))) none none x17 x18 x19 x20 x21 x22 x23 x24) (w_setE (d := il (dueL A B c hs hs.length)) (δ' := LE (il script) (il ds) (.int P) (.int A) (.int B) PL (.int c) (mvD A B c) (il (ord P A B c)) (some (hdD hs)) x10 (some (.str KS)) (some (il (dueL A B c hs hs.length))) x13 (some (il (dueL A B c hs hs.length))) none none x17 x18 x19 x20 x21 x22 x23 x24) (by simp only [LE, eBin_is, eCall_is, eIx_is, eTup_is, eLst_is, eT_is, eIf_is, evs_nil, evs_cons, eV0, eVs, eC_is, tTru_is, tNot_is, tCmp1_is, tCmp2_is, tAnds2_is, tOrs2_is, tOrs3_is, tOrs4_is, bAdd, bSub, bMul, bDiv, bMod, bPow, cEq, cNe, cLt, cLe, cGt, cGe, cIs, cIsn, addI, subI, negI, ltI, leI, rnotI, andB, orB, List.set_cons_succ, List.set_cons_zero, R.bind_ok, B_int, hbr]) rfl rfl) ?_
  refine w_to (w_if_f ?_ (w_nil rfl)) ?_
  · simp only [LE, eBin_is, eCall_is, eIx_is, eTup_is, eLst_is, eT_is, eIf_is, evs_nil, evs_cons, eV0, eVs, eC_is, tTru_is, tNot_is, tCmp1_is, tCmp2_is, tAnds2_is, tOrs2_is, tOrs3_is, tOrs4_is, bAdd, bSub, bMul, bDiv, bMod, bPow, cEq, cNe, cLt, cLe, cGt, cGe, cIs, cIsn, addI, subI, negI, ltI, leI, rnotI, andB, orB, List.set_cons_succ, List.set_cons_zero, R.bind_ok, B_int, B_repr, rpd, eq_str]
    simp
  refine w_to (δ' := LE (il script) (il ds) (.int P) (.int A) (.int B) PL (.int c) (mvD A B c) (il (ord P A B c)) (some (hdD hs)) x10 (some (.str KS)) (some (il (dueL A B c hs hs.length))) x13 (some (.list ((dueL A B c hs hs.length).map .int ++ [.int 99]))) none none x17 x18 x19 x20 x21 x22 x23 x24) (w_appE (d := .int 99) (xs := (dueL A B c hs hs.length).map .int) (δ' := LE (il script) (il ds) (.int P) (.int A) (.int B) PL (.int c) (mvD A B c) (il (ord P A B c)) (some (hdD hs)) x10 (some (.str KS)) (some (il (dueL A B c hs hs.length))) x13 (some (.list ((dueL A B c hs hs.length).map .int ++ [.int 99]))) none none x17 x18 x19 x20 x21 x22 x23 x24) rfl rfl (by rw [List.length_map]; have := due_len (a := A) (b := B) (c := c) (hs := hs) hs.length; omega) rfl rfl) ?_
  have hev := every_hd m
  refine w_to (δ' := LE (il script) (il ds) (.int P) (.int A) (.int B) PL (.int c) (mvD A B c) (il (ord P A B c)) (some (hdD hs)) x10 (some (.str KS)) (some (il (dueL A B c hs hs.length))) x13 (some (.list ((dueL A B c hs hs.length).map .int ++ [.int 99]))) (some (il (zr 1 (P + 1)))) none x17 x18 x19 x20 x21 x22 x23 x24) (w_setE (d := il (zr 1 (P + 1))) (δ' := LE (il script) (il ds) (.int P) (.int A) (.int B) PL (.int c) (mvD A B c) (il (ord P A B c)) (some (hdD hs)) x10 (some (.str KS)) (some (il (dueL A B c hs hs.length))) x13 (some (.list ((dueL A B c hs hs.length).map .int ++ [.int 99]))) (some (il (zr 1 (P + 1)))) none x17 x18 x19 x20 x21 x22 x23 x24) (lst2 rfl rfl (by omega) (by omega) (by omega) (by omega)) rfl rfl) ?_
  refine w_to (w_if_f ?_ (w_nil rfl)) ?_
  · have c0 : m_count_runs [.list []] = .ok (.int (rn [])) := count_ok (ns := []) List.Pairwise.nil (fun n hn => absurd hn (by simp)) (Nat.zero_le _)
    have c1 : m_count_runs [il (zr 1 (P + 1))] = .ok (.int 1) := by rw [count_ok hev.s (fun n hn => by have := hev.r n hn; omega) hev.lim, every_runs hP0]
    simp only [LE, eBin_is, eCall_is, eIx_is, eTup_is, eLst_is, eT_is, eIf_is, evs_nil, evs_cons, eV0, eVs, eC_is, tTru_is, tNot_is, tCmp1_is, tCmp2_is, tAnds2_is, tOrs2_is, tOrs3_is, tOrs4_is, bAdd, bSub, bMul, bDiv, bMod, bPow, cEq, cNe, cLt, cLe, cGt, cGe, cIs, cIsn, addI, subI, negI, ltI, leI, rnotI, andB, orB, List.set_cons_succ, List.set_cons_zero, R.bind_ok, B_int, hbr, eq_ints, moved_ok m hev, every_same m, c1, c0, eq_int]
    simp [rn]
  refine w_to (δ' := LE (il script) (il ds) (.int P) (.int A) (.int B) PL (.int c) (mvD A B c) (il (ord P A B c)) (some (hdD hs)) x10 (some (.str KS)) (some (il (dueL A B c hs hs.length))) x13 (some (.list ((dueL A B c hs hs.length).map .int ++ [.int 99]))) (some (il (zr 1 (P + 1))))
    (some (mvD (np (np A B c A) (np A B c B) (bc A B c) (np A B c A)) (np (np A B c A) (np A B c B) (bc A B c) (np A B c B)) (bc (np A B c A) (np A B c B) (bc A B c)))) x17 x18 x19 x20 x21 x22 x23 x24) (w_setE (d := mvD (np (np A B c A) (np A B c B) (bc A B c) (np A B c A)) (np (np A B c A) (np A B c B) (bc A B c) (np A B c B)) (bc (np A B c A) (np A B c B) (bc A B c))) (δ' := LE (il script) (il ds) (.int P) (.int A) (.int B) PL (.int c) (mvD A B c) (il (ord P A B c)) (some (hdD hs)) x10 (some (.str KS)) (some (il (dueL A B c hs hs.length))) x13 (some (.list ((dueL A B c hs hs.length).map .int ++ [.int 99]))) (some (il (zr 1 (P + 1))))
    (some (mvD (np (np A B c A) (np A B c B) (bc A B c) (np A B c A)) (np (np A B c A) (np A B c B) (bc A B c) (np A B c B)) (bc (np A B c A) (np A B c B) (bc A B c)))) x17 x18 x19 x20 x21 x22 x23 x24) (by simp only [LE, eBin_is, eCall_is, eIx_is, eTup_is, eLst_is, eT_is, eIf_is, evs_nil, evs_cons, eV0, eVs, eC_is, tTru_is, tNot_is, tCmp1_is, tCmp2_is, tAnds2_is, tOrs2_is, tOrs3_is, tOrs4_is, bAdd, bSub, bMul, bDiv, bMod, bPow, cEq, cNe, cLt, cLe, cGt, cGe, cIs, cIsn, addI, subI, negI, ltI, leI, rnotI, andB, orB, List.set_cons_succ, List.set_cons_zero, R.bind_ok, B_int, back_ok m, back_ok (mv_back m)]) rfl rfl) ?_
  have hmh := mv_back (mv_back m)
  have one := fun (p : Int) (hp : 1 ≤ p ∧ p ≤ P) => one_same m hp
  generalize np (np A B c A) (np A B c B) (bc A B c) (np A B c A) = A2 at hmh one
  generalize np (np A B c A) (np A B c B) (bc A B c) (np A B c B) = B2 at hmh one
  generalize bc (np A B c A) (np A B c B) (bc A B c) = C2 at hmh one
  have part : ∀ (i : Nat) (a b c' : Int), Mv P a b c' → (∀ p, 1 ≤ p ∧ p ≤ P → mvd a b c' [p] = mvd A B c [p]) → (∀ x : Option D, eV i (LE (il script) (il ds) (.int P) (.int A) (.int B) PL (.int c) (mvD A B c) (il (ord P A B c)) (some (hdD hs)) x10 (some (.str KS)) (some (il (dueL A B c hs hs.length))) x13 (some (.list ((dueL A B c hs hs.length).map .int ++ [.int 99]))) (some (il (zr 1 (P + 1)))) (some (mvD A2 B2 C2)) x17 x18 x19 x20 x21 x22 x23 x) = .ok (mvD a b c')) →
      eLc [24] (gNm 24) (iExp (eSl (eV 15) none (some (eC (.int 40))))) tYes (eCall m_moved [eV 2, eV i, eLst [eV 24]]) (LE (il script) (il ds) (.int P) (.int A) (.int B) PL (.int c) (mvD A B c) (il (ord P A B c)) (some (hdD hs)) x10 (some (.str KS)) (some (il (dueL A B c hs hs.length))) x13 (some (.list ((dueL A B c hs hs.length).map .int ++ [.int 99]))) (some (il (zr 1 (P + 1)))) (some (mvD A2 B2 C2)) x17 x18 x19 x20 x21 x22 x23 x24)
        = .ok (.list ((((zr 1 (P + 1)).take (min (40 : Int).toNat (zr 1 (P + 1)).length)).filter fun _ => true).map fun n => il (mvd A B c [n]))) := by
    intro i a b c' hm he hv
    have hsl : iExp (eSl (eV 15) none (some (eC (.int 40)))) (LE (il script) (il ds) (.int P) (.int A) (.int B) PL (.int c) (mvD A B c) (il (ord P A B c)) (some (hdD hs)) x10 (some (.str KS)) (some (il (dueL A B c hs hs.length))) x13 (some (.list ((dueL A B c hs hs.length).map .int ++ [.int 99]))) (some (il (zr 1 (P + 1)))) (some (mvD A2 B2 C2)) x17 x18 x19 x20 x21 x22 x23 x24) = .ok (((zr 1 (P + 1)).take (min (40 : Int).toNat (zr 1 (P + 1)).length)).map .int) := by
      have := cut_front (ns := zr 1 (P + 1)) (k := 40) (by omega)
      show (slD none (some 40) (il (zr 1 (P + 1)))).bind itemsD = _
      rw [this]
      rfl
    refine lc_int _ _ hsl (by rw [List.length_take]; omega) fun n hn => ⟨rfl, fun _ => ?_⟩
    have hn2 := mem_zr.mp (List.mem_of_mem_take hn)
    have hp : 1 ≤ n ∧ n ≤ P := by omega
    have hv := hv (some (.int n))
    show eCall _ _ (LE (il script) (il ds) (.int P) (.int A) (.int B) PL (.int c) (mvD A B c) (il (ord P A B c)) (some (hdD hs)) x10 (some (.str KS)) (some (il (dueL A B c hs hs.length))) x13 (some (.list ((dueL A B c hs hs.length).map .int ++ [.int 99]))) (some (il (zr 1 (P + 1)))) (some (mvD A2 B2 C2)) x17 x18 x19 x20 x21 x22 x23 (some (.int n))) = _
    have mo : m_moved [.int P, mvD a b c', .list [.int n]] = .ok (il (mvd A B c [n])) := by rw [← he n hp]; exact moved_ok hm (one_hd hp)
    rw [eCall_is, evs_cons, evs_cons, hv]
    simp only [LE, eBin_is, eCall_is, eIx_is, eTup_is, eLst_is, eT_is, eIf_is, evs_nil, evs_cons, eV0, eVs, eC_is, tTru_is, tNot_is, tCmp1_is, tCmp2_is, tAnds2_is, tOrs2_is, tOrs3_is, tOrs4_is, bAdd, bSub, bMul, bDiv, bMod, bPow, cEq, cNe, cLt, cLe, cGt, cGe, cIs, cIsn, addI, subI, negI, ltI, leI, rnotI, andB, orB, List.set_cons_succ, List.set_cons_zero, R.bind_ok, B_int, mo]
  have e1 := part 16 A2 B2 C2 hmh one fun _ => rfl
  have e2 := part 7 A B c m (fun _ _ => rfl) fun _ => rfl
  refine w_one (w_ret (d := .bool true) ?_ rfl)
  have ea : eT (tCmp (eCall (callB "repr") [eV 9]) [(.Eq, eV 11)]) (LE (il script) (il ds) (.int P) (.int A) (.int B) PL (.int c) (mvD A B c) (il (ord P A B c)) (some (hdD hs)) x10 (some (.str KS)) (some (il (dueL A B c hs hs.length))) x13 (some (.list ((dueL A B c hs hs.length).map .int ++ [.int 99]))) (some (il (zr 1 (P + 1)))) (some (mvD A2 B2 C2)) x17 x18 x19 x20 x21 x22 x23 x24) = .ok (.bool true) := by
    simp only [LE, eBin_is, eCall_is, eIx_is, eTup_is, eLst_is, eT_is, eIf_is, evs_nil, evs_cons, eV0, eVs, eC_is, tTru_is, tNot_is, tCmp1_is, tCmp2_is, tAnds2_is, tOrs2_is, tOrs3_is, tOrs4_is, bAdd, bSub, bMul, bDiv, bMod, bPow, cEq, cNe, cLt, cLe, cGt, cGe, cIs, cIsn, addI, subI, negI, ltI, leI, rnotI, andB, orB, List.set_cons_succ, List.set_cons_zero, R.bind_ok, B_int, B_repr, hrep, eq_str]
    simp
  show R.bind _ _ = _
  rw [ea]
  show eT _ _ = _
  rw [eT_is, tCmp1_is, e1, e2]
  simp only [R.bind_ok, cEq]
  rw [eq_self']
  · rfl
  · exact List.all_eq_true.mpr fun x hx => by
      obtain ⟨ns, _, rfl⟩ := List.mem_map.mp hx
      exact fl_ints _ _
theorem answer (script : List Int) (hlen : script.length ≤ 63) : m_law [il script] = .ok (.bool true) := by
  obtain ⟨ds, hdr, hds⟩ := draws_ok script hlen
  have hlim : lim = 1000000 := rfl
  obtain ⟨d, h, rfl⟩ := run_of (np := 1) (m := 25) (body := b_law) (as := [il script]) (rt := fun d => d = .bool true) rfl (by
    show W4 (b_law [some (il script), none, none, none, none, none, none, none, none, none, none, none, none, none, none, none, none, none, none, none, none, none, none, none, none]) _ noB noB _
    unfold b_law l_law
    refine w_seq2 (w_set (d := il ds) (by simp only [eBin_is, eCall_is, eIx_is, eTup_is, eLst_is, eT_is, eIf_is, evs_nil, evs_cons, eV0, eVs, eC_is, tTru_is, tNot_is, tCmp1_is, tCmp2_is, tAnds2_is, tOrs2_is, tOrs3_is, tOrs4_is, bAdd, bSub, bMul, bDiv, bMod, bPow, cEq, cNe, cLt, cLe, cGt, cGe, cIs, cIsn, addI, subI, negI, ltI, leI, rnotI, andB, orB, List.set_cons_succ, List.set_cons_zero, R.bind_ok, B_int, hdr]) ?_)
    -- pages
    obtain ⟨r0, e0, r00, r01⟩ := mix_ok hds (k := 0) (many := 12) (by decide) (by decide)
    obtain ⟨r1, e1, r10, r11⟩ := mix_ok hds (k := 0) (many := 60) (by decide) (by decide)
    obtain ⟨r2, e2, r20, r21⟩ := mix_ok hds (k := 1) (many := 5) (by decide) (by decide)
    have hpg : ∃ P : Int, idxD (.list [.int (1 + r0), .int (1 + r1), .int 999]) (.int (match r2 with | 0 => 0 | 1 => 0 | 2 => 1 | 3 => 1 | _ => 2)) = .ok (.int P) ∧ 1 ≤ P ∧ P ≤ 999 ∧ idxD (.list [.int 0, .int 0, .int 1, .int 1, .int 2]) (.int r2) = .ok (.int (match r2 with | 0 => 0 | 1 => 0 | 2 => 1 | 3 => 1 | _ => 2)) := by
      have : r2 = 0 ∨ r2 = 1 ∨ r2 = 2 ∨ r2 = 3 ∨ r2 = 4 := by omega
      rcases this with rfl | rfl | rfl | rfl | rfl
      · exact ⟨1 + r0, rfl, by omega, by omega, rfl⟩
      · exact ⟨1 + r0, rfl, by omega, by omega, rfl⟩
      · exact ⟨1 + r1, rfl, by omega, by omega, rfl⟩
      · exact ⟨1 + r1, rfl, by omega, by omega, rfl⟩
      · exact ⟨999, rfl, by omega, by omega, rfl⟩
    obtain ⟨P, ep, hP0, hP1, ep2⟩ := hpg
    refine w_seq2 (w_set (d := .int P) (by simp only [eBin_is, eCall_is, eIx_is, eTup_is, eLst_is, eT_is, eIf_is, evs_nil, evs_cons, eV0, eVs, eC_is, tTru_is, tNot_is, tCmp1_is, tCmp2_is, tAnds2_is, tOrs2_is, tOrs3_is, tOrs4_is, bAdd, bSub, bMul, bDiv, bMod, bPow, cEq, cNe, cLt, cLe, cGt, cGe, cIs, cIsn, addI, subI, negI, ltI, leI, rnotI, andB, orB, List.set_cons_succ, List.set_cons_zero, R.bind_ok, B_int, e0, e1, e2, ep2, ep]) ?_)
    obtain ⟨r3, e3, r30, r31⟩ := mix_ok hds (k := 2) (many := P) (by decide) (by omega)
    refine w_seq2 (w_set (d := .int (1 + r3)) (by simp only [eBin_is, eCall_is, eIx_is, eTup_is, eLst_is, eT_is, eIf_is, evs_nil, evs_cons, eV0, eVs, eC_is, tTru_is, tNot_is, tCmp1_is, tCmp2_is, tAnds2_is, tOrs2_is, tOrs3_is, tOrs4_is, bAdd, bSub, bMul, bDiv, bMod, bPow, cEq, cNe, cLt, cLe, cGt, cGe, cIs, cIsn, addI, subI, negI, ltI, leI, rnotI, andB, orB, List.set_cons_succ, List.set_cons_zero, R.bind_ok, B_int, e3]) ?_)
    generalize hA : 1 + r3 = A
    obtain ⟨r4, e4, r40, r41⟩ := mix_ok hds (k := 3) (many := if 30 < P - A + 1 then 30 else P - A + 1) (by decide) (by split <;> omega)
    refine w_seq2 (w_set (d := .int (A + r4)) (by simp only [eBin_is, eCall_is, eIx_is, eTup_is, eLst_is, eT_is, eIf_is, evs_nil, evs_cons, eV0, eVs, eC_is, tTru_is, tNot_is, tCmp1_is, tCmp2_is, tAnds2_is, tOrs2_is, tOrs3_is, tOrs4_is, bAdd, bSub, bMul, bDiv, bMod, bPow, cEq, cNe, cLt, cLe, cGt, cGe, cIs, cIsn, addI, subI, negI, ltI, leI, rnotI, andB, orB, List.set_cons_succ, List.set_cons_zero, R.bind_ok, B_int, B_min, e4]) ?_)
    have hB0 : A + r4 ≤ P := by split at r41 <;> omega
    generalize hB : A + r4 = B at hB0 ⊢
    have hA0 : 1 ≤ A := by omega
    have hAB : A ≤ B := by omega
    clear hA hB
    have pl := addL (xs := zr 0 A) (ys := zr (B + 1) (P + 1)) (by rw [len_zr, len_zr]; omega)
    have lpl : (zr 0 A ++ zr (B + 1) (P + 1)).length = A.toNat + (P + 1 - (B + 1)).toNat := by rw [List.length_append, len_zr, len_zr, Int.sub_zero]
    refine w_seq2 (w_setE (d := il (zr 0 A ++ zr (B + 1) (P + 1))) (δ' := [some (il script), some (il ds), some (.int P), some (.int A), some (.int B), some (il (zr 0 A ++ zr (B + 1) (P + 1))), none, none, none, none, none, none, none, none, none, none, none, none, none, none, none, none, none, none, none]) ?_ rfl ?_)
    · rw [eBin_is, lst1 (j := A) rfl (by omega) (by omega), R.bind_ok, lst2 (i := B + 1) (j := P + 1) rfl rfl (by omega) (by omega) (by omega) (by omega), R.bind_ok]
      exact pl
    obtain ⟨r5, e5, r50, r51⟩ := mix_ok hds (k := 4) (many := ((zr 0 A ++ zr (B + 1) (P + 1)).map PyData.int).length) (by decide) (by rw [List.length_map, lpl]; omega)
    rw [List.length_map] at r51
    obtain ⟨c, _, hc, ec⟩ := il_at (ns := zr 0 A ++ zr (B + 1) (P + 1)) (k := r5) r50 r51
    refine w_seq2 (w_setE (d := .int c) (δ' := [some (il script), some (il ds), some (.int P), some (.int A), some (.int B), some (il (zr 0 A ++ zr (B + 1) (P + 1))), some (.int c), none, none, none, none, none, none, none, none, none, none, none, none, none, none, none, none, none, none]) ?_ rfl ?_)
    · simp only [eBin_is, eCall_is, eIx_is, eTup_is, eLst_is, eT_is, eIf_is, evs_nil, evs_cons, eV0, eVs, eC_is, tTru_is, tNot_is, tCmp1_is, tCmp2_is, tAnds2_is, tOrs2_is, tOrs3_is, tOrs4_is, bAdd, bSub, bMul, bDiv, bMod, bPow, cEq, cNe, cLt, cLe, cGt, cGe, cIs, cIsn, addI, subI, negI, ltI, leI, rnotI, andB, orB, List.set_cons_succ, List.set_cons_zero, R.bind_ok, B_int, B_len, e5]
      exact ec
    generalize il (zr 0 A ++ zr (B + 1) (P + 1)) = PL
    have m : Mv P A B c := by
      refine ⟨hP0, hP1, hA0, hAB, hB0, ?_⟩
      rcases List.mem_append.mp hc with hc | hc
      · have := mem_zr.mp hc; omega
      · have := mem_zr.mp hc; omega
    clear r50 r51 r40 r41 r30 r31 r20 r21 r10 r11 r00 r01 hc ec e5 pl lpl ep ep2
    refine w_seq2 (w_setE (d := mvD A B c) (δ' := [some (il script), some (il ds), some (.int P), some (.int A), some (.int B), some PL, some (.int c), some (mvD A B c), none, none, none, none, none, none, none, none, none, none, none, none, none, none, none, none, none]) rfl rfl ?_)
    refine w_seq2 (w_setE (d := il (ord P A B c)) (δ' := [some (il script), some (il ds), some (.int P), some (.int A), some (.int B), some PL, some (.int c), some (mvD A B c), some (il (ord P A B c)), none, none, none, none, none, none, none, none, none, none, none, none, none, none, none, none]) (by simp only [eBin_is, eCall_is, eIx_is, eTup_is, eLst_is, eT_is, eIf_is, evs_nil, evs_cons, eV0, eVs, eC_is, tTru_is, tNot_is, tCmp1_is, tCmp2_is, tAnds2_is, tOrs2_is, tOrs3_is, tOrs4_is, bAdd, bSub, bMul, bDiv, bMod, bPow, cEq, cNe, cLt, cLe, cGt, cGe, cIs, cIsn, addI, subI, negI, ltI, leI, rnotI, andB, orB, List.set_cons_succ, List.set_cons_zero, R.bind_ok, B_int, order_ok m]) rfl ?_)
    refine w_seq2 (w_setE (d := hdD []) (δ' := LE (il script) (il ds) (.int P) (.int A) (.int B) PL (.int c) (mvD A B c) (il (ord P A B c)) (some (hdD [])) none none none none none none none none none none none none none none none) rfl rfl ?_)
    obtain ⟨r6, e6, r60, r61⟩ := mix_ok hds (k := 5) (many := 8) (by decide) (by decide)
    refine w_seq2 (w_for (ds := (zr 0 (1 + r6)).map .int) (fun j δ => ∃ hs x10 x17 x22 x23 x24, δ = LE (il script) (il ds) (.int P) (.int A) (.int B) PL (.int c) (mvD A B c) (il (ord P A B c)) (some (hdD hs)) x10 none none none none none none x17 none none none none x22 x23 x24 ∧ (∀ ns ∈ hs, Hd P ns) ∧ hs.length = j)
      (rng1_is (by simp only [LE, eBin_is, eCall_is, eIx_is, eTup_is, eLst_is, eT_is, eIf_is, evs_nil, evs_cons, eV0, eVs, eC_is, tTru_is, tNot_is, tCmp1_is, tCmp2_is, tAnds2_is, tOrs2_is, tOrs3_is, tOrs4_is, bAdd, bSub, bMul, bDiv, bMod, bPow, cEq, cNe, cLt, cLe, cGt, cGe, cIs, cIsn, addI, subI, negI, ltI, leI, rnotI, andB, orB, List.set_cons_succ, List.set_cons_zero, R.bind_ok, B_int, e6]) (decide_eq_true (by omega))) ⟨[], none, none, none, none, none, rfl, fun _ h => absurd h (by simp), rfl⟩ ?_ ?_)
    · rintro j d δ hd ⟨hs, x10, x17, x22, x23, x24, rfl, hhs, hj⟩
      rw [List.getElem?_map] at hd
      obtain ⟨t, ht, rfl⟩ := Option.map_eq_some_iff.mp hd
      obtain ⟨ht1, ht2⟩ := zr_at ht
      have t0 : 0 ≤ t := by omega
      have hj8 : j < 8 := by omega
      clear ht hd ht2
      refine ⟨LE (il script) (il ds) (.int P) (.int A) (.int B) PL (.int c) (mvD A B c) (il (ord P A B c)) (some (hdD hs)) (some (.int t)) none none none none none none x17 none none none none x22 x23 x24, rfl, ?_⟩
      have e2t : mulD (.int 2) (.int t) = .ok (.int (2 * t)) := ml2 rfl
      obtain ⟨ra, ea, ra0, ra1⟩ := mix_ok hds (k := 10 + 2 * t) (many := P) (by omega) (by omega)
      obtain ⟨rb, eb, rb0, rb1⟩ := mix_ok hds (k := 11 + 2 * t) (many := 12) (by omega) (by decide)
      refine w_seq2 (w_asg (d := .tuple [.int (1 + ra), .int (1 + rb)]) (δ' := LE (il script) (il ds) (.int P) (.int A) (.int B) PL (.int c) (mvD A B c) (il (ord P A B c)) (some (hdD hs)) (some (.int t)) none none none none none none x17 none none none none (some (.int (1 + ra))) (some (.int (1 + rb))) x24) (by simp only [LE, eBin_is, eCall_is, eIx_is, eTup_is, eLst_is, eT_is, eIf_is, evs_nil, evs_cons, eV0, eVs, eC_is, tTru_is, tNot_is, tCmp1_is, tCmp2_is, tAnds2_is, tOrs2_is, tOrs3_is, tOrs4_is, bAdd, bSub, bMul, bDiv, bMod, bPow, cEq, cNe, cLt, cLe, cGt, cGe, cIs, cIsn, addI, subI, negI, ltI, leI, rnotI, andB, orB, List.set_cons_succ, List.set_cons_zero, R.bind_ok, B_int, e2t, ea, eb]) rfl ?_)
      obtain ⟨rk, ek, rk0, rk1⟩ := mix_ok hds (k := 30 + t) (many := 3) (by omega) (by decide)
      refine w_seq2 (w_setE (d := .int rk) (δ' := LE (il script) (il ds) (.int P) (.int A) (.int B) PL (.int c) (mvD A B c) (il (ord P A B c)) (some (hdD hs)) (some (.int t)) none none none none none none (some (.int rk)) none none none none (some (.int (1 + ra))) (some (.int (1 + rb))) x24) (by simp only [LE, eBin_is, eCall_is, eIx_is, eTup_is, eLst_is, eT_is, eIf_is, evs_nil, evs_cons, eV0, eVs, eC_is, tTru_is, tNot_is, tCmp1_is, tCmp2_is, tAnds2_is, tOrs2_is, tOrs3_is, tOrs4_is, bAdd, bSub, bMul, bDiv, bMod, bPow, cEq, cNe, cLt, cLe, cGt, cGe, cIs, cIsn, addI, subI, negI, ltI, leI, rnotI, andB, orB, List.set_cons_succ, List.set_cons_zero, R.bind_ok, B_int, ek]) rfl ?_)
      have fin : ∀ ns : List Int, Hd P ns → ∃ hs' x10 x17 x22 x23 x24', LE (il script) (il ds) (.int P) (.int A) (.int B) PL (.int c) (mvD A B c) (il (ord P A B c)) (some (.list (hs.map il ++ [il ns]))) (some (.int t)) none none none none none none (some (.int rk)) none none none none (some (.int (1 + ra))) (some (.int (1 + rb))) x24 =
          LE (il script) (il ds) (.int P) (.int A) (.int B) PL (.int c) (mvD A B c) (il (ord P A B c)) (some (hdD hs')) x10 none none none none none none x17 none none none none x22 x23 x24' ∧ (∀ ns ∈ hs', Hd P ns) ∧ hs'.length = j + 1 := fun ns hns => by
        refine ⟨hs ++ [ns], _, _, _, _, _, by rw [hd_push], fun x hx => ?_, by rw [List.length_append, hj]; rfl⟩
        rcases List.mem_append.mp hx with hx | hx
        · exact hhs x hx
        · cases List.mem_singleton.mp hx; exact hns
      refine w_one (w_if (b := decide (rk = 0)) (by simp only [LE, eBin_is, eCall_is, eIx_is, eTup_is, eLst_is, eT_is, eIf_is, evs_nil, evs_cons, eV0, eVs, eC_is, tTru_is, tNot_is, tCmp1_is, tCmp2_is, tAnds2_is, tOrs2_is, tOrs3_is, tOrs4_is, bAdd, bSub, bMul, bDiv, bMod, bPow, cEq, cNe, cLt, cLe, cGt, cGe, cIs, cIsn, addI, subI, negI, ltI, leI, rnotI, andB, orB, List.set_cons_succ, List.set_cons_zero, R.bind_ok, B_int, eq_int]) (fun _ => ?_) fun _ => ?_)
      · have e := lst2 (a := eV 22) (b := eBin .Add (eCall (callB "min") [eV 2, eBin .Add (eV 22) (eV 23)]) (eC (.int 1))) (δ := LE (il script) (il ds) (.int P) (.int A) (.int B) PL (.int c) (mvD A B c) (il (ord P A B c)) (some (hdD hs)) (some (.int t)) none none none none none none (some (.int rk)) none none none none (some (.int (1 + ra))) (some (.int (1 + rb))) x24)
          (i := 1 + ra) (j := (if 1 + ra + (1 + rb) < P then 1 + ra + (1 + rb) else P) + 1) rfl (by simp only [LE, eBin_is, eCall_is, eIx_is, eTup_is, eLst_is, eT_is, eIf_is, evs_nil, evs_cons, eV0, eVs, eC_is, tTru_is, tNot_is, tCmp1_is, tCmp2_is, tAnds2_is, tOrs2_is, tOrs3_is, tOrs4_is, bAdd, bSub, bMul, bDiv, bMod, bPow, cEq, cNe, cLt, cLe, cGt, cGe, cIs, cIsn, addI, subI, negI, ltI, leI, rnotI, andB, orB, List.set_cons_succ, List.set_cons_zero, R.bind_ok, B_int, B_min]) (by omega) (by omega) (by split <;> omega) (by split <;> omega)
        exact w_one (w_appE e rfl (by rw [List.length_map, hj]; omega) rfl (fin _ (hd_zr (by omega) (by split <;> omega) hP1)))
      · have e := lc_int (own := [24]) (i := 24) (it := iRng2 (eCall (callB "max") [eC (.int 1), eBin .Sub (eV 22) (eC (.int 20))]) (eBin .Add (eCall (callB "min") [eV 2, eBin .Add (eV 22) (eC (.int 20))]) (eC (.int 1)))) (t := tCmp (eCall m_u_law_mix [eV 1, eBin .Add (eC (.int 40)) (eV 24), eBin .Add (eC (.int 2)) (eV 17)]) [(.Eq, eC (.int 0))]) (e := eV 24)
          (δ := LE (il script) (il ds) (.int P) (.int A) (.int B) PL (.int c) (mvD A B c) (il (ord P A B c)) (some (hdD hs)) (some (.int t)) none none none none none none (some (.int rk)) none none none none (some (.int (1 + ra))) (some (.int (1 + rb))) x24)
          (ns := zr (if 1 + ra - 20 > 1 then 1 + ra - 20 else 1) ((if 1 + ra + 20 < P then 1 + ra + 20 else P) + 1)) (fun n => match m_u_law_mix [il ds, .int (40 + n), .int (2 + rk)] with | .ok (.int r) => decide (r = 0) | _ => false) .int
          (rng2_is (by simp only [LE, eBin_is, eCall_is, eIx_is, eTup_is, eLst_is, eT_is, eIf_is, evs_nil, evs_cons, eV0, eVs, eC_is, tTru_is, tNot_is, tCmp1_is, tCmp2_is, tAnds2_is, tOrs2_is, tOrs3_is, tOrs4_is, bAdd, bSub, bMul, bDiv, bMod, bPow, cEq, cNe, cLt, cLe, cGt, cGe, cIs, cIsn, addI, subI, negI, ltI, leI, rnotI, andB, orB, List.set_cons_succ, List.set_cons_zero, R.bind_ok, B_int, B_max]) (by simp only [LE, eBin_is, eCall_is, eIx_is, eTup_is, eLst_is, eT_is, eIf_is, evs_nil, evs_cons, eV0, eVs, eC_is, tTru_is, tNot_is, tCmp1_is, tCmp2_is, tAnds2_is, tOrs2_is, tOrs3_is, tOrs4_is, bAdd, bSub, bMul, bDiv, bMod, bPow, cEq, cNe, cLt, cLe, cGt, cGe, cIs, cIsn, addI, subI, negI, ltI, leI, rnotI, andB, orB, List.set_cons_succ, List.set_cons_zero, R.bind_ok, B_int, B_min]) (decide_eq_true (by split <;> omega)) (decide_eq_true (by split <;> omega))) (by rw [len_zr]; split <;> split <;> omega) fun n hn => by
            have hn := mem_zr.mp hn
            obtain ⟨rx, ex, _, _⟩ := mix_ok hds (k := 40 + n) (many := 2 + rk) (by split at hn <;> omega) (by omega)
            refine ⟨?_, fun _ => rfl⟩
            show tCmp _ _ (LE (il script) (il ds) (.int P) (.int A) (.int B) PL (.int c) (mvD A B c) (il (ord P A B c)) (some (hdD hs)) (some (.int t)) none none none none none none (some (.int rk)) none none none none (some (.int (1 + ra))) (some (.int (1 + rb))) (some (.int n))) = _
            simp only [LE, eBin_is, eCall_is, eIx_is, eTup_is, eLst_is, eT_is, eIf_is, evs_nil, evs_cons, eV0, eVs, eC_is, tTru_is, tNot_is, tCmp1_is, tCmp2_is, tAnds2_is, tOrs2_is, tOrs3_is, tOrs4_is, bAdd, bSub, bMul, bDiv, bMod, bPow, cEq, cNe, cLt, cLe, cGt, cGe, cIs, cIsn, addI, subI, negI, ltI, leI, rnotI, andB, orB, List.set_cons_succ, List.set_cons_zero, R.bind_ok, B_int, ex, eq_int]
        exact w_one (w_appE e rfl (by rw [List.length_map, hj]; omega) rfl (fin _ ((hd_zr (by split <;> omega) (by split <;> omega) hP1).filter _)))
    rintro δ ⟨hs, x10, x17, x22, x23, x24, rfl, hhs, hj⟩
    rw [List.length_map, len_zr] at hj
    have hs1 : 1 ≤ hs.length := by omega
    have hs8 : hs.length ≤ 8 := by omega
    clear hj e6 r60 r61
    exact tail_ok m hhs hs1 hs8 x10 x17 x22 x23 x24)
  exact h
end Q
namespace Q
open PySem PySem.Spec PyProof.Rows L2 Dv
theorem all_mk {P : Program} {w : World} {K : PySem.W.Frag} {h : Heap} {mg : Str → Option Value} {fa f0 f1 f2 f3 f4 f5 f6 f7 f8 f9 f10 f11 f12 f13 f14 : Addr} (X : K.In h) (G : h.Ns mainGlobals mg) (hfa : mg "law" = some (.ref fa))
    {od0 an0 od1 an1 od2 an2 od3 an3 od4 an4 od5 an5 od6 an6 od7 an7 od8 an8 od9 an9 od10 an10 od11 an11 od12 an12 od13 an13 od14 an14 : Option Addr} {sl0 sl1 sl2 sl3 sl4 sl5 sl6 sl7 sl8 sl9 sl10 sl11 sl12 sl13 sl14 : Array (Option Value)} {oc0 kV0 dc0 pm0 cd0 ct0 oc1 kV1 dc1 pm1 cd1 ct1 oc2 kV2 dc2 pm2 cd2 ct2 oc3 kV3 dc3 pm3 cd3 ct3 oc4 kV4 dc4 pm4 cd4 ct4 oc5 kV5 dc5 pm5 cd5 ct5 oc6 kV6 dc6 pm6 cd6 ct6 oc7 kV7 dc7 pm7 cd7 ct7 oc8 kV8 dc8 pm8 cd8 ct8 oc9 kV9 dc9 pm9 cd9 ct9 oc10 kV10 dc10 pm10 cd10 ct10 oc11 kV11 dc11 pm11 cd11 ct11 oc12 kV12 dc12 pm12 cd12 ct12 oc13 kV13 dc13 pm13 cd13 ct13 oc14 kV14 dc14 pm14 cd14 ct14 : Value}
    (a0 : PySem.W.nsIn K mainGlobals "_law_draws" = some (some (.ref f0))) (l0 : K.lookup f0 = some ⟨oc0, od0, .func (PySem.W.fnOf "_law_draws" "_law_draws" (defArgs (txt 22)) (defBody (txt 22)) (defScope (txt 22)) .none kV0 dc0 pm0 an0 cd0 ct0), sl0⟩) (q0 : PySem.W.codeIn K cd0 "_law_draws" = true) (k0 : PySem.W.keepIn K (.ref f0) = true)
    (a1 : PySem.W.nsIn K mainGlobals "_law_order" = some (some (.ref f1))) (l1 : K.lookup f1 = some ⟨oc1, od1, .func (PySem.W.fnOf "_law_order" "_law_order" (defArgs (txt 24)) (defBody (txt 24)) (defScope (txt 24)) .none kV1 dc1 pm1 an1 cd1 ct1), sl1⟩) (q1 : PySem.W.codeIn K cd1 "_law_order" = true) (k1 : PySem.W.keepIn K (.ref f1) = true)
    (a2 : PySem.W.nsIn K mainGlobals "check_move" = some (some (.ref f2))) (l2 : K.lookup f2 = some ⟨oc2, od2, .func (PySem.W.fnOf "check_move" "check_move" (defArgs (txt 13)) (defBody (txt 13)) (defScope (txt 13)) .none kV2 dc2 pm2 an2 cd2 ct2), sl2⟩) (q2 : PySem.W.codeIn K cd2 "check_move" = true) (k2 : PySem.W.keepIn K (.ref f2) = true)
    (a3 : PySem.W.nsIn K mainGlobals "bad_of" = some (some (.ref f3))) (l3 : K.lookup f3 = some ⟨oc3, od3, .func (PySem.W.fnOf "bad_of" "bad_of" (defArgs (txt 15)) (defBody (txt 15)) (defScope (txt 15)) .none kV3 dc3 pm3 an3 cd3 ct3), sl3⟩) (q3 : PySem.W.codeIn K cd3 "bad_of" = true) (k3 : PySem.W.keepIn K (.ref f3) = true)
    (a4 : PySem.W.nsIn K mainGlobals "runs_of" = some (some (.ref f4))) (l4 : K.lookup f4 = some ⟨oc4, od4, .func (PySem.W.fnOf "runs_of" "runs_of" (defArgs (txt 18)) (defBody (txt 18)) (defScope (txt 18)) .none kV4 dc4 pm4 an4 cd4 ct4), sl4⟩) (q4 : PySem.W.codeIn K cd4 "runs_of" = true) (k4 : PySem.W.keepIn K (.ref f4) = true)
    (a5 : PySem.W.nsIn K mainGlobals "new_page" = some (some (.ref f5))) (l5 : K.lookup f5 = some ⟨oc5, od5, .func (PySem.W.fnOf "new_page" "new_page" (defArgs (txt 14)) (defBody (txt 14)) (defScope (txt 14)) .none kV5 dc5 pm5 an5 cd5 ct5), sl5⟩) (q5 : PySem.W.codeIn K cd5 "new_page" = true) (k5 : PySem.W.keepIn K (.ref f5) = true)
    (a6 : PySem.W.nsIn K mainGlobals "broken" = some (some (.ref f6))) (l6 : K.lookup f6 = some ⟨oc6, od6, .func (PySem.W.fnOf "broken" "broken" (defArgs (txt 20)) (defBody (txt 20)) (defScope (txt 20)) .none kV6 dc6 pm6 an6 cd6 ct6), sl6⟩) (q6 : PySem.W.codeIn K cd6 "broken" = true) (k6 : PySem.W.keepIn K (.ref f6) = true)
    (a7 : PySem.W.nsIn K mainGlobals "back" = some (some (.ref f7))) (l7 : K.lookup f7 = some ⟨oc7, od7, .func (PySem.W.fnOf "back" "back" (defArgs (txt 17)) (defBody (txt 17)) (defScope (txt 17)) .none kV7 dc7 pm7 an7 cd7 ct7), sl7⟩) (q7 : PySem.W.codeIn K cd7 "back" = true) (k7 : PySem.W.keepIn K (.ref f7) = true)
    (a8 : PySem.W.nsIn K mainGlobals "_law_mix" = some (some (.ref f8))) (l8 : K.lookup f8 = some ⟨oc8, od8, .func (PySem.W.fnOf "_law_mix" "_law_mix" (defArgs (txt 23)) (defBody (txt 23)) (defScope (txt 23)) .none kV8 dc8 pm8 an8 cd8 ct8), sl8⟩) (q8 : PySem.W.codeIn K cd8 "_law_mix" = true) (k8 : PySem.W.keepIn K (.ref f8) = true)
    (a9 : PySem.W.nsIn K mainGlobals "moved" = some (some (.ref f9))) (l9 : K.lookup f9 = some ⟨oc9, od9, .func (PySem.W.fnOf "moved" "moved" (defArgs (txt 16)) (defBody (txt 16)) (defScope (txt 16)) .none kV9 dc9 pm9 an9 cd9 ct9), sl9⟩) (q9 : PySem.W.codeIn K cd9 "moved" = true) (k9 : PySem.W.keepIn K (.ref f9) = true)
    (a10 : PySem.W.nsIn K mainGlobals "_law_runs" = some (some (.ref f10))) (l10 : K.lookup f10 = some ⟨oc10, od10, .func (PySem.W.fnOf "_law_runs" "_law_runs" (defArgs (txt 25)) (defBody (txt 25)) (defScope (txt 25)) .none kV10 dc10 pm10 an10 cd10 ct10), sl10⟩) (q10 : PySem.W.codeIn K cd10 "_law_runs" = true) (k10 : PySem.W.keepIn K (.ref f10) = true)
    (a11 : PySem.W.nsIn K mainGlobals "bad_page" = some (some (.ref f11))) (l11 : K.lookup f11 = some ⟨oc11, od11, .func (PySem.W.fnOf "bad_page" "bad_page" (defArgs (txt 9)) (defBody (txt 9)) (defScope (txt 9)) .none kV11 dc11 pm11 an11 cd11 ct11), sl11⟩) (q11 : PySem.W.codeIn K cd11 "bad_page" = true) (k11 : PySem.W.keepIn K (.ref f11) = true)
    (a12 : PySem.W.nsIn K mainGlobals "check_pages" = some (some (.ref f12))) (l12 : K.lookup f12 = some ⟨oc12, od12, .func (PySem.W.fnOf "check_pages" "check_pages" (defArgs (txt 10)) (defBody (txt 10)) (defScope (txt 10)) .none kV12 dc12 pm12 an12 cd12 ct12), sl12⟩) (q12 : PySem.W.codeIn K cd12 "check_pages" = true) (k12 : PySem.W.keepIn K (.ref f12) = true)
    (a13 : PySem.W.nsIn K mainGlobals "count_runs" = some (some (.ref f13))) (l13 : K.lookup f13 = some ⟨oc13, od13, .func (PySem.W.fnOf "count_runs" "count_runs" (defArgs (txt 19)) (defBody (txt 19)) (defScope (txt 19)) .none kV13 dc13 pm13 an13 cd13 ct13), sl13⟩) (q13 : PySem.W.codeIn K cd13 "count_runs" = true) (k13 : PySem.W.keepIn K (.ref f13) = true)
    (a14 : PySem.W.nsIn K mainGlobals "law" = some (some (.ref f14))) (l14 : K.lookup f14 = some ⟨oc14, od14, .func (PySem.W.fnOf "law" "law" (defArgs (txt 26)) (defBody (txt 26)) (defScope (txt 26)) .none kV14 dc14 pm14 an14 cd14 ct14), sl14⟩) (q14 : PySem.W.codeIn K cd14 "law" = true) (k14 : PySem.W.keepIn K (.ref f14) = true)
    (z0 : PySem.W.nsIn K mainGlobals "range" = some none)
    (z1 : PySem.W.nsIn K mainGlobals "min" = some none)
    (z2 : PySem.W.nsIn K mainGlobals "abs" = some none)
    (z3 : PySem.W.nsIn K mainGlobals "len" = some none)
    (z4 : PySem.W.nsIn K mainGlobals "int" = some none)
    (z5 : PySem.W.nsIn K mainGlobals "list" = some none)
    (z6 : PySem.W.nsIn K mainGlobals "enumerate" = some none)
    (z7 : PySem.W.nsIn K mainGlobals "sorted" = some none)
    (z8 : PySem.W.nsIn K mainGlobals "repr" = some none)
    (z9 : PySem.W.nsIn K mainGlobals "max" = some none)
    {tc0 : Tok} (c0 : PySem.W.nsIn K mainGlobals "MOST_PAGE" = some (some (.int (999) tc0)))
    {tc1 : Tok} (c1 : PySem.W.nsIn K mainGlobals "MOST_HEADS" = some (some (.int (8) tc1)))
    : ∃ fd : FuncData, (∀ (s : Shared) (v : Value), BindsTo s fd ⟨[v], []⟩ [("script", v)]) ∧ ∀ base : Heap, K.In base → base.Ns mainGlobals mg → Fk P w K mg base 15 fa fd ["script"] (prom K m_law true) := by
  have e := hfa.symm.trans (PySem.W.mg_of X G a14)
  cases e
  refine ⟨PySem.W.fnOf "law" "law" (defArgs (txt 26)) (defBody (txt 26)) (defScope (txt 26)) .none kV14 dc14 pm14 an14 cd14 ct14, fun s v => .of_eq rfl, fun base _ _ => ?_⟩
  have M0 : Mod0 P w K mg base c_u_law_draws 0 := mod0_of trivial ⟨PySem.W.mg_none_of X G z0, PySem.W.mg_none_of X G z1, PySem.W.mg_none_of X G z2, PySem.W.mg_none_of X G z3, PySem.W.mg_none_of X G z4, trivial⟩
  have G0 : FnG P w K mg base 1 "_law_draws" m_u_law_draws true := FnG.flat (fnG_of (ps := ["script"]) M0 k_u_law_draws t_u_law_draws s_u_law_draws (PySem.W.mg_of X G a0) l0 q0 k0 (fun us hl => match us, hl with | [_], _ => rfl))
  have M1 : Mod0 P w K mg base c_u_law_order 1 := mod0_of trivial ⟨PySem.W.mg_none_of X G z5, PySem.W.mg_none_of X G z3, PySem.W.mg_none_of X G z0, trivial⟩
  have G1 : FnG P w K mg base 2 "_law_order" m_u_law_order true := FnG.flat (fnG_of (ps := ["pages", "move"]) M1 k_u_law_order t_u_law_order s_u_law_order (PySem.W.mg_of X G a1) l1 q1 k1 (fun us hl => match us, hl with | [_, _], _ => rfl))
  have M2 : Mod0 P w K mg base c_check_move 2 := mod0_of ⟨con_int (PySem.W.mg_of X G c0), trivial⟩ trivial
  have G2 : FnG P w K mg base 3 "check_move" m_check_move true := FnG.flat (fnG_of (ps := ["pages", "move"]) M2 k_check_move t_check_move s_check_move (PySem.W.mg_of X G a2) l2 q2 k2 (fun us hl => match us, hl with | [_, _], _ => rfl))
  have M3 : Mod0 P w K mg base c_bad_of 3 := mod0_of trivial ⟨PySem.W.mg_none_of X G z6, trivial⟩
  have G3 : FnG P w K mg base 4 "bad_of" m_bad_of false := FnG.flat (fnG_of (ps := ["pages", "some"]) M3 k_bad_of t_bad_of s_bad_of (PySem.W.mg_of X G a3) l3 q3 k3 (fun us hl => match us, hl with | [_, _], _ => rfl))
  have M4 : Mod0 P w K mg base c_runs_of 4 := mod0_of trivial ⟨PySem.W.mg_none_of X G z3, PySem.W.mg_none_of X G z6, trivial⟩
  have G4 : FnG P w K mg base 5 "runs_of" m_runs_of true := FnG.flat (fnG_of (ps := ["some"]) M4 k_runs_of t_runs_of s_runs_of (PySem.W.mg_of X G a4) l4 q4 k4 (fun us hl => match us, hl with | [_], _ => rfl))
  have M5 : Mod0 P w K mg base c_new_page 5 := mod0_of trivial trivial
  have G5 : FnG P w K mg base 6 "new_page" m_new_page false := FnG.flat (fnG_of (ps := ["move", "page"]) M5 k_new_page t_new_page s_new_page (PySem.W.mg_of X G a5) l5 q5 k5 (fun us hl => match us, hl with | [_, _], _ => rfl))
  have M6 : Mod0 P w K mg base c_broken 6 := mod0_of ⟨⟨G2.up (by decide), fun _ => flat_g _ _⟩, ⟨G3.up (by decide), fun _ => flat_g _ _⟩, ⟨G4.up (by decide), fun _ => flat_g _ _⟩, ⟨G5.up (by decide), fun _ => flat_g _ _⟩, con_int (PySem.W.mg_of X G c1), trivial⟩ ⟨PySem.W.mg_none_of X G z6, PySem.W.mg_none_of X G z3, PySem.W.mg_none_of X G z7, trivial⟩
  have G6 : FnG P w K mg base 7 "broken" m_broken true := FnG.flat (fnG_of (ps := ["pages", "move", "heads"]) M6 k_broken t_broken s_broken (PySem.W.mg_of X G a6) l6 q6 k6 (fun us hl => match us, hl with | [_, _, _], _ => rfl))
  have M7 : Mod0 P w K mg base c_back 7 := mod0_of ⟨⟨G2.up (by decide), fun _ => flat_g _ _⟩, ⟨G5.up (by decide), fun _ => flat_g _ _⟩, trivial⟩ trivial
  have G7 : FnG P w K mg base 8 "back" m_back true := FnG.flat (fnG_of (ps := ["pages", "move"]) M7 k_back t_back s_back (PySem.W.mg_of X G a7) l7 q7 k7 (fun us hl => match us, hl with | [_, _], _ => rfl))
  have M8 : Mod0 P w K mg base c_u_law_mix 8 := mod0_of trivial ⟨PySem.W.mg_none_of X G z3, PySem.W.mg_none_of X G z4, trivial⟩
  have G8 : FnG P w K mg base 9 "_law_mix" m_u_law_mix true := FnG.flat (fnG_of (ps := ["draws", "k", "many"]) M8 k_u_law_mix t_u_law_mix s_u_law_mix (PySem.W.mg_of X G a8) l8 q8 k8 (fun us hl => match us, hl with | [_, _, _], _ => rfl))
  have M9 : Mod0 P w K mg base c_moved 9 := mod0_of ⟨⟨G2.up (by decide), fun _ => flat_g _ _⟩, ⟨G3.up (by decide), fun _ => flat_g _ _⟩, ⟨G5.up (by decide), fun _ => flat_g _ _⟩, trivial⟩ ⟨PySem.W.mg_none_of X G z7, trivial⟩
  have G9 : FnG P w K mg base 10 "moved" m_moved true := FnG.flat (fnG_of (ps := ["pages", "move", "some"]) M9 k_moved t_moved s_moved (PySem.W.mg_of X G a9) l9 q9 k9 (fun us hl => match us, hl with | [_, _, _], _ => rfl))
  have M10 : Mod0 P w K mg base c_u_law_runs 10 := mod0_of trivial ⟨PySem.W.mg_none_of X G z3, trivial⟩
  have G10 : FnG P w K mg base 11 "_law_runs" m_u_law_runs true := FnG.flat (fnG_of (ps := ["some"]) M10 k_u_law_runs t_u_law_runs s_u_law_runs (PySem.W.mg_of X G a10) l10 q10 k10 (fun us hl => match us, hl with | [_], _ => rfl))
  have M11 : Mod0 P w K mg base c_bad_page 11 := mod0_of ⟨con_int (PySem.W.mg_of X G c0), trivial⟩ ⟨PySem.W.mg_none_of X G z6, trivial⟩
  have G11 : FnG P w K mg base 12 "bad_page" m_bad_page false := FnG.flat (fnG_of (ps := ["pages"]) M11 k_bad_page t_bad_page s_bad_page (PySem.W.mg_of X G a11) l11 q11 k11 (fun us hl => match us, hl with | [_], _ => rfl))
  have M12 : Mod0 P w K mg base c_check_pages 12 := mod0_of ⟨⟨G11.up (by decide), fun _ => flat_g _ _⟩, trivial⟩ trivial
  have G12 : FnG P w K mg base 13 "check_pages" m_check_pages true := FnG.flat (fnG_of (ps := ["pages"]) M12 k_check_pages t_check_pages s_check_pages (PySem.W.mg_of X G a12) l12 q12 k12 (fun us hl => match us, hl with | [_], _ => rfl))
  have M13 : Mod0 P w K mg base c_count_runs 13 := mod0_of ⟨⟨G12.up (by decide), fun _ => flat_g _ _⟩, ⟨G4.up (by decide), fun _ => flat_g _ _⟩, trivial⟩ trivial
  have G13 : FnG P w K mg base 14 "count_runs" m_count_runs true := FnG.flat (fnG_of (ps := ["some"]) M13 k_count_runs t_count_runs s_count_runs (PySem.W.mg_of X G a13) l13 q13 k13 (fun us hl => match us, hl with | [_], _ => rfl))
  have M14 : Mod0 P w K mg base c_law 14 := mod0_of ⟨⟨G0.up (by decide), fun _ => flat_g _ _⟩, ⟨G1.up (by decide), fun _ => flat_g _ _⟩, ⟨G6.up (by decide), fun _ => flat_g _ _⟩, ⟨G7.up (by decide), fun _ => flat_g _ _⟩, ⟨G8.up (by decide), fun _ => flat_g _ _⟩, ⟨G9.up (by decide), fun _ => flat_g _ _⟩, ⟨G10.up (by decide), fun _ => flat_g _ _⟩, ⟨G13.up (by decide), fun _ => flat_g _ _⟩, trivial⟩ ⟨PySem.W.mg_none_of X G z0, PySem.W.mg_none_of X G z8, PySem.W.mg_none_of X G z5, PySem.W.mg_none_of X G z3, PySem.W.mg_none_of X G z7, PySem.W.mg_none_of X G z1, PySem.W.mg_none_of X G z9, trivial⟩
  obtain ⟨r, look⟩ := Option.isSome_iff_exists.mp k_law
  have fk := fk_of (o := true) l14 q14 s_law M14 look
  rw [t_law] at fk
  exact fk
end Q
open PySem PySem.W PyProof.Rows
set_option maxHeartbeats 0 in
theorem PySem.Challenge.cw_headsandpages_k32_whole_moves_of_chapter_holds : PySem.Challenge.rw_headsandpages_k32_whole_moves_of_chapter.Holds := by
  w_on; o_law; k_head; (case hw => w_witness2)
  k_fill
  refine Dv.walk_dv (l := PySem.Challenge.rw_headsandpages_k32_whole_moves_of_chapter) (n := 63) (k := 15) (x := "script") (m := Q.m_law) (o := true) rfl (by decide) rfl ⟨rfl, by decide, by decide⟩ (fun w h Y => PySem.W.kIn_of Y) ?F Q.answer
  case F =>
    intro w mg fa h KX G hmg
    refine' Q.all_mk KX G hmg ?a0 ?l0 ?q0 ?k0 ?a1 ?l1 ?q1 ?k1 ?a2 ?l2 ?q2 ?k2 ?a3 ?l3 ?q3 ?k3 ?a4 ?l4 ?q4 ?k4 ?a5 ?l5 ?q5 ?k5 ?a6 ?l6 ?q6 ?k6 ?a7 ?l7 ?q7 ?k7 ?a8 ?l8 ?q8 ?k8 ?a9 ?l9 ?q9 ?k9 ?a10 ?l10 ?q10 ?k10 ?a11 ?l11 ?q11 ?k11 ?a12 ?l12 ?q12 ?k12 ?a13 ?l13 ?q13 ?k13 ?a14 ?l14 ?q14 ?k14 ?z0 ?z1 ?z2 ?z3 ?z4 ?z5 ?z6 ?z7 ?z8 ?z9 ?c0 ?c1
    (case a0 => k_is)
    (case l0 => k_is)
    (case q0 => k_is)
    (case k0 => k_is)
    (case a1 => k_is)
    (case l1 => k_is)
    (case q1 => k_is)
    (case k1 => k_is)
    (case a2 => k_is)
    (case l2 => k_is)
    (case q2 => k_is)
    (case k2 => k_is)
    (case a3 => k_is)
    (case l3 => k_is)
    (case q3 => k_is)
    (case k3 => k_is)
    (case a4 => k_is)
    (case l4 => k_is)
    (case q4 => k_is)
    (case k4 => k_is)
    (case a5 => k_is)
    (case l5 => k_is)
    (case q5 => k_is)
    (case k5 => k_is)
    (case a6 => k_is)
    (case l6 => k_is)
    (case q6 => k_is)
    (case k6 => k_is)
    (case a7 => k_is)
    (case l7 => k_is)
    (case q7 => k_is)
    (case k7 => k_is)
    (case a8 => k_is)
    (case l8 => k_is)
    (case q8 => k_is)
    (case k8 => k_is)
    (case a9 => k_is)
    (case l9 => k_is)
    (case q9 => k_is)
    (case k9 => k_is)
    (case a10 => k_is)
    (case l10 => k_is)
    (case q10 => k_is)
    (case k10 => k_is)
    (case a11 => k_is)
    (case l11 => k_is)
    (case q11 => k_is)
    (case k11 => k_is)
    (case a12 => k_is)
    (case l12 => k_is)
    (case q12 => k_is)
    (case k12 => k_is)
    (case a13 => k_is)
    (case l13 => k_is)
    (case q13 => k_is)
    (case k13 => k_is)
    (case a14 => k_is)
    (case l14 => k_is)
    (case q14 => k_is)
    (case k14 => k_is)
    (case z0 => k_is)
    (case z1 => k_is)
    (case z2 => k_is)
    (case z3 => k_is)
    (case z4 => k_is)
    (case z5 => k_is)
    (case z6 => k_is)
    (case z7 => k_is)
    (case z8 => k_is)
    (case z9 => k_is)
    (case c0 => k_is)
    (case c1 => k_is)

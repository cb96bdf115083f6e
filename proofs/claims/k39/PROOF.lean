import PyProof.Rows.All
import Wide.All
import OpenK.AllK
import Wide.FinOn
import HandS.ExcIs
import HandS.ForMost
import HandS.Walk
import HandS.Exc
import HandS.TryMany
import HandS.ExcOwn
import HandS.WordsExc
import HandS.Wide
import HandS.Deep
import HandS.Zip
import HandS.TupAny
import HandS.TupMul
import HandS.IsInst
import HandS.CallLocal
import HandS.Text
import HandS.Flow
import KE.KTupSum
import HandS.TryOnly
import HandS.Style
import KE.KDictZip
import KE.GoesMore
import KE.KDictItemsList
import PySem.Challenge.RW_shiftroads_k39_whole_counters_of_figures
/-! PP: Python's values and statements as plain Lean functions (core Lean alone). -/
namespace PP
set_option linter.all false

/-- data: a number in `fn` names a def of the module, in `ins` a class; `gen`: the law's drawing state -/
inductive D where
  | non | bl (b : Bool) | int (i : Int) | str (s : List Nat) | tup (l : List D) | lst (l : List D)
  | fn (n : Nat) | gen (a : Nat) | ins (c : Nat) (fs : List D)
  deriving Inhabited

/-- the drawing state: whether there is one, where it lies, its two numbers -/
structure G where
  on : Bool
  at_ : Nat
  s : Int
  t : Int

/-- what the law's first call leaves -/
def GOk (g : G) : Prop := 0 ≤ g.s ∧ 0 ≤ g.t ∧ g.t < 2147483647

/-- an exception: its class, what it carries -/
inductive Ex where
  | mk (c : Nat) (pay : List D)

inductive R (α : Type) where
  | ok (a : α) (g : G) | ex (e : Ex) (g : G) | bad

abbrev Env := List (Option D)
abbrev X := Env → G → R D
abbrev XT := Env → G → R Bool
abbrev XA := Env → G → R (List D)
abbrev FN := List D → G → R D
abbrev TG := D → Env → Option Env

def R.bind {α β : Type} (x : R α) (k : α → G → R β) : R β :=
  match x with
  | .ok a g => k a g
  | .ex e g => .ex e g
  | .bad => .bad
@[simp] theorem R.bind_ok {α β : Type} {a : α} {g : G} {k : α → G → R β} : R.bind (.ok a g) k = k a g := rfl
@[simp] theorem R.bind_ex {α β : Type} {e : Ex} {g : G} {k : α → G → R β} : R.bind (.ex e g) k = .ex e g := rfl
@[simp] theorem R.bind_bad {α β : Type} {k : α → G → R β} : R.bind (.bad : R α) k = .bad := rfl

/-- longest list, text -/
def LIM : Nat := 16777216
def ofO (o : Option D) (g : G) : R D := match o with
  | some d => .ok d g
  | none => .bad
@[simp] theorem ofO_some {d : D} {g : G} : ofO (some d) g = .ok d g := rfl
@[simp] theorem ofO_none {g : G} : ofO none g = .bad := rfl

/-! ### values -/
mutual
def dep : D → Nat
  | .tup l => depL l + 1
  | .lst l => depL l + 1
  | _ => 0
def depL : List D → Nat
  | [] => 0
  | x :: xs => max (dep x) (depL xs)
end
mutual
/-- none, truths, numbers, texts, lists and tuples of these -/
def isDat : D → Bool
  | .non => true | .bl _ => true | .int _ => true | .str _ => true
  | .tup l => isDatL l
  | .lst l => isDatL l
  | _ => false
def isDatL : List D → Bool
  | [] => true
  | x :: xs => isDat x && isDatL xs
end
mutual
/-- == of such data -/
def eqB : D → D → Bool
  | .non, .non => true
  | .bl a, .bl b => a == b
  | .bl a, .int j => (if a then 1 else 0) == j
  | .int i, .bl b => i == (if b then 1 else 0)
  | .int i, .int j => i == j
  | .str x, .str y => x == y
  | .tup xs, .tup ys => eqBL xs ys
  | .lst xs, .lst ys => eqBL xs ys
  | _, _ => false
def eqBL : List D → List D → Bool
  | [], [] => true
  | x :: xs, y :: ys => eqB x y && eqBL xs ys
  | _, _ => false
end
mutual
/-- nothing that may change within -/
def noLst : D → Bool
  | .lst _ => false | .ins _ _ => false
  | .tup l => noLstL l
  | _ => true
def noLstL : List D → Bool
  | [] => true
  | x :: xs => noLst x && noLstL xs
end
def shapeOk (a : D) : Bool := isDat a && decide (dep a ≤ 64)
def eqD (a b : D) : Option D := if shapeOk a && shapeOk b then some (.bl (eqB a b)) else none
def neD (a b : D) : Option D := if shapeOk a && shapeOk b then some (.bl (!eqB a b)) else none
def flatD : D → Bool
  | .non => true | .bl _ => true | .int _ => true | .str _ => true | _ => false

def mulOk (i j : Int) : Bool := decide (i.natAbs < 18446744073709551616) || decide (j.natAbs < 18446744073709551616)
def repL {α : Type} (k : Nat) (l : List α) : List α := (List.replicate k l).flatten
def cntOk (n : Nat) (k : Int) : Bool := decide (k.natAbs < 9223372036854775808) && decide (n * k.toNat ≤ LIM)

def addD : D → D → Option D
  | .int i, .int j => some (.int (i + j))
  | .str a, .str b => if a.length + b.length ≤ LIM then some (.str (a ++ b)) else none
  | .tup a, .tup b => if a.length + b.length ≤ LIM then some (.tup (a ++ b)) else none
  | .lst a, .lst b => if a.length + b.length ≤ LIM then some (.lst (a ++ b)) else none
  | _, _ => none
def subD : D → D → Option D
  | .int i, .int j => some (.int (i - j))
  | _, _ => none
def mulD : D → D → Option D
  | .int i, .int j => if mulOk i j then some (.int (i * j)) else none
  | .tup a, .int k => if !a.isEmpty && decide (1 ≤ k) && decide (k ≤ 1000) && decide (a.length ≤ 1000) then some (.tup (repL k.toNat a)) else none
  | .lst a, .int k => if cntOk a.length k then some (.lst (repL k.toNat a)) else none
  | _, _ => none
def modD : D → D → Option D
  | .int i, .int j => if 0 < j then some (.int (i % j)) else none
  | _, _ => none
def fdivD : D → D → Option D
  | .int i, .int j => if 0 < j ∧ j.natAbs < 1073741824 then some (.int (i / j)) else none
  | _, _ => none
def negD : D → Option D
  | .int i => some (.int (-i))
  | _ => none
def ltL : List Nat → List Nat → Bool
  | _, [] => false
  | [], _ :: _ => true
  | x :: xs, y :: ys => if x = y then ltL xs ys else decide (x < y)
def ltD : D → D → Option D
  | .int i, .int j => some (.bl (decide (i < j)))
  | .str a, .str b => some (.bl (ltL a b))
  | _, _ => none
def leD : D → D → Option D
  | .int i, .int j => some (.bl (decide (i ≤ j)))
  | .str a, .str b => some (.bl (!ltL b a))
  | _, _ => none
def gtD (a b : D) : Option D := ltD b a
def geD : D → D → Option D
  | .int i, .int j => some (.bl (decide (j ≤ i)))
  | _, _ => none
/-- is None -/
def isNonD : D → Option D
  | .non => some (.bl true)
  | _ => some (.bl false)
def notNonD : D → Option D
  | .non => some (.bl false)
  | _ => some (.bl true)

/-- a place, from the end below nought -/
def plc (n : Nat) (i : Int) : Option Nat := if 0 ≤ i then (if i < n then some i.toNat else none) else if -(n : Int) ≤ i then some (i + n).toNat else none
def itD {α : Type} (l : List α) (i : Int) : Option α := (plc l.length i).bind fun j => l[j]?
def ixD : D → D → Option D
  | .tup l, .int i => itD l i
  | .lst l, .int i => itD l i
  | .str s, .int i => (itD s i).map fun c => .str [c]
  | _, _ => none
/-- a slice's bound as a place among n -/
def bnd (n d : Nat) : Option Int → Nat
  | none => d
  | some v => if v < 0 then (v + (n : Int)).toNat else min v.toNat n
def cut {α : Type} (l : List α) (lo hi : Option Int) : List α := (l.drop (bnd l.length 0 lo)).take (bnd l.length l.length hi - bnd l.length 0 lo)
def sliceD (d : D) (lo hi : Option Int) : Option D := match d with
  | .tup l => some (.tup (cut l lo hi))
  | .lst l => some (.lst (cut l lo hi))
  | .str s => some (.str (cut s lo hi))
  | _ => none
def revD : D → Option D
  | .lst l => some (.lst l.reverse)
  | .tup l => some (.tup l.reverse)
  | .str s => some (.str s.reverse)
  | _ => none

def lenD : List D → Option D
  | [.tup l] => some (.int l.length)
  | [.lst l] => some (.int l.length)
  | [.str s] => some (.int s.length)
  | _ => none
def absD : List D → Option D
  | [.int i] => some (.int (if i < 0 then -i else i))
  | _ => none
def intD : List D → Option D
  | [.int i] => some (.int i)
  | [.bl b] => some (.int (if b then 1 else 0))
  | _ => none
def blsD : List D → Option (List Bool)
  | [] => some []
  | .bl b :: r => (blsD r).map fun l => b :: l
  | _ => none
def allD : List D → Option D
  | [.lst l] => (blsD l).map fun bs => .bl (bs.all id)
  | _ => none
def anyD : List D → Option D
  | [.lst l] => (blsD l).map fun bs => .bl (bs.any id)
  | _ => none
def intsD : List D → Option (List Int)
  | [] => some []
  | .int b :: r => (intsD r).map fun l => b :: l
  | _ => none
def sumD : List D → Option D
  | [.lst l] => (intsD l).map fun ns => .int ns.sum
  | [.tup l] => (intsD l).map fun ns => .int ns.sum
  | _ => none
def tupleD : List D → Option D
  | [.lst l] => some (.tup l)
  | [.tup l] => some (.tup l)
  | _ => none
def listD : List D → Option D
  | [.lst l] => some (.lst l)
  | [.tup l] => some (.lst l)
  | _ => none

/-- the built-in kinds that isinstance asks for -/
inductive Kd where | int | bool | str | tuple | list
  deriving DecidableEq
def isKd : Kd → D → Option D
  | _, .ins _ _ => none
  | _, .fn _ => none
  | _, .gen _ => none
  | k, .non => some (.bl false)
  | k, .bl _ => some (.bl (k == .bool || k == .int))
  | k, .int _ => some (.bl (k == .int))
  | k, .str _ => some (.bl (k == .str))
  | k, .tup _ => some (.bl (k == .tuple))
  | k, .lst _ => some (.bl (k == .list))

/-! ### expressions -/
def xVar (i : Nat) : X := fun ρ g => match ρ[i]? with
  | some (some d) => .ok d g
  | _ => .bad
def xC (d : D) : X := fun _ g => .ok d g
def xUn (op : D → Option D) (f : X) : X := fun ρ g => (f ρ g).bind fun a g1 => ofO (op a) g1
def xBin (op : D → D → Option D) (f h : X) : X := fun ρ g => (f ρ g).bind fun a g1 => (h ρ g1).bind fun b g2 => ofO (op a b) g2
/-- a op b op' c -/
def xChain (op op' : D → D → Option D) (f h k : X) : X := fun ρ g => (f ρ g).bind fun a g1 => (h ρ g1).bind fun b g2 => match op a b with
  | some (.bl true) => (k ρ g2).bind fun c g3 => ofO (op' b c) g3
  | some (.bl false) => .ok (.bl false) g2
  | _ => .bad
def xAnd (f h : X) : X := fun ρ g => (f ρ g).bind fun a g1 => match a with
  | .bl true => h ρ g1
  | .bl false => .ok (.bl false) g1
  | _ => .bad
def xOr (f h : X) : X := fun ρ g => (f ρ g).bind fun a g1 => match a with
  | .bl false => h ρ g1
  | .bl true => .ok (.bl true) g1
  | _ => .bad
def notD : D → Option D
  | .bl b => some (.bl (!b))
  | _ => none
def xNot (f : X) : X := xUn notD f
def xIf (t : XT) (f h : X) : X := fun ρ g => (t ρ g).bind fun b g1 => match b with
  | true => f ρ g1
  | false => h ρ g1
/-- only where nothing that may change comes out -/
def xFlat (f : X) : X := fun ρ g => (f ρ g).bind fun d g1 => match noLst d with
  | true => .ok d g1
  | false => .bad
/-! tests -/
def tV (f : X) : XT := fun ρ g => (f ρ g).bind fun d g1 => match d with
  | .bl b => .ok b g1
  | _ => .bad
def tAnd (t u : XT) : XT := fun ρ g => (t ρ g).bind fun b g1 => match b with
  | true => u ρ g1
  | false => .ok false g1
def tOr (t u : XT) : XT := fun ρ g => (t ρ g).bind fun b g1 => match b with
  | true => .ok true g1
  | false => u ρ g1
def tNot (t : XT) : XT := fun ρ g => (t ρ g).bind fun b g1 => .ok (!b) g1
def tYes : XT := fun _ g => .ok true g
/-! arguments, displays, calls -/
def aNil : XA := fun _ g => .ok [] g
def aCons (f : X) (a : XA) : XA := fun ρ g => (f ρ g).bind fun d g1 => (a ρ g1).bind fun ds g2 => .ok (d :: ds) g2
def xTup (a : XA) : X := fun ρ g => (a ρ g).bind fun ds g1 => match decide (ds.length ≤ LIM) with
  | true => .ok (.tup ds) g1
  | false => .bad
def xLst (a : XA) : X := fun ρ g => (a ρ g).bind fun ds g1 => match decide (ds.length ≤ LIM) with
  | true => .ok (.lst ds) g1
  | false => .bad
def xCB (op : List D → Option D) (a : XA) : X := fun ρ g => (a ρ g).bind fun ds g1 => ofO (op ds) g1
def xCall (F : FN) (a : XA) : X := fun ρ g => (a ρ g).bind fun ds g1 => F ds g1
/-- the call of a value: tbl tells the defs by their numbers -/
def xCallV (tbl : Nat → FN) (f : X) (a : XA) : X := fun ρ g => (f ρ g).bind fun d g1 => match d with
  | .fn n => (a ρ g1).bind fun ds g2 => tbl n ds g2
  | _ => .bad
def xSlice (f : X) (lo hi : Option X) : X := fun ρ g => (f ρ g).bind fun d g1 =>
  let part (o : Option X) (g : G) (k : Option Int → G → R D) : R D := match o with
    | none => k none g
    | some h => (h ρ g).bind fun b g' => match b with
      | .int i => k (some i) g'
      | _ => .bad
  part lo g1 fun l g2 => part hi g2 fun h g3 => ofO (sliceD d l h) g3
/-! targets -/
def gName (i : Nat) : TG := fun d ρ => if i < ρ.length then some (ρ.set i (some d)) else none
def gSeq : List TG → List D → Env → Option Env
  | [], [], ρ => some ρ
  | t :: ts, d :: ds, ρ => (t d ρ).bind fun ρ1 => gSeq ts ds ρ1
  | _, _, _ => none
def gTup (ts : List TG) : TG := fun d ρ => match d with
  | .tup l => gSeq ts l ρ
  | .lst l => gSeq ts l ρ
  | _ => none
/-! what is walked -/
def iSeq (f : X) : XA := fun ρ g => (f ρ g).bind fun d g1 => match d with
  | .tup l => .ok l g1
  | .lst l => .ok l g1
  | .str s => .ok (s.map fun c => .str [c]) g1
  | _ => .bad
def rngL (a : Int) (n : Nat) : List D := (List.range n).map fun (i : Nat) => D.int (a + (i : Int))
def rngOk (i : Int) : Bool := decide (i.natAbs < 4611686018427387904)
def iRng1 (f : X) : XA := fun ρ g => (f ρ g).bind fun b g2 => match b with
  | .int j => (match rngOk j && decide (j.toNat ≤ LIM) with
    | true => .ok (rngL 0 j.toNat) g2
    | false => .bad)
  | _ => .bad
def iRng (f h : X) : XA := fun ρ g => (f ρ g).bind fun a g1 => (h ρ g1).bind fun b g2 => match a, b with
  | .int i, .int j => (match rngOk i && rngOk j && decide ((j - i).toNat ≤ LIM) with
    | true => .ok (rngL i (j - i).toNat) g2
    | false => .bad)
  | _, _ => .bad
def zipL (a b : List D) : List D := (a.zip b).map fun p => .tup [p.1, p.2]
def seqD : D → Option (List D)
  | .tup l => some l
  | .lst l => some l
  | _ => none
def iZip (f h : X) : XA := fun ρ g => (f ρ g).bind fun a g1 => (h ρ g1).bind fun b g2 => match a, b with
  | .tup l, .tup m => .ok (zipL l m) g2
  | .lst l, .lst m => .ok (zipL l m) g2
  | _, _ => .bad
/-- list(zip(f, h)) -/
def xLZip (f h : X) : X := fun ρ g => (f ρ g).bind fun a g1 => (h ρ g1).bind fun b g2 => match a, b with
  | .tup l, .tup m => .ok (.lst (zipL l m)) g2
  | _, _ => .bad
def enumL (a : List D) : List D := zipL (rngL 0 a.length) a
def iEnum (f : X) : XA := fun ρ g => (f ρ g).bind fun a g1 => match a with
  | .lst l => .ok (enumL l) g1
  | _ => .bad
/-! a comprehension: an exception within is not told -/
def lcL (tg : TG) (t : XT) (e : X) (ρ : Env) : List D → G → R (List D)
  | [], g => .ok [] g
  | d :: ds, g => match tg d ρ with
    | none => .bad
    | some ρ1 => match t ρ1 g with
      | .ok true g1 => (match e ρ1 g1 with
        | .ok y g2 => (match lcL tg t e ρ ds g2 with
          | .ok ys g3 => .ok (y :: ys) g3
          | _ => .bad)
        | _ => .bad)
      | .ok false g1 => lcL tg t e ρ ds g1
      | _ => .bad
def wipe {α : Type} : List Nat → List (Option α) → List (Option α)
  | [], l => l
  | v :: vs, l => (wipe vs l).set v none
def xLc (own : List Nat) (it : XA) (tg : TG) (t : XT) (e : X) : X := fun ρ g => (it ρ g).bind fun ds g1 =>
  match lcL tg t e (wipe own ρ) ds g1 with
  | .ok ys g2 => .ok (.lst ys) g2
  | _ => .bad

/-! ### statements -/
inductive O where
  | nx (ρ : Env) (g : G) | rt (d : D) (g : G) | bk (ρ : Env) (g : G) | ct (ρ : Env) (g : G) | ex (e : Ex) (ρ : Env) (g : G) | bad
abbrev S := Env → G → O
def R.to {α : Type} (x : R α) (ρ : Env) (k : α → G → O) : O := match x with
  | .ok a g => k a g
  | .ex e g => .ex e ρ g
  | .bad => .bad
@[simp] theorem R.to_ok {α : Type} {a : α} {g : G} {ρ : Env} {k : α → G → O} : R.to (.ok a g) ρ k = k a g := rfl
@[simp] theorem R.to_ex {α : Type} {e : Ex} {g : G} {ρ : Env} {k : α → G → O} : R.to (.ex e g : R α) ρ k = .ex e ρ g := rfl
@[simp] theorem R.to_bad {α : Type} {ρ : Env} {k : α → G → O} : R.to (.bad : R α) ρ k = .bad := rfl
def sNop : S := fun ρ g => .nx ρ g
def sSeq (a b : S) : S := fun ρ g => match a ρ g with
  | .nx ρ1 g1 => b ρ1 g1
  | o => o
def sBrk : S := fun ρ g => .bk ρ g
def sCont : S := fun ρ g => .ct ρ g
def sSet (tg : TG) (f : X) : S := fun ρ g => (f ρ g).to ρ fun d g1 => match tg d ρ with
  | some ρ1 => .nx ρ1 g1
  | none => .bad
/-- i, j = f, h: stored from the right -/
def sPar (i j : Nat) (f h : X) : S := fun ρ g => (f ρ g).to ρ fun a g1 => (h ρ g1).to ρ fun b g2 => if i < ρ.length ∧ j < ρ.length then .nx ((ρ.set i (some a)).set j (some b)) g2 else .bad
def sIf (t : XT) (a b : S) : S := fun ρ g => (t ρ g).to ρ fun c g1 => match c with
  | true => a ρ g1
  | false => b ρ g1
def sRet (f : X) : S := fun ρ g => (f ρ g).to ρ fun d g1 => .rt d g1
def sExpr (f : X) : S := fun ρ g => (f ρ g).to ρ fun _ g1 => .nx ρ g1
/-- slots that nobody reads any more -/
def sKill (is : List Nat) : S := fun ρ g => .nx (wipe is ρ) g
/-- raise c(..) -/
def sRaise (c : Nat) (a : XA) : S := fun ρ g => (a ρ g).to ρ fun ds g1 => .ex (.mk c ds) ρ g1
def sApp (i : Nat) (f : X) : S := fun ρ g => match ρ[i]? with
  | some (some (.lst _)) => (f ρ g).to ρ fun d g1 => (match ρ[i]? with
    | some (some (.lst l)) => (match decide (l.length < LIM) with
      | true => .nx (ρ.set i (some (.lst (l ++ [d])))) g1
      | false => .bad)
    | _ => .bad)
  | _ => .bad
def forL (tg : TG) (b : S) : List D → Env → G → O
  | [], ρ, g => .nx ρ g
  | d :: ds, ρ, g => match tg d ρ with
    | none => .bad
    | some ρ1 => match b ρ1 g with
      | .nx ρ2 g2 => forL tg b ds ρ2 g2
      | .ct ρ2 g2 => forL tg b ds ρ2 g2
      | .bk ρ2 g2 => .nx ρ2 g2
      | o => o
def sFor (tg : TG) (it : XA) (b : S) : S := fun ρ g => (it ρ g).to ρ fun ds g1 => forL tg b ds ρ g1
def whileL (t : XT) (b : S) : Nat → Env → G → O
  | 0, _, _ => .bad
  | n + 1, ρ, g => (t ρ g).to ρ fun c g1 => match c with
    | false => .nx ρ g1
    | true => match b ρ g1 with
      | .nx ρ2 g2 => whileL t b n ρ2 g2
      | .ct ρ2 g2 => whileL t b n ρ2 g2
      | .bk ρ2 g2 => .nx ρ2 g2
      | o => o
def sWhile (n : Nat) (t : XT) (b : S) : S := fun ρ g => whileL t b n ρ g
/-- except clauses: by class; some i: the exception is put to the slot i, and the suite hands back plain data -/
def noExO : O → O
  | .ex _ _ _ => .bad
  | o => o
def handleL (c : Nat) (pay : List D) (ρ : Env) (g : G) : List (Nat × Option Nat × S) → O
  | [] => .ex (.mk c pay) ρ g
  | (n, none, s) :: r => if n = c then noExO (s ρ g) else handleL c pay ρ g r
  | (n, some i, s) :: r => if n = c then (match pay, s (ρ.set i (some (.ins c pay))) g with
    | _ :: _, .rt d g2 => (match isDat d with
      | true => .rt d g2
      | false => .bad)
    | _, _ => .bad) else handleL c pay ρ g r
def sTry (b : S) (hs : List (Nat × Option Nat × S)) : S := fun ρ g => match b ρ g with
  | .ex (.mk c pay) ρ1 g1 => handleL c pay ρ1 g1 hs
  | o => o
/-- e.f: the k-th field -/
def fldD (k : Nat) : D → Option D
  | .ins _ fs => fs[k]?
  | _ => none
/-- a def from its body: n slots -/
def fnOf (n : Nat) (b : S) : FN := fun ds g => match b (ds.map some ++ List.replicate (n - ds.length) none) g with
  | .rt d g1 => .ok d g1
  | .nx _ g1 => .ok .non g1
  | .ex e _ g1 => .ex e g1
  | _ => .bad
/-! the draw -/
def tkG (g : G) (m : Int) : Int × G := if 0 < g.s then (g.s % m, { g with s := g.s / m }) else
  let t' := (g.t * 48271 + 11) % 2147483647
  ((t' / 7) % m, { g with t := t' })
def takeF : FN := fun ds g => match ds with
  | [.gen a, .int m] => if g.on = true ∧ a = g.at_ ∧ 0 < m ∧ m.natAbs < 1000000000000000000 then .ok (.int (tkG g m).1) (tkG g m).2 else .bad
  | _ => .bad
end PP

/-! PPV: how PP's functions run: rows for loops and comprehensions (core Lean alone). -/
namespace PP
set_option linter.all false

theorem xVar_eq {ρ : Env} {i : Nat} {d : D} {g : G} (h : ρ[i]? = some (some d)) : xVar i ρ g = .ok d g := by unfold xVar; rw [h]
/-- a comprehension that draws nothing -/
theorem lcL_pure {tg : TG} {t : XT} {e : X} {ρ : Env} {g : G} (f : D → D) (p : D → Bool) : ∀ {ds : List D}, (∀ d ∈ ds, ∃ ρ1, tg d ρ = some ρ1 ∧ t ρ1 g = .ok (p d) g ∧ (p d = true → e ρ1 g = .ok (f d) g)) →
    lcL tg t e ρ ds g = .ok ((ds.filter p).map f) g
  | [], _ => rfl
  | d :: ds, h => by
    obtain ⟨ρ1, h1, h2, h3⟩ := h d (by simp)
    have ih := lcL_pure (ds := ds) f p fun x hx => h x (by simp [hx])
    unfold lcL
    rw [h1]
    simp only
    rw [h2]
    cases hp : p d with
    | false => simp [hp, ih]
    | true => simp [hp, ih, h3 hp]
theorem lcL_map {tg : TG} {e : X} {ρ : Env} {g : G} (f : D → D) {ds : List D} (h : ∀ d ∈ ds, ∃ ρ1, tg d ρ = some ρ1 ∧ e ρ1 g = .ok (f d) g) : lcL tg tYes e ρ ds g = .ok (ds.map f) g := by
  have := lcL_pure (t := tYes) (e := e) (tg := tg) (ρ := ρ) (g := g) f (fun _ => true) (ds := ds) fun d hd => by
    obtain ⟨ρ1, h1, h2⟩ := h d hd
    exact ⟨ρ1, h1, rfl, fun _ => h2⟩
  rw [this]
  congr 1
  congr 1
  exact List.filter_eq_self.mpr fun _ _ => rfl
/-- a comprehension that draws: I holds of the draw, P of each that comes out -/
theorem lcL_draw {tg : TG} {e : X} {ρ : Env} (I : G → Prop) (P : D → Prop) : ∀ {ds : List D} {g : G}, I g → (∀ d ∈ ds, ∀ g, I g → ∃ ρ1 y g1, tg d ρ = some ρ1 ∧ e ρ1 g = .ok y g1 ∧ P y ∧ I g1) →
    ∃ ys g1, lcL tg tYes e ρ ds g = .ok ys g1 ∧ ys.length = ds.length ∧ (∀ y ∈ ys, P y) ∧ I g1
  | [], g, hg, _ => ⟨[], g, rfl, rfl, by simp, hg⟩
  | d :: ds, g, hg, h => by
    obtain ⟨ρ1, y, g1, h1, h2, h3, h4⟩ := h d (by simp) g hg
    obtain ⟨ys, g2, k1, k2, k3, k4⟩ := lcL_draw (ds := ds) (g := g1) I P h4 fun x hx => h x (by simp [hx])
    refine ⟨y :: ys, g2, ?_, by simp [k2], ?_, k4⟩
    · unfold lcL
      rw [h1]
      simp only
      simp only [tYes]
      rw [h2]
      simp only
      rw [k1]
    · intro z hz
      rcases List.mem_cons.mp hz with rfl | hz
      · exact h3
      · exact k3 z hz
inductive All2 {α β : Type} (P : α → β → Prop) : List α → List β → Prop
  | nil : All2 P [] []
  | cons {a : α} {b : β} {as : List α} {bs : List β} (h : P a b) (t : All2 P as bs) : All2 P (a :: as) (b :: bs)
/-- the same, each with what it comes from -/
theorem lcL_draw2 {tg : TG} {e : X} {ρ : Env} (I : G → Prop) (P : D → D → Prop) : ∀ {ds : List D} {g : G}, I g → (∀ d ∈ ds, ∀ g, I g → ∃ ρ1 y g1, tg d ρ = some ρ1 ∧ e ρ1 g = .ok y g1 ∧ P d y ∧ I g1) →
    ∃ ys g1, lcL tg tYes e ρ ds g = .ok ys g1 ∧ All2 P ds ys ∧ I g1
  | [], g, hg, _ => ⟨[], g, rfl, .nil, hg⟩
  | d :: ds, g, hg, h => by
    obtain ⟨ρ1, y, g1, h1, h2, h3, h4⟩ := h d (by simp) g hg
    obtain ⟨ys, g2, k1, k2, k4⟩ := lcL_draw2 (ds := ds) (g := g1) I P h4 fun x hx => h x (by simp [hx])
    refine ⟨y :: ys, g2, ?_, .cons h3 k2, k4⟩
    unfold lcL
    rw [h1]
    simp only [tYes]
    rw [h2]
    simp only
    rw [k1]
theorem xLc_of {own : List Nat} {it : XA} {tg : TG} {t : XT} {e : X} {ρ : Env} {g g1 g2 : G} {ds ys : List D} (h1 : it ρ g = .ok ds g1) (h2 : lcL tg t e (wipe own ρ) ds g1 = .ok ys g2) : xLc own it tg t e ρ g = .ok (.lst ys) g2 := by
  unfold xLc
  rw [h1]
  simp only [R.bind_ok]
  rw [h2]
/-- a loop: the slots as a function of what is kept -/
theorem forL_fold {α : Type} {tg : TG} {b : S} {g : G} (E : α → Env) (step : α → D → α) (I : α → Prop) : ∀ {ds : List D} {s : α}, I s → (∀ d ∈ ds, ∀ s, I s → ∃ ρ1, tg d (E s) = some ρ1 ∧ b ρ1 g = .nx (E (step s d)) g ∧ I (step s d)) →
    forL tg b ds (E s) g = .nx (E (ds.foldl step s)) g
  | [], s, _, _ => rfl
  | d :: ds, s, hs, h => by
    obtain ⟨ρ1, h1, h2, h3⟩ := h d (by simp) s hs
    unfold forL
    rw [h1]
    simp only
    rw [h2]
    exact forL_fold (ds := ds) E step I h3 fun x hx => h x (by simp [hx])
/-- a loop with a row of states that is told -/
theorem forL_seq {tg : TG} {b : S} {g : G} (E : Nat → Env) : ∀ {ds : List D} (k : Nat), (∀ i (h : i < ds.length), ∃ ρ1, tg ds[i] (E (k + i)) = some ρ1 ∧ b ρ1 g = .nx (E (k + i + 1)) g) →
    forL tg b ds (E k) g = .nx (E (k + ds.length)) g
  | [], _, _ => rfl
  | d :: ds, k, h => by
    obtain ⟨ρ1, h1, h2⟩ := h 0 (by simp)
    unfold forL
    have h1' : tg d (E k) = some ρ1 := h1
    rw [h1']
    simp only
    have h2' : b ρ1 g = .nx (E (k + 1)) g := h2
    rw [h2']
    simp only
    rw [forL_seq (ds := ds) E (k + 1) fun i hi => by
      obtain ⟨ρ2, k1, k2⟩ := h (i + 1) (by simpa using hi)
      refine ⟨ρ2, ?_, ?_⟩
      · rw [← k1]
        simp only [List.getElem_cons_succ]
        congr 2
        omega
      · rw [k2]
        congr 2
        omega]
    simp only [List.length_cons]
    congr 2
    omega
theorem forL_nx {tg : TG} {b : S} {d : D} {ds : List D} {ρ ρ1 ρ2 : Env} {g g2 : G} (h1 : tg d ρ = some ρ1) (h2 : b ρ1 g = .nx ρ2 g2) : forL tg b (d :: ds) ρ g = forL tg b ds ρ2 g2 := by
  rw [forL, h1]
  simp only
  rw [h2]
theorem sFor_of {tg : TG} {it : XA} {b : S} {ρ : Env} {g g1 : G} {ds : List D} {o : O} (h : it ρ g = .ok ds g1) (h2 : forL tg b ds ρ g1 = o) : sFor tg it b ρ g = o := by
  unfold sFor
  rw [h]
  exact h2
theorem seq_nx {a b : S} {ρ ρ1 : Env} {g g1 : G} (h : a ρ g = .nx ρ1 g1) : sSeq a b ρ g = b ρ1 g1 := by unfold sSeq; rw [h]
theorem seq_ex {a b : S} {ρ ρ1 : Env} {g g1 : G} {e : Ex} (h : a ρ g = .ex e ρ1 g1) : sSeq a b ρ g = .ex e ρ1 g1 := by unfold sSeq; rw [h]
theorem seq_rt {a b : S} {ρ : Env} {g g1 : G} {d : D} (h : a ρ g = .rt d g1) : sSeq a b ρ g = .rt d g1 := by unfold sSeq; rw [h]
theorem fnOf_rt {n : Nat} {b : S} {ds : List D} {g g1 : G} {d : D} (h : b (ds.map some ++ List.replicate (n - ds.length) none) g = .rt d g1) : fnOf n b ds g = .ok d g1 := by unfold fnOf; rw [h]
theorem fnOf_nx {n : Nat} {b : S} {ds : List D} {g g1 : G} {ρ : Env} (h : b (ds.map some ++ List.replicate (n - ds.length) none) g = .nx ρ g1) : fnOf n b ds g = .ok .non g1 := by unfold fnOf; rw [h]
theorem fnOf_ex {n : Nat} {b : S} {ds : List D} {g g1 : G} {e : Ex} {ρ : Env} (h : b (ds.map some ++ List.replicate (n - ds.length) none) g = .ex e ρ g1) : fnOf n b ds g = .ex e g1 := by unfold fnOf; rw [h]
theorem takeF_eq {a : Nat} {m : Int} {g : G} (h1 : g.on = true) (h2 : g.at_ = a) (h3 : 0 < m) (h4 : m < 1000000000000000000) : takeF [.gen a, .int m] g = .ok (.int (tkG g m).1) (tkG g m).2 := by
  unfold takeF
  simp only
  rw [if_pos ⟨h1, h2.symm, h3, by omega⟩]
theorem tkG_lo {g : G} {m : Int} (h : 0 < m) : 0 ≤ (tkG g m).1 ∧ (tkG g m).1 < m := by
  unfold tkG
  split
  · exact ⟨Int.emod_nonneg _ (by omega), Int.emod_lt_of_pos _ h⟩
  · exact ⟨Int.emod_nonneg _ (by omega), Int.emod_lt_of_pos _ h⟩
/-- the law's drawing state at a -/
structure Gn (a : Nat) (g : G) : Prop where
  on : g.on = true
  at_ : g.at_ = a
theorem take_ex {a : Nat} {m : Int} {g : G} (h : Gn a g) (h3 : 0 < m) (h4 : m < 1000000000000000000) : ∃ v g1, takeF [.gen a, .int m] g = .ok (.int v) g1 ∧ 0 ≤ v ∧ v < m ∧ Gn a g1 := by
  refine ⟨_, _, takeF_eq h.on h.at_ h3 h4, (tkG_lo h3).1, (tkG_lo h3).2, ?_, ?_⟩
  · unfold tkG; split <;> exact h.on
  · unfold tkG; split <;> exact h.at_
theorem blsD_map : ∀ l : List Bool, blsD (l.map .bl) = some l
  | [] => rfl
  | b :: l => by simp [blsD, blsD_map l]
theorem intsD_map : ∀ l : List Int, intsD (l.map .int) = some l
  | [] => rfl
  | b :: l => by simp [intsD, intsD_map l]
mutual
theorem eqB_refl : ∀ d : D, isDat d = true → eqB d d = true
  | .non, _ => rfl
  | .bl _, _ => by simp [eqB]
  | .int _, _ => by simp [eqB]
  | .str _, _ => by simp [eqB]
  | .tup l, h => by simp only [eqB]; exact eqBL_refl l (by simpa [isDat] using h)
  | .lst l, h => by simp only [eqB]; exact eqBL_refl l (by simpa [isDat] using h)
  | .fn _, h => by simp [isDat] at h
  | .gen _, h => by simp [isDat] at h
  | .ins _ _, h => by simp [isDat] at h
theorem eqBL_refl : ∀ l : List D, isDatL l = true → eqBL l l = true
  | [], _ => rfl
  | d :: l, h => by
    simp only [isDatL, Bool.and_eq_true] at h
    simp [eqBL, eqB_refl d h.1, eqBL_refl l h.2]
end
theorem eqD_refl {d : D} (h : shapeOk d = true) : eqD d d = some (.bl true) := by
  have h1 : isDat d = true := by simp only [shapeOk, Bool.and_eq_true] at h; exact h.1
  simp [eqD, h, eqB_refl d h1]
theorem neD_refl {d : D} (h : shapeOk d = true) : neD d d = some (.bl false) := by
  have h1 : isDat d = true := by simp only [shapeOk, Bool.and_eq_true] at h; exact h.1
  simp [neD, h, eqB_refl d h1]
theorem isDatL_ints : ∀ l : List Int, isDatL (l.map .int) = true
  | [] => rfl
  | _ :: l => by simp [isDatL, isDat, isDatL_ints l]
theorem depL_ints : ∀ l : List Int, depL (l.map .int) = 0
  | [] => rfl
  | _ :: l => by simp [depL, dep, depL_ints l]
theorem shape_ints (l : List Int) : shapeOk (.tup (l.map .int)) = true := by simp [shapeOk, isDat, isDatL_ints, dep, depL_ints]
theorem shape_intl (l : List Int) : shapeOk (.lst (l.map .int)) = true := by simp [shapeOk, isDat, isDatL_ints, dep, depL_ints]
@[simp] theorem shape_int (i : Int) : shapeOk (.int i) = true := by simp [shapeOk, isDat, dep]
@[simp] theorem shape_bl (i : Bool) : shapeOk (.bl i) = true := by simp [shapeOk, isDat, dep]
@[simp] theorem shape_str (i : List Nat) : shapeOk (.str i) = true := by simp [shapeOk, isDat, dep]
@[simp] theorem shape_non : shapeOk .non = true := by simp [shapeOk, isDat, dep]
theorem eqD_int (i j : Int) : eqD (.int i) (.int j) = some (.bl (i == j)) := by simp [eqD, eqB]
theorem neD_int (i j : Int) : neD (.int i) (.int j) = some (.bl (!(i == j))) := by simp [neD, eqB]
theorem eqBL_ints : ∀ a b : List Int, eqBL (a.map .int) (b.map .int) = (a == b)
  | [], [] => rfl
  | [], _ :: _ => rfl
  | _ :: _, [] => rfl
  | x :: xs, y :: ys => by simp [eqBL, eqB, eqBL_ints xs ys]
theorem eqD_ints (a b : List Int) : eqD (.tup (a.map .int)) (.tup (b.map .int)) = some (.bl (a == b)) := by simp [eqD, shape_ints, eqB, eqBL_ints]
theorem neD_ints (a b : List Int) : neD (.tup (a.map .int)) (.tup (b.map .int)) = some (.bl (!(a == b))) := by simp [neD, shape_ints, eqB, eqBL_ints]

/-! ### the rows by which simp runs a text -/
section
variable {ρ : Env} {g : G} {f h k : X} {a : XA} {t u : XT}
@[simp] theorem ev_v0 {d : D} {ρ : Env} : xVar 0 (some d :: ρ) g = .ok d g := rfl
@[simp] theorem ev_vs {o : Option D} {i : Nat} {ρ : Env} : xVar (i + 1) (o :: ρ) g = xVar i ρ g := rfl
@[simp] theorem ev_c {d : D} : xC d ρ g = .ok d g := rfl
@[simp] theorem ev_un {op : D → Option D} : xUn op f ρ g = (f ρ g).bind fun a g1 => ofO (op a) g1 := rfl
@[simp] theorem ev_bin {op : D → D → Option D} : xBin op f h ρ g = (f ρ g).bind fun a g1 => (h ρ g1).bind fun b g2 => ofO (op a b) g2 := rfl
@[simp] theorem ev_chain {op op' : D → D → Option D} : xChain op op' f h k ρ g = (f ρ g).bind fun a g1 => (h ρ g1).bind fun b g2 => match op a b with
  | some (.bl true) => (k ρ g2).bind fun c g3 => ofO (op' b c) g3
  | some (.bl false) => .ok (.bl false) g2
  | _ => .bad := rfl
@[simp] theorem ev_and : xAnd f h ρ g = (f ρ g).bind fun a g1 => match a with
  | .bl true => h ρ g1
  | .bl false => .ok (.bl false) g1
  | _ => .bad := rfl
@[simp] theorem ev_or : xOr f h ρ g = (f ρ g).bind fun a g1 => match a with
  | .bl false => h ρ g1
  | .bl true => .ok (.bl true) g1
  | _ => .bad := rfl
@[simp] theorem ev_not : xNot f ρ g = (f ρ g).bind fun a g1 => ofO (notD a) g1 := rfl
@[simp] theorem ev_if : xIf t f h ρ g = (t ρ g).bind fun b g1 => match b with
  | true => f ρ g1
  | false => h ρ g1 := rfl
@[simp] theorem ev_tV : tV f ρ g = (f ρ g).bind fun d g1 => match d with
  | .bl b => .ok b g1
  | _ => .bad := rfl
@[simp] theorem ev_tAnd : tAnd t u ρ g = (t ρ g).bind fun b g1 => match b with
  | true => u ρ g1
  | false => .ok false g1 := rfl
@[simp] theorem ev_tOr : tOr t u ρ g = (t ρ g).bind fun b g1 => match b with
  | true => .ok true g1
  | false => u ρ g1 := rfl
@[simp] theorem ev_tNot : tNot t ρ g = (t ρ g).bind fun b g1 => .ok (!b) g1 := rfl
@[simp] theorem ev_nil : aNil ρ g = .ok [] g := rfl
@[simp] theorem ev_cons : aCons f a ρ g = (f ρ g).bind fun d g1 => (a ρ g1).bind fun ds g2 => .ok (d :: ds) g2 := rfl
@[simp] theorem ev_tup : xTup a ρ g = (a ρ g).bind fun ds g1 => match decide (ds.length ≤ LIM) with
  | true => .ok (.tup ds) g1
  | false => .bad := rfl
@[simp] theorem ev_lst : xLst a ρ g = (a ρ g).bind fun ds g1 => match decide (ds.length ≤ LIM) with
  | true => .ok (.lst ds) g1
  | false => .bad := rfl
@[simp] theorem ev_cb {op : List D → Option D} : xCB op a ρ g = (a ρ g).bind fun ds g1 => ofO (op ds) g1 := rfl
@[simp] theorem ev_call {F : FN} : xCall F a ρ g = (a ρ g).bind fun ds g1 => F ds g1 := rfl
@[simp] theorem ev_callV {tbl : Nat → FN} : xCallV tbl f a ρ g = (f ρ g).bind fun d g1 => match d with
  | .fn n => (a ρ g1).bind fun ds g2 => tbl n ds g2
  | _ => .bad := rfl
@[simp] theorem ev_sl00 : xSlice f none none ρ g = (f ρ g).bind fun d g1 => ofO (sliceD d none none) g1 := rfl
@[simp] theorem ev_sl10 : xSlice f (some h) none ρ g = (f ρ g).bind fun d g1 => (h ρ g1).bind fun b g' => match b with
  | .int i => ofO (sliceD d (some i) none) g'
  | _ => .bad := rfl
@[simp] theorem ev_sl01 : xSlice f none (some h) ρ g = (f ρ g).bind fun d g1 => (h ρ g1).bind fun b g' => match b with
  | .int i => ofO (sliceD d none (some i)) g'
  | _ => .bad := rfl
@[simp] theorem ev_sl11 : xSlice f (some h) (some k) ρ g = (f ρ g).bind fun d g1 => (h ρ g1).bind fun b g' => match b with
  | .int i => (k ρ g').bind fun b2 g2 => match b2 with
    | .int j => ofO (sliceD d (some i) (some j)) g2
    | _ => .bad
  | _ => .bad := rfl
@[simp] theorem ev_gName {i : Nat} {d : D} (hi : i < ρ.length) : gName i d ρ = some (ρ.set i (some d)) := if_pos hi
@[simp] theorem ev_gTupT {ts : List TG} {l : List D} : gTup ts (.tup l) ρ = gSeq ts l ρ := rfl
@[simp] theorem ev_gTupL {ts : List TG} {l : List D} : gTup ts (.lst l) ρ = gSeq ts l ρ := rfl
@[simp] theorem ev_gNil : gSeq [] [] ρ = some ρ := rfl
@[simp] theorem ev_gCons {t : TG} {ts : List TG} {d : D} {ds : List D} : gSeq (t :: ts) (d :: ds) ρ = (t d ρ).bind fun ρ1 => gSeq ts ds ρ1 := rfl
@[simp] theorem ev_iSeq : iSeq f ρ g = (f ρ g).bind fun d g1 => match d with
  | .tup l => .ok l g1
  | .lst l => .ok l g1
  | .str s => .ok (s.map fun c => .str [c]) g1
  | _ => .bad := rfl
@[simp] theorem ev_iRng1 : iRng1 f ρ g = (f ρ g).bind fun b g2 => match b with
  | .int j => (match rngOk j && decide (j.toNat ≤ LIM) with
    | true => .ok (rngL 0 j.toNat) g2
    | false => .bad)
  | _ => .bad := rfl
@[simp] theorem ev_iRng : iRng f h ρ g = (f ρ g).bind fun a g1 => (h ρ g1).bind fun b g2 => match a, b with
  | .int i, .int j => (match rngOk i && rngOk j && decide ((j - i).toNat ≤ LIM) with
    | true => .ok (rngL i (j - i).toNat) g2
    | false => .bad)
  | _, _ => .bad := rfl
@[simp] theorem ev_iZip : iZip f h ρ g = (f ρ g).bind fun a g1 => (h ρ g1).bind fun b g2 => match a, b with
  | .tup l, .tup m => .ok (zipL l m) g2
  | .lst l, .lst m => .ok (zipL l m) g2
  | _, _ => .bad := rfl
@[simp] theorem ev_lZip : xLZip f h ρ g = (f ρ g).bind fun a g1 => (h ρ g1).bind fun b g2 => match a, b with
  | .tup l, .tup m => .ok (.lst (zipL l m)) g2
  | _, _ => .bad := rfl
@[simp] theorem ev_iEnum : iEnum f ρ g = (f ρ g).bind fun a g1 => match a with
  | .lst l => .ok (enumL l) g1
  | _ => .bad := rfl
@[simp] theorem ev_nop : sNop ρ g = .nx ρ g := rfl
@[simp] theorem ev_brk : sBrk ρ g = .bk ρ g := rfl
@[simp] theorem ev_cont : sCont ρ g = .ct ρ g := rfl
@[simp] theorem ev_kill {is : List Nat} : sKill is ρ g = .nx (wipe is ρ) g := rfl
@[simp] theorem ev_set {tg : TG} : sSet tg f ρ g = (f ρ g).to ρ fun d g1 => match tg d ρ with
  | some ρ1 => .nx ρ1 g1
  | none => .bad := rfl
@[simp] theorem ev_par {i j : Nat} (hi : i < ρ.length) (hj : j < ρ.length) : sPar i j f h ρ g = (f ρ g).to ρ fun a g1 => (h ρ g1).to ρ fun b g2 => .nx ((ρ.set i (some a)).set j (some b)) g2 := by
  unfold sPar
  simp only [hi, hj, and_self, if_true]
@[simp] theorem ev_sif {a b : S} : sIf t a b ρ g = (t ρ g).to ρ fun c g1 => match c with
  | true => a ρ g1
  | false => b ρ g1 := rfl
@[simp] theorem ev_ret : sRet f ρ g = (f ρ g).to ρ fun d g1 => .rt d g1 := rfl
@[simp] theorem ev_expr : sExpr f ρ g = (f ρ g).to ρ fun _ g1 => .nx ρ g1 := rfl
@[simp] theorem ev_raise {c : Nat} : sRaise c a ρ g = (a ρ g).to ρ fun ds g1 => .ex (.mk c ds) ρ g1 := rfl
@[simp] theorem ev_seq {a b : S} : sSeq a b ρ g = match a ρ g with
  | .nx ρ1 g1 => b ρ1 g1
  | o => o := rfl
@[simp] theorem ev_app {i : Nat} : sApp i f ρ g = match ρ[i]? with
  | some (some (.lst l)) => (f ρ g).to ρ fun d g1 => if l.length < LIM then .nx (ρ.set i (some (.lst (l ++ [d])))) g1 else .bad
  | _ => .bad := by
  unfold sApp
  cases h : ρ[i]? with
  | none => rfl
  | some o =>
    cases o with
    | none => rfl
    | some d =>
      cases d with
      | lst l =>
        simp only
        cases f ρ g with
        | ok d g1 =>
          simp only [R.to_ok]
          by_cases hl : l.length < LIM
          · rw [if_pos hl, decide_eq_true hl]
          · rw [if_neg hl, decide_eq_false hl]
        | ex e g1 => rfl
        | bad => rfl
      | _ => rfl
theorem LIM_big {n : Nat} (h : n ≤ 1000000) : n ≤ LIM := Nat.le_trans h (by decide)
@[simp] theorem ev_wN : wipe ([] : List Nat) ρ = ρ := rfl
@[simp] theorem ev_wC {v : Nat} {vs : List Nat} : wipe (v :: vs) ρ = (wipe vs ρ).set v none := rfl
end
/-! operations -/
section
variable {i j : Int} {b c : Bool} {l m : List D}
@[simp] theorem op_add_i : addD (.int i) (.int j) = some (.int (i + j)) := rfl
@[simp] theorem op_sub_i : subD (.int i) (.int j) = some (.int (i - j)) := rfl
@[simp] theorem op_neg_i : negD (.int i) = some (.int (-i)) := rfl
@[simp] theorem op_lt_i : ltD (.int i) (.int j) = some (.bl (decide (i < j))) := rfl
@[simp] theorem op_le_i : leD (.int i) (.int j) = some (.bl (decide (i ≤ j))) := rfl
@[simp] theorem op_gt_i : gtD (.int i) (.int j) = some (.bl (decide (j < i))) := rfl
@[simp] theorem op_ge_i : geD (.int i) (.int j) = some (.bl (decide (j ≤ i))) := rfl
theorem op_mod_i (h : 0 < j) : modD (.int i) (.int j) = some (.int (i % j)) := if_pos h
theorem op_fdiv_i (h : 0 < j) (h2 : j < 1073741824) : fdivD (.int i) (.int j) = some (.int (i / j)) := if_pos ⟨h, by omega⟩
theorem op_mul_l (h : i.natAbs < 18446744073709551616) : mulD (.int i) (.int j) = some (.int (i * j)) := by simp [mulD, mulOk, h]
theorem op_mul_r (h : j.natAbs < 18446744073709551616) : mulD (.int i) (.int j) = some (.int (i * j)) := by simp [mulD, mulOk, h]
@[simp] theorem op_not_b : notD (.bl b) = some (.bl (!b)) := rfl
@[simp] theorem op_eq_i : eqD (.int i) (.int j) = some (.bl (i == j)) := eqD_int i j
@[simp] theorem op_ne_i : neD (.int i) (.int j) = some (.bl (!(i == j))) := neD_int i j
@[simp] theorem op_len_t : lenD [.tup l] = some (.int l.length) := rfl
@[simp] theorem op_len_l : lenD [.lst l] = some (.int l.length) := rfl
@[simp] theorem op_len_s {s : List Nat} : lenD [.str s] = some (.int s.length) := rfl
@[simp] theorem op_int_i : intD [.int i] = some (.int i) := rfl
@[simp] theorem op_tuple_l : tupleD [.lst l] = some (.tup l) := rfl
@[simp] theorem op_tuple_t : tupleD [.tup l] = some (.tup l) := rfl
@[simp] theorem op_list_l : listD [.lst l] = some (.lst l) := rfl
@[simp] theorem op_list_t : listD [.tup l] = some (.lst l) := rfl
theorem op_all_of {bs : List Bool} : allD [.lst (bs.map .bl)] = some (.bl (bs.all id)) := by simp [allD, blsD_map]
theorem op_any_of {bs : List Bool} : anyD [.lst (bs.map .bl)] = some (.bl (bs.any id)) := by simp [anyD, blsD_map]
theorem op_sum_l {ns : List Int} : sumD [.lst (ns.map .int)] = some (.int ns.sum) := by simp [sumD, intsD_map]
theorem op_sum_t {ns : List Int} : sumD [.tup (ns.map .int)] = some (.int ns.sum) := by simp [sumD, intsD_map]
end
section
variable {i : Int} {b : Bool} {l : List D} {s : List Nat}
@[simp] theorem kd_int_non : isKd .int .non = some (.bl false) := rfl
@[simp] theorem kd_int_bl : isKd .int (.bl b) = some (.bl true) := rfl
@[simp] theorem kd_int_int : isKd .int (.int i) = some (.bl true) := rfl
@[simp] theorem kd_int_str : isKd .int (.str s) = some (.bl false) := rfl
@[simp] theorem kd_int_tup : isKd .int (.tup l) = some (.bl false) := rfl
@[simp] theorem kd_int_lst : isKd .int (.lst l) = some (.bl false) := rfl
@[simp] theorem kd_bool_non : isKd .bool .non = some (.bl false) := rfl
@[simp] theorem kd_bool_bl : isKd .bool (.bl b) = some (.bl true) := rfl
@[simp] theorem kd_bool_int : isKd .bool (.int i) = some (.bl false) := rfl
@[simp] theorem kd_bool_str : isKd .bool (.str s) = some (.bl false) := rfl
@[simp] theorem kd_bool_tup : isKd .bool (.tup l) = some (.bl false) := rfl
@[simp] theorem kd_bool_lst : isKd .bool (.lst l) = some (.bl false) := rfl
@[simp] theorem kd_str_non : isKd .str .non = some (.bl false) := rfl
@[simp] theorem kd_str_bl : isKd .str (.bl b) = some (.bl false) := rfl
@[simp] theorem kd_str_int : isKd .str (.int i) = some (.bl false) := rfl
@[simp] theorem kd_str_str : isKd .str (.str s) = some (.bl true) := rfl
@[simp] theorem kd_str_tup : isKd .str (.tup l) = some (.bl false) := rfl
@[simp] theorem kd_str_lst : isKd .str (.lst l) = some (.bl false) := rfl
@[simp] theorem kd_tuple_non : isKd .tuple .non = some (.bl false) := rfl
@[simp] theorem kd_tuple_bl : isKd .tuple (.bl b) = some (.bl false) := rfl
@[simp] theorem kd_tuple_int : isKd .tuple (.int i) = some (.bl false) := rfl
@[simp] theorem kd_tuple_str : isKd .tuple (.str s) = some (.bl false) := rfl
@[simp] theorem kd_tuple_tup : isKd .tuple (.tup l) = some (.bl true) := rfl
@[simp] theorem kd_tuple_lst : isKd .tuple (.lst l) = some (.bl false) := rfl
@[simp] theorem kd_list_non : isKd .list .non = some (.bl false) := rfl
@[simp] theorem kd_list_bl : isKd .list (.bl b) = some (.bl false) := rfl
@[simp] theorem kd_list_int : isKd .list (.int i) = some (.bl false) := rfl
@[simp] theorem kd_list_str : isKd .list (.str s) = some (.bl false) := rfl
@[simp] theorem kd_list_tup : isKd .list (.tup l) = some (.bl false) := rfl
@[simp] theorem kd_list_lst : isKd .list (.lst l) = some (.bl true) := rfl
@[simp] theorem isnon_non : isNonD .non = some (.bl true) := rfl
@[simp] theorem nonon_non : notNonD .non = some (.bl false) := rfl
@[simp] theorem isnon_bl : isNonD (.bl b) = some (.bl false) := rfl
@[simp] theorem nonon_bl : notNonD (.bl b) = some (.bl true) := rfl
@[simp] theorem isnon_int : isNonD (.int i) = some (.bl false) := rfl
@[simp] theorem nonon_int : notNonD (.int i) = some (.bl true) := rfl
@[simp] theorem isnon_str : isNonD (.str s) = some (.bl false) := rfl
@[simp] theorem nonon_str : notNonD (.str s) = some (.bl true) := rfl
@[simp] theorem isnon_tup : isNonD (.tup l) = some (.bl false) := rfl
@[simp] theorem nonon_tup : notNonD (.tup l) = some (.bl true) := rfl
@[simp] theorem isnon_lst : isNonD (.lst l) = some (.bl false) := rfl
@[simp] theorem nonon_lst : notNonD (.lst l) = some (.bl true) := rfl
end
@[simp] theorem LIM_0 : (0 ≤ LIM) = True := eq_true (by decide)
@[simp] theorem LIM_1 : (1 ≤ LIM) = True := eq_true (by decide)
@[simp] theorem LIM_2 : (2 ≤ LIM) = True := eq_true (by decide)
@[simp] theorem LIM_3 : (3 ≤ LIM) = True := eq_true (by decide)
@[simp] theorem LIM_4 : (4 ≤ LIM) = True := eq_true (by decide)
@[simp] theorem LIM_5 : (5 ≤ LIM) = True := eq_true (by decide)
@[simp] theorem LIM_6 : (6 ≤ LIM) = True := eq_true (by decide)
@[simp] theorem LIM_7 : (7 ≤ LIM) = True := eq_true (by decide)
@[simp] theorem LIM_8 : (8 ≤ LIM) = True := eq_true (by decide)
@[simp] theorem LIM_9 : (9 ≤ LIM) = True := eq_true (by decide)
@[simp] theorem LIM_10 : (10 ≤ LIM) = True := eq_true (by decide)
@[simp] theorem LIM_11 : (11 ≤ LIM) = True := eq_true (by decide)
@[simp] theorem LIM_12 : (12 ≤ LIM) = True := eq_true (by decide)
@[simp] theorem LIM_13 : (13 ≤ LIM) = True := eq_true (by decide)
@[simp] theorem LIM_14 : (14 ≤ LIM) = True := eq_true (by decide)
@[simp] theorem LIM_15 : (15 ≤ LIM) = True := eq_true (by decide)
@[simp] theorem LIM_16 : (16 ≤ LIM) = True := eq_true (by decide)
@[simp] theorem LIM_17 : (17 ≤ LIM) = True := eq_true (by decide)
@[simp] theorem LIM_18 : (18 ≤ LIM) = True := eq_true (by decide)
@[simp] theorem LIM_19 : (19 ≤ LIM) = True := eq_true (by decide)
@[simp] theorem LIM_20 : (20 ≤ LIM) = True := eq_true (by decide)
@[simp] theorem LIM_21 : (21 ≤ LIM) = True := eq_true (by decide)
@[simp] theorem LIM_22 : (22 ≤ LIM) = True := eq_true (by decide)
@[simp] theorem LIM_23 : (23 ≤ LIM) = True := eq_true (by decide)
@[simp] theorem LIM_24 : (24 ≤ LIM) = True := eq_true (by decide)
@[simp] theorem LIM_25 : (25 ≤ LIM) = True := eq_true (by decide)
@[simp] theorem LIM_26 : (26 ≤ LIM) = True := eq_true (by decide)
@[simp] theorem LIM_27 : (27 ≤ LIM) = True := eq_true (by decide)
@[simp] theorem LIM_28 : (28 ≤ LIM) = True := eq_true (by decide)
@[simp] theorem LIM_29 : (29 ≤ LIM) = True := eq_true (by decide)
@[simp] theorem LIM_30 : (30 ≤ LIM) = True := eq_true (by decide)
@[simp] theorem LIM_31 : (31 ≤ LIM) = True := eq_true (by decide)
@[simp] theorem LIM_32 : (32 ≤ LIM) = True := eq_true (by decide)
@[simp] theorem LIM_33 : (33 ≤ LIM) = True := eq_true (by decide)
@[simp] theorem LIM_34 : (34 ≤ LIM) = True := eq_true (by decide)
@[simp] theorem LIM_35 : (35 ≤ LIM) = True := eq_true (by decide)
@[simp] theorem LIM_36 : (36 ≤ LIM) = True := eq_true (by decide)
@[simp] theorem LIM_37 : (37 ≤ LIM) = True := eq_true (by decide)
@[simp] theorem LIM_38 : (38 ≤ LIM) = True := eq_true (by decide)
@[simp] theorem LIM_39 : (39 ≤ LIM) = True := eq_true (by decide)
@[simp] theorem LIM_40 : (40 ≤ LIM) = True := eq_true (by decide)
theorem LIM_lt {n : Nat} (h : n < 1000000) : n < LIM := Nat.lt_trans h (by decide)
theorem LIM_le {n : Nat} (h : n ≤ 1000000) : n ≤ LIM := Nat.le_trans h (by decide)
@[simp] theorem ixD_t {l : List D} {i : Int} : ixD (.tup l) (.int i) = itD l i := rfl
@[simp] theorem ixD_l {l : List D} {i : Int} : ixD (.lst l) (.int i) = itD l i := rfl
@[simp] theorem ixD_s {l : List Nat} {i : Int} : ixD (.str l) (.int i) = (itD l i).map fun c => .str [c] := rfl
theorem itD_nat {α : Type} {l : List α} {i : Nat} {d : α} (h : l[i]? = some d) : itD l (i : Int) = some d := by
  have hi : i < l.length := (List.getElem?_eq_some_iff.mp h).1
  unfold itD plc
  rw [if_pos (by omega), if_pos (by omega)]
  simpa using h
theorem itD_neg1 {α : Type} {l : List α} {d : α} (h : l.getLast? = some d) : itD l (-1) = some d := by
  have hl : 0 < l.length := by
    cases l with
    | nil => simp at h
    | cons _ _ => simp
  unfold itD plc
  rw [if_neg (by omega), if_pos (by omega)]
  rw [List.getLast?_eq_getElem?] at h
  have : ((-1 : Int) + (l.length : Int)).toNat = l.length - 1 := by omega
  simp only [Option.bind_some, this]
  exact h
theorem rok1 {n : Nat} (hn : n ≤ LIM) : rngOk (n : Int) = true := by
  have h2 : LIM < 4611686018427387904 := by decide
  generalize LIM = L at hn h2
  simp only [rngOk, decide_eq_true_eq]
  omega
theorem iRng1_nat {f : X} {ρ : Env} {g g1 : G} {n : Nat} (h : f ρ g = .ok (.int (n : Int)) g1) (hn : n ≤ LIM) : iRng1 f ρ g = .ok (rngL 0 n) g1 := by
  rw [ev_iRng1, h, R.bind_ok]
  simp only [rok1 hn, Int.toNat_natCast, decide_eq_true hn, Bool.and_self]
theorem rng_len (a : Int) (n : Nat) : (rngL a n).length = n := by simp [rngL]
theorem rng_mem {n : Nat} {d : D} (h : d ∈ rngL 0 n) : ∃ i : Nat, i < n ∧ d = .int (i : Int) := by
  simp only [rngL, List.mem_map, List.mem_range] at h
  obtain ⟨i, hi, rfl⟩ := h
  exact ⟨i, hi, by simp⟩
theorem all_t (l : List D) : l.map (fun _ => D.bl true) = (List.replicate l.length true).map .bl := by
  induction l with
  | nil => rfl
  | cons d l ih => simp only [List.map_cons, ih]; rfl
theorem allD_t (l : List D) : allD [.lst (l.map fun _ => D.bl true)] = some (.bl true) := by
  rw [all_t l, op_all_of]
  simp
@[simp] theorem xVar_ne {ρ : Env} {i j : Nat} {o : Option D} {g : G} (h : i ≠ j) : xVar i (ρ.set j o) g = xVar i ρ g := by
  unfold xVar
  rw [List.getElem?_set_ne (Ne.symm h)]
@[simp] theorem xVar_self {ρ : Env} {j : Nat} {d : D} {g : G} (h : j < ρ.length) : xVar j (ρ.set j (some d)) g = .ok d g := by
  unfold xVar
  rw [List.getElem?_set_self h]
/-- the slot i holds d -/
def Has (ρ : Env) (i : Nat) (d : D) : Prop := ∀ g, xVar i ρ g = .ok d g
theorem Has.get {ρ : Env} {i : Nat} {d : D} (h : Has ρ i d) : ρ[i]? = some (some d) := by
  have := h ⟨false, 0, 0, 0⟩
  unfold xVar at this
  split at this
  · rename_i e he
    cases this
    exact he
  · cases this
theorem has_of {ρ : Env} {i : Nat} {d : D} (h : ρ[i]? = some (some d)) : Has ρ i d := fun _ => xVar_eq h
/-- but for the slots is, ρ' is as ρ -/
structure Fr (is : List Nat) (ρ ρ' : Env) : Prop where
  len : ρ'.length = ρ.length
  at_ : ∀ i, i ∉ is → ρ'[i]? = ρ[i]?
theorem Fr.refl {is : List Nat} {ρ : Env} : Fr is ρ ρ := ⟨rfl, fun _ _ => rfl⟩
theorem Fr.trans {is : List Nat} {ρ ρ1 ρ2 : Env} (a : Fr is ρ ρ1) (b : Fr is ρ1 ρ2) : Fr is ρ ρ2 := ⟨b.len.trans a.len, fun i h => (b.at_ i h).trans (a.at_ i h)⟩
theorem Fr.mono {is js : List Nat} {ρ ρ1 : Env} (a : Fr is ρ ρ1) (h : ∀ i ∈ is, i ∈ js) : Fr js ρ ρ1 := ⟨a.len, fun i hi => a.at_ i fun z => hi (h i z)⟩
theorem Fr.set {is : List Nat} {ρ ρ1 : Env} {j : Nat} {o : Option D} (a : Fr is ρ ρ1) (h : j ∈ is) : Fr is ρ (ρ1.set j o) := ⟨by rw [List.length_set]; exact a.len, fun i hi => by
  rw [List.getElem?_set_ne (by intro z; subst z; exact hi h)]; exact a.at_ i hi⟩
theorem Fr.has {is : List Nat} {ρ ρ1 : Env} {i : Nat} {d : D} (a : Fr is ρ ρ1) (h : Has ρ i d) (hi : i ∉ is) : Has ρ1 i d := has_of (by rw [a.at_ i hi]; exact h.get)
theorem Has.set {ρ : Env} {i j : Nat} {o : Option D} {d : D} (h : Has ρ i d) (hi : i ≠ j) : Has (ρ.set j o) i d := fun g => by rw [xVar_ne hi]; exact h g
theorem has_set {ρ : Env} {i : Nat} {d : D} (h : i < ρ.length) : Has (ρ.set i (some d)) i d := fun g => xVar_self h
theorem cut_len {α : Type} (l : List α) (lo hi : Option Int) : (cut l lo hi).length ≤ l.length := by
  unfold cut
  rw [List.length_take, List.length_drop]
  omega
end PP

set_option Elab.async false
set_option linter.all false
set_option maxRecDepth 100000
set_option maxHeartbeats 4000000
/-! PPS: the plain functions of PP are what the text does: over HandS. -/
namespace PP
open PySem L2

/-- where the module's defs and classes lie; the classes' fields in order -/
structure Tb where
  K : PySem.W.Frag
  fnA : Nat → Option Addr
  clA : Nat → Option Addr
  clF : Nat → List Str
  exA : Nat → Option Addr
  exF : Nat → List Str
  exn : Option (Addr × Addr)

mutual
def Rep (T : Tb) (H : Hp) : V → D → Prop
  | v, .non => v = .non
  | v, .bl b => v = .bl b
  | v, .int i => v = .int i
  | v, .str s => v = .str ⟨s.toArray⟩ ∧ s.length ≤ LIM ∧ ∀ c ∈ s, c < 1114112
  | v, .tup l => ∃ (a : Addr) (vs : List V), v = .ref a ∧ H a = some (.tup vs) ∧ vs.length ≤ LIM ∧ RepL T H vs l
  | v, .lst l => ∃ (a : Addr) (vs : List V), v = .ref a ∧ H a = some (.lst vs) ∧ vs.length ≤ LIM ∧ RepL T H vs l
  | v, .fn n => ∃ a : Addr, v = .ref a ∧ T.fnA n = some a
  | v, .gen a => v = .ref a
  | v, .ins c fs => (∃ (a C dx : Addr) (ps : List (Str × V)), v = .ref a ∧ H a = some (.ins C dx ps) ∧ T.clA c = some C ∧ ps.map (·.1) = (T.clF c).take fs.length ∧ RepL T H (ps.map (·.2)) fs) ∨
      ∃ (a d : Addr) (ps : List (Str × V)), T.exn = some (a, d) ∧ v = .ref a ∧ H d = some (.xd ps) ∧ ps.map (·.1) = T.exF c ∧ RepL T H (ps.map (·.2)) fs
def RepL (T : Tb) (H : Hp) : List V → List D → Prop
  | [], [] => True
  | v :: vs, d :: ds => Rep T H v d ∧ RepL T H vs ds
  | [], _ :: _ => False
  | _ :: _, [] => False
end
def Sub (F H : Hp) : Prop := ∀ a o, F a = some o → H a = some o
theorem Sub.refl (H : Hp) : Sub H H := fun _ _ h => h
theorem Sub.trans {A B C : Hp} (a : Sub A B) (b : Sub B C) : Sub A C := fun x o h => b x o (a x o h)
theorem Sub.upd {F H : Hp} {p : Addr} {o : HO} (s : Sub F H) (n : F p = none) : Sub F (L2.upd H p o) := fun a u e => by
  rw [upd_ne (ne_of_none e n)]; exact s a u e
theorem Sub.upd2 {F H : Hp} {p : Addr} {o : HO} (s : Sub F H) : Sub (L2.upd F p o) (L2.upd H p o) := fun a u e => by
  by_cases h : a = p
  · subst h; rw [upd_same] at e; rw [upd_same]; exact e
  · rw [upd_ne h] at e; rw [upd_ne h]; exact s a u e
theorem Sub.none {F H : Hp} (s : Sub F H) {p : Addr} (h : H p = none) : F p = none := by
  cases e : F p with
  | none => rfl
  | some o => rw [s p o e] at h; cases h

mutual
theorem Rep.mono {T : Tb} {H H' : Hp} (e : Sub H H') : ∀ (d : D) (v : V), Rep T H v d → Rep T H' v d
  | .non, _, h => h
  | .bl _, _, h => h
  | .int _, _, h => h
  | .str _, _, h => h
  | .tup l, v, h => by
    unfold Rep at h ⊢
    obtain ⟨a, vs, h1, h2, h3, h4⟩ := h
    exact ⟨a, vs, h1, e _ _ h2, h3, RepL.mono e l vs h4⟩
  | .lst l, v, h => by
    unfold Rep at h ⊢
    obtain ⟨a, vs, h1, h2, h3, h4⟩ := h
    exact ⟨a, vs, h1, e _ _ h2, h3, RepL.mono e l vs h4⟩
  | .fn _, _, h => h
  | .gen _, _, h => h
  | .ins c fs, v, h => by
    unfold Rep at h ⊢
    rcases h with ⟨a, C, dx, ps, h1, h2, h3, h4, h5⟩ | ⟨a, d, ps, h1, h2, h3, h4, h5⟩
    · exact .inl ⟨a, C, dx, ps, h1, e _ _ h2, h3, h4, RepL.mono e fs _ h5⟩
    · exact .inr ⟨a, d, ps, h1, h2, e _ _ h3, h4, RepL.mono e fs _ h5⟩
theorem RepL.mono {T : Tb} {H H' : Hp} (e : Sub H H') : ∀ (ds : List D) (vs : List V), RepL T H vs ds → RepL T H' vs ds
  | [], [], h => h
  | [], _ :: _, h => h
  | _ :: _, [], h => h
  | d :: ds, v :: vs, h => by
    unfold RepL at h ⊢
    exact ⟨Rep.mono e d v h.1, RepL.mono e ds vs h.2⟩
end
section
variable {T : Tb} {H : Hp}
theorem RepL.length : ∀ {vs : List V} {ds : List D}, RepL T H vs ds → vs.length = ds.length
  | [], [], _ => rfl
  | _ :: vs, _ :: ds, h => by
    unfold RepL at h
    simp [RepL.length h.2]
  | [], _ :: _, h => by unfold RepL at h; exact h.elim
  | _ :: _, [], h => by unfold RepL at h; exact h.elim
theorem RepL.nil : RepL T H [] [] := by unfold RepL; trivial
theorem RepL.cons {v : V} {vs : List V} {d : D} {ds : List D} (h : Rep T H v d) (t : RepL T H vs ds) : RepL T H (v :: vs) (d :: ds) := by
  unfold RepL; exact ⟨h, t⟩
theorem RepL.inv {v : V} {vs : List V} {ds : List D} (h : RepL T H (v :: vs) ds) : ∃ d r, ds = d :: r ∧ Rep T H v d ∧ RepL T H vs r := by
  cases ds with
  | nil => unfold RepL at h; exact h.elim
  | cons d r => unfold RepL at h; exact ⟨d, r, rfl, h.1, h.2⟩
theorem RepL.inv2 {vs : List V} {d : D} {ds : List D} (h : RepL T H vs (d :: ds)) : ∃ v r, vs = v :: r ∧ Rep T H v d ∧ RepL T H r ds := by
  cases vs with
  | nil => unfold RepL at h; exact h.elim
  | cons v r => unfold RepL at h; exact ⟨v, r, rfl, h.1, h.2⟩
theorem RepL.nil_inv {vs : List V} (h : RepL T H vs []) : vs = [] := by
  cases vs with
  | nil => rfl
  | cons v r => unfold RepL at h; exact h.elim
theorem RepL.append : ∀ {vs : List V} {ds : List D} {vs' : List V} {ds' : List D}, RepL T H vs ds → RepL T H vs' ds' → RepL T H (vs ++ vs') (ds ++ ds')
  | [], [], _, _, _, h => h
  | _ :: vs, _ :: ds, _, _, h, h' => by
    unfold RepL at h
    exact .cons h.1 (RepL.append h.2 h')
  | [], _ :: _, _, _, h, _ => by unfold RepL at h; exact h.elim
  | _ :: _, [], _, _, h, _ => by unfold RepL at h; exact h.elim
theorem RepL.get : ∀ {vs : List V} {ds : List D} {i : Nat} {d : D}, RepL T H vs ds → ds[i]? = some d → ∃ v, vs[i]? = some v ∧ Rep T H v d
  | [], [], _, _, _, e => by simp at e
  | v :: vs, d :: ds, 0, x, h, e => by
    simp at e; subst e
    unfold RepL at h
    exact ⟨v, rfl, h.1⟩
  | v :: vs, d :: ds, i + 1, x, h, e => by
    unfold RepL at h
    obtain ⟨u, h1, h2⟩ := RepL.get (i := i) (d := x) h.2 (by simpa using e)
    exact ⟨u, by simpa using h1, h2⟩
  | [], _ :: _, _, _, h, _ => by unfold RepL at h; exact h.elim
  | _ :: _, [], _, _, h, _ => by unfold RepL at h; exact h.elim
theorem RepL.take : ∀ {vs : List V} {ds : List D} (n : Nat), RepL T H vs ds → RepL T H (vs.take n) (ds.take n)
  | _, _, 0, _ => by simp; exact .nil
  | [], [], _ + 1, _ => by simp; exact .nil
  | _ :: vs, _ :: ds, n + 1, h => by
    unfold RepL at h
    simp only [List.take_succ_cons]
    exact .cons h.1 (RepL.take n h.2)
  | [], _ :: _, _ + 1, h => by unfold RepL at h; exact h.elim
  | _ :: _, [], _ + 1, h => by unfold RepL at h; exact h.elim
theorem RepL.drop : ∀ {vs : List V} {ds : List D} (n : Nat), RepL T H vs ds → RepL T H (vs.drop n) (ds.drop n)
  | _, _, 0, h => by simpa using h
  | [], [], _ + 1, _ => by simp; exact .nil
  | _ :: vs, _ :: ds, n + 1, h => by
    unfold RepL at h
    simp only [List.drop_succ_cons]
    exact RepL.drop n h.2
  | [], _ :: _, _ + 1, h => by unfold RepL at h; exact h.elim
  | _ :: _, [], _ + 1, h => by unfold RepL at h; exact h.elim
theorem RepL.reverse {vs : List V} {ds : List D} (h : RepL T H vs ds) : RepL T H vs.reverse ds.reverse := by
  induction vs generalizing ds with
  | nil =>
    cases ds with
    | nil => exact h
    | cons d r => unfold RepL at h; exact h.elim
  | cons v vs ih =>
    obtain ⟨d, r, rfl, h1, h2⟩ := h.inv
    simp only [List.reverse_cons]
    exact (ih h2).append (.cons h1 .nil)
theorem RepL.flat {vs : List V} {ds : List D} (h : RepL T H vs ds) : ∀ k : Nat, RepL T H (List.replicate k vs).flatten (List.replicate k ds).flatten
  | 0 => .nil
  | k + 1 => by
    simp only [List.replicate_succ, List.flatten_cons]
    exact h.append (h.flat k)
end

/-! ### how the heap grows while an expression is evaluated -/
structure Grow (F H F' H' : Hp) : Prop where
  ff : Sub F F'
  hh : Sub H H'
  fh : Sub F' H'
  new : ∀ a o, F' a = some o → F a = some o ∨ H a = none
theorem Grow.refl {F H : Hp} (s : Sub F H) : Grow F H F H := ⟨.refl _, .refl _, s, fun _ _ e => .inl e⟩
theorem Grow.trans {F H F1 H1 F2 H2 : Hp} (a : Grow F H F1 H1) (b : Grow F1 H1 F2 H2) : Grow F H F2 H2 :=
  ⟨a.ff.trans b.ff, a.hh.trans b.hh, b.fh, fun p o e => by
    rcases b.new p o e with q | q
    · exact a.new p o q
    · exact .inr (a.hh.none q)⟩
theorem Grow.one {F H : Hp} {p : Addr} {o : HO} (s : Sub F H) (n : H p = none) : Grow F H (upd F p o) (upd H p o) :=
  ⟨(Sub.refl F).upd (s.none n), (Sub.refl H).upd n, s.upd2, fun a u e => by
    by_cases h : a = p
    · subst h; exact .inr n
    · rw [upd_ne h] at e; exact .inl e⟩

/-! ### where a def stands -/
/-- at the entry: the heap, its known part, the drawing state's place -/
structure Act where
  H0 : Hp
  F0 : Hp
  on : Bool
  at_ : Addr
structure Core (Z : Act) (kp F H : Hp) (g : G) : Prop where
  sub : Sub F H
  kph : Sub kp H
  kpf : ∀ a o, kp a = some o → F a = none
  base : ∀ a o, Z.H0 a = some o → (Z.on = true → a ≠ Z.at_) → H a = some o
  new : ∀ a o, F a = some o → Z.F0 a = some o ∨ Z.H0 a = none
  f0 : Sub Z.F0 F
  fh0 : Sub Z.F0 Z.H0
  on : g.on = Z.on
  at_ : g.at_ = Z.at_
  gen : Z.on = true → H Z.at_ = some (.lst [.int g.s, .int g.t]) ∧ F Z.at_ = none ∧ kp Z.at_ = none ∧ GOk g
/-- a list of one's own at p -/
structure Own (T : Tb) (Z : Act) (kp F H : Hp) (p : Addr) (ds : List D) : Prop where
  f : F p = none
  k : kp p = none
  h0 : Z.H0 p = none
  g : Z.on = true → p ≠ Z.at_
  at_ : ∃ vs, H p = some (.lst vs) ∧ vs.length ≤ LIM ∧ RepL T F vs ds
structure Rel (T : Tb) (Z : Act) (own : List Nat) (kp F H : Hp) (σ : St) (ρ : Env) (g : G) : Prop where
  core : Core Z kp F H g
  len : σ.length = ρ.length
  own_ : ∀ i ∈ own, ∃ p ds, σ[i]? = some (some (.ref p)) ∧ ρ[i]? = some (some (.lst ds)) ∧ Own T Z kp F H p ds ∧ ∀ j ∈ own, j ≠ i → σ[j]? ≠ some (some (.ref p))
  shr : ∀ i d, i ∉ own → ρ[i]? = some (some d) → ∃ v, σ[i]? = some (some v) ∧ Rep T F v d

section
variable {T : Tb} {Z : Act} {own : List Nat} {kp F H F' H' : Hp} {σ : St} {ρ : Env} {g g' : G}
theorem Core.atNone (c : Core Z kp F H g) {a : Addr} (h : H a = none) : Z.H0 a = none := by
  cases e : Z.H0 a with
  | none => rfl
  | some o =>
    by_cases q : Z.on = true → a ≠ Z.at_
    · rw [c.base a o e q] at h; cases h
    · have q1 : Z.on = true := Classical.byContradiction fun n => q fun z => absurd z n
      have q2 : a = Z.at_ := Classical.byContradiction fun n => q fun _ => n
      rw [q2, (c.gen q1).1] at h; cases h
theorem Core.ne_gen (c : Core Z kp F H g) {a : Addr} (h : H a = none) : Z.on = true → a ≠ Z.at_ := fun o e => by
  rw [e, (c.gen o).1] at h; cases h
theorem Core.grow (c : Core Z kp F H g) (r : Grow F H F' H') : Core Z kp F' H' g where
  sub := r.fh
  kph := c.kph.trans r.hh
  kpf := fun a o e => by
    cases q : F' a with
    | none => rfl
    | some u =>
      rcases r.new a u q with z | z
      · rw [c.kpf a o e] at z; cases z
      · rw [c.kph a o e] at z; cases z
  base := fun a o e n => r.hh a o (c.base a o e n)
  new := fun a o e => by
    rcases r.new a o e with z | z
    · exact c.new a o z
    · exact .inr (c.atNone z)
  f0 := c.f0.trans r.ff
  fh0 := c.fh0
  on := c.on
  at_ := c.at_
  gen := fun o => by
    obtain ⟨h1, h2, h3, h4⟩ := c.gen o
    refine ⟨r.hh _ _ h1, ?_, h3, h4⟩
    cases q : F' Z.at_ with
    | none => rfl
    | some u =>
      rcases r.new _ u q with z | z
      · rw [h2] at z; cases z
      · rw [h1] at z; cases z
theorem Own.grow {p : Addr} {ds : List D} (w : Own T Z kp F H p ds) (r : Grow F H F' H') : Own T Z kp F' H' p ds where
  f := by
    obtain ⟨vs, h1, _, _⟩ := w.at_
    cases q : F' p with
    | none => rfl
    | some u =>
      rcases r.new _ u q with z | z
      · rw [w.f] at z; cases z
      · rw [h1] at z; cases z
  k := w.k
  h0 := w.h0
  g := w.g
  at_ := by
    obtain ⟨vs, h1, h2, h3⟩ := w.at_
    exact ⟨vs, r.hh _ _ h1, h2, RepL.mono r.ff _ _ h3⟩
theorem Rel.grow (c : Rel T Z own kp F H σ ρ g) (r : Grow F H F' H') : Rel T Z own kp F' H' σ ρ g where
  core := c.core.grow r
  len := c.len
  own_ := fun i hi => by
    obtain ⟨p, ds, h1, h2, h3, h4⟩ := c.own_ i hi
    exact ⟨p, ds, h1, h2, h3.grow r, h4⟩
  shr := fun i d hi e => by
    obtain ⟨v, h1, h2⟩ := c.shr i d hi e
    exact ⟨v, h1, Rep.mono r.ff _ _ h2⟩
/-- an own list is made known for good -/
theorem Core.freeze (c : Core Z kp F H g) {p : Addr} {o : HO} (h : H p = some o) (k : kp p = none) (h0 : Z.H0 p = none) (hg : Z.on = true → p ≠ Z.at_) : Core Z kp (upd F p o) H g where
  sub := fun a u e => by
    by_cases q : a = p
    · subst q; rw [upd_same] at e; cases e; exact h
    · rw [upd_ne q] at e; exact c.sub a u e
  kph := c.kph
  kpf := fun a u e => by
    have q : a ≠ p := fun z => by rw [z, k] at e; cases e
    rw [upd_ne q]; exact c.kpf a u e
  base := c.base
  new := fun a u e => by
    by_cases q : a = p
    · subst q; exact .inr h0
    · rw [upd_ne q] at e; exact c.new a u e
  f0 := fun a u e => by
    have q : a ≠ p := fun z => by
      rw [z] at e
      have := c.fh0 p u e
      rw [h0] at this; cases this
    rw [upd_ne q]; exact c.f0 a u e
  fh0 := c.fh0
  on := c.on
  at_ := c.at_
  gen := fun o' => by
    obtain ⟨h1, h2, h3, h4⟩ := c.gen o'
    exact ⟨h1, by rw [upd_ne (Ne.symm (hg o'))]; exact h2, h3, h4⟩

theorem Rel.cong {own' : List Nat} (c : Rel T Z own kp F H σ ρ g) (h : ∀ i, i ∈ own ↔ i ∈ own') : Rel T Z own' kp F H σ ρ g where
  core := c.core
  len := c.len
  own_ := fun i hi => by
    obtain ⟨p, ds, h1, h2, h3, h4⟩ := c.own_ i ((h i).mpr hi)
    exact ⟨p, ds, h1, h2, h3, fun j hj => h4 j ((h j).mpr hj)⟩
  shr := fun i d hi => c.shr i d fun z => hi ((h i).mp z)
theorem Rel.freeze1 (c : Rel T Z own kp F H σ ρ g) (i : Nat) : ∃ F', Sub F F' ∧ Rel T Z (own.filter fun j => j != i) kp F' H σ ρ g := by
  by_cases hi : i ∈ own
  · obtain ⟨p, ds, h1, h2, w, h4⟩ := c.own_ i hi
    obtain ⟨vs, e1, e2, e3⟩ := w.at_
    have sF : Sub F (upd F p (.lst vs)) := (Sub.refl F).upd w.f
    refine ⟨_, sF, c.core.freeze e1 w.k w.h0 w.g, c.len, fun j hj => ?_, fun j d hj e => ?_⟩
    · obtain ⟨hj1, hj2⟩ := List.mem_filter.mp hj
      have hji : j ≠ i := by simpa using hj2
      obtain ⟨q, es, k1, k2, k3, k4⟩ := c.own_ j hj1
      have hqp : q ≠ p := fun z => h4 j hj1 hji (by rw [k1, z])
      refine ⟨q, es, k1, k2, ⟨by rw [upd_ne hqp]; exact k3.f, k3.k, k3.h0, k3.g, ?_⟩, fun m hm => k4 m (List.mem_filter.mp hm).1⟩
      obtain ⟨us, z1, z2, z3⟩ := k3.at_
      exact ⟨us, z1, z2, RepL.mono sF _ _ z3⟩
    · by_cases hji : j = i
      · subst hji
        rw [h2] at e; cases e
        refine ⟨_, h1, ?_⟩
        unfold Rep
        exact ⟨p, vs, rfl, upd_same, e2, RepL.mono sF _ _ e3⟩
      · obtain ⟨v, z1, z2⟩ := c.shr j d (fun hm => hj (List.mem_filter.mpr ⟨hm, by simpa using hji⟩)) e
        exact ⟨v, z1, Rep.mono sF _ _ z2⟩
  · exact ⟨F, .refl _, c.cong fun j => by
      rw [List.mem_filter]
      exact ⟨fun h => ⟨h, by simp; intro e; exact hi (e ▸ h)⟩, fun h => h.1⟩⟩
theorem Rel.freezeL (l : List Nat) : ∀ {own : List Nat} {F : Hp}, Rel T Z own kp F H σ ρ g → ∃ F', Sub F F' ∧ Rel T Z (own.filter fun j => !l.contains j) kp F' H σ ρ g := by
  induction l with
  | nil => intro own F c; exact ⟨F, .refl _, c.cong fun j => by simp⟩
  | cons i l ih =>
    intro own F c
    obtain ⟨F1, s1, c1⟩ := c.freeze1 i
    obtain ⟨F2, s2, c2⟩ := ih c1
    refine ⟨F2, s1.trans s2, c2.cong fun j => ?_⟩
    simp only [List.mem_filter, bne_iff_ne, ne_eq, Bool.not_eq_true', List.contains_cons, Bool.or_eq_false_iff, beq_eq_false_iff_ne]
    constructor
    · rintro ⟨⟨a, b⟩, c⟩; exact ⟨a, b, c⟩
    · rintro ⟨a, b, c⟩; exact ⟨⟨a, b⟩, c⟩
theorem Rel.freeze {own' : List Nat} (c : Rel T Z own kp F H σ ρ g) (h : ∀ i ∈ own', i ∈ own) : ∃ F', Sub F F' ∧ Rel T Z own' kp F' H σ ρ g := by
  obtain ⟨F', s, c'⟩ := Rel.freezeL (own.filter fun j => !own'.contains j) c
  refine ⟨F', s, c'.cong fun i => ?_⟩
  simp only [List.mem_filter, Bool.not_eq_true', List.contains_eq_mem, decide_eq_false_iff_not, not_and, Decidable.not_not]
  exact ⟨fun z => z.2 z.1, fun z => ⟨h i z, fun _ => z⟩⟩

/-! ### readings -/
/-- an exception of the class c with what it carries -/
def ExRep (T : Tb) (F : Hp) (cls : Value) (dd : Option Addr) : Ex → Prop
  | .mk c pay => ∃ C, T.exA c = some C ∧ cls = .ref C ∧ ((pay = [] ∧ dd = none) ∨ ∃ (d : Addr) (fs : List (Str × V)), dd = some d ∧ F d = some (.xd fs) ∧ fs.map (·.1) = T.exF c ∧ RepL T F (fs.map (·.2)) pay)
theorem ExRep.mono {T : Tb} {F F' : Hp} {cls : Value} {dd : Option Addr} {e : Ex} (h : ExRep T F cls dd e) (s : Sub F F') : ExRep T F' cls dd e := by
  cases e with
  | mk c pay =>
    obtain ⟨C, h1, h2, h3⟩ := h
    refine ⟨C, h1, h2, h3.imp id ?_⟩
    rintro ⟨d, fs, k1, k2, k3, k4⟩
    exact ⟨d, fs, k1, s _ _ k2, k3, RepL.mono s _ _ k4⟩
/-- what an exception finds -/
def exQ (T : Tb) (Z : Act) (W : WX) (kp F : Hp) (ρ : Env) (e : Ex) (g : G) : Prop :=
  ∀ cls dd σ' F' H', Rel T Z [] kp F' H' σ' ρ g → Sub F F' → ExRep T F' cls dd e → W cls dd σ' H'
def rQ {α : Type} (T : Tb) (Z : Act) (W : WX) (kp F : Hp) (σ : St) (ρ : Env) (post : α → G → Prop) : R α → Prop
  | .ok a g => post a g
  | .ex e g => exQ T Z W kp F ρ e g
  | .bad => False
def pD (T : Tb) (Z : Act) (own : List Nat) (kp F : Hp) (σ : St) (ρ : Env) (Q : VK) : D → G → Prop := fun d g' => ∀ v F' H', Rel T Z own kp F' H' σ ρ g' → Sub F F' → Rep T F' v d → Q v H'
def pB (T : Tb) (Z : Act) (own : List Nat) (kp F : Hp) (σ : St) (ρ : Env) (Q : Bool → Hp → Prop) : Bool → G → Prop := fun b g' => ∀ F' H', Rel T Z own kp F' H' σ ρ g' → Sub F F' → Q b H'
def pL (T : Tb) (Z : Act) (own : List Nat) (kp F : Hp) (σ : St) (ρ : Env) (Q : List V → Hp → Prop) : List D → G → Prop := fun ds g' => ∀ vs F' H', Rel T Z own kp F' H' σ ρ g' → Sub F F' → RepL T F' vs ds → Q vs H'
def pF (T : Tb) (Z : Act) (own : List Nat) (kp F : Hp) (σ : St) (ρ : Env) (Q : VK) : D → G → Prop := fun d g' => ∃ ds, d = .lst ds ∧ ∀ p F' H', Rel T Z own kp F' H' σ ρ g' → Sub F F' → Own T Z kp F' H' p ds → (∀ j ∈ own, σ[j]? ≠ some (some (.ref p))) → Q (.ref p) H'
def tP (T : Tb) (Z : Act) (W : WX) (own : List Nat) (f : X) : TE := fun σ H Q => ∃ kp F ρ g, Rel T Z own kp F H σ ρ g ∧ rQ T Z W kp F σ ρ (pD T Z own kp F σ ρ Q) (f ρ g)
def tPT (T : Tb) (Z : Act) (W : WX) (own : List Nat) (f : XT) : TT := fun σ H Q => ∃ kp F ρ g, Rel T Z own kp F H σ ρ g ∧ rQ T Z W kp F σ ρ (pB T Z own kp F σ ρ Q) (f ρ g)
def tPA (T : Tb) (Z : Act) (W : WX) (own : List Nat) (f : XA) : TA := fun σ H Q => ∃ kp F ρ g, Rel T Z own kp F H σ ρ g ∧ rQ T Z W kp F σ ρ (pL T Z own kp F σ ρ Q) (f ρ g)
/-- a new list of one's own -/
def tPF (T : Tb) (Z : Act) (W : WX) (own : List Nat) (f : X) : TE := fun σ H Q => ∃ kp F ρ g, Rel T Z own kp F H σ ρ g ∧ rQ T Z W kp F σ ρ (pF T Z own kp F σ ρ Q) (f ρ g)
section
variable {T : Tb} {Z : Act} {W : WX} {own : List Nat} {kp F F1 H : Hp} {σ : St} {ρ : Env}
theorem exQ.up {e : Ex} {g : G} (q : exQ T Z W kp F ρ e g) (s : Sub F F1) : exQ T Z W kp F1 ρ e g := fun cls dd σ' F2 H2 c s2 x => q cls dd σ' F2 H2 c (s.trans s2) x
theorem rQ.bind {α β : Type} {post : β → G → Prop} {x : R α} {k : α → G → R β} (h : rQ T Z W kp F σ ρ post (x.bind k)) : rQ T Z W kp F σ ρ (fun a g => rQ T Z W kp F σ ρ post (k a g)) x := by
  cases x with
  | ok a g => exact h
  | ex e g => exact h
  | bad => exact h
theorem rQ.imp {α : Type} {post post' : α → G → Prop} {x : R α} (h : rQ T Z W kp F σ ρ post x) (i : ∀ a g, post a g → post' a g) : rQ T Z W kp F σ ρ post' x := by
  cases x with
  | ok a g => exact i a g h
  | ex e g => exact h
  | bad => exact h
theorem rQ.up {α : Type} {post post' : α → G → Prop} {x : R α} (s : Sub F F1) (h : rQ T Z W kp F σ ρ post x) (i : ∀ a g, post a g → post' a g) : rQ T Z W kp F1 σ ρ post' x := by
  cases x with
  | ok a g => exact i a g h
  | ex e g => exact exQ.up h s
  | bad => exact h
theorem pD.up {Q : VK} (s : Sub F F1) : ∀ d g, pD T Z own kp F σ ρ Q d g → pD T Z own kp F1 σ ρ Q d g := fun d g h v F' H' c s2 r => h v F' H' c (s.trans s2) r
theorem pB.up {Q : Bool → Hp → Prop} (s : Sub F F1) : ∀ d g, pB T Z own kp F σ ρ Q d g → pB T Z own kp F1 σ ρ Q d g := fun d g h F' H' c s2 => h F' H' c (s.trans s2)
theorem pL.up {Q : List V → Hp → Prop} (s : Sub F F1) : ∀ d g, pL T Z own kp F σ ρ Q d g → pL T Z own kp F1 σ ρ Q d g := fun d g h v F' H' c s2 r => h v F' H' c (s.trans s2) r
theorem pF.up {Q : VK} (s : Sub F F1) : ∀ d g, pF T Z own kp F σ ρ Q d g → pF T Z own kp F1 σ ρ Q d g := fun d g ⟨ds, e, h⟩ => ⟨ds, e, fun p F' H' c s2 w n => h p F' H' c (s.trans s2) w n⟩
/-- the first part, then the rest -/
theorem tP.then {f : PP.X} {g : G} {post : D → G → Prop} {Q : VK} (c : Rel T Z own kp F H σ ρ g) (h : rQ T Z W kp F σ ρ post (f ρ g))
    (n : ∀ d g1 v F1 H1, post d g1 → Rel T Z own kp F1 H1 σ ρ g1 → Sub F F1 → Rep T F1 v d → Q v H1) : tP T Z W own f σ H Q :=
  ⟨kp, F, ρ, g, c, h.imp fun d g1 q v F1 H1 c1 s1 r1 => n d g1 v F1 H1 q c1 s1 r1⟩
end
end
/-! ### judgements -/
section
variable (X : Cx) (T : Tb) (Z : Act) (W : WX) (own : List Nat)
def XE (e : Expr) (f : PP.X) : Prop := PE X e (tP T Z W own f)
def XTt (e : Expr) (f : XT) : Prop := PT X e (tPT T Z W own f)
def XAs (es : List Expr) (f : XA) : Prop := PA X es (tPA T Z W own f)
def XF (e : Expr) (f : PP.X) : Prop := PE X e (tPF T Z W own f)
end
theorem PE.imp {X : Cx} {e : Expr} {t t' : TE} (h : PE X e t) (i : ∀ σ H Q, t' σ H Q → t σ H Q) : PE X e t' := ⟨fun pins s σ H Q I w => h.run pins s σ H Q I (i σ H Q w)⟩
theorem PT.imp {X : Cx} {e : Expr} {t t' : TT} (h : PT X e t) (i : ∀ σ H Q, t' σ H Q → t σ H Q) : PT X e t' := ⟨fun pins s σ H Q I w => h.run pins s σ H Q I (i σ H Q w)⟩
theorem PA.imp {X : Cx} {e : List Expr} {t t' : TA} (h : PA X e t) (i : ∀ σ H Q, t' σ H Q → t σ H Q) : PA X e t' := ⟨fun pos pins s σ H Q I w => h.run pos pins s σ H Q I (i σ H Q w)⟩
theorem PS.imp {X : Cx} {e : Stmt} {t t' : TS} (h : PS X e t) (i : ∀ D σ H, t' D σ H → t D σ H) : PS X e t' := ⟨fun pins s σ H D I w => h.run pins s σ H D I (i D σ H w)⟩
theorem PSs.imp {X : Cx} {e : List Stmt} {t t' : TS} (h : PSs X e t) (i : ∀ D σ H, t' D σ H → t D σ H) : PSs X e t' := ⟨fun pins s σ H D I w => h.run pins s σ H D I (i D σ H w)⟩


/-! ### rules: values -/
/-- a two-place operation -/
def BinOk (T : Tb) (r : R2) (od : D → D → Option D) : Prop := ∀ F H x y d1 d2 d Q, Sub F H → Rep T F x d1 → Rep T F y d2 → od d1 d2 = some d → (∀ v F' H', Grow F H F' H' → Rep T F' v d → Q v H') → r x y H Q
def UnOk (T : Tb) (r : V → Hp → VK → Prop) (od : D → Option D) : Prop := ∀ F H x d1 d Q, Sub F H → Rep T F x d1 → od d1 = some d → (∀ v F' H', Grow F H F' H' → Rep T F' v d → Q v H') → r x H Q
def CallOk (T : Tb) (r : List V → Hp → VK → Prop) (od : List D → Option D) : Prop := ∀ F H xs ds d Q, Sub F H → RepL T F xs ds → od ds = some d → (∀ v F' H', Grow F H F' H' → Rep T F' v d → Q v H') → r xs H Q
section
variable {X : Cx} {T : Tb} {Z : Act} {W : WX} {own : List Nat} {e a b : Expr} {es : List Expr} {fa fb : PP.X} {pos : Pos}
theorem rQ.ofO {kp F H : Hp} {σ : St} {ρ : Env} {post : D → G → Prop} {o : Option D} {g : G} (h : rQ T Z W kp F σ ρ post (PP.ofO o g)) : ∃ d, o = some d ∧ post d g := by
  cases o with
  | none => exact h.elim
  | some d => exact ⟨d, rfl, h⟩
theorem x_var {i : Nat} (h : PE X e (tVar i)) (hi : i ∉ own) : XE X T Z W own e (xVar i) := PE.imp h fun σ H Q ⟨kp, F, ρ, g, c, q⟩ => by
  unfold xVar at q
  cases hv : ρ[i]? with
  | none => rw [hv] at q; exact q.elim
  | some o =>
    cases o with
    | none => rw [hv] at q; exact q.elim
    | some d =>
      rw [hv] at q
      obtain ⟨v, h1, h2⟩ := c.shr i d hi hv
      exact ⟨v, h1, q v F H c (.refl _) h2⟩
theorem x_C {v : V} {d : D} (h : PE X e (tC v)) (r : ∀ F, Rep T F v d) : XE X T Z W own e (xC d) := PE.imp h fun σ H Q ⟨kp, F, ρ, g, c, q⟩ => q v F H c (.refl _) (r F)
theorem x_bin {op : Operator} {r : R2} {od : D → D → Option D} (ho : OpR X (binaryOp op) r) (hr : BinOk T r od) (ha : XE X T Z W own a fa) (hb : XE X T Z W own b fb) : XE X T Z W own (.BinOp a op b pos) (xBin od fa fb) :=
  PE.imp (pe_op ho ha hb) fun σ H Q ⟨kp, F, ρ, g, c, q⟩ => tP.then c q.bind fun d1 g1 v1 F1 H1 q1 c1 s1 r1 => tP.then c1 (q1.bind.up s1 fun _ _ z => z) fun d2 g2 v2 F2 H2 q2 c2 s2 r2 => by
    obtain ⟨d, e, q3⟩ := rQ.ofO (H := H) q2
    exact hr F2 H2 v1 v2 d1 d2 d Q c2.core.sub (Rep.mono s2 _ _ r1) r2 e fun v F' H' gr rv => q3 v F' H' (c2.grow gr) ((s1.trans s2).trans gr.ff) rv
end
end PP

set_option Elab.async false
set_option linter.all false
set_option maxRecDepth 100000
set_option maxHeartbeats 4000000
namespace PP
open PySem L2

theorem LIM_eq : LIM = sizeLine := by decide
/-! ### inversions of Rep -/
section
variable {T : Tb} {H : Hp} {v : V}
theorem rep_int {i : Int} (h : Rep T H v (.int i)) : v = .int i := by unfold Rep at h; exact h
theorem rep_bl {b : Bool} (h : Rep T H v (.bl b)) : v = .bl b := by unfold Rep at h; exact h
theorem rep_non (h : Rep T H v .non) : v = .non := by unfold Rep at h; exact h
theorem rep_gen {a : Nat} (h : Rep T H v (.gen a)) : v = .ref a := by unfold Rep at h; exact h
theorem rep_str {s : List Nat} (h : Rep T H v (.str s)) : v = .str ⟨s.toArray⟩ ∧ s.length ≤ LIM ∧ ∀ c ∈ s, c < 1114112 := by unfold Rep at h; exact h
theorem rep_tup {l : List D} (h : Rep T H v (.tup l)) : ∃ (a : Addr) (vs : List V), v = .ref a ∧ H a = some (.tup vs) ∧ vs.length ≤ LIM ∧ RepL T H vs l := by unfold Rep at h; exact h
theorem rep_lst {l : List D} (h : Rep T H v (.lst l)) : ∃ (a : Addr) (vs : List V), v = .ref a ∧ H a = some (.lst vs) ∧ vs.length ≤ LIM ∧ RepL T H vs l := by unfold Rep at h; exact h
theorem rep_fn {n : Nat} (h : Rep T H v (.fn n)) : ∃ a : Addr, v = .ref a ∧ T.fnA n = some a := by unfold Rep at h; exact h
theorem mk_int {i : Int} : Rep T H (.int i) (.int i) := by unfold Rep; rfl
theorem mk_bl {b : Bool} : Rep T H (.bl b) (.bl b) := by unfold Rep; rfl
theorem mk_non : Rep T H .non .non := by unfold Rep; rfl
theorem mk_str {s : List Nat} (h1 : s.length ≤ LIM) (h2 : ∀ c ∈ s, c < 1114112) : Rep T H (.str ⟨s.toArray⟩) (.str s) := by unfold Rep; exact ⟨rfl, h1, h2⟩
theorem mk_tup {l : List D} {a : Addr} {vs : List V} (h : H a = some (.tup vs)) (hl : vs.length ≤ LIM) (r : RepL T H vs l) : Rep T H (.ref a) (.tup l) := by unfold Rep; exact ⟨a, vs, rfl, h, hl, r⟩
theorem mk_lst {l : List D} {a : Addr} {vs : List V} (h : H a = some (.lst vs)) (hl : vs.length ≤ LIM) (r : RepL T H vs l) : Rep T H (.ref a) (.lst l) := by unfold Rep; exact ⟨a, vs, rfl, h, hl, r⟩
end
/-- a new tuple -/
theorem new_tup {T : Tb} {F H : Hp} {p : Addr} {vs : List V} {l : List D} (s : Sub F H) (n : H p = none) (hl : vs.length ≤ LIM) (r : RepL T F vs l) : Grow F H (upd F p (.tup vs)) (upd H p (.tup vs)) ∧ Rep T (upd F p (.tup vs)) (.ref p) (.tup l) :=
  ⟨.one s n, mk_tup upd_same hl (RepL.mono (Grow.one (o := .tup vs) s n).ff _ _ r)⟩
theorem new_lst {T : Tb} {F H : Hp} {p : Addr} {vs : List V} {l : List D} (s : Sub F H) (n : H p = none) (hl : vs.length ≤ LIM) (r : RepL T F vs l) : Grow F H (upd F p (.lst vs)) (upd H p (.lst vs)) ∧ Rep T (upd F p (.lst vs)) (.ref p) (.lst l) :=
  ⟨.one s n, mk_lst upd_same hl (RepL.mono (Grow.one (o := .lst vs) s n).ff _ _ r)⟩

/-! ### the operations -/
theorem BinOk.or {T : Tb} {r r' : R2} {o o' : D → D → Option D} (h : BinOk T r o) (h' : BinOk T r' o') (od : D → D → Option D) (hs : ∀ a b d, od a b = some d → o a b = some d ∨ o' a b = some d) : BinOk T (fun x y H Q => r x y H Q ∨ r' x y H Q) od :=
  fun F H x y d1 d2 d Q s r1 r2 e k => (hs d1 d2 d e).elim (fun z => .inl (h F H x y d1 d2 d Q s r1 r2 z k)) (fun z => .inr (h' F H x y d1 d2 d Q s r1 r2 z k))
def lift2 (f : Int → Int → Option D) : D → D → Option D
  | .int i, .int j => f i j
  | _, _ => none
theorem bin_int {T : Tb} {C : Int → Int → Prop} {gv : Int → Int → V} {f : Int → Int → Option D} (h : ∀ i j d, f i j = some d → C i j ∧ ∀ F, Rep T F (gv i j) d) : BinOk T (rI C gv) (lift2 f) := by
  intro F H x y d1 d2 d Q s r1 r2 e k
  cases d1 <;> cases d2 <;> simp only [lift2] at e <;> try cases e
  obtain rfl := rep_int r1
  obtain rfl := rep_int r2
  obtain ⟨h1, h2⟩ := h _ _ _ e
  exact ⟨_, _, rfl, rfl, h1, k _ F H (.refl s) (h2 F)⟩
theorem bin_int0 {T : Tb} {gv : Int → Int → V} {f : Int → Int → Option D} (h : ∀ i j d, f i j = some d → ∀ F, Rep T F (gv i j) d) : BinOk T (rI0 gv) (lift2 f) := by
  intro F H x y d1 d2 d Q s r1 r2 e k
  cases d1 <;> cases d2 <;> simp only [lift2] at e <;> try cases e
  obtain rfl := rep_int r1
  obtain rfl := rep_int r2
  exact ⟨_, _, rfl, rfl, k _ F H (.refl s) (h _ _ _ e F)⟩
/-- + -/
def rAddA (K : PySem.W.Frag) : R2 := fun x y H Q => rI0 (fun i j => .int (i + j)) x y H Q ∨ ((∃ i j, x = .str i ∧ y = .str j ∧ i.length + j.length ≤ sizeLine ∧ Q (.str (i ++ j)) H) ∨ (rCat x y H Q ∨ rCatA K x y H Q))
theorem op_addA {X : Cx} : OpR X (binaryOp .Add) (rAddA X.K) := op_add.or (op_add_str.or (op_cat.or op_catA))
theorem str_len {a : List Nat} : (⟨a.toArray⟩ : Str).length = a.length := by simp [Str.length]
theorem str_app {a b : List Nat} : (⟨a.toArray⟩ : Str) ++ ⟨b.toArray⟩ = ⟨(a ++ b).toArray⟩ := by
  show Str.mk _ = _
  congr 1
  simp
theorem bin_add {T : Tb} : BinOk T (rAddA T.K) addD := by
  intro F H x y d1 d2 d Q s r1 r2 e k
  cases d1 with
  | int i =>
    cases d2 with
    | int j =>
      simp only [addD, Option.some.injEq] at e; subst e
      obtain rfl := rep_int r1
      obtain rfl := rep_int r2
      exact .inl ⟨_, _, rfl, rfl, k _ F H (.refl s) mk_int⟩
    | _ => simp [addD] at e
  | str a =>
    cases d2 with
    | str b =>
      simp only [addD, Option.ite_none_right_eq_some, Option.some.injEq] at e
      obtain ⟨hl, rfl⟩ := e
      obtain ⟨rfl, l1, c1⟩ := rep_str r1
      obtain ⟨rfl, l2, c2⟩ := rep_str r2
      refine .inr (.inl ⟨_, _, rfl, rfl, by rw [str_len, str_len, ← LIM_eq]; exact hl, ?_⟩)
      rw [str_app]
      exact k _ F H (.refl s) (mk_str (by simpa using hl) fun c hc => (List.mem_append.mp hc).elim (c1 c) (c2 c))
    | _ => simp [addD] at e
  | tup a =>
    cases d2 with
    | tup b =>
      simp only [addD, Option.ite_none_right_eq_some, Option.some.injEq] at e
      obtain ⟨hl, rfl⟩ := e
      obtain ⟨p, vs, rfl, e1, l1, q1⟩ := rep_tup r1
      obtain ⟨q, ws, rfl, e2, l2, q2⟩ := rep_tup r2
      have n1 := q1.length
      have n2 := q2.length
      refine .inr (.inr (.inr ⟨p, q, vs, ws, rfl, rfl, SqT.of (s _ _ e1), SqT.of (s _ _ e2), by rw [← LIM_eq]; omega, fun z => ?_, fun z1 z2 => ?_, fun z1 z2 t nt => ?_⟩))
      · subst z
        have : a = [] := List.eq_nil_of_length_eq_zero (by simpa using n1.symm)
        subst this
        exact k _ F H (.refl s) (mk_tup e2 l2 q2)
      · subst z2
        have : b = [] := List.eq_nil_of_length_eq_zero (by simpa using n2.symm)
        subst this
        rw [List.append_nil] at k
        exact k _ F H (.refl s) (mk_tup e1 l1 q1)
      · obtain ⟨g1, g2⟩ := new_tup (T := T) s nt (by simp; omega) (q1.append q2)
        exact k _ _ _ g1 g2
    | _ => simp [addD] at e
  | lst a =>
    cases d2 with
    | lst b =>
      simp only [addD, Option.ite_none_right_eq_some, Option.some.injEq] at e
      obtain ⟨hl, rfl⟩ := e
      obtain ⟨p, vs, rfl, e1, l1, q1⟩ := rep_lst r1
      obtain ⟨q, ws, rfl, e2, l2, q2⟩ := rep_lst r2
      have n1 := q1.length
      have n2 := q2.length
      refine .inr (.inr (.inl ⟨p, q, vs, ws, rfl, rfl, s _ _ e1, s _ _ e2, by rw [← LIM_eq]; omega, fun t nt => ?_⟩))
      obtain ⟨g1, g2⟩ := new_lst (T := T) s nt (by simp; omega) (q1.append q2)
      exact k _ _ _ g1 g2
    | _ => simp [addD] at e
  | _ => simp [addD] at e
theorem subD_lift : subD = lift2 fun i j => some (.int (i - j)) := by
  funext a b; cases a <;> cases b <;> rfl
theorem bin_sub {T : Tb} : BinOk T (rI0 fun i j => .int (i - j)) subD := by
  rw [subD_lift]
  exact bin_int0 fun i j d e F => by cases e; exact mk_int
theorem modD_lift : modD = lift2 fun i j => if 0 < j then some (.int (i % j)) else none := by
  funext a b; cases a <;> cases b <;> rfl
theorem bin_mod {T : Tb} : BinOk T (rI (fun _ j => 0 < j) fun i j => .int (i % j)) modD := by
  rw [modD_lift]
  refine bin_int fun i j d e => ?_
  simp only [Option.ite_none_right_eq_some, Option.some.injEq] at e
  obtain ⟨h, rfl⟩ := e
  exact ⟨h, fun F => mk_int⟩
theorem fdivD_lift : fdivD = lift2 fun i j => if 0 < j ∧ j.natAbs < 1073741824 then some (.int (i / j)) else none := by
  funext a b; cases a <;> cases b <;> rfl
theorem bin_fdiv {T : Tb} : BinOk T (rI CDiv fun i j => .int (i / j)) fdivD := by
  rw [fdivD_lift]
  refine bin_int fun i j d e => ?_
  simp only [Option.ite_none_right_eq_some, Option.some.injEq] at e
  obtain ⟨h, rfl⟩ := e
  exact ⟨⟨h.1, by have := h.1; have := h.2; omega⟩, fun F => mk_int⟩
/-! == -/
mutual
def toPy : D → PyData
  | .non => .none | .bl b => .bool b | .int i => .int i | .str s => .str ⟨s.toArray⟩
  | .tup l => .tuple (toPyL l)
  | .lst l => .list (toPyL l)
  | _ => .none
def toPyL : List D → List PyData
  | [] => []
  | x :: xs => toPy x :: toPyL xs
end
mutual
theorem rep_dp {T : Tb} {F H : Hp} (s : Sub F H) : ∀ (d : D) (v : V), isDat d = true → Rep T F v d → Dp T.K H v (toPy d) ∧ (toPy d).canLay0 = true
  | .non, v, _, r => by obtain rfl := rep_non r; exact ⟨.non, rfl⟩
  | .bl b, v, _, r => by obtain rfl := rep_bl r; exact ⟨.bl b, rfl⟩
  | .int i, v, _, r => by obtain rfl := rep_int r; exact ⟨.int i, rfl⟩
  | .str x, v, _, r => by
    obtain ⟨rfl, _, h⟩ := rep_str r
    refine ⟨.str _, ?_⟩
    show PyData.strOk _ = true
    unfold PyData.strOk
    simpa using h
  | .tup l, v, e, r => by
    obtain ⟨a, vs, rfl, h1, h2, h3⟩ := rep_tup r
    obtain ⟨q1, q2⟩ := repL_dp s l vs (by simpa [isDat] using e) h3
    exact ⟨.tup (SqT.of (s _ _ h1)) q1, by simpa [toPy, PyData.canLay0] using q2⟩
  | .lst l, v, e, r => by
    obtain ⟨a, vs, rfl, h1, h2, h3⟩ := rep_lst r
    obtain ⟨q1, q2⟩ := repL_dp s l vs (by simpa [isDat] using e) h3
    exact ⟨.lst (SqL.of (s _ _ h1)) q1, by simpa [toPy, PyData.canLay0] using q2⟩
  | .fn _, _, e, _ => by simp [isDat] at e
  | .gen _, _, e, _ => by simp [isDat] at e
  | .ins _ _, _, e, _ => by simp [isDat] at e
theorem repL_dp {T : Tb} {F H : Hp} (s : Sub F H) : ∀ (ds : List D) (vs : List V), isDatL ds = true → RepL T F vs ds → DpAll T.K H vs (toPyL ds) ∧ PyData.canLayAll0 (toPyL ds) = true
  | [], vs, _, r => by obtain rfl := r.nil_inv; exact ⟨.nil, rfl⟩
  | d :: ds, vs, e, r => by
    obtain ⟨v, us, rfl, h1, h2⟩ := r.inv2
    simp only [isDatL, Bool.and_eq_true] at e
    obtain ⟨q1, q2⟩ := rep_dp s d v e.1 h1
    obtain ⟨q3, q4⟩ := repL_dp s ds us e.2 h2
    exact ⟨.cons q1 q3, by simp [toPyL, PyData.canLayAll0, q2, q4]⟩
end
mutual
theorem dep_py : ∀ d : D, isDat d = true → (toPy d).depth = dep d
  | .non, _ => rfl
  | .bl _, _ => rfl
  | .int _, _ => rfl
  | .str _, _ => rfl
  | .tup l, e => by simp [toPy, PyData.depth, dep, depL_py l (by simpa [isDat] using e)]
  | .lst l, e => by simp [toPy, PyData.depth, dep, depL_py l (by simpa [isDat] using e)]
  | .fn _, e => by simp [isDat] at e
  | .gen _, e => by simp [isDat] at e
  | .ins _ _, e => by simp [isDat] at e
theorem depL_py : ∀ ds : List D, isDatL ds = true → PyData.depthAll (toPyL ds) = depL ds
  | [], _ => rfl
  | d :: ds, e => by
    simp only [isDatL, Bool.and_eq_true] at e
    simp [toPyL, PyData.depthAll, depL, dep_py d e.1, depL_py ds e.2]
end
mutual
theorem eqv_py : ∀ (a b : D), isDat a = true → isDat b = true → PyData.eqv (toPy a) (toPy b) = eqB a b
  | .non, b, _, h => by cases b <;> first | rfl | simp [isDat] at h | simp [toPy, PyData.eqv, eqB]
  | .bl _, b, _, h => by cases b <;> first | rfl | simp [isDat] at h | simp [toPy, PyData.eqv, eqB]
  | .int _, b, _, h => by cases b <;> first | rfl | simp [isDat] at h | simp [toPy, PyData.eqv, eqB]
  | .str x, b, _, h => by
    cases b with
    | str y =>
      simp only [toPy, PyData.eqv, eqB]
      rw [Bool.eq_iff_iff]
      simp
    | _ => first | rfl | simp [isDat] at h | simp [toPy, PyData.eqv, eqB]
  | .tup l, b, e, h => by
    cases b with
    | tup m => simpa [toPy, PyData.eqv, eqB] using eqvL_py l m (by simpa [isDat] using e) (by simpa [isDat] using h)
    | _ => first | rfl | simp [isDat] at h | simp [toPy, PyData.eqv, eqB]
  | .lst l, b, e, h => by
    cases b with
    | lst m => simpa [toPy, PyData.eqv, eqB] using eqvL_py l m (by simpa [isDat] using e) (by simpa [isDat] using h)
    | _ => first | rfl | simp [isDat] at h | simp [toPy, PyData.eqv, eqB]
  | .fn _, _, e, _ => by simp [isDat] at e
  | .gen _, _, e, _ => by simp [isDat] at e
  | .ins _ _, _, e, _ => by simp [isDat] at e
theorem eqvL_py : ∀ (a b : List D), isDatL a = true → isDatL b = true → PyData.eqvAll (toPyL a) (toPyL b) = eqBL a b
  | [], [], _, _ => rfl
  | [], _ :: _, _, _ => by simp [toPyL, PyData.eqvAll, eqBL]
  | _ :: _, [], _, _ => by simp [toPyL, PyData.eqvAll, eqBL]
  | x :: xs, y :: ys, e, h => by
    simp only [isDatL, Bool.and_eq_true] at e h
    simp [toPyL, PyData.eqvAll, eqBL, eqv_py x y e.1 h.1, eqvL_py xs ys e.2 h.2]
end
theorem shape_py {T : Tb} {F H : Hp} {d : D} {v : V} (s : Sub F H) (e : shapeOk d = true) (r : Rep T F v d) : isDat d = true ∧ Dp T.K H v (toPy d) ∧ SeqAt.shaped (toPy d) = true := by
  simp only [shapeOk, Bool.and_eq_true, decide_eq_true_eq] at e
  obtain ⟨q1, q2⟩ := rep_dp s d v e.1 r
  exact ⟨e.1, q1, by simp [SeqAt.shaped, q2, dep_py d e.1, e.2]⟩
theorem bin_eq {T : Tb} : BinOk T (rEqD T.K) eqD := by
  intro F H x y d1 d2 d Q s r1 r2 e k
  simp only [eqD, Option.ite_none_right_eq_some, Option.some.injEq, Bool.and_eq_true] at e
  obtain ⟨⟨e1, e2⟩, rfl⟩ := e
  obtain ⟨a1, a2, a3⟩ := shape_py s e1 r1
  obtain ⟨b1, b2, b3⟩ := shape_py s e2 r2
  refine ⟨_, _, a2, b2, a3, b3, ?_⟩
  rw [eqv_py _ _ a1 b1]
  exact k _ F H (.refl s) mk_bl
theorem bin_ne {T : Tb} : BinOk T (rNeD T.K) neD := by
  intro F H x y d1 d2 d Q s r1 r2 e k
  simp only [neD, Option.ite_none_right_eq_some, Option.some.injEq, Bool.and_eq_true] at e
  obtain ⟨⟨e1, e2⟩, rfl⟩ := e
  obtain ⟨a1, a2, a3⟩ := shape_py s e1 r1
  obtain ⟨b1, b2, b3⟩ := shape_py s e2 r2
  refine ⟨_, _, a2, b2, a3, b3, ?_⟩
  rw [eqv_py _ _ a1 b1]
  exact k _ F H (.refl s) mk_bl
/-! order -/
theorem ltL_lt : ∀ a b : List Nat, ltL a b = decide (a < b)
  | [], [] => by simp [ltL]
  | _ :: _, [] => by simp [ltL]
  | [], _ :: _ => by simp [ltL]
  | x :: xs, y :: ys => by
    unfold ltL
    by_cases h : x = y
    · subst h
      rw [if_pos rfl, ltL_lt xs ys]
      simp [List.cons_lt_cons_iff]
    · rw [if_neg h]
      simp [List.cons_lt_cons_iff, h]
def rOrd (p : Int → Int → Bool) (q : List Nat → List Nat → Bool) : R2 := fun x y H Q => rI0 (fun i j => .bl (p i j)) x y H Q ∨ ∃ i j : Str, x = .str i ∧ y = .str j ∧ Q (.bl (q i.cps.toList j.cps.toList)) H
def ordD (p : Int → Int → Bool) (q : List Nat → List Nat → Bool) : D → D → Option D
  | .int i, .int j => some (.bl (p i j))
  | .str a, .str b => some (.bl (q a b))
  | _, _ => none
theorem bin_ord {T : Tb} (p : Int → Int → Bool) (q : List Nat → List Nat → Bool) : BinOk T (rOrd p q) (ordD p q) := by
  intro F H x y d1 d2 d Q s r1 r2 e k
  cases d1 with
  | int i =>
    cases d2 with
    | int j =>
      simp only [ordD, Option.some.injEq] at e; subst e
      obtain rfl := rep_int r1
      obtain rfl := rep_int r2
      exact .inl ⟨_, _, rfl, rfl, k _ F H (.refl s) mk_bl⟩
    | _ => simp [ordD] at e
  | str a =>
    cases d2 with
    | str b =>
      simp only [ordD, Option.some.injEq] at e; subst e
      obtain ⟨rfl, l1, c1⟩ := rep_str r1
      obtain ⟨rfl, l2, c2⟩ := rep_str r2
      exact .inr ⟨_, _, rfl, rfl, k _ F H (.refl s) (by simpa using mk_bl)⟩
    | _ => simp [ordD] at e
  | _ => simp [ordD] at e
theorem OpR.cg {X : Cx} {f : Value → Value → Sem Value} {r r' : R2} (h : OpR X f r) (e : ∀ x y H Q, r' x y H Q → r x y H Q) : OpR X f r' := fun pins s σ H x y v u Q I rx ry q => h pins s σ H x y v u Q I rx ry (e x y H Q q)
theorem op_ltA {X : Cx} : OpR X (compareOp .Lt) (rOrd (fun i j => decide (i < j)) ltL) := PP.OpR.cg (op_lt.or op_lt_str) fun x y H Q h => h.imp id fun ⟨i, j, e1, e2, q⟩ => ⟨i, j, e1, e2, by rw [← ltL_lt]; exact q⟩
theorem op_leA {X : Cx} : OpR X (compareOp .LtE) (rOrd (fun i j => decide (i ≤ j)) fun a b => !ltL b a) := PP.OpR.cg (op_le.or op_le_str) fun x y H Q h => h.imp id fun ⟨i, j, e1, e2, q⟩ => ⟨i, j, e1, e2, by rw [← ltL_lt]; exact q⟩
theorem op_gtA {X : Cx} : OpR X (compareOp .Gt) (rOrd (fun i j => decide (j < i)) fun a b => ltL b a) := PP.OpR.cg (op_gt.or op_gt_str) fun x y H Q h => h.imp id fun ⟨i, j, e1, e2, q⟩ => ⟨i, j, e1, e2, by rw [← ltL_lt]; exact q⟩
theorem op_geA {X : Cx} : OpR X (compareOp .GtE) (rI0 fun i j => .bl (decide (j ≤ i))) := op_ge
theorem ltD_ord : ltD = ordD (fun i j => decide (i < j)) ltL := by funext a b; cases a <;> cases b <;> rfl
theorem leD_ord : leD = ordD (fun i j => decide (i ≤ j)) fun a b => !ltL b a := by funext a b; cases a <;> cases b <;> rfl
theorem gtD_ord : gtD = ordD (fun i j => decide (j < i)) fun a b => ltL b a := by funext a b; cases a <;> cases b <;> rfl
theorem bin_lt {T : Tb} : BinOk T (rOrd (fun i j => decide (i < j)) ltL) ltD := by rw [ltD_ord]; exact bin_ord _ _
theorem bin_le {T : Tb} : BinOk T (rOrd (fun i j => decide (i ≤ j)) fun a b => !ltL b a) leD := by rw [leD_ord]; exact bin_ord _ _
theorem bin_gt {T : Tb} : BinOk T (rOrd (fun i j => decide (j < i)) fun a b => ltL b a) gtD := by rw [gtD_ord]; exact bin_ord _ _
theorem geD_lift : geD = lift2 fun i j => some (.bl (decide (j ≤ i))) := by funext a b; cases a <;> cases b <;> rfl
theorem bin_ge {T : Tb} : BinOk T (rI0 fun i j => .bl (decide (j ≤ i))) geD := by rw [geD_lift]; exact bin_int0 fun i j d e F => by cases e; exact mk_bl
/-! is None -/
theorem isN_V {T : Tb} {F : Hp} {x : V} {d : D} (r : Rep T F x d) : decide (x = .non) = match d with | .non => true | _ => false := by
  cases d with
  | non => obtain rfl := rep_non r; rfl
  | bl b => obtain rfl := rep_bl r; rfl
  | int i => obtain rfl := rep_int r; rfl
  | str s => obtain ⟨rfl, _⟩ := rep_str r; rfl
  | tup l => obtain ⟨a, vs, rfl, _⟩ := rep_tup r; rfl
  | lst l => obtain ⟨a, vs, rfl, _⟩ := rep_lst r; rfl
  | fn n => obtain ⟨a, rfl, _⟩ := rep_fn r; rfl
  | gen a => obtain rfl := rep_gen r; rfl
  | ins c fs =>
    unfold Rep at r
    rcases r with ⟨a, C, dx, ps, rfl, _⟩ | ⟨a, d, ps, _, rfl, _⟩ <;> rfl
/-! * -/
def rRep1 (K : PySem.W.Frag) : R2 := fun x y H Q => ∃ l xs, x = .ref l ∧ y = .int 1 ∧ SqT K H l xs ∧ Q (.ref l) H
def rMulA (K : PySem.W.Frag) : R2 := fun x y H Q => rI CMul (fun i j => .int (i * j)) x y H Q ∨ (rRep x y H Q ∨ (rRep1 K x y H Q ∨ rRepT K x y H Q))
theorem tuple_mul1 (l : Addr) (items : Array Value) (n : Nat) (dd : Option Addr) (sl : Array (Option Value)) (u : Tok) :
    Meets (Builtin.«tuple.__mul__» ⟨[.ref l, .int 1 u], []⟩) (fun _ R s => s.heap.get? l = some { cls := .type "tuple", dict := dd, data := .seq items n, slots := sl } ∧
      R (.ok (.ret (Value.ref l))) s) :=
  .of_wp fun prog w A R s h => by
    obtain ⟨hp, g, d, tk, os⟩ := s
    obtain ⟨hl, h⟩ := h
    have f1 := AutoSeq1.idx_int
    have c0 : (decide ((1 : Int) < -(2 ^ 63)) || decide ((1 : Int) ≥ 2 ^ 63)) = false := by decide
    have c1 : (items.isEmpty || (1 : Int) == 1) = true := by simp
    wp_walk using wpAny_loadPart' hl
    repeat (first
      | (refine wpAny_ite_false (decide_eq_false (by rw [c0]; exact Bool.false_ne_true)) ?_; wp_walk using wpAny_loadPart' hl)
      | (refine wpAny_ite_true (decide_eq_true (by rw [c1])) ?_; wp_walk using wpAny_loadPart' hl))
    exact ⟨_, rfl, h⟩
theorem op_rep1 {X : Cx} : OpR X (binaryOp .Mult) (rRep1 X.K) := by
  intro pins s σ H x y v u Q I rx ry h
  obtain ⟨l, xs, rfl, rfl, hT, q⟩ := h
  cases rx
  obtain ⟨t, rfl⟩ := ry
  obtain ⟨its, r, ⟨⟨cls, dd, data, sl⟩, ho, hc, n, hd⟩, hs⟩ := I.tuple hT
  simp only at hc hd
  subst hc hd
  refine wpAny_binaryOp_repeat_ref (T := "tuple") (U := "int") (by decide) ⟨_, ho, rfl⟩ (fun s' => typeIs_int s' 1 t) noFill_tuple_mul F.fills_int_mul F.slot_int_rmul repeat_tuple F.slot_int_index.lookup
    (call_meets F.slot_int_rmul (typeIs_int s 1 t) F.entry_int_rmul (F.args_int_rmul_2 _ _) (int_rmul_tuple 1 t l its.toArray n dd sl)
      ⟨ho, rfl, ⟨_, ho, rfl⟩, call_meets F.slot_tuple_mul ⟨_, ho, rfl⟩ F.entry_tuple_mul (F.args_tuple_mul_2 _ _) (tuple_mul1 l its.toArray n dd sl t) ⟨ho, ?_⟩⟩)
  exact ⟨.ref l, H, I, rfl, q⟩
theorem op_mulA {X : Cx} : OpR X (binaryOp .Mult) (rMulA X.K) := op_mul.or (op_rep.or (op_rep1.or op_repT))
theorem mulOk_C {i j : Int} (h : mulOk i j = true) : CMul i j := by
  simp only [mulOk, Bool.or_eq_true, decide_eq_true_eq] at h
  have e : (18446744073709551616 : Nat) = 2 ^ 64 := by decide
  have e2 : ((2 : Int) ^ 64) = 18446744073709551616 := by decide
  unfold CMul
  rw [e2]
  omega
theorem bin_mul {T : Tb} : BinOk T (rMulA T.K) mulD := by
  intro F H x y d1 d2 d Q s r1 r2 e k
  cases d2 with
  | int j =>
    obtain rfl := rep_int r2
    cases d1 with
    | int i =>
      simp only [mulD, Option.ite_none_right_eq_some, Option.some.injEq] at e
      obtain ⟨h, rfl⟩ := e
      obtain rfl := rep_int r1
      exact .inl ⟨_, _, rfl, rfl, mulOk_C h, k _ F H (.refl s) mk_int⟩
    | tup l =>
      simp only [mulD, Option.ite_none_right_eq_some, Option.some.injEq, Bool.and_eq_true, Bool.not_eq_true', decide_eq_true_eq] at e
      obtain ⟨⟨⟨⟨h1, h2⟩, h3⟩, h4⟩, rfl⟩ := e
      obtain ⟨p, vs, rfl, e1, l1, q1⟩ := rep_tup r1
      have n1 := q1.length
      by_cases hj : j = 1
      · subst hj
        refine .inr (.inr (.inl ⟨p, vs, rfl, rfl, SqT.of (s _ _ e1), k _ F H (.refl s) ?_⟩))
        show Rep T F (V.ref p) (.tup (repL 1 l))
        have : repL 1 l = l := by simp [repL]
        rw [this]
        exact r1
      · refine .inr (.inr (.inr ⟨p, j, vs, rfl, rfl, SqT.of (s _ _ e1), ?_, by omega, h3, by omega, fun t nt => ?_⟩))
        · intro z; subst z
          have : l = [] := List.eq_nil_of_length_eq_zero (by simpa using n1.symm)
          subst this
          simp at h1
        · obtain ⟨g1, g2⟩ := new_tup (T := T) s nt (by
            rw [PyProof.Rows.lm_len_rep_flat, LIM_eq, sizeLine_eq]
            have a1 : j.toNat * vs.length ≤ 1000 * 1000 := Nat.mul_le_mul (by omega) (by omega)
            omega) (q1.flat j.toNat)
          exact k _ _ _ g1 g2
    | lst l =>
      simp only [mulD, cntOk, Option.ite_none_right_eq_some, Option.some.injEq, Bool.and_eq_true, decide_eq_true_eq] at e
      obtain ⟨⟨h1, h3⟩, rfl⟩ := e
      obtain ⟨p, vs, rfl, e1, l1, q1⟩ := rep_lst r1
      have n1 := q1.length
      refine .inr (.inl ⟨p, j, vs, rfl, rfl, s _ _ e1, by omega, by omega, by rw [← LIM_eq, n1]; exact h3, fun t nt => ?_⟩)
      obtain ⟨g1, g2⟩ := new_lst (T := T) s nt (by
        rw [PyProof.Rows.lm_len_rep_flat, Nat.mul_comm, n1]; exact h3) (q1.flat j.toNat)
      exact k _ _ _ g1 g2
    | _ => simp [mulD] at e
  | _ => cases d1 <;> simp [mulD] at e
end PP

set_option Elab.async false
set_option linter.all false
set_option maxRecDepth 100000
set_option maxHeartbeats 4000000
namespace PP
open PySem L2

/-! ### subscripts, slices -/
theorem plc_ixN {n : Nat} {i : Int} : plc n i = ixN n i := rfl
theorem itD_atI {α : Type} {l : List α} {i : Int} : itD l i = atI l i := rfl
theorem atI_rep {T : Tb} {F : Hp} {vs : List V} {l : List D} {i : Int} {d : D} (r : RepL T F vs l) (h : itD l i = some d) : ∃ v, atI vs i = some v ∧ Rep T F v d := by
  rw [itD_atI] at h
  unfold atI at h ⊢
  rw [r.length]
  cases e : ixN l.length i with
  | none => rw [e] at h; cases h
  | some j =>
    rw [e] at h
    exact r.get h
theorem bin_ix {T : Tb} : BinOk T (rIx T.K) ixD := by
  intro F H x y d1 d2 d Q s r1 r2 e k
  cases d2 with
  | int j =>
    obtain rfl := rep_int r2
    cases d1 with
    | tup l =>
      obtain ⟨p, vs, rfl, e1, l1, q1⟩ := rep_tup r1
      obtain ⟨v, h1, h2⟩ := atI_rep q1 e
      exact .inr (.inl ⟨p, vs, j, v, rfl, rfl, SqT.of (s _ _ e1), h1, k _ F H (.refl s) h2⟩)
    | lst l =>
      obtain ⟨p, vs, rfl, e1, l1, q1⟩ := rep_lst r1
      obtain ⟨v, h1, h2⟩ := atI_rep q1 e
      exact .inl ⟨p, vs, j, v, rfl, rfl, SqL.of (s _ _ e1), h1, k _ F H (.refl s) h2⟩
    | str z =>
      obtain ⟨rfl, l1, c1⟩ := rep_str r1
      simp only [ixD, Option.map_eq_some_iff] at e
      obtain ⟨c, h1, rfl⟩ := e
      refine .inr (.inr ⟨_, j, c, rfl, rfl, by rw [str_len, ← LIM_eq]; exact l1, by simpa [itD_atI] using h1, k _ F H (.refl s) (mk_str (s := [c]) (by simp [LIM]) fun c' hc => ?_)⟩)
      obtain rfl : c' = c := by simpa using hc
      obtain ⟨m, _, hm, _⟩ := atI_get (show atI z j = some c' from h1)
      exact c1 c' (List.mem_of_getElem? hm)
    | _ => simp [ixD] at e
  | _ => cases d1 <;> simp [ixD] at e
/-- a slice of any kind -/
def rSlQ (K : PySem.W.Frag) : V → Option Int → Option Int → Hp → VK → Prop := fun x lo hi H Q => rSlL K x lo hi H Q ∨ (rSlA K x lo hi H Q ∨ rSlS x lo hi H Q)
theorem sl_any {X : Cx} : SlR X (rSlQ X.K) := sl_list.or (sl_tupA.or sl_str)
theorem bnd_sIx {n d : Nat} {o : Option Int} : bnd n d o = HT.sIx n d o := rfl
theorem cut_rep {T : Tb} {F : Hp} {vs : List V} {l : List D} (r : RepL T F vs l) (lo hi : Option Int) : RepL T F (cutV vs lo hi) (cut l lo hi) := by
  unfold cutV cut
  rw [r.length]
  exact (r.drop _).take _
theorem cut_whole {α : Type} {l : List α} {lo hi : Option Int} (h : HT.sIx l.length 0 lo = 0 ∧ HT.sIx l.length l.length hi = l.length) : cut l lo hi = l := by
  unfold cut
  rw [bnd_sIx, bnd_sIx, h.1, h.2]
  simp
theorem cut_length {α : Type} (l : List α) (lo hi : Option Int) : (cut l lo hi).length ≤ l.length := by
  unfold cut
  rw [List.length_take, List.length_drop]
  omega
theorem cutS_cut {s : List Nat} {lo hi : Option Int} : cutS ⟨s.toArray⟩ lo hi = ⟨(cut s lo hi).toArray⟩ := by
  unfold cutS cut
  simp [bnd_sIx, Str.length]
theorem sl_ok {T : Tb} {F H : Hp} {x : V} {d1 d : D} {lo hi : Option Int} {Q : VK} (s : Sub F H) (r : Rep T F x d1) (e : sliceD d1 lo hi = some d) (k : ∀ v F' H', Grow F H F' H' → Rep T F' v d → Q v H') : rSlQ T.K x lo hi H Q := by
  cases d1 with
  | lst l =>
    simp only [sliceD, Option.some.injEq] at e; subst e
    obtain ⟨p, vs, rfl, e1, l1, q1⟩ := rep_lst r
    refine .inl ⟨p, vs, rfl, SqL.of (s _ _ e1), fun t nt => ?_⟩
    obtain ⟨g1, g2⟩ := new_lst (T := T) s nt (Nat.le_trans (cutV_length _ _ _) l1) (cut_rep q1 lo hi)
    exact k _ _ _ g1 g2
  | tup l =>
    simp only [sliceD, Option.some.injEq] at e; subst e
    obtain ⟨p, vs, rfl, e1, l1, q1⟩ := rep_tup r
    refine .inr (.inl ⟨p, vs, rfl, SqT.of (s _ _ e1), fun w => ?_, fun _ t nt => ?_⟩)
    · have : cut l lo hi = l := cut_whole (by rw [← q1.length]; exact w)
      rw [this] at k
      exact k _ F H (.refl s) r
    · obtain ⟨g1, g2⟩ := new_tup (T := T) s nt (Nat.le_trans (cutV_length _ _ _) l1) (cut_rep q1 lo hi)
      exact k _ _ _ g1 g2
  | str z =>
    simp only [sliceD, Option.some.injEq] at e; subst e
    obtain ⟨rfl, l1, c1⟩ := rep_str r
    refine .inr (.inr ⟨_, rfl, by rw [str_len, ← LIM_eq]; exact l1, ?_⟩)
    rw [cutS_cut]
    refine k _ F H (.refl s) (mk_str (Nat.le_trans (cut_length _ _ _) l1) fun c hc => c1 c ?_)
    unfold cut at hc
    exact List.mem_of_mem_drop (List.mem_of_mem_take hc)
  | _ => simp [sliceD] at e

/-! ### calls of built-ins -/
theorem call1 {T : Tb} {F : Hp} {xs : List V} {d : D} (r : RepL T F xs [d]) : ∃ x, xs = [x] ∧ Rep T F x d := by
  obtain ⟨v, r', rfl, h1, h2⟩ := r.inv2
  exact ⟨v, by rw [h2.nil_inv], h1⟩
theorem call2 {T : Tb} {F : Hp} {xs : List V} {d e : D} (r : RepL T F xs [d, e]) : ∃ x y, xs = [x, y] ∧ Rep T F x d ∧ Rep T F y e := by
  obtain ⟨v, r', rfl, h1, h2⟩ := r.inv2
  obtain ⟨y, rfl, h3⟩ := call1 h2
  exact ⟨v, y, rfl, h1, h3⟩
def one1 (o : D → Option D) : List D → Option D
  | [d] => o d
  | _ => none
theorem cl1 {T : Tb} {r : List V → Hp → VK → Prop} {od : List D → Option D} (he : ∀ ds d, od ds = some d → ∃ d1, ds = [d1]) (h : ∀ F H x d1 d Q, Sub F H → Rep T F x d1 → od [d1] = some d → (∀ v F' H', Grow F H F' H' → Rep T F' v d → Q v H') → r [x] H Q) : CallOk T r od := by
  intro F H xs ds d Q s rr e k
  obtain ⟨d1, rfl⟩ := he ds d e
  obtain ⟨x, rfl, r1⟩ := call1 rr
  exact h F H x d1 d Q s r1 e k
theorem cl_len {T : Tb} : CallOk T (fun xs H Q => ∃ x n, xs = [x] ∧ LenV T.K x H n ∧ Q (.int n) H) lenD := by
  refine cl1 (fun ds d e => ?_) fun F H x d1 d Q s r e k => ?_
  · unfold lenD at e
    split at e <;> first | exact ⟨_, rfl⟩ | cases e
  · cases d1 with
    | lst l =>
      simp only [lenD, Option.some.injEq] at e; subst e
      obtain ⟨p, vs, rfl, e1, l1, q1⟩ := rep_lst r
      exact ⟨_, l.length, rfl, .inl ⟨vs, SqL.of (s _ _ e1), q1.length.symm⟩, k _ F H (.refl s) mk_int⟩
    | tup l =>
      simp only [lenD, Option.some.injEq] at e; subst e
      obtain ⟨p, vs, rfl, e1, l1, q1⟩ := rep_tup r
      exact ⟨_, l.length, rfl, .inr ⟨vs, SqT.of (s _ _ e1), q1.length.symm⟩, k _ F H (.refl s) mk_int⟩
    | str z =>
      simp only [lenD, Option.some.injEq] at e; subst e
      obtain ⟨rfl, l1, c1⟩ := rep_str r
      exact ⟨_, z.length, rfl, ⟨by rw [str_len, ← LIM_eq]; exact l1, str_len.symm⟩, k _ F H (.refl s) mk_int⟩
    | _ => simp [lenD] at e
theorem cl_abs {T : Tb} : CallOk T (fun xs H Q => ∃ i, xs = [.int i] ∧ Q (.int (if i < 0 then -i else i)) H) absD := by
  refine cl1 (fun ds d e => ?_) fun F H x d1 d Q s r e k => ?_
  · unfold absD at e
    split at e <;> first | exact ⟨_, rfl⟩ | cases e
  · cases d1 with
    | int i =>
      simp only [absD, Option.some.injEq] at e; subst e
      obtain rfl := rep_int r
      exact ⟨i, rfl, k _ F H (.refl s) mk_int⟩
    | _ => simp [absD] at e
theorem cl_int {T : Tb} : CallOk T (fun xs H Q => (∃ i, xs = [.int i] ∧ Q (.int i) H) ∨ ∃ k, xs = [.bl k] ∧ Q (.int (if k then 1 else 0)) H) intD := by
  refine cl1 (fun ds d e => ?_) fun F H x d1 d Q s r e k => ?_
  · unfold intD at e
    split at e <;> first | exact ⟨_, rfl⟩ | cases e
  · cases d1 with
    | int i =>
      simp only [intD, Option.some.injEq] at e; subst e
      obtain rfl := rep_int r
      exact .inl ⟨i, rfl, k _ F H (.refl s) mk_int⟩
    | bl b =>
      simp only [intD, Option.some.injEq] at e; subst e
      obtain rfl := rep_bl r
      exact .inr ⟨b, rfl, k _ F H (.refl s) mk_int⟩
    | _ => simp [intD] at e
theorem bls_rep {T : Tb} {F : Hp} : ∀ {l : List D} {vs : List V} {bs : List Bool}, RepL T F vs l → blsD l = some bs → vs = bs.map V.bl
  | [], vs, bs, r, e => by
    simp only [blsD, Option.some.injEq] at e; subst e
    exact r.nil_inv
  | d :: l, vs, bs, r, e => by
    obtain ⟨v, us, rfl, h1, h2⟩ := r.inv2
    cases d with
    | bl b =>
      simp only [blsD, Option.map_eq_some_iff] at e
      obtain ⟨bs', e', rfl⟩ := e
      rw [rep_bl h1, bls_rep h2 e']; rfl
    | _ => simp [blsD] at e
theorem ints_rep {T : Tb} {F : Hp} : ∀ {l : List D} {vs : List V} {bs : List Int}, RepL T F vs l → intsD l = some bs → vs = bs.map V.int
  | [], vs, bs, r, e => by
    simp only [intsD, Option.some.injEq] at e; subst e
    exact r.nil_inv
  | d :: l, vs, bs, r, e => by
    obtain ⟨v, us, rfl, h1, h2⟩ := r.inv2
    cases d with
    | int b =>
      simp only [intsD, Option.map_eq_some_iff] at e
      obtain ⟨bs', e', rfl⟩ := e
      rw [rep_int h1, ints_rep h2 e']; rfl
    | _ => simp [intsD] at e
theorem cl_all {T : Tb} : CallOk T (rAll T.K) allD := by
  refine cl1 (fun ds d e => ?_) fun F H x d1 d Q s r e k => ?_
  · unfold allD at e
    split at e <;> first | exact ⟨_, rfl⟩ | cases e
  · cases d1 with
    | lst l =>
      simp only [allD, Option.map_eq_some_iff] at e
      obtain ⟨bs, e', rfl⟩ := e
      obtain ⟨p, vs, rfl, e1, l1, q1⟩ := rep_lst r
      obtain rfl := bls_rep q1 e'
      exact ⟨p, bs, rfl, SqL.of (s _ _ e1), k _ F H (.refl s) mk_bl⟩
    | _ => simp [allD] at e
theorem cl_any {T : Tb} : CallOk T (rAny T.K) anyD := by
  refine cl1 (fun ds d e => ?_) fun F H x d1 d Q s r e k => ?_
  · unfold anyD at e
    split at e <;> first | exact ⟨_, rfl⟩ | cases e
  · cases d1 with
    | lst l =>
      simp only [anyD, Option.map_eq_some_iff] at e
      obtain ⟨bs, e', rfl⟩ := e
      obtain ⟨p, vs, rfl, e1, l1, q1⟩ := rep_lst r
      obtain rfl := bls_rep q1 e'
      exact ⟨p, bs, rfl, SqL.of (s _ _ e1), k _ F H (.refl s) mk_bl⟩
    | _ => simp [anyD] at e
/-- sum of a tuple of ints -/
theorem cr_sumT {X : Cx} (hc : X.calm = true) : CallR X (.builtin "sum") (fun vs H Q => ∃ (a : Addr) (ns : List Int), vs = [V.ref a] ∧ SqT X.K H a (ns.map V.int) ∧ Q (.int ns.sum) H) := by
  intro pins s σ H xs us Q I r h
  obtain ⟨a, ns, rfl, hq, q⟩ := h
  obtain ⟨u, rfl, ru⟩ := vals1 r
  cases ru
  obtain ⟨its, rv, ht, hz⟩ := I.tuple hq
  have hi := rv.ints
  obtain ⟨xs, hx⟩ := hi.allInts.items
  have hn : numsOf its.toArray.toList = ns := by rw [show its.toArray.toList = its from rfl, hi.numsOf]
  have ht' : s.heap.IsTuple a its.toArray := ht
  rw [hx] at ht' hn
  rw [nums_intItems] at hn
  refine PySem.W.ktm_sumG (I.ok.hd hc) ht' fun h' tk t' hk => ?_
  rw [PySem.preSum_eq, List.take_of_length_le (by simp), hn]
  exact ⟨.int ns.sum, H, I.kept (t' := tk) hk, ⟨t', rfl⟩, q⟩
def rSumA (K : PySem.W.Frag) : List V → Hp → VK → Prop := fun vs H Q => rSum K vs H Q ∨ ∃ (a : Addr) (ns : List Int), vs = [V.ref a] ∧ SqT K H a (ns.map V.int) ∧ Q (.int ns.sum) H
theorem cr_sumA {X : Cx} (hc : X.calm = true) : CallR X (.builtin "sum") (rSumA X.K) := CallR.or (cr_sum hc) (cr_sumT hc)
theorem cl_sum {T : Tb} : CallOk T (rSumA T.K) sumD := by
  refine cl1 (fun ds d e => ?_) fun F H x d1 d Q s r e k => ?_
  · unfold sumD at e
    split at e <;> first | exact ⟨_, rfl⟩ | cases e
  · cases d1 with
    | lst l =>
      simp only [sumD, Option.map_eq_some_iff] at e
      obtain ⟨bs, e', rfl⟩ := e
      obtain ⟨p, vs, rfl, e1, l1, q1⟩ := rep_lst r
      obtain rfl := ints_rep q1 e'
      exact .inl ⟨p, bs, rfl, SqL.of (s _ _ e1), k _ F H (.refl s) mk_int⟩
    | tup l =>
      simp only [sumD, Option.map_eq_some_iff] at e
      obtain ⟨bs, e', rfl⟩ := e
      obtain ⟨p, vs, rfl, e1, l1, q1⟩ := rep_tup r
      obtain rfl := ints_rep q1 e'
      exact .inr ⟨p, bs, rfl, SqT.of (s _ _ e1), k _ F H (.refl s) mk_int⟩
    | _ => simp [sumD] at e
def rTupleA (K : PySem.W.Frag) : List V → Hp → VK → Prop := fun xs H Q => ∃ p ys, xs = [.ref p] ∧ ((SqL K H p ys ∧ ∀ l, H l = none → Q (.ref l) (upd H l (.tup ys))) ∨ (SqT K H p ys ∧ Q (.ref p) H))
theorem cl_tuple {T : Tb} : CallOk T (rTupleA T.K) tupleD := by
  refine cl1 (fun ds d e => ?_) fun F H x d1 d Q s r e k => ?_
  · unfold tupleD at e
    split at e <;> first | exact ⟨_, rfl⟩ | cases e
  · cases d1 with
    | lst l =>
      simp only [tupleD, Option.some.injEq] at e; subst e
      obtain ⟨p, vs, rfl, e1, l1, q1⟩ := rep_lst r
      refine ⟨p, vs, rfl, .inl ⟨SqL.of (s _ _ e1), fun t nt => ?_⟩⟩
      obtain ⟨g1, g2⟩ := new_tup (T := T) s nt l1 q1
      exact k _ _ _ g1 g2
    | tup l =>
      simp only [tupleD, Option.some.injEq] at e; subst e
      obtain ⟨p, vs, rfl, e1, l1, q1⟩ := rep_tup r
      exact ⟨p, vs, rfl, .inr ⟨SqT.of (s _ _ e1), k _ F H (.refl s) r⟩⟩
    | _ => simp [tupleD] at e
def rListA (K : PySem.W.Frag) : List V → Hp → VK → Prop := fun xs H Q => ∃ p ys, xs = [.ref p] ∧ (SqL K H p ys ∨ SqT K H p ys) ∧ ∀ l, H l = none → Q (.ref l) (upd H l (.lst ys))
theorem cl_list {T : Tb} : CallOk T (rListA T.K) listD := by
  refine cl1 (fun ds d e => ?_) fun F H x d1 d Q s r e k => ?_
  · unfold listD at e
    split at e <;> first | exact ⟨_, rfl⟩ | cases e
  · cases d1 with
    | lst l =>
      simp only [listD, Option.some.injEq] at e; subst e
      obtain ⟨p, vs, rfl, e1, l1, q1⟩ := rep_lst r
      refine ⟨p, vs, rfl, .inl (SqL.of (s _ _ e1)), fun t nt => ?_⟩
      obtain ⟨g1, g2⟩ := new_lst (T := T) s nt l1 q1
      exact k _ _ _ g1 g2
    | tup l =>
      simp only [listD, Option.some.injEq] at e; subst e
      obtain ⟨p, vs, rfl, e1, l1, q1⟩ := rep_tup r
      refine ⟨p, vs, rfl, .inr (SqT.of (s _ _ e1)), fun t nt => ?_⟩
      obtain ⟨g1, g2⟩ := new_lst (T := T) s nt l1 q1
      exact k _ _ _ g1 g2
    | _ => simp [listD] at e
/-! isinstance with a built-in kind -/
def kdT : Kd → String
  | .int => "int" | .bool => "bool" | .str => "str" | .tuple => "tuple" | .list => "list"
def rKd (K : PySem.W.Frag) (k : Kd) : V → Hp → VK → Prop := fun x H Q => rIsi K [x, .ty (kdT k)] H Q
theorem un_kd {T : Tb} (kd : Kd) : UnOk T (rKd T.K kd) (isKd kd) := by
  intro F H x d1 d Q s r e k
  have go : ∀ (t : String) (b : Bool), TyOf T.K H x (.type t) → kitB t (kdT kd) = some b → d = .bl b → rKd T.K kd x H Q := fun t b ty hk hd => by
    subst hd
    exact ⟨x, .ty (kdT kd), .type t, .type (kdT kd), b, rfl, .ty _, .base ty, kit_ty hk, k _ F H (.refl s) mk_bl⟩
  cases d1 with
  | non => obtain rfl := rep_non r; cases kd <;> (cases e; exact go "NoneType" false .non (by decide +kernel) rfl)
  | bl b =>
    obtain rfl := rep_bl r
    cases kd with
    | int => cases e; exact go "bool" true (.bl b) (by decide +kernel) rfl
    | bool => cases e; exact go "bool" true (.bl b) (by decide +kernel) rfl
    | str => cases e; exact go "bool" false (.bl b) (by decide +kernel) rfl
    | tuple => cases e; exact go "bool" false (.bl b) (by decide +kernel) rfl
    | list => cases e; exact go "bool" false (.bl b) (by decide +kernel) rfl
  | int i =>
    obtain rfl := rep_int r
    cases kd with
    | int => cases e; exact go "int" true (.int i) (by decide +kernel) rfl
    | bool => cases e; exact go "int" false (.int i) (by decide +kernel) rfl
    | str => cases e; exact go "int" false (.int i) (by decide +kernel) rfl
    | tuple => cases e; exact go "int" false (.int i) (by decide +kernel) rfl
    | list => cases e; exact go "int" false (.int i) (by decide +kernel) rfl
  | str z =>
    obtain ⟨rfl, _⟩ := rep_str r
    cases kd with
    | int => cases e; exact go "str" false (.str _) (by decide +kernel) rfl
    | bool => cases e; exact go "str" false (.str _) (by decide +kernel) rfl
    | str => cases e; exact go "str" true (.str _) (by decide +kernel) rfl
    | tuple => cases e; exact go "str" false (.str _) (by decide +kernel) rfl
    | list => cases e; exact go "str" false (.str _) (by decide +kernel) rfl
  | tup l =>
    obtain ⟨p, vs, rfl, e1, _⟩ := rep_tup r
    cases kd with
    | int => cases e; exact go "tuple" false (.tup (s _ _ e1)) (by decide +kernel) rfl
    | bool => cases e; exact go "tuple" false (.tup (s _ _ e1)) (by decide +kernel) rfl
    | str => cases e; exact go "tuple" false (.tup (s _ _ e1)) (by decide +kernel) rfl
    | tuple => cases e; exact go "tuple" true (.tup (s _ _ e1)) (by decide +kernel) rfl
    | list => cases e; exact go "tuple" false (.tup (s _ _ e1)) (by decide +kernel) rfl
  | lst l =>
    obtain ⟨p, vs, rfl, e1, _⟩ := rep_lst r
    cases kd with
    | int => cases e; exact go "list" false (.lst (s _ _ e1)) (by decide +kernel) rfl
    | bool => cases e; exact go "list" false (.lst (s _ _ e1)) (by decide +kernel) rfl
    | str => cases e; exact go "list" false (.lst (s _ _ e1)) (by decide +kernel) rfl
    | tuple => cases e; exact go "list" false (.lst (s _ _ e1)) (by decide +kernel) rfl
    | list => cases e; exact go "list" true (.lst (s _ _ e1)) (by decide +kernel) rfl
  | _ => cases kd <;> simp [isKd] at e

/-! ### expressions -/
section
variable {X : Cx} {T : Tb} {Z : Act} {W : WX} {own : List Nat} {e a b c : Expr} {es : List Expr} {fa fb fc : PP.X} {pos : Pos}
theorem un_imp {r : V → Hp → VK → Prop} {od : D → Option D} (hr : UnOk T r od) {σ : St} {H : Hp} {Q : VK} (h : tP T Z W own (xUn od fa) σ H Q) : tP T Z W own fa σ H fun x H1 => r x H1 Q := by
  obtain ⟨kp, F, ρ, g, c, q⟩ := h
  exact tP.then c q.bind fun d1 g1 v1 F1 H1 q1 c1 s1 r1 => by
    obtain ⟨d, e, q3⟩ := rQ.ofO (H := H) q1
    exact hr F1 H1 v1 d1 d Q c1.core.sub r1 e fun v F' H' gr rv => q3 v F' H' (c1.grow gr) (s1.trans gr.ff) rv
theorem bin_imp {r : R2} {od : D → D → Option D} (hr : BinOk T r od) {σ : St} {H : Hp} {Q : VK} (h : tP T Z W own (xBin od fa fb) σ H Q) : tOp r (tP T Z W own fa) (tP T Z W own fb) σ H Q := by
  obtain ⟨kp, F, ρ, g, c, q⟩ := h
  exact tP.then c q.bind fun d1 g1 v1 F1 H1 q1 c1 s1 r1 => tP.then c1 (q1.bind.up s1 fun _ _ z => z) fun d2 g2 v2 F2 H2 q2 c2 s2 r2 => by
    obtain ⟨d, e, q3⟩ := rQ.ofO (H := H) q2
    exact hr F2 H2 v1 v2 d1 d2 d Q c2.core.sub (Rep.mono s2 _ _ r1) r2 e fun v F' H' gr rv => q3 v F' H' (c2.grow gr) ((s1.trans s2).trans gr.ff) rv
theorem x_un {op : UnaryOp} {r : V → Hp → VK → Prop} {od : D → Option D} (ho : UnR X (unaryOp op) r) (hr : UnOk T r od) (ha : XE X T Z W own a fa) : XE X T Z W own (.UnaryOp op a pos) (xUn od fa) :=
  PE.imp (pe_un ho ha) fun σ H Q h => un_imp hr h
theorem un_neg' : UnOk T (rU fun i => .int (-i)) negD := by
  intro F H x d1 d Q s r e k
  cases d1 with
  | int i =>
    simp only [negD, Option.some.injEq] at e; subst e
    obtain rfl := rep_int r
    exact ⟨i, rfl, k _ F H (.refl s) mk_int⟩
  | _ => simp [negD] at e
theorem x_neg (ha : XE X T Z W own a fa) : XE X T Z W own (.UnaryOp .USub a pos) (xUn negD fa) := x_un un_neg un_neg' ha
theorem x_cmp {op : CmpOp} {r : R2} {od : D → D → Option D} (ho : OpR X (compareOp op) r) (hr : BinOk T r od) (hm : behindInMarks op b = false) (ha : XE X T Z W own a fa) (hb : XE X T Z W own b fb) : XE X T Z W own (.Compare a [op] [b] pos) (xBin od fa fb) :=
  PE.imp (pe_cmpR ho ha hb hm) fun σ H Q h => bin_imp hr h
/-- what gives a truth, as a test -/
theorem tv_imp {t : TE} {f : PP.X} (i : ∀ σ H Q, tP T Z W own f σ H Q → t σ H Q) {σ : St} {H : Hp} {Q : Bool → Hp → Prop} (h : tPT T Z W own (tV f) σ H Q) : t σ H fun x H1 => ∃ k, x = .bl k ∧ Q k H1 := by
  obtain ⟨kp, F, ρ, g, c, q⟩ := h
  exact i _ _ _ (tP.then c q.bind fun d1 g1 v1 F1 H1 q1 c1 s1 r1 => by
    cases d1 with
    | bl b =>
      obtain rfl := rep_bl r1
      exact ⟨b, rfl, q1 F1 H1 c1 s1⟩
    | _ => exact q1.elim)
theorem xt_cmp {op : CmpOp} {r : R2} {od : D → D → Option D} (ho : OpR X (compareOp op) r) (hr : BinOk T r od) (hm : behindInMarks op b = false) (ha : XE X T Z W own a fa) (hb : XE X T Z W own b fb) : XTt X T Z W own (.Compare a [op] [b] pos) (tV (xBin od fa fb)) :=
  PT.imp (pt_cmpR ho ha hb hm) fun σ H Q h => tv_imp (fun _ _ _ h => bin_imp hr h) h
theorem xt_val {f : PP.X} (h : XE X T Z W own e f) (he : ∀ whole, isTrue e X.env whole = (do let v ← whole; standAt e.pos; holding [v] (truthy v)) := by intro _; rfl) : XTt X T Z W own e (tV f) :=
  PT.imp (pt_val h he) fun σ H Q h => tv_imp (fun _ _ _ h => h) h
/-- is None -/
theorem x_isN {j : Nat} {pos' : Pos} (ha : XE X T Z W own a fa) : XE X T Z W own (.Compare a [.Is] [.Constant .none j pos'] pos) (xUn isNonD fa) :=
  PE.imp (pe_cmp (pc_isN ha)) fun σ H Q ⟨kp, F, ρ, g, c, q⟩ => tP.then c q.bind fun d1 g1 v1 F1 H1 q1 c1 s1 r1 => by
    rw [isN_V r1]
    cases d1 <;> exact q1 _ F1 H1 c1 s1 mk_bl
theorem x_notN {j : Nat} {pos' : Pos} (ha : XE X T Z W own a fa) : XE X T Z W own (.Compare a [.IsNot] [.Constant .none j pos'] pos) (xUn notNonD fa) :=
  PE.imp (pe_cmp (pc_notN ha)) fun σ H Q ⟨kp, F, ρ, g, c, q⟩ => tP.then c q.bind fun d1 g1 v1 F1 H1 q1 c1 s1 r1 => by
    rw [isN_V r1]
    cases d1 <;> exact q1 _ F1 H1 c1 s1 mk_bl
theorem xt_isN {j : Nat} {pos' : Pos} (ha : XE X T Z W own a fa) : XTt X T Z W own (.Compare a [.Is] [.Constant .none j pos'] pos) (tV (xUn isNonD fa)) :=
  PT.imp (pt_cmp (pc_isN ha)) fun σ H Q h => tv_imp (f := xUn isNonD fa) (t := tIsN (tP T Z W own fa)) (fun σ H Q ⟨kp, F, ρ, g, c, q⟩ => tP.then c q.bind fun d1 g1 v1 F1 H1 q1 c1 s1 r1 => by
    rw [isN_V r1]
    cases d1 <;> exact q1 _ F1 H1 c1 s1 mk_bl) h
theorem xt_notN {j : Nat} {pos' : Pos} (ha : XE X T Z W own a fa) : XTt X T Z W own (.Compare a [.IsNot] [.Constant .none j pos'] pos) (tV (xUn notNonD fa)) :=
  PT.imp (pt_cmp (pc_notN ha)) fun σ H Q h => tv_imp (f := xUn notNonD fa) (t := tNotN (tP T Z W own fa)) (fun σ H Q ⟨kp, F, ρ, g, c, q⟩ => tP.then c q.bind fun d1 g1 v1 F1 H1 q1 c1 s1 r1 => by
    rw [isN_V r1]
    cases d1 <;> exact q1 _ F1 H1 c1 s1 mk_bl) h
/-- a op b op' c -/
theorem chain_imp {r r' : R2} {od od' : D → D → Option D} (hr : BinOk T r od) (hr' : BinOk T r' od') {σ : St} {H : Hp} {Q : VK} (h : tP T Z W own (xChain od od' fa fb fc) σ H Q) : tChain r r' (tP T Z W own fa) (tP T Z W own fb) (tP T Z W own fc) σ H Q := by
  obtain ⟨kp, F, ρ, g, c, q⟩ := h
  refine tP.then c q.bind fun d1 g1 v1 F1 H1 q1 c1 s1 r1 => tP.then c1 (q1.bind.up s1 fun _ _ z => z) fun d2 g2 v2 F2 H2 q2 c2 s2 r2 => ?_
  have r1' := Rep.mono s2 _ _ r1
  cases ho : od d1 d2 with
  | none => rw [ho] at q2; exact q2.elim
  | some d =>
    rw [ho] at q2
    cases d with
    | bl k =>
      refine hr F2 H2 v1 v2 d1 d2 _ _ c2.core.sub r1' r2 ho fun v F3 H3 gr rv => ?_
      obtain rfl := rep_bl rv
      have c3 := c2.grow gr
      cases k with
      | true =>
        refine ⟨true, rfl, ?_⟩
        rw [if_pos rfl]
        refine tP.then c3 (q2.bind.up ((s1.trans s2).trans gr.ff) fun _ _ z => z) fun d3 g3 v3 F4 H4 q3 c4 s4 r3 => ?_
        obtain ⟨d, e, q4⟩ := rQ.ofO (H := H) q3
        exact hr' F4 H4 v2 v3 d2 d3 d Q c4.core.sub (Rep.mono (gr.ff.trans s4) _ _ r2) r3 e fun v F' H' gr' rv => q4 v F' H' (c4.grow gr') ((((s1.trans s2).trans gr.ff).trans s4).trans gr'.ff) rv
      | false =>
        refine ⟨false, rfl, ?_⟩
        rw [if_neg Bool.false_ne_true]
        exact q2 _ F3 H3 c3 ((s1.trans s2).trans gr.ff) mk_bl
    | _ => exact q2.elim
theorem x_chain {op op' : CmpOp} {r r' : R2} {od od' : D → D → Option D} (ho : OpR X (compareOp op) r) (ho' : OpR X (compareOp op') r') (hr : BinOk T r od) (hr' : BinOk T r' od') (ha : XE X T Z W own a fa) (hb : XE X T Z W own b fb) (hc : XE X T Z W own c fc)
    (hm : lastMarks [op, op'] [b, c] = false := by with_unfolding_all rfl) : XE X T Z W own (.Compare a [op, op'] [b, c] pos) (xChain od od' fa fb fc) :=
  PE.imp (pe_chain ho ho' ha hb hc hm) fun σ H Q h => chain_imp hr hr' h
theorem xt_chain {op op' : CmpOp} {r r' : R2} {od od' : D → D → Option D} (ho : OpR X (compareOp op) r) (ho' : OpR X (compareOp op') r') (hr : BinOk T r od) (hr' : BinOk T r' od') (ha : XE X T Z W own a fa) (hb : XE X T Z W own b fb) (hc : XE X T Z W own c fc)
    (hm : lastMarks [op, op'] [b, c] = false := by with_unfolding_all rfl) : XTt X T Z W own (.Compare a [op, op'] [b, c] pos) (tV (xChain od od' fa fb fc)) :=
  PT.imp (pt_chain ho ho' ha hb hc hm) fun σ H Q h => tv_imp (fun _ _ _ h => chain_imp hr hr' h) h
end
end PP

set_option Elab.async false
set_option linter.all false
set_option maxRecDepth 100000
set_option maxHeartbeats 4000000
namespace PP
open PySem L2

section
variable {X : Cx} {T : Tb} {Z : Act} {W : WX} {own : List Nat} {e a b c : Expr} {es rest : List Expr} {fa fb fc : PP.X} {ta tb : XT} {pos : Pos}
theorem rep_bl_inv {F : Hp} {v : V} {k : Bool} (h : Rep T F v (.bl k)) : v = .bl k := rep_bl h
/-- and, or of truths as values -/
theorem x_one {op : BoolOp} (h : XE X T Z W own a fa) : XE X T Z W own (.BoolOp op [a] pos) fa := pe_one h
theorem x_and (ha : XE X T Z W own a fa) (hb : XE X T Z W own (.BoolOp .And (b :: rest) pos) fb) : XE X T Z W own (.BoolOp .And (a :: b :: rest) pos) (xAnd fa fb) :=
  PE.imp (pe_and ha hb) fun σ H Q ⟨kp, F, ρ, g, c, q⟩ => tP.then c q.bind fun d1 g1 v1 F1 H1 q1 c1 s1 r1 => by
    cases d1 with
    | bl k =>
      obtain rfl := rep_bl r1
      refine ⟨k, rfl, ?_⟩
      cases k with
      | true =>
        rw [if_pos rfl]
        exact ⟨kp, F1, ρ, g1, c1, q1.up s1 (pD.up s1)⟩
      | false =>
        rw [if_neg Bool.false_ne_true]
        exact q1 _ F1 H1 c1 s1 mk_bl
    | _ => exact q1.elim
theorem x_or (ha : XE X T Z W own a fa) (hb : XE X T Z W own (.BoolOp .Or (b :: rest) pos) fb) : XE X T Z W own (.BoolOp .Or (a :: b :: rest) pos) (xOr fa fb) :=
  PE.imp (pe_or ha hb) fun σ H Q ⟨kp, F, ρ, g, c, q⟩ => tP.then c q.bind fun d1 g1 v1 F1 H1 q1 c1 s1 r1 => by
    cases d1 with
    | bl k =>
      obtain rfl := rep_bl r1
      refine ⟨k, rfl, ?_⟩
      cases k with
      | false =>
        rw [if_neg Bool.false_ne_true]
        exact ⟨kp, F1, ρ, g1, c1, q1.up s1 (pD.up s1)⟩
      | true =>
        rw [if_pos rfl]
        exact q1 _ F1 H1 c1 s1 mk_bl
    | _ => exact q1.elim
theorem x_not (ha : XE X T Z W own a fa) : XE X T Z W own (.UnaryOp .Not a pos) (xNot fa) :=
  PE.imp (pe_not ha) fun σ H Q ⟨kp, F, ρ, g, c, q⟩ => tP.then c q.bind fun d1 g1 v1 F1 H1 q1 c1 s1 r1 => by
    cases d1 with
    | bl k =>
      obtain rfl := rep_bl r1
      exact ⟨k, rfl, q1 _ F1 H1 c1 s1 mk_bl⟩
    | _ => exact q1.elim
/-! tests -/
def XW (X : Cx) (T : Tb) (Z : Act) (W : WX) (own : List Nat) (e : Expr) (f : XT) : Prop := PW X e (tPT T Z W own f)
theorem PW.imp {t t' : TT} (h : PW X e t) (i : ∀ σ H Q, t' σ H Q → t σ H Q) : PW X e t' := ⟨fun wh pins s σ H Q I w => h.run wh pins s σ H Q I (i σ H Q w)⟩
theorem XW.t {f : XT} (h : XW X T Z W own e f) : XTt X T Z W own e f := L2.PW.pt h
theorem tPT.then {f : XT} {kp F H : Hp} {σ : St} {ρ : Env} {g : G} {post : Bool → G → Prop} {Q : Bool → Hp → Prop} (c : Rel T Z own kp F H σ ρ g) (h : rQ T Z W kp F σ ρ post (f ρ g))
    (n : ∀ b g1 F1 H1, post b g1 → Rel T Z own kp F1 H1 σ ρ g1 → Sub F F1 → Q b H1) : tPT T Z W own f σ H Q :=
  ⟨kp, F, ρ, g, c, h.imp fun d g1 q F1 H1 c1 s1 => n d g1 F1 H1 q c1 s1⟩
theorem xw_and1 (ha : XTt X T Z W own a ta) : XW X T Z W own (.BoolOp .And [a] pos) ta := pw_and1 ha
theorem xw_or1 (ha : XTt X T Z W own a ta) : XW X T Z W own (.BoolOp .Or [a] pos) ta := pw_or1 ha
theorem xw_and (ha : XTt X T Z W own a ta) (hb : XW X T Z W own (.BoolOp .And (b :: rest) pos) tb) : XW X T Z W own (.BoolOp .And (a :: b :: rest) pos) (PP.tAnd ta tb) :=
  PW.imp (pw_and ha hb) fun σ H Q ⟨kp, F, ρ, g, c, q⟩ => tPT.then c q.bind fun k g1 F1 H1 q1 c1 s1 => by
    cases k with
    | true =>
      rw [if_pos rfl]
      exact ⟨kp, F1, ρ, g1, c1, q1.up s1 (pB.up s1)⟩
    | false =>
      rw [if_neg Bool.false_ne_true]
      exact q1 F1 H1 c1 s1
theorem xw_or (ha : XTt X T Z W own a ta) (hb : XW X T Z W own (.BoolOp .Or (b :: rest) pos) tb) : XW X T Z W own (.BoolOp .Or (a :: b :: rest) pos) (PP.tOr ta tb) :=
  PW.imp (pw_or ha hb) fun σ H Q ⟨kp, F, ρ, g, c, q⟩ => tPT.then c q.bind fun k g1 F1 H1 q1 c1 s1 => by
    cases k with
    | false =>
      rw [if_neg Bool.false_ne_true]
      exact ⟨kp, F1, ρ, g1, c1, q1.up s1 (pB.up s1)⟩
    | true =>
      rw [if_pos rfl]
      exact q1 F1 H1 c1 s1
theorem xt_not (ha : XTt X T Z W own a ta) : XTt X T Z W own (.UnaryOp .Not a pos) (PP.tNot ta) :=
  PT.imp (pt_not ha) fun σ H Q ⟨kp, F, ρ, g, c, q⟩ => tPT.then c q.bind fun k g1 F1 H1 q1 c1 s1 => q1 F1 H1 c1 s1
theorem x_if {t : Expr} (ht : XTt X T Z W own t ta) (ha : XE X T Z W own a fa) (hb : XE X T Z W own b fb) : XE X T Z W own (.IfExp t a b pos) (xIf ta fa fb) :=
  PE.imp (pe_ifExp ht ha hb) fun σ H Q ⟨kp, F, ρ, g, c, q⟩ => tPT.then c q.bind fun k g1 F1 H1 q1 c1 s1 => by
    cases k with
    | true =>
      rw [if_pos rfl]
      exact ⟨kp, F1, ρ, g1, c1, q1.up s1 (pD.up s1)⟩
    | false =>
      rw [if_neg Bool.false_ne_true]
      exact ⟨kp, F1, ρ, g1, c1, q1.up s1 (pD.up s1)⟩
/-! constants -/
theorem x_int {i : Int} {j : Nat} : XE X T Z W own (.Constant (.int i) j pos) (xC (.int i)) := x_C pe_int fun _ => mk_int
theorem x_bl {i : Bool} {j : Nat} : XE X T Z W own (.Constant (.bool i) j pos) (xC (.bl i)) := x_C pe_bl fun _ => mk_bl
theorem x_non {j : Nat} : XE X T Z W own (.Constant .none j pos) (xC .non) := x_C pe_non fun _ => mk_non
def strOkL (s : List Nat) : Bool := decide (s.length ≤ 1000) && s.all fun c => decide (c < 1114112)
theorem x_str {x : Str} {j : Nat} (s : List Nat) (h : x = ⟨s.toArray⟩ := by decide +kernel) (hs : strOkL s = true := by decide +kernel) : XE X T Z W own (.Constant (.str x) j pos) (xC (.str s)) := by
  subst h
  simp only [strOkL, Bool.and_eq_true, decide_eq_true_eq, List.all_eq_true] at hs
  exact x_C pe_str fun _ => mk_str (by simp only [LIM]; omega) hs.2
/-- a global text -/
theorem x_gstr {x : Str} {u : Value} (s : List Nat) (hg : Gl X x) (hm : X.mg x = some u) (hu : ∃ t, u = Value.str ⟨s.toArray⟩ t) (hs : strOkL s = true := by decide +kernel) (hd : (x == ("__debug__" : Str)) = false := by decide) : XE X T Z W own (.Name x pos) (xC (.str s)) := by
  simp only [strOkL, Bool.and_eq_true, decide_eq_true_eq, List.all_eq_true] at hs
  exact x_C (pe_glob (v := .str ⟨s.toArray⟩) hg hm hu hd) fun _ => mk_str (by simp only [LIM]; omega) hs.2
theorem x_gint {x : Str} {u : Value} (i : Int) (hg : Gl X x) (hm : X.mg x = some u) (hu : ∃ t, u = Value.int i t) (hd : (x == ("__debug__" : Str)) = false := by decide) : XE X T Z W own (.Name x pos) (xC (.int i)) :=
  x_C (pe_glob (v := .int i) hg hm hu hd) fun _ => mk_int
/-- a def as a value -/
theorem x_gfn {x : Str} {f : Addr} (n : Nat) (hT : T.fnA n = some f) (hg : Gl X x) (hm : X.mg x = some (.ref f)) (hd : (x == ("__debug__" : Str)) = false := by decide) : XE X T Z W own (.Name x pos) (xC (.fn n)) :=
  x_C (pe_glob (v := .ref f) hg hm rfl hd) fun _ => by unfold Rep; exact ⟨f, rfl, hT⟩
/-! arguments, displays -/
theorem tPA.then {f : XA} {kp F H : Hp} {σ : St} {ρ : Env} {g : G} {post : List D → G → Prop} {Q : List V → Hp → Prop} (c : Rel T Z own kp F H σ ρ g) (h : rQ T Z W kp F σ ρ post (f ρ g))
    (n : ∀ ds g1 vs F1 H1, post ds g1 → Rel T Z own kp F1 H1 σ ρ g1 → Sub F F1 → RepL T F1 vs ds → Q vs H1) : tPA T Z W own f σ H Q :=
  ⟨kp, F, ρ, g, c, h.imp fun d g1 q vs F1 H1 c1 s1 r1 => n d g1 vs F1 H1 q c1 s1 r1⟩
theorem a_nil : XAs X T Z W own [] aNil := PA.imp pa_nil fun σ H Q ⟨kp, F, ρ, g, c, q⟩ => q [] F H c (.refl _) .nil
theorem a_cons {f : XA} (ha : XE X T Z W own e fa) (hr : XAs X T Z W own es f) (hs : starEach (e :: es) X.env = (false, eval e X.env) :: starEach es X.env := by rfl) : XAs X T Z W own (e :: es) (aCons fa f) :=
  PA.imp (pa_cons ha hr hs) fun σ H Q ⟨kp, F, ρ, g, c, q⟩ => tP.then c q.bind fun d1 g1 v1 F1 H1 q1 c1 s1 r1 => tPA.then c1 (q1.bind.up s1 fun _ _ z => z) fun ds g2 vs F2 H2 q2 c2 s2 r2 =>
    q2 (v1 :: vs) F2 H2 c2 (s1.trans s2) (.cons (Rep.mono s2 _ _ r1) r2)
theorem x_tup {f : XA} {k : Nat} (h : XAs X T Z W own es f) : XE X T Z W own (.Tuple es k pos) (xTup f) :=
  PE.imp (pe_tup h) fun σ H Q ⟨kp, F, ρ, g, c, q⟩ => tPA.then c q.bind fun ds g1 vs F1 H1 q1 c1 s1 r1 => by
    cases hl : decide (ds.length ≤ LIM) with
    | false => simp only [hl] at q1; exact q1.elim
    | true =>
      simp only [hl] at q1
      have hl' : vs.length ≤ LIM := by rw [r1.length]; exact of_decide_eq_true hl
      refine ⟨by rw [← LIM_eq]; exact hl', fun p np => ?_⟩
      obtain ⟨gr, rr⟩ := new_tup (T := T) c1.core.sub np hl' r1
      exact q1 _ _ _ (c1.grow gr) (s1.trans gr.ff) rr
/-! a new list -/
theorem tPF.of {f : PP.X} {kp F H : Hp} {σ : St} {ρ : Env} {g : G} {Q : VK} {ds : List D} {vs : List V} (c : Rel T Z own kp F H σ ρ g) (q : pF T Z own kp F σ ρ Q (.lst ds) g) (hl : vs.length ≤ LIM) (r : RepL T F vs ds) :
    ∀ p, H p = none → Q (.ref p) (upd H p (.lst vs)) := fun p np => by
  obtain ⟨ds', e, q⟩ := q
  cases e
  have gr : Grow F H F (upd H p (.lst vs)) := ⟨.refl _, (Sub.refl H).upd np, fun a o e => by rw [upd_ne (ne_of_none (c.core.sub a o e) np)]; exact c.core.sub a o e, fun a o e => .inl e⟩
  refine q p F _ (c.grow gr) (.refl _) ⟨c.core.sub.none np, c.core.kph.none np, c.core.atNone np, c.core.ne_gen np, vs, upd_same, hl, r⟩ fun j hj e => ?_
  obtain ⟨p', ds', h1, h2, w, h4⟩ := c.own_ j hj
  rw [h1] at e
  cases e
  obtain ⟨us, h5, _⟩ := w.at_
  rw [np] at h5; cases h5
theorem f_lst {f : XA} (h : XAs X T Z W own es f) : XF X T Z W own (.List es pos) (xLst f) :=
  PE.imp (pe_lst h) fun σ H Q ⟨kp, F, ρ, g, c, q⟩ => tPA.then c q.bind fun ds g1 vs F1 H1 q1 c1 s1 r1 => by
    cases hl : decide (ds.length ≤ LIM) with
    | false => simp only [hl] at q1; exact q1.elim
    | true =>
      simp only [hl] at q1
      have hl' : vs.length ≤ LIM := by rw [r1.length]; exact of_decide_eq_true hl
      exact ⟨by rw [← LIM_eq]; exact hl', tPF.of (f := xLst f) c1 (pF.up s1 _ _ q1) hl' r1⟩
/-- a list of one's own, handed on for good -/
theorem XF.toE {f : PP.X} (h : XF X T Z W own e f) (hd : ∀ ρ g d g', f ρ g = .ok d g' → ∃ l, d = .lst l) : XE X T Z W own e f :=
  PE.imp h fun σ H Q ⟨kp, F, ρ, g, c, q⟩ => ⟨kp, F, ρ, g, c, by
    cases hf : f ρ g with
    | ok d g' =>
      rw [hf] at q
      obtain ⟨l, rfl⟩ := hd _ _ _ _ hf
      refine ⟨l, rfl, fun p F' H' c' s' w n => ?_⟩
      obtain ⟨vs, e1, e2, e3⟩ := w.at_
      have sF : Sub F' (upd F' p (.lst vs)) := (Sub.refl F').upd w.f
      refine q _ (upd F' p (.lst vs)) H' ⟨c'.core.freeze e1 w.k w.h0 w.g, c'.len, fun i hi => ?_, fun i d hi he => ?_⟩ (s'.trans sF) (mk_lst upd_same e2 (RepL.mono sF _ _ e3))
      · obtain ⟨q', es', h1, h2, w', h4⟩ := c'.own_ i hi
        have hqp : q' ≠ p := fun z => n i hi (by rw [h1, z])
        refine ⟨q', es', h1, h2, ⟨by rw [upd_ne hqp]; exact w'.f, w'.k, w'.h0, w'.g, ?_⟩, h4⟩
        obtain ⟨us, z1, z2, z3⟩ := w'.at_
        exact ⟨us, z1, z2, RepL.mono sF _ _ z3⟩
      · obtain ⟨v, z1, z2⟩ := c'.shr i d hi he
        exact ⟨v, z1, Rep.mono sF _ _ z2⟩
    | ex e g' => rw [hf] at q; exact q
    | bad => rw [hf] at q; exact q⟩
theorem isLst_xLst {f : XA} : ∀ ρ g d g', xLst f ρ g = .ok d g' → ∃ l, d = .lst l := fun ρ g d g' h => by
  unfold xLst at h
  cases hf : f ρ g with
  | ok ds g1 =>
    rw [hf] at h
    simp only [R.bind_ok] at h
    split at h
    · cases h; exact ⟨_, rfl⟩
    · cases h
  | ex e g1 => rw [hf] at h; cases h
  | bad => rw [hf] at h; cases h
theorem x_lst {f : XA} (h : XAs X T Z W own es f) : XE X T Z W own (.List es pos) (xLst f) := XF.toE (f_lst h) isLst_xLst
/-! subscripts -/
theorem x_ix (ha : XE X T Z W own a fa) (hb : XE X T Z W own b fb) (hs : PlainIx b := by intro _ _; rfl) (hK : X.K = T.K := by rfl) : XE X T Z W own (.Subscript a b pos) (xBin ixD fa fb) := by
  have h1 : IxR X (rIx T.K) := by rw [← hK]; exact ix_seq
  exact PE.imp (pe_ix h1 ha hb hs) fun σ H Q h => bin_imp bin_ix h
/-- the parts of a slice -/
def partX (ρ : Env) (o : Option PP.X) (g : G) (k : Option Int → G → R D) : R D := match o with
    | none => k none g
    | some h => (h ρ g).bind fun b g' => match b with
      | .int i => k (some i) g'
      | _ => .bad
theorem xSlice_eq (f : PP.X) (lo hi : Option PP.X) (ρ : Env) (g : G) : xSlice f lo hi ρ g = (f ρ g).bind fun d g1 => partX ρ lo g1 fun l g2 => partX ρ hi g2 fun h g3 => PP.ofO (sliceD d l h) g3 := rfl
def XO (X : Cx) (T : Tb) (Z : Act) (W : WX) (own : List Nat) (e : Option Expr) (f : Option PP.X) : Prop :=
  PO X e (match f with | none => tNoPart | some f => tPart (tP T Z W own f))
theorem o_none : XO X T Z W own none none := po_none
theorem o_some {f : PP.X} (h : XE X T Z W own e f) : XO X T Z W own (some e) (some f) := po_some h
theorem part_imp {o : Option PP.X} {kp F H : Hp} {σ : St} {ρ : Env} {g : G} {k : Option Int → G → R D} {post : D → G → Prop} {Q : Option Int → Hp → Prop} (c : Rel T Z own kp F H σ ρ g) (h : rQ T Z W kp F σ ρ post (partX ρ o g k))
    (n : ∀ l g1 F1 H1, rQ T Z W kp F σ ρ post (k l g1) → Rel T Z own kp F1 H1 σ ρ g1 → Sub F F1 → Q l H1) : (match o with | none => tNoPart | some f => tPart (tP T Z W own f)) σ H Q := by
  cases o with
  | none => exact n none g F H h c (.refl _)
  | some f =>
    refine tP.then c (rQ.bind (k := fun b g' => match b with
      | .int i => k (some i) g'
      | _ => .bad) h) fun d1 g1 v1 F1 H1 q1 c1 s1 r1 => ?_
    cases d1 with
    | int i =>
      obtain rfl := rep_int r1
      exact ⟨i, rfl, n (some i) g1 F1 H1 q1 c1 s1⟩
    | _ => exact q1.elim
theorem x_slice {lo hi : Option Expr} {fl fh : Option PP.X} {p2 : Pos} (ha : XE X T Z W own a fa) (hl : XO X T Z W own lo fl) (hh : XO X T Z W own hi fh) (hK : X.K = T.K := by rfl) : XE X T Z W own (.Subscript a (.Slice lo hi none p2) pos) (xSlice fa fl fh) := by
  have h1 : SlR X (rSlQ T.K) := by rw [← hK]; exact sl_any
  refine PE.imp (pe_slice h1 ha hl hh) fun σ H Q ⟨kp, F, ρ, g, c, q⟩ => ?_
  rw [xSlice_eq] at q
  refine tP.then c q.bind fun d1 g1 v1 F1 H1 q1 c1 s1 r1 => ?_
  refine part_imp (W := W) (post := pD T Z own kp F σ ρ Q) c1 (q1.up s1 fun _ _ z => z) fun l g2 F2 H2 q2 c2 s2 => ?_
  refine part_imp (W := W) (post := pD T Z own kp F σ ρ Q) c2 (q2.up s2 fun _ _ z => z) fun h g3 F3 H3 q3 c3 s3 => ?_
  obtain ⟨d, e, q4⟩ := rQ.ofO (H := H) q3
  exact sl_ok c3.core.sub (Rep.mono (s2.trans s3) _ _ r1) e fun v F' H' gr rv => q4 v F' H' (c3.grow gr) (((s1.trans s2).trans s3).trans gr.ff) rv
end
end PP

set_option Elab.async false
set_option linter.all false
set_option maxRecDepth 100000
set_option maxHeartbeats 4000000
namespace PP
open PySem L2

/-! ### built-ins by name -/
section
variable {X : Cx} {T : Tb} {Z : Act} {W : WX} {own : List Nat} {e a b c : Expr} {es rest : List Expr} {fa fb fc : PP.X} {f : XA} {p pos : Pos} {x : Str}
theorem cb_imp {r : List V → Hp → VK → Prop} {od : List D → Option D} (hr : CallOk T r od) {σ : St} {H : Hp} {Q : VK} (h : tP T Z W own (xCB od f) σ H Q) : tCB r (tPA T Z W own f) σ H Q := by
  obtain ⟨kp, F, ρ, g, c, q⟩ := h
  exact tPA.then c q.bind fun ds g1 vs F1 H1 q1 c1 s1 r1 => by
    obtain ⟨d, e, q3⟩ := rQ.ofO (H := H) q1
    exact hr F1 H1 vs ds d Q c1.core.sub r1 e fun v F' H' gr rv => q3 v F' H' (c1.grow gr) (s1.trans gr.ff) rv
theorem x_cb {id : String} {r : List V → Hp → VK → Prop} {od : List D → Option D} (hc : CallR X (.builtin id) r) (hr : CallOk T r od) (hg : Gl X x) (hm : X.mg x = none) (hv : bootBuiltins x = some (.builtin id)) (ha : XAs X T Z W own (e :: es) f)
    (hn : x ≠ "__name__" := by decide) (hdb : (x == ("__debug__" : Str)) = false := by decide) (he : starEach (e :: es) X.env = (false, eval e X.env) :: starEach es X.env := by rfl) (hpl : (backTo pos (starEach es X.env)).any (·.1) = false := by rfl) :
    XE X T Z W own (.Call (.Name x p) (e :: es) [] pos) (xCB od f) := PE.imp (pe_callB hc hg hm hv ha hn hdb he hpl) fun σ H Q h => cb_imp hr h
theorem x_ct {id : String} {r : List V → Hp → VK → Prop} {od : List D → Option D} (hc : CallR X (.type id) r) (hr : CallOk T r od) (hg : Gl X x) (hm : X.mg x = none) (hv : bootBuiltins x = some (.type id)) (ha : XAs X T Z W own (e :: es) f)
    (hn : x ≠ "__name__" := by decide) (hdb : (x == ("__debug__" : Str)) = false := by decide) (he : starEach (e :: es) X.env = (false, eval e X.env) :: starEach es X.env := by rfl) (hpl : (backTo pos (starEach es X.env)).any (·.1) = false := by rfl) :
    XE X T Z W own (.Call (.Name x p) (e :: es) [] pos) (xCB od f) := PE.imp (pe_callTy hc hg hm hv ha hn hdb he hpl) fun σ H Q h => cb_imp hr h
/-- isinstance(e, T), T a built-in kind -/
theorem x_isi {y : Str} {py : Pos} (kd : Kd) (hg : Gl X x) (hm : X.mg x = none) (hv : bootBuiltins x = some (.builtin "isinstance")) (hg2 : Gl X y) (hm2 : X.mg y = none) (hv2 : bootBuiltins y = some (.type (kdT kd))) (ha : XE X T Z W own a fa) (hK : X.K = T.K := by rfl)
    (hn : x ≠ "__name__" := by decide) (hdb : (x == ("__debug__" : Str)) = false := by decide) (hn2 : y ≠ "__name__" := by decide) (hdb2 : (y == ("__debug__" : Str)) = false := by decide)
    (he : starEach [a, .Name y py] X.env = (false, eval a X.env) :: starEach [.Name y py] X.env := by rfl) (he2 : starEach [.Name y py] X.env = (false, eval (.Name y py) X.env) :: starEach [] X.env := by rfl) (hpl : (backTo pos (starEach [.Name y py] X.env)).any (·.1) = false := by rfl) :
    XE X T Z W own (.Call (.Name x p) [a, .Name y py] [] pos) (xUn (isKd kd) fa) := by
  have h1 : CallR X (.builtin "isinstance") (rIsi T.K) := by rw [← hK]; exact call_isi
  exact PE.imp (pe_callB h1 hg hm hv (pa_cons ha (pa_cons (pe_bltn (v := .ty (kdT kd)) hg2 hm2 hv2 rfl hn2 hdb2) pa_nil he2) he) hn hdb he hpl) fun σ H Q h => un_imp (un_kd kd) h
/-- list(..): a list of one's own -/
theorem f_list (hg : Gl X x) (hm : X.mg x = none) (hv : bootBuiltins x = some (.type "list")) (ha : XAs X T Z W own [e] f) (hK : X.K = T.K := by rfl)
    (hn : x ≠ "__name__" := by decide) (hdb : (x == ("__debug__" : Str)) = false := by decide) (he : starEach [e] X.env = (false, eval e X.env) :: starEach [] X.env := by rfl) (hpl : (backTo pos (starEach [] X.env)).any (·.1) = false := by rfl) :
    XF X T Z W own (.Call (.Name x p) [e] [] pos) (xCB listD f) := by
  have h1 : CallR X (.type "list") (rListA T.K) := by rw [← hK]; exact call_list_of
  refine PE.imp (pe_callTy h1 hg hm hv ha hn hdb he hpl) fun σ H Q ⟨kp, F, ρ, g, c, q⟩ => tPA.then c q.bind fun ds g1 vs F1 H1 q1 c1 s1 r1 => ?_
  cases hd : listD ds with
  | none => rw [hd] at q1; exact q1.elim
  | some d =>
    rw [hd] at q1
    unfold listD at hd
    split at hd
    · cases hd
      obtain ⟨y, rfl, ry⟩ := call1 r1
      obtain ⟨a, us, rfl, e1, l1, r2⟩ := rep_lst ry
      exact ⟨a, us, rfl, .inl (SqL.of (c1.core.sub _ _ e1)), tPF.of (f := xCB listD f) c1 (pF.up s1 _ _ q1) l1 r2⟩
    · cases hd
      obtain ⟨y, rfl, ry⟩ := call1 r1
      obtain ⟨a, us, rfl, e1, l1, r2⟩ := rep_tup ry
      exact ⟨a, us, rfl, .inr (SqT.of (c1.core.sub _ _ e1)), tPF.of (f := xCB listD f) c1 (pF.up s1 _ _ q1) l1 r2⟩
    · cases hd
end
/-! ### defs -/
/-- behind a call -/
structure Post (F0 H : Hp) (g g' : G) (F' H' : Hp) : Prop where
  ff : Sub F0 F'
  fh : Sub F' H'
  new : ∀ a o, F' a = some o → F0 a = some o ∨ H a = none
  keep : ∀ a o, H a = some o → (g.on = true → a ≠ g.at_) → H' a = some o
  on : g'.on = g.on
  at_ : g'.at_ = g.at_
  gen : g.on = true → H' g.at_ = some (.lst [.int g'.s, .int g'.t]) ∧ F' g.at_ = none ∧ GOk g'
/-- what a def promises: f on data -/
def spF (T : Tb) (f : FN) (n : Nat) : Sp := fun vs H Q E => ∃ F0 ds g, vs.length = n ∧ Sub F0 H ∧ (g.on = true → H g.at_ = some (.lst [.int g.s, .int g.t]) ∧ F0 g.at_ = none ∧ GOk g) ∧ RepL T F0 vs ds ∧
  match f ds g with
  | .ok d g' => ∀ v F' H', Post F0 H g g' F' H' → Rep T F' v d → Q v H'
  | .ex e g' => ∀ cls dd F' H', Post F0 H g g' F' H' → ExRep T F' cls dd e → E cls dd H'
  | .bad => False
section
variable {T : Tb} {Z : Act} {own : List Nat} {kp F H F' H' : Hp} {σ : St} {ρ : Env} {g g' : G}
theorem Core.post (c : Core Z kp F H g) (p : Post F H g g' F' H') : Core Z kp F' H' g' where
  sub := p.fh
  kph := fun a o e => p.keep a o (c.kph a o e) fun q z => by
    have := (c.gen (by rw [← c.on]; exact q)).2.2.1
    rw [← c.at_, ← z, e] at this; cases this
  kpf := fun a o e => by
    cases q : F' a with
    | none => rfl
    | some u =>
      rcases p.new a u q with z | z
      · rw [c.kpf a o e] at z; cases z
      · rw [c.kph a o e] at z; cases z
  base := fun a o e n => p.keep a o (c.base a o e n) fun q => by rw [c.at_]; exact n (by rw [← c.on]; exact q)
  new := fun a o e => by
    rcases p.new a o e with z | z
    · exact c.new a o z
    · exact .inr (c.atNone z)
  f0 := c.f0.trans p.ff
  fh0 := c.fh0
  on := p.on.trans c.on
  at_ := p.at_.trans c.at_
  gen := fun o => by
    have o' : g.on = true := by rw [c.on]; exact o
    obtain ⟨h1, h2, h3⟩ := p.gen o'
    rw [c.at_] at h1 h2
    exact ⟨h1, h2, (c.gen o).2.2.1, h3⟩
theorem Rel.post (c : Rel T Z own kp F H σ ρ g) (p : Post F H g g' F' H') : Rel T Z own kp F' H' σ ρ g' where
  core := c.core.post p
  len := c.len
  own_ := fun i hi => by
    obtain ⟨q, ds, h1, h2, w, h4⟩ := c.own_ i hi
    obtain ⟨vs, e1, e2, e3⟩ := w.at_
    refine ⟨q, ds, h1, h2, ⟨?_, w.k, w.h0, w.g, vs, p.keep _ _ e1 fun o => by rw [c.core.at_]; exact w.g (by rw [← c.core.on]; exact o), e2, RepL.mono p.ff _ _ e3⟩, h4⟩
    cases z : F' q with
    | none => rfl
    | some u =>
      rcases p.new _ u z with y | y
      · rw [w.f] at y; cases y
      · rw [e1] at y; cases y
  shr := fun i d hi e => by
    obtain ⟨v, h1, h2⟩ := c.shr i d hi e
    exact ⟨v, h1, Rep.mono p.ff _ _ h2⟩
theorem Rel.freezeAll (c : Rel T Z own kp F H σ ρ g) : ∃ F', Sub F F' ∧ Rel T Z [] kp F' H σ ρ g := c.freeze fun _ h => nomatch h
end
section
variable {X : Cx} {T : Tb} {Z : Act} {W : WX} {own : List Nat} {e : Expr} {es : List Expr} {fa : PP.X} {f : XA} {p pos : Pos} {x : Str} {k n : Nat} {fd : FuncData} {ps : List Str} {fA : Addr} {Fn : FN}
/-- from a call's reading -/
theorem call_sp {kp F H : Hp} {σ : St} {ρ : Env} {g : G} {Q : VK} {ds : List D} {vs : List V} (c : Rel T Z own kp F H σ ρ g) (r : RepL T F vs ds) (hl : vs.length = n) (h : rQ T Z W kp F σ ρ (pD T Z own kp F σ ρ Q) (Fn ds g)) :
    spF T Fn n vs H Q (WE W σ) := by
  refine ⟨F, ds, g, hl, c.core.sub, fun o => ?_, r, ?_⟩
  · have o' : Z.on = true := by rw [← c.core.on]; exact o
    obtain ⟨h1, h2, _, h4⟩ := c.core.gen o'
    rw [c.core.at_]
    exact ⟨h1, h2, h4⟩
  · cases hf : Fn ds g with
    | ok d g' =>
      rw [hf] at h
      exact fun v F' H' p rv => h v F' H' (c.post p) p.ff rv
    | ex e g' =>
      rw [hf] at h
      intro cls dd F' H' p re
      obtain ⟨F2, s2, c2⟩ := (c.post p).freezeAll
      exact h cls dd σ F2 H' c2 (p.ff.trans s2) (re.mono s2)
    | bad => rw [hf] at h; exact h
theorem x_call (F : FnOk X.prog X.w X.K X.mg X.base (L2.CX X.prog X.w) k fA fd ps (spF T Fn n)) (hl : es.length + 1 = n) (hr : Room k X.A) (hg : Gl X x) (hm : X.mg x = some (.ref fA)) (hk : PySem.W.keepIn X.K (.ref fA) = true) (hb : Binds X.K fd ps []) (tk : Takes X W)
    (ha : XAs X T Z W own (e :: es) f) (hlen : ∀ ρ g ds g', f ρ g = .ok ds g' → ds.length = n) (hdb : (x == ("__debug__" : Str)) = false := by decide) (he : starEach (e :: es) X.env = (false, eval e X.env) :: starEach es X.env := by rfl) (hpl : (backTo pos (starEach es X.env)).any (·.1) = false := by rfl) :
    XE X T Z W own (.Call (.Name x p) (e :: es) [] pos) (xCall Fn f) :=
  PE.imp (pe_callS F hr hg hm hk hb (fun σ => passAt tk σ) ha hdb he hpl) fun σ H Q ⟨kp, F, ρ, g, c, q⟩ => by
    refine ⟨kp, F, ρ, g, c, ?_⟩
    have q' := rQ.bind q
    cases hf : f ρ g with
    | ok ds g1 =>
      rw [hf] at q'
      intro vs F1 H1 c1 s1 r1
      exact call_sp c1 r1 (by rw [r1.length]; exact hlen _ _ _ _ hf) (rQ.up s1 q' (pD.up s1))
    | ex e g1 => rw [hf] at q'; exact q'
    | bad => rw [hf] at q'; exact q'
/-- f(..), f one of the defs of a table, in the slot i -/
structure Tbl (P : Program) (w : World) (K : PySem.W.Frag) (mg : Str → Option Value) (base : Heap) (T : Tb) (k : Nat) (m : Nat) (tbl : Nat → FN) : Prop where
  ex : ∀ n fA, T.fnA n = some fA → (∃ (fd : FuncData) (ps : List Str), FnOk P w K mg base (L2.CX P w) k fA fd ps (spF T (tbl n) m) ∧ PySem.W.keepIn K (.ref fA) = true ∧ Binds K fd ps []) ∨ ∀ ds g, ds.length = m → tbl n ds g = .bad
theorem x_callV {i : Nat} {tbl : Nat → FN} (A : Tbl X.prog X.w X.K X.mg X.base T k n tbl) (hr : Room k X.A) (hN : X.N[i]? = some x) (hv : Vis X.env.scope x) (hi : i ∉ own) (tk : Takes X W) (ha : XAs X T Z W own (e :: es) f) (hlen : ∀ ρ g ds g', f ρ g = .ok ds g' → ds.length = n) (hne : ∀ ρ g ex g', f ρ g ≠ .ex ex g')
    (hdb : (x == ("__debug__" : Str)) = false := by decide) (hcd : (x == ("__classdict__" : Str)) = false := by decide) (he : starEach (e :: es) X.env = (false, eval e X.env) :: starEach es X.env := by rfl) (hpl : (backTo pos (starEach es X.env)).any (·.1) = false := by rfl) :
    XE X T Z W own (.Call (.Name x p) (e :: es) [] pos) (xCallV tbl (xVar i) f) := by
  refine ⟨fun pins s σ H Q I h => ?_⟩
  obtain ⟨kp, F, ρ, g, c, q⟩ := h
  unfold xCallV xVar at q
  cases hv' : ρ[i]? with
  | none => rw [hv'] at q; exact q.elim
  | some o =>
    rw [hv'] at q
    cases o with
    | none => exact q.elim
    | some d =>
      cases d with
      | fn n' =>
        simp only [R.bind_ok] at q
        obtain ⟨v, h1, h2⟩ := c.shr i _ hi hv'
        obtain ⟨fA, rfl, hT⟩ := rep_fn h2
        rcases A.ex n' fA hT with ⟨fd, ps, F', hk, hb⟩ | nope
        · refine wpAny_Call_Name_kw (thn ((pe_var (pos := p) hN hv hdb hcd).run pins s σ H (fun v H1 => v = .ref fA ∧ H1 = H) I ⟨.ref fA, h1, rfl, rfl⟩) fun u s1 ⟨v, H1, I1, r1, q1⟩ => ?_)
          obtain ⟨rfl, rfl⟩ := q1
          cases r1
          have tr : tPA T Z W own f σ H1 fun vs H2 => spF T (tbl n') n vs H2 Q (WE W σ) := by
            refine ⟨kp, F, ρ, g, c, ?_⟩
            have q' := rQ.bind q
            cases hf : f ρ g with
            | ok ds g1 =>
              rw [hf] at q'
              intro vs F1 H1 c1 s1 r1
              exact call_sp c1 r1 (by rw [r1.length]; exact hlen _ _ _ _ hf) (rQ.up s1 q' (pD.up s1))
            | ex e g1 => rw [hf] at q'; exact q'
            | bad => rw [hf] at q'; exact q'
          refine PySem.W.callWith_K (h₀ := X.base) I.ok.mod.kin hk (thn (ha.run pos pins s1 σ H1 _ I1 tr) fun us s2 ⟨vs, H2, I2, r, q2⟩ => ⟨I2.kIn, ?_⟩) he hpl
          exact run_fnS F' hr hb (passAt tk σ) I2 r q2
        · exfalso
          have q' := rQ.bind q
          cases hf : f ρ g with
          | ok ds g1 =>
            rw [hf] at q'
            have := nope ds g1 (hlen _ _ _ _ hf)
            simp only [rQ, this] at q'
          | ex e g1 => exact hne _ _ _ _ hf
          | bad => rw [hf] at q'; exact q'
      | _ => exact q.elim
end
end PP

set_option Elab.async false
set_option linter.all false
set_option maxRecDepth 100000
set_option maxHeartbeats 4000000
namespace PP
open PySem L2

/-! ### what is walked -/
/-- J walks ds, known over F -/
def Iters (T : Tb) (F : Hp) (J : It) (ds : List D) : Prop := ∃ (G : Hp → Prop) (Y : Nat → Hp → V → Hp → Prop), Walk J ds.length G Y ∧ (∀ H, Sub F H → G H) ∧
  ∀ i H1 x H2 d, ds[i]? = some d → Sub F H1 → Y i H1 x H2 → ∃ F2, Grow F H1 F2 H2 ∧ Rep T F2 x d
/-- over a known part that has grown -/
theorem Iters.up {T : Tb} {F F' : Hp} {J : It} {ds : List D} (h : Iters T F J ds) (s : Sub F F') : ∃ (G : Hp → Prop) (Y : Nat → Hp → V → Hp → Prop), Walk J ds.length G Y ∧ (∀ H, Sub F' H → G H) ∧
  ∀ i H1 x H2 d F1, ds[i]? = some d → Sub F' F1 → Sub F1 H1 → Y i H1 x H2 → ∃ F2, Grow F1 H1 F2 H2 ∧ Rep T F2 x d := by
  obtain ⟨G, Y, w, hg, hy⟩ := h
  refine ⟨G, Y, w, fun H q => hg H (s.trans q), fun i H1 x H2 d F1 e s1 s2 y => ?_⟩
  obtain ⟨F2, gr, r⟩ := hy i H1 x H2 d e ((s.trans s1).trans s2) y
  refine ⟨fun a => match F1 a with | some o => some o | none => F2 a, ⟨fun a o e => by simp only [e], gr.hh, fun a o e => ?_, fun a o e => ?_⟩, Rep.mono (fun a o e => ?_) _ _ r⟩
  · cases q : F1 a with
    | some u => simp only [q] at e; cases e; exact gr.hh _ _ (s2 _ _ q)
    | none => simp only [q] at e; exact gr.fh _ _ e
  · cases q : F1 a with
    | some u => simp only [q] at e; exact .inl e
    | none =>
      simp only [q] at e
      rcases gr.new a o e with z | z
      · have := s1 _ _ (s _ _ z); rw [q] at this; cases this
      · exact .inr z
  · cases q : F1 a with
    | some u =>
      simp only
      rcases gr.new a o e with z | z
      · have := s1 _ _ (s _ _ z); rw [q] at this; exact this
      · have := s2 _ _ q; rw [z] at this; cases this
    | none => simp only; exact e
def tPI (T : Tb) (Z : Act) (W : WX) (own : List Nat) (f : XA) : TI := fun σ H R => ∃ kp F ρ g, Rel T Z own kp F H σ ρ g ∧ rQ T Z W kp F σ ρ (fun ds g' => ∀ J F' H', Rel T Z own kp F' H' σ ρ g' → Sub F F' → Iters T F' J ds → ds.length ≤ LIM → R J H') (f ρ g)
def XI (X : Cx) (T : Tb) (Z : Act) (W : WX) (own : List Nat) (tg e : Expr) (f : XA) : Prop := PI X tg e (tPI T Z W own f)
theorem PI.imp {X : Cx} {tg e : Expr} {t t' : TI} (h : PI X tg e t) (i : ∀ σ H Q, t' σ H Q → t σ H Q) : PI X tg e t' := ⟨fun pins s σ H Q I w => h.run pins s σ H Q I (i σ H Q w)⟩
theorem PI.or {X : Cx} {tg e : Expr} {t t' : TI} (h : PI X tg e t) (h' : PI X tg e t') : PI X tg e (fun σ H R => t σ H R ∨ t' σ H R) := ⟨fun pins s σ H Q I w => w.elim (h.run pins s σ H Q I) (h'.run pins s σ H Q I)⟩
theorem iters_lst {T : Tb} {F : Hp} {a : Addr} {vs : List V} {l : List D} (h : F a = some (.lst vs)) (r : RepL T F vs l) : Iters T F (Itl T.K a) l := by
  refine ⟨_, _, by rw [← r.length]; exact walk_list (K := T.K) (a := a) (xs := vs), fun H s => SqL.of (s _ _ h), fun i H1 x H2 d e s y => ?_⟩
  obtain ⟨rfl, hx⟩ := y
  obtain ⟨v, h1, h2⟩ := r.get e
  rw [h1] at hx; cases hx
  exact ⟨F, .refl s, h2⟩
theorem iters_tup {T : Tb} {F : Hp} {a : Addr} {vs : List V} {l : List D} (h : F a = some (.tup vs)) (r : RepL T F vs l) : Iters T F (Itt T.K a) l := by
  refine ⟨_, _, by rw [← r.length]; exact walk_tup (K := T.K) (a := a) (xs := vs), fun H s => SqT.of (s _ _ h), fun i H1 x H2 d e s y => ?_⟩
  obtain ⟨rfl, hx⟩ := y
  obtain ⟨v, h1, h2⟩ := r.get e
  rw [h1] at hx; cases hx
  exact ⟨F, .refl s, h2⟩
theorem iters_str {T : Tb} {F : Hp} {s : List Nat} (hc : ∀ c ∈ s, c < 1114112) : Iters T F (Its ⟨s.toArray⟩) (s.map fun c => .str [c]) := by
  refine ⟨_, _, by simpa using walk_str (z := ⟨s.toArray⟩), fun _ _ => trivial, fun i H1 x H2 d e s' y => ?_⟩
  obtain ⟨rfl, c, h1, rfl⟩ := y
  have h1' : s[i]? = some c := by simpa using h1
  simp only [List.getElem?_map, h1', Option.map_some, Option.some.injEq] at e
  subst e
  exact ⟨F, .refl s', mk_str (s := [c]) (by simp [LIM]) fun c' hc' => by
    obtain rfl : c' = c := by simpa using hc'
    exact hc _ (List.mem_of_getElem? h1')⟩
section
variable {X : Cx} {T : Tb} {Z : Act} {W : WX} {own : List Nat} {tg e e2 : Expr} {fa fb : PP.X} {p pos tpos : Pos}
/-- a list, a tuple, a text -/
theorem i_seq (ha : XE X T Z W own e fa) (hK : X.K = T.K := by rfl) : XI X T Z W own tg e (iSeq fa) := by
  have h1 : PI X tg e (fun σ H R => iList T.K (tP T Z W own fa) σ H R ∨ (iTup T.K (tP T Z W own fa) σ H R ∨ iStr (tP T Z W own fa) σ H R)) := by
    rw [← hK]; exact PI.or (pi_list ha) (PI.or (pi_tup ha) (pi_str ha))
  refine PI.imp h1 fun σ H R ⟨kp, F, ρ, g, c, q⟩ => ?_
  have q' := q.bind
  cases hf : fa ρ g with
  | ok d g1 =>
    rw [hf] at q'
    cases d with
    | lst l =>
      refine .inl ⟨kp, F, ρ, g, c, ?_⟩
      rw [hf]
      intro v F' H' c' s' r
      obtain ⟨a, vs, rfl, e1, l1, r1⟩ := rep_lst r
      exact ⟨a, rfl, ⟨vs, SqL.of (c'.core.sub _ _ e1)⟩, q' _ F' H' c' s' (iters_lst e1 r1) (by rw [← r1.length]; exact l1)⟩
    | tup l =>
      refine .inr (.inl ⟨kp, F, ρ, g, c, ?_⟩)
      rw [hf]
      intro v F' H' c' s' r
      obtain ⟨a, vs, rfl, e1, l1, r1⟩ := rep_tup r
      exact ⟨a, rfl, ⟨vs, SqT.of (c'.core.sub _ _ e1)⟩, q' _ F' H' c' s' (iters_tup e1 r1) (by rw [← r1.length]; exact l1)⟩
    | str z =>
      refine .inr (.inr ⟨kp, F, ρ, g, c, ?_⟩)
      rw [hf]
      intro v F' H' c' s' r
      obtain ⟨rfl, l1, c1⟩ := rep_str r
      exact ⟨_, rfl, q' _ F' H' c' s' (iters_str c1) (by simpa using l1)⟩
    | _ => exact q'.elim
  | ex e' g1 =>
    rw [hf] at q'
    exact .inl ⟨kp, F, ρ, g, c, by rw [hf]; exact q'⟩
  | bad => rw [hf] at q'; exact q'.elim
theorem rng_get {a : Int} {n i : Nat} {d : D} (h : (rngL a n)[i]? = some d) : i < n ∧ d = .int (a + (i : Int)) := by
  unfold rngL at h
  simp only [List.getElem?_map, Option.map_eq_some_iff] at h
  obtain ⟨j, hj, rfl⟩ := h
  have := List.getElem?_eq_some_iff.mp hj
  obtain ⟨h1, h2⟩ := this
  simp at h1 h2
  subst h2
  exact ⟨h1, rfl⟩
theorem iters_rng {F : Hp} {a : Int} {n : Nat} : Iters T F (Itr a n) (rngL a n) := by
  refine ⟨_, _, by simpa [rngL] using walk_range (lo := a) (n := n), fun _ _ => trivial, fun i H1 x H2 d e s y => ?_⟩
  obtain ⟨rfl, rfl⟩ := y
  obtain ⟨_, rfl⟩ := rng_get e
  exact ⟨F, .refl s, mk_int⟩
theorem rngOk_iff {i : Int} (h : rngOk i = true) : -(2 ^ 62) ≤ i ∧ i < 2 ^ 62 := by
  have e : ((2 : Int) ^ 62) = 4611686018427387904 := by decide
  rw [e]
  have := of_decide_eq_true h
  omega
theorem i_rng1 {a : Expr} (hg : Gl X "range") (hm : X.mg "range" = none) (ha : XAs X T Z W own [a] (aCons fa aNil)) (hs : starEach [a] X.env = [(false, eval a X.env)] := by rfl) : XI X T Z W own tg (.Call (.Name "range" p) [a] [] pos) (iRng1 fa) :=
  PI.imp (pi_range1 hg hm ha hs) fun σ H R ⟨kp, F, ρ, g, c, q⟩ => by
    refine ⟨kp, F, ρ, g, c, ?_⟩
    have q' := q.bind
    unfold aCons
    cases hf : fa ρ g with
    | ok d g1 =>
      rw [hf] at q'
      cases d with
      | int j =>
        cases hr : rngOk j && decide (j.toNat ≤ LIM) with
        | true =>
          simp only [rQ, hr] at q'
          simp only [Bool.and_eq_true, decide_eq_true_eq] at hr
          intro vs F1 H1 c1 s1 r1
          obtain ⟨x, rfl, r⟩ := call1 r1
          obtain rfl := rep_int r
          exact ⟨j, rfl, (rngOk_iff hr.1).1, (rngOk_iff hr.1).2, q' _ F1 H1 c1 s1 iters_rng (by simp [rngL]; omega)⟩
        | false => simp only [rQ, hr] at q'
      | _ => exact q'.elim
    | ex e' g1 => rw [hf] at q'; exact q'
    | bad => rw [hf] at q'; exact q'.elim
theorem i_rng2 {a b : Expr} (hg : Gl X "range") (hm : X.mg "range" = none) (ha : XAs X T Z W own [a, b] (aCons fa (aCons fb aNil))) (hs : starEach [a, b] X.env = [(false, eval a X.env), (false, eval b X.env)] := by rfl) (hs2 : starEach [b] X.env = [(false, eval b X.env)] := by rfl) :
    XI X T Z W own tg (.Call (.Name "range" p) [a, b] [] pos) (iRng fa fb) :=
  PI.imp (pi_range2 hg hm ha hs hs2) fun σ H R ⟨kp, F, ρ, g, c, q⟩ => by
    refine ⟨kp, F, ρ, g, c, ?_⟩
    have q' := q.bind
    simp only [aCons]
    cases hf : fa ρ g with
    | ok d g1 =>
      rw [hf] at q'
      have q2 := rQ.bind (σ := σ) q'
      simp only [PP.R.bind_ok]
      cases hf2 : fb ρ g1 with
      | ok d2 g2 =>
        rw [hf2] at q2
        cases d with
        | int i =>
          cases d2 with
          | int j =>
            cases hr : rngOk i && rngOk j && decide ((j - i).toNat ≤ LIM) with
            | true =>
              simp only [rQ, hr] at q2
              simp only [Bool.and_eq_true, decide_eq_true_eq] at hr
              intro vs F1 H1 c1 s1 r1
              obtain ⟨x, y, rfl, r, r'⟩ := call2 r1
              obtain rfl := rep_int r
              obtain rfl := rep_int r'
              exact ⟨i, j, rfl, ⟨(rngOk_iff hr.1.1).1, (rngOk_iff hr.1.1).2, (rngOk_iff hr.1.2).1, (rngOk_iff hr.1.2).2⟩, q2 _ F1 H1 c1 s1 iters_rng (by simp [rngL]; omega)⟩
            | false => simp only [rQ, hr] at q2
          | _ => exact q2.elim
        | _ => cases d2 <;> exact q2.elim
      | ex e' g1 => rw [hf2] at q2; exact q2
      | bad => rw [hf2] at q2; exact q2.elim
    | ex e' g1 => rw [hf] at q'; exact q'
    | bad => rw [hf] at q'; exact q'.elim
theorem zip_get {a b : List D} {i : Nat} {d : D} (h : (zipL a b)[i]? = some d) : ∃ x y, a[i]? = some x ∧ b[i]? = some y ∧ d = .tup [x, y] := by
  unfold zipL at h
  simp only [List.getElem?_map, Option.map_eq_some_iff] at h
  obtain ⟨p, hp, rfl⟩ := h
  have := List.getElem?_zip_eq_some.mp hp
  exact ⟨p.1, p.2, this.1, this.2, rfl⟩
theorem iters_pair {F : Hp} {J : It} {xs ys : List V} {l m : List D} {G : Hp → Prop} (w : Walk J (zipL l m).length G (YPair (fun i => xs[i]?) (fun i => ys[i]?))) (hg : ∀ H, Sub F H → G H) (r1 : RepL T F xs l) (r2 : RepL T F ys m) : Iters T F J (zipL l m) := by
  refine ⟨_, _, w, hg, fun i H1 x H2 d e s y => ?_⟩
  obtain ⟨p, u, v, rfl, np, rfl, h1, h2⟩ := y
  obtain ⟨dx, dy, z1, z2, rfl⟩ := zip_get e
  obtain ⟨u', k1, k2⟩ := r1.get z1
  obtain ⟨v', k3, k4⟩ := r2.get z2
  have h1' : xs[i]? = some u := h1
  have h2' : ys[i]? = some v := h2
  rw [k1] at h1'; cases h1'
  rw [k3] at h2'; cases h2'
  obtain ⟨gr, rr⟩ := new_tup (T := T) s np (by simp [LIM]) (.cons k2 (.cons k4 .nil))
  exact ⟨_, gr, rr⟩
theorem walk_zipT {K : PySem.W.Frag} {a b : Addr} {xs ys : List V} {n : Nat} (hn : n = min xs.length ys.length) : Walk (RZ.ItzT K a b) n (fun H => SqT K H a xs ∧ SqT K H b ys) (YPair (fun i => xs[i]?) (fun i => ys[i]?)) := by
  subst hn
  refine ⟨fun i _ hi q => ?_, fun _ q => ⟨xs, ys, q.1, q.2, by omega⟩, fun i H v H' _ q y => ?_⟩
  · have h1 : i < xs.length := by omega
    have h2 : i < ys.length := by omega
    exact ⟨xs, ys, xs[i], ys[i], q.1, q.2, by simp [h1], by simp [h2]⟩
  · obtain ⟨T, x, z, h1, h2, h3, h4, h5⟩ := y
    exact ⟨T, x, z, h1, h2, h3, h4 xs q.1, h5 ys q.2⟩
theorem zipL_length (l m : List D) : (zipL l m).length = min l.length m.length := by simp [zipL]
theorem i_zip {elts : List Expr} {kk : Nat} (hg : Gl X "zip") (hm : X.mg "zip" = none) (ha : XAs X T Z W own [e, e2] (aCons fa (aCons fb aNil))) (hK : X.K = T.K := by rfl)
    (hs : starEach [e, e2] X.env = (false, eval e X.env) :: starEach [e2] X.env := by rfl) (hpl : (backTo pos (starEach [e2] X.env)).any (·.1) = false := by rfl) :
    XI X T Z W own (.Tuple elts kk tpos) (.Call (.Name "zip" p) [e, e2] [] pos) (iZip fa fb) := by
  have h1 := RZ.pi_zipA (tpos := tpos) (elts := elts) (kk := kk) (p := p) (pos := pos) hg hm ha hs hpl
  rw [hK] at h1
  refine PI.imp h1 fun σ H R ⟨kp, F, ρ, g, c, q⟩ => ?_
  refine ⟨kp, F, ρ, g, c, ?_⟩
  have q' := q.bind
  simp only [aCons]
  cases hf : fa ρ g with
  | ok d g1 =>
    rw [hf] at q'
    have q2 := rQ.bind (σ := σ) q'
    simp only [PP.R.bind_ok]
    cases hf2 : fb ρ g1 with
    | ok d2 g2 =>
      rw [hf2] at q2
      cases d with
      | tup l =>
        cases d2 with
        | tup m =>
          intro vs F1 H1 c1 s1 r1
          obtain ⟨x, y, rfl, r, r'⟩ := call2 r1
          obtain ⟨a, us, rfl, e1, l1, k1⟩ := rep_tup r
          obtain ⟨b, ws, rfl, e3, l3, k3⟩ := rep_tup r'
          have t1 := SqT.of (K := T.K) (c1.core.sub _ _ e1)
          have t2 := SqT.of (K := T.K) (c1.core.sub _ _ e3)
          refine ⟨a, b, us, ws, rfl, .inr ⟨t1, t2, q2 _ F1 H1 c1 s1 (iters_pair (walk_zipT (K := T.K) (a := a) (b := b) (xs := us) (ys := ws) (by rw [zipL_length, k1.length, k3.length])) (fun H s => ⟨SqT.of (s _ _ e1), SqT.of (s _ _ e3)⟩) k1 k3) ?_⟩⟩
          rw [zipL_length, ← k1.length]; omega
        | _ => exact q2.elim
      | lst l =>
        cases d2 with
        | lst m =>
          intro vs F1 H1 c1 s1 r1
          obtain ⟨x, y, rfl, r, r'⟩ := call2 r1
          obtain ⟨a, us, rfl, e1, l1, k1⟩ := rep_lst r
          obtain ⟨b, ws, rfl, e3, l3, k3⟩ := rep_lst r'
          have t1 := SqL.of (K := T.K) (c1.core.sub _ _ e1)
          have t2 := SqL.of (K := T.K) (c1.core.sub _ _ e3)
          refine ⟨a, b, us, ws, rfl, .inl ⟨t1, t2, q2 _ F1 H1 c1 s1 (iters_pair (walk_zip (K := T.K) (a := a) (b := b) (xs := us) (ys := ws) (by rw [zipL_length, k1.length, k3.length])) (fun H s => ⟨SqL.of (s _ _ e1), SqL.of (s _ _ e3)⟩) k1 k3) ?_⟩⟩
          rw [zipL_length, ← k1.length]; omega
        | _ => exact q2.elim
      | _ => cases d2 <;> exact q2.elim
    | ex e' g1 => rw [hf2] at q2; exact q2
    | bad => rw [hf2] at q2; exact q2.elim
  | ex e' g1 => rw [hf] at q'; exact q'
  | bad => rw [hf] at q'; exact q'.elim
theorem i_enum {elts : List Expr} {kk : Nat} (hg : Gl X "enumerate") (hm : X.mg "enumerate" = none) (ha : XAs X T Z W own [e] (aCons fa aNil)) (hK : X.K = T.K := by rfl) (hs : starEach [e] X.env = [(false, eval e X.env)] := by rfl) :
    XI X T Z W own (.Tuple elts kk tpos) (.Call (.Name "enumerate" p) [e] [] pos) (iEnum fa) := by
  have h1 := pi_enum (tpos := tpos) (elts := elts) (kk := kk) (p := p) (pos := pos) hg hm ha hs
  rw [hK] at h1
  refine PI.imp h1 fun σ H R ⟨kp, F, ρ, g, c, q⟩ => ?_
  refine ⟨kp, F, ρ, g, c, ?_⟩
  have q' := q.bind
  unfold aCons
  cases hf : fa ρ g with
  | ok d g1 =>
    rw [hf] at q'
    cases d with
    | lst l =>
      intro vs F1 H1 c1 s1 r1
      obtain ⟨x, rfl, r⟩ := call1 r1
      obtain ⟨a, us, rfl, e1, l1, k1⟩ := rep_lst r
      refine ⟨a, us, rfl, SqL.of (c1.core.sub _ _ e1), q' _ F1 H1 c1 s1 ?_ (by simp [enumL, zipL, rngL]; rw [← k1.length]; exact l1)⟩
      have w := walk_enum (K := T.K) (a := a) (xs := us)
      have hl : us.length = (enumL l).length := by simp [enumL, zipL, rngL, k1.length]
      rw [hl] at w
      refine ⟨_, _, w, fun H s => SqL.of (s _ _ e1), fun i H1 x H2 d e s y => ?_⟩
      obtain ⟨p, u, v, rfl, np, rfl, h1, h2⟩ := y
      obtain ⟨dx, dy, z1, z2, rfl⟩ := zip_get e
      obtain ⟨_, rfl⟩ := rng_get z1
      obtain ⟨v', k3, k4⟩ := k1.get z2
      have h2' : us[i]? = some v := h2
      rw [k3] at h2'; cases h2'
      cases h1
      obtain ⟨gr, rr⟩ := new_tup (T := T) (l := [.int (0 + (i : Int)), dy]) s np (by simp [LIM]) (.cons (by rw [Int.zero_add]; exact mk_int) (.cons k4 .nil))
      exact ⟨_, gr, rr⟩
    | _ => exact q'.elim
  | ex e' g1 => rw [hf] at q'; exact q'
  | bad => rw [hf] at q'; exact q'.elim
end
end PP

set_option Elab.async false
set_option linter.all false
set_option maxRecDepth 100000
set_option maxHeartbeats 4000000
namespace PP
open PySem L2

/-! ### targets -/
inductive Ups (T : Tb) (F : Hp) (is : List Nat) (σ : St) (ρ : Env) : St → Env → Prop
  | refl : Ups T F is σ ρ σ ρ
  | set {σ' : St} {ρ' : Env} {i : Nat} {v : V} {d : D} (h : Ups T F is σ ρ σ' ρ') (hi : i ∈ is) (r : Rep T F v d) : Ups T F is σ ρ (σ'.set i (some v)) (ρ'.set i (some d))
theorem Ups.trans {T : Tb} {F : Hp} {is : List Nat} {σ σ1 σ2 : St} {ρ ρ1 ρ2 : Env} (a : Ups T F is σ ρ σ1 ρ1) (b : Ups T F is σ1 ρ1 σ2 ρ2) : Ups T F is σ ρ σ2 ρ2 := by
  induction b with
  | refl => exact a
  | set h hi r ih => exact .set ih hi r
theorem Ups.mono {T : Tb} {F : Hp} {is js : List Nat} {σ σ1 : St} {ρ ρ1 : Env} (a : Ups T F is σ ρ σ1 ρ1) (h : ∀ i ∈ is, i ∈ js) : Ups T F js σ ρ σ1 ρ1 := by
  induction a with
  | refl => exact .refl
  | set _ hi r ih => exact .set ih (h _ hi) r
theorem Rel.set {T : Tb} {Z : Act} {own : List Nat} {kp F H : Hp} {σ : St} {ρ : Env} {g : G} {i : Nat} {v : V} {d : D} (c : Rel T Z own kp F H σ ρ g) (hi : i ∉ own) (r : Rep T F v d) : Rel T Z own kp F H (σ.set i (some v)) (ρ.set i (some d)) g where
  core := c.core
  len := by simpa using c.len
  own_ := fun j hj => by
    have hji : i ≠ j := fun e => hi (e ▸ hj)
    obtain ⟨p, ds, h1, h2, w, h4⟩ := c.own_ j hj
    refine ⟨p, ds, by rw [List.getElem?_set_ne hji]; exact h1, by rw [List.getElem?_set_ne hji]; exact h2, w, fun m hm hmj => ?_⟩
    have hmi : i ≠ m := fun e => hi (e ▸ hm)
    rw [List.getElem?_set_ne hmi]; exact h4 m hm hmj
  shr := fun j e hj he => by
    by_cases h : i = j
    · subst h
      have hl : i < ρ.length := by
        have := List.getElem?_eq_some_iff.mp he
        obtain ⟨z, _⟩ := this
        simpa using z
      rw [List.getElem?_set_self hl] at he
      cases he
      exact ⟨v, List.getElem?_set_self (by rw [c.len]; exact hl), r⟩
    · rw [List.getElem?_set_ne h] at he
      rw [List.getElem?_set_ne h]
      exact c.shr j e hj he
theorem Rel.ups {T : Tb} {Z : Act} {own : List Nat} {kp F H : Hp} {σ σ' : St} {ρ ρ' : Env} {g : G} {is : List Nat} (c : Rel T Z own kp F H σ ρ g) (u : Ups T F is σ ρ σ' ρ') (h : ∀ i ∈ is, i ∉ own) : Rel T Z own kp F H σ' ρ' g := by
  induction u with
  | refl => exact c
  | set _ hi r ih => exact ih.set (h _ hi) r
/-- the target tg stores as gt says, at the slots is -/
def XG (X : Cx) (T : Tb) (tg : Expr) (gr : L2.TG) (gt : PP.TG) (is : List Nat) : Prop := PG X tg gr ∧
  ∀ F H x d σ ρ ρ' Q, Sub F H → Rep T F x d → gt d ρ = some ρ' → (∀ σ', Ups T F is σ ρ σ' ρ' → Q σ' H) → gr x σ H Q
def XGs (X : Cx) (T : Tb) (tgs : List Expr) (gr : TGs) (gt : List PP.TG) (is : List Nat) : Prop := PGs X tgs gr ∧
  ∀ F H xs ds σ ρ ρ' Q, Sub F H → RepL T F xs ds → gSeq gt ds ρ = some ρ' → (∀ σ', Ups T F is σ ρ σ' ρ' → Q σ' H) → gr xs σ H Q
section
variable {X : Cx} {T : Tb} {tg : Expr} {tgs : List Expr} {pos : Pos} {is js : List Nat}
theorem g_name {i : Nat} {x : Str} (hN : X.N.Nodup) (hi : X.N[i]? = some x) (hx : Loc X.env.scope x) (hf : X.fn x = true ∨ X.env.scope.names.lookup x = some .local := by first | exact .inl rfl | exact .inr rfl | assumption) : XG X T (.Name x pos) (L2.gName i) (PP.gName i) [i] :=
  ⟨pg_name hN hi hx hf, fun F H x d σ ρ ρ' Q s r e k => by
    simp only [PP.gName, Option.ite_none_right_eq_some, Option.some.injEq] at e
    obtain ⟨_, e⟩ := e
    subst e
    exact k _ (.set .refl (by simp) r)⟩
theorem gs_nil : XGs X T [] L2.gNil [] is := ⟨pgs_nil, fun F H xs ds σ ρ ρ' Q s r e k => by
  cases ds with
  | nil =>
    simp only [gSeq, Option.some.injEq] at e
    subst e
    exact ⟨r.nil_inv, k _ .refl⟩
  | cons d ds => simp [gSeq] at e⟩
theorem gs_cons {gr : L2.TG} {gt : PP.TG} {gr2 : TGs} {gt2 : List PP.TG} (h1 : XG X T tg gr gt is) (h2 : XGs X T tgs gr2 gt2 js) (hs : (assignEach (tg :: tgs) X.env).map (·.2) = assign tg X.env :: (assignEach tgs X.env).map (·.2) := by rfl) : XGs X T (tg :: tgs) (L2.gCons gr gr2) (gt :: gt2) (is ++ js) :=
  ⟨pgs_cons h1.1 h2.1 hs, fun F H xs ds σ ρ ρ' Q s r e k => by
    cases ds with
    | nil => simp [gSeq] at e
    | cons d ds =>
      obtain ⟨v, vs, rfl, r1, r2⟩ := r.inv2
      simp only [gSeq] at e
      cases e1 : gt d ρ with
      | none => rw [e1] at e; cases e
      | some ρ1 =>
        rw [e1] at e
        exact ⟨v, vs, rfl, h1.2 F H v d σ ρ ρ1 _ s r1 e1 fun σ1 u1 => h2.2 F H vs ds σ1 ρ1 ρ' _ s r2 e fun σ2 u2 =>
          k σ2 ((u1.mono fun i hi => List.mem_append_left _ hi).trans (u2.mono fun i hi => List.mem_append_right _ hi))⟩⟩
def rTup (K : PySem.W.Frag) (n : Nat) (gr : TGs) : L2.TG := fun v σ H Q => L2.gTup K n gr v σ H Q ∨ L2.gLst K n gr v σ H Q
theorem gSeq_length : ∀ {gts : List PP.TG} {ds : List D} {ρ ρ' : Env}, gSeq gts ds ρ = some ρ' → ds.length = gts.length
  | [], [], _, _, _ => rfl
  | [], _ :: _, _, _, e => by simp [gSeq] at e
  | _ :: _, [], _, _, e => by simp [gSeq] at e
  | gt :: gts, d :: ds, ρ, ρ', e => by
    simp only [gSeq] at e
    cases e1 : gt d ρ with
    | none => rw [e1] at e; cases e
    | some ρ1 => rw [e1] at e; simp [gSeq_length e]
theorem g_tup {k n : Nat} {gr : TGs} {gts : List PP.TG} (hc : X.calm = true) (h : XGs X T tgs gr gts is) (hl : gts.length = n := by rfl) (hn : (assignEach tgs X.env).length = n := by rfl) (hst : (assignEach tgs X.env).findIdx? (·.1) = none := by rfl) (hK : X.K = T.K := by rfl) :
    XG X T (.Tuple tgs k pos) (rTup T.K n gr) (PP.gTup gts) is := by
  refine ⟨?_, fun F H x d σ ρ ρ' Q s r e q => ?_⟩
  · have a := pg_tup (k := k) (pos := pos) hc h.1 hn hst
    have b := pg_lst (k := k) (pos := pos) hc h.1 hn hst
    rw [hK] at a b
    exact ⟨fun pins s σ H v u Q I rr z => z.elim (a.run pins s σ H v u Q I rr) (b.run pins s σ H v u Q I rr)⟩
  · cases d with
    | tup l =>
      obtain ⟨a, vs, rfl, e1, l1, r1⟩ := rep_tup r
      exact .inl ⟨a, vs, rfl, SqT.of (s _ _ e1), by rw [r1.length, gSeq_length e, hl], h.2 F H vs l σ ρ ρ' Q s r1 e q⟩
    | lst l =>
      obtain ⟨a, vs, rfl, e1, l1, r1⟩ := rep_lst r
      exact .inr ⟨a, vs, rfl, SqL.of (s _ _ e1), by rw [r1.length, gSeq_length e, hl], h.2 F H vs l σ ρ ρ' Q s r1 e q⟩
    | _ => simp [PP.gTup] at e
end
/-! ### wiped slots -/
theorem wipe_eq (σ : St) : ∀ vs : List Nat, L2.wipe σ vs = PP.wipe vs σ
  | [] => rfl
  | v :: vs => by unfold L2.wipe PP.wipe; rw [wipe_eq σ vs]
section
variable {α : Type}
theorem wipe_len (l : List (Option α)) : ∀ vs : List Nat, (PP.wipe vs l).length = l.length
  | [] => rfl
  | v :: vs => by unfold PP.wipe; rw [List.length_set, wipe_len l vs]
theorem wipe_get (l : List (Option α)) (i : Nat) : ∀ vs : List Nat, (PP.wipe vs l)[i]? = if i ∈ vs then (if i < l.length then some none else none) else l[i]?
  | [] => by simp [PP.wipe]
  | v :: vs => by
    unfold PP.wipe
    by_cases h : v = i
    · subst h
      rw [List.getElem?_set]
      simp [wipe_len]
    · rw [List.getElem?_set_ne h, wipe_get l i vs]
      simp [List.mem_cons, Ne.symm h]
theorem wipe_set (l : List (Option α)) {vs : List Nat} {i : Nat} (h : i ∈ vs) (o : Option α) : PP.wipe vs (l.set i o) = PP.wipe vs l := by
  apply List.ext_getElem?
  intro j
  rw [wipe_get, wipe_get, List.length_set]
  by_cases hj : j ∈ vs
  · rw [if_pos hj, if_pos hj]
  · rw [if_neg hj, if_neg hj, List.getElem?_set_ne (fun e => by rw [e] at h; exact hj h)]
theorem wipe_wipe (l : List (Option α)) (vs : List Nat) : PP.wipe vs (PP.wipe vs l) = PP.wipe vs l := by
  apply List.ext_getElem?
  intro j
  rw [wipe_get, wipe_get, wipe_len]
  split <;> rfl
end
theorem Ups.wipe {T : Tb} {F : Hp} {is vs : List Nat} {σ σ1 : St} {ρ ρ1 : Env} (a : Ups T F is σ ρ σ1 ρ1) (h : ∀ i ∈ is, i ∈ vs) : PP.wipe vs σ1 = PP.wipe vs σ ∧ PP.wipe vs ρ1 = PP.wipe vs ρ := by
  induction a with
  | refl => exact ⟨rfl, rfl⟩
  | set _ hi r ih => rw [wipe_set _ (h _ hi), wipe_set _ (h _ hi)]; exact ih
section
variable {T : Tb} {Z : Act} {own : List Nat} {kp kp' F F' H H' : Hp} {σ : St} {ρ : Env} {g g' : G} {vs : List Nat}
theorem Rel.wipe (c : Rel T Z own kp F H σ ρ g) (h : ∀ i ∈ own, i ∉ vs) : Rel T Z own kp F H (PP.wipe vs σ) (PP.wipe vs ρ) g where
  core := c.core
  len := by rw [wipe_len, wipe_len]; exact c.len
  own_ := fun i hi => by
    obtain ⟨p, ds, h1, h2, w, h4⟩ := c.own_ i hi
    refine ⟨p, ds, by rw [wipe_get, if_neg (h i hi)]; exact h1, by rw [wipe_get, if_neg (h i hi)]; exact h2, w, fun j hj hji => ?_⟩
    rw [wipe_get, if_neg (h j hj)]; exact h4 j hj hji
  shr := fun i d hi e => by
    rw [wipe_get] at e ⊢
    split at e
    · split at e <;> cases e
    · rename_i hv
      rw [if_neg hv]
      exact c.shr i d hi e
/-- the slots as they were -/
theorem Rel.unwipe (c : Rel T Z own kp F H σ ρ g) (c' : Rel T Z own kp' F' H' (PP.wipe vs σ) (PP.wipe vs ρ) g') (s : Sub F F') (h : ∀ i ∈ own, i ∉ vs) : Rel T Z own kp' F' H' σ ρ g' where
  core := c'.core
  len := c.len
  own_ := fun i hi => by
    obtain ⟨p, ds, h1, h2, w, h4⟩ := c'.own_ i hi
    rw [wipe_get, if_neg (h i hi)] at h1 h2
    refine ⟨p, ds, h1, h2, w, fun j hj hji => ?_⟩
    have := h4 j hj hji
    rw [wipe_get, if_neg (h j hj)] at this; exact this
  shr := fun i d hi e => by
    obtain ⟨v, h1, h2⟩ := c.shr i d hi e
    exact ⟨v, h1, Rep.mono s _ _ h2⟩
theorem Core.kpw (c : Core Z kp' F H g) (h : Sub kp kp') : Core Z kp F H g :=
  ⟨c.sub, h.trans c.kph, fun a o e => c.kpf a o (h a o e), c.base, c.new, c.f0, c.fh0, c.on, c.at_, fun o => ⟨(c.gen o).1, (c.gen o).2.1, h.none (c.gen o).2.2.1, (c.gen o).2.2.2⟩⟩
theorem Rel.kpw (c : Rel T Z own kp' F H σ ρ g) (h : Sub kp kp') : Rel T Z own kp F H σ ρ g where
  core := c.core.kpw h
  len := c.len
  own_ := fun i hi => by
    obtain ⟨p, ds, h1, h2, w, h4⟩ := c.own_ i hi
    exact ⟨p, ds, h1, h2, ⟨w.f, h.none w.k, w.h0, w.g, w.at_⟩, h4⟩
  shr := c.shr
/-- a new object is kept apart -/
theorem Rel.keep {p : Addr} {o : HO} (c : Rel T Z own kp F H σ ρ g) (np : H p = none) : Rel T Z own (upd kp p o) F (upd H p o) σ ρ g where
  core := by
    have k := c.core
    refine ⟨k.sub.upd (k.sub.none np), fun a u e => ?_, fun a u e => ?_, fun a u e n => ?_, k.new, k.f0, k.fh0, k.on, k.at_, fun q => ?_⟩
    · by_cases h : a = p
      · subst h; rw [upd_same] at e ⊢; exact e
      · rw [upd_ne h] at e ⊢; exact k.kph a u e
    · by_cases h : a = p
      · subst h; exact k.sub.none np
      · rw [upd_ne h] at e; exact k.kpf a u e
    · have := k.base a u e n
      rw [upd_ne (ne_of_none this np)]; exact this
    · obtain ⟨h1, h2, h3, h4⟩ := k.gen q
      have hne := ne_of_none h1 np
      exact ⟨by rw [upd_ne hne]; exact h1, h2, by rw [upd_ne hne]; exact h3, h4⟩
  len := c.len
  own_ := fun i hi => by
    obtain ⟨q, ds, h1, h2, w, h4⟩ := c.own_ i hi
    obtain ⟨vs, e1, e2, e3⟩ := w.at_
    have hne := ne_of_none e1 np
    exact ⟨q, ds, h1, h2, ⟨w.f, by rw [upd_ne hne]; exact w.k, w.h0, w.g, vs, by rw [upd_ne hne]; exact e1, e2, e3⟩, h4⟩
  shr := c.shr
/-- what is kept apart is written -/
theorem Rel.kset {p : Addr} {o o' : HO} (c : Rel T Z own (upd kp p o) F H σ ρ g) (h0 : Z.H0 p = none) : Rel T Z own (upd kp p o') F (upd H p o') σ ρ g where
  core := by
    have k := c.core
    have fp : F p = none := k.kpf p o upd_same
    have hp : H p = some o := k.kph p o upd_same
    refine ⟨k.sub.upd fp, fun a u e => ?_, fun a u e => ?_, fun a u e n => ?_, k.new, k.f0, k.fh0, k.on, k.at_, fun q => ?_⟩
    · by_cases h : a = p
      · subst h; rw [upd_same] at e ⊢; exact e
      · rw [upd_ne h] at e ⊢; exact k.kph a u (by rw [upd_ne h]; exact e)
    · by_cases h : a = p
      · subst h; exact fp
      · rw [upd_ne h] at e; exact k.kpf a u (by rw [upd_ne h]; exact e)
    · rw [upd_ne (ne_of_none e h0)]; exact k.base a u e n
    · obtain ⟨h1, h2, h3, h4⟩ := k.gen q
      have hne : Z.at_ ≠ p := fun z => by rw [z, upd_same] at h3; cases h3
      rw [upd_ne hne] at h3
      exact ⟨by rw [upd_ne hne]; exact h1, h2, by rw [upd_ne hne]; exact h3, h4⟩
  len := c.len
  own_ := fun i hi => by
    obtain ⟨q, ds, h1, h2, w, h4⟩ := c.own_ i hi
    obtain ⟨vs, e1, e2, e3⟩ := w.at_
    have hne : q ≠ p := fun z => by have := w.k; rw [z, upd_same] at this; cases this
    have wk := w.k
    rw [upd_ne hne] at wk
    exact ⟨q, ds, h1, h2, ⟨w.f, by rw [upd_ne hne]; exact wk, w.h0, w.g, vs, by rw [upd_ne hne]; exact e1, e2, e3⟩, h4⟩
  shr := c.shr
end
/-! ### comprehensions -/
def noW : WX := fun _ _ _ _ => False
def XTs (X : Cx) (T : Tb) (Z : Act) (W : WX) (own : List Nat) (ifs : List Expr) (f : XT) : Prop := PTs X ifs (tPT T Z W own f)
section
variable {X : Cx} {T : Tb} {Z : Act} {W : WX} {own : List Nat} {tg iter elt e : Expr} {ifs : List Expr} {fi : XA} {ft : XT} {fe : PP.X} {pos : Pos}
theorem ts_nil : XTs X T Z W own [] PP.tYes := ⟨fun pins s σ H Q I ⟨kp, F, ρ, g, c, q⟩ => pts_nil.run pins s σ H Q I (q F H c (.refl _))⟩
theorem ts_one (h : XTt X T Z W own e ft) : XTs X T Z W own [e] ft := pts_one h
theorem drop_cons {α : Type} {l : List α} {i : Nat} {d : α} (h : l[i]? = some d) : l.drop i = d :: l.drop (i + 1) := by
  obtain ⟨h1, h2⟩ := List.getElem?_eq_some_iff.mp h
  rw [List.drop_eq_getElem_cons h1, h2]
theorem lc_red {gr : L2.TG} {gt : PP.TG} {is vs : List Nat} (gOk : ∀ F H x d σ ρ ρ' Q, Sub F H → Rep T F x d → gt d ρ = some ρ' → (∀ σ', Ups T F is σ ρ σ' ρ' → Q σ' H) → gr x σ H Q)
    (h1 : ∀ i ∈ own, i ∉ vs) (h2 : ∀ i ∈ is, i ∈ vs) {σ : St} {H : Hp} {Q : VK} (w : tPF T Z W own (xLc vs fi gt ft fe) σ H Q) : tLc (tPI T Z W own fi) gr (tPT T Z noW own ft) (tP T Z noW own fe) vs σ H Q := by
  obtain ⟨kp, F, ρ, g, c, q⟩ := w
  refine ⟨kp, F, ρ, g, c, q.bind.imp fun ds g1 q1 J F1 H1 c1 s1 it hlen => ?_⟩
  intro D nD
  cases hL : lcL gt ft fe (PP.wipe vs ρ) ds g1 with
  | ex e' g' => rw [hL] at q1; exact q1.elim
  | bad => rw [hL] at q1; exact q1.elim
  | ok ys g' =>
  rw [hL] at q1
  obtain ⟨GG, Y, w, hG, hY⟩ := it.up (.refl F1)
  have z0 := c1.core.atNone nD
  have zg := c1.core.ne_gen nD
  have zk := c1.core.kph.none nD
  let Pv : Nat → Hp → Prop := fun i H => ∃ F2 g2 us zs, Rel T Z own (upd kp D (.lst us)) F2 H (PP.wipe vs σ) (PP.wipe vs ρ) g2 ∧ Sub F1 F2 ∧ RepL T F2 us zs ∧ us.length ≤ i ∧ ∃ rs, lcL gt ft fe (PP.wipe vs ρ) (ds.drop i) g2 = .ok rs g' ∧ zs ++ rs = ys
  refine lc_it w Pv ⟨F1, g1, [], [], (c1.wipe h1).keep nD, .refl _, .nil, Nat.le_refl _, ys, by simpa using hL, rfl⟩ (fun i H hi ⟨F2, g2, us, zs, c2, s2, _⟩ => hG H (s2.trans c2.core.sub)) (fun i x H H' hi ⟨F2, g2, us, zs, c2, s2, r2, hl, rs, hrs, hys⟩ y => ?_) (fun H ⟨F2, g2, us, zs, c2, s2, r2, hl, rs, hrs, hys⟩ => ?_)
  · have hd : ds[i]? = some ds[i] := by simp [hi]
    obtain ⟨F3, gr3, rx⟩ := hY i H x H' _ F2 hd s2 c2.core.sub y
    have c3 := c2.grow gr3
    rw [drop_cons hd] at hrs
    simp only [lcL] at hrs
    cases hgt : gt ds[i] (PP.wipe vs ρ) with
    | none => rw [hgt] at hrs; cases hrs
    | some ρ1 =>
    rw [hgt] at hrs
    simp only at hrs
    rw [wipe_eq]
    refine gOk F3 H' x ds[i] _ _ ρ1 _ c3.core.sub rx hgt fun σ2 u2 => ?_
    have uw := u2.wipe h2
    rw [wipe_wipe, wipe_wipe] at uw
    refine ⟨by rw [wipe_eq]; exact uw.1, ?_⟩
    have c4 := c3.ups u2 fun i hi => fun h => h1 i h (h2 i hi)
    refine ⟨_, F3, ρ1, g2, c4, ?_⟩
    cases hft : ft ρ1 g2 with
    | ex e' g' => rw [hft] at hrs; cases hrs
    | bad => rw [hft] at hrs; cases hrs
    | ok b g3 =>
    rw [hft] at hrs
    intro F4 H4 c5 s5
    have back : ∀ {F' H' : Hp} {g' : G} {kp' : Hp}, Rel T Z own kp' F' H' σ2 ρ1 g' → Rel T Z own kp' F' H' (PP.wipe vs σ) (PP.wipe vs ρ) g' := fun {F' H' g' kp'} cc => by
      have := cc.wipe h1
      rw [uw.1, uw.2] at this; exact this
    cases b with
    | false =>
      rw [if_neg Bool.false_ne_true]
      exact ⟨F4, g3, us, zs, back c5, (s2.trans gr3.ff).trans s5, RepL.mono (gr3.ff.trans s5) _ _ r2, Nat.le_succ_of_le hl, rs, hrs, hys⟩
    | true =>
      rw [if_pos rfl]
      refine ⟨_, F4, ρ1, g3, c5, ?_⟩
      simp only at hrs
      cases hfe : fe ρ1 g3 with
      | ex e' g' => rw [hfe] at hrs; cases hrs
      | bad => rw [hfe] at hrs; cases hrs
      | ok yv g4 =>
      rw [hfe] at hrs
      simp only at hrs
      intro v F5 H5 c6 s6 r6
      cases hr2 : lcL gt ft fe (PP.wipe vs ρ) (ds.drop (i + 1)) g4 with
      | ex e' g' => rw [hr2] at hrs; cases hrs
      | bad => rw [hr2] at hrs; cases hrs
      | ok rs2 g5 =>
      rw [hr2] at hrs
      simp only [PP.R.ok.injEq] at hrs
      obtain ⟨rfl, rfl⟩ := hrs
      refine ⟨us, c6.core.kph D _ upd_same, by rw [← LIM_eq]; omega, F5, g4, us ++ [v], zs ++ [yv], (back c6).kset z0, ((s2.trans gr3.ff).trans s5).trans s6, ?_, by simp; omega, rs2, hr2, by simpa using hys⟩
      exact (RepL.mono ((gr3.ff.trans s5).trans s6) _ _ r2).append (.cons r6 .nil)
  · have e0 : ds.drop ds.length = [] := by simp
    rw [e0] at hrs
    simp only [lcL, PP.R.ok.injEq] at hrs
    obtain ⟨rfl, rfl⟩ := hrs
    rw [List.append_nil] at hys
    subst hys
    have cu := c1.unwipe c2 s2 h1
    have ck : Rel T Z own kp F2 H σ ρ g2 := cu.kpw (fun a o e => by rw [upd_ne (fun z => by rw [z, zk] at e; cases e)]; exact e)
    obtain ⟨zs', e, fin⟩ := q1
    cases e
    refine fin D F2 H ck (s1.trans s2) ⟨c2.core.kpf D _ upd_same, zk, z0, zg, us, c2.core.kph D _ upd_same, by omega, r2⟩ fun j hj e => ?_
    obtain ⟨p, ds', k1, k2, w', k4⟩ := c1.own_ j hj
    rw [k1] at e
    cases e
    obtain ⟨vs', k5, _⟩ := w'.at_
    rw [nD] at k5; cases k5
theorem f_lc {scope : Scope} {ownN : List (Str × Nat)} {gr : L2.TG} {gt : PP.TG} {is : List Nat} (hc : X.calm = true) (hN : X.N.Nodup) (hi : XI X T Z W own tg iter fi) (ok : BlkOk X.N X.env.scope scope ownN)
    (hg : ∀ (s : Shared) (H : Hp) (C : Addr) (cl : List (Str × Addr)) (fp : List Addr), XG (X.blk s H scope (compEnvC scope cl C X.env) fp) T tg gr gt is)
    (ht : ∀ (s : Shared) (H : Hp) (C : Addr) (cl : List (Str × Addr)) (fp : List Addr), XTs (X.blk s H scope (compEnvC scope cl C X.env) fp) T Z noW own ifs ft)
    (he : ∀ (s : Shared) (H : Hp) (C : Addr) (cl : List (Str × Addr)) (fp : List Addr), XE (X.blk s H scope (compEnvC scope cl C X.env) fp) T Z noW own elt fe)
    (h1 : ∀ i ∈ own, i ∉ ownN.map (·.2)) (h2 : ∀ i ∈ is, i ∈ ownN.map (·.2)) (hs : ∀ x, foldedSetIterable iter X.env x = pure x := by intro _; rfl) :
    XF X T Z W own (.ListComp elt [⟨tg, iter, ifs, 0⟩] scope pos) (xLc (ownN.map (·.2)) fi gt ft fe) :=
  ⟨fun pins s0 σ0 H0 Q0 I0 w0 => (PE.imp (t' := tPF T Z W own (xLc (ownN.map (·.2)) fi gt ft fe)) (pe_lc hc hN hi ok (fun s H C cl fp => (hg s H C cl fp).1) ht he hs) fun σ H Q w => lc_red (hg s0 H0 0 [] []).2 h1 h2 w).run pins s0 σ0 H0 Q0 I0 w0⟩

end
end PP

set_option Elab.async false
set_option linter.all false
set_option maxRecDepth 100000
set_option maxHeartbeats 4000000
namespace PP
open PySem L2
open PyProof.Rows (envOfC)

/-! ### statements -/
def oQ (T : Tb) (Z : Act) (W : WX) (own' ob : List Nat) (kp F : Hp) (D : Ends) : O → Prop
  | .nx ρ g => ∀ σ' F' H', Rel T Z own' kp F' H' σ' ρ g → Sub F F' → D.nx σ' H'
  | .rt d g => ∀ v F' H', Core Z kp F' H' g → Sub F F' → Rep T F' v d → D.rt v H'
  | .bk ρ g => ∀ σ' F' H', Rel T Z ob kp F' H' σ' ρ g → Sub F F' → D.bk σ' H'
  | .ct ρ g => ∀ σ' F' H', Rel T Z ob kp F' H' σ' ρ g → Sub F F' → D.ct σ' H'
  | .ex e ρ g => exQ T Z W kp F ρ e g
  | .bad => False
def tS (T : Tb) (Z : Act) (W : WX) (own ob : List Nat) (S : PP.S) (own' : List Nat) : TS := fun D σ H => ∃ kp F ρ g, Rel T Z own kp F H σ ρ g ∧ oQ T Z W own' ob kp F D (S ρ g)
def YS (X : Cx) (T : Tb) (Z : Act) (W : WX) (own ob : List Nat) (st : Stmt) (S : PP.S) (own' : List Nat) : Prop := PS X st (tS T Z W own ob S own')
def YSs (X : Cx) (T : Tb) (Z : Act) (W : WX) (own ob : List Nat) (st : List Stmt) (S : PP.S) (own' : List Nat) : Prop := PSs X st (tS T Z W own ob S own')
section
variable {T : Tb} {Z : Act} {W : WX} {own ob own1 own2 : List Nat} {kp F F1 H : Hp} {σ : St} {ρ : Env} {g : G} {D : Ends}
theorem oQ.up {o : O} (q : oQ T Z W own1 ob kp F D o) (s : Sub F F1) : oQ T Z W own1 ob kp F1 D o := by
  cases o with
  | nx ρ g => exact fun σ' F' H' c s' => q σ' F' H' c (s.trans s')
  | rt d g => exact fun v F' H' c s' r => q v F' H' c (s.trans s') r
  | bk ρ g => exact fun σ' F' H' c s' => q σ' F' H' c (s.trans s')
  | ct ρ g => exact fun σ' F' H' c s' => q σ' F' H' c (s.trans s')
  | ex e ρ g => exact exQ.up q s
  | bad => exact q
theorem oQ.weak {o : O} (q : oQ T Z W own1 ob kp F D o) (h : ∀ i ∈ own1, i ∈ own2) : oQ T Z W own2 ob kp F D o := by
  cases o with
  | nx ρ g =>
    intro σ' F' H' c s'
    obtain ⟨F2, s2, c2⟩ := c.freeze h
    exact q σ' F2 H' c2 (s'.trans s2)
  | rt d g => exact q
  | bk ρ g => exact q
  | ct ρ g => exact q
  | ex e ρ g => exact q
  | bad => exact q
/-- an expression's outcome, then a statement's -/
theorem to_bind {α : Type} {x : R α} {k : α → G → O} (h : oQ T Z W own1 ob kp F D (x.to ρ k)) : rQ T Z W kp F σ ρ (fun a g => oQ T Z W own1 ob kp F D (k a g)) x := by
  cases x with
  | ok a g => exact h
  | ex e g => exact h
  | bad => exact h
end
section
variable {X : Cx} {T : Tb} {Z : Act} {W : WX} {own ob own1 own2 own3 : List Nat} {st : Stmt} {sts rest : List Stmt} {S S1 S2 : PP.S} {e : Expr} {f : PP.X} {ft : XT} {pos : Pos}
/-- lists of one's own handed on ahead of a statement, behind it -/
theorem s_pre (h : YS X T Z W own1 ob st S own2) (w : ∀ i ∈ own1, i ∈ own) : YS X T Z W own ob st S own2 := PS.imp h fun D σ H ⟨kp, F, ρ, g, c, q⟩ => by
  obtain ⟨F2, s2, c2⟩ := c.freeze w
  exact ⟨kp, F2, ρ, g, c2, q.up s2⟩
theorem s_post (h : YS X T Z W own ob st S own1) (w : ∀ i ∈ own2, i ∈ own1) : YS X T Z W own ob st S own2 := PS.imp h fun D σ H ⟨kp, F, ρ, g, c, q⟩ => ⟨kp, F, ρ, g, c, q.weak w⟩
theorem ss_pre (h : YSs X T Z W own1 ob sts S own2) (w : ∀ i ∈ own1, i ∈ own) : YSs X T Z W own ob sts S own2 := PSs.imp h fun D σ H ⟨kp, F, ρ, g, c, q⟩ => by
  obtain ⟨F2, s2, c2⟩ := c.freeze w
  exact ⟨kp, F2, ρ, g, c2, q.up s2⟩
theorem ss_post (h : YSs X T Z W own ob sts S own1) (w : ∀ i ∈ own2, i ∈ own1) : YSs X T Z W own ob sts S own2 := PSs.imp h fun D σ H ⟨kp, F, ρ, g, c, q⟩ => ⟨kp, F, ρ, g, c, q.weak w⟩
/-- slots forgotten -/
theorem Rel.kill {kp F H : Hp} {σ : St} {ρ : Env} {g : G} {is : List Nat} (c : Rel T Z own kp F H σ ρ g) (h : ∀ i ∈ own, i ∉ is) : Rel T Z own kp F H σ (PP.wipe is ρ) g where
  core := c.core
  len := by rw [wipe_len]; exact c.len
  own_ := fun i hi => by
    obtain ⟨p, ds, h1, h2, w, h4⟩ := c.own_ i hi
    exact ⟨p, ds, h1, by rw [wipe_get, if_neg (h i hi)]; exact h2, w, h4⟩
  shr := fun i d hi e => by
    rw [wipe_get] at e
    split at e
    · split at e <;> cases e
    · exact c.shr i d hi e
theorem ss_kill {is : List Nat} (h : YSs X T Z W own ob sts S own1) (w : ∀ i ∈ own1, i ∉ is) : YSs X T Z W own ob sts (sSeq S (sKill is)) own1 := PSs.imp h fun D σ H ⟨kp, F, ρ, g, c, q⟩ => by
  refine ⟨kp, F, ρ, g, c, ?_⟩
  unfold sSeq at q
  cases hs : S ρ g with
  | nx ρ1 g1 =>
    rw [hs] at q
    exact fun σ' F' H' c' s' => q σ' F' H' (c'.kill w) s'
  | rt d g => rw [hs] at q; exact q
  | bk ρ g => rw [hs] at q; exact q
  | ct ρ g => rw [hs] at q; exact q
  | ex e ρ g => rw [hs] at q; exact q
  | bad => rw [hs] at q; exact q
theorem s_kill {is : List Nat} (h : YS X T Z W own ob st S own1) (w : ∀ i ∈ own1, i ∉ is) : YS X T Z W own ob st (sSeq S (sKill is)) own1 := PS.imp h fun D σ H ⟨kp, F, ρ, g, c, q⟩ => by
  refine ⟨kp, F, ρ, g, c, ?_⟩
  unfold sSeq at q
  cases hs : S ρ g with
  | nx ρ1 g1 =>
    rw [hs] at q
    exact fun σ' F' H' c' s' => q σ' F' H' (c'.kill w) s'
  | rt d g => rw [hs] at q; exact q
  | bk ρ g => rw [hs] at q; exact q
  | ct ρ g => rw [hs] at q; exact q
  | ex e ρ g => rw [hs] at q; exact q
  | bad => rw [hs] at q; exact q
theorem ss_nil : YSs X T Z W own ob [] sNop own := PSs.imp pss_nil fun D σ H ⟨kp, F, ρ, g, c, q⟩ => q σ F H c (.refl _)
theorem ss_one (h : YS X T Z W own ob st S own1) : YSs X T Z W own ob [st] S own1 := pss_one h
theorem ss_cons (h1 : YS X T Z W own ob st S1 own1) (h2 : YSs X T Z W own1 ob rest S2 own2) : YSs X T Z W own ob (st :: rest) (sSeq S1 S2) own2 :=
  PSs.imp (pss_cons h1 h2) fun D σ H ⟨kp, F, ρ, g, c, q⟩ => by
    refine ⟨kp, F, ρ, g, c, ?_⟩
    unfold sSeq at q
    cases hs : S1 ρ g with
    | nx ρ1 g1 =>
      rw [hs] at q
      exact fun σ' F' H' c' s' => ⟨kp, F', ρ1, g1, c', q.up s'⟩
    | rt d g => rw [hs] at q; exact q
    | bk ρ g => rw [hs] at q; exact q
    | ct ρ g => rw [hs] at q; exact q
    | ex e ρ g => rw [hs] at q; exact q
    | bad => rw [hs] at q; exact q
theorem s_pass : YS X T Z W own ob (.Pass pos) sNop own := PS.imp ps_pass fun D σ H ⟨kp, F, ρ, g, c, q⟩ => q σ F H c (.refl _)
theorem s_brk : YS X T Z W ob ob (.Break pos) sBrk own := PS.imp ps_break fun D σ H ⟨kp, F, ρ, g, c, q⟩ => q σ F H c (.refl _)
theorem s_cont : YS X T Z W ob ob (.Continue pos) sCont own := PS.imp ps_continue fun D σ H ⟨kp, F, ρ, g, c, q⟩ => q σ F H c (.refl _)
/-- x = e, a name -/
theorem s_set {i : Nat} {x : Str} {pos' : Pos} (hN : X.N.Nodup) (hi : X.N[i]? = some x) (hx : Loc X.env.scope x) (he : XE X T Z W own e f) (ho : i ∉ own) (hs : swapsWith e (some (.Name x pos')) pos.line X.env = pure false := by rfl) (hf : X.fn x = true ∨ X.env.scope.names.lookup x = some .local := by first | exact .inl rfl | exact .inr rfl | assumption) :
    YS X T Z W own ob (.Assign [.Name x pos'] e pos) (sSet (PP.gName i) f) own :=
  PS.imp (ps_set hN hi hx he hs hf) fun D σ H ⟨kp, F, ρ, g, c, q⟩ => tP.then c (to_bind q) fun d g1 v F1 H1 q1 c1 s1 r1 => by
    by_cases hl : i < ρ.length
    · simp only [PP.gName, if_pos hl] at q1
      exact q1 _ F1 H1 (c1.set ho r1) s1
    · simp only [PP.gName, if_neg hl] at q1
      exact q1.elim
/-- x = a new list, x its owner from then on -/
theorem Rel.take {kp F H : Hp} {σ : St} {ρ : Env} {g : G} {i : Nat} {p : Addr} {ds : List PP.D} (c : Rel T Z own kp F H σ ρ g) (w : Own T Z kp F H p ds) (n : ∀ j ∈ own, σ[j]? ≠ some (some (.ref p))) (hi : i ∉ own) (hl : i < ρ.length) :
    Rel T Z (i :: own) kp F H (σ.set i (some (.ref p))) (ρ.set i (some (.lst ds))) g where
  core := c.core
  len := by simpa using c.len
  own_ := fun j hj => by
    rcases List.mem_cons.mp hj with e | hj'
    · subst e
      refine ⟨p, ds, List.getElem?_set_self (by rw [c.len]; exact hl), List.getElem?_set_self hl, w, fun m hm hmj => ?_⟩
      rcases List.mem_cons.mp hm with e | hm'
      · exact absurd e hmj
      · rw [List.getElem?_set_ne (Ne.symm hmj)]; exact n m hm'
    · have hji : i ≠ j := fun e => hi (e ▸ hj')
      obtain ⟨q, es, h1, h2, w', h4⟩ := c.own_ j hj'
      refine ⟨q, es, by rw [List.getElem?_set_ne hji]; exact h1, by rw [List.getElem?_set_ne hji]; exact h2, w', fun m hm hmj => ?_⟩
      rcases List.mem_cons.mp hm with e | hm'
      · subst e
        rw [List.getElem?_set_self (by rw [c.len]; exact hl)]
        intro e
        cases e
        exact n j hj' h1
      · have hmi : i ≠ m := fun e => hi (e ▸ hm')
        rw [List.getElem?_set_ne hmi]; exact h4 m hm' hmj
  shr := fun j d hj e => by
    have hji : i ≠ j := fun z => hj (by rw [z]; exact List.mem_cons_self)
    rw [List.getElem?_set_ne hji] at e ⊢
    exact c.shr j d (fun z => hj (List.mem_cons_of_mem _ z)) e
theorem tPF.then {own : List Nat} {kp F H : Hp} {σ : St} {ρ : Env} {g : G} {post : PP.D → G → Prop} {Q : VK} (c : Rel T Z own kp F H σ ρ g) (h : rQ T Z W kp F σ ρ post (f ρ g)) (hl : ∀ ρ g d g', f ρ g = .ok d g' → ∃ l, d = .lst l)
    (n : ∀ ds g1 p F1 H1, post (.lst ds) g1 → Rel T Z own kp F1 H1 σ ρ g1 → Sub F F1 → Own T Z kp F1 H1 p ds → (∀ j ∈ own, σ[j]? ≠ some (some (.ref p))) → Q (.ref p) H1) : tPF T Z W own f σ H Q := by
  refine ⟨kp, F, ρ, g, c, ?_⟩
  cases hf : f ρ g with
  | ok d g1 =>
    obtain ⟨l, rfl⟩ := hl _ _ _ _ hf
    rw [hf] at h
    exact ⟨l, rfl, fun p F1 H1 c1 s1 w m => n l g1 p F1 H1 h c1 s1 w m⟩
  | ex e g1 => rw [hf] at h; exact h
  | bad => rw [hf] at h; exact h
theorem s_setF {i : Nat} {x : Str} {pos' : Pos} (hN : X.N.Nodup) (hi : X.N[i]? = some x) (hx : Loc X.env.scope x) (he : XF X T Z W own e f) (hlst : ∀ ρ g d g', f ρ g = .ok d g' → ∃ l, d = .lst l) (ho : i ∉ own) (hs : swapsWith e (some (.Name x pos')) pos.line X.env = pure false := by rfl) (hf : X.fn x = true ∨ X.env.scope.names.lookup x = some .local := by first | exact .inl rfl | exact .inr rfl | assumption) :
    YS X T Z W own ob (.Assign [.Name x pos'] e pos) (sSet (PP.gName i) f) (i :: own) :=
  PS.imp (ps_set hN hi hx he hs hf) fun D σ H ⟨kp, F, ρ, g, c, q⟩ => tPF.then c (to_bind (σ := σ) q) hlst fun ds g1 p F1 H1 q1 c1 s1 w n => by
    by_cases hl : i < ρ.length
    · simp only [PP.gName, if_pos hl] at q1
      exact q1 _ F1 H1 (c1.take w n ho hl) s1
    · simp only [PP.gName, if_neg hl] at q1
      exact q1.elim
/-- a target of any form -/
theorem s_asg {tg : Expr} {gr : L2.TG} {gt : PP.TG} {is : List Nat} (hg : XG X T tg gr gt is) (he : XE X T Z W own e f) (ho : ∀ i ∈ is, i ∉ own) (hs : swapsWithSole [tg] e pos.line X.env = pure false := by rfl) (hw : swappedStores [tg] e X.env = pure none := by rfl)
    (h1 : (assignEach [tg] X.env).map (·.2) = [assign tg X.env] := by rfl) : YS X T Z W own ob (.Assign [tg] e pos) (sSet gt f) own :=
  PS.imp (ps_asg he hg.1 hs hw h1) fun D σ H ⟨kp, F, ρ, g, c, q⟩ => tP.then c (to_bind q) fun d g1 v F1 H1 q1 c1 s1 r1 => by
    cases hgt : gt d ρ with
    | none => rw [hgt] at q1; exact q1.elim
    | some ρ1 =>
      rw [hgt] at q1
      exact hg.2 F1 H1 v d σ ρ ρ1 _ c1.core.sub r1 hgt fun σ' u => q1 σ' F1 H1 (c1.ups u ho) s1
/-- x, y = a, b of plain local names -/
theorem s_par {i j : Nat} {x y : Str} {a b : Expr} {fa fb : PP.X} {px py pt : Pos} {kt k2 : Nat} {pt2 : Pos} (hc : X.calm = true) (hN : X.N.Nodup) (hi : X.N[i]? = some x) (hj : X.N[j]? = some y) (hij : i ≠ j)
    (hx : X.env.scope.names.lookup x = some .local) (hy : X.env.scope.names.lookup y = some .local) (ha : XAs X T Z W own [a, b] (aCons fa (aCons fb aNil)))
    (hw : swappedStores [.Tuple [.Name x px, .Name y py] kt pt] (.Tuple [a, b] k2 pt2) X.env = pure (some [x, y])) (hio : i ∉ own) (hjo : j ∉ own)
    (hs : swapsWithSole [.Tuple [.Name x px, .Name y py] kt pt] (.Tuple [a, b] k2 pt2) pos.line X.env = pure false := by rfl) :
    YS X T Z W own ob (.Assign [.Tuple [.Name x px, .Name y py] kt pt] (.Tuple [a, b] k2 pt2) pos) (sPar i j fa fb) own :=
  PS.imp (ps_par hc hN hi hj hij hx hy ha hw hs) fun D σ H ⟨kp, F, ρ, g, c, q⟩ => by
    refine ⟨kp, F, ρ, g, c, ?_⟩
    have q' := to_bind (σ := σ) q
    simp only [aCons]
    cases hf : fa ρ g with
    | ex e g1 => rw [hf] at q'; exact q'
    | bad => rw [hf] at q'; exact q'
    | ok d1 g1 =>
      rw [hf] at q'
      have q2 := to_bind (σ := σ) (x := fb ρ g1) q'
      simp only [PP.R.bind_ok]
      cases hf2 : fb ρ g1 with
      | ex e g2 => rw [hf2] at q2; exact q2
      | bad => rw [hf2] at q2; exact q2
      | ok d2 g2 =>
        rw [hf2] at q2
        intro vs F1 H1 c1 s1 r1
        obtain ⟨v, w, rfl, h1, h2⟩ := call2 r1
        by_cases hlr : i < ρ.length ∧ j < ρ.length
        · simp only [if_pos hlr] at q2
          exact ⟨v, w, rfl, q2 _ F1 H1 ((c1.set hio h1).set hjo h2) s1⟩
        · simp only [if_neg hlr] at q2
          exact q2.elim
theorem s_if {t : Expr} {a b : List Stmt} (ht : XTt X T Z W own t ft) (ha : YSs X T Z W own ob a S1 own1) (hb : YSs X T Z W own ob b S2 own1) : YS X T Z W own ob (.If t a b pos) (sIf ft S1 S2) own1 :=
  PS.imp (ps_if ht ha hb) fun D σ H ⟨kp, F, ρ, g, c, q⟩ => tPT.then c (to_bind q) fun k g1 F1 H1 q1 c1 s1 => by
    cases k with
    | true => rw [if_pos rfl]; exact ⟨kp, F1, ρ, g1, c1, oQ.up q1 s1⟩
    | false => rw [if_neg Bool.false_ne_true]; exact ⟨kp, F1, ρ, g1, c1, oQ.up q1 s1⟩
theorem s_ret (he : XE X T Z W own e f) : YS X T Z W own ob (.Return (some e) pos) (sRet f) own1 :=
  PS.imp (ps_ret he) fun D σ H ⟨kp, F, ρ, g, c, q⟩ => tP.then c (to_bind q) fun d g1 v F1 H1 q1 c1 s1 r1 => q1 v F1 H1 c1.core s1 r1
theorem s_expr (he : XE X T Z W own e f) (hs : swapsWith e none pos.line X.env = pure false := by rfl) : YS X T Z W own ob (.Expr e pos) (sExpr f) own :=
  PS.imp (ps_expr he hs) fun D σ H ⟨kp, F, ρ, g, c, q⟩ => tP.then c (to_bind q) fun d g1 v F1 H1 q1 c1 s1 r1 => q1 σ F1 H1 c1 s1
/-- raise C('..'), C without an own __init__ -/
theorem s_raise {cn : Nat} {C : Addr} {t : St → Hp → XK → Prop} (hc : X.calm = true) (tk : Takes X W) (hm : PMk X e t) (ht : ∀ σ H Q, Q (.ref C) none H → t σ H Q) (hT : T.exA cn = some C) : YS X T Z W own ob (.Raise (some e) none pos) (sRaise cn aNil) own1 :=
  PS.imp (ps_raise hc tk hm) fun D σ H ⟨kp, F, ρ, g, c, q⟩ => ht σ H _ (by
    obtain ⟨F1, s1, c1⟩ := c.freezeAll
    exact q (.ref C) none σ F1 H c1 s1 ⟨C, hT, rfl, .inl ⟨rfl, rfl⟩⟩)
/-- i.append(e), i a list of one's own -/
theorem s_app {i : Nat} {x : Str} {apos cpos npos : Pos} (hN : X.N[i]? = some x) (hv : Vis X.env.scope x) (hi : i ∈ own) (he : XE X T Z W own e f) (hK : X.K = T.K := by rfl)
    (hd : (x == ("__debug__" : Str)) = false := by decide) (hcd : (x == ("__classdict__" : Str)) = false := by decide)
    (hbase : attributeBase (.Name x npos) "append" X.env (eval (.Name x npos) X.env) = eval (.Name x npos) X.env := by rfl)
    (hfew : ((backTo cpos (starEach [e] X.env)).all (fun x => !x.1) && (backToKw cpos (keywordEach [] X.env)).all (fun x => x.1.isSome)
      && decide ([e].length + ([] : List Keyword).length + (if ([] : List Keyword).isEmpty then 0 else 1) < 30)) = true := by rfl)
    (hline : (apos.endLine == cpos.line) = true := by rfl) (hs : starEach [e] X.env = (false, eval e X.env) :: starEach [] X.env := by rfl) (hplain : (backTo cpos (starEach [] X.env)).any (·.1) = false := by rfl)
    (hsw : swapsWith (.Call (.Attribute (.Name x npos) "append" apos) [e] [] cpos) none pos.line X.env = pure false := by rfl) :
    YS X T Z W own ob (.Expr (.Call (.Attribute (.Name x npos) "append" apos) [e] [] cpos) pos) (sApp i f) own := by
  have h1 := ps_expr (pos := pos) (pe_bm PySem.F.plainAttrs_list PySem.F.slot_list_append PySem.F.type_list_append mt_append (pe_var (pos := npos) hN hv hd hcd) (pa_cons he pa_nil hs) hbase hfew hline hs hplain) hsw
  rw [hK] at h1
  refine PS.imp h1 fun D σ H ⟨kp, F, ρ, g, c, q⟩ => ?_
  obtain ⟨p, ds, k1, k2, w, k4⟩ := c.own_ i hi
  obtain ⟨vs, e1, e2, e3⟩ := w.at_
  simp only [sApp, k2] at q
  refine ⟨_, k1, .inl ⟨rfl, vs, SqL.of e1⟩, tP.then c (to_bind q) fun d g1 v F1 H1 q1 c1 s1 r1 => ?_⟩
  obtain ⟨p', ds', k1', k2', w', k4'⟩ := c1.own_ i hi
  rw [k1] at k1'
  cases k1'
  rw [k2] at k2'
  cases k2'
  obtain ⟨us, z1, z2, z3⟩ := w'.at_
  cases hl : decide (ds.length < LIM) with
  | false => simp only [hl] at q1; exact q1.elim
  | true =>
    simp only [hl] at q1
    have hl' : us.length < LIM := by rw [z3.length]; exact of_decide_eq_true hl
    refine ⟨p, us, v, rfl, rfl, z1, by rw [← LIM_eq]; exact hl', ?_⟩
    refine q1 σ F1 _ ⟨?_, by simpa using c1.len, fun j hj => ?_, fun j dj hj ej => ?_⟩ s1
    · have k := c1.core
      refine ⟨k.sub.upd w'.f, fun a u ea => ?_, k.kpf, fun a u ea n => ?_, k.new, k.f0, k.fh0, k.on, k.at_, fun o => ?_⟩
      · rw [upd_ne (fun z => by rw [z, w'.k] at ea; cases ea)]; exact k.kph a u ea
      · rw [upd_ne (fun z => by rw [z, w'.h0] at ea; cases ea)]; exact k.base a u ea n
      · obtain ⟨g1', g2', g3', g4'⟩ := k.gen o
        exact ⟨by rw [upd_ne (Ne.symm (w'.g o))]; exact g1', g2', g3', g4'⟩
    · by_cases hji : j = i
      · subst hji
        have hlr : j < ρ.length := (List.getElem?_eq_some_iff.mp k2).1
        exact ⟨p, ds ++ [d], k1, List.getElem?_set_self hlr, ⟨w'.f, w'.k, w'.h0, w'.g, us ++ [v], upd_same, by simp; omega, z3.append (.cons r1 .nil)⟩, k4'⟩
      · obtain ⟨q', es, y1, y2, y3, y4⟩ := c1.own_ j hj
        have hqp : q' ≠ p := fun z => k4' j hj hji (by rw [y1, z])
        obtain ⟨ws, x1, x2, x3⟩ := y3.at_
        exact ⟨q', es, y1, by rw [List.getElem?_set_ne (Ne.symm hji)]; exact y2, ⟨y3.f, y3.k, y3.h0, y3.g, ws, by rw [upd_ne hqp]; exact x1, x2, x3⟩, y4⟩
    · have hji : i ≠ j := fun z => hj (z ▸ hi)
      rw [List.getElem?_set_ne hji] at ej
      exact c1.shr j dj hj ej
/-- for -/
theorem s_for {tg iter : Expr} {body : List Stmt} {fi : XA} {gr : L2.TG} {gt : PP.TG} {is : List Nat} (hp : PassesOwn (model X.prog X.w) X.A X.env X.xe) (hc : X.calm = true) (hi : XI X T Z W own tg iter fi) (hg : XG X T tg gr gt is) (hb : YSs X T Z W own own body S own) (ho : ∀ i ∈ is, i ∉ own)
    (hs : ∀ x, foldedSetIterable iter X.env x = pure x := by intro _; rfl) : YS X T Z W own ob (.For tg iter body [] pos) (sFor gt fi S) own :=
  PS.imp (ps_for hp hc hi hg.1 hb hs) fun D σ H ⟨kp, F, ρ, g, c, q⟩ => by
    refine ⟨kp, F, ρ, g, c, (to_bind (σ := σ) q).imp fun ds g1 q1 J F1 H1 c1 s1 it hlen => ?_⟩
    obtain ⟨GG, Y, w, hG, hY⟩ := it.up (.refl F1)
    refine for_it w (fun i σ2 H2 => ∃ F2 ρ2 g2, Rel T Z own kp F2 H2 σ2 ρ2 g2 ∧ Sub F1 F2 ∧ oQ T Z W own ob kp F2 D (forL gt S (ds.drop i) ρ2 g2)) ⟨F1, ρ, g1, c1, .refl _, by simpa using q1.up s1⟩
      (fun i σ2 H2 hi ⟨F2, ρ2, g2, c2, s2, _⟩ => hG H2 (s2.trans c2.core.sub)) (fun i x σ2 H2 H3 hi ⟨F2, ρ2, g2, c2, s2, q2⟩ y => ?_) (fun σ2 H2 ⟨F2, ρ2, g2, c2, s2, q2⟩ => ?_)
    · have hd : ds[i]? = some ds[i] := by simp [hi]
      obtain ⟨F3, gr3, rx⟩ := hY i H2 x H3 _ F2 hd s2 c2.core.sub y
      have c3 := c2.grow gr3
      rw [drop_cons hd] at q2
      simp only [forL] at q2
      cases hgt : gt ds[i] ρ2 with
      | none => rw [hgt] at q2; exact q2.elim
      | some ρ3 =>
      rw [hgt] at q2
      simp only at q2
      refine hg.2 F3 H3 x ds[i] _ _ ρ3 _ c3.core.sub rx hgt fun σ3 u3 => ?_
      refine ⟨kp, F3, ρ3, g2, c3.ups u3 ho, ?_⟩
      have q3 := oQ.up q2 gr3.ff
      have s3 := s2.trans gr3.ff
      cases hS : S ρ3 g2 with
      | nx ρ4 g4 => rw [hS] at q3; exact fun σ4 F4 H4 c4 s4 => ⟨F4, ρ4, g4, c4, s3.trans s4, q3.up s4⟩
      | ct ρ4 g4 => rw [hS] at q3; exact fun σ4 F4 H4 c4 s4 => ⟨F4, ρ4, g4, c4, s3.trans s4, q3.up s4⟩
      | bk ρ4 g4 => rw [hS] at q3; exact fun σ4 F4 H4 c4 s4 => q3 σ4 F4 H4 c4 s4
      | rt d4 g4 => rw [hS] at q3; exact q3
      | ex e4 ρ4 g4 => rw [hS] at q3; exact q3
      | bad => rw [hS] at q3; exact q3
    · have e0 : ds.drop ds.length = [] := by simp
      rw [e0] at q2
      exact q2 σ2 F2 H2 c2 (.refl _)
theorem s_while {t : Expr} {body : List Stmt} {n : Nat} (hp : PassesOwn (model X.prog X.w) X.A X.env X.xe) (ht : XTt X T Z W own t ft) (hb : YSs X T Z W own own body S own) : YS X T Z W own ob (.While t body [] pos) (sWhile n ft S) own :=
  PS.imp (ps_while hp ht hb) fun D σ H ⟨kp, F, ρ, g, c, q⟩ => by
    refine ⟨fun m σ2 H2 => ∃ F2 ρ2 g2, Rel T Z own kp F2 H2 σ2 ρ2 g2 ∧ oQ T Z W own ob kp F2 D (whileL ft S m ρ2 g2), ⟨n, F, ρ, g, c, q⟩, fun m σ2 H2 ⟨F2, ρ2, g2, c2, q2⟩ => ?_⟩
    cases m with
    | zero => exact q2.elim
    | succ m =>
      simp only [whileL] at q2
      refine tPT.then c2 (to_bind (σ := σ2) q2) fun k g3 F3 H3 q3 c3 s3 => ?_
      cases k with
      | false =>
        rw [if_neg Bool.false_ne_true]
        exact q3 σ2 F3 H3 c3 s3
      | true =>
        rw [if_pos rfl]
        simp only at q3
        refine ⟨fun σ4 H4 => ∃ F4 ρ4 g4, Rel T Z own kp F4 H4 σ4 ρ4 g4 ∧ oQ T Z W own ob kp F4 D (whileL ft S m ρ4 g4), fun σ4 H4 z => ⟨m, Nat.lt_succ_self m, z⟩, kp, F3, ρ2, g3, c3, ?_⟩
        have q4 := oQ.up q3 s3
        cases hS : S ρ2 g3 with
        | nx ρ4 g4 => rw [hS] at q4; exact fun σ4 F4 H4 c4 s4 => ⟨F4, ρ4, g4, c4, q4.up s4⟩
        | ct ρ4 g4 => rw [hS] at q4; exact fun σ4 F4 H4 c4 s4 => ⟨F4, ρ4, g4, c4, q4.up s4⟩
        | bk ρ4 g4 => rw [hS] at q4; exact fun σ4 F4 H4 c4 s4 => q4 σ4 F4 H4 c4 s4
        | rt d4 g4 => rw [hS] at q4; exact q4
        | ex e4 ρ4 g4 => rw [hS] at q4; exact q4
        | bad => rw [hS] at q4; exact q4
end
/-! ### a def from its body -/
theorem fn_mk {T : Tb} {P : Program} {w : World} {mg : Str → Option Value} {base : Heap} {x qual : Str} {st : Stmt} {fA : Addr} {fd : FuncData} {N ps : List Str} {k m n : Nat} {S : PP.S} {own : List Nat} (F : Fun T.K x qual st fA fd) (Sc : FnScope N ps (defScope st)) (hm : ps.length = m) (hn : N.length = n)
    (hb : ∀ (cdv : Value) (A : Around) (outer : List PySem.Env) (s : Shared) (H : Hp) (E : XK) (Z : Act), Room k (A.deeper (envOfC qual (defScope st) s.heap.objs.size fA cdv)) →
      YSs (cxOf (L2.CX P w) P w T.K mg base N qual (defScope st) fA cdv A outer s H E) T Z (fun cls d _ H => E cls d H) [] [] (defBody st) S own) :
    FnOk P w T.K mg base (L2.CX P w) (k + 1) fA fd ps (spF T (fnOf n S) m) := by
  subst hn
  refine F.okX Sc (fun vs H Q E ⟨F0, ds, g, hl, _⟩ => by rw [hl, hm]) fun cdv A outer s H vs Q E hr ⟨F0, ds, g, hl, h1, h2, h3, h4⟩ => ?_
  have core : Core (⟨H, F0, g.on, g.at_⟩ : Act) (fun _ => none) F0 H g := {
    sub := h1
    kph := fun _ _ e => by cases e
    kpf := fun _ _ e => by cases e
    base := fun _ _ e _ => e
    new := fun _ _ e => .inl e
    f0 := .refl _
    fh0 := h1
    on := rfl
    at_ := rfl
    gen := fun o => ⟨(h2 o).1, (h2 o).2.1, rfl, (h2 o).2.2⟩ }
  refine ⟨_, hb cdv A outer s H E ⟨H, F0, g.on, g.at_⟩ hr, fun _ => none, F0, ds.map some ++ List.replicate (N.length - ds.length) none, g, ⟨core, ?_, (fun i hi => by cases hi), fun i d _ e => ?_⟩, ?_⟩
  · unfold L2.start; rw [List.length_append, List.length_append, List.length_map, List.length_map, List.length_replicate, List.length_replicate, h3.length]
  · by_cases hi : i < ds.length
    · rw [List.getElem?_append_left (by simpa using hi), List.getElem?_map] at e
      cases hd : ds[i]? with
      | none => rw [hd] at e; simp at e
      | some d' =>
        rw [hd] at e
        simp at e
        subst e
        obtain ⟨v, z1, z2⟩ := h3.get hd
        refine ⟨v, ?_, z2⟩
        unfold L2.start
        rw [List.getElem?_append_left (by simp; rw [h3.length]; exact hi), List.getElem?_map, z1]; rfl
    · rw [List.getElem?_append_right (by simp; omega)] at e
      rw [List.getElem?_replicate] at e
      split at e <;> simp at e
  · unfold fnOf at h4
    have mkPost : ∀ {F' H' : Hp} {g' : G}, Core (⟨H, F0, g.on, g.at_⟩ : Act) (fun _ => none) F' H' g' → Post F0 H g g' F' H' := fun {F' H' g'} c =>
      ⟨c.f0, c.sub, c.new, c.base, c.on, c.at_, fun o => ⟨(c.gen o).1, (c.gen o).2.1, (c.gen o).2.2.2⟩⟩
    cases hS : S (ds.map some ++ List.replicate (N.length - ds.length) none) g with
    | nx ρ1 g1 => rw [hS] at h4; exact fun σ' F' H' c' s' => h4 .non F' H' (mkPost c'.core) mk_non
    | rt d1 g1 => rw [hS] at h4; exact fun v F' H' c' s' r => h4 v F' H' (mkPost c') r
    | bk ρ1 g1 => rw [hS] at h4; exact h4.elim
    | ct ρ1 g1 => rw [hS] at h4; exact h4.elim
    | ex e ρ1 g1 => rw [hS] at h4; exact fun cls dd σ' F' H' c' s' r => h4 cls dd F' H' (mkPost c'.core) r
    | bad => rw [hS] at h4; exact h4.elim
/-- another function that says the same wherever it says anything -/
theorem fn_as {T : Tb} {P : Program} {w : World} {mg : Str → Option Value} {base : Heap} {fA : Addr} {fd : FuncData} {ps : List Str} {k m : Nat} {f f' : FN} (h : FnOk P w T.K mg base (L2.CX P w) k fA fd ps (spF T f m)) (e : ∀ ds g, ds.length = m → f' ds g ≠ .bad → f ds g = f' ds g) :
    FnOk P w T.K mg base (L2.CX P w) k fA fd ps (spF T f' m) := h.imp fun vs H Q E ⟨F0, ds, g, hl, h1, h2, h3, h4⟩ => by
  refine ⟨F0, ds, g, hl, h1, h2, h3, ?_⟩
  have hn : f' ds g ≠ .bad := fun z => by rw [z] at h4; exact h4
  rw [e ds g (by rw [← h3.length, hl]) hn]
  exact h4
end PP

set_option Elab.async false
set_option linter.all false
set_option maxRecDepth 100000
set_option maxHeartbeats 4000000
namespace PP
open PySem L2
open PyProof.Rows (envOfC)

/-! ### try: several clauses, with and without a name -/
/-- a clause: its class, its name's slot, its suite's reading -/
structure Cl where
  c : Value
  i : Option Nat
  ts : Addr → Value → Option Addr → TS
def gone (i : Option Nat) (D : Ends) : Ends := match i with
  | none => D
  | some i => { nx := fun σ' H' => D.nx (σ'.set i none) H', rt := D.rt, bk := fun σ' H' => D.bk (σ'.set i none) H', ct := fun σ' H' => D.ct (σ'.set i none) H' }
def bound (i : Option Nat) (a : Addr) (σ : St) : St := match i with
  | none => σ
  | some i => σ.set i (some (.ref a))
/-- what the clauses wish of an exception -/
def wCls (K : PySem.W.Frag) (Wout : WX) (D : Ends) : List Cl → WX
  | [] => Wout
  | cl :: r => fun cls d σ H => ∃ b, PySem.W.exmOne K cls cl.c = some b ∧ (b = true → ∀ a, H a = none → cl.ts a cls d (gone cl.i D) (bound cl.i a σ) H) ∧ (b = false → wCls K Wout D r cls d σ H)
inductive ClsOk (X : Cx) : List ExceptHandler → List Cl → Prop
  | nil : ClsOk X [] []
  | bare {x : Str} {c : Value} {ts : Addr → Value → Option Addr → TS} {b₀ : Stmt} {suite : List Stmt} {np pos' : Pos} {hds : List ExceptHandler} {l : List Cl} (hc : Names X x c)
      (hsu : ∀ (a : Addr) (oe : Obj) (cls : Value) (d : Option Addr) (pn : List (Addr × Obj)), Zc cls d oe → (∃ vs, oe.data = .fields vs) → PSs (X.suite a ((a, oe) :: pn)) (b₀ :: suite) (ts a cls d)) (r : ClsOk X hds l) :
      ClsOk X (.ExceptHandler (some (.Name x np)) none (b₀ :: suite) pos' :: hds) (⟨c, none, ts⟩ :: l)
  | named {x n : Str} {c : Value} {i : Nat} {ts : Addr → Value → Option Addr → TS} {b₀ : Stmt} {suite : List Stmt} {np pos' : Pos} {hds : List ExceptHandler} {l : List Cl} (hc : Names X x c) (hN : X.N.Nodup) (hi : X.N[i]? = some n) (hln : X.env.kindOf n = some .local)
      (hsu : ∀ (a : Addr) (oe : Obj) (cls : Value) (d : Option Addr) (pn : List (Addr × Obj)), Zc cls d oe → (∃ vs, oe.data = .fields vs) → PSs (X.suite a ((a, oe) :: pn)) (b₀ :: suite) (ts a cls d)) (r : ClsOk X hds l) :
      ClsOk X (.ExceptHandler (some (.Name x np)) (some n) (b₀ :: suite) pos' :: hds) (⟨c, some i, ts⟩ :: l)
section
variable {X : Cx} {body : List Stmt} {h₀ : ExceptHandler} {hds : List ExceptHandler} {l : List Cl} {pos : Pos} {tb : WX → TS} {Wout : WX}
theorem ps_tryC (hs : X.stack = X.env :: X.outer) (hf : X.env.frame = some X.env.locals) (tk : Takes X Wout)
    (hb : ∀ (W : WX) (pn : List (Addr × Obj)) (xe : Value → Shared → Prop), Takes (X.tr pn xe) W → PassesOwn (model X.prog X.w) X.A X.env xe → PSs (X.tr pn xe) body (tb W))
    (hh : ClsOk X (h₀ :: hds) l) : PS X (.Try body (h₀ :: hds) [] [] pos) (fun D σ H => tb (wCls X.K Wout D l) D σ H) := by
  constructor
  intro pins s σ H D I h
  have ok := I.ok
  have hfr : X.A.frames = some (X.env :: X.outer) := by rw [I.ok.frames, hs]
  refine PySem.wpAny_Try_except ?_
  have hb' := hb (wCls X.K Wout D l) (X.pn ++ pins) (fun e s₁ => wpAny (model X.prog X.w) X.A (noteFrame e X.env) (fun _ s₂ => wpAny (model X.prog X.w) X.A (setFlight e none)
    (fun _ s₃ => wpAny (model X.prog X.w) X.A (handleBy e X.env (h₀ :: hds)) (SP X pins D) X.xe s₃) X.xe s₂) X.xe s₁)
  have out : ∀ {f : Flow} {s1 : Shared} {xe : Value → Shared → Prop}, SP (X.tr (X.pn ++ pins) xe) [] D f s1 → SP X pins D f s1 := fun {f s1 xe} hsp => by
    cases f with
    | next => obtain ⟨σ', H', J', q⟩ := hsp; exact ⟨σ', H', J'.ofTry ok, q⟩
    | brk => obtain ⟨σ', H', J', q⟩ := hsp; exact ⟨σ', H', J'.ofTry ok, q⟩
    | cont => obtain ⟨σ', H', J', q⟩ := hsp; exact ⟨σ', H', J'.ofTry ok, q⟩
    | ret u => obtain ⟨v, σ', H', J', r, q⟩ := hsp; exact ⟨v, σ', H', J'.ofTry ok, r, q⟩
  refine wpAny_mono ((hb' (fun u s' xx => ?_) PassesOwn.looking).run [] s σ H D (I.toTry _) h) (fun f s1 hsp => ?_) (fun e s1 he => he)
  · obtain ⟨a, B, sI, pins', σ', H', cls, d, rfl, J', nb, up, sky, na, os, ag, w⟩ := xx
    have J := J'.ofTry ok
    have sky' : Sky B (X.env :: X.outer) a (Zc cls d) X.env.locals s'.heap := hs ▸ sky
    refine Sky.land Zc.steady hfr hf sky' (fun h3 fl3 up3 => ?_)
    have J3 := J.landed (s' := { s' with heap := h3 }) nb fl3.1 (up.trans up3) os ag
    obtain ⟨oe3, vs3, he3, hz3, hd3⟩ := fl3.there
    have nfr : a ∉ frs (X.env :: X.outer) := fun hm => by
      obtain ⟨_, o', e', hnf⟩ := fl3.2.2.1.mem hm
      rw [he3] at e'
      cases e'
      exact hnf _ hd3
    have nL : a ≠ X.env.locals := fun z => nfr (List.mem_filterMap.mpr ⟨X.env, List.mem_cons_self, by rw [hf, z]⟩)
    have nF : a ∉ X.fs := fun hm => by
      obtain ⟨e1, e2, e3⟩ := List.mem_filterMap.mp hm
      exact nfr (List.mem_filterMap.mpr ⟨e1, List.mem_cons_of_mem _ e2, e3⟩)
    have S3 := J3.suite he3 hd3 na nL nF
    have test : ∀ {x : Str} {c : Value} {np : Pos} {Q : Value → Shared → Prop} {E : Value → Shared → Prop}, Names X x c → Q c { s' with heap := h3 } →
        wpAny (model X.prog X.w) (X.A.mark (some (.ref a))) (eval (.Name x np) X.env) Q E { s' with heap := h3 } := fun {x c np Q E} hc q => by
      rcases hc with ⟨hg, hdbg, hm | ⟨hm, hv, hnn⟩⟩
      · exact ld_glob (X := X.suite a ((a, oe3) :: (X.pn ++ pins))) S3 hg hm q hdbg
      · exact ld_blt (X := X.suite a ((a, oe3) :: (X.pn ++ pins))) S3 hg hm hv q hnn hdbg
    have go : ∀ {hs' : List ExceptHandler} {l' : List Cl}, ClsOk X hs' l' → wCls X.K Wout D l' cls d σ' H' → wpAny (model X.prog X.w) X.A (handleBy (.ref a) X.env hs') (SP X pins D) X.xe { s' with heap := h3 } := by
      intro hs' l' hk
      induction hk with
      | nil =>
        intro w
        refine PySem.wpAny_handleBy_nil ?_
        obtain ⟨k1, k2, k3, oe, vs, T, oT, ts', he, hz, hd, h1, hr⟩ := id fl3
        unfold PySem.passOn
        refine wpAny_bind (wpAny_field he hd h1 ?_)
        rw [if_neg (by simp : ¬ ((Value.ref T == Value.none) = true))]
        have fin : wpAny (model X.prog X.w) X.A (setFlight (.ref a) X.env.frame) (fun _ s4 => wpAny (model X.prog X.w) X.A (throw (.ref a) : Sem Flow) (SP X pins D) X.xe s4) X.xe { s' with heap := h3 } := by
          rw [hf]
          exact HandSPX.setFlight_upZ fl3 fun h4 hh4 up4 => PySem.wpAny_throw (tk _ _ ⟨a, B, sI, pins, σ', H', cls, d, rfl, J, nb, (up.trans up3).trans up4, .inr (.inr (by rw [hs]; exact hh4)), na, os, ag, w⟩)
        first | exact wpAny_bind (wpAny_pure (wpAny_bind fin)) | exact wpAny_bind fin
      | @bare x c ts b₀ suite np pos' hds2 l2 hc hsu r ih =>
        rintro ⟨b, hb1, hyes, hno⟩
        refine PySem.wpAny_handleBy_cons (PySem.codeAny_handlers_test ?_) (by intro q; cases q)
        have LT : PySem.W.Looks (model X.prog X.w) h3 (typeOf (.ref a)) cls := fun A Q E s k q => PySem.wpAny_typeOf_ref (k _ _ he3) (by rw [hz3.1]; exact q)
        refine test hc ((PySem.W.exm_one (M := model X.prog X.w) J3.kIn LT hb1).here ?_)
        cases b with
        | false => exact ih (hno rfl)
        | true =>
          refine PySem.codeAny_handlers_suite ?_
          refine HandSPX.lands_againZ fl3 (fun h4 fl4 up4 => ?_)
          have J4 := J.landed (s' := { s' with heap := h4 }) nb fl4.1 ((up.trans up3).trans up4) os ag
          obtain ⟨oe4, vs4, he4, hz4, hd4⟩ := fl4.there
          refine wpAny_mono ((hsu a oe4 cls d (X.pn ++ pins) hz4 ⟨_, hd4⟩).run [] _ _ H' _ (J4.suite he4 hd4 na nL nF) (hyes rfl a na)) (fun f s6 hsp => ?_) fun _ _ z => False.elim z
          cases f with
          | next => obtain ⟨σ6, H6, S6, q6⟩ := hsp; exact ⟨_, _, S6.unsuite ok, q6⟩
          | brk => obtain ⟨σ6, H6, S6, q6⟩ := hsp; exact ⟨_, _, S6.unsuite ok, q6⟩
          | cont => obtain ⟨σ6, H6, S6, q6⟩ := hsp; exact ⟨_, _, S6.unsuite ok, q6⟩
          | ret u => obtain ⟨v6, σ6, H6, S6, r6, q6⟩ := hsp; exact ⟨_, _, _, S6.unsuite ok, r6, q6⟩
      | @named x n c i ts b₀ suite np pos' hds2 l2 hc hN hi hln hsu r ih =>
        rintro ⟨b, hb1, hyes, hno⟩
        refine PySem.wpAny_handleBy_cons (PySem.codeAny_handlers_test ?_) (by intro q; cases q)
        have LT : PySem.W.Looks (model X.prog X.w) h3 (typeOf (.ref a)) cls := fun A Q E s k q => PySem.wpAny_typeOf_ref (k _ _ he3) (by rw [hz3.1]; exact q)
        refine test hc ((PySem.W.exm_one (M := model X.prog X.w) J3.kIn LT hb1).here ?_)
        cases b with
        | false => exact ih (hno rfl)
        | true =>
          refine PySem.codeAny_handlers_suite_as ?_
          refine HandSPX.lands_againZ fl3 (fun h4 fl4 up4 => ?_)
          have J4 := J.landed (s' := { s' with heap := h4 }) nb fl4.1 ((up.trans up3).trans up4) os ag
          obtain ⟨oe4, vs4, he4, hz4, hd4⟩ := fl4.there
          refine store_ok (X := X.suite a ((a, oe4) :: (X.pn ++ pins))) (v := .ref a) (J4.suite he4 hd4 na nL nF) hN hi (.inl hln) rfl (fun s5 S5 => ?_) (.inr hln)
          refine wpAny_mono ((hsu a oe4 cls d (X.pn ++ pins) hz4 ⟨_, hd4⟩).run [] s5 _ H' _ S5 (hyes rfl a na)) (fun f s6 hsp => ?_) fun _ _ z => False.elim z
          have fin : ∀ {σ6 : St} {H6 : Hp} {Q : Shared → Prop}, L2.Inv (X.suite a ((a, oe4) :: (X.pn ++ pins))) [] σ6 H6 s6 → (∀ s7, L2.Inv X pins (σ6.set i none) H6 s7 → Q s7) →
              wpAny (model X.prog X.w) X.A (do bindName X.env n .none; unbindBehindTheSuite X.env n pos') (fun _ s7 => Q s7) X.xe s6 := fun {σ6 H6 Q} S6 hq => gone_ok (S6.unsuite ok) hN hi hln hq
          cases f with
          | next => obtain ⟨σ6, H6, S6, q6⟩ := hsp; exact fin S6 fun s7 J7 => ⟨_, _, J7, q6⟩
          | brk => obtain ⟨σ6, H6, S6, q6⟩ := hsp; exact fin S6 fun s7 J7 => ⟨_, _, J7, q6⟩
          | cont => obtain ⟨σ6, H6, S6, q6⟩ := hsp; exact fin S6 fun s7 J7 => ⟨_, _, J7, q6⟩
          | ret u => obtain ⟨v6, σ6, H6, S6, r6, q6⟩ := hsp; exact fin S6 fun s7 J7 => ⟨_, _, _, J7, r6, q6⟩
    exact go hh w
  · cases f with
    | next => exact PySem.wpAny_execs_nil (out hsp)
    | brk => exact out hsp
    | cont => exact out hsp
    | ret u => exact out hsp
end
end PP

set_option Elab.async false
set_option linter.all false
set_option maxRecDepth 100000
set_option maxHeartbeats 4000000
namespace PP
open PySem L2

/-! ### an exception that a suite holds -/
abbrev Tb.at (T : Tb) (x : Option (Addr × Addr)) : Tb := { T with exn := x }
mutual
theorem rep_exn {T : Tb} {F : Hp} (hT : T.exn = none) (x : Option (Addr × Addr)) : ∀ (d : D) (v : V), Rep T F v d → Rep (T.at x) F v d
  | .non, _, h => h
  | .bl _, _, h => h
  | .int _, _, h => h
  | .str _, _, h => h
  | .tup l, v, h => by
    obtain ⟨a, vs, rfl, h2, h3, h4⟩ := rep_tup h
    exact mk_tup h2 h3 (repL_exn hT x l vs h4)
  | .lst l, v, h => by
    obtain ⟨a, vs, rfl, h2, h3, h4⟩ := rep_lst h
    exact mk_lst h2 h3 (repL_exn hT x l vs h4)
  | .fn _, _, h => h
  | .gen _, _, h => h
  | .ins c fs, v, h => by
    unfold Rep at h ⊢
    rcases h with ⟨a, C, dx, ps, h1, h2, h3, h4, h5⟩ | ⟨a, d, ps, h1, h2, h3, h4, h5⟩
    · exact .inl ⟨a, C, dx, ps, h1, h2, h3, h4, repL_exn hT x fs _ h5⟩
    · rw [hT] at h1; cases h1
theorem repL_exn {T : Tb} {F : Hp} (hT : T.exn = none) (x : Option (Addr × Addr)) : ∀ (ds : List D) (vs : List V), RepL T F vs ds → RepL (T.at x) F vs ds
  | [], vs, h => by rw [h.nil_inv]; exact .nil
  | d :: ds, vs, h => by
    obtain ⟨v, r, rfl, h1, h2⟩ := h.inv2
    exact .cons (rep_exn hT x d v h1) (repL_exn hT x ds r h2)
end
mutual
theorem rep_unexn {T : Tb} {F : Hp} (x : Option (Addr × Addr)) : ∀ (d : D) (v : V), isDat d = true → Rep (T.at x) F v d → Rep T F v d
  | .non, _, _, h => h
  | .bl _, _, _, h => h
  | .int _, _, _, h => h
  | .str _, _, _, h => h
  | .tup l, v, e, h => by
    obtain ⟨a, vs, rfl, h2, h3, h4⟩ := rep_tup h
    exact mk_tup h2 h3 (repL_unexn x l vs (by simpa [isDat] using e) h4)
  | .lst l, v, e, h => by
    obtain ⟨a, vs, rfl, h2, h3, h4⟩ := rep_lst h
    exact mk_lst h2 h3 (repL_unexn x l vs (by simpa [isDat] using e) h4)
  | .fn _, _, e, _ => by simp [isDat] at e
  | .gen _, _, e, _ => by simp [isDat] at e
  | .ins _ _, _, e, _ => by simp [isDat] at e
theorem repL_unexn {T : Tb} {F : Hp} (x : Option (Addr × Addr)) : ∀ (ds : List D) (vs : List V), isDatL ds = true → RepL (T.at x) F vs ds → RepL T F vs ds
  | [], vs, _, h => by rw [h.nil_inv]; exact .nil
  | d :: ds, vs, e, h => by
    obtain ⟨v, r, rfl, h1, h2⟩ := h.inv2
    simp only [isDatL, Bool.and_eq_true] at e
    exact .cons (rep_unexn x d v e.1 h1) (repL_unexn x ds r e.2 h2)
end
theorem Rel.exn {T : Tb} {Z : Act} {kp F H : Hp} {σ : St} {ρ : Env} {g : G} (hT : T.exn = none) (x : Option (Addr × Addr)) (c : Rel T Z [] kp F H σ ρ g) : Rel (T.at x) Z [] kp F H σ ρ g where
  core := c.core
  len := c.len
  own_ := fun i hi => by cases hi
  shr := fun i d hi e => by
    obtain ⟨v, h1, h2⟩ := c.shr i d hi e
    exact ⟨v, h1, rep_exn hT x d v h2⟩
inductive TrCls (X : Cx) (T : Tb) (Z : Act) (ob own2 : List Nat) : List ExceptHandler → List Cl → List (Nat × Option Nat × PP.S) → Prop
  | nil : TrCls X T Z ob own2 [] [] []
  | bare {x : Str} {c : Value} {n : Nat} {S : PP.S} {b₀ : Stmt} {suite : List Stmt} {np pos' : Pos} {hds : List ExceptHandler} {l : List Cl} {hs : List (Nat × Option Nat × PP.S)} (hc : Names X x c) (hx : ∀ m C, T.exA m = some C → PySem.W.exmOne T.K (.ref C) c = some (decide (n = m)))
      (hsu : ∀ (a : Addr) (oe : Obj) (cls : Value) (d : Option Addr) (pn : List (Addr × Obj)), Zc cls d oe → (∃ vs, oe.data = .fields vs) → YSs (X.suite a ((a, oe) :: pn)) T Z noW [] ob (b₀ :: suite) S own2) (r : TrCls X T Z ob own2 hds l hs) :
      TrCls X T Z ob own2 (.ExceptHandler (some (.Name x np)) none (b₀ :: suite) pos' :: hds) (⟨c, none, fun _ _ _ => tS T Z noW [] ob S own2⟩ :: l) ((n, none, S) :: hs)
  | named {x nm : Str} {i : Nat} {c : Value} {n : Nat} {S : PP.S} {b₀ : Stmt} {suite : List Stmt} {np pos' : Pos} {hds : List ExceptHandler} {l : List Cl} {hs : List (Nat × Option Nat × PP.S)} (hc : Names X x c) (hx : ∀ m C, T.exA m = some C → PySem.W.exmOne T.K (.ref C) c = some (decide (n = m)))
      (hN : X.N.Nodup) (hi : X.N[i]? = some nm) (hln : X.env.kindOf nm = some .local)
      (hsu : ∀ (a : Addr) (oe : Obj) (cls : Value) (d : Option Addr) (pn : List (Addr × Obj)), Zc cls d oe → (∃ vs, oe.data = .fields vs) → YSs (X.suite a ((a, oe) :: pn)) (T.at (some (a, d.getD 0))) Z noW [] ob (b₀ :: suite) S []) (r : TrCls X T Z ob own2 hds l hs) :
      TrCls X T Z ob own2 (.ExceptHandler (some (.Name x np)) (some nm) (b₀ :: suite) pos' :: hds) (⟨c, some i, fun a _ d => tS (T.at (some (a, d.getD 0))) Z noW [] ob S []⟩ :: l) ((n, some i, S) :: hs)
section
variable {X : Cx} {T : Tb} {Z : Act} {W : WX} {own ob own1 own2 : List Nat}
theorem TrCls.ok {hds : List ExceptHandler} {l : List Cl} {hs : List (Nat × Option Nat × PP.S)} (h : TrCls X T Z ob own2 hds l hs) : ClsOk X hds l := by
  induction h with
  | nil => exact .nil
  | bare hc hx hsu r ih => exact .bare hc hsu ih
  | named hc hx hN hi hln hsu r ih => exact .named hc hN hi hln hsu ih
theorem oQ.noEx {own' : List Nat} {kp F : Hp} {D : Ends} {o : O} (h : oQ T Z W own' ob kp F D (noExO o)) : oQ T Z noW own' ob kp F D o := by
  cases o with
  | ex e ρ g => exact h.elim
  | nx ρ g => exact h
  | rt d g => exact h
  | bk ρ g => exact h
  | ct ρ g => exact h
  | bad => exact h
theorem try_w {D : Ends} (hT : T.exn = none) (hK : X.K = T.K) {hds : List ExceptHandler} {l : List Cl} {hs : List (Nat × Option Nat × PP.S)} (h : TrCls X T Z ob own2 hds l hs) {kp F H : Hp} {σ : St} {ρ : Env} {g : G} {cls : Value} {dd : Option Addr} {n : Nat} {pay : List PP.D}
    (c : Rel T Z [] kp F H σ ρ g) (x : ExRep T F cls dd (.mk n pay)) (q : oQ T Z W own2 ob kp F D (handleL n pay ρ g hs)) : wCls X.K W D l cls dd σ H := by
  induction h with
  | nil => exact q cls dd σ F H c (.refl _) x
  | @bare x' c' n' S b₀ suite np pos' hds l hs hc hx hsu r ih =>
    obtain ⟨C, h1, rfl, h3⟩ := id x
    refine ⟨_, by rw [hK]; exact hx _ _ h1, fun e a na => ?_, fun e => ?_⟩
    · have e' := of_decide_eq_true e
      simp only [handleL, if_pos e'] at q
      exact ⟨kp, F, ρ, g, c, q.noEx⟩
    · have e' := of_decide_eq_false e
      simp only [handleL, if_neg e'] at q
      exact ih q
  | @named x' nm i c' n' S b₀ suite np pos' hds l hs hc hx hN hi hln hsu r ih =>
    obtain ⟨C, h1, rfl, h3⟩ := id x
    refine ⟨_, by rw [hK]; exact hx _ _ h1, fun e a na => ?_, fun e => ?_⟩
    · have e' := of_decide_eq_true e
      simp only [handleL, if_pos e'] at q
      cases pay with
      | nil => exact q.elim
      | cons p0 pr =>
        rcases h3 with ⟨h4, _⟩ | ⟨d, fs, rfl, k2, k3, k4⟩
        · cases h4
        · have cT := c.exn hT (some (a, d))
          have r0 : Rep (T.at (some (a, d))) F (.ref a) (.ins n (p0 :: pr)) := by
            unfold Rep
            exact .inr ⟨a, d, fs, rfl, rfl, k2, k3, repL_exn hT _ _ _ k4⟩
          refine ⟨kp, F, ρ.set i (some (.ins n (p0 :: pr))), g, cT.set (fun h => by cases h) r0, ?_⟩
          cases hS : S (ρ.set i (some (.ins n (p0 :: pr)))) g with
          | rt dr g2 =>
            simp only [hS] at q
            cases hd : isDat dr with
            | false => simp only [hd] at q; exact q.elim
            | true =>
              simp only [hd] at q
              exact fun v F' H' k s' rv => q v F' H' k s' (rep_unexn _ dr v hd rv)
          | nx ρ g => simp only [hS] at q; exact q.elim
          | bk ρ g => simp only [hS] at q; exact q.elim
          | ct ρ g => simp only [hS] at q; exact q.elim
          | ex e ρ g => simp only [hS] at q; exact q.elim
          | bad => simp only [hS] at q; exact q.elim
    · have e' := of_decide_eq_false e
      simp only [handleL, if_neg e'] at q
      exact ih q
theorem s_try {body : List Stmt} {h₀ : ExceptHandler} {hds : List ExceptHandler} {l : List Cl} {pos : Pos} {S : PP.S} {hs : List (Nat × Option Nat × PP.S)} (hst : X.stack = X.env :: X.outer) (hf : X.env.frame = some X.env.locals) (tk : Takes X W)
    (hb : ∀ (W : WX) (pn : List (Addr × Obj)) (xe : Value → Shared → Prop), Takes (X.tr pn xe) W → PassesOwn (model X.prog X.w) X.A X.env xe → YSs (X.tr pn xe) T Z W own ob body S own2)
    (hh : TrCls X T Z ob own2 (h₀ :: hds) l hs) (hT : T.exn = none) (hK : X.K = T.K := by rfl) : YS X T Z W own ob (.Try body (h₀ :: hds) [] [] pos) (sTry S hs) own2 :=
  PS.imp (ps_tryC hst hf tk hb hh.ok) fun D σ H ⟨kp, F, ρ, g, c, q⟩ => by
    refine ⟨kp, F, ρ, g, c, ?_⟩
    unfold sTry at q
    cases hS : S ρ g with
    | nx ρ1 g1 => rw [hS] at q; exact q
    | rt d g1 => rw [hS] at q; exact q
    | bk ρ1 g1 => rw [hS] at q; exact q
    | ct ρ1 g1 => rw [hS] at q; exact q
    | bad => rw [hS] at q; exact q
    | ex e ρ1 g1 =>
      rw [hS] at q
      obtain ⟨n, pay⟩ := e
      exact fun cls dd σ' F' H' c' s' x => try_w hT hK hh c' x (oQ.up q s')
end
end PP

set_option Elab.async false
set_option linter.all false
set_option maxRecDepth 100000
set_option maxHeartbeats 4000000
namespace PP
open PySem L2
open PyProof.Rows (envOfC)

/-! ### contracts, packed -/
structure Ok (P : Program) (w : World) (K : PySem.W.Frag) (mg : Str → Option Value) (base : Heap) (T : Tb) (k : Nat) (fA : Addr) (n : Nat) (f : FN) : Prop where
  ex : ∃ (fd : FuncData) (ps : List Str), FnOk P w K mg base (L2.CX P w) k fA fd ps (spF T f n) ∧ PySem.W.keepIn K (.ref fA) = true ∧ Binds K fd ps []
theorem Ok.mono {P : Program} {w : World} {K : PySem.W.Frag} {mg : Str → Option Value} {base : Heap} {T : Tb} {j k : Nat} {fA : Addr} {n : Nat} {f : FN} (o : Ok P w K mg base T j fA n f) (h : j ≤ k) : Ok P w K mg base T k fA n f := by
  obtain ⟨fd, ps, F, a, b⟩ := o.ex
  exact ⟨fd, ps, F.mono h, a, b⟩
theorem Ok.as {P : Program} {w : World} {mg : Str → Option Value} {base : Heap} {T : Tb} {k : Nat} {fA : Addr} {n : Nat} {f f' : FN} (o : Ok P w T.K mg base T k fA n f) (e : ∀ ds g, ds.length = n → f' ds g ≠ .bad → f ds g = f' ds g) : Ok P w T.K mg base T k fA n f' := by
  obtain ⟨fd, ps, F, a, b⟩ := o.ex
  exact ⟨fd, ps, fn_as F e, a, b⟩
theorem Ok.none {P : Program} {w : World} {K : PySem.W.Frag} {mg : Str → Option Value} {base : Heap} {T : Tb} {k : Nat} {fA : Addr} {n : Nat} {f : FN} (o : Ok P w K mg base T k fA n f) : Ok P w K mg base T k fA n (fun _ _ => .bad) := by
  obtain ⟨fd, ps, F, a, b⟩ := o.ex
  exact ⟨fd, ps, F.imp fun vs H Q E ⟨_, _, _, _, _, _, _, h⟩ => h.elim, a, b⟩
/-- args' lengths -/
def Ln (f : XA) (n : Nat) : Prop := ∀ ρ g ds g', f ρ g = .ok ds g' → ds.length = n
theorem al_nil : Ln aNil 0 := fun ρ g ds g' h => by cases h; rfl
theorem al_cons {f : PP.X} {a : XA} {n : Nat} (h : Ln a n) : Ln (aCons f a) (n + 1) := fun ρ g ds g' e => by
  unfold aCons at e
  cases hf : f ρ g with
  | ok d g1 =>
    rw [hf] at e
    simp only [PP.R.bind_ok] at e
    cases ha : a ρ g1 with
    | ok ds' g2 =>
      rw [ha] at e
      simp only [PP.R.bind_ok, PP.R.ok.injEq] at e
      obtain ⟨rfl, rfl⟩ := e
      simp [h _ _ _ _ ha]
    | ex e' g2 => rw [ha] at e; cases e
    | bad => rw [ha] at e; cases e
  | ex e' g2 => rw [hf] at e; cases e
  | bad => rw [hf] at e; cases e
section
variable {X : Cx} {T : Tb} {Z : Act} {W : WX} {own ob : List Nat} {e a b : Expr} {es : List Expr} {fa fb : PP.X} {f : XA} {p pos : Pos} {x : Str} {k k' n : Nat} {fA : Addr} {Fn : FN}
theorem x_callO (o : Ok X.prog X.w X.K X.mg X.base T k fA n Fn) (hl : es.length + 1 = n) (hr : Room k X.A) (hg : Gl X x) (hm : X.mg x = some (.ref fA)) (tk : Takes X W)
    (ha : XAs X T Z W own (e :: es) f) (hlen : Ln f n) (hdb : (x == ("__debug__" : Str)) = false := by decide) (he : starEach (e :: es) X.env = (false, eval e X.env) :: starEach es X.env := by rfl) (hpl : (backTo pos (starEach es X.env)).any (·.1) = false := by rfl) :
    XE X T Z W own (.Call (.Name x p) (e :: es) [] pos) (xCall Fn f) := by
  obtain ⟨fd, ps, F, hk, hb⟩ := o.ex
  exact x_call F hl hr hg hm hk hb tk ha hlen hdb he hpl
theorem isLst_xLc {own' : List Nat} {it : XA} {tg : PP.TG} {t : XT} {el : PP.X} : ∀ ρ g d g', xLc own' it tg t el ρ g = .ok d g' → ∃ l, d = .lst l := fun ρ g d g' h => by
  unfold xLc at h
  cases hi : it ρ g with
  | ok ds g1 =>
    rw [hi] at h
    simp only [PP.R.bind_ok] at h
    split at h
    · cases h; exact ⟨_, rfl⟩
    · cases h
  | ex e' g2 => rw [hi] at h; cases h
  | bad => rw [hi] at h; cases h
theorem isLst_list : ∀ ρ g d g', xCB listD f ρ g = .ok d g' → ∃ l, d = .lst l := fun ρ g d g' h => by
  unfold xCB at h
  cases hi : f ρ g with
  | ok ds g1 =>
    rw [hi] at h
    simp only [PP.R.bind_ok] at h
    unfold listD at h
    split at h <;> cases h <;> exact ⟨_, rfl⟩
  | ex e' g2 => rw [hi] at h; cases h
  | bad => rw [hi] at h; cases h
/-! ### e[::-1] of a list -/
theorem f_revL {k : Nat} {p1 p2 p3 : Pos} (ha : XE X T Z W own a fa) (hl : ∀ ρ g d g', fa ρ g = .ok d g' → ∃ l, d = .lst l) (hK : X.K = T.K := by rfl) :
    XF X T Z W own (.Subscript a (.Slice none none (some (.UnaryOp .USub (.Constant (.int 1) k p1) p2)) p3) pos) (xUn revD fa) := by
  have h1 := pe_revL (k := k) (p1 := p1) (p2 := p2) (p3 := p3) (pos := pos) ha
  rw [hK] at h1
  refine PE.imp h1 fun σ H Q ⟨kp, F, ρ, g, c, q⟩ => ?_
  have q' := q.bind
  refine ⟨kp, F, ρ, g, c, ?_⟩
  cases hf : fa ρ g with
  | ex e' g1 => rw [hf] at q'; exact q'
  | bad => rw [hf] at q'; exact q'
  | ok d g1 =>
    rw [hf] at q'
    obtain ⟨l, rfl⟩ := hl _ _ _ _ hf
    intro v F1 H1 c1 s1 r1
    obtain ⟨a', vs, rfl, e1, l1, r2⟩ := rep_lst r1
    exact ⟨a', vs, rfl, SqL.of (c1.core.sub _ _ e1), tPF.of (f := xUn revD fa) c1 (pF.up s1 _ _ q') (by simpa using l1) r2.reverse⟩
theorem isLst_rev (hl : ∀ ρ g d g', fa ρ g = .ok d g' → ∃ l, d = .lst l) : ∀ ρ g d g', xUn revD fa ρ g = .ok d g' → ∃ l, d = .lst l := fun ρ g d g' h => by
  unfold xUn at h
  cases hf : fa ρ g with
  | ok d1 g1 =>
    rw [hf] at h
    obtain ⟨l, rfl⟩ := hl _ _ _ _ hf
    cases h
    exact ⟨_, rfl⟩
  | ex e' g2 => rw [hf] at h; cases h
  | bad => rw [hf] at h; cases h
end
/-! ### a comprehension given to a name on its own line -/
section
variable {X : Cx} {T : Tb} {Z : Act} {W : WX} {own ob : List Nat} {tg iter elt : Expr} {ifs : List Expr} {fi : XA} {ft : XT} {fe : PP.X} {pos spos py : Pos} {i : Nat} {y : Str}
theorem s_setLF {scope : Scope} {ownN : List (Str × Nat)} {gr : L2.TG} {gt : PP.TG} {is : List Nat} (hc : X.calm = true) (hN : X.N.Nodup) (hy : X.N[i]? = some y) (hyl : X.env.scope.names.lookup y = some .local) (hsw : swapsWith (.ListComp elt [⟨tg, iter, ifs, 0⟩] scope pos) (some (.Name y py)) spos.line X.env = pure true)
    (hio : i ∉ own) (hi : XI X T Z W own tg iter fi) (ok : BlkOk X.N X.env.scope scope ownN)
    (hg : ∀ (s : Shared) (H : Hp) (C : Addr) (cl : List (Str × Addr)) (fp : List Addr), XG (X.blk s H scope (compEnvC scope cl C X.env) fp) T tg gr gt is)
    (ht : ∀ (s : Shared) (H : Hp) (C : Addr) (cl : List (Str × Addr)) (fp : List Addr), XTs (X.blk s H scope (compEnvC scope cl C X.env) fp) T Z noW own ifs ft)
    (he : ∀ (s : Shared) (H : Hp) (C : Addr) (cl : List (Str × Addr)) (fp : List Addr), XE (X.blk s H scope (compEnvC scope cl C X.env) fp) T Z noW own elt fe)
    (h1 : ∀ i ∈ own, i ∉ ownN.map (·.2)) (h2 : ∀ i ∈ is, i ∈ ownN.map (·.2)) (hs : ∀ x, foldedSetIterable iter X.env x = pure x := by intro _; rfl) :
    YS X T Z W own ob (.Assign [.Name y py] (.ListComp elt [⟨tg, iter, ifs, 0⟩] scope pos) spos) (sSet (PP.gName i) (xLc (ownN.map (·.2)) fi gt ft fe)) (i :: own) :=
  ⟨fun pins s0 σ0 H0 D0 I0 w0 => (PS.imp (t' := tS T Z W own ob (sSet (PP.gName i) (xLc (ownN.map (·.2)) fi gt ft fe)) (i :: own)) (ps_setLc hc hN hy hyl hsw hi ok (fun s H C cl fp => (hg s H C cl fp).1) ht he hs) fun D σ H ⟨kp, F, ρ, g, c, q⟩ =>
    lc_red (hg s0 H0 0 [] []).2 h1 h2 (tPF.then c (to_bind (σ := σ) q) isLst_xLc fun ds g1 p F1 H1 q1 c1 s1 w n => by
      by_cases hl : i < ρ.length
      · simp only [PP.gName, if_pos hl] at q1
        exact q1 _ F1 H1 (c1.take w n hio hl) s1
      · simp only [PP.gName, if_neg hl] at q1
        exact q1.elim)).run pins s0 σ0 H0 D0 I0 w0⟩
theorem s_setL {scope : Scope} {ownN : List (Str × Nat)} {gr : L2.TG} {gt : PP.TG} {is : List Nat} (hc : X.calm = true) (hN : X.N.Nodup) (hy : X.N[i]? = some y) (hyl : X.env.scope.names.lookup y = some .local) (hsw : swapsWith (.ListComp elt [⟨tg, iter, ifs, 0⟩] scope pos) (some (.Name y py)) spos.line X.env = pure true)
    (hio : i ∉ own) (hi : XI X T Z W own tg iter fi) (ok : BlkOk X.N X.env.scope scope ownN)
    (hg : ∀ (s : Shared) (H : Hp) (C : Addr) (cl : List (Str × Addr)) (fp : List Addr), XG (X.blk s H scope (compEnvC scope cl C X.env) fp) T tg gr gt is)
    (ht : ∀ (s : Shared) (H : Hp) (C : Addr) (cl : List (Str × Addr)) (fp : List Addr), XTs (X.blk s H scope (compEnvC scope cl C X.env) fp) T Z noW own ifs ft)
    (he : ∀ (s : Shared) (H : Hp) (C : Addr) (cl : List (Str × Addr)) (fp : List Addr), XE (X.blk s H scope (compEnvC scope cl C X.env) fp) T Z noW own elt fe)
    (h1 : ∀ i ∈ own, i ∉ ownN.map (·.2)) (h2 : ∀ i ∈ is, i ∈ ownN.map (·.2)) (hs : ∀ x, foldedSetIterable iter X.env x = pure x := by intro _; rfl) :
    YS X T Z W own ob (.Assign [.Name y py] (.ListComp elt [⟨tg, iter, ifs, 0⟩] scope pos) spos) (sSet (PP.gName i) (xLc (ownN.map (·.2)) fi gt ft fe)) own :=
  s_post (s_setLF hc hN hy hyl hsw hio hi ok hg ht he h1 h2 hs) fun _ h => List.mem_cons_of_mem _ h
end
/-! ### a new list held while more is reckoned -/
section
variable {T : Tb} {Z : Act} {own : List Nat} {kp F H : Hp} {σ : St} {ρ : Env} {g : G} {p : Addr} {ds : List PP.D}
theorem Rel.hold (c : Rel T Z own kp F H σ ρ g) (w : Own T Z kp F H p ds) (n : ∀ j ∈ own, σ[j]? ≠ some (some (.ref p))) : ∃ us, us.length ≤ LIM ∧ RepL T F us ds ∧ Rel T Z own (upd kp p (.lst us)) F H σ ρ g := by
  obtain ⟨us, e1, e2, e3⟩ := w.at_
  refine ⟨us, e2, e3, ?_, c.len, fun i hi => ?_, c.shr⟩
  · have k := c.core
    refine ⟨k.sub, fun a u e => ?_, fun a u e => ?_, k.base, k.new, k.f0, k.fh0, k.on, k.at_, fun o => ?_⟩
    · by_cases h : a = p
      · subst h; rw [upd_same] at e; cases e; exact e1
      · rw [upd_ne h] at e; exact k.kph a u e
    · by_cases h : a = p
      · subst h; exact w.f
      · rw [upd_ne h] at e; exact k.kpf a u e
    · obtain ⟨h1, h2, h3, h4⟩ := k.gen o
      exact ⟨h1, h2, by rw [upd_ne (Ne.symm (w.g o))]; exact h3, h4⟩
  · obtain ⟨q, es, h1, h2, w', h4⟩ := c.own_ i hi
    have hne : q ≠ p := fun z => n i hi (by rw [h1, z])
    exact ⟨q, es, h1, h2, ⟨w'.f, by rw [upd_ne hne]; exact w'.k, w'.h0, w'.g, w'.at_⟩, h4⟩
theorem Rel.unhold {us : List V} {F1 : Hp} (c : Rel T Z own (upd kp p (.lst us)) F1 H σ ρ g) (k : kp p = none) (h0 : Z.H0 p = none) (hl : us.length ≤ LIM) (r : RepL T F1 us ds) (hg : Z.on = true → p ≠ Z.at_) : Rel T Z own kp F1 H σ ρ g ∧ Own T Z kp F1 H p ds ∧ ∀ j ∈ own, σ[j]? ≠ some (some (.ref p)) := by
  refine ⟨c.kpw fun a o e => by rw [upd_ne (fun z => by rw [z, k] at e; cases e)]; exact e, ⟨c.core.kpf p _ upd_same, k, h0, hg, us, c.core.kph p _ upd_same, hl, r⟩, fun j hj e => ?_⟩
  obtain ⟨q, es, h1, h2, w', h4⟩ := c.own_ j hj
  rw [h1] at e
  cases e
  have := w'.k
  rw [upd_same] at this; cases this
end
theorem exQ.kpw {T : Tb} {Z : Act} {W : WX} {kp kp' F : Hp} {ρ : Env} {e : Ex} {g : G} (q : exQ T Z W kp F ρ e g) (h : Sub kp kp') : exQ T Z W kp' F ρ e g := fun cls dd σ' F' H' c s x => q cls dd σ' F' H' (c.kpw h) s x
theorem rQ.kpw {α : Type} {T : Tb} {Z : Act} {W : WX} {kp kp' F : Hp} {σ : St} {ρ : Env} {post : α → G → Prop} {x : R α} (q : rQ T Z W kp F σ ρ post x) (h : Sub kp kp') : rQ T Z W kp' F σ ρ post x := by
  cases x with
  | ok a g => exact q
  | ex e g => exact exQ.kpw q h
  | bad => exact q
section
variable {X : Cx} {T : Tb} {Z : Act} {W : WX} {own ob : List Nat} {a b : Expr} {fa fb : PP.X} {x y : Str} {i j : Nat} {px py pt pos : Pos} {kt k2 : Nat} {pt2 : Pos}
/-- x, y = a new list, b: x its owner -/
theorem s_parF (hc : X.calm = true) (hN : X.N.Nodup) (hi : X.N[i]? = some x) (hj : X.N[j]? = some y) (hij : i ≠ j)
    (hx : X.env.scope.names.lookup x = some .local) (hy : X.env.scope.names.lookup y = some .local) (ha : XF X T Z W own a fa) (hlst : ∀ ρ g d g', fa ρ g = .ok d g' → ∃ l, d = .lst l) (hb : XE X T Z W own b fb)
    (hw : swappedStores [.Tuple [.Name x px, .Name y py] kt pt] (.Tuple [a, b] k2 pt2) X.env = pure (some [x, y])) (hio : i ∉ own) (hjo : j ∉ own)
    (hs : swapsWithSole [.Tuple [.Name x px, .Name y py] kt pt] (.Tuple [a, b] k2 pt2) pos.line X.env = pure false := by rfl) (hs1 : starEach [a, b] X.env = (false, eval a X.env) :: starEach [b] X.env := by rfl) (hs2 : starEach [b] X.env = (false, eval b X.env) :: starEach [] X.env := by rfl) :
    YS X T Z W own ob (.Assign [.Tuple [.Name x px, .Name y py] kt pt] (.Tuple [a, b] k2 pt2) pos) (sPar i j fa fb) (i :: own) :=
  PS.imp (ps_par hc hN hi hj hij hx hy (pa_cons ha (pa_cons hb pa_nil hs2) hs1) hw hs) fun D σ H ⟨kp, F, ρ, g, c, q⟩ => by
    refine tPF.then c (to_bind (σ := σ) q) hlst fun ds g1 p F1 H1 q1 c1 s1 w n => ?_
    obtain ⟨us, hl, r, ch⟩ := c1.hold w n
    have zk := w.k
    have ks : Sub kp (upd kp p (.lst us)) := (Sub.refl kp).upd zk
    refine tP.then ch (((to_bind (σ := σ) q1).up s1 fun _ _ z => z).kpw ks) fun d g2 v F2 H2 q2 c2 s2 r2 => ?_
    by_cases hlr : i < ρ.length ∧ j < ρ.length
    · simp only [if_pos hlr] at q2
      obtain ⟨c3, w3, n3⟩ := c2.unhold zk w.h0 hl (RepL.mono s2 _ _ r) w.g
      exact ⟨.ref p, v, rfl, q2 _ F2 H2 ((c3.take w3 n3 hio hlr.1).set (fun h => (List.mem_cons.mp h).elim (fun e => hij e.symm) hjo) r2) (s1.trans s2)⟩
    · simp only [if_neg hlr] at q2
      exact q2.elim
/-- x, y = a, a new list: y its owner -/
theorem s_parG (hc : X.calm = true) (hN : X.N.Nodup) (hi : X.N[i]? = some x) (hj : X.N[j]? = some y) (hij : i ≠ j)
    (hx : X.env.scope.names.lookup x = some .local) (hy : X.env.scope.names.lookup y = some .local) (ha : XE X T Z W own a fa) (hb : XF X T Z W own b fb) (hlst : ∀ ρ g d g', fb ρ g = .ok d g' → ∃ l, d = .lst l)
    (hw : swappedStores [.Tuple [.Name x px, .Name y py] kt pt] (.Tuple [a, b] k2 pt2) X.env = pure (some [x, y])) (hio : i ∉ own) (hjo : j ∉ own)
    (hs : swapsWithSole [.Tuple [.Name x px, .Name y py] kt pt] (.Tuple [a, b] k2 pt2) pos.line X.env = pure false := by rfl) (hs1 : starEach [a, b] X.env = (false, eval a X.env) :: starEach [b] X.env := by rfl) (hs2 : starEach [b] X.env = (false, eval b X.env) :: starEach [] X.env := by rfl) :
    YS X T Z W own ob (.Assign [.Tuple [.Name x px, .Name y py] kt pt] (.Tuple [a, b] k2 pt2) pos) (sPar i j fa fb) (j :: own) :=
  PS.imp (ps_par hc hN hi hj hij hx hy (pa_cons ha (pa_cons hb pa_nil hs2) hs1) hw hs) fun D σ H ⟨kp, F, ρ, g, c, q⟩ => by
    refine tP.then c (to_bind (σ := σ) q) fun d g1 v F1 H1 q1 c1 s1 r1 => ?_
    refine tPF.then c1 ((to_bind (σ := σ) q1).up s1 fun _ _ z => z) hlst fun ds g2 p F2 H2 q2 c2 s2 w n => ?_
    by_cases hlr : i < ρ.length ∧ j < ρ.length
    · simp only [if_pos hlr] at q2
      have c3 := c2.set hio (Rep.mono s2 _ _ r1)
      have n3 : ∀ m ∈ own, (σ.set i (some v))[m]? ≠ some (some (.ref p)) := fun m hm => by
        rw [List.getElem?_set_ne (fun e => hio (by rw [e]; exact hm))]; exact n m hm
      exact ⟨v, .ref p, rfl, q2 _ F2 H2 (c3.take w n3 hjo (by simpa using hlr.2)) (s1.trans s2)⟩
    · simp only [if_neg hlr] at q2
      exact q2.elim
end
/-! ### a call of a value: no exception in the arguments -/
def Nx (f : XA) : Prop := ∀ ρ g e g', f ρ g ≠ .ex e g'
theorem nx_nil : Nx aNil := fun _ _ _ _ h => by cases h
theorem nx_ix {i : Nat} {m : Int} {a : XA} (h : Nx a) : Nx (aCons (xBin ixD (xVar i) (xC (.int m))) a) := fun ρ g e g' q => by
  unfold aCons xBin xC xVar at q
  cases hv : ρ[i]? with
  | none => rw [hv] at q; cases q
  | some o =>
    rw [hv] at q
    cases o with
    | none => cases q
    | some d =>
      simp only [PP.R.bind_ok] at q
      cases hx : ixD d (.int m) with
      | none => rw [hx] at q; cases q
      | some d' =>
        rw [hx] at q
        simp only [ofO_some, PP.R.bind_ok] at q
        cases ha : a ρ g with
        | ok ds g2 => rw [ha] at q; cases q
        | bad => rw [ha] at q; cases q
        | ex e2 g2 => exact h _ _ _ _ ha
/-- a table's entries of one number of parameters -/
theorem tbl_of {P : Program} {w : World} {K : PySem.W.Frag} {mg : Str → Option Value} {base : Heap} {T : Tb} {k m : Nat} {tbl : Nat → FN}
    (h : ∀ n fA, T.fnA n = some fA → Ok P w K mg base T k fA m (tbl n) ∨ ∀ ds g, ds.length = m → tbl n ds g = .bad) : Tbl P w K mg base T k m tbl := ⟨fun n fA e => (h n fA e).imp (fun o => o.ex) id⟩
/-! ### suites that no run comes to -/
theorem ss_never {X : Cx} {T : Tb} {Z : Act} {W : WX} {own ob own2 : List Nat} {sts : List Stmt} : YSs X T Z W own ob sts (fun _ _ => .bad) own2 := PSs.imp pss_never fun D σ H ⟨kp, F, ρ, g, c, q⟩ => q.elim
end PP

set_option Elab.async false
set_option linter.all false
set_option maxRecDepth 100000
set_option maxHeartbeats 4000000
set_option exponentiation.threshold 10000
namespace PP
open PySem L2
open PyProof.Rows (envOfC)

/-! ### the draw -/
theorem take_inv {T : Tb} {F0 : Hp} {vs : List V} {ds : List D} {g : G} {P : D → G → Prop} {P2 : Ex → G → Prop} (r : RepL T F0 vs ds) (h : match takeF ds g with
    | .ok d g' => P d g'
    | .ex e g' => P2 e g'
    | .bad => False) : ∃ m : Int, vs = [.ref g.at_, .int m] ∧ g.on = true ∧ 0 < m ∧ m < 1000000000000000000 ∧ P (.int (tkG g m).1) (tkG g m).2 := by
  unfold takeF at h
  split at h
  · rename_i heq
    split at heq
    · rename_i a m
      split at heq
      · rename_i hc
        obtain ⟨h1, h2, h3, h4⟩ := hc
        cases heq
        obtain ⟨x, y, rfl, r1, r2⟩ := call2 r
        obtain rfl := rep_gen r1
        obtain rfl := rep_int r2
        exact ⟨m, by rw [h2], h1, h3, by omega, h⟩
      · cases heq
    · cases heq
  · rename_i heq
    split at heq
    · split at heq <;> cases heq
    · cases heq
  · exact h.elim
theorem take_post {F0 H : Hp} {g g' : G} (s : Sub F0 H) (hf : F0 g.at_ = none) (hh : ∃ o, H g.at_ = some o) (h1 : g'.on = g.on) (h2 : g'.at_ = g.at_) (h3 : GOk g') (ho : g.on = true) : Post F0 H g g' F0 (upd H g.at_ (.lst [.int g'.s, .int g'.t])) where
  ff := .refl _
  fh := s.upd hf
  new := fun a o e => .inl e
  keep := fun a o e n => by
    by_cases h : a = g.at_
    · exact absurd h (n ho)
    · rw [upd_ne h]; exact e
  on := h1
  at_ := h2
  gen := fun _ => ⟨upd_same, hf, h3⟩
theorem tkG_on (g : G) (m : Int) : (tkG g m).2.on = g.on := by unfold tkG; split <;> rfl
theorem tkG_at (g : G) (m : Int) : (tkG g m).2.at_ = g.at_ := by unfold tkG; split <;> rfl
theorem tkG_ok {g : G} {m : Int} (h : GOk g) (hm : 0 < m) : GOk (tkG g m).2 := by
  obtain ⟨h1, h2, h3⟩ := h
  unfold tkG
  split
  · exact ⟨Int.ediv_nonneg h1 (by omega), h2, h3⟩
  · exact ⟨h1, Int.emod_nonneg _ (by decide), Int.emod_lt_of_pos _ (by decide)⟩
theorem div_ok {m : Int} (h : 0 < m) (h2 : m < 1000000000000000000) : 0 < m ∧ m.natAbs.log2 < 9000 := by
  refine ⟨h, ?_⟩
  have h3 : m.natAbs ≠ 0 := by omega
  rw [Nat.log2_lt h3]
  have : m.natAbs < 2 ^ 60 := by
    have e : (2 : Nat) ^ 60 = 1152921504606846976 := by decide
    rw [e]; omega
  exact Nat.lt_of_lt_of_le this (Nat.pow_le_pow_right (by decide) (by decide))
/-! ### a def that promises nothing -/
theorem ok_bad {T : Tb} {P : Program} {w : World} {mg : Str → Option Value} {base : Heap} {x qual : Str} {st : Stmt} {fA : Addr} {fd : FuncData} {N ps : List Str} {k m : Nat} (F : Fun T.K x qual st fA fd) (b : Binds T.K fd ps []) (Sc : FnScope N ps (defScope st)) (hm : ps.length = m := by rfl) :
    Ok P w T.K mg base T (k + 1) fA m (fun _ _ => .bad) := by
  refine ⟨fd, ps, F.okX Sc (fun vs H Q E ⟨F0, ds, g, hl, _⟩ => by rw [hl, hm]) fun cdv A outer s H vs Q E hr ⟨F0, ds, g, hl, h1, h2, h3, h4⟩ => h4.elim, F.kp, b⟩
/-! ### the law -/
def spLaw (K : PySem.W.Frag) : Sp := fun vs H Q _ => ∃ (a : Addr) (ns : List Int), vs = [.ref a] ∧ SqL K H a (ns.map V.int) ∧ ns.length ≤ 63 ∧ ∀ H', Q (.bl true) H'
theorem PSs.ex {X : Cx} {α : Type} {sts : List Stmt} {t : α → TS} (h : ∀ z, PSs X sts (t z)) : PSs X sts (fun D σ H => ∃ z, t z D σ H) := ⟨fun pins s σ H D I ⟨z, q⟩ => (h z).run pins s σ H D I q⟩
/-- a state of the draw -/
def spState (K : PySem.W.Frag) : Sp := fun vs H Q _ => ∃ (a : Addr) (ns : List Int), vs = [.ref a] ∧ SqL K H a (ns.map V.int) ∧ ∀ (s t : Int) (p : Addr) (H' : Hp), 0 ≤ s → 0 ≤ t → t < 2147483647 → H' p = some (.lst [.int s, .int t]) → Q (.ref p) H'
theorem law_mk {T : Tb} {P : Program} {w : World} {mg : Str → Option Value} {base : Heap} {x qual : Str} {st : Stmt} {fA fS : Addr} {fd : FuncData} {N : List Str} {k : Nat} {S : PP.S} {own : List Nat} {fdS : FuncData} {psS : List Str} {q1 q2 q3 q4 q5 : Pos} {rest : List Stmt}
    (F : Fun T.K x qual st fA fd) (Sc : FnScope N ["script"] (defScope st)) (hst : defBody st = .Assign [.Name "state" q1] (.Call (.Name "_law_state" q2) [.Name "script" q3] [] q4) q5 :: rest)
    (FS1 : FnOk P w T.K mg base (L2.CX P w) k fS fdS psS (spState T.K)) (kS : PySem.W.keepIn T.K (.ref fS) = true) (bS : Binds T.K fdS psS []) (gS : mg "_law_state" = some (.ref fS))
    (hN0 : N[0]? = some ("script" : Str)) (hN1 : N[1]? = some ("state" : Str)) (hv0 : Vis (defScope st) "script") (hv1 : Loc (defScope st) "state") (hgl : ∀ (cdv : Value) (A : Around) (outer : List PySem.Env) (s : Shared) (H : Hp) (E : XK), Gl (cxOf (L2.CX P w) P w T.K mg base N qual (defScope st) fA cdv A outer s H E) "_law_state")
    (hf1 : ∀ (cdv : Value) (A : Around) (outer : List PySem.Env) (s : Shared) (H : Hp) (E : XK), (cxOf (L2.CX P w) P w T.K mg base N qual (defScope st) fA cdv A outer s H E).fn "state" = true ∨ (defScope st).names.lookup ("state" : Str) = some .local)
    (hb : ∀ (cdv : Value) (A : Around) (outer : List PySem.Env) (s : Shared) (H : Hp) (E : XK) (Z : Act), Room k (A.deeper (envOfC qual (defScope st) s.heap.objs.size fA cdv)) →
      YSs (cxOf (L2.CX P w) P w T.K mg base N qual (defScope st) fA cdv A outer s H E) T Z (fun cls d _ H => E cls d H) [] [] rest S own)
    (hR : ∀ (a : Nat) (g : G), g.on = true → g.at_ = a → GOk g → ∃ g', S ([none, some (.gen a)] ++ List.replicate (N.length - 2) none) g = .rt (.bl true) g') :
    FnOk P w T.K mg base (L2.CX P w) (k + 1) fA fd ["script"] (spLaw T.K) := by
  refine F.okX Sc (fun vs H Q E ⟨a, ns, e, _⟩ => by rw [e]; rfl) fun cdv A outer s H vs Q E hr ⟨a, ns, e, hSq, hl, hq⟩ => ?_
  subst e
  refine ⟨_, by
    rw [hst]
    exact pss_cons (ps_set (i := 1) Sc.nd hN1 hv1 (pe_callS FS1 hr (hgl cdv A outer s H E) gS kS bS (fun σ => passAt (takes_of rfl rfl rfl rfl) σ) (pa_cons (pe_var (i := 0) hN0 hv0) pa_nil)) (hf := hf1 cdv A outer s H E)) (PSs.ex fun Z => hb cdv A outer s H E Z hr), ?_⟩
  have hlen : 2 ≤ N.length := by
    have := List.getElem?_eq_some_iff.mp hN1
    obtain ⟨z, _⟩ := this
    omega
  have e0 : ((L2.start N [V.ref a])[0]?) = some (some (.ref a)) := by
    unfold L2.start
    rfl
  refine ⟨.ref a, e0, a, ns, rfl, hSq, fun sS tS' b H' b1 b2 b3 hb' => ?_⟩
  obtain ⟨g', hg'⟩ := hR b ⟨true, b, sS, tS'⟩ rfl rfl ⟨b1, b2, b3⟩
  refine ⟨⟨H', fun _ => none, true, b⟩, fun _ => none, fun _ => none, [none, some (.gen b)] ++ List.replicate (N.length - 2) none, ⟨true, b, sS, tS'⟩, ⟨?_, ?_, (fun i hi => by cases hi), fun i d _ e => ?_⟩, ?_⟩
  · exact {
      sub := fun _ _ e => by cases e
      kph := fun _ _ e => by cases e
      kpf := fun _ _ e => by cases e
      base := fun _ _ e _ => e
      new := fun _ _ e => by cases e
      f0 := .refl _
      fh0 := fun _ _ e => by cases e
      on := rfl
      at_ := rfl
      gen := fun _ => ⟨hb', rfl, rfl, b1, b2, b3⟩ }
  · unfold L2.start
    simp
    omega
  · match i, e with
    | 0, e => simp at e
    | 1, e =>
      simp at e
      subst e
      refine ⟨.ref b, ?_, by unfold Rep; rfl⟩
      rw [List.getElem?_set_self]
      unfold L2.start
      simp
      omega
    | i + 2, e =>
      simp [List.getElem?_replicate] at e
  · rw [hg']
    intro v F2 H2 c2 s2 r2
    obtain rfl := rep_bl r2
    exact hq H2
end PP

set_option Elab.async false
set_option linter.all false
set_option maxRecDepth 100000
set_option maxHeartbeats 4000000
/-! list(zip(a, b)), a and b tuples: the pairs stay, so each is a new one. -/
namespace PPZ
open PySem PySem.W PySem.Calls PyProof.Rows PySem.Spec
theorem no_len : typeLookup (.type "zip") "__len__" = pure none := am_miss_of_fast (by decide +kernel)
theorem no_hint : typeLookup (.type "zip") "__length_hint__" = pure none := am_miss_of_fast (by decide +kernel)
section
variable {prog : Program} {w : World} {A : Around} {E : Value → Shared → Prop} {s : Shared}
theorem next_held {z TI TO T i1 i2 l1 l2 : Addr} {f : Bool} {oT : Obj} {k1 k2 : Nat} {xs ys : Array Value} {x y : Value} {Q : Value → Shared → Prop} (D : ZipApart z TI TO i1 i2 l1 l2) (hz : IsZipHeld s.heap z TI TO T f) (hT : s.heap.get? T = some oT) (hTI : IsPair s.heap TI (.ref i1) (.ref i2))
    (h1 : s.heap.IsTupleIter i1 l1 k1) (h2 : s.heap.IsTupleIter i2 l2 k2) (hl1 : s.heap.IsTuple l1 xs) (hl2 : s.heap.IsTuple l2 ys) (hx : xs[k1]? = some x) (hy : ys[k2]? = some y)
    (hQ : ∀ h', IsZipHeld h' z TI TO T true → h'.IsTupleIter i1 l1 (k1 + 1) → h'.IsTupleIter i2 l2 (k2 + 1) → IsPair h' s.heap.objs.size x y → h'.objs.size = s.heap.objs.size + 1 → (∀ c o, c ≠ z → c ≠ i1 → c ≠ i2 → s.heap.get? c = some o → h'.get? c = some o) → Q (.ref s.heap.objs.size) { s with heap := h' }) :
    wpAny (model prog w) A (Builtin.«zip.__next__» ⟨[.ref z], []⟩) (fun fin s' => ∃ v, fin = .done (.ret v) ∧ Q v s') E s := by
  show wpAny _ _ (field (.ref z) 2 >>= _) _ _ _; refine wpAny_bind (wpAny_field hz rfl (x := .bool false) rfl ?_); show wpAny _ _ (field (.ref z) 3 >>= _) _ _ _
  refine wpAny_bind (wpAny_field hz rfl (x := .ref TI) rfl ?_); refine wpAny_bind (wpAny_seqItems hTI rfl ?_); show wpAny _ _ (Builtin.SmallTypes.ownedTupleIsFree (.ref z) >>= _) _ _ _
  refine wpAny_bind (wpAny_tupleHeld_zip hz hT fun h₁ hz₁ hs₁ => ?_); simp only [Bool.false_eq_true, if_false]; refine wpAny_bind ?_
  rw [← Array.forIn_toList]; simp only [List.forIn_cons, List.forIn_nil]; refine wpAny_bind (wpAny_bind (wpAny_holding ?_))
  show wpAny _ _ (Builtin.SmallTypes.nextOf (.ref i1) >>= _) _ _ _; refine wpAny_bind (RZ.nextOf_tuple_item (s := { s with heap := h₁ }) (h1.extBut hs₁.extBut D.i1z) (hl1.extBut hs₁.extBut D.l1z) hx fun h₂ h1₂ hs₂ => wpAny_pure ?_)
  refine wpAny_pure ?_; refine wpAny_bind (wpAny_bind (wpAny_holding ?_)); show wpAny _ _ (Builtin.SmallTypes.nextOf (.ref i2) >>= _) _ _ _
  refine wpAny_bind (RZ.nextOf_tuple_item (s := { s with heap := h₂ }) ((h2.extBut hs₁.extBut D.i2z).extBut hs₂.extBut D.i12.symm) ((hl2.extBut hs₁.extBut D.l2z).extBut hs₂.extBut D.l2i1) hy fun h₃ h2₃ hs₃ => wpAny_pure ?_)
  refine wpAny_pure (wpAny_pure ?_); show wpAny _ _ (newTuple [x, y] >>= _) _ _ _; refine wpAny_bind (wpAny_newTuple ?_)
  have hsz : h₃.objs.size = s.heap.objs.size := by rw [hs₃.1, hs₂.1, hs₁.1]
  have hz₃ : IsZipHeld h₃ z TI TO T true := hs₃.extBut _ _ D.i2z.symm (hs₂.extBut _ _ D.i1z.symm hz₁)
  have hk : ∀ c o, c ≠ z → c ≠ i1 → c ≠ i2 → s.heap.get? c = some o → h₃.get? c = some o := fun c o c1 c2 c3 e => hs₃.extBut _ _ c3 (hs₂.extBut _ _ c2 (hs₁.extBut _ _ c1 e))
  have h1₃ : h₃.IsTupleIter i1 l1 (k1 + 1) := h1₂.extBut hs₃.extBut D.i12
  refine wpAny_pure ⟨_, rfl, ?_⟩; show Q (.ref h₃.objs.size) _
  have hp : IsPair (h₃.push { cls := .type "tuple", data := .seq #[x, y] }) h₃.objs.size x y := Heap.get?_push_size _ rfl
  have hz4 : (h₃.push { cls := .type "tuple", data := .seq #[x, y] }).objs.size = h₃.objs.size + 1 := Heap.size_push ..
  rw [hsz] at hp hz4 ⊢
  exact hQ _ (Heap.get?_push_of_some _ hz₃) (h1₃.at fun o e => Heap.get?_push_of_some _ e) (h2₃.at fun o e => Heap.get?_push_of_some _ e) hp hz4 fun c o c1 c2 c3 e => Heap.get?_push_of_some _ (hk c o c1 c2 c3 e)
theorem end_held {z TI TO T i1 i2 l1 l2 : Addr} {f : Bool} {oT : Obj} {k1 k2 : Nat} {xs ys : Array Value} {Q : Fin → Shared → Prop} (hh : A.handled = none) (D : ZipApart z TI TO i1 i2 l1 l2) (hz : IsZipHeld s.heap z TI TO T f) (hT : s.heap.get? T = some oT) (hTI : IsPair s.heap TI (.ref i1) (.ref i2))
    (h1 : s.heap.IsTupleIter i1 l1 k1) (h2 : s.heap.IsTupleIter i2 l2 k2) (hl1 : s.heap.IsTuple l1 xs) (hl2 : s.heap.IsTuple l2 ys) (hend : xs[k1]? = none ∨ ys[k2]? = none)
    (hE : ∀ h' e, (∀ c o, c ≠ z → c ≠ i1 → c ≠ i2 → s.heap.get? c = some o → h'.get? c = some o) → (∃ o, h'.get? e = some o ∧ o.cls = .type "StopIteration") → E (.ref e) { s with heap := h' }) : wpAny (model prog w) A (Builtin.«zip.__next__» ⟨[.ref z], []⟩) Q E s := by
  show wpAny _ _ (field (.ref z) 2 >>= _) _ _ _; refine wpAny_bind (wpAny_field hz rfl (x := .bool false) rfl ?_); show wpAny _ _ (field (.ref z) 3 >>= _) _ _ _
  refine wpAny_bind (wpAny_field hz rfl (x := .ref TI) rfl ?_); refine wpAny_bind (wpAny_seqItems hTI rfl ?_); show wpAny _ _ (Builtin.SmallTypes.ownedTupleIsFree (.ref z) >>= _) _ _ _
  refine wpAny_bind (wpAny_tupleHeld_zip hz hT fun h₁ hz₁ hs₁ => ?_); simp only [Bool.false_eq_true, if_false]; refine wpAny_bind ?_
  rw [← Array.forIn_toList]; simp only [List.forIn_cons, List.forIn_nil]; refine wpAny_bind (wpAny_bind (wpAny_holding ?_))
  show wpAny _ _ (Builtin.SmallTypes.nextOf (.ref i1) >>= _) _ _ _; cases hx : xs[k1]? with
  | none => exact wpAny_bind (RZ.nextOf_tuple_end (s := { s with heap := h₁ }) hh (h1.extBut hs₁.extBut D.i1z) (hl1.extBut hs₁.extBut D.l1z) hx fun h₂ e hs₂ he => hE h₂ e (fun c o c1 c2 _ x => hs₂ _ _ c2 (hs₁.extBut _ _ c1 x)) he)
  | some x =>
    have hy : ys[k2]? = none := by rcases hend with h | h; rw [hx] at h; cases h; exact h
    refine wpAny_bind (RZ.nextOf_tuple_item (s := { s with heap := h₁ }) (h1.extBut hs₁.extBut D.i1z) (hl1.extBut hs₁.extBut D.l1z) hx fun h₂ h1₂ hs₂ => wpAny_pure ?_); refine wpAny_pure ?_; refine wpAny_bind (wpAny_bind (wpAny_holding ?_))
    show wpAny _ _ (Builtin.SmallTypes.nextOf (.ref i2) >>= _) _ _ _; refine wpAny_bind (RZ.nextOf_tuple_end (s := { s with heap := h₂ }) hh ((h2.extBut hs₁.extBut D.i2z).extBut hs₂.extBut D.i12.symm) ((hl2.extBut hs₁.extBut D.l2z).extBut hs₂.extBut D.l2i1) hy fun h₃ e hs₃ he => ?_)
    exact hE h₃ e (fun c o c1 c2 c3 x => hs₃ _ _ c3 (hs₂.extBut _ _ c2 (hs₁.extBut _ _ c1 x))) he
/-- a zip of two tuples that has given out k pairs, which stay -/
def ZSt (h : Heap) (z TI TO i1 i2 a b S : Addr) (k : Nat) : Prop := IsPair h TI (.ref i1) (.ref i2) ∧ h.IsTupleIter i1 a k ∧ h.IsTupleIter i2 b k ∧
  ((IsZip h z TI TO .none ∧ ∃ x y, IsPair h TO x y) ∨ ∃ (T : Addr) (f : Bool) (oT : Obj), IsZipHeld h z TI TO T f ∧ h.get? T = some oT ∧ T ≠ z ∧ T ≠ i1 ∧ T ≠ i2 ∧ T ≠ S)
variable {z TI TO i1 i2 a b S : Addr} {k : Nat} {xs ys : Array Value}
theorem ZSt.keep {h h' : Heap} (st : ZSt h z TI TO i1 i2 a b S k) (up : ∀ c o, c ≠ S → h.get? c = some o → h'.get? c = some o) (n0 : TI ≠ S) (n1 : i1 ≠ S) (n2 : i2 ≠ S) (n3 : z ≠ S) (n4 : TO ≠ S) : ZSt h' z TI TO i1 i2 a b S k := by
  obtain ⟨q1, q2, q3, q4⟩ := st
  refine ⟨up _ _ n0 q1, q2.at fun o e => up _ o n1 e, q3.at fun o e => up _ o n2 e, ?_⟩
  rcases q4 with ⟨g1, x, y, g2⟩ | ⟨T, f, oT, g1, g2, r1, r2, r3, r4⟩
  · exact .inl ⟨up _ _ n3 g1, x, y, up _ _ n4 g2⟩
  · exact .inr ⟨T, f, oT, up _ _ n3 g1, up _ _ r4 g2, r1, r2, r3, r4⟩
theorem item {x y : Value} {Q : Option Value → Shared → Prop} (D : ZipApart z TI TO i1 i2 a b) (st : ZSt s.heap z TI TO i1 i2 a b S k) (hS : S < s.heap.objs.size) (ha : s.heap.IsTuple a xs) (hb : s.heap.IsTuple b ys) (hx : xs[k]? = some x) (hy : ys[k]? = some y)
    (hQ : ∀ h', ZSt h' z TI TO i1 i2 a b S (k + 1) → IsPair h' s.heap.objs.size x y → h'.objs.size = s.heap.objs.size + 1 → (∀ c o, c ≠ z → c ≠ TO → c ≠ i1 → c ≠ i2 → s.heap.get? c = some o → h'.get? c = some o) → Q (some (.ref s.heap.objs.size)) { s with heap := h' }) :
    wpAny (model prog w) A (pyNext (.ref z)) Q E s := by
  obtain ⟨q1, q2, q3, q4⟩ := st
  have n1 : s.heap.objs.size ≠ i1 := by obtain ⟨_, e, _⟩ := q2; exact Nat.ne_of_gt (Heap.lt_size e)
  have n2 : s.heap.objs.size ≠ i2 := by obtain ⟨_, e, _⟩ := q3; exact Nat.ne_of_gt (Heap.lt_size e)
  rcases q4 with ⟨g1, x0, y0, g2⟩ | ⟨T, f, oT, g1, g2, r1, r2, r3, r4⟩
  · refine RZ.pyNext_zipT_item D g1 q1 g2 q2 q3 ha hb hx hy fun h' a1 a2 a3 a4 a5 a6 a7 => hQ h' ⟨a7 _ _ D.TIz D.TITO D.TIi1 D.TIi2 q1, a3, a4, .inr ⟨s.heap.objs.size, false, _, a1, a5, Nat.ne_of_gt (Heap.lt_size g1), n1, n2, Nat.ne_of_gt hS⟩⟩ a5 a6 a7
  · have hTy : s.TypeIs (.ref z) "zip" := ⟨_, g1, rfl⟩
    unfold pyNext
    refine wpAny_bind (wpAny_attempt (wpAny_callSpecial?_slot (name := Str.ofString "__next__") hTy F.slot_zip_next (wpAny_call_entry F.slot_zip_next hTy F.entry_zip_next (next_held D g1 g2 q1 q2 q3 ha hb hx hy fun h' a1 a3 a4 a5 a6 a7 => ?_) (F.args_zip_next_1 _))))
    exact wpAny_pure (hQ h' ⟨a7 _ _ D.TIz D.TIi1 D.TIi2 q1, a3, a4, .inr ⟨T, true, oT, a1, a7 _ _ r1 r2 r3 g2, r1, r2, r3, r4⟩⟩ a5 a6 fun c o c1 _ c3 c4 e => a7 c o c1 c3 c4 e)
theorem done {Q : Option Value → Shared → Prop} (hh : A.handled = none) (D : ZipApart z TI TO i1 i2 a b) (st : ZSt s.heap z TI TO i1 i2 a b S k) (ha : s.heap.IsTuple a xs) (hb : s.heap.IsTuple b ys) (hend : xs[k]? = none ∨ ys[k]? = none)
    (hQ : ∀ h', (∀ c o, c ≠ z → c ≠ TO → c ≠ i1 → c ≠ i2 → s.heap.get? c = some o → h'.get? c = some o) → Q none { s with heap := h' }) : wpAny (model prog w) A (pyNext (.ref z)) Q E s := by
  obtain ⟨q1, q2, q3, q4⟩ := st
  rcases q4 with ⟨g1, x0, y0, g2⟩ | ⟨T, f, oT, g1, g2, r1, r2, r3, r4⟩
  · exact RZ.pyNext_zipT_end hh D g1 q1 g2 q2 q3 ha hb hend hQ
  · have hTy : s.TypeIs (.ref z) "zip" := ⟨_, g1, rfl⟩
    unfold pyNext
    refine wpAny_bind (wpAny_attempt (wpAny_callSpecial?_slot (name := Str.ofString "__next__") hTy F.slot_zip_next (wpAny_call_entry F.slot_zip_next hTy F.entry_zip_next (end_held hh D g1 g2 q1 q2 q3 ha hb hend fun h' e hk he => ?_) (F.args_zip_next_1 _))))
    obtain ⟨o, ho, hc⟩ := he
    exact wpAny_bind (wpAny_isInstance (T := "StopIteration") (b := true) ⟨o, ho, hc⟩ isSubtype_stop (wpAny_pure (hQ _ fun c o c1 _ c3 c4 e => hk c o c1 c3 c4 e)))
end
/-- the pairs that were given out, in order: new tuples above lo -/
structure Gv (xs ys : Array Value) (lo : Addr) (h : Heap) (as : List Addr) : Prop where
  up : ∀ a ∈ as, lo < a
  rise : as.Pairwise (· < ·)
  pr : ∀ (j : Nat) (a : Addr), as[j]? = some a → ∃ x y, xs[j]? = some x ∧ ys[j]? = some y ∧ IsPair h a x y
section
variable {prog : Program} {w : World} {A : Around} {s : Shared} {R : Result → Shared → Prop} {z TI TO i1 i2 a b S : Addr} {xs ys : Array Value} {n : Nat}
theorem loop (hh : A.handled = none) (D : ZipApart z TI TO i1 i2 a b) (hn : n = min xs.size ys.size) (hn2 : n ≤ sizeLine) (o1 : z < S) (o2 : TI < z) (o3 : TO < z) (o4 : i1 < z) (o5 : i2 < z) (aS : a ≠ S) (bS : b ≠ S) (res : Value) {h₁ : Heap}
    (hR : ∀ h' tk acc c as, (∀ p o, p ≠ S → p ≠ z → p ≠ TO → p ≠ i1 → p ≠ i2 → h₁.get? p = some o → h'.get? p = some o) → h'.get? S = some { cls := .type "list", dict := none, data := .seq acc c, slots := #[] } → as.length = n → Gv xs ys S h' as → acc.toList = as.map Value.ref → R (.ok (.ret res)) { s with heap := h', toks := tk }) :
    ∀ (k i : Nat) (h : Heap) (tk c : Nat) (acc : Array Value) (as : List Addr), n - i = k → i ≤ n → ZSt h z TI TO i1 i2 a b S i → h.IsTuple a xs → h.IsTuple b ys → (∀ p o, p ≠ S → p ≠ z → p ≠ TO → p ≠ i1 → p ≠ i2 → h₁.get? p = some o → h.get? p = some o) →
      h.get? S = some { cls := .type "list", dict := none, data := .seq acc c, slots := #[] } → acc.toList = as.map Value.ref → as.length = i → Gv xs ys S h as →
      codeAny (model prog w) A (.builtin "list.extend.loop" ⟨[.ref S, .ref z, res], []⟩) R { s with heap := h, toks := tk } := by
  have nS : ∀ p, p < z → p ≠ S := fun p hp => by intro e; rw [e] at hp; exact absurd (Nat.lt_trans o1 hp) (Nat.lt_irrefl _)
  have zS : z ≠ S := Nat.ne_of_lt o1
  have above : ∀ p, S < p → p ≠ S ∧ p ≠ z ∧ p ≠ TO ∧ p ≠ i1 ∧ p ≠ i2 := fun p hp => by
    have q := Nat.lt_trans o1 hp
    exact ⟨Nat.ne_of_gt hp, Nat.ne_of_gt q, Nat.ne_of_gt (Nat.lt_trans o3 q), Nat.ne_of_gt (Nat.lt_trans o4 q), Nat.ne_of_gt (Nat.lt_trans o5 q)⟩
  intro k
  induction k with
  | zero =>
    intro i h tk c acc as hk hi hst ha hb hkeep hS hacc hal hG
    have e : i = n := Nat.le_antisymm hi (Nat.le_of_sub_eq_zero hk)
    have hend : xs[i]? = none ∨ ys[i]? = none := by
      rcases Nat.le_total xs.size ys.size with q | q
      · exact .inl (Array.getElem?_eq_none (by rw [e, hn, Nat.min_eq_left q]; exact Nat.le_refl _))
      · exact .inr (Array.getElem?_eq_none (by rw [e, hn, Nat.min_eq_right q]; exact Nat.le_refl _))
    refine codeAny_builtin PySem.F.entry_extend_loop ?_; rw [Around.under_plainId PySem.F.plain_extend_loop _]; show wpAny _ A.in1 (pyNext (.ref z) >>= _) _ _ _
    refine wpAny_bind (done (s := { s with heap := h, toks := tk }) (A := A.in1) hh D hst ha hb hend fun h' he => ?_)
    refine wpAny_pure (hR h' tk acc c as (fun p o p1 p2 p3 p4 p5 q => he p o p2 p3 p4 p5 (hkeep p o p1 p2 p3 p4 p5 q)) (he S _ (Ne.symm zS) (Ne.symm (nS _ o3)) (Ne.symm (nS _ o4)) (Ne.symm (nS _ o5)) hS) (by rw [hal, e]) ⟨hG.up, hG.rise, fun j p hj => ?_⟩ hacc)
    obtain ⟨x, y, e1, e2, e3⟩ := hG.pr j p hj
    obtain ⟨_, p2, p3, p4, p5⟩ := above p (hG.up p (List.mem_of_getElem? hj))
    exact ⟨x, y, e1, e2, he p _ p2 p3 p4 p5 e3⟩
  | succ k ih =>
    intro i h tk c acc as hk hi hst ha hb hkeep hS hacc hal hG
    have hlt : i < n := by omega
    have hx : xs[i]? = some xs[i] := Array.getElem?_eq_getElem (by omega)
    have hy : ys[i]? = some ys[i] := Array.getElem?_eq_getElem (by omega)
    have hsz : acc.size = i := by rw [← Array.length_toList, hacc, List.length_map, hal]
    have hSl : S < h.objs.size := Heap.lt_size hS
    refine codeAny_builtin PySem.F.entry_extend_loop ?_; rw [Around.under_plainId PySem.F.plain_extend_loop _]; show wpAny _ A.in1 (pyNext (.ref z) >>= _) _ _ _
    refine wpAny_bind (item (s := { s with heap := h, toks := tk }) D hst hSl ha hb hx hy fun h' hst' ht hz hkp => ?_)
    dsimp only at ht hz hkp ⊢
    have hS' := hkp S _ (Ne.symm zS) (Ne.symm (nS _ o3)) (Ne.symm (nS _ o4)) (Ne.symm (nS _ o5)) hS
    have up : ∀ p o, p ≠ S → h'.get? p = some o → (h'.update S (Obj.mapSeq (·.push (Value.ref h.objs.size)))).get? p = some o := fun p o hp e => (Heap.get?_update_other _ _ (Ne.symm hp)).trans e
    have ha' : h'.IsTuple a xs := ha.at fun o e => hkp a o D.l1z D.l1TO D.l1i1 D.l1i2 e
    have hb' : h'.IsTuple b ys := hb.at fun o e => hkp b o D.l2z D.l2TO D.l2i1 D.l2i2 e
    show wpAny _ A.in1 (updateSeq S (·.push (Value.ref h.objs.size)) >>= _) _ _ _
    refine wpAny_bind ?_
    refine wpAny_updateSeq hS' rfl (wpAny_pure ⟨plainId_quiet PySem.F.plain_extend_loop _, ih (i + 1) _ tk _ (acc.push (Value.ref h.objs.size)) (as ++ [h.objs.size]) (by omega) hlt (hst'.keep up (nS _ o2) (nS _ o4) (nS _ o5) zS (nS _ o3)) (ha'.at fun o e => up a o aS e) (hb'.at fun o e => up b o bS e)
      (fun p o p1 p2 p3 p4 p5 e => up p o p1 (hkp p o p2 p3 p4 p5 (hkeep p o p1 p2 p3 p4 p5 e))) (Heap.get?_update_self _ hS' rfl) (by rw [Array.toList_push, hacc, List.map_append]; rfl) (by rw [List.length_append, hal]; rfl) ⟨fun p hp => ?_, ?_, fun j p hj => ?_⟩⟩) (by rw [hsz]; omega) (by show (acc.push (Value.ref h.objs.size)).size ≤ sizeLine + 1; rw [Array.size_push, hsz]; omega)
    · rcases List.mem_append.mp hp with hp | hp
      · exact hG.up p hp
      · rw [List.mem_singleton.mp hp]; exact hSl
    · refine List.pairwise_append.mpr ⟨hG.rise, List.pairwise_singleton _ _, fun p hp q hq => ?_⟩
      rw [List.mem_singleton.mp hq]
      obtain ⟨j, hj⟩ := List.mem_iff_getElem?.mp hp
      obtain ⟨_, _, _, _, e3⟩ := hG.pr j p hj
      exact Heap.lt_size e3
    · rcases Nat.lt_trichotomy j as.length with h1 | h1 | h1
      · rw [List.getElem?_append_left h1] at hj
        obtain ⟨x, y, e1, e2, e3⟩ := hG.pr j p hj
        obtain ⟨p1, p2, p3, p4, p5⟩ := above p (hG.up p (List.mem_of_getElem? hj))
        exact ⟨x, y, e1, e2, up p _ p1 (hkp p _ p2 p3 p4 p5 e3)⟩
      · subst h1
        have e : h.objs.size = p := by simpa using hj
        subst e
        exact ⟨_, _, by rw [hal]; exact hx, by rw [hal]; exact hy, up _ _ (Nat.ne_of_gt hSl) ht⟩
      · rw [List.getElem?_eq_none (by rw [List.length_append, List.length_singleton]; omega)] at hj; cases hj
end
section
variable {prog : Program} {w : World} {A : Around} {E : Value → Shared → Prop} {s : Shared} {z TI TO i1 i2 a b : Addr} {xs ys : Array Value} {n : Nat}
theorem hint (hT : s.TypeIs (.ref z) "zip") {Q : Bool → Shared → Prop} (h : Q true s) : wpAny (model prog w) A (Builtin.List.listLengthHint (.ref z)) Q E s := by
  unfold Builtin.List.listLengthHint
  refine wpAny_bind (wpAny_specialOf hT no_len ?_); show wpAny _ A (specialOf (Value.ref z) (Str.ofString "__length_hint__") >>= _) _ _ _
  exact wpAny_bind (wpAny_specialOf hT no_hint (wpAny_pure h))
theorem extend {R : Result → Shared → Prop} {S : Addr} (hh : A.handled = none) (D : ZipApart z TI TO i1 i2 a b) (hn : n = min xs.size ys.size) (hn2 : n ≤ sizeLine) (o1 : z < S) (o2 : TI < z) (o3 : TO < z) (o4 : i1 < z) (o5 : i2 < z) (aS : a ≠ S) (bS : b ≠ S) (res : Value) (c₀ : Nat)
    (hS : s.heap.get? S = some { cls := .type "list", data := .seq #[] c₀ }) (st : ZSt s.heap z TI TO i1 i2 a b S 0) (hz : ∃ f0, IsZip s.heap z TI TO f0) (ha : s.heap.IsTuple a xs) (hb : s.heap.IsTuple b ys)
    (hR : ∀ h' tk acc c as, (∀ p o, p ≠ S → p ≠ z → p ≠ TO → p ≠ i1 → p ≠ i2 → s.heap.get? p = some o → h'.get? p = some o) → h'.get? S = some { cls := .type "list", dict := none, data := .seq acc c, slots := #[] } → as.length = n → Gv xs ys S h' as → acc.toList = as.map Value.ref → R (.ok (.ret res)) { s with heap := h', toks := tk }) :
    wpAny (model prog w) A.in1 (Builtin.List.listExtendWith (.ref S) (.ref z) res) (fun fin s' => match fin with | .done f => R (.ok f) s' | .again c' => c'.quiet = true ∧ codeAny (model prog w) A c' R s') (fun e s' => R (.error e) s') s := by
  obtain ⟨f0, hz⟩ := hz
  have hT : s.TypeIs (.ref z) "zip" := ⟨_, hz, rfl⟩
  have zS : z ≠ S := Nat.ne_of_lt o1
  have nS : ∀ p, p < z → p ≠ S := fun p hp => by intro e; rw [e] at hp; exact absurd (Nat.lt_trans o1 hp) (Nat.lt_irrefl _)
  unfold Builtin.List.listExtendWith
  refine wpAny_bind (wpAny_typeOf (T := "zip") hT ?_)
  have h1 : Builtin.List.listSameRef (.ref S) (.ref z) = false := by simp [Builtin.List.listSameRef, Ne.symm zS]
  have h2 : (Value.type "zip" == Value.type "list") = false ∧ (Value.type "zip" == Value.type "tuple") = false := by decide
  simp only [h1, h2.1, h2.2, Bool.or_false, Bool.false_eq_true, if_false]
  refine wpAny_bind (wpAny_pyIter_zip hz ?_); refine wpAny_bind (wpAny_holding (hint hT ?_))
  refine wpAny_ite_split (fun _ => ?_) (fun hab => absurd (by rfl) hab)
  refine wpAny_bind (wpAny_rule ?_); refine wpAny_bind ?_; show wpAny _ _ (updateSeq S (·.push .none) >>= fun _ => updateSeq S (·.pop)) _ _ _
  refine wpAny_bind (wpAny_updateSeq hS rfl ?_)
  have hS₂ := Heap.get?_update_self (Obj.mapSeq (·.push Value.none)) hS rfl
  refine wpAny_updateSeq (hz := by seq_fits) hS₂ rfl ?_
  have hS₃ := Heap.get?_update_self (Obj.mapSeq (·.pop)) hS₂ rfl
  have up : ∀ p o, p ≠ S → s.heap.get? p = some o → ((s.heap.update S (Obj.mapSeq (·.push Value.none))).update S (Obj.mapSeq (·.pop))).get? p = some o := fun p o hp e => (Heap.get?_update_other _ _ (Ne.symm hp)).trans ((Heap.get?_update_other _ _ (Ne.symm hp)).trans e)
  refine wpAny_pure ⟨plainId_quiet PySem.F.plain_extend_loop _, loop (s := s) (h₁ := s.heap) hh D hn hn2 o1 o2 o3 o4 o5 aS bS res hR n 0 _ _ _ #[] [] (Nat.sub_zero _) (Nat.zero_le _) (st.keep up (nS _ o2) (nS _ o4) (nS _ o5) zS (nS _ o3)) (ha.at fun o e => up a o aS e) (hb.at fun o e => up b o bS e)
    (fun p o p1 _ _ _ _ e => up p o p1 e) hS₃ rfl rfl ⟨(fun _ hp => nomatch hp), List.Pairwise.nil, (fun j p hj => by simp at hj)⟩⟩
theorem listOf {Q : Value → Shared → Prop} (hh : A.handled = none) (D : ZipApart z TI TO i1 i2 a b) (hn : n = min xs.size ys.size) (hn2 : n ≤ sizeLine) (o2 : TI < z) (o3 : TO < z) (o4 : i1 < z) (o5 : i2 < z) (hz : IsZip s.heap z TI TO .none) (hTI : IsPair s.heap TI (.ref i1) (.ref i2)) (hTO : ∃ x y, IsPair s.heap TO x y)
    (h1 : s.heap.IsTupleIter i1 a 0) (h2 : s.heap.IsTupleIter i2 b 0) (ha : s.heap.IsTuple a xs) (hb : s.heap.IsTuple b ys)
    (hQ : ∀ h' tk acc c as, (∀ p o, p ≠ z → p ≠ TO → p ≠ i1 → p ≠ i2 → s.heap.get? p = some o → h'.get? p = some o) → h'.get? s.heap.objs.size = some { cls := .type "list", dict := none, data := .seq acc c, slots := #[] } → as.length = n → Gv xs ys s.heap.objs.size h' as → acc.toList = as.map Value.ref → Q (.ref s.heap.objs.size) { s with heap := h', toks := tk }) :
    wpAny (model prog w) A (call (.type "list") [.ref z]) Q E s := by
  refine callType_codes (Q₁ := fun obj s₁ => obj = .ref s.heap.objs.size ∧ s₁ = { s with heap := s.heap.push { cls := .type "list", data := .seq #[] } }) PySem.F.called_list (PySem.F.typeCall_list_1 _) PySem.F.entry_list_init (code_list_new _ ⟨rfl, rfl⟩) fun obj s₁ hob => ?_
  obtain ⟨rfl, rfl⟩ := hob
  have hS : (s.heap.push { cls := .type "list", data := .seq #[] }).get? s.heap.objs.size = some { cls := .type "list", data := .seq #[] } := Heap.get?_push_size _ rfl
  have zl : z < s.heap.objs.size := Heap.lt_size hz
  have al : a < s.heap.objs.size := by obtain ⟨o, e, _⟩ := ha; exact Heap.lt_size e
  have bl : b < s.heap.objs.size := by obtain ⟨o, e, _⟩ := hb; exact Heap.lt_size e
  refine ⟨⟨_, hS, rfl⟩, PySem.F.args_list_init_2 _ _, ?_⟩
  show wpAny _ _ (do let old ← Builtin.List.listItems (.ref s.heap.objs.size); Builtin.List.listUpdate (.ref s.heap.objs.size) (fun _ => #[]); letGo old.toList.reverse; Builtin.List.listExtendWith (.ref s.heap.objs.size) (.ref z) .none) _ _ _
  refine wpAny_bind ?_; unfold Builtin.List.listItems; refine wpAny_bind (wpAny_seqItems hS rfl (wpAny_pure ?_))
  show wpAny _ _ (updateSeq s.heap.objs.size (fun _ => #[]) >>= fun _ => letGo (#[] : Array Value).toList.reverse >>= fun _ => Builtin.List.listExtendWith (.ref s.heap.objs.size) (.ref z) .none) _ _ _
  refine wpAny_bind (wpAny_updateSeq hS rfl ?_)
  have hS₂ := Heap.get?_update_self (Obj.mapSeq (fun _ => (#[] : Array Value))) hS rfl
  have up : ∀ p o, s.heap.get? p = some o → ((s.heap.push { cls := .type "list", data := .seq #[] }).update s.heap.objs.size (Obj.mapSeq (fun _ => (#[] : Array Value)))).get? p = some o := fun p o e => (Heap.get?_update_other _ _ (Nat.ne_of_gt (Heap.lt_size e))).trans (Heap.get?_push_of_some _ e)
  refine wpAny_bind (wpAny_letGo ?_)
  obtain ⟨x0, y0, hTO⟩ := hTO
  refine extend (A := A.in1) hh D hn hn2 zl o2 o3 o4 o5 (Nat.ne_of_lt al) (Nat.ne_of_lt bl) .none _ hS₂ ⟨up _ _ hTI, h1.at fun o e => up _ o e, h2.at fun o e => up _ o e, .inl ⟨up _ _ hz, x0, y0, up _ _ hTO⟩⟩ ⟨_, up _ _ hz⟩ (ha.at fun o e => up _ o e) (hb.at fun o e => up _ o e) fun h' tk acc c as hk hS' hl hG hacc => ?_
  exact ⟨rfl, hQ h' tk acc c as (fun p o p2 p3 p4 p5 e => hk p o (Nat.ne_of_lt (Heap.lt_size e)) p2 p3 p4 p5 (up p o e)) hS' hl hG hacc⟩
end
end PPZ

set_option Elab.async false
set_option linter.all false
set_option maxRecDepth 100000
set_option maxHeartbeats 4000000
namespace PP
open PySem L2
open PyProof.Rows (envOfC args_cons args_nil boot_list Call_)
/-! ### list(zip(a, b)), a and b tuples -/
def lay : List (Addr × V × V) → Hp → Hp
  | [], H => H
  | p :: r, H => lay r (upd H p.1 (.tup [p.2.1, p.2.2]))
def Apart : List (Addr × V × V) → Prop
  | [] => True
  | p :: r => (∀ q ∈ r, q.1 ≠ p.1) ∧ Apart r
theorem lay_old : ∀ {ps : List (Addr × V × V)} {H : Hp} {b : Addr}, (∀ p ∈ ps, p.1 ≠ b) → lay ps H b = H b
  | [], _, _, _ => rfl
  | p :: r, H, b, h => by
    unfold lay
    rw [lay_old fun q hq => h q (by simp [hq]), upd_ne (Ne.symm (h p (by simp)))]
theorem lay_grow : ∀ {ps : List (Addr × V × V)} {F H : Hp}, PP.Sub F H → (∀ p ∈ ps, H p.1 = none) → Apart ps → Grow F H (lay ps F) (lay ps H)
  | [], F, H, s, _, _ => Grow.refl s
  | p :: r, F, H, s, h, d => by
    have g := Grow.one (o := .tup [p.2.1, p.2.2]) s (h p (by simp))
    unfold lay
    exact g.trans (lay_grow g.fh (fun q hq => by rw [upd_ne (d.1 q hq)]; exact h q (by simp [hq])) d.2)
theorem lay_rep {T : Tb} : ∀ {ps : List (Addr × V × V)} {F H : Hp} {xs ys : List V} {l m : List D}, PP.Sub F H → (∀ p ∈ ps, H p.1 = none) → Apart ps → RepL T F xs l → RepL T F ys m → ps.map (·.2) = xs.zip ys → RepL T (lay ps F) (ps.map fun p => V.ref p.1) (zipL l m)
  | [], F, H, xs, ys, l, m, s, _, _, r1, r2, e => by
    have z : zipL l m = [] := by
      unfold zipL
      have h1 := r1.length
      have h2 := r2.length
      have h3 : (xs.zip ys).length = 0 := by rw [← e]; rfl
      rw [List.length_zip] at h3
      have : (l.zip m).length = 0 := by rw [List.length_zip]; omega
      rw [List.eq_nil_of_length_eq_zero this]; rfl
    rw [z]; exact .nil
  | p :: r, F, H, [], ys, l, m, s, _, _, r1, r2, e => by simp at e
  | p :: r, F, H, x :: xs, [], l, m, s, _, _, r1, r2, e => by simp at e
  | (pa, px, py) :: r, F, H, x :: xs, y :: ys, l, m, s, h, d, r1, r2, e => by
    obtain ⟨dx, l', rfl, a1, a2⟩ := r1.inv
    obtain ⟨dy, m', rfl, b1, b2⟩ := r2.inv
    simp only [List.map_cons, List.zip_cons_cons, List.cons.injEq, Prod.mk.injEq] at e
    obtain ⟨⟨rfl, rfl⟩, e2⟩ := e
    have g := Grow.one (o := .tup [px, py]) s (h (pa, px, py) (by simp))
    have h2 : ∀ q ∈ r, (upd H pa (.tup [px, py])) q.1 = none := fun q hq => by rw [upd_ne (d.1 q hq)]; exact h q (by simp [hq])
    have g2 := lay_grow g.fh h2 d.2
    have ih := lay_rep (T := T) g.fh h2 d.2 (RepL.mono g.ff _ _ a2) (RepL.mono g.ff _ _ b2) e2
    unfold lay
    exact .cons (Rep.mono g2.ff _ _ (mk_tup (vs := [px, py]) upd_same (by simp [LIM]) (.cons (Rep.mono g.ff _ _ a1) (.cons (Rep.mono g.ff _ _ b1) .nil)))) ih
theorem apart_of : ∀ {ps : List (Addr × V × V)}, (ps.map (·.1)).Pairwise (· < ·) → Apart ps
  | [], _ => trivial
  | p :: r, h => by
    simp only [List.map_cons, List.pairwise_cons] at h
    exact ⟨fun q hq => Nat.ne_of_gt (h.1 q.1 (List.mem_map.mpr ⟨q, hq, rfl⟩)), apart_of h.2⟩
section
variable {X : Cx} {pins : List (Addr × Obj)} {σ : St} {H : Hp} {s : Shared} {h' : Heap}
theorem hok_one {P : Program} {w : World} {H : Hp} {h' : Heap} {a : Addr} {o : HO} (x : HOk P w H h') (hn : H a = none) (new : ObjOk P w (upd H a o) h' a o) : HOk P w (upd H a o) h' := fun b u e => by
  by_cases hb : b = a
  · subst hb; rw [upd_same] at e; cases e; exact new
  · rw [upd_ne hb] at e
    exact (x b u e).stay (fun c v _ q => q) (fun c q => by rw [upd_ne (ne_of_none q hn)]; exact q) fun c xs q => by rw [upd_ne (ne_of_none q hn)]; exact q
theorem hok_lay {P : Program} {w : World} {h' : Heap} : ∀ {ps : List (Addr × V × V)} {H : Hp}, HOk P w H h' → (∀ p ∈ ps, H p.1 = none) → Apart ps → (∀ p ∈ ps, ∃ u v : Value, RelV p.2.1 u ∧ RelV p.2.2 v ∧ h'.get? p.1 = some { cls := .type "tuple", data := .seq #[u, v] }) → HOk P w (lay ps H) h'
  | [], H, x, _, _, _ => x
  | p :: r, H, x, h, d, t => by
    unfold lay
    refine hok_lay (hok_one x (h p (by simp)) ?_) (fun q hq => by rw [upd_ne (d.1 q hq)]; exact h q (by simp [hq])) d.2 fun q hq => t q (by simp [hq])
    obtain ⟨u, v, r1, r2, e⟩ := t p (by simp)
    exact ⟨by show 2 ≤ sizeLine; decide, [u, v], .cons r1 (.cons r2 .nil), ⟨_, e, rfl, _, rfl⟩⟩
theorem inv_lay {t' : Nat} {ps : List (Addr × V × V)} {S : Addr} {acc : Array Value} {c : Nat} (I : Inv X pins σ H s) (k : ∀ b u, s.heap.get? b = some u → h'.get? b = some u) (hS : s.heap.objs.size ≤ S) (hp : ∀ p ∈ ps, S < p.1) (d : Apart ps)
    (t : ∀ p ∈ ps, ∃ u v : Value, RelV p.2.1 u ∧ RelV p.2.2 v ∧ h'.get? p.1 = some { cls := .type "tuple", data := .seq #[u, v] }) (hl : ps.length ≤ sizeLine) (ha : acc.toList = ps.map fun p => Value.ref p.1) (he : h'.get? S = some { cls := .type "list", data := .seq acc c }) :
    Inv X pins σ (upd (lay ps H) S (.lst (ps.map fun p => V.ref p.1))) { s with heap := h', toks := t' } := by
  have hn : ∀ p ∈ ps, H p.1 = none := fun p hq => I.hok.fresh (Nat.le_trans hS (Nat.le_of_lt (hp p hq)))
  have hlS : lay ps H S = none := by rw [lay_old fun p hq => Nat.ne_of_gt (hp p hq)]; exact I.hok.fresh hS
  have old : ∀ b, b < s.heap.objs.size → (upd (lay ps H) S (.lst (ps.map fun p => V.ref p.1))) b = H b := fun b hb => by
    rw [upd_ne (Nat.ne_of_lt (Nat.lt_of_lt_of_le hb hS)), lay_old fun p hq => Nat.ne_of_gt (Nat.lt_trans (Nat.lt_of_lt_of_le hb hS) (hp p hq))]
  have oldS : ∀ b u, H b = some u → (upd (lay ps H) S (.lst (ps.map fun p => V.ref p.1))) b = some u := fun b u e => by
    rw [old b (I.hok.lt e)]; exact e
  refine I.un ⟨fun b o q _ _ _ => k b o q, fun b o q _ _ _ => ⟨o.slots, k b o q⟩, fun b o q n _ => by rw [old b (Heap.lt_size q)]; exact n, fun b o q _ => ⟨o, k b o q⟩, fun b xs q => oldS b _ q, fun b o u q => oldS b _ q, fun b ps' q => ⟨#[], by rw [oldS b _ q]; simp⟩⟩ ?_
  refine hok_one (hok_lay (I.hok.kept k) hn d t) hlS ⟨by rw [List.length_map]; exact hl, ps.map fun p => Value.ref p.1, c, ?_, ?_⟩
  · clear ha he hl hlS hn t d hp old oldS
    induction ps with
    | nil => exact .nil
    | cons p r ih => exact .cons rfl ih
  · have e : acc = (ps.map fun p => Value.ref p.1).toArray := by rw [← ha]
    rw [← e]; exact he
end
theorem zlt {n d e : Nat} (h : d < e) : n + d < n + e := Nat.add_lt_add_left h n
def tLZ (K : PySem.W.Frag) (t : TA) : TE := fun σ H Q => t σ H fun vs H1 => ∃ (a b : Addr) (xs ys : List V), vs = [.ref a, .ref b] ∧ SqT K H1 a xs ∧ SqT K H1 b ys ∧ xs.length ≤ sizeLine ∧
  ∀ (S : Addr) (ps : List (Addr × V × V)), H1 S = none → (∀ p ∈ ps, H1 p.1 = none ∧ p.1 ≠ S) → Apart ps → ps.map (·.2) = xs.zip ys → Q (.ref S) (upd (lay ps H1) S (.lst (ps.map fun p => V.ref p.1)))
theorem pe_lzip {X : Cx} {e e2 : Expr} {t : TA} {p p2 pos pos2 : Pos} (hc : X.calm = true) (hg : Gl X "list") (hm : X.mg "list" = none) (hg2 : Gl X "zip") (hm2 : X.mg "zip" = none) (ha : PA X [e, e2] t)
    (na : starEach [.Call (.Name "zip" p2) [e, e2] [] pos2] X.env = (false, eval (.Call (.Name "zip" p2) [e, e2] [] pos2) X.env) :: starEach [] X.env := by rfl) (hs : starEach [e, e2] X.env = (false, eval e X.env) :: starEach [e2] X.env := by rfl) (hpl : (backTo pos2 (starEach [e2] X.env)).any (·.1) = false := by rfl) :
    PE X (.Call (.Name "list" p) [.Call (.Name "zip" p2) [e, e2] [] pos2] [] pos) (tLZ X.K t) := by
  refine ⟨fun pins s σ H Q I h => ?_⟩
  refine Call_ (ld_blt I hg hm boot_list (PyProof.Rows.callWith_type1 (args_cons ?_ na) na))
  refine Call_ (ld_blt I hg2 hm2 PyProof.Rows.boot_zip (PyProof.Rows.callWith_type1 (thn (ha.run pos2 pins s σ H _ I h) fun us s1 ⟨vs, H1, I1, r1, q1⟩ => ?_) hs hpl))
  obtain ⟨a, b, xs, ys, ex, hqx, hqy, hlx, q⟩ := q1
  subst ex
  cases r1 with
  | cons r rr =>
    cases rr with
    | cons r' rr =>
      cases rr
      cases r
      cases r'
      obtain ⟨its, rv, p1, _⟩ := I1.tuple hqx
      obtain ⟨its2, rv2, p2, _⟩ := I1.tuple hqy
      obtain ⟨o1, ho1, _⟩ := id p1
      obtain ⟨o2, ho2, _⟩ := id p2
      have l1 := rv.length
      refine RZ.call_zipT (show s1.heap.IsTuple a its.toArray from p1) (show s1.heap.IsTuple b its2.toArray from p2) fun h' hz hTI hTO h1 h2 hsz hk => args_nil ?_
      refine PPZ.listOf (s := { s1 with heap := h' }) (n := min its.length its2.length) (xs := its.toArray) (ys := its2.toArray) (I1.ok.hd hc) (PySem.W.ktu_apart s1.heap.objs.size a b (Heap.lt_size ho1) (Heap.lt_size ho2)) (by simp) (by omega) (zlt (by decide)) (zlt (by decide)) (zlt (d := 0) (by decide)) (zlt (by decide)) hz hTI ⟨_, _, hTO⟩ h1 h2 (Heap.IsTuple.at p1 fun o e => hk _ o e) (Heap.IsTuple.at p2 fun o e => hk _ o e) fun h2' tk acc c as hk2 hS2 hl hG hacc => ?_
      have hsz' : s1.heap.objs.size + 5 = h'.objs.size := hsz.symm
      have kk : ∀ b u, s1.heap.get? b = some u → h2'.get? b = some u := fun b u e => by
        have := Heap.lt_size e
        exact hk2 b u (Nat.ne_of_lt (Nat.lt_of_lt_of_le this (Nat.le_add_right _ _))) (Nat.ne_of_lt (Nat.lt_of_lt_of_le this (Nat.le_add_right _ _))) (Nat.ne_of_lt this) (Nat.ne_of_lt (Nat.lt_of_lt_of_le this (Nat.le_add_right _ _))) (hk b u e)
      have hle : s1.heap.objs.size ≤ h'.objs.size := by rw [hsz]; exact Nat.le_add_right _ _
      have l2 := rv2.length
      have hlen : as.length = (xs.zip ys).length := by rw [hl, List.length_zip, l1, l2]
      have e1 : (as.zip (xs.zip ys)).map (·.2) = xs.zip ys := List.map_snd_zip (by omega)
      have e0 : (as.zip (xs.zip ys)).map (·.1) = as := List.map_fst_zip (by omega)
      have e2 : (as.zip (xs.zip ys)).map (fun p => Value.ref p.1) = as.map Value.ref := by
        have : (as.zip (xs.zip ys)).map (fun p => Value.ref p.1) = ((as.zip (xs.zip ys)).map (·.1)).map Value.ref := by rw [List.map_map]; rfl
        rw [this, e0]
      have hd : Apart (as.zip (xs.zip ys)) := apart_of (by rw [e0]; exact hG.rise)
      have hab : ∀ p ∈ as.zip (xs.zip ys), h'.objs.size < p.1 := fun p hp => hG.up p.1 (List.of_mem_zip hp).1
      have ht : ∀ p ∈ as.zip (xs.zip ys), ∃ u v : Value, RelV p.2.1 u ∧ RelV p.2.2 v ∧ h2'.get? p.1 = some { cls := .type "tuple", data := .seq #[u, v] } := fun p hp => by
        obtain ⟨j, hj⟩ := List.mem_iff_getElem?.mp hp
        obtain ⟨q1, q2⟩ := List.getElem?_zip_eq_some.mp hj
        obtain ⟨q3, q4⟩ := List.getElem?_zip_eq_some.mp q2
        obtain ⟨u, v, z1, z2, z3⟩ := hG.pr j p.1 q1
        obtain ⟨u', y1, y2⟩ := rv.get q3
        obtain ⟨v', y3, y4⟩ := rv2.get q4
        have z1' : its[j]? = some u := by simpa using z1
        have z2' : its2[j]? = some v := by simpa using z2
        rw [y1] at z1'; rw [y3] at z2'
        cases z1'; cases z2'
        exact ⟨_, _, y2, y4, z3⟩
      have I2 := inv_lay (t' := tk) I1 kk hle hab hd ht (by rw [List.length_zip]; omega) (by rw [hacc, e2]) hS2
      exact ⟨.ref h'.objs.size, _, I2, rfl, q _ _ (I1.hok.fresh hle) (fun p hp => ⟨I1.hok.fresh (Nat.le_trans hle (Nat.le_of_lt (hab p hp))), Nat.ne_of_gt (hab p hp)⟩) hd e1⟩
theorem isLst_lzip {f h : PP.X} : ∀ ρ g d g', xLZip f h ρ g = .ok d g' → ∃ l, d = .lst l := fun ρ g d g' e => by
  unfold xLZip at e
  cases hf : f ρ g with
  | ok a g1 =>
    rw [hf] at e
    simp only [R.bind_ok] at e
    cases hh : h ρ g1 with
    | ok b g2 =>
      rw [hh] at e
      simp only [R.bind_ok] at e
      split at e <;> first | (cases e; exact ⟨_, rfl⟩) | cases e
    | ex _ _ => rw [hh] at e; cases e
    | bad => rw [hh] at e; cases e
  | ex _ _ => rw [hf] at e; cases e
  | bad => rw [hf] at e; cases e
theorem f_lzip {X : Cx} {T : Tb} {Z : Act} {W : WX} {own : List Nat} {e e2 : Expr} {fa fb : PP.X} {p p2 pos pos2 : Pos} (hc : X.calm = true) (hg : Gl X "list") (hm : X.mg "list" = none) (hg2 : Gl X "zip") (hm2 : X.mg "zip" = none) (ha : XAs X T Z W own [e, e2] (aCons fa (aCons fb aNil))) (hK : X.K = T.K := by rfl)
    (na : starEach [.Call (.Name "zip" p2) [e, e2] [] pos2] X.env = (false, eval (.Call (.Name "zip" p2) [e, e2] [] pos2) X.env) :: starEach [] X.env := by rfl) (hs : starEach [e, e2] X.env = (false, eval e X.env) :: starEach [e2] X.env := by rfl) (hpl : (backTo pos2 (starEach [e2] X.env)).any (·.1) = false := by rfl) :
    XF X T Z W own (.Call (.Name "list" p) [.Call (.Name "zip" p2) [e, e2] [] pos2] [] pos) (xLZip fa fb) := by
  have h1 := pe_lzip (p := p) (pos := pos) hc hg hm hg2 hm2 ha na hs hpl
  rw [hK] at h1
  refine PE.imp h1 fun σ H Q ⟨kp, F, ρ, g, c, q⟩ => ?_
  refine ⟨kp, F, ρ, g, c, ?_⟩
  have q' := q.bind
  simp only [aCons]
  cases hf : fa ρ g with
  | ok d g1 =>
    rw [hf] at q'
    have q2 := rQ.bind (σ := σ) q'
    simp only [PP.R.bind_ok]
    cases hf2 : fb ρ g1 with
    | ok d2 g2 =>
      rw [hf2] at q2
      cases d with
      | tup l =>
        cases d2 with
        | tup m =>
          intro vs F1 H1 c1 s1 r1
          obtain ⟨x, y, rfl, r, r'⟩ := call2 r1
          obtain ⟨a, us, rfl, e1, l1, k1⟩ := rep_tup r
          obtain ⟨b, ws, rfl, e3, l3, k3⟩ := rep_tup r'
          have t1 := SqT.of (K := T.K) (c1.core.sub _ _ e1)
          have t2 := SqT.of (K := T.K) (c1.core.sub _ _ e3)
          refine ⟨a, b, us, ws, rfl, t1, t2, by rw [← LIM_eq]; exact l1, fun S ps nS hp hd he => ?_⟩
          have gr := lay_grow c1.core.sub (fun p hp' => (hp p hp').1) hd
          have rr := lay_rep (T := T) c1.core.sub (fun p hp' => (hp p hp').1) hd k1 k3 he
          have c2 := c1.grow gr
          have nl : lay ps H1 S = none := by rw [lay_old fun p hp' => (hp p hp').2]; exact nS
          have hlp : ps.length ≤ LIM := by
            have : (ps.map (·.2)).length = (us.zip ws).length := by rw [he]
            rw [List.length_map, List.length_zip] at this
            omega
          exact tPF.of (f := fa) c2 (pF.up (s1.trans gr.ff) _ _ q2) (by rw [List.length_map]; exact hlp) rr S nl
        | _ => exact q2.elim
      | _ => cases d2 <;> exact q2.elim
    | ex e' g1 => rw [hf2] at q2; exact q2
    | bad => rw [hf2] at q2; exact q2.elim
  | ex e' g1 => rw [hf] at q'; exact q'
  | bad => rw [hf] at q'; exact q'.elim
end PP

namespace K39
open PP
set_option linter.all false
def F_law_take : FN := takeF
def B_is_integer : S := (sRet (xAnd (xUn (isKd .int) (xVar 0)) (xNot (xUn (isKd .bool) (xVar 0)))))
def F_is_integer : FN := fnOf 1 B_is_integer
def B_check_from : S := (sIf (tOr (tNot (tV (xCall F_is_integer (aCons (xVar 0) aNil)))) (tNot (tV (xChain leD leD (xVar 1) (xVar 0) (xVar 2))))) (sRaise 0 aNil) sNop)
def F_check_from : FN := fnOf 3 B_check_from
def is_bases_c0 : X := xLc [1] (iSeq (xVar 0)) (gName 1) tYes (xAnd (xCall F_is_integer (aCons (xVar 1) aNil)) (xChain leD leD (xC (.int 2)) (xVar 1) (xC (.int 10))))
def B_is_bases : S := (sRet (xAnd (xUn (isKd .tuple) (xVar 0)) (xAnd (xChain leD leD (xC (.int 1)) (xCB lenD (aCons (xVar 0) aNil)) (xC (.int 8))) (xCB allD (aCons (is_bases_c0) aNil)))))
def F_is_bases : FN := fnOf 2 B_is_bases
def B_check_bases : S := (sIf (tNot (tV (xCall F_is_bases (aCons (xVar 0) aNil)))) (sRaise 0 aNil) sNop)
def F_check_bases : FN := fnOf 1 B_check_bases
def is_figures_s0 : S := (sIf (tOr (tNot (tV (xUn (isKd .tuple) (xVar 1)))) (tV (xBin neD (xCB lenD (aCons (xVar 1) aNil)) (xCB lenD (aCons (xVar 0) aNil))))) (sRet (xC (.bl false))) sNop)
def is_figures_c0 : X := xLc [2, 3] (iZip (xVar 1) (xVar 0)) (gTup [(gName 2), (gName 3)]) tYes (xAnd (xCall F_is_integer (aCons (xVar 2) aNil)) (xChain leD ltD (xC (.int 0)) (xVar 2) (xVar 3)))
def is_figures_s1 : S := (sRet (xCB allD (aCons (is_figures_c0) aNil)))
def B_is_figures : S := (sSeq is_figures_s0 is_figures_s1)
def F_is_figures : FN := fnOf 4 B_is_figures
def counted_on_s0 : S := (sExpr (xCall F_check_bases (aCons (xVar 0) aNil)))
def counted_on_s1 : S := (sIf (tNot (tV (xCall F_is_figures (aCons (xVar 0) (aCons (xVar 1) aNil))))) (sRaise 0 aNil) sNop)
def counted_on_s2 : S := (sPar 2 3 (xLst aNil) (xC (.int 1)))
def counted_on_b0 : S := (sSeq (sSeq (sApp 2 (xBin modD (xBin addD (xVar 4) (xVar 3)) (xVar 5))) (sSet (gName 3) (xBin fdivD (xBin addD (xVar 4) (xVar 3)) (xVar 5)))) (sKill [4, 5]))
def counted_on_s3 : S := (sSeq (sFor (gTup [(gName 4), (gName 5)]) (iZip (xVar 1) (xVar 0)) counted_on_b0) (sKill [3, 4, 5]))
def counted_on_s4 : S := (sRet (xCB tupleD (aCons (xVar 2) aNil)))
def B_counted_on : S := (sSeq counted_on_s0 (sSeq counted_on_s1 (sSeq counted_on_s2 (sSeq counted_on_s3 counted_on_s4))))
def F_counted_on : FN := fnOf 6 B_counted_on
def figures_of_s0 : S := (sExpr (xCall F_check_bases (aCons (xVar 0) aNil)))
def figures_of_s1 : S := (sIf (tNot (tV (xCall F_is_integer (aCons (xVar 1) aNil)))) (sRaise 0 aNil) sNop)
def figures_of_s2 : S := (sSet (gName 2) (xLst aNil))
def figures_of_b0 : S := (sSeq (sSeq (sApp 2 (xBin modD (xVar 1) (xVar 3))) (sSet (gName 1) (xBin fdivD (xVar 1) (xVar 3)))) (sKill [3]))
def figures_of_s3 : S := (sSeq (sFor (gName 3) (iSeq (xVar 0)) figures_of_b0) (sKill [1, 3]))
def figures_of_s4 : S := (sRet (xCB tupleD (aCons (xVar 2) aNil)))
def B_figures_of : S := (sSeq figures_of_s0 (sSeq figures_of_s1 (sSeq figures_of_s2 (sSeq figures_of_s3 figures_of_s4))))
def F_figures_of : FN := fnOf 4 B_figures_of
def number_of_s0 : S := (sExpr (xCall F_check_bases (aCons (xVar 0) aNil)))
def number_of_s1 : S := (sIf (tNot (tV (xCall F_is_figures (aCons (xVar 0) (aCons (xVar 1) aNil))))) (sRaise 0 aNil) sNop)
def number_of_s2 : S := (sSet (gName 2) (xC (.int 0)))
def number_of_b0 : S := (sSeq (sSet (gName 2) (xBin addD (xBin mulD (xVar 2) (xVar 4)) (xVar 3))) (sKill [3, 4]))
def number_of_s3 : S := (sSeq (sFor (gTup [(gName 3), (gName 4)]) (iSeq (xUn revD (xLZip (xVar 1) (xVar 0)))) number_of_b0) (sKill [3, 4]))
def number_of_s4 : S := (sRet (xVar 2))
def B_number_of : S := (sSeq number_of_s0 (sSeq number_of_s1 (sSeq number_of_s2 (sSeq number_of_s3 number_of_s4))))
def F_number_of : FN := fnOf 5 B_number_of
def B_figure_sum : S := (sRet (xCall F_figures_of (aCons (xVar 0) (aCons (xBin addD (xCall F_number_of (aCons (xVar 0) (aCons (xVar 1) aNil))) (xCall F_number_of (aCons (xVar 0) (aCons (xVar 2) aNil)))) aNil))))
def F_figure_sum : FN := fnOf 3 B_figure_sum
def carry_row_s0 : S := (sExpr (xCall F_check_bases (aCons (xVar 0) aNil)))
def carry_row_s1 : S := (sExpr (xCall F_check_from (aCons (xVar 1) (aCons (xC (.int 1)) (aCons (xC (.int 500)) aNil)))))
def carry_row_s2 : S := (sPar 3 4 (xBin mulD (xTup (aCons (xC (.int 0)) aNil)) (xCB lenD (aCons (xVar 0) aNil))) (xLst aNil))
def carry_row_c0 : X := xLc [6, 7] (iZip (xVar 3) (xVar 5)) (gTup [(gName 6), (gName 7)]) (tV (xBin neD (xVar 6) (xVar 7))) (xC (.int 1))
def carry_row_b1 : S := (sSeq (sSeq (sSet (gName 5) (xCall F_counted_on (aCons (xVar 0) (aCons (xVar 3) aNil)))) (sSeq (sApp 4 (xCB lenD (aCons (carry_row_c0) aNil))) (sSet (gName 3) (xVar 5)))) (sKill [2, 5]))
def carry_row_s3 : S := (sSeq (sFor (gName 2) (iRng1 (xVar 1)) carry_row_b1) (sKill [2, 3, 5]))
def carry_row_s4 : S := (sRet (xCB tupleD (aCons (xVar 4) aNil)))
def B_carry_row : S := (sSeq carry_row_s0 (sSeq carry_row_s1 (sSeq carry_row_s2 (sSeq carry_row_s3 carry_row_s4))))
def F_carry_row : FN := fnOf 8 B_carry_row
def B_law_is_whole : S := (sRet (xAnd (xUn (isKd .int) (xVar 0)) (xNot (xUn (isKd .bool) (xVar 0)))))
def F_law_is_whole : FN := fnOf 1 B_law_is_whole
def law_same_s0 (self : FN) : S := (sIf (tV (xUn (isKd .bool) (xVar 1))) (sRet (xAnd (xUn (isKd .bool) (xVar 0)) (xBin eqD (xVar 0) (xVar 1)))) sNop)
def law_same_c0 (self : FN) : X := xLc [2] (iRng1 (xCB lenD (aCons (xVar 1) aNil))) (gName 2) tYes (xCall self (aCons (xBin ixD (xVar 0) (xVar 2)) (aCons (xBin ixD (xVar 1) (xVar 2)) aNil)))
def law_same_s1 (self : FN) : S := (sIf (tV (xUn (isKd .tuple) (xVar 1))) (sRet (xAnd (xUn (isKd .tuple) (xVar 0)) (xAnd (xBin eqD (xCB lenD (aCons (xVar 0) aNil)) (xCB lenD (aCons (xVar 1) aNil))) (xCB allD (aCons (law_same_c0 self) aNil))))) sNop)
def law_same_s2 (self : FN) : S := (sIf (tV (xUn (isKd .list) (xVar 1))) (sRet (xAnd (xUn (isKd .list) (xVar 0)) (xCall self (aCons (xCB tupleD (aCons (xVar 0) aNil)) (aCons (xCB tupleD (aCons (xVar 1) aNil)) aNil))))) sNop)
def law_same_s3 (self : FN) : S := (sIf (tV (xUn (isKd .str) (xVar 1))) (sRet (xAnd (xUn (isKd .str) (xVar 0)) (xBin eqD (xVar 0) (xVar 1)))) sNop)
def law_same_s4 (self : FN) : S := (sIf (tV (xUn isNonD (xVar 1))) (sRet (xUn isNonD (xVar 0))) sNop)
def law_same_s5 (self : FN) : S := (sRet (xAnd (xCall F_law_is_whole (aCons (xVar 0) aNil)) (xBin eqD (xVar 0) (xVar 1))))
def B_law_same (self : FN) : S := (sSeq (law_same_s0 self) (sSeq (law_same_s1 self) (sSeq (law_same_s2 self) (sSeq (law_same_s3 self) (sSeq (law_same_s4 self) (law_same_s5 self))))))
def R_law_same : Nat → FN
  | 0 => fun _ _ => .bad
  | n + 1 => fnOf 3 (B_law_same (R_law_same n))
def F_law_same : FN := R_law_same 16
def B_law_says : S := (sRet (xAnd (xUn (isKd .bool) (xVar 0)) (xBin eqD (xVar 0) (xVar 1))))
def F_law_says : FN := fnOf 2 B_law_says
def tbl_1 : Nat → FN := fun n => ([fun _ _ => .bad, fun _ _ => .bad, fun _ _ => .bad, fun _ _ => .bad, fun _ _ => .bad] : List FN).getD n (fun _ _ => .bad)
def tbl_2 : Nat → FN := fun n => ([F_figures_of, F_counted_on, F_number_of, fun _ _ => .bad, F_carry_row] : List FN).getD n (fun _ _ => .bad)
def tbl_3 : Nat → FN := fun n => ([fun _ _ => .bad, fun _ _ => .bad, fun _ _ => .bad, F_figure_sum, fun _ _ => .bad] : List FN).getD n (fun _ _ => .bad)
def tbl_4 : Nat → FN := fun n => ([fun _ _ => .bad, fun _ _ => .bad, fun _ _ => .bad, fun _ _ => .bad, fun _ _ => .bad] : List FN).getD n (fun _ _ => .bad)
def B_law_told : S := (sTry (sSeq (sIf (tV (xBin eqD (xCB lenD (aCons (xVar 1) aNil)) (xC (.int 1)))) (sRet (xTup (aCons (xC (.str [116, 111, 108, 100])) (aCons (xCallV tbl_1 (xVar 0) (aCons (xBin ixD (xVar 1) (xC (.int 0))) aNil)) aNil)))) sNop) (sSeq (sIf (tV (xBin eqD (xCB lenD (aCons (xVar 1) aNil)) (xC (.int 2)))) (sRet (xTup (aCons (xC (.str [116, 111, 108, 100])) (aCons (xCallV tbl_2 (xVar 0) (aCons (xBin ixD (xVar 1) (xC (.int 0))) (aCons (xBin ixD (xVar 1) (xC (.int 1))) aNil))) aNil)))) sNop) (sSeq (sIf (tV (xBin eqD (xCB lenD (aCons (xVar 1) aNil)) (xC (.int 3)))) (sRet (xTup (aCons (xC (.str [116, 111, 108, 100])) (aCons (xCallV tbl_3 (xVar 0) (aCons (xBin ixD (xVar 1) (xC (.int 0))) (aCons (xBin ixD (xVar 1) (xC (.int 1))) (aCons (xBin ixD (xVar 1) (xC (.int 2))) aNil)))) aNil)))) sNop) (sRet (xTup (aCons (xC (.str [116, 111, 108, 100])) (aCons (xCallV tbl_4 (xVar 0) (aCons (xBin ixD (xVar 1) (xC (.int 0))) (aCons (xBin ixD (xVar 1) (xC (.int 1))) (aCons (xBin ixD (xVar 1) (xC (.int 2))) (aCons (xBin ixD (xVar 1) (xC (.int 3))) aNil))))) aNil))))))) [(0, none, (sRet (xTup (aCons (xC (.str [109, 97, 108, 102, 111, 114, 109, 101, 100])) (aCons (xC .non) aNil))))), (1, some 2, fun _ _ => .bad)])
def F_law_told : FN := fnOf 3 B_law_told
def law_figures_s0 : S := (sSet (gName 2) (xLst aNil))
def law_figures_b0 : S := (sSeq (sSeq (sApp 2 (xBin modD (xCB intD (aCons (xVar 1) aNil)) (xVar 3))) (sSet (gName 1) (xBin fdivD (xVar 1) (xVar 3)))) (sKill [3]))
def law_figures_s1 : S := (sSeq (sFor (gName 3) (iSeq (xVar 0)) law_figures_b0) (sKill [1, 3]))
def law_figures_s2 : S := (sRet (xCB tupleD (aCons (xVar 2) aNil)))
def B_law_figures : S := (sSeq law_figures_s0 (sSeq law_figures_s1 law_figures_s2))
def F_law_figures : FN := fnOf 4 B_law_figures
def law_number_s0 : S := (sSet (gTup [(gName 2), (gName 3)]) (xTup (aCons (xC (.int 0)) (aCons (xC (.int 1)) aNil))))
def law_number_b0 : S := (sSeq (sPar 2 3 (xBin addD (xVar 2) (xBin mulD (xVar 4) (xVar 3))) (xBin mulD (xVar 3) (xVar 5))) (sKill [4, 5]))
def law_number_s1 : S := (sSeq (sFor (gTup [(gName 4), (gName 5)]) (iZip (xVar 1) (xVar 0)) law_number_b0) (sKill [3, 4, 5]))
def law_number_s2 : S := (sRet (xVar 2))
def B_law_number : S := (sSeq law_number_s0 (sSeq law_number_s1 law_number_s2))
def F_law_number : FN := fnOf 6 B_law_number
def law_c0 : X := xLc [9] (iRng1 (xBin addD (xC (.int 1)) (xCall F_law_take (aCons (xVar 1) (aCons (xC (.int 5)) aNil))))) (gName 9) tYes (xBin addD (xC (.int 2)) (xCall F_law_take (aCons (xVar 1) (aCons (xC (.int 9)) aNil))))
def law_s0 : S := (sSet (gName 2) (xCB tupleD (aCons (law_c0) aNil)))
def law_s1 : S := (sSet (gName 3) (xC (.int 1)))
def law_b1 : S := (sSet (gName 3) (xBin mulD (xVar 3) (xVar 4)))
def law_s2 : S := (sFor (gName 4) (iSeq (xVar 2)) law_b1)
def law_c2 : X := xLc [4] (iSeq (xVar 2)) (gName 4) tYes (xCall F_law_take (aCons (xVar 1) (aCons (xVar 4) aNil)))
def law_c3 : X := xLc [9] (iRng1 (xC (.int 2))) (gName 9) tYes (xCB tupleD (aCons (law_c2) aNil))
def law_s3 : S := (sSet (gTup [(gName 13), (gName 14)]) (law_c3))
def law_s4 : S := (sIf (tOr (tNot (tV (xCall F_law_says (aCons (xCall F_is_bases (aCons (xVar 2) aNil)) (aCons (xC (.bl true)) aNil))))) (tNot (tV (xCall F_law_says (aCons (xCall F_is_figures (aCons (xVar 2) (aCons (xVar 13) aNil))) (aCons (xC (.bl true)) aNil)))))) (sRet (xC (.bl false))) sNop)
def law_s5 : S := (sSet (gName 5) (xBin subD (xCall F_law_take (aCons (xVar 1) (aCons (xC (.int 3000000)) aNil))) (xC (.int 1500000))))
def law_s6 : S := (sIf (tOr (tNot (tV (xCall F_law_same (aCons (xCall F_figures_of (aCons (xVar 2) (aCons (xVar 5) aNil))) (aCons (xCall F_law_figures (aCons (xVar 2) (aCons (xVar 5) aNil))) aNil))))) (tOr (tNot (tV (xCall F_law_same (aCons (xCall F_number_of (aCons (xVar 2) (aCons (xVar 13) aNil))) (aCons (xCall F_law_number (aCons (xVar 2) (aCons (xVar 13) aNil))) aNil))))) (tV (xBin neD (xCall F_number_of (aCons (xVar 2) (aCons (xCall F_figures_of (aCons (xVar 2) (aCons (xVar 5) aNil))) aNil))) (xBin modD (xCB intD (aCons (xVar 5) aNil)) (xVar 3)))))) (sRet (xC (.bl false))) sNop)
def law_s7 : S := (sIf (tNot (tV (xCall F_law_same (aCons (xCall F_figures_of (aCons (xVar 2) (aCons (xCall F_number_of (aCons (xVar 2) (aCons (xVar 14) aNil))) aNil))) (aCons (xVar 14) aNil))))) (sRet (xC (.bl false))) sNop)
def law_s8 : S := (sPar 15 4 (xCall F_law_number (aCons (xVar 2) (aCons (xVar 13) aNil))) (xCall F_law_number (aCons (xVar 2) (aCons (xVar 14) aNil))))
def law_s9 : S := (sIf (tNot (tV (xCall F_law_same (aCons (xCall F_counted_on (aCons (xVar 2) (aCons (xVar 13) aNil))) (aCons (xCall F_law_figures (aCons (xVar 2) (aCons (xBin addD (xVar 15) (xC (.int 1))) aNil))) aNil))))) (sRet (xC (.bl false))) sNop)
def law_s10 : S := (sIf (tOr (tNot (tV (xCall F_law_same (aCons (xCall F_figure_sum (aCons (xVar 2) (aCons (xVar 13) (aCons (xVar 14) aNil)))) (aCons (xCall F_law_figures (aCons (xVar 2) (aCons (xBin addD (xVar 15) (xVar 4)) aNil))) aNil))))) (tV (xBin neD (xCall F_figure_sum (aCons (xVar 2) (aCons (xVar 13) (aCons (xVar 14) aNil)))) (xCall F_figure_sum (aCons (xVar 2) (aCons (xVar 14) (aCons (xVar 13) aNil))))))) (sRet (xC (.bl false))) sNop)
def law_s11 : S := (sSet (gName 6) (xBin mulD (xTup (aCons (xC (.int 0)) aNil)) (xCB lenD (aCons (xVar 2) aNil))))
def law_s12 : S := (sSet (gName 7) (xCall F_law_figures (aCons (xVar 2) (aCons (xC (.int 1)) aNil))))
def law_s13 : S := (sIf (tOr (tV (xBin neD (xCall F_figure_sum (aCons (xVar 2) (aCons (xVar 13) (aCons (xVar 7) aNil)))) (xCall F_counted_on (aCons (xVar 2) (aCons (xVar 13) aNil))))) (tOr (tV (xBin neD (xCall F_figure_sum (aCons (xVar 2) (aCons (xVar 13) (aCons (xVar 6) aNil)))) (xVar 13))) (tV (xBin neD (xCall F_figure_sum (aCons (xVar 2) (aCons (xVar 13) (aCons (xCall F_figures_of (aCons (xVar 2) (aCons (xUn negD (xVar 15)) aNil))) aNil)))) (xVar 6))))) (sRet (xC (.bl false))) sNop)
def law_c4 : X := xLc [20] (iSeq (xVar 2)) (gName 20) tYes (xBin subD (xVar 20) (xC (.int 1)))
def law_s14 : S := (sIf (tV (xBin neD (xCall F_counted_on (aCons (xVar 2) (aCons (xCB tupleD (aCons (law_c4) aNil)) aNil))) (xVar 6))) (sRet (xC (.bl false))) sNop)
def law_s15 : S := (sSet (gName 8) (xBin addD (xC (.int 1)) (xCall F_law_take (aCons (xVar 1) (aCons (xC (.int 120)) aNil)))))
def law_s16 : S := (sPar 16 17 (xVar 6) (xLst aNil))
def law_c5 : X := xLc [20, 26] (iZip (xVar 16) (xVar 18)) (gTup [(gName 20), (gName 26)]) (tV (xBin neD (xVar 20) (xVar 26))) (xC (.int 1))
def law_b6 : S := (sSeq (sSeq (sSet (gName 18) (xCall F_law_figures (aCons (xVar 2) (aCons (xBin addD (xCall F_law_number (aCons (xVar 2) (aCons (xVar 16) aNil))) (xC (.int 1))) aNil)))) (sSeq (sApp 17 (xCB lenD (aCons (law_c5) aNil))) (sSet (gName 16) (xVar 18)))) (sKill [9, 18]))
def law_s17 : S := (sSeq (sFor (gName 9) (iRng1 (xVar 8)) law_b6) (sKill [9, 16, 18, 20]))
def law_s18 : S := (sIf (tNot (tV (xCall F_law_same (aCons (xCall F_carry_row (aCons (xVar 2) (aCons (xVar 8) aNil))) (aCons (xCB tupleD (aCons (xVar 17) aNil)) aNil))))) (sRet (xC (.bl false))) sNop)
def law_b7 : S := (sSeq (sPar 21 22 (xBin addD (xVar 21) (xVar 22)) (xBin fdivD (xVar 22) (xVar 20))) (sKill [20]))
def law_s19 : S := (sIf (tV (xBin ltD (xVar 3) (xC (.int 400)))) (sSeq (sSet (gName 19) (xCall F_carry_row (aCons (xVar 2) (aCons (xVar 3) aNil)))) (sSeq (sPar 21 22 (xC (.int 0)) (xVar 3)) (sSeq (sSeq (sFor (gName 20) (iSeq (xVar 2)) law_b7) (sKill [20, 22])) (sIf (tOr (tV (xBin neD (xCB sumD (aCons (xVar 19) aNil)) (xVar 21))) (tOr (tV (xBin neD (xBin ixD (xVar 19) (xUn negD (xC (.int 1)))) (xCB lenD (aCons (xVar 2) aNil)))) (tAnd (tV (xBin geD (xVar 3) (xC (.int 20)))) (tV (xBin neD (xCall F_carry_row (aCons (xVar 2) (aCons (xBin addD (xVar 3) (xC (.int 20))) aNil))) (xBin addD (xVar 19) (xSlice (xVar 19) none (some (xC (.int 20)))))))))) (sRet (xC (.bl false))) sNop)))) sNop)
def law_s20 : S := (sSet (gName 10) (xLst (aCons (xTup aNil) (aCons (xTup (aCons (xC (.int 1)) aNil)) (aCons (xTup (aCons (xC (.int 11)) aNil)) (aCons (xBin mulD (xTup (aCons (xC (.int 2)) aNil)) (xC (.int 9))) (aCons (xLst (aCons (xC (.int 2)) aNil)) (aCons (xC .non) (aCons (xC (.int 5)) (aCons (xTup (aCons (xC (.bl true)) aNil)) (aCons (xTup (aCons (xC (.str [50])) aNil)) (aCons (xTup (aCons (xC (.int 2)) (aCons (xUn negD (xC (.int 1))) aNil))) aNil))))))))))))
def law_c8 : X := xLc [23] (iSeq (xVar 10)) (gName 23) tYes (xCall F_law_says (aCons (xCall F_is_bases (aCons (xVar 23) aNil)) (aCons (xC (.bl false)) aNil)))
def law_c9 : X := xLc [23] (iSeq (xVar 10)) (gName 23) tYes (xBin ixD (xCall F_law_told (aCons (xC (.fn 0)) (aCons (xTup (aCons (xVar 23) (aCons (xC (.int 3)) aNil))) aNil))) (xC (.int 0)))
def law_s21 : S := (sIf (tOr (tNot (tV (xCB allD (aCons (law_c8) aNil)))) (tV (xBin neD (law_c9) (xBin mulD (xLst (aCons (xC (.str [109, 97, 108, 102, 111, 114, 109, 101, 100])) aNil)) (xC (.int 10)))))) (sRet (xC (.bl false))) sNop)
def law_s22 : S := (sSet (gName 11) (xLst (aCons (xC .non) (aCons (xC (.int 5)) (aCons (xCB listD (aCons (xVar 13) aNil)) (aCons (xSlice (xVar 13) none (some (xUn negD (xC (.int 1))))) (aCons (xBin addD (xVar 13) (xTup (aCons (xC (.int 0)) aNil))) (aCons (xVar 2) (aCons (xBin addD (xTup (aCons (xUn negD (xC (.int 1))) aNil)) (xSlice (xVar 13) (some (xC (.int 1))) none)) (aCons (xBin addD (xTup (aCons (xC (.bl true)) aNil)) (xSlice (xVar 13) (some (xC (.int 1))) none)) (aCons (xBin addD (xTup (aCons (xC (.str [48])) aNil)) (xSlice (xVar 13) (some (xC (.int 1))) none)) aNil)))))))))))
def law_c10 : X := xLc [23] (iSeq (xVar 11)) (gName 23) tYes (xCall F_law_says (aCons (xCall F_is_figures (aCons (xVar 2) (aCons (xVar 23) aNil))) (aCons (xC (.bl false)) aNil)))
def law_c11 : X := xLc [23] (iSeq (xVar 11)) (gName 23) tYes (xBin ixD (xCall F_law_told (aCons (xC (.fn 1)) (aCons (xTup (aCons (xVar 2) (aCons (xVar 23) aNil))) aNil))) (xC (.int 0)))
def law_s23 : S := (sIf (tOr (tNot (tV (xCB allD (aCons (law_c10) aNil)))) (tV (xBin neD (law_c11) (xBin mulD (xLst (aCons (xC (.str [109, 97, 108, 102, 111, 114, 109, 101, 100])) aNil)) (xC (.int 9)))))) (sRet (xC (.bl false))) sNop)
def law_c12 : X := xLc [23] (iSeq (xVar 11)) (gName 23) tYes (xBin ixD (xCall F_law_told (aCons (xC (.fn 2)) (aCons (xTup (aCons (xVar 2) (aCons (xVar 23) aNil))) aNil))) (xC (.int 0)))
def law_s24 : S := (sIf (tV (xBin neD (law_c12) (xBin mulD (xLst (aCons (xC (.str [109, 97, 108, 102, 111, 114, 109, 101, 100])) aNil)) (xC (.int 9))))) (sRet (xC (.bl false))) sNop)
def law_s25 : S := (sSet (gName 12) (xLst (aCons (xTup (aCons (xC (.fn 0)) (aCons (xTup (aCons (xVar 2) (aCons (xC .non) aNil))) aNil))) (aCons (xTup (aCons (xC (.fn 0)) (aCons (xTup (aCons (xVar 2) (aCons (xC (.bl true)) aNil))) aNil))) (aCons (xTup (aCons (xC (.fn 3)) (aCons (xTup (aCons (xVar 2) (aCons (xVar 13) (aCons (xC .non) aNil)))) aNil))) (aCons (xTup (aCons (xC (.fn 3)) (aCons (xTup (aCons (xVar 2) (aCons (xC (.int 5)) (aCons (xVar 13) aNil)))) aNil))) aNil))))))
def law_s26 : S := (sSet (gName 12) (xBin addD (xVar 12) (xLst (aCons (xTup (aCons (xC (.fn 3)) (aCons (xTup (aCons (xC .non) (aCons (xVar 13) (aCons (xVar 13) aNil)))) aNil))) (aCons (xTup (aCons (xC (.fn 4)) (aCons (xTup (aCons (xVar 2) (aCons (xC (.int 0)) aNil))) aNil))) (aCons (xTup (aCons (xC (.fn 4)) (aCons (xTup (aCons (xVar 2) (aCons (xC (.int 501)) aNil))) aNil))) (aCons (xTup (aCons (xC (.fn 4)) (aCons (xTup (aCons (xTup (aCons (xC (.int 1)) aNil)) (aCons (xC (.int 5)) aNil))) aNil))) (aCons (xTup (aCons (xC (.fn 1)) (aCons (xTup (aCons (xTup (aCons (xC (.int 1)) aNil)) (aCons (xTup (aCons (xC (.int 0)) aNil)) aNil))) aNil))) aNil))))))))
def law_s27 : S := (sSet (gName 12) (xBin addD (xVar 12) (xLst (aCons (xTup (aCons (xC (.fn 2)) (aCons (xTup (aCons (xC (.int 5)) (aCons (xVar 13) aNil))) aNil))) aNil))))
def law_c13 : X := xLc [24, 25] (iSeq (xVar 12)) (gTup [(gName 24), (gName 25)]) tYes (xBin ixD (xCall F_law_told (aCons (xVar 24) (aCons (xVar 25) aNil))) (xC (.int 0)))
def law_s28 : S := (sRet (xBin eqD (law_c13) (xBin mulD (xLst (aCons (xC (.str [109, 97, 108, 102, 111, 114, 109, 101, 100])) aNil)) (xC (.int 10)))))
def B_law : S := (sSeq law_s0 (sSeq law_s1 (sSeq law_s2 (sSeq law_s3 (sSeq law_s4 (sSeq law_s5 (sSeq law_s6 (sSeq law_s7 (sSeq law_s8 (sSeq law_s9 (sSeq law_s10 (sSeq law_s11 (sSeq law_s12 (sSeq law_s13 (sSeq law_s14 (sSeq law_s15 (sSeq law_s16 (sSeq law_s17 (sSeq law_s18 (sSeq law_s19 (sSeq law_s20 (sSeq law_s21 (sSeq law_s22 (sSeq law_s23 (sSeq law_s24 (sSeq law_s25 (sSeq law_s26 (sSeq law_s27 law_s28))))))))))))))))))))))))))))
end K39

namespace K39
open PP
set_option linter.all false
/-! ### figures -/
structure Bs (bs : List Int) : Prop where
  lo : 1 ≤ bs.length
  hi : bs.length ≤ 8
  ok : ∀ b ∈ bs, 2 ≤ b ∧ b ≤ 10
abbrev Tu (l : List Int) : D := .tup (l.map .int)
inductive Fg : List Int → List Int → Prop
  | nil : Fg [] []
  | cons {b x : Int} {bs xs : List Int} (h0 : 0 ≤ x) (h1 : x < b) (t : Fg bs xs) : Fg (b :: bs) (x :: xs)
theorem Fg.len {bs xs : List Int} (h : Fg bs xs) : xs.length = bs.length := by
  induction h with
  | nil => rfl
  | cons _ _ _ ih => simp [ih]
def figs : List Int → Int → List Int
  | [], _ => []
  | b :: bs, n => n % b :: figs bs (n / b)
def num : List Int → List Int → Int
  | b :: bs, x :: xs => x + b * num bs xs
  | _, _ => 0
def cnt : List Int → List Int → Int → List Int
  | b :: bs, x :: xs, c => (x + c) % b :: cnt bs xs ((x + c) / b)
  | _, _, _ => []
def size : List Int → Int
  | [] => 1
  | b :: bs => b * size bs
theorem figs_len : ∀ (bs : List Int) (n : Int), (figs bs n).length = bs.length
  | [], _ => rfl
  | b :: bs, n => by simp [figs, figs_len bs]
theorem figs_fg : ∀ {bs : List Int}, (∀ b ∈ bs, 2 ≤ b ∧ b ≤ 10) → ∀ n, Fg bs (figs bs n)
  | [], _, _ => .nil
  | b :: bs, h, n => by
    have hb := h b (by simp)
    exact .cons (Int.emod_nonneg _ (by omega)) (Int.emod_lt_of_pos _ (by omega)) (figs_fg (fun b hb => h b (by simp [hb])) _)
theorem cnt_figs : ∀ {bs xs : List Int}, Fg bs xs → ∀ c, cnt bs xs c = figs bs (num bs xs + c)
  | _, _, .nil, _ => rfl
  | _, _, .cons (b := b) (x := x) (bs := bs) (xs := xs) h0 h1 t, c => by
    have e : x + b * num bs xs + c = (x + c) + b * num bs xs := by omega
    have hb : b ≠ 0 := by omega
    simp only [cnt, figs, num]
    rw [e, Int.add_mul_emod_self_left, Int.add_mul_ediv_left _ _ hb, cnt_figs t, Int.add_comm ((x + c) / b)]
theorem figs_num {bs xs : List Int} (h : Fg bs xs) : figs bs (num bs xs) = xs := by
  induction h with
  | nil => rfl
  | cons h0 h1 t ih =>
    rename_i b x bs xs
    simp only [figs, num]
    rw [Int.add_mul_emod_self_left, Int.emod_eq_of_lt h0 h1, Int.add_mul_ediv_left _ _ (by omega), Int.ediv_eq_zero_of_lt h0 h1, Int.zero_add, ih]
theorem size_pos : ∀ {bs : List Int}, (∀ b ∈ bs, 2 ≤ b ∧ b ≤ 10) → 0 < size bs
  | [], _ => by simp [size]
  | b :: bs, h => by
    have hb := h b (by simp)
    have := size_pos (bs := bs) fun b hb => h b (by simp [hb])
    simp only [size]
    exact Int.mul_pos (by omega) this
theorem num_figs : ∀ {bs : List Int}, (∀ b ∈ bs, 2 ≤ b ∧ b ≤ 10) → ∀ n, num bs (figs bs n) = n % size bs
  | [], _, n => by simp [num, size, figs, Int.emod_one]
  | b :: bs, h, n => by
    have hb := h b (by simp)
    have hs := size_pos (bs := bs) fun b hb => h b (by simp [hb])
    simp only [num, figs, size]
    rw [num_figs (fun b hb => h b (by simp [hb]))]
    have e1 := Int.emod_add_mul_ediv n b
    have e2 := Int.emod_add_mul_ediv (n / b) (size bs)
    have r1 := Int.emod_nonneg n (b := b) (by omega)
    have r2 := Int.emod_lt_of_pos n (b := b) (by omega)
    have r3 := Int.emod_nonneg (n / b) (b := size bs) (by omega)
    have r4 := Int.emod_lt_of_pos (n / b) hs
    have e3 : n = (n % b + b * (n / b % size bs)) + (b * size bs) * (n / b / size bs) := by
      have : b * (n / b) = b * (n / b % size bs) + b * (size bs * (n / b / size bs)) := by
        rw [← Int.mul_add, e2]
      rw [Int.mul_assoc]
      omega
    have r5 : b * (n / b % size bs) ≤ b * (size bs - 1) := Int.mul_le_mul_of_nonneg_left (by omega) (by omega)
    have r6 : 0 ≤ b * (n / b % size bs) := Int.mul_nonneg (by omega) r3
    rw [Int.mul_sub] at r5
    have e4 : n % (b * size bs) = ((n % b + b * (n / b % size bs)) + (b * size bs) * (n / b / size bs)) % (b * size bs) := by rw [← e3]
    have e5 : (n % b + b * (n / b % size bs)) % (b * size bs) = n % b + b * (n / b % size bs) := Int.emod_eq_of_lt (by omega) (by omega)
    rw [e4, Int.add_mul_emod_self_left, e5]
theorem figs_mod : ∀ {bs : List Int}, (∀ b ∈ bs, 2 ≤ b ∧ b ≤ 10) → ∀ n, figs bs (n % size bs) = figs bs n := fun h n => by
  rw [← num_figs h n, figs_num (figs_fg h n)]
theorem figs_cong {bs : List Int} (h : ∀ b ∈ bs, 2 ≤ b ∧ b ≤ 10) {m n : Int} (e : m % size bs = n % size bs) : figs bs m = figs bs n := by
  rw [← figs_mod h m, e, figs_mod h n]
def zeros (bs : List Int) : List Int := bs.map fun _ => 0
theorem figs_zero : ∀ bs : List Int, figs bs 0 = zeros bs
  | [] => rfl
  | b :: bs => by simp only [figs, zeros, List.map_cons, Int.zero_emod, Int.zero_ediv]; rw [figs_zero bs]; rfl
theorem num_top : ∀ {bs : List Int}, num bs (bs.map fun b => b - 1) = size bs - 1
  | [] => rfl
  | b :: bs => by
    simp only [num, size, List.map_cons]
    rw [num_top, Int.mul_sub]
    omega
theorem fg_top : ∀ {bs : List Int}, (∀ b ∈ bs, 2 ≤ b ∧ b ≤ 10) → Fg bs (bs.map fun b => b - 1)
  | [], _ => .nil
  | b :: bs, h => by
    have hb := h b (by simp)
    exact .cons (show 0 ≤ b - 1 by omega) (show b - 1 < b by omega) (fg_top fun b hb => h b (by simp [hb]))
/-! ### how many figures change -/
def dif (xs ys : List Int) : Int := ((xs.zip ys).filter fun p => !(p.1 == p.2)).length
def chg (bs : List Int) (j : Int) : Int := dif (figs bs j) (figs bs (j + 1))
theorem dif_self : ∀ xs : List Int, dif xs xs = 0
  | [] => rfl
  | x :: xs => by
    have := dif_self xs
    unfold dif at this ⊢
    simpa using this
theorem dif_cons (x y : Int) (xs ys : List Int) : dif (x :: xs) (y :: ys) = (if x = y then 0 else 1) + dif xs ys := by
  unfold dif
  by_cases h : x = y
  · simp [h]
  · simp [h]; omega
theorem step_mod {b j : Int} (hb : 2 ≤ b) : ¬ (j % b = (j + 1) % b) := by
  intro e
  have h1 := Int.emod_nonneg j (b := b) (by omega)
  have h2 := Int.emod_lt_of_pos j (b := b) (by omega)
  have e2 : (j + 1) % b = (j % b + 1) % b := by rw [Int.add_emod, Int.emod_eq_of_lt (a := 1) (by omega) (by omega)]
  rw [e2] at e
  by_cases h : j % b + 1 < b
  · rw [Int.emod_eq_of_lt (by omega) h] at e; omega
  · have : j % b + 1 = b := by omega
    rw [this, Int.emod_self] at e; omega
theorem chg_cons {b : Int} {bs : List Int} (hb : 2 ≤ b) (j : Int) : chg (b :: bs) j = 1 + (if (j + 1) % b = 0 then chg bs (j / b) else 0) := by
  unfold chg
  simp only [figs]
  rw [dif_cons, if_neg (step_mod hb)]
  have hj := Int.emod_add_mul_ediv j b
  have h1 := Int.emod_nonneg j (b := b) (by omega)
  have h2 := Int.emod_lt_of_pos j (b := b) (by omega)
  by_cases h : (j + 1) % b = 0
  · rw [if_pos h]
    have hd := Int.emod_add_mul_ediv (j + 1) b
    have : (j + 1) / b = j / b + 1 := by
      have e : b * ((j + 1) / b) = b * (j / b) + (j % b + 1) := by omega
      have e2 : b * ((j + 1) / b - j / b) = j % b + 1 := by rw [Int.mul_sub]; omega
      have p1 : 0 < (j + 1) / b - j / b := by
        apply Classical.byContradiction
        intro n
        have : b * ((j + 1) / b - j / b) ≤ b * 0 := Int.mul_le_mul_of_nonneg_left (by omega) (by omega)
        omega
      have p2 : (j + 1) / b - j / b < 2 := by
        apply Classical.byContradiction
        intro n
        have : b * 2 ≤ b * ((j + 1) / b - j / b) := Int.mul_le_mul_of_nonneg_left (by omega) (by omega)
        omega
      omega
    rw [this]
  · rw [if_neg h]
    have hlt : j % b + 1 < b := by
      apply Classical.byContradiction
      intro n
      have e1 : j % b + 1 = b := by omega
      apply h
      have e2 : (j + 1) % b = (j % b + 1) % b := by rw [Int.add_emod, Int.emod_eq_of_lt (a := 1) (by omega) (by omega)]
      rw [e2, e1, Int.emod_self]
    have : (j + 1) / b = j / b := by
      have e : j + 1 = (j % b + 1) + b * (j / b) := by omega
      rw [e, Int.add_mul_ediv_left _ _ (by omega), Int.ediv_eq_zero_of_lt (by omega) hlt, Int.zero_add]
    rw [this, dif_self]
def row (bs : List Int) (n : Nat) : List Int := (List.range n).map fun (i : Nat) => chg bs (i : Int)
def sumTo (f : Nat → Int) : Nat → Int
  | 0 => 0
  | n + 1 => sumTo f n + f n
theorem row_sum (bs : List Int) : ∀ n : Nat, (row bs n).sum = sumTo (fun i => chg bs (i : Int)) n
  | 0 => rfl
  | n + 1 => by
    have ih := row_sum bs n
    unfold row at ih ⊢
    rw [List.range_succ, List.map_append, List.sum_append, ih]
    simp [sumTo]
theorem sumTo_add (f : Nat → Int) (m : Nat) : ∀ n : Nat, sumTo f (m + n) = sumTo f m + sumTo (fun i => f (m + i)) n
  | 0 => by simp [sumTo]
  | n + 1 => by
    show sumTo f (m + n) + f (m + n) = _
    rw [sumTo_add f m n]
    simp only [sumTo]
    omega
/-- one block of b -/
theorem blk_sum {b : Nat} {bs : List Int} (hb : 2 ≤ b) (i : Nat) : ∀ n, n ≤ b → sumTo (fun k => chg ((b : Int) :: bs) (((b * i + k : Nat)) : Int)) n = (n : Int) + (if n = b then chg bs (i : Int) else 0)
  | 0, _ => by
    rw [if_neg (by omega)]
    rfl
  | n + 1, h => by
    simp only [sumTo]
    rw [blk_sum hb i n (by omega), if_neg (by omega), chg_cons (by omega)]
    have e : (((b * i + n : Nat) : Int) + 1) = ((n + 1 : Nat) : Int) + (b : Int) * (i : Int) := by
      push_cast
      omega
    have e2 : ((b * i + n : Nat) : Int) = (n : Int) + (b : Int) * (i : Int) := by
      push_cast
      omega
    rw [e, Int.add_mul_emod_self_left, e2, Int.add_mul_ediv_left _ _ (by omega), Int.ediv_eq_zero_of_lt (by omega) (by omega), Int.zero_add]
    by_cases hn : n + 1 = b
    · rw [if_pos hn, hn, Int.emod_self, if_pos rfl]
      omega
    · rw [if_neg hn, Int.emod_eq_of_lt (by omega) (by omega), if_neg (by omega)]
      omega
theorem all_sum {b : Nat} {bs : List Int} (hb : 2 ≤ b) : ∀ m : Nat, sumTo (fun k => chg ((b : Int) :: bs) (k : Int)) (b * m) = ((b * m : Nat) : Int) + sumTo (fun i => chg bs (i : Int)) m
  | 0 => by simp [sumTo]
  | m + 1 => by
    rw [Nat.mul_succ, sumTo_add, all_sum hb m, blk_sum hb m b (Nat.le_refl _), if_pos rfl]
    simp only [sumTo]
    push_cast
    omega
def tot : List Int → Int → Int → Int
  | [], t, _ => t
  | b :: bs, t, s => tot bs (t + s) (s / b)
theorem tot_add : ∀ (bs : List Int) (t s : Int), tot bs t s = t + tot bs 0 s
  | [], t, s => by simp [tot]
  | b :: bs, t, s => by
    simp only [tot]
    rw [tot_add bs (t + s), tot_add bs (0 + s)]
    omega
theorem sum_tot : ∀ {bs : List Int}, (∀ b ∈ bs, 2 ≤ b ∧ b ≤ 10) → sumTo (fun i => chg bs (i : Int)) (size bs).toNat = tot bs 0 (size bs)
  | [], _ => by simp [size, sumTo, chg, figs, dif, tot]
  | b :: bs, h => by
    have hb := h b (by simp)
    have h' : ∀ b ∈ bs, 2 ≤ b ∧ b ≤ 10 := fun b hb => h b (by simp [hb])
    have hs := size_pos h'
    obtain ⟨c, rfl⟩ : ∃ c : Nat, b = (c : Int) := ⟨b.toNat, by omega⟩
    obtain ⟨m, hm⟩ : ∃ m : Nat, size bs = (m : Int) := ⟨(size bs).toNat, by omega⟩
    have ih := sum_tot h'
    simp only [size, tot]
    rw [hm] at ih ⊢
    have e : ((c : Int) * (m : Int)).toNat = c * m := by
      rw [← Int.natCast_mul]; exact Int.toNat_natCast _
    rw [e, all_sum (by omega), tot_add, Int.mul_ediv_cancel_left _ (by omega)]
    simp at ih
    rw [ih]
    push_cast
    omega
theorem chg_last : ∀ {bs : List Int}, (∀ b ∈ bs, 2 ≤ b ∧ b ≤ 10) → chg bs (size bs - 1) = bs.length
  | [], _ => by simp [chg, figs, dif]
  | b :: bs, h => by
    have hb := h b (by simp)
    have h' : ∀ b ∈ bs, 2 ≤ b ∧ b ≤ 10 := fun b hb => h b (by simp [hb])
    rw [chg_cons (by omega)]
    have e : size (b :: bs) - 1 + 1 = b * size bs := by simp [size]
    have e2 : size (b :: bs) - 1 = (b - 1) + b * (size bs - 1) := by
      simp only [size]
      rw [Int.mul_sub]
      omega
    rw [e, Int.mul_emod_right, if_pos rfl, e2, Int.add_mul_ediv_left _ _ (by omega), Int.ediv_eq_zero_of_lt (by omega) (by omega), Int.zero_add, chg_last h']
    simp
    omega
theorem chg_per {bs : List Int} (h : ∀ b ∈ bs, 2 ≤ b ∧ b ≤ 10) (j : Int) : chg bs (j + size bs) = chg bs j := by
  unfold chg
  rw [figs_cong h (m := j + size bs) (n := j) (by simp), figs_cong h (m := j + size bs + 1) (n := j + 1) (by
    have : j + size bs + 1 = (j + 1) + size bs := by omega
    rw [this]; simp)]
end K39

namespace K39
open PP
set_option linter.all false
/-! ### what the defs do -/
theorem is_integer_i (i : Int) (g : G) : F_is_integer [.int i] g = .ok (.bl true) g := by
  simp [F_is_integer, fnOf, B_is_integer]
theorem map_ds (l : List Int) : (Tu l) = .tup (l.map .int) := rfl
theorem is_bases_ok {bs : List Int} (h : Bs bs) (g : G) : F_is_bases [Tu bs] g = .ok (.bl true) g := by
  have hc : is_bases_c0 [some (Tu bs), none] g = .ok (.lst ((bs.map D.int).map fun _ => .bl true)) g := by
    refine xLc_of (ds := bs.map .int) rfl (lcL_map _ fun d hd => ?_)
    obtain ⟨b, hb, rfl⟩ := List.mem_map.mp hd
    have := h.ok b hb
    refine ⟨_, rfl, ?_⟩
    simp [is_integer_i, this.1, this.2, ofO]
  have l1 := h.lo
  have l2 := h.hi
  have e1 : (1 : Int) ≤ (bs.length : Int) := by omega
  have e2 : (bs.length : Int) ≤ 8 := by omega
  simp [F_is_bases, fnOf, B_is_bases, hc, allD_t, e1, e2, l1, l2, -List.map_map]
theorem check_bases_ok {bs : List Int} (h : Bs bs) (g : G) : F_check_bases [Tu bs] g = .ok .non g := by
  simp [F_check_bases, fnOf, B_check_bases, is_bases_ok h]
theorem zip_pairs : ∀ (xs bs : List Int), zipL (xs.map .int) (bs.map .int) = (xs.zip bs).map fun p => .tup [.int p.1, .int p.2]
  | [], _ => by simp [zipL]
  | _ :: _, [] => by simp [zipL]
  | x :: xs, b :: bs => by
    have := zip_pairs xs bs
    simp [zipL] at this ⊢
    exact this
theorem fg_zip {bs xs : List Int} (h : Fg bs xs) : ∀ p ∈ xs.zip bs, 0 ≤ p.1 ∧ p.1 < p.2 := by
  induction h with
  | nil => simp
  | cons h0 h1 t ih =>
    intro p hp
    simp only [List.zip_cons_cons, List.mem_cons] at hp
    rcases hp with rfl | hp
    · exact ⟨h0, h1⟩
    · exact ih p hp
theorem is_figures_ok {bs xs : List Int} (h : Fg bs xs) (g : G) : F_is_figures [Tu bs, Tu xs] g = .ok (.bl true) g := by
  have hc : is_figures_c0 [some (Tu bs), some (Tu xs), none, none] g = .ok (.lst (((xs.zip bs).map fun p => D.tup [.int p.1, .int p.2]).map fun _ => .bl true)) g := by
    refine xLc_of (ds := (xs.zip bs).map fun p => .tup [.int p.1, .int p.2]) (by rw [← zip_pairs]; rfl) (lcL_map _ fun d hd => ?_)
    obtain ⟨p, hp, rfl⟩ := List.mem_map.mp hd
    have := fg_zip h p hp
    refine ⟨_, rfl, ?_⟩
    simp [is_integer_i, this.1, this.2, ofO]
  have e : ((xs.length : Int) == (bs.length : Int)) = true := by rw [h.len]; simp
  simp [F_is_figures, fnOf, B_is_figures, is_figures_s0, is_figures_s1, e, h.len, hc, allD_t, -List.map_map]
theorem figures_loop {bs0 : List Int} (g : G) : ∀ (bs : List Int) (n : Int) (acc : List Int), (∀ b ∈ bs, 2 ≤ b ∧ b ≤ 10) → acc.length + bs.length ≤ 1000 →
    ∃ n', forL (gName 3) figures_of_b0 (bs.map .int) [some (Tu bs0), some (.int n), some (.lst (acc.map .int)), none] g = .nx [some (Tu bs0), some (.int n'), some (.lst ((acc ++ figs bs n).map .int)), none] g
  | [], n, acc, _, _ => ⟨n, by simp [forL, figs]⟩
  | b :: bs, n, acc, h, hl => by
    have hb := h b (by simp)
    obtain ⟨n', ih⟩ := figures_loop (bs0 := bs0) g bs (n / b) (acc ++ [n % b]) (fun b hb => h b (by simp [hb])) (by simp at hl ⊢; omega)
    refine ⟨n', ?_⟩
    have hL : acc.length < LIM := by
      have : LIM = 16777216 := rfl
      simp at hl; omega
    simp only [List.map_cons]
    rw [forL_nx (ρ2 := [some (Tu bs0), some (.int (n / b)), some (.lst ((acc ++ [n % b]).map .int)), none]) (g2 := g) rfl (by
      simp [figures_of_b0, op_mod_i (show 0 < b by omega), op_fdiv_i (show 0 < b by omega) (show b < 1073741824 by omega), hL]), ih]
    simp [figs]
theorem figures_of_ok {bs : List Int} (h : Bs bs) (n : Int) (g : G) : F_figures_of [Tu bs, .int n] g = .ok (Tu (figs bs n)) g := by
  obtain ⟨n', hl⟩ := figures_loop (bs0 := bs) g bs n [] h.ok (by have := h.hi; simp; omega)
  simp only [List.map_nil, List.nil_append] at hl
  have hL : ([] : List D).length ≤ LIM := by decide
  simp [F_figures_of, fnOf, B_figures_of, figures_of_s0, figures_of_s1, figures_of_s2, figures_of_s3, figures_of_s4, check_bases_ok h, is_integer_i, sFor, hl, hL]
theorem counted_loop {bs0 xs0 : List Int} (g : G) {bs xs : List Int} (t : Fg bs xs) : ∀ (c : Int) (acc : List Int), (∀ b ∈ bs, 2 ≤ b ∧ b ≤ 10) → acc.length + bs.length ≤ 1000 →
    ∃ c', forL (gTup [gName 4, gName 5]) counted_on_b0 (zipL (xs.map .int) (bs.map .int)) [some (Tu bs0), some (Tu xs0), some (.lst (acc.map .int)), some (.int c), none, none] g = .nx [some (Tu bs0), some (Tu xs0), some (.lst ((acc ++ cnt bs xs c).map .int)), some (.int c'), none, none] g := by
  induction t with
  | nil => exact fun c acc _ _ => ⟨c, by simp [zipL, forL, cnt]⟩
  | cons h0 h1 t ih =>
    rename_i b x bs xs
    intro c acc h hl
    have hb := h b (by simp)
    obtain ⟨c', ih⟩ := ih ((x + c) / b) (acc ++ [(x + c) % b]) (fun b hb => h b (by simp [hb])) (by simp at hl ⊢; omega)
    refine ⟨c', ?_⟩
    have hL : acc.length < LIM := by
      have : LIM = 16777216 := rfl
      simp at hl; omega
    have ez : zipL ((x :: xs).map .int) ((b :: bs).map .int) = .tup [.int x, .int b] :: zipL (xs.map .int) (bs.map .int) := by simp [zipL]
    rw [ez, forL_nx (ρ2 := [some (Tu bs0), some (Tu xs0), some (.lst ((acc ++ [(x + c) % b]).map .int)), some (.int ((x + c) / b)), none, none]) (g2 := g) rfl (by
      simp [counted_on_b0, op_mod_i (show 0 < b by omega), op_fdiv_i (show 0 < b by omega) (show b < 1073741824 by omega), hL]), ih]
    simp [cnt]
theorem counted_on_ok {bs xs : List Int} (h : Bs bs) (hx : Fg bs xs) (g : G) : F_counted_on [Tu bs, Tu xs] g = .ok (Tu (figs bs (num bs xs + 1))) g := by
  obtain ⟨c', hl⟩ := counted_loop (bs0 := bs) (xs0 := xs) g hx 1 [] h.ok (by have := h.hi; simp; omega)
  simp only [List.map_nil, List.nil_append] at hl
  have hL : ([] : List D).length ≤ LIM := by decide
  rw [← cnt_figs hx]
  simp [F_counted_on, fnOf, B_counted_on, counted_on_s0, counted_on_s1, counted_on_s2, counted_on_s3, counted_on_s4, check_bases_ok h, is_figures_ok hx, sFor, hl, hL]
def nstep (s : Int) : D → Int
  | .tup [.int x, .int b] => s * b + x
  | _ => s
theorem nstep_num {bs xs : List Int} (t : Fg bs xs) : (zipL (xs.map .int) (bs.map .int)).foldr (fun d s => nstep s d) 0 = num bs xs := by
  induction t with
  | nil => rfl
  | cons h0 h1 t ih =>
    rename_i b x bs xs
    have ez : zipL ((x :: xs).map .int) ((b :: bs).map .int) = .tup [.int x, .int b] :: zipL (xs.map .int) (bs.map .int) := by simp [zipL]
    rw [ez, List.foldr_cons, ih]
    simp only [nstep, num]
    rw [Int.mul_comm, Int.add_comm]
theorem number_loop {bs0 xs0 : List Int} (g : G) {bs xs : List Int} (t : Fg bs xs) (h : ∀ b ∈ bs, 2 ≤ b ∧ b ≤ 10) :
    forL (gTup [gName 3, gName 4]) number_of_b0 (zipL (xs.map .int) (bs.map .int)).reverse [some (Tu bs0), some (Tu xs0), some (.int 0), none, none] g = .nx [some (Tu bs0), some (Tu xs0), some (.int (num bs xs)), none, none] g := by
  have := forL_fold (tg := gTup [gName 3, gName 4]) (b := number_of_b0) (g := g) (fun s => [some (Tu bs0), some (Tu xs0), some (.int s), none, none]) nstep (fun _ => True) (ds := (zipL (xs.map .int) (bs.map .int)).reverse) (s := 0) trivial fun d hd s _ => by
    rw [zip_pairs, List.mem_reverse] at hd
    obtain ⟨p, hp, rfl⟩ := List.mem_map.mp hd
    have hb := h p.2 (List.of_mem_zip hp).2
    refine ⟨_, rfl, ?_, trivial⟩
    simp [number_of_b0, op_mul_r (i := s) (show p.2.natAbs < 18446744073709551616 by omega), nstep]
  rw [this, List.foldl_reverse, nstep_num t]
theorem number_of_ok {bs xs : List Int} (h : Bs bs) (hx : Fg bs xs) (g : G) : F_number_of [Tu bs, Tu xs] g = .ok (.int (num bs xs)) g := by
  have hl := number_loop (bs0 := bs) (xs0 := xs) g hx h.ok
  simp [F_number_of, fnOf, B_number_of, number_of_s0, number_of_s1, number_of_s2, number_of_s3, number_of_s4, check_bases_ok h, is_figures_ok hx, sFor, hl, revD]
theorem figure_sum_ok {bs xs ys : List Int} (h : Bs bs) (hx : Fg bs xs) (hy : Fg bs ys) (g : G) : F_figure_sum [Tu bs, Tu xs, Tu ys] g = .ok (Tu (figs bs (num bs xs + num bs ys))) g := by
  simp [F_figure_sum, fnOf, B_figure_sum, number_of_ok h hx, number_of_ok h hy, figures_of_ok h]
end K39

namespace K39
open PP
set_option linter.all false
/-! ### the law's own -/
theorem law_is_whole_i (i : Int) (g : G) : F_law_is_whole [.int i] g = .ok (.bl true) g := by
  simp [F_law_is_whole, fnOf, B_law_is_whole]
theorem law_says_ok (b : Bool) (g : G) : F_law_says [.bl b, .bl b] g = .ok (.bl true) g := by
  simp [F_law_says, fnOf, B_law_says, eqD, eqB]
/-- data that law_same may take with fuel n -/
inductive OkS : Nat → D → Prop
  | non {n : Nat} : OkS (n + 1) .non
  | bl {n : Nat} {b : Bool} : OkS (n + 1) (.bl b)
  | int {n : Nat} {i : Int} : OkS (n + 1) (.int i)
  | str {n : Nat} {s : List Nat} : OkS (n + 1) (.str s)
  | tup {n : Nat} {l : List D} (hl : l.length ≤ LIM) (h : ∀ d ∈ l, OkS n d) : OkS (n + 1) (.tup l)
  | lst {n : Nat} {l : List D} (h : OkS n (.tup l)) : OkS (n + 1) (.lst l)
theorem same_refl : ∀ (n : Nat) (d : D), OkS n d → ∀ g : G, R_law_same n [d, d] g = .ok (.bl true) g := by
  intro n
  induction n with
  | zero => intro d h; cases h
  | succ n ih =>
    intro d h g
    cases h with
    | non => simp [R_law_same, fnOf, B_law_same, law_same_s0, law_same_s1, law_same_s2, law_same_s3, law_same_s4]
    | bl => simp [R_law_same, fnOf, B_law_same, law_same_s0, eqD, eqB]
    | int => simp [R_law_same, fnOf, B_law_same, law_same_s0, law_same_s1, law_same_s2, law_same_s3, law_same_s4, law_same_s5, law_is_whole_i]
    | str => simp [R_law_same, fnOf, B_law_same, law_same_s0, law_same_s1, law_same_s2, law_same_s3, eqD, eqB]
    | tup hl h =>
      rename_i l
      have hc : law_same_c0 (R_law_same n) [some (.tup l), some (.tup l), none] g = .ok (.lst ((rngL 0 l.length).map fun _ => .bl true)) g := by
        refine xLc_of (ds := rngL 0 l.length) ?_ (lcL_map _ fun d hd => ?_)
        · exact iRng1_nat (by simp) hl
        · obtain ⟨i, hi, rfl⟩ := rng_mem hd
          refine ⟨_, rfl, ?_⟩
          have e : l[i]? = some l[i] := List.getElem?_eq_getElem hi
          simp [itD_nat e, ih l[i] (h _ (List.getElem_mem hi))]
      have ha : allD [.lst ((rngL 0 l.length).map fun _ => D.bl true)] = some (.bl true) := allD_t _
      simp [R_law_same, fnOf, B_law_same, law_same_s0, law_same_s1, hc, ha]
    | lst h =>
      rename_i l
      simp [R_law_same, fnOf, B_law_same, law_same_s0, law_same_s1, law_same_s2, ih _ h]
theorem same_ok {d : D} (h : OkS 16 d) (g : G) : F_law_same [d, d] g = .ok (.bl true) g := same_refl 16 d h g
theorem okS_ints {l : List Int} (h : l.length ≤ LIM) {n : Nat} : OkS (n + 2) (Tu l) := .tup (by simpa using h) fun d hd => by
  obtain ⟨i, _, rfl⟩ := List.mem_map.mp hd
  exact .int
theorem law_figures_loop {bs0 : List Int} (g : G) : ∀ (bs : List Int) (n : Int) (acc : List Int), (∀ b ∈ bs, 2 ≤ b ∧ b ≤ 10) → acc.length + bs.length ≤ 1000 →
    ∃ n', forL (gName 3) law_figures_b0 (bs.map .int) [some (Tu bs0), some (.int n), some (.lst (acc.map .int)), none] g = .nx [some (Tu bs0), some (.int n'), some (.lst ((acc ++ figs bs n).map .int)), none] g
  | [], n, acc, _, _ => ⟨n, by simp [forL, figs]⟩
  | b :: bs, n, acc, h, hl => by
    have hb := h b (by simp)
    obtain ⟨n', ih⟩ := law_figures_loop (bs0 := bs0) g bs (n / b) (acc ++ [n % b]) (fun b hb => h b (by simp [hb])) (by simp at hl ⊢; omega)
    refine ⟨n', ?_⟩
    have hL : acc.length < LIM := by
      simp at hl; exact LIM_lt (by omega)
    simp only [List.map_cons]
    rw [forL_nx (ρ2 := [some (Tu bs0), some (.int (n / b)), some (.lst ((acc ++ [n % b]).map .int)), none]) (g2 := g) rfl (by
      simp [law_figures_b0, op_mod_i (show 0 < b by omega), op_fdiv_i (show 0 < b by omega) (show b < 1073741824 by omega), hL]), ih]
    simp [figs]
theorem law_figures_ok {bs : List Int} (h : Bs bs) (n : Int) (g : G) : F_law_figures [Tu bs, .int n] g = .ok (Tu (figs bs n)) g := by
  obtain ⟨n', hl⟩ := law_figures_loop (bs0 := bs) g bs n [] h.ok (by have := h.hi; simp; omega)
  simp only [List.map_nil, List.nil_append] at hl
  simp [F_law_figures, fnOf, B_law_figures, law_figures_s0, law_figures_s1, law_figures_s2, sFor, hl]
theorem small_b : ∀ {n : Nat} (s : Int), 0 ≤ s → s ≤ 10 ^ n → n ≤ 10 → s.natAbs < 18446744073709551616 := fun {n} s h0 h1 hn => by
  have : (10 : Int) ^ n ≤ 10 ^ 10 := by
    have := Nat.pow_le_pow_right (show 0 < 10 by decide) hn
    exact_mod_cast this
  omega
theorem law_number_loop {bs0 xs0 : List Int} (g : G) {bs xs : List Int} (t : Fg bs xs) : ∀ (a s : Int) (k : Nat), (∀ b ∈ bs, 2 ≤ b ∧ b ≤ 10) → 0 ≤ s → s ≤ 10 ^ k → k + bs.length ≤ 10 →
    ∃ s', forL (gTup [gName 4, gName 5]) law_number_b0 (zipL (xs.map .int) (bs.map .int)) [some (Tu bs0), some (Tu xs0), some (.int a), some (.int s), none, none] g = .nx [some (Tu bs0), some (Tu xs0), some (.int (a + s * num bs xs)), some (.int s'), none, none] g := by
  induction t with
  | nil => exact fun a s k _ _ _ _ => ⟨s, by simp [zipL, forL, num]⟩
  | cons h0 h1 t ih =>
    rename_i b x bs xs
    intro a s k h hs0 hs1 hk
    have hb := h b (by simp)
    have hsm := small_b s hs0 hs1 (by simp at hk; omega)
    have p1 : 0 ≤ s * b := Int.mul_nonneg hs0 (by omega)
    have p2 : s * b ≤ 10 ^ (k + 1) := by
      have e : (10 : Int) ^ (k + 1) = 10 ^ k * 10 := Int.pow_succ _ _
      rw [e]
      calc s * b ≤ s * 10 := Int.mul_le_mul_of_nonneg_left hb.2 hs0
        _ ≤ 10 ^ k * 10 := Int.mul_le_mul_of_nonneg_right hs1 (by decide)
    obtain ⟨s', ih⟩ := ih (a + x * s) (s * b) (k + 1) (fun b hb => h b (by simp [hb])) p1 p2 (by simp at hk; omega)
    refine ⟨s', ?_⟩
    have ez : zipL ((x :: xs).map .int) ((b :: bs).map .int) = .tup [.int x, .int b] :: zipL (xs.map .int) (bs.map .int) := by simp [zipL]
    rw [ez, forL_nx (ρ2 := [some (Tu bs0), some (Tu xs0), some (.int (a + x * s)), some (.int (s * b)), none, none]) (g2 := g) rfl (by
      simp [law_number_b0, op_mul_r (i := x) hsm, op_mul_l (j := b) hsm]), ih]
    simp only [num]
    have : a + x * s + s * b * num bs xs = a + s * (x + b * num bs xs) := by
      rw [Int.mul_add, Int.mul_comm x s, Int.mul_assoc]; omega
    rw [this]
theorem law_number_ok {bs xs : List Int} (h : Bs bs) (hx : Fg bs xs) (g : G) : F_law_number [Tu bs, Tu xs] g = .ok (.int (num bs xs)) g := by
  obtain ⟨s', hl⟩ := law_number_loop (bs0 := bs) (xs0 := xs) g hx 0 1 0 h.ok (by decide) (by decide) (by have := h.hi; omega)
  simp only [Int.zero_add, Int.one_mul] at hl
  simp [F_law_number, fnOf, B_law_number, law_number_s0, law_number_s1, law_number_s2, sFor, hl]
/-! rows of changes -/
theorem dif_c {xs ys : List Int} {f : D → D} {c : X} (h : ∀ x y : Int, (if x = y then False else True) → True) : True := trivial
theorem chg_nn (bs : List Int) (j : Int) : 0 ≤ chg bs j := by unfold chg dif; omega
def difD (xs ys : List Int) : List D := ((zipL (xs.map .int) (ys.map .int)).filter fun d => match d with
  | .tup [.int x, .int y] => !(x == y)
  | _ => false).map fun _ => .int 1
theorem difD_len : ∀ xs ys : List Int, ((difD xs ys).length : Int) = dif xs ys := fun xs ys => by
  unfold difD dif
  rw [zip_pairs, List.length_map, List.filter_map, List.length_map]
  rfl
theorem carry_comp (bs fnd c k : Option D) (xs ys : List Int) (g : G) : carry_row_c0 [bs, c, k, some (Tu xs), fnd, some (Tu ys), none, none] g = .ok (.lst (difD xs ys)) g := by
  refine xLc_of (ds := zipL (xs.map .int) (ys.map .int)) (by simp) (lcL_pure _ _ fun d hd => ?_)
  rw [zip_pairs] at hd
  obtain ⟨p, hp, rfl⟩ := List.mem_map.mp hd
  refine ⟨_, rfl, ?_, fun _ => rfl⟩
  simp
theorem carry_loop {bs : List Int} (hB : Bs bs) {c : Int} (g : G) : ∀ (n m : Nat), m + n ≤ 600 →
    ∃ l, forL (gName 2) carry_row_b1 ((List.range n).map fun i => .int ((m + i : Nat) : Int)) [some (Tu bs), some (.int c), none, some (Tu (figs bs m)), some (.lst ((row bs m).map .int)), none, none, none] g = .nx [some (Tu bs), some (.int c), none, some (Tu l), some (.lst ((row bs (m + n)).map .int)), none, none, none] g
  | 0, m, _ => ⟨_, rfl⟩
  | n + 1, m, h => by
    obtain ⟨l, ih⟩ := carry_loop hB (c := c) g n (m + 1) (by omega)
    refine ⟨l, ?_⟩
    have e : (List.range (n + 1)).map (fun i => D.int ((m + i : Nat) : Int)) = .int (m : Int) :: (List.range n).map fun i => .int ((m + 1 + i : Nat) : Int) := by
      rw [List.range_succ_eq_map, List.map_cons, List.map_map]
      congr 1
      apply List.map_congr_left
      intro i _
      simp only [Function.comp]
      congr 2
      omega
    have hlen : ((row bs m).map D.int).length < LIM := by
      have : LIM = 16777216 := rfl
      simp [row]; omega
    have ec : figs bs (num bs (figs bs (m : Int)) + 1) = figs bs ((m : Int) + 1) := by
      rw [num_figs hB.ok]
      refine figs_cong hB.ok ?_
      rw [Int.add_emod, Int.emod_emod_of_dvd _ (Int.dvd_refl _), ← Int.add_emod]
    have er : (row bs (m + 1)).map D.int = (row bs m).map D.int ++ [.int (chg bs m)] := by
      simp [row, List.range_succ]
    rw [e, forL_nx (ρ2 := [some (Tu bs), some (.int c), none, some (Tu (figs bs ((m + 1 : Nat) : Int))), some (.lst ((row bs (m + 1)).map .int)), none, none, none]) (g2 := g) rfl (by
      have hl2 : (row bs m).length < LIM := by simpa using hlen
      have hd := difD_len (figs bs m) (figs bs ((m : Int) + 1))
      simp [carry_row_b1, counted_on_ok hB (figs_fg hB.ok m), ec, carry_comp, hl2, hd, er]
      rfl), ih]
    have : m + 1 + n = m + (n + 1) := by omega
    rw [this]
theorem check_from_ok {n lo hi : Int} (h1 : lo ≤ n) (h2 : n ≤ hi) (g : G) : F_check_from [.int n, .int lo, .int hi] g = .ok .non g := by
  simp [F_check_from, fnOf, B_check_from, is_integer_i, h1, h2]
theorem rep_zero (n : Nat) : repL n [D.int 0] = (List.replicate n (0 : Int)).map .int := by
  induction n with
  | zero => rfl
  | succ n ih =>
    unfold repL at ih ⊢
    rw [List.replicate_succ, List.flatten_cons, ih]
    rfl
theorem zeros_rep (bs : List Int) : zeros bs = List.replicate bs.length 0 := by unfold zeros; induction bs with | nil => rfl | cons b bs ih => simp [ih, List.replicate_succ]
theorem mul_zero {bs : List Int} (h : Bs bs) : mulD (.tup [.int 0]) (.int (bs.length : Int)) = some (Tu (zeros bs)) := by
  have l1 := h.lo
  have l2 := h.hi
  have e1 : (1 : Int) ≤ (bs.length : Int) := by omega
  have e2 : (bs.length : Int) ≤ 1000 := by omega
  simp only [mulD]
  rw [if_pos (by simp; omega), zeros_rep, Int.toNat_natCast, rep_zero]
theorem carry_row_ok {bs : List Int} (hB : Bs bs) {c : Nat} (h1 : 1 ≤ c) (h2 : c ≤ 500) (g : G) : F_carry_row [Tu bs, .int (c : Int)] g = .ok (Tu (row bs c)) g := by
  obtain ⟨l, hl⟩ := carry_loop hB (c := (c : Int)) g c 0 (by omega)
  have e0 : figs bs ((0 : Nat) : Int) = zeros bs := figs_zero bs
  rw [e0] at hl
  have er : rngL 0 c = (List.range c).map fun i => .int ((0 + i : Nat) : Int) := by
    simp [rngL]
  have ek : rngOk (c : Int) = true ∧ (c : Int) ≤ (LIM : Int) := by
    have : LIM = 16777216 := rfl
    simp [rngOk]; omega
  rw [← er] at hl
  have c1 : (1 : Int) ≤ (c : Int) := by omega
  have c2 : (c : Int) ≤ 500 := by omega
  simp [row] at hl
  simp [F_carry_row, fnOf, B_carry_row, carry_row_s0, carry_row_s1, carry_row_s2, carry_row_s3, carry_row_s4, check_bases_ok hB, check_from_ok c1 c2, sFor, mul_zero hB, ek.1, ek.2, hl, row]
end K39

namespace K39
open PP
set_option linter.all false
/-! ### what is refused -/
abbrev mal : D := .str [109, 97, 108, 102, 111, 114, 109, 101, 100]
abbrev malT : D := .tup [mal, .non]
theorem told2 {n : Nat} {d1 d2 : D} {g : G} (h : tbl_2 n [d1, d2] g = .ex (.mk 0 []) g) : F_law_told [.fn n, .tup [d1, d2]] g = .ok malT g := by
  simp [F_law_told, fnOf, B_law_told, sTry, itD, plc, h, handleL, noExO]
theorem told3 {n : Nat} {d1 d2 d3 : D} {g : G} (h : tbl_3 n [d1, d2, d3] g = .ex (.mk 0 []) g) : F_law_told [.fn n, .tup [d1, d2, d3]] g = .ok malT g := by
  simp [F_law_told, fnOf, B_law_told, sTry, itD, plc, h, handleL, noExO]
theorem check_bases_bad {d : D} {g : G} (h : F_is_bases [d] g = .ok (.bl false) g) : F_check_bases [d] g = .ex (.mk 0 []) g := by
  simp [F_check_bases, fnOf, B_check_bases, h]
theorem figures_of_bad {d e : D} {g : G} (h : F_is_bases [d] g = .ok (.bl false) g) : F_figures_of [d, e] g = .ex (.mk 0 []) g := by
  simp [F_figures_of, fnOf, B_figures_of, figures_of_s0, check_bases_bad h]
theorem number_of_bad {d e : D} {g : G} (h : F_is_bases [d] g = .ok (.bl false) g) : F_number_of [d, e] g = .ex (.mk 0 []) g := by
  simp [F_number_of, fnOf, B_number_of, number_of_s0, check_bases_bad h]
theorem counted_on_bad {d e : D} {g : G} (h : F_is_bases [d] g = .ok (.bl false) g) : F_counted_on [d, e] g = .ex (.mk 0 []) g := by
  simp [F_counted_on, fnOf, B_counted_on, counted_on_s0, check_bases_bad h]
theorem carry_row_bad {d e : D} {g : G} (h : F_is_bases [d] g = .ok (.bl false) g) : F_carry_row [d, e] g = .ex (.mk 0 []) g := by
  simp [F_carry_row, fnOf, B_carry_row, carry_row_s0, check_bases_bad h]
theorem figures_of_bad2 {bs : List Int} (h : Bs bs) {e : D} {g : G} (h2 : F_is_integer [e] g = .ok (.bl false) g) : F_figures_of [Tu bs, e] g = .ex (.mk 0 []) g := by
  simp [F_figures_of, fnOf, B_figures_of, figures_of_s0, figures_of_s1, check_bases_ok h, h2]
theorem number_of_bad2 {bs : List Int} (h : Bs bs) {e : D} {g : G} (h2 : F_is_figures [Tu bs, e] g = .ok (.bl false) g) : F_number_of [Tu bs, e] g = .ex (.mk 0 []) g := by
  simp [F_number_of, fnOf, B_number_of, number_of_s0, number_of_s1, check_bases_ok h, h2]
theorem counted_on_bad2 {bs : List Int} (h : Bs bs) {e : D} {g : G} (h2 : F_is_figures [Tu bs, e] g = .ok (.bl false) g) : F_counted_on [Tu bs, e] g = .ex (.mk 0 []) g := by
  simp [F_counted_on, fnOf, B_counted_on, counted_on_s0, counted_on_s1, check_bases_ok h, h2]
theorem carry_row_bad2 {bs : List Int} (h : Bs bs) {c : Int} {g : G} (h2 : ¬ (1 ≤ c ∧ c ≤ 500)) : F_carry_row [Tu bs, .int c] g = .ex (.mk 0 []) g := by
  have : F_check_from [.int c, .int 1, .int 500] g = .ex (.mk 0 []) g := by
    by_cases h1 : 1 ≤ c
    · have h3 : ¬ c ≤ 500 := fun h3 => h2 ⟨h1, h3⟩
      simp [F_check_from, fnOf, B_check_from, is_integer_i, h1, h3]
    · simp [F_check_from, fnOf, B_check_from, is_integer_i, h1]
  simp [F_carry_row, fnOf, B_carry_row, carry_row_s0, carry_row_s1, check_bases_ok h, this]
/-- is_figures of a tuple of the right length -/
def chk : D → Int → Bool
  | .int x, b => decide (0 ≤ x) && decide (x < b)
  | _, _ => false
def okp : D → Bool
  | .tup [d, .int b] => chk d b
  | _ => false
theorem zipL_mem {ds : List D} {bs : List Int} {p : D} (h : p ∈ zipL ds (bs.map .int)) : ∃ d b, p = .tup [d, .int b] ∧ d ∈ ds := by
  unfold zipL at h
  obtain ⟨q, hq, rfl⟩ := List.mem_map.mp h
  have := List.of_mem_zip hq
  obtain ⟨b, _, hb⟩ := List.mem_map.mp this.2
  exact ⟨q.1, b, by rw [← hb], this.1⟩
theorem figs_gen {bs : List Int} {ds : List D} (hf : ∀ d ∈ ds, flatD d = true) (hl : ds.length = bs.length) (g : G) : F_is_figures [Tu bs, .tup ds] g = .ok (.bl ((zipL ds (bs.map .int)).map okp |>.all id)) g := by
  have hc : is_figures_c0 [some (Tu bs), some (.tup ds), none, none] g = .ok (.lst ((zipL ds (bs.map .int)).map fun d => .bl (okp d))) g := by
    refine xLc_of (ds := zipL ds (bs.map .int)) (by simp) (lcL_map _ fun d hd => ?_)
    obtain ⟨e, b, rfl, he⟩ := zipL_mem hd
    refine ⟨_, rfl, ?_⟩
    have := hf e he
    cases e with
    | int x =>
      by_cases hx : 0 ≤ x
      · simp [is_integer_i, okp, chk, hx]
      · simp [is_integer_i, okp, chk, hx]
    | non => simp [F_is_integer, fnOf, B_is_integer, okp, chk]
    | bl b => simp [F_is_integer, fnOf, B_is_integer, okp, chk]
    | str s => simp [F_is_integer, fnOf, B_is_integer, okp, chk]
    | _ => simp [flatD] at this
  have e : ((ds.length : Int) == (bs.length : Int)) = true := by rw [hl]; simp
  have e2 : allD [.lst ((zipL ds (bs.map .int)).map fun d => .bl (okp d))] = some (.bl ((zipL ds (bs.map .int)).map okp |>.all id)) := by
    rw [← op_all_of, List.map_map]
    rfl
  simp only [F_is_figures, fnOf, B_is_figures, is_figures_s0, is_figures_s1, ev_seq, ev_sif, ev_tOr, ev_tNot, ev_tV, ev_un, List.map_cons, List.map_nil, List.length_cons, List.length_nil, List.cons_append, List.nil_append]
  simp [e, hl, hc, e2, -List.map_map, -List.all_map]
theorem figs_len_bad {bs : List Int} {ds : List D} (hl : ds.length ≠ bs.length) (g : G) : F_is_figures [Tu bs, .tup ds] g = .ok (.bl false) g := by
  have e : ((ds.length : Int) == (bs.length : Int)) = false := by
    rw [beq_eq_false_iff_ne]; omega
  simp [F_is_figures, fnOf, B_is_figures, is_figures_s0, is_figures_s1, e]
theorem figs_first_bad {b : Int} {bs : List Int} {d : D} {ds : List D} (hf : ∀ e ∈ d :: ds, flatD e = true) (hl : ds.length = bs.length) (hd : chk d b = false) (g : G) : F_is_figures [Tu (b :: bs), .tup (d :: ds)] g = .ok (.bl false) g := by
  rw [figs_gen hf (by simp [hl])]
  simp [zipL, okp, hd]
theorem flat_ints (l : List Int) : ∀ e ∈ l.map D.int, flatD e = true := fun e he => by
  obtain ⟨i, _, rfl⟩ := List.mem_map.mp he
  rfl
end K39

namespace K39
open PP
set_option linter.all false
/-! ### the law, statement by statement -/
section
variable {ρ : Env} {g : G} {bs xs ys : List Int}
theorem Bs.tail_ok {bs : List Int} (h : Bs bs) : ∀ b ∈ bs, 2 ≤ b ∧ b ≤ 10 := h.ok
theorem st0 {a : Nat} (hl : ρ.length = 27) (h1 : Has ρ 1 (.gen a)) (hg : Gn a g) : ∃ bs g1, law_s0 ρ g = .nx (ρ.set 2 (some (Tu bs))) g1 ∧ Bs bs ∧ bs.length ≤ 5 ∧ Gn a g1 := by
  obtain ⟨v, g1, t1, v0, v1, hg1⟩ := take_ex (m := 5) hg (by decide) (by decide)
  obtain ⟨n, hn⟩ : ∃ n : Nat, 1 + v = (n : Int) := ⟨(1 + v).toNat, by omega⟩
  have hi : iRng1 (xBin addD (xC (.int 1)) (xCall F_law_take (aCons (xVar 1) (aCons (xC (.int 5)) aNil)))) ρ g = .ok (rngL 0 n) g1 := by
    refine iRng1_nat ?_ (LIM_le (by omega))
    simp [h1 g, F_law_take, t1, hn]
  obtain ⟨l, g2, k1, k2, k3, k4⟩ := lcL_draw (tg := gName 9) (e := xBin addD (xC (.int 2)) (xCall F_law_take (aCons (xVar 1) (aCons (xC (.int 9)) aNil)))) (ρ := wipe [9] ρ) (Gn a) (fun d => ∃ b : Int, d = .int b ∧ 2 ≤ b ∧ b ≤ 10) (ds := rngL 0 n) hg1 fun d hd g hg => by
    obtain ⟨v, g1, t1, v0, v1, hg1⟩ := take_ex (m := 9) hg (by decide) (by decide)
    refine ⟨(wipe [9] ρ).set 9 (some d), .int (2 + v), g1, ?_, ?_, ⟨_, rfl, by omega, by omega⟩, hg1⟩
    · simp [hl]
    · simp [h1 g, F_law_take, t1]
  obtain ⟨bs, rfl⟩ : ∃ bs : List Int, l = bs.map .int := by
    clear k1 k2
    induction l with
    | nil => exact ⟨[], rfl⟩
    | cons d l ih =>
      obtain ⟨b, rfl, _⟩ := k3 d (by simp)
      obtain ⟨bs, rfl⟩ := ih fun y hy => k3 y (by simp [hy])
      exact ⟨b :: bs, rfl⟩
  have hlen : bs.length = n := by simpa [rng_len] using k2
  refine ⟨bs, g2, ?_, ⟨by omega, by omega, fun b hb => ?_⟩, by omega, k4⟩
  · have hx : law_c0 ρ g = .ok (.lst (bs.map .int)) g2 := xLc_of hi k1
    simp [law_s0, hx, hl]
  · obtain ⟨c, e, h2, h3⟩ := k3 (.int b) (List.mem_map.mpr ⟨b, hb, rfl⟩)
    cases e
    exact ⟨h2, h3⟩
theorem st2 (hl : ρ.length = 27) (h2 : Has ρ 2 (Tu bs)) (h3 : Has ρ 3 (.int 1)) (hB : Bs bs) : ∃ o, law_s2 ρ g = .nx ((ρ.set 3 (some (.int (size bs)))).set 4 o) g := by
  have key : ∀ (l : List Int) (s : Int) (ρ : Env), ρ.length = 27 → Has ρ 3 (.int s) → (∀ b ∈ l, 2 ≤ b ∧ b ≤ 10) → ∃ o, forL (gName 4) law_b1 (l.map .int) ρ g = .nx ((ρ.set 3 (some (.int (s * size l)))).set 4 o) g := by
    intro l
    induction l with
    | nil =>
      intro s ρ hl h3 _
      have l3 : 3 < ρ.length := by omega
      have l4 : 4 < ρ.length := by omega
      refine ⟨ρ[4], ?_⟩
      have e3 : ρ[3] = some (.int s) := by
        have h3 := h3.get
        rw [List.getElem?_eq_getElem l3] at h3
        exact Option.some.inj h3
      simp only [List.map_nil, forL, size, Int.mul_one]
      congr 1
      rw [← e3, List.set_getElem_self, List.set_getElem_self]
    | cons b l ih =>
      intro s ρ hl h3 h
      have hb := h b (by simp)
      obtain ⟨o, ih⟩ := ih (s * b) ((ρ.set 4 (some (.int b))).set 3 (some (.int (s * b)))) (by simp [hl]) (fun g => by simp [hl]) fun b hb => h b (by simp [hb])
      refine ⟨o, ?_⟩
      simp only [List.map_cons]
      rw [forL_nx (ρ1 := ρ.set 4 (some (.int b))) (ρ2 := (ρ.set 4 (some (.int b))).set 3 (some (.int (s * b)))) (g2 := g) (by simp [hl]) (by
        simp [law_b1, h3 g, hl, op_mul_r (i := s) (show b.natAbs < 18446744073709551616 by omega)]), ih]
      simp only [size]
      rw [List.set_set, List.set_comm _ _ (show (4 : Nat) ≠ 3 by decide), List.set_set, ← Int.mul_assoc]
  obtain ⟨o, h⟩ := key bs 1 ρ hl h3 hB.ok
  refine ⟨o, ?_⟩
  rw [Int.one_mul] at h
  simp [law_s2, sFor, h2 g, h]
theorem draw_figs {a : Nat} {ρ : Env} (hl : ρ.length = 27) (h1 : Has ρ 1 (.gen a)) (h2 : Has ρ 2 (Tu bs)) (hB : ∀ b ∈ bs, 2 ≤ b ∧ b ≤ 10) (hg : Gn a g) : ∃ xs g1, law_c2 ρ g = .ok (.lst (xs.map .int)) g1 ∧ Fg bs xs ∧ Gn a g1 := by
  obtain ⟨l, g2, k1, k2, k4⟩ := lcL_draw2 (tg := gName 4) (e := xCall F_law_take (aCons (xVar 1) (aCons (xVar 4) aNil))) (ρ := wipe [4] ρ) (Gn a) (fun d y => ∃ b x : Int, d = .int b ∧ y = .int x ∧ 0 ≤ x ∧ x < b) (ds := bs.map .int) hg fun d hd g hg => by
    obtain ⟨b, hb, rfl⟩ := List.mem_map.mp hd
    have := hB b hb
    obtain ⟨v, g1, t1, v0, v1, hg1⟩ := take_ex (m := b) hg (by omega) (by omega)
    refine ⟨(wipe [4] ρ).set 4 (some (.int b)), .int v, g1, ?_, ?_, ⟨b, v, rfl, rfl, v0, v1⟩, hg1⟩
    · simp [hl]
    · simp [h1 g, hl, F_law_take, t1]
  have key : ∀ (bs : List Int) (l : List D), All2 (fun d y => ∃ b x : Int, d = D.int b ∧ y = D.int x ∧ 0 ≤ x ∧ x < b) (bs.map .int) l → ∃ xs : List Int, l = xs.map .int ∧ Fg bs xs := by
    intro bs
    induction bs with
    | nil => intro l h; cases h; exact ⟨[], rfl, .nil⟩
    | cons b bs ih =>
      intro l h
      cases h with
      | cons h t =>
        obtain ⟨b', x, e, rfl, x0, x1⟩ := h
        cases e
        obtain ⟨xs, rfl, hf⟩ := ih _ t
        exact ⟨x :: xs, rfl, .cons x0 x1 hf⟩
  obtain ⟨xs, rfl, hf⟩ := key bs l k2
  exact ⟨xs, g2, xLc_of (by simp [h2 g]) k1, hf, k4⟩
theorem st3 {a : Nat} (hl : ρ.length = 27) (h1 : Has ρ 1 (.gen a)) (h2 : Has ρ 2 (Tu bs)) (hB : ∀ b ∈ bs, 2 ≤ b ∧ b ≤ 10) (hg : Gn a g) : ∃ xs ys g1, law_s3 ρ g = .nx ((ρ.set 13 (some (Tu xs))).set 14 (some (Tu ys))) g1 ∧ Fg bs xs ∧ Fg bs ys ∧ Gn a g1 := by
  obtain ⟨xs, g1, k1, f1, hg1⟩ := draw_figs (ρ := (wipe [9] ρ).set 9 (some (.int 0))) (g := g) (a := a) (by simp [hl]) (fun g => by simp [h1 g]) (fun g => by simp [h2 g]) hB hg
  obtain ⟨ys, g2, k2, f2, hg2⟩ := draw_figs (ρ := (wipe [9] ρ).set 9 (some (.int 1))) (g := g1) (a := a) (by simp [hl]) (fun g => by simp [h1 g]) (fun g => by simp [h2 g]) hB hg1
  refine ⟨xs, ys, g2, ?_, f1, f2, hg2⟩
  have hi : iRng1 (xC (.int 2)) ρ g = .ok [.int 0, .int 1] g := iRng1_nat (n := 2) rfl (by simp)
  have hx : law_c3 ρ g = .ok (.lst [Tu xs, Tu ys]) g2 := by
    refine xLc_of hi ?_
    simp only [ev_wC, ev_wN, List.set_set] at k1 k2
    simp [lcL, hl, tYes, k1, k2]
  simp [law_s3, hx, hl]

theorem okI {l : List Int} (h : l.length ≤ 1000) : OkS 16 (Tu l) := okS_ints (LIM_le (by omega))
theorem figs8 (h : Bs bs) (n : Int) : OkS 16 (Tu (figs bs n)) := okI (by rw [figs_len]; have := h.hi; omega)
theorem st4 (hB : Bs bs) (hx : Fg bs xs) (h2 : Has ρ 2 (Tu bs)) (h13 : Has ρ 13 (Tu xs)) : law_s4 ρ g = .nx ρ g := by
  simp [law_s4, h2 _, h13 _, is_bases_ok hB, is_figures_ok hx, law_says_ok]
theorem st5 {a : Nat} (h1 : Has ρ 1 (.gen a)) (hl : ρ.length = 27) (hg : Gn a g) : ∃ n g1, law_s5 ρ g = .nx (ρ.set 5 (some (.int n))) g1 ∧ Gn a g1 := by
  obtain ⟨v, g1, t1, v0, v1, hg1⟩ := take_ex (m := 3000000) hg (by decide) (by decide)
  refine ⟨v - 1500000, g1, ?_, hg1⟩
  simp [law_s5, h1 _, F_law_take, t1, hl]
theorem st6 {n : Int} (hB : Bs bs) (hx : Fg bs xs) (h2 : Has ρ 2 (Tu bs)) (h13 : Has ρ 13 (Tu xs)) (h5 : Has ρ 5 (.int n)) (h3 : Has ρ 3 (.int (size bs))) : law_s6 ρ g = .nx ρ g := by
  have e1 := same_ok (figs8 hB n) g
  have e2 := same_ok (d := .int (num bs xs)) .int g
  have hs := size_pos hB.ok
  simp [law_s6, h2 _, h13 _, h5 _, h3 _, figures_of_ok hB, law_figures_ok hB, number_of_ok hB hx, law_number_ok hB hx, e1, e2, number_of_ok hB (figs_fg hB.ok n), num_figs hB.ok, op_mod_i hs]
theorem st7 (hB : Bs bs) (hy : Fg bs ys) (h2 : Has ρ 2 (Tu bs)) (h14 : Has ρ 14 (Tu ys)) : law_s7 ρ g = .nx ρ g := by
  have e1 := same_ok (okI (l := ys) (by rw [hy.len]; have := hB.hi; omega)) g
  simp [law_s7, h2 _, h14 _, figures_of_ok hB, number_of_ok hB hy, figs_num hy, e1]
theorem st8 (hB : Bs bs) (hx : Fg bs xs) (hy : Fg bs ys) (hl : ρ.length = 27) (h2 : Has ρ 2 (Tu bs)) (h13 : Has ρ 13 (Tu xs)) (h14 : Has ρ 14 (Tu ys)) : law_s8 ρ g = .nx ((ρ.set 15 (some (.int (num bs xs)))).set 4 (some (.int (num bs ys)))) g := by
  simp [law_s8, hl, h2 _, h13 _, h14 _, law_number_ok hB hx, law_number_ok hB hy]
theorem st9 (hB : Bs bs) (hx : Fg bs xs) (h2 : Has ρ 2 (Tu bs)) (h13 : Has ρ 13 (Tu xs)) (h15 : Has ρ 15 (.int (num bs xs))) : law_s9 ρ g = .nx ρ g := by
  have e1 := same_ok (figs8 hB (num bs xs + 1)) g
  simp [law_s9, h2 _, h13 _, h15 _, law_figures_ok hB, counted_on_ok hB hx, e1]
theorem st10 (hB : Bs bs) (hx : Fg bs xs) (hy : Fg bs ys) (h2 : Has ρ 2 (Tu bs)) (h13 : Has ρ 13 (Tu xs)) (h14 : Has ρ 14 (Tu ys)) (h15 : Has ρ 15 (.int (num bs xs))) (h4 : Has ρ 4 (.int (num bs ys))) : law_s10 ρ g = .nx ρ g := by
  have e1 := same_ok (figs8 hB (num bs xs + num bs ys)) g
  have e2 := neD_ints (figs bs (num bs xs + num bs ys)) (figs bs (num bs ys + num bs xs))
  rw [Int.add_comm (num bs ys)] at e2
  simp [law_s10, h2 _, h13 _, h14 _, h15 _, h4 _, law_figures_ok hB, figure_sum_ok hB hx hy, figure_sum_ok hB hy hx, e1]
  rw [Int.add_comm (num bs ys), e2]
  simp
theorem st11 (hB : Bs bs) (hl : ρ.length = 27) (h2 : Has ρ 2 (Tu bs)) : law_s11 ρ g = .nx (ρ.set 6 (some (Tu (zeros bs)))) g := by
  simp [law_s11, hl, h2 _, mul_zero hB]
theorem st12 (hB : Bs bs) (hl : ρ.length = 27) (h2 : Has ρ 2 (Tu bs)) : law_s12 ρ g = .nx (ρ.set 7 (some (Tu (figs bs 1)))) g := by
  simp [law_s12, hl, h2 _, law_figures_ok hB]
theorem zeros_fg (hB : Bs bs) : Fg bs (zeros bs) := by rw [← figs_zero]; exact figs_fg hB.ok 0
theorem st13 (hB : Bs bs) (hx : Fg bs xs) (h2 : Has ρ 2 (Tu bs)) (h13 : Has ρ 13 (Tu xs)) (h7 : Has ρ 7 (Tu (figs bs 1))) (h6 : Has ρ 6 (Tu (zeros bs))) (h15 : Has ρ 15 (.int (num bs xs))) : law_s13 ρ g = .nx ρ g := by
  have f1 : figs bs (num bs xs + num bs (figs bs 1)) = figs bs (num bs xs + 1) := by
    rw [num_figs hB.ok]
    exact figs_cong hB.ok (by rw [Int.add_emod_emod])
  have f2 : figs bs (num bs xs + num bs (zeros bs)) = xs := by
    rw [← figs_zero, num_figs hB.ok, figs_cong hB.ok (n := num bs xs) (by rw [Int.add_emod_emod]; simp), figs_num hx]
  have f3 : figs bs (num bs xs + num bs (figs bs (-num bs xs))) = zeros bs := by
    rw [num_figs hB.ok, ← figs_zero]
    exact figs_cong hB.ok (by rw [Int.add_emod_emod]; simp [Int.add_right_neg])
  simp [law_s13, h2 _, h13 _, h7 _, h6 _, h15 _, figure_sum_ok hB hx (figs_fg hB.ok 1), counted_on_ok hB hx, figure_sum_ok hB hx (zeros_fg hB), figures_of_ok hB, figure_sum_ok hB hx (figs_fg hB.ok (-num bs xs)), f1, f2, f3, neD_refl (shape_ints _)]
theorem st14 (hB : Bs bs) (hl : ρ.length = 27) (h2 : Has ρ 2 (Tu bs)) (h6 : Has ρ 6 (Tu (zeros bs))) : law_s14 ρ g = .nx ρ g := by
  have hc : law_c4 ρ g = .ok (.lst ((bs.map fun b => b - 1).map .int)) g := by
    have := xLc_of (own := [20]) (it := iSeq (xVar 2)) (tg := gName 20) (t := tYes) (e := xBin subD (xVar 20) (xC (.int 1))) (ρ := ρ) (g := g) (ds := bs.map .int) (by simp [h2 _]; rfl) (lcL_map (fun d => match d with | .int b => .int (b - 1) | d => d) fun d hd => by
      obtain ⟨b, _, rfl⟩ := List.mem_map.mp hd
      exact ⟨_, ev_gName (by simp [hl]), by simp [hl]⟩)
    rw [List.map_map] at this
    rw [List.map_map]
    exact this
  have f1 : figs bs (num bs (bs.map fun b => b - 1) + 1) = zeros bs := by
    rw [num_top, ← figs_zero]
    exact figs_cong hB.ok (by rw [Int.sub_add_cancel]; simp)
  have hk := counted_on_ok hB (fg_top hB.ok) g
  simp [law_s14, h2 _, h6 _, hc, -List.map_map, hk, f1, neD_refl (shape_ints _)]
theorem st15 {a : Nat} (h1 : Has ρ 1 (.gen a)) (hl : ρ.length = 27) (hg : Gn a g) : ∃ (c : Nat) (g1 : G), law_s15 ρ g = .nx (ρ.set 8 (some (.int (c : Int)))) g1 ∧ Gn a g1 ∧ 1 ≤ c ∧ c ≤ 120 := by
  obtain ⟨v, g1, t1, v0, v1, hg1⟩ := take_ex (m := 120) hg (by decide) (by decide)
  refine ⟨(1 + v).toNat, g1, ?_, hg1, by omega, by omega⟩
  have : (((1 + v).toNat : Nat) : Int) = 1 + v := by omega
  rw [this]
  simp [law_s15, h1 _, F_law_take, t1, hl]
theorem st16 (hl : ρ.length = 27) (h6 : Has ρ 6 (Tu (zeros bs))) : law_s16 ρ g = .nx ((ρ.set 16 (some (Tu (zeros bs)))).set 17 (some (.lst []))) g := by
  simp [law_s16, hl, h6 _]

theorem law_comp {ρ : Env} (hl : ρ.length = 27) (h16 : Has ρ 16 (Tu xs)) (h18 : Has ρ 18 (Tu ys)) : law_c5 ρ g = .ok (.lst (difD xs ys)) g := by
  refine xLc_of (ds := zipL (xs.map .int) (ys.map .int)) (by simp [h16 _, h18 _]) (lcL_pure _ _ fun d hd => ?_)
  rw [zip_pairs] at hd
  obtain ⟨p, hp, rfl⟩ := List.mem_map.mp hd
  refine ⟨((wipe [20, 26] ρ).set 20 (some (.int p.1))).set 26 (some (.int p.2)), by simp [hl], ?_, fun _ => rfl⟩
  simp [hl]
theorem law_loop (hB : Bs bs) (g : G) : ∀ (n m : Nat) (ρ : Env), ρ.length = 27 → Has ρ 2 (Tu bs) → Has ρ 16 (Tu (figs bs m)) → Has ρ 17 (.lst ((row bs m).map .int)) → m + n ≤ 600 →
    ∃ ρ', forL (gName 9) law_b6 ((List.range n).map fun i => .int ((m + i : Nat) : Int)) ρ g = .nx ρ' g ∧ Fr [9, 16, 17, 18] ρ ρ' ∧ Has ρ' 17 (.lst ((row bs (m + n)).map .int))
  | 0, m, ρ, _, _, _, h17, _ => ⟨ρ, rfl, .refl, h17⟩
  | n + 1, m, ρ, hl, h2, h16, h17, h => by
    have e : (List.range (n + 1)).map (fun i => D.int ((m + i : Nat) : Int)) = .int (m : Int) :: (List.range n).map fun i => .int ((m + 1 + i : Nat) : Int) := by
      rw [List.range_succ_eq_map, List.map_cons, List.map_map]
      congr 1
      apply List.map_congr_left
      intro i _
      simp only [Function.comp]
      congr 2
      omega
    have hlen : (row bs m).length < LIM := LIM_lt (by simp [row]; omega)
    have ec : figs bs (num bs (figs bs (m : Int)) + 1) = figs bs ((m : Int) + 1) := by
      rw [num_figs hB.ok]
      refine figs_cong hB.ok ?_
      rw [Int.add_emod, Int.emod_emod_of_dvd _ (Int.dvd_refl _), ← Int.add_emod]
    have er : (row bs (m + 1)).map D.int = (row bs m).map D.int ++ [.int (chg bs m)] := by
      simp [row, List.range_succ]
    let ρ1 := (ρ.set 9 (some (.int (m : Int)))).set 18 (some (Tu (figs bs ((m : Int) + 1))))
    have l1 : ρ1.length = 27 := by simp [ρ1, hl]
    have q16 : Has ρ1 16 (Tu (figs bs m)) := (h16.set (by decide)).set (by decide)
    have q18 : Has ρ1 18 (Tu (figs bs ((m : Int) + 1))) := has_set (by simp [hl])
    have q17 : Has ρ1 17 (.lst ((row bs m).map .int)) := (h17.set (by decide)).set (by decide)
    have q2 : Has ρ1 2 (Tu bs) := (h2.set (by decide)).set (by decide)
    let ρ2 := ((((ρ1.set 17 (some (.lst ((row bs (m + 1)).map .int)))).set 16 (some (Tu (figs bs ((m + 1 : Nat) : Int))))).set 18 none).set 9 none)
    have hbody : law_b6 (ρ.set 9 (some (.int (m : Int)))) g = .nx ρ2 g := by
      have c1 := law_comp (g := g) l1 q16 q18
      have hd := difD_len (figs bs m) (figs bs ((m : Int) + 1))
      have e2 : dif (figs bs m) (figs bs ((m : Int) + 1)) = chg bs m := rfl
      have s1 : sSet (gName 18) (xCall F_law_figures (aCons (xVar 2) (aCons (xBin addD (xCall F_law_number (aCons (xVar 2) (aCons (xVar 16) aNil))) (xC (.int 1))) aNil))) (ρ.set 9 (some (.int (m : Int)))) g = .nx ρ1 g := by
        simp [h2 _, h16 _, hl, law_number_ok hB (figs_fg hB.ok m), law_figures_ok hB, ec, ρ1]
      have s2 : sApp 17 (xCB lenD (aCons law_c5 aNil)) ρ1 g = .nx (ρ1.set 17 (some (.lst ((row bs (m + 1)).map .int)))) g := by
        simp [q17.get, c1, hd, e2, er, hlen]
      unfold law_b6
      rw [ev_seq, seq_nx s1, seq_nx s2]
      simp [l1, q18 _, ρ2]
    have f2 : Fr [9, 16, 17, 18] ρ ρ2 := (((((Fr.refl.set (by simp)).set (by simp)).set (by simp)).set (by simp)).set (by simp)).set (by simp)
    have l2 : ρ2.length = 27 := by rw [f2.len, hl]
    have w16 : Has ρ2 16 (Tu (figs bs ((m + 1 : Nat) : Int))) := ((has_set (by simp [l1])).set (by decide)).set (by decide)
    have w17 : Has ρ2 17 (.lst ((row bs (m + 1)).map .int)) := (((has_set (by simp [l1])).set (by decide)).set (by decide)).set (by decide)
    obtain ⟨ρ', k1, k2, k3⟩ := law_loop hB g n (m + 1) ρ2 l2 (f2.has h2 (by simp)) w16 w17 (by omega)
    refine ⟨ρ', ?_, f2.trans k2, by rw [show m + (n + 1) = m + 1 + n by omega]; exact k3⟩
    rw [e, forL_nx (ρ1 := ρ.set 9 (some (.int (m : Int)))) (ρ2 := ρ2) (g2 := g) (by simp [hl]) hbody, k1]
theorem st17 (hB : Bs bs) {c : Nat} (hc : c ≤ 120) (hl : ρ.length = 27) (h2 : Has ρ 2 (Tu bs)) (h8 : Has ρ 8 (.int (c : Int))) (h16 : Has ρ 16 (Tu (zeros bs))) (h17 : Has ρ 17 (.lst [])) :
    ∃ ρ', law_s17 ρ g = .nx ρ' g ∧ Fr [9, 16, 17, 18, 20] ρ ρ' ∧ Has ρ' 17 (.lst ((row bs c).map .int)) := by
  obtain ⟨ρ', k1, k2, k3⟩ := law_loop hB g c 0 ρ hl h2 (by rw [← figs_zero] at h16; exact h16) h17 (by omega)
  have hr : iRng1 (xVar 8) ρ g = .ok (rngL 0 c) g := iRng1_nat (h8 g) (LIM_le (by omega))
  have er : rngL 0 c = (List.range c).map fun i => .int ((0 + i : Nat) : Int) := by simp [rngL]
  rw [← er] at k1
  refine ⟨(((ρ'.set 20 none).set 18 none).set 16 none).set 9 none, ?_, ((((k2.mono (by simp)).set (by simp)).set (by simp)).set (by simp)).set (by simp), ?_⟩
  · unfold law_s17
    rw [ev_seq, sFor_of hr k1]
    rfl
  · rw [Nat.zero_add] at k3
    exact (((k3.set (by decide)).set (by decide)).set (by decide)).set (by decide)
theorem row_len (bs : List Int) (c : Nat) : (row bs c).length = c := by simp [row]
theorem st18 (hB : Bs bs) {c : Nat} (h1 : 1 ≤ c) (hc : c ≤ 120) (h2 : Has ρ 2 (Tu bs)) (h8 : Has ρ 8 (.int (c : Int))) (h17 : Has ρ 17 (.lst ((row bs c).map .int))) : law_s18 ρ g = .nx ρ g := by
  have e1 := same_ok (okI (l := row bs c) (by rw [row_len]; omega)) g
  simp [law_s18, h2 _, h8 _, h17 _, carry_row_ok hB h1 (show c ≤ 500 by omega), e1]
theorem tot_loop (g : G) : ∀ (l : List Int) (t s : Int) (ρ : Env), ρ.length = 27 → Has ρ 21 (.int t) → Has ρ 22 (.int s) → (∀ b ∈ l, 2 ≤ b ∧ b ≤ 10) →
    ∃ ρ', forL (gName 20) law_b7 (l.map .int) ρ g = .nx ρ' g ∧ Fr [20, 21, 22] ρ ρ' ∧ Has ρ' 21 (.int (tot l t s))
  | [], t, s, ρ, _, h21, _, _ => ⟨ρ, rfl, .refl, h21⟩
  | b :: l, t, s, ρ, hl, h21, h22, h => by
    have hb := h b (by simp)
    let ρ2 := (((ρ.set 20 (some (.int b))).set 21 (some (.int (t + s)))).set 22 (some (.int (s / b)))).set 20 none
    have f2 : Fr [20, 21, 22] ρ ρ2 := (((Fr.refl.set (by simp)).set (by simp)).set (by simp)).set (by simp)
    obtain ⟨ρ', k1, k2, k3⟩ := tot_loop g l (t + s) (s / b) ρ2 (by rw [f2.len, hl]) (((has_set (by simp [hl])).set (by decide)).set (by decide)) ((has_set (by simp [hl])).set (by decide)) fun b hb => h b (by simp [hb])
    refine ⟨ρ', ?_, f2.trans k2, k3⟩
    simp only [List.map_cons]
    rw [forL_nx (ρ1 := ρ.set 20 (some (.int b))) (ρ2 := ρ2) (g2 := g) (by simp [hl]) (by
      simp [law_b7, hl, h21 _, h22 _, op_fdiv_i (show 0 < b by omega) (show b < 1073741824 by omega), ρ2]), k1]

theorem size_big (hB : Bs bs) : 2 ≤ size bs := by
  have := hB.lo
  cases h : bs with
  | nil => rw [h] at this; simp at this
  | cons b l =>
    have hb := hB.ok b (by simp [h])
    have hs := size_pos (bs := l) fun c hc => hB.ok c (by simp [h, hc])
    simp only [size]
    have : b * 1 ≤ b * size l := Int.mul_le_mul_of_nonneg_left (by omega) (by omega)
    omega
theorem st19 (hB : Bs bs) (hl : ρ.length = 27) (h2 : Has ρ 2 (Tu bs)) (h3 : Has ρ 3 (.int (size bs))) : ∃ ρ', law_s19 ρ g = .nx ρ' g ∧ Fr [19, 20, 21, 22] ρ ρ' := by
  have sp := size_big hB
  by_cases hs : size bs < 400
  · obtain ⟨c, hc⟩ : ∃ c : Nat, size bs = (c : Int) := ⟨(size bs).toNat, by omega⟩
    have cr := carry_row_ok hB (c := c) (by omega) (by omega) g
    let ρ1 := ((ρ.set 19 (some (Tu (row bs c)))).set 21 (some (.int 0))).set 22 (some (.int (c : Int)))
    have f1 : Fr [19, 20, 21, 22] ρ ρ1 := ((Fr.refl.set (by simp)).set (by simp)).set (by simp)
    have l1 : ρ1.length = 27 := by rw [f1.len, hl]
    obtain ⟨ρ2, k1, k2, k3⟩ := tot_loop g bs 0 (c : Int) ρ1 l1 ((has_set (by simp [hl])).set (by decide)) (has_set (by simp [hl])) hB.ok
    have q19 : Has ρ1 19 (Tu (row bs c)) := ((has_set (by simp [hl])).set (by decide)).set (by decide)
    let ρ3 := (ρ2.set 22 none).set 20 none
    have f3 : Fr [19, 20, 21, 22] ρ ρ3 := ((f1.trans (k2.mono (by simp))).set (by simp)).set (by simp)
    have w21 : Has ρ3 21 (.int (tot bs 0 (c : Int))) := (k3.set (by decide)).set (by decide)
    have w19 : Has ρ3 19 (Tu (row bs c)) := ((k2.has q19 (by simp)).set (by decide)).set (by decide)
    have w2 : Has ρ3 2 (Tu bs) := f3.has h2 (by simp)
    have w3 : Has ρ3 3 (.int (c : Int)) := by rw [← hc]; exact f3.has h3 (by simp)
    have esum : (row bs c).sum = tot bs 0 (c : Int) := by
      have := sum_tot hB.ok
      rw [hc, Int.toNat_natCast] at this
      rw [row_sum, this]
    have elast : itD ((row bs c).map D.int) (-1) = some (.int (bs.length : Int)) := by
      refine itD_neg1 ?_
      have := chg_last hB.ok
      rw [hc] at this
      obtain ⟨k, rfl⟩ : ∃ k, c = k + 1 := ⟨c - 1, by omega⟩
      simp only [row, List.range_succ, List.map_append, List.map_cons, List.map_nil]
      have ek : ((k + 1 : Nat) : Int) - 1 = (k : Int) := by omega
      rw [ek] at this
      rw [this]
      simp
    have eadd : addD (Tu (row bs c)) (.tup (cut ((row bs c).map D.int) none (some 20))) = some (Tu (row bs c ++ (row bs c).take 20)) := by
      have e1 : cut ((row bs c).map D.int) none (some 20) = ((row bs c).take 20).map D.int := by
        simp [cut, bnd]
      rw [e1]
      simp only [addD]
      rw [if_pos (LIM_le (by simp [row_len]; omega)), ← List.map_append]
    have eper : 20 ≤ c → row bs (c + 20) = row bs c ++ (row bs c).take 20 := fun h20 => by
      unfold row
      rw [← List.map_take, List.take_range, Nat.min_eq_left h20, List.range_add, List.map_append, List.map_map]
      congr 1
      apply List.map_congr_left
      intro i _
      have := chg_per hB.ok (i : Int)
      rw [hc] at this
      simp only [Function.comp]
      have e : ((c + i : Nat) : Int) = (i : Int) + (c : Int) := by omega
      rw [e, this]
    refine ⟨ρ3, ?_, f3⟩
    have hs' : (c : Int) < 400 := by omega
    have a1 : sSet (gName 19) (xCall F_carry_row (aCons (xVar 2) (aCons (xVar 3) aNil))) ρ g = .nx (ρ.set 19 (some (Tu (row bs c)))) g := by
      simp [h2 _, h3 _, hc, cr, hl]
    have a2 : sPar 21 22 (xC (.int 0)) (xVar 3) (ρ.set 19 (some (Tu (row bs c)))) g = .nx ρ1 g := by
      simp [h3 _, hc, hl, ρ1]
    have a3 : sSeq (sFor (gName 20) (iSeq (xVar 2)) law_b7) (sKill [20, 22]) ρ1 g = .nx ρ3 g := by
      rw [seq_nx (sFor_of (ds := bs.map .int) (g1 := g) (by simp [(f1.has h2 (by simp)) _]) k1)]
      rfl
    simp only [law_s19, ev_sif, ev_tV, ev_bin, h3 _, R.bind_ok, ev_c, op_lt_i, ofO_some, hc, hs', decide_true, R.to_ok]
    rw [seq_nx a1, seq_nx a2, seq_nx a3]
    by_cases h20 : 20 ≤ c
    · have cr2 := carry_row_ok hB (c := c + 20) (by omega) (by omega) g
      have ec : ((c + 20 : Nat) : Int) = (c : Int) + 20 := by omega
      rw [ec] at cr2
      have h20' : (20 : Int) ≤ (c : Int) := by omega
      have en := neD_refl (shape_ints (row bs (c + 20)))
      rw [eper h20] at cr2 en
      simp only [ev_sif, ev_tOr, ev_tAnd, ev_tV, ev_bin, ev_un, ev_cb, ev_cons, ev_nil, ev_c, ev_call, ev_sl01, R.bind_ok, w19 _, w21 _, w2 _, w3 _, op_sum_t, ofO_some, esum, op_ne_i, BEq.rfl, Bool.not_true, ixD_t, op_neg_i, elast, op_len_t, List.length_map, op_ge_i, h20', decide_true, op_add_i, cr2, sliceD, eadd, en, R.to_ok, ev_nop]
    · have h20' : ¬ (20 : Int) ≤ (c : Int) := by omega
      simp only [ev_sif, ev_tOr, ev_tAnd, ev_tV, ev_bin, ev_un, ev_cb, ev_cons, ev_nil, ev_c, ev_call, ev_sl01, R.bind_ok, w19 _, w21 _, w2 _, w3 _, op_sum_t, ofO_some, esum, op_ne_i, BEq.rfl, Bool.not_true, ixD_t, op_neg_i, elast, op_len_t, List.length_map, op_ge_i, h20', decide_false, R.to_ok, ev_nop]
  · refine ⟨ρ, ?_, .refl⟩
    simp [law_s19, h3 _, hs]
abbrev bads : List D := [.tup [], .tup [.int 1], .tup [.int 11], .tup (List.replicate 9 (.int 2)), .lst [.int 2], .non, .int 5, .tup [.bl true], .tup [.str [50]], .tup [.int 2, .int (-1)]]
theorem st20 (hl : ρ.length = 27) : law_s20 ρ g = .nx (ρ.set 10 (some (.lst bads))) g := by
  simp [law_s20, hl, mulD, repL, List.replicate, bads]
theorem bad_bases : ∀ d ∈ bads, ∀ g, F_is_bases [d] g = .ok (.bl false) g := by
  intro d hd g
  simp only [bads, List.mem_cons, List.not_mem_nil, or_false] at hd
  rcases hd with rfl | rfl | rfl | rfl | rfl | rfl | rfl | rfl | rfl | rfl <;> rfl
theorem map_c {l : List D} (d : D) : l.map (fun _ => d) = List.replicate l.length d := by
  induction l with
  | nil => rfl
  | cons x l ih => simp [ih, List.replicate_succ]
theorem rep_mal (n : Nat) (h : n ≤ 100) : neD (.lst (List.replicate n mal)) (.lst (repL n [mal])) = some (.bl false) := by
  have : repL n [mal] = List.replicate n mal := by
    unfold repL
    induction n with
    | zero => rfl
    | succ n ih => rw [List.replicate_succ, List.flatten_cons, ih (by omega)]; rfl
  rw [this]
  refine neD_refl ?_
  have h1 : ∀ n, isDatL (List.replicate n mal) = true := fun n => by induction n with | zero => rfl | succ n ih => simp [List.replicate_succ, isDatL, isDat, ih]
  have h2 : ∀ n, depL (List.replicate n mal) = 0 := fun n => by induction n with | zero => rfl | succ n ih => simp [List.replicate_succ, depL, dep, ih]
  simp [shapeOk, isDat, h1, dep, h2]
theorem st21 (hl : ρ.length = 27) (h10 : Has ρ 10 (.lst bads)) : law_s21 ρ g = .nx ρ g := by
  have c8 : law_c8 ρ g = .ok (.lst (bads.map fun _ => .bl true)) g := by
    refine xLc_of (ds := bads) (by simp [h10 _]) (lcL_map _ fun d hd => ⟨_, ev_gName (by simp [hl]), ?_⟩)
    simp [hl, bad_bases d hd, law_says_ok]
  have c9 : law_c9 ρ g = .ok (.lst (bads.map fun _ => mal)) g := by
    refine xLc_of (ds := bads) (by simp [h10 _]) (lcL_map _ fun d hd => ⟨_, ev_gName (by simp [hl]), ?_⟩)
    have := told2 (n := 0) (d1 := d) (d2 := .int 3) (g := g) (figures_of_bad (bad_bases d hd g))
    simp [hl, this, itD, plc]
  have e := rep_mal 10 (by decide)
  have e2 : mulD (.lst [mal]) (.int 10) = some (.lst (repL 10 [mal])) := rfl
  rw [map_c] at c9
  simp only [law_s21, ev_sif, ev_tOr, ev_tNot, ev_tV, ev_cb, ev_cons, ev_nil, ev_bin, ev_lst, ev_c, c8, c9, allD_t, R.bind_ok, ofO_some, Bool.not_true, List.length_cons, List.length_nil, Nat.zero_add, Nat.reduceAdd, LIM_1, decide_true, e2, e, R.to_ok, ev_nop]

/-- the figures that are none, in the order of the text -/
def wilds (bs xs : List Int) : List D := [.non, .int 5, .lst (xs.map .int), .tup (cut (xs.map .int) none (some (-1))), .tup (xs.map .int ++ [.int 0]), Tu bs,
  .tup ([.int (-1)] ++ cut (xs.map .int) (some 1) none), .tup ([.bl true] ++ cut (xs.map .int) (some 1) none), .tup ([.str [48]] ++ cut (xs.map .int) (some 1) none)]
theorem st22 (hB : Bs bs) (hx : Fg bs xs) (hl : ρ.length = 27) (h2 : Has ρ 2 (Tu bs)) (h13 : Has ρ 13 (Tu xs)) : law_s22 ρ g = .nx (ρ.set 11 (some (.lst (wilds bs xs)))) g := by
  have l1 : xs.length + 1 ≤ LIM := LIM_le (by rw [hx.len]; have := hB.hi; omega)
  have l2 : (cut (xs.map D.int) (some 1) none).length + 1 ≤ LIM := by
    have := cut_len (xs.map D.int) (some 1) none
    simp at this
    exact Nat.le_trans (by omega) l1
  have l3 : 1 + (cut (xs.map D.int) (some 1) none).length ≤ LIM := by rw [Nat.add_comm]; exact l2
  simp [law_s22, hl, h2 _, h13 _, sliceD, addD, l1, l3, wilds]
theorem wild_bad (hB : Bs bs) (hx : Fg bs xs) : ∀ d ∈ wilds bs xs, ∀ g, F_is_figures [Tu bs, d] g = .ok (.bl false) g := by
  have h1 := hB.lo
  intro d hd g
  cases hx with
  | nil => simp at h1
  | cons x0 x1 t =>
    rename_i b x bs xs
    have ht := t.len
    have hb := hB.ok b (by simp)
    have e1 : cut ((x :: xs).map D.int) (some 1) none = xs.map D.int := by
      have : List.take xs.length (xs.map D.int) = xs.map D.int := List.take_of_length_le (by simp)
      simp [cut, bnd, this]
    have e2 : (cut ((x :: xs).map D.int) none (some (-1))).length = xs.length := by
      simp [cut, bnd]
      omega
    simp only [wilds, e1, List.mem_cons, List.not_mem_nil, or_false] at hd
    rcases hd with rfl | rfl | rfl | rfl | rfl | rfl | rfl | rfl | rfl
    · simp [F_is_figures, fnOf, B_is_figures, is_figures_s0]
    · simp [F_is_figures, fnOf, B_is_figures, is_figures_s0]
    · simp [F_is_figures, fnOf, B_is_figures, is_figures_s0]
    · exact figs_len_bad (by rw [e2]; simp; omega) g
    · exact figs_len_bad (by simp; omega) g
    · exact figs_first_bad (d := .int b) (ds := bs.map .int) (flat_ints (b :: bs)) (by simp) (by simp [chk]) g
    · exact figs_first_bad (d := .int (-1)) (ds := xs.map .int) (flat_ints (-1 :: xs)) (by simp [ht]) (by simp [chk]) g
    · exact figs_first_bad (d := .bl true) (ds := xs.map .int) (fun e he => by
        rcases List.mem_cons.mp he with rfl | he
        · rfl
        · exact flat_ints xs e he) (by simp [ht]) rfl g
    · exact figs_first_bad (d := .str [48]) (ds := xs.map .int) (fun e he => by
        rcases List.mem_cons.mp he with rfl | he
        · rfl
        · exact flat_ints xs e he) (by simp [ht]) rfl g
theorem wilds_len : (wilds bs xs).length = 9 := rfl
theorem st23 (hB : Bs bs) (hx : Fg bs xs) (hl : ρ.length = 27) (h2 : Has ρ 2 (Tu bs)) (h11 : Has ρ 11 (.lst (wilds bs xs))) : law_s23 ρ g = .nx ρ g := by
  have c8 : law_c10 ρ g = .ok (.lst ((wilds bs xs).map fun _ => .bl true)) g := by
    refine xLc_of (ds := wilds bs xs) (by simp [h11 _]) (lcL_map _ fun d hd => ⟨_, ev_gName (by simp [hl]), ?_⟩)
    simp [hl, h2 _, wild_bad hB hx d hd, law_says_ok]
  have c9 : law_c11 ρ g = .ok (.lst ((wilds bs xs).map fun _ => mal)) g := by
    refine xLc_of (ds := wilds bs xs) (by simp [h11 _]) (lcL_map _ fun d hd => ⟨_, ev_gName (by simp [hl]), ?_⟩)
    have := told2 (n := 1) (d1 := Tu bs) (d2 := d) (g := g) (counted_on_bad2 hB (wild_bad hB hx d hd g))
    simp [hl, h2 _, this, itD, plc]
  have e := rep_mal 9 (by decide)
  have e2 : mulD (.lst [mal]) (.int 9) = some (.lst (repL 9 [mal])) := rfl
  rw [map_c] at c9
  simp only [law_s23, ev_sif, ev_tOr, ev_tNot, ev_tV, ev_cb, ev_cons, ev_nil, ev_bin, ev_lst, ev_c, c8, c9, allD_t, R.bind_ok, ofO_some, Bool.not_true, List.length_cons, List.length_nil, Nat.zero_add, wilds_len, LIM_1, decide_true, e2, e, R.to_ok, ev_nop]
theorem st24 (hB : Bs bs) (hx : Fg bs xs) (hl : ρ.length = 27) (h2 : Has ρ 2 (Tu bs)) (h11 : Has ρ 11 (.lst (wilds bs xs))) : law_s24 ρ g = .nx ρ g := by
  have c9 : law_c12 ρ g = .ok (.lst ((wilds bs xs).map fun _ => mal)) g := by
    refine xLc_of (ds := wilds bs xs) (by simp [h11 _]) (lcL_map _ fun d hd => ⟨_, ev_gName (by simp [hl]), ?_⟩)
    have := told2 (n := 2) (d1 := Tu bs) (d2 := d) (g := g) (number_of_bad2 hB (wild_bad hB hx d hd g))
    simp [hl, h2 _, this, itD, plc]
  have e := rep_mal 9 (by decide)
  have e2 : mulD (.lst [mal]) (.int 9) = some (.lst (repL 9 [mal])) := rfl
  rw [map_c] at c9
  simp only [law_s24, ev_sif, ev_tV, ev_cb, ev_cons, ev_nil, ev_bin, ev_lst, ev_c, c9, R.bind_ok, ofO_some, List.length_cons, List.length_nil, Nat.zero_add, wilds_len, LIM_1, decide_true, e2, e, R.to_ok, ev_nop]
def tries (bs xs : List Int) : List (Nat × List D) := [(0, [Tu bs, .non]), (0, [Tu bs, .bl true]), (3, [Tu bs, Tu xs, .non]), (3, [Tu bs, .int 5, Tu xs]), (3, [.non, Tu xs, Tu xs]), (4, [Tu bs, .int 0]), (4, [Tu bs, .int 501]), (4, [.tup [.int 1], .int 5]), (1, [.tup [.int 1], .tup [.int 0]]), (2, [.int 5, Tu xs])]
def trD (p : Nat × List D) : D := .tup [.fn p.1, .tup p.2]
theorem st25 (hl : ρ.length = 27) (h2 : Has ρ 2 (Tu bs)) (h13 : Has ρ 13 (Tu xs)) : law_s25 ρ g = .nx (ρ.set 12 (some (.lst (((tries bs xs).take 4).map trD)))) g := by
  simp [law_s25, hl, h2 _, h13 _, tries, trD]
theorem st26 (hl : ρ.length = 27) (h2 : Has ρ 2 (Tu bs)) (h13 : Has ρ 13 (Tu xs)) (h12 : Has ρ 12 (.lst (((tries bs xs).take 4).map trD))) : law_s26 ρ g = .nx (ρ.set 12 (some (.lst (((tries bs xs).take 9).map trD)))) g := by
  simp [law_s26, hl, h2 _, h13 _, h12 _, tries, trD, addD]
theorem st27 (hl : ρ.length = 27) (h2 : Has ρ 2 (Tu bs)) (h13 : Has ρ 13 (Tu xs)) (h12 : Has ρ 12 (.lst (((tries bs xs).take 9).map trD))) : law_s27 ρ g = .nx (ρ.set 12 (some (.lst ((tries bs xs).map trD)))) g := by
  simp [law_s27, hl, h2 _, h13 _, h12 _, tries, trD, addD]
theorem non_bad (d : D) (h : d = .non ∨ d = .int 5) (g : G) : F_is_figures [Tu bs, d] g = .ok (.bl false) g := by
  rcases h with rfl | rfl <;> simp [F_is_figures, fnOf, B_is_figures, is_figures_s0]
theorem tries_bad (hB : Bs bs) (hx : Fg bs xs) (g : G) : ∀ p ∈ tries bs xs, F_law_told [.fn p.1, .tup p.2] g = .ok malT g := by
  intro p hp
  have hw := wild_bad hB hx
  simp only [tries, List.mem_cons, List.not_mem_nil, or_false] at hp
  rcases hp with rfl | rfl | rfl | rfl | rfl | rfl | rfl | rfl | rfl | rfl
  · exact told2 (figures_of_bad2 hB (by simp [F_is_integer, fnOf, B_is_integer]))
  · exact told2 (figures_of_bad2 hB (by simp [F_is_integer, fnOf, B_is_integer]))
  · refine told3 ?_
    have := number_of_bad2 hB (non_bad (bs := bs) .non (.inl rfl) g)
    simp [tbl_3, F_figure_sum, fnOf, B_figure_sum, number_of_ok hB hx, this]
  · refine told3 ?_
    have := number_of_bad2 hB (non_bad (bs := bs) (.int 5) (.inr rfl) g)
    simp [tbl_3, F_figure_sum, fnOf, B_figure_sum, this]
  · refine told3 ?_
    have := number_of_bad (e := Tu xs) (bad_bases .non (by simp [bads]) g)
    simp [tbl_3, F_figure_sum, fnOf, B_figure_sum, this]
  · exact told2 (carry_row_bad2 hB (by decide))
  · exact told2 (carry_row_bad2 hB (by decide))
  · exact told2 (carry_row_bad (e := .int 5) (bad_bases (.tup [.int 1]) (by simp [bads]) g))
  · exact told2 (counted_on_bad (e := .tup [.int 0]) (bad_bases (.tup [.int 1]) (by simp [bads]) g))
  · exact told2 (number_of_bad (e := Tu xs) (bad_bases (.int 5) (by simp [bads]) g))
theorem st28 (hB : Bs bs) (hx : Fg bs xs) (hl : ρ.length = 27) (h12 : Has ρ 12 (.lst ((tries bs xs).map trD))) : law_s28 ρ g = .rt (.bl true) g := by
  have c9 : law_c13 ρ g = .ok (.lst (((tries bs xs).map trD).map fun _ => mal)) g := by
    refine xLc_of (ds := (tries bs xs).map trD) (by simp [h12 _]) (lcL_map _ fun d hd => ?_)
    obtain ⟨p, hp, rfl⟩ := List.mem_map.mp hd
    have := tries_bad hB hx g p hp
    refine ⟨((wipe [24, 25] ρ).set 24 (some (.fn p.1))).set 25 (some (.tup p.2)), by simp [trD, hl], ?_⟩
    simp [hl, this, itD, plc]
  have e := rep_mal 10 (by decide)
  have e2 : mulD (.lst [mal]) (.int 10) = some (.lst (repL 10 [mal])) := rfl
  have e3 : eqD (.lst (List.replicate 10 mal)) (.lst (repL 10 [mal])) = some (.bl true) := eqD_refl (d := .lst (List.replicate 10 mal)) rfl
  have e4 : ((tries bs xs).map trD).length = 10 := rfl
  rw [map_c] at c9
  simp only [law_s28, ev_ret, ev_bin, ev_lst, ev_cons, ev_nil, ev_c, c9, R.bind_ok, ofO_some, List.length_cons, List.length_nil, Nat.zero_add, e4, LIM_1, decide_true, e2, e3, R.to_ok]
end

theorem pure_law : ∀ (a : Nat) (g : G), g.on = true → g.at_ = a → GOk g → ∃ g', B_law ([none, some (.gen a)] ++ List.replicate 25 none) g = .rt (.bl true) g' := by
  intro a g ho ha _
  let ρ0 : Env := [none, some (.gen a)] ++ List.replicate 25 none
  have hl0 : ρ0.length = 27 := rfl
  have h1 : Has ρ0 1 (.gen a) := fun _ => rfl
  obtain ⟨bs, g1, k0, hB, hb5, hg1⟩ := st0 (g := g) hl0 h1 ⟨ho, ha⟩
  let A : List Nat := [3, 4, 5, 6, 7, 8, 9, 10, 11, 12, 15, 16, 17, 18, 19, 20, 21, 22]
  let ρ1 := (ρ0.set 2 (some (Tu bs))).set 3 (some (.int 1))
  have l1 : ρ1.length = 27 := by simp [ρ1, hl0]
  have k1 : law_s1 (ρ0.set 2 (some (Tu bs))) g1 = .nx ρ1 g1 := by simp [law_s1, hl0, ρ1]
  have b2 : Has ρ1 2 (Tu bs) := (has_set (by rw [hl0]; decide)).set (by decide)
  have b1 : Has ρ1 1 (.gen a) := (h1.set (by decide)).set (by decide)
  obtain ⟨o4, k2⟩ := st2 (g := g1) l1 b2 (has_set (by simp [hl0])) hB
  let ρ2 := (ρ1.set 3 (some (.int (size bs)))).set 4 o4
  have l2 : ρ2.length = 27 := by simp [ρ2, l1]
  have c2 : Has ρ2 2 (Tu bs) := (b2.set (by decide)).set (by decide)
  have c1 : Has ρ2 1 (.gen a) := (b1.set (by decide)).set (by decide)
  have c3 : Has ρ2 3 (.int (size bs)) := (has_set (by simp [l1])).set (by decide)
  obtain ⟨xs, ys, g2, k3, hx, hy, hg2⟩ := st3 (g := g1) l2 c1 c2 hB.ok hg1
  let ρ3 := (ρ2.set 13 (some (Tu xs))).set 14 (some (Tu ys))
  have l3 : ρ3.length = 27 := by simp [ρ3, l2]
  have d2 : Has ρ3 2 (Tu bs) := (c2.set (by decide)).set (by decide)
  have d1 : Has ρ3 1 (.gen a) := (c1.set (by decide)).set (by decide)
  have d3 : Has ρ3 3 (.int (size bs)) := (c3.set (by decide)).set (by decide)
  have d13 : Has ρ3 13 (Tu xs) := (has_set (by simp [l2])).set (by decide)
  have d14 : Has ρ3 14 (Tu ys) := has_set (by simp [l2])
  have k4 := st4 (g := g2) hB hx d2 d13
  obtain ⟨n, g3, k5, hg3⟩ := st5 (g := g2) d1 l3 hg2
  let ρ5 := ρ3.set 5 (some (.int n))
  have l5 : ρ5.length = 27 := by simp [ρ5, l3]
  have f5 : Fr A ρ3 ρ5 := Fr.refl.set (by simp [A])
  have k6 := st6 (g := g3) hB hx (f5.has d2 (by decide)) (f5.has d13 (by decide)) (has_set (by simp [l3])) (d3.set (by decide) : Has ρ5 3 (.int (size bs)))
  have k7 := st7 (g := g3) hB hy (f5.has d2 (by decide)) (f5.has d14 (by decide))
  have k8 := st8 (g := g3) hB hx hy l5 (f5.has d2 (by decide)) (f5.has d13 (by decide)) (f5.has d14 (by decide))
  let ρ8 := (ρ5.set 15 (some (.int (num bs xs)))).set 4 (some (.int (num bs ys)))
  have l8 : ρ8.length = 27 := by simp [ρ8, l5]
  have f8 : Fr A ρ3 ρ8 := (f5.set (by simp [A])).set (by simp [A])
  have e15 : Has ρ8 15 (.int (num bs xs)) := (has_set (by simp [l5])).set (by decide)
  have e4 : Has ρ8 4 (.int (num bs ys)) := has_set (by simp [l5])
  have k9 := st9 (g := g3) hB hx (f8.has d2 (by decide)) (f8.has d13 (by decide)) e15
  have k10 := st10 (g := g3) hB hx hy (f8.has d2 (by decide)) (f8.has d13 (by decide)) (f8.has d14 (by decide)) e15 e4
  have k11 := st11 (g := g3) hB l8 (f8.has d2 (by decide))
  let ρ11 := ρ8.set 6 (some (Tu (zeros bs)))
  have l11 : ρ11.length = 27 := by simp [ρ11, l8]
  have f11 : Fr A ρ3 ρ11 := f8.set (by simp [A])
  have k12 := st12 (g := g3) hB l11 (f11.has d2 (by decide))
  let ρ12 := ρ11.set 7 (some (Tu (figs bs 1)))
  have l12 : ρ12.length = 27 := by simp [ρ12, l11]
  have f12 : Fr A ρ3 ρ12 := f11.set (by simp [A])
  have m6 : Has ρ12 6 (Tu (zeros bs)) := (has_set (by simp [l8])).set (by decide)
  have k13 := st13 (g := g3) hB hx (f12.has d2 (by decide)) (f12.has d13 (by decide)) (has_set (by simp [l11])) m6 ((e15.set (by decide)).set (by decide))
  have k14 := st14 (g := g3) hB l12 (f12.has d2 (by decide)) m6
  obtain ⟨c, g4, k15, hg4, c0, c1'⟩ := st15 (g := g3) (f12.has d1 (by decide)) l12 hg3
  let ρ15 := ρ12.set 8 (some (.int (c : Int)))
  have l15 : ρ15.length = 27 := by simp [ρ15, l12]
  have f15 : Fr A ρ3 ρ15 := f12.set (by simp [A])
  have k16 := st16 (g := g4) l15 (m6.set (by decide) : Has ρ15 6 (Tu (zeros bs)))
  let ρ16 := (ρ15.set 16 (some (Tu (zeros bs)))).set 17 (some (.lst []))
  have l16 : ρ16.length = 27 := by simp [ρ16, l15]
  have f16 : Fr A ρ3 ρ16 := (f15.set (by simp [A])).set (by simp [A])
  have m8 : Has ρ16 8 (.int (c : Int)) := ((has_set (by simp [l12])).set (by decide)).set (by decide)
  obtain ⟨ρ17, k17, r17, m17⟩ := st17 (g := g4) hB c1' l16 (f16.has d2 (by decide)) m8 ((has_set (by simp [l15])).set (by decide)) (has_set (by simp [l15]))
  have l17 : ρ17.length = 27 := by rw [r17.len, l16]
  have f17 : Fr A ρ3 ρ17 := f16.trans (r17.mono (by simp [A]))
  have k18 := st18 (g := g4) hB c0 c1' (f17.has d2 (by decide)) (r17.has m8 (by decide)) m17
  have w3 : Has ρ17 3 (.int (size bs)) := by
    refine r17.has ?_ (by decide)
    exact ((((((((d3.set (by decide)).set (by decide)).set (by decide)).set (by decide)).set (by decide)).set (by decide)).set (by decide)).set (by decide) : Has ρ16 3 _)
  obtain ⟨ρ19, k19, r19⟩ := st19 (g := g4) hB l17 (f17.has d2 (by decide)) w3
  have l19 : ρ19.length = 27 := by rw [r19.len, l17]
  have f19 : Fr A ρ3 ρ19 := f17.trans (r19.mono (by simp [A]))
  have k20 := st20 (g := g4) l19
  let ρ20 := ρ19.set 10 (some (.lst bads))
  have l20 : ρ20.length = 27 := by simp [ρ20, l19]
  have f20 : Fr A ρ3 ρ20 := f19.set (by simp [A])
  have k21 := st21 (g := g4) l20 (has_set (by simp [l19]))
  have k22 := st22 (g := g4) hB hx l20 (f20.has d2 (by decide)) (f20.has d13 (by decide))
  let ρ22 := ρ20.set 11 (some (.lst (wilds bs xs)))
  have l22 : ρ22.length = 27 := by simp [ρ22, l20]
  have f22 : Fr A ρ3 ρ22 := f20.set (by simp [A])
  have k23 := st23 (g := g4) hB hx l22 (f22.has d2 (by decide)) (has_set (by simp [l20]))
  have k24 := st24 (g := g4) hB hx l22 (f22.has d2 (by decide)) (has_set (by simp [l20]))
  have k25 := st25 (g := g4) l22 (f22.has d2 (by decide)) (f22.has d13 (by decide))
  let ρ25 := ρ22.set 12 (some (.lst (((tries bs xs).take 4).map trD)))
  have l25 : ρ25.length = 27 := by simp [ρ25, l22]
  have f25 : Fr A ρ3 ρ25 := f22.set (by simp [A])
  have k26 := st26 (g := g4) l25 (f25.has d2 (by decide)) (f25.has d13 (by decide)) (has_set (by simp [l22]))
  let ρ26 := ρ25.set 12 (some (.lst (((tries bs xs).take 9).map trD)))
  have l26 : ρ26.length = 27 := by simp [ρ26, l25]
  have f26 : Fr A ρ3 ρ26 := f25.set (by simp [A])
  have k27 := st27 (g := g4) l26 (f26.has d2 (by decide)) (f26.has d13 (by decide)) (has_set (by simp [l25]))
  have k28 := st28 (ρ := ρ26.set 12 (some (.lst ((tries bs xs).map trD)))) (g := g4) hB hx (by simp [l26]) (has_set (by simp [l26]))
  refine ⟨g4, ?_⟩
  unfold B_law
  rw [seq_nx k0, seq_nx k1, seq_nx k2, seq_nx k3, seq_nx k4, seq_nx k5, seq_nx k6, seq_nx k7, seq_nx k8, seq_nx k9, seq_nx k10, seq_nx k11, seq_nx k12, seq_nx k13, seq_nx k14, seq_nx k15, seq_nx k16, seq_nx k17, seq_nx k18, seq_nx k19, seq_nx k20, seq_nx k21, seq_nx k22, seq_nx k23, seq_nx k24, seq_nx k25, seq_nx k26, seq_nx k27, k28]
end K39

set_option Elab.async false
set_option linter.all false
set_option maxRecDepth 100000
set_option maxHeartbeats 4000000
namespace K39
open PySem PySem.Spec PyProof.Rows L2 PP
def top (i : Nat) : Stmt := PySem.Challenge.pw_shiftroads_k39_whole_counters_of_figures.main.body.getD i (.Pass ⟨0, 0, 0, 0⟩)
abbrev s_is_integer : Stmt := top 5
theorem sc_is_integer : FnScope ["value"] ["value"] (defScope s_is_integer) := ⟨rfl, rfl, rfl, by decide +kernel, rfl, by decide +kernel, by decide +kernel⟩
abbrev s_check_from : Stmt := top 6
theorem sc_check_from : FnScope ["n", "low", "high"] ["n", "low", "high"] (defScope s_check_from) := ⟨rfl, rfl, rfl, by decide +kernel, rfl, by decide +kernel, by decide +kernel⟩
abbrev s_is_bases : Stmt := top 8
theorem sc_is_bases : FnScope ["value", "b"] ["value"] (defScope s_is_bases) := ⟨rfl, rfl, rfl, by decide +kernel, rfl, by decide +kernel, by decide +kernel⟩
abbrev s_check_bases : Stmt := top 9
theorem sc_check_bases : FnScope ["value"] ["value"] (defScope s_check_bases) := ⟨rfl, rfl, rfl, by decide +kernel, rfl, by decide +kernel, by decide +kernel⟩
abbrev s_is_figures : Stmt := top 10
theorem sc_is_figures : FnScope ["bases", "value", "x", "b"] ["bases", "value"] (defScope s_is_figures) := ⟨rfl, rfl, rfl, by decide +kernel, rfl, by decide +kernel, by decide +kernel⟩
abbrev s_counted_on : Stmt := top 11
theorem sc_counted_on : FnScope ["bases", "figures", "found", "carry", "x", "b"] ["bases", "figures"] (defScope s_counted_on) := ⟨rfl, rfl, rfl, by decide +kernel, rfl, by decide +kernel, by decide +kernel⟩
abbrev s_figures_of : Stmt := top 12
theorem sc_figures_of : FnScope ["bases", "n", "found", "b"] ["bases", "n"] (defScope s_figures_of) := ⟨rfl, rfl, rfl, by decide +kernel, rfl, by decide +kernel, by decide +kernel⟩
abbrev s_number_of : Stmt := top 13
theorem sc_number_of : FnScope ["bases", "figures", "found", "x", "b"] ["bases", "figures"] (defScope s_number_of) := ⟨rfl, rfl, rfl, by decide +kernel, rfl, by decide +kernel, by decide +kernel⟩
abbrev s_figure_sum : Stmt := top 14
theorem sc_figure_sum : FnScope ["bases", "one", "two"] ["bases", "one", "two"] (defScope s_figure_sum) := ⟨rfl, rfl, rfl, by decide +kernel, rfl, by decide +kernel, by decide +kernel⟩
abbrev s_carry_row : Stmt := top 15
theorem sc_carry_row : FnScope ["bases", "count", "_", "own", "found", "later", "a", "b"] ["bases", "count"] (defScope s_carry_row) := ⟨rfl, rfl, rfl, by decide +kernel, rfl, by decide +kernel, by decide +kernel⟩
abbrev s_law_state : Stmt := top 17
theorem sc_law_state : FnScope ["script", "seed", "total", "cell"] ["script"] (defScope s_law_state) := ⟨rfl, rfl, rfl, by decide +kernel, rfl, by decide +kernel, by decide +kernel⟩
abbrev s_law_take : Stmt := top 18
theorem sc_law_take : FnScope ["state", "m", "value"] ["state", "m"] (defScope s_law_take) := ⟨rfl, rfl, rfl, by decide +kernel, rfl, by decide +kernel, by decide +kernel⟩
abbrev s_law_is_whole : Stmt := top 19
theorem sc_law_is_whole : FnScope ["value"] ["value"] (defScope s_law_is_whole) := ⟨rfl, rfl, rfl, by decide +kernel, rfl, by decide +kernel, by decide +kernel⟩
abbrev s_law_same : Stmt := top 20
theorem sc_law_same : FnScope ["one", "two", "k"] ["one", "two"] (defScope s_law_same) := ⟨rfl, rfl, rfl, by decide +kernel, rfl, by decide +kernel, by decide +kernel⟩
abbrev s_law_says : Stmt := top 21
theorem sc_law_says : FnScope ["value", "due"] ["value", "due"] (defScope s_law_says) := ⟨rfl, rfl, rfl, by decide +kernel, rfl, by decide +kernel, by decide +kernel⟩
abbrev s_law_told : Stmt := top 22
theorem sc_law_told : FnScope ["act", "given", "refused"] ["act", "given"] (defScope s_law_told) := ⟨rfl, rfl, rfl, by decide +kernel, rfl, by decide +kernel, by decide +kernel⟩
abbrev s_law_figures : Stmt := top 23
theorem sc_law_figures : FnScope ["bases", "n", "found", "b"] ["bases", "n"] (defScope s_law_figures) := ⟨rfl, rfl, rfl, by decide +kernel, rfl, by decide +kernel, by decide +kernel⟩
abbrev s_law_number : Stmt := top 24
theorem sc_law_number : FnScope ["bases", "figures", "total", "size", "x", "b"] ["bases", "figures"] (defScope s_law_number) := ⟨rfl, rfl, rfl, by decide +kernel, rfl, by decide +kernel, by decide +kernel⟩
abbrev s_law : Stmt := top 25
theorem sc_law : FnScope ["script", "state", "bases", "size", "b", "n", "zero", "first", "count", "t", "bads", "wild", "tried", "one", "two", "a", "now", "due", "later", "row", "x", "total", "share", "bad", "act", "given", "y"] ["script"] (defScope s_law) := ⟨rfl, rfl, rfl, by decide +kernel, rfl, by decide +kernel, by decide +kernel⟩
structure Ad where
  (f_is_integer f_check_from f_is_bases f_check_bases f_is_figures f_counted_on f_figures_of f_number_of f_figure_sum f_carry_row f_law_state f_law_take f_law_is_whole f_law_same f_law_says f_law_told f_law_figures f_law_number f_law : Addr)
  (c_Malformed c_Refused : Addr)
def TT (K : PySem.W.Frag) (A : Ad) : Tb where
  K := K
  fnA := fun n => ([A.f_figures_of, A.f_counted_on, A.f_number_of, A.f_figure_sum, A.f_carry_row] : List Addr)[n]?
  clA := fun _ => none
  clF := fun _ => []
  exA := fun n => ([A.c_Malformed, A.c_Refused] : List Addr)[n]?
  exF := fun _ => []
  exn := none
structure Tx (K : PySem.W.Frag) (mg : Str → Option Value) (A : Ad) : Prop where
  f_is_integer : ∃ fd, Fun K "is_integer" "is_integer" s_is_integer A.f_is_integer fd ∧ Binds K fd ["value"] []
  g_is_integer : mg "is_integer" = some (.ref A.f_is_integer)
  f_check_from : ∃ fd, Fun K "check_from" "check_from" s_check_from A.f_check_from fd ∧ Binds K fd ["n", "low", "high"] []
  g_check_from : mg "check_from" = some (.ref A.f_check_from)
  f_is_bases : ∃ fd, Fun K "is_bases" "is_bases" s_is_bases A.f_is_bases fd ∧ Binds K fd ["value"] []
  g_is_bases : mg "is_bases" = some (.ref A.f_is_bases)
  f_check_bases : ∃ fd, Fun K "check_bases" "check_bases" s_check_bases A.f_check_bases fd ∧ Binds K fd ["value"] []
  g_check_bases : mg "check_bases" = some (.ref A.f_check_bases)
  f_is_figures : ∃ fd, Fun K "is_figures" "is_figures" s_is_figures A.f_is_figures fd ∧ Binds K fd ["bases", "value"] []
  g_is_figures : mg "is_figures" = some (.ref A.f_is_figures)
  f_counted_on : ∃ fd, Fun K "counted_on" "counted_on" s_counted_on A.f_counted_on fd ∧ Binds K fd ["bases", "figures"] []
  g_counted_on : mg "counted_on" = some (.ref A.f_counted_on)
  f_figures_of : ∃ fd, Fun K "figures_of" "figures_of" s_figures_of A.f_figures_of fd ∧ Binds K fd ["bases", "n"] []
  g_figures_of : mg "figures_of" = some (.ref A.f_figures_of)
  f_number_of : ∃ fd, Fun K "number_of" "number_of" s_number_of A.f_number_of fd ∧ Binds K fd ["bases", "figures"] []
  g_number_of : mg "number_of" = some (.ref A.f_number_of)
  f_figure_sum : ∃ fd, Fun K "figure_sum" "figure_sum" s_figure_sum A.f_figure_sum fd ∧ Binds K fd ["bases", "one", "two"] []
  g_figure_sum : mg "figure_sum" = some (.ref A.f_figure_sum)
  f_carry_row : ∃ fd, Fun K "carry_row" "carry_row" s_carry_row A.f_carry_row fd ∧ Binds K fd ["bases", "count"] []
  g_carry_row : mg "carry_row" = some (.ref A.f_carry_row)
  f_law_state : ∃ fd, Fun K "_law_state" "_law_state" s_law_state A.f_law_state fd ∧ Binds K fd ["script"] []
  g_law_state : mg "_law_state" = some (.ref A.f_law_state)
  f_law_take : ∃ fd, Fun K "_law_take" "_law_take" s_law_take A.f_law_take fd ∧ Binds K fd ["state", "m"] []
  g_law_take : mg "_law_take" = some (.ref A.f_law_take)
  f_law_is_whole : ∃ fd, Fun K "_law_is_whole" "_law_is_whole" s_law_is_whole A.f_law_is_whole fd ∧ Binds K fd ["value"] []
  g_law_is_whole : mg "_law_is_whole" = some (.ref A.f_law_is_whole)
  f_law_same : ∃ fd, Fun K "_law_same" "_law_same" s_law_same A.f_law_same fd ∧ Binds K fd ["one", "two"] []
  g_law_same : mg "_law_same" = some (.ref A.f_law_same)
  f_law_says : ∃ fd, Fun K "_law_says" "_law_says" s_law_says A.f_law_says fd ∧ Binds K fd ["value", "due"] []
  g_law_says : mg "_law_says" = some (.ref A.f_law_says)
  f_law_told : ∃ fd, Fun K "_law_told" "_law_told" s_law_told A.f_law_told fd ∧ Binds K fd ["act", "given"] []
  g_law_told : mg "_law_told" = some (.ref A.f_law_told)
  f_law_figures : ∃ fd, Fun K "_law_figures" "_law_figures" s_law_figures A.f_law_figures fd ∧ Binds K fd ["bases", "n"] []
  g_law_figures : mg "_law_figures" = some (.ref A.f_law_figures)
  f_law_number : ∃ fd, Fun K "_law_number" "_law_number" s_law_number A.f_law_number fd ∧ Binds K fd ["bases", "figures"] []
  g_law_number : mg "_law_number" = some (.ref A.f_law_number)
  f_law : ∃ fd, Fun K "law" "law" s_law A.f_law fd ∧ Binds K fd ["script"] []
  g_law : mg "law" = some (.ref A.f_law)
  m_abs : mg "abs" = none
  m_all : mg "all" = none
  m_bool : mg "bool" = none
  m_int : mg "int" = none
  m_isinstance : mg "isinstance" = none
  m_len : mg "len" = none
  m_list : mg "list" = none
  m_range : mg "range" = none
  m_str : mg "str" = none
  m_sum : mg "sum" = none
  m_tuple : mg "tuple" = none
  m_zip : mg "zip" = none
  g_Malformed : mg "Malformed" = some (.ref A.c_Malformed)
  m_Malformed : ∀ m C, (TT K A).exA m = some C → PySem.W.exmOne K (.ref C) (.ref A.c_Malformed) = some (decide (0 = m))
  x_Malformed : PySem.W.excIn K A.c_Malformed [.type "ValueError", .type "Exception", .type "BaseException", .type "object"] "ValueError.__new__" = true
  k_Malformed : PySem.W.keepIn K (.ref A.c_Malformed) = true
  b_Malformed : PySem.W.subIn K (.ref A.c_Malformed) (.type "BaseException") = some true
  y_Malformed : PySem.W.typeIn K (.ref A.c_Malformed) = some (.type "type")
  g_Refused : mg "Refused" = some (.ref A.c_Refused)
  m_Refused : ∀ m C, (TT K A).exA m = some C → PySem.W.exmOne K (.ref C) (.ref A.c_Refused) = some (decide (1 = m))
  k_Refused : PySem.W.keepIn K (.ref A.c_Refused) = true
  b_Refused : PySem.W.subIn K (.ref A.c_Refused) (.type "BaseException") = some true
  y_Refused : PySem.W.typeIn K (.ref A.c_Refused) = some (.type "type")
section
variable {P : Program} {w : World} {K : PySem.W.Frag} {mg : Str → Option Value} {base : Heap} {A : Ad}
theorem ok_law_take (tx : Tx K mg A) : Ok P w K mg base (TT K A) 1 A.f_law_take 2 F_law_take := by
  obtain ⟨fd, F, b⟩ := tx.f_law_take
  refine ⟨fd, _, F.okX (k := 0) sc_law_take (fun vs H Q E ⟨F0, ds, g, hl, _⟩ => by rw [hl]; rfl) (fun cdv A' outer s H vs Q E hr ⟨F0, ds, g, hl, hs, hg, hrep, hq⟩ => ?_), F.kp, b⟩
  obtain ⟨m, rfl, ho, m0, m1, q⟩ := take_inv hrep hq
  obtain ⟨hh, hf, hok⟩ := hg ho
  refine ⟨_, pss_cons (ps_if (pt_cmpR op_gt (pe_ix ix_seq (pv 0) pe_int (fun _ _ => rfl)) pe_int (nomark _))
      (pss_cons (ps_set (i := 2) sc_law_take.nd rfl (by first | exact Or.inl rfl | exact Or.inr rfl) (pe_op op_mod (pe_callTy call_int1 rfl tx.m_int (by decide +kernel) (pa_cons (pe_ix ix_seq (pv 0) pe_int (fun _ _ => rfl)) pa_nil)) (pv 1)))
      (pss_cons (ps_asg (pe_op op_fdivW (pe_ix ix_seq (pv 0) pe_int (fun _ _ => rfl)) (pv 1)) (pg_sub (pv 0) pe_int set_list))
      (pss_one (ps_ret (pv 2))))) pss_nil)
    (pss_cons (ps_asg (pe_op op_mod (pe_callTy call_int1 rfl tx.m_int (by decide +kernel) (pa_cons (pe_op op_add (pe_op op_mulA (pe_ix ix_seq (pv 0) pe_int (fun _ _ => rfl)) pe_int) pe_int) pa_nil)) pe_int) (pg_sub (pv 0) pe_int set_list))
    (pss_one (ps_ret (pe_op op_mod (pe_callTy call_int1 rfl tx.m_int (by decide +kernel) (pa_cons (pe_op op_fdiv (pe_ix ix_seq (pv 0) pe_int (fun _ _ => rfl)) pe_int) pa_nil)) (pv 1))))), ?_⟩
  have hS : SqL K H g.at_ [.int g.s, .int g.t] := SqL.of hh
  refine ⟨.ref g.at_, rfl, .inl ⟨g.at_, _, 0, .int g.s, rfl, rfl, hS, rfl, g.s, 0, rfl, rfl, decide (g.s > 0), rfl, ?_⟩⟩
  by_cases h : 0 < g.s
  · rw [show decide (g.s > 0) = true from decide_eq_true h]
    dsimp only
    rw [if_pos rfl]
    unfold tkG at q
    simp only [if_pos h] at q
    refine ⟨.ref g.at_, rfl, .inl ⟨g.at_, _, 0, .int g.s, rfl, rfl, hS, rfl, .inl ⟨g.s, rfl, .int m, rfl, g.s, m, rfl, rfl, m0, ?_⟩⟩⟩
    refine ⟨.ref g.at_, rfl, .inl ⟨g.at_, _, 0, .int g.s, rfl, rfl, hS, rfl, .int m, rfl, g.s, m, rfl, rfl, div_ok m0 m1, ?_⟩⟩
    refine ⟨.ref g.at_, rfl, g.at_, _, _, 0, rfl, rfl, hh, rfl, ?_⟩
    exact ⟨.int (g.s % m), rfl, q _ F0 _ (take_post (g' := { g with s := g.s / m }) hs hf ⟨_, hh⟩ rfl rfl (by have := tkG_ok hok m0; unfold tkG at this; simpa only [if_pos h] using this) ho) mk_int⟩
  · rw [show decide (g.s > 0) = false from decide_eq_false h]
    dsimp only
    rw [if_neg Bool.false_ne_true]
    unfold tkG at q
    simp only [if_neg h] at q
    refine ⟨.ref g.at_, rfl, .inl ⟨g.at_, _, 1, .int g.t, rfl, rfl, hS, rfl, .inl ⟨g.t, 48271, rfl, rfl, mulOk_C (by simp [mulOk]), _, 11, rfl, rfl, .inl ⟨_, rfl, _, 2147483647, rfl, rfl, (show (0 : Int) < 2147483647 by decide), ?_⟩⟩⟩⟩
    refine ⟨.ref g.at_, rfl, g.at_, _, _, 1, rfl, rfl, hh, rfl, ?_⟩
    refine ⟨.ref g.at_, rfl, .inl ⟨g.at_, _, 1, .int ((g.t * 48271 + 11) % 2147483647), rfl, rfl, SqL.of upd_same, rfl, _, 7, rfl, rfl, (show (0 : Int) < 7 ∧ (7 : Int) < 1073741824 by decide), .inl ⟨_, rfl, .int m, rfl, _, m, rfl, rfl, m0, ?_⟩⟩⟩
    exact q _ F0 _ (take_post (g' := { g with t := (g.t * 48271 + 11) % 2147483647 }) hs hf ⟨_, hh⟩ rfl rfl (by have := tkG_ok hok m0; unfold tkG at this; simpa only [if_neg h] using this) ho) mk_int
theorem ok_law_state (tx : Tx K mg A) : ∃ fd, FnOk P w K mg base (L2.CX P w) 1 A.f_law_state fd ["script"] (spState K) ∧ PySem.W.keepIn K (.ref A.f_law_state) = true ∧ Binds K fd ["script"] [] := by
  obtain ⟨fd, F, b⟩ := tx.f_law_state
  refine ⟨fd, F.okX (k := 0) sc_law_state (fun vs H Q E ⟨a, ns, e, _⟩ => by rw [e]; rfl) (fun cdv A' outer s H vs Q E hr ⟨a, ns, e, hSq, q⟩ => ?_), F.kp, b⟩
  subst e
  have hu := hr.units
  refine ⟨_, pss_cons (ps_set (i := 1) sc_law_state.nd rfl (by first | exact Or.inl rfl | exact Or.inr rfl) pe_int)
    (pss_cons (ps_set (i := 2) sc_law_state.nd rfl (by first | exact Or.inl rfl | exact Or.inr rfl) pe_int)
    (pss_cons (ps_for (passes_of rfl) rfl (pi_list (pe_slice sl_list (pv 0) po_none (po_some pe_int))) (pg_name (i := 3) sc_law_state.nd rfl (by first | exact Or.inl rfl | exact Or.inr rfl))
      (pss_cons (ps_set (i := 1) sc_law_state.nd rfl (by first | exact Or.inl rfl | exact Or.inr rfl) (pe_op op_add (pe_op op_mulA (pv 1) pe_int) (pe_callB call_abs rfl tx.m_abs (by decide +kernel) (pa_cons (pv 3) pa_nil))))
      (pss_one (ps_set (i := 2) sc_law_state.nd rfl (by first | exact Or.inl rfl | exact Or.inr rfl) (pe_op op_mod (pe_callTy call_int1 rfl tx.m_int (by decide +kernel) (pa_cons (pe_op op_add (pe_op op_mulA (pv 2) pe_int) (pv 3)) pa_nil)) pe_int)))))
    (pss_one (ps_ret (pe_lst (pa_cons (pv 1) (pa_cons (pe_ifExp (pt_cmpR (op_neD hu) (pv 2) pe_int (nomark _)) (pv 2) pe_int) pa_nil))))))), ?_⟩
  refine ⟨.ref a, rfl, 63, rfl, a, _, rfl, hSq, fun c nc => ?_⟩
  refine ⟨c, rfl, ⟨_, SqL.of upd_same⟩, ?_⟩
  refine for_list (fun i σ H2 => ∃ y3 s t, σ = [some (.ref a), some (.int s), some (.int t), y3] ∧ 0 ≤ s ∧ 0 ≤ t ∧ t < 2147483647 ∧ H2 c = some (.lst (cutV (ns.map V.int) none (some 63)))) ⟨none, 0, 1, rfl, by decide, by decide, by decide, upd_same⟩
    (fun i σ H2 hi ⟨y3, s1, t1, e, h1, h2, h3, h4⟩ => SqL.of h4) (fun i x σ H2 hx ⟨y3, s1, t1, e, h1, h2, h3, h4⟩ => ?_) (fun σ H2 ⟨y3, s1, t1, e, h1, h2, h3, h4⟩ => ?_)
  · subst e
    have hm : x ∈ ns.map V.int := List.mem_of_mem_drop (List.mem_of_mem_take (List.mem_of_getElem? hx))
    obtain ⟨z, _, rfl⟩ := List.mem_map.mp hm
    refine ⟨.int s1, rfl, .inl ⟨s1, 1000003, rfl, rfl, mulOk_C (by simp [mulOk]), .int z, rfl, z, rfl, _, _, rfl, rfl, ?_⟩⟩
    refine ⟨.int t1, rfl, .inl ⟨t1, 48271, rfl, rfl, mulOk_C (by simp [mulOk]), .int z, rfl, _, _, rfl, rfl, .inl ⟨_, rfl, _, 2147483647, rfl, rfl, (show (0 : Int) < 2147483647 by decide), ?_⟩⟩⟩
    refine ⟨_, _, _, rfl, ?_, Int.emod_nonneg _ (by decide), Int.emod_lt_of_pos _ (by decide), h4⟩
    split <;> omega
  · subst e
    refine ⟨.int s1, rfl, .int t1, rfl, .int t1, .int 1973665155, .int _, .int _, rfl, rfl, _, rfl, ?_⟩
    by_cases ht : (!PyData.eqv (PyData.int t1) (PyData.int 1973665155)) = true
    · dsimp only
      rw [if_pos ht]
      exact ⟨.int t1, rfl, (show (2 : Nat) ≤ sizeLine by decide), fun p np => q s1 t1 p _ h1 h2 h3 upd_same⟩
    · dsimp only
      rw [if_neg ht]
      exact ⟨(show (2 : Nat) ≤ sizeLine by decide), fun p np => q s1 7 p _ h1 (by decide) (by decide) upd_same⟩
theorem ok_is_integer (tx : Tx K mg A) : Ok P w K mg base (TT K A) 1 A.f_is_integer 1 F_is_integer := by
  obtain ⟨fd, F, b⟩ := tx.f_is_integer
  refine ⟨fd, _, fn_mk (T := TT K A) (S := B_is_integer) (own := []) F sc_is_integer rfl rfl (fun cdv A' outer s H E Z hr => ?_), F.kp, b⟩
  have hu := hr.units
  exact (ss_one (s_ret (x_and (x_isi .int rfl tx.m_isinstance (by decide +kernel) rfl tx.m_int (by decide +kernel) (x_var (pv 0) (by decide))) (x_one (x_not (x_isi .bool rfl tx.m_isinstance (by decide +kernel) rfl tx.m_bool (by decide +kernel) (x_var (pv 0) (by decide))))))))
theorem ok_check_from (tx : Tx K mg A) : Ok P w K mg base (TT K A) 2 A.f_check_from 3 F_check_from := by
  obtain ⟨fd, F, b⟩ := tx.f_check_from
  refine ⟨fd, _, fn_mk (T := TT K A) (S := B_check_from) (own := []) F sc_check_from rfl rfl (fun cdv A' outer s H E Z hr => ?_), F.kp, b⟩
  have hu := hr.units
  exact (ss_one (s_if (XW.t (xw_or (xt_not (xt_val (x_callO (ok_is_integer tx) rfl (hr.mono (by decide)) rfl tx.g_is_integer (takes_of rfl rfl rfl rfl) (a_cons (x_var (pv 0) (by decide)) a_nil) (al_cons al_nil)))) (xw_or1 (xt_not (xt_chain op_leA op_leA bin_le bin_le (x_var (pv 1) (by decide)) (x_var (pv 0) (by decide)) (x_var (pv 2) (by decide))))))) (ss_one (s_raise rfl (takes_of rfl rfl rfl rfl) (pmk_own PySem.F.excBase_ValueError tx.x_Malformed tx.g_Malformed tx.k_Malformed (raises_own tx.b_Malformed tx.y_Malformed) rfl) (fun _ _ _ q => q) rfl)) ss_nil))
theorem ok_is_bases (tx : Tx K mg A) : Ok P w K mg base (TT K A) 2 A.f_is_bases 1 F_is_bases := by
  obtain ⟨fd, F, b⟩ := tx.f_is_bases
  refine ⟨fd, _, fn_mk (T := TT K A) (S := B_is_bases) (own := []) F sc_is_bases rfl rfl (fun cdv A' outer s H E Z hr => ?_), F.kp, b⟩
  have hu := hr.units
  exact (ss_one (s_ret (x_and (x_isi .tuple rfl tx.m_isinstance (by decide +kernel) rfl tx.m_tuple (by decide +kernel) (x_var (pv 0) (by decide))) (x_and (x_chain op_leA op_leA bin_le bin_le x_int (x_cb call_len cl_len rfl tx.m_len PySem.boot_len (a_cons (x_var (pv 0) (by decide)) a_nil)) x_int) (x_one (x_cb (cr_all rfl) cl_all rfl tx.m_all (by decide +kernel) (a_cons (XF.toE (f_lc (ownN := [("b", 1)]) rfl sc_is_bases.nd (i_seq (x_var (pv 0) (by decide))) (blkOk_by (by first | (show blkC ["value", "b"] (defScope s_is_bases) _ _ = true; decide +kernel) | exact rfl)) (fun _ _ _ _ _ => (g_name sc_is_bases.nd rfl (by first | exact Or.inl rfl | exact Or.inr rfl))) (fun _ _ _ _ _ => ts_nil) (fun _ _ _ _ _ => (x_and (x_callO (ok_is_integer tx) rfl (hr.mono (by decide)) rfl tx.g_is_integer takes_none5 (a_cons (x_var (pv 1) (by decide)) a_nil) (al_cons al_nil)) (x_one (x_chain op_leA op_leA bin_le bin_le x_int (x_var (pv 1) (by decide)) x_int)))) (by decide) (by decide)) isLst_xLc) a_nil)))))))
theorem ok_check_bases (tx : Tx K mg A) : Ok P w K mg base (TT K A) 3 A.f_check_bases 1 F_check_bases := by
  obtain ⟨fd, F, b⟩ := tx.f_check_bases
  refine ⟨fd, _, fn_mk (T := TT K A) (S := B_check_bases) (own := []) F sc_check_bases rfl rfl (fun cdv A' outer s H E Z hr => ?_), F.kp, b⟩
  have hu := hr.units
  exact (ss_one (s_if (xt_not (xt_val (x_callO (ok_is_bases tx) rfl (hr.mono (by decide)) rfl tx.g_is_bases (takes_of rfl rfl rfl rfl) (a_cons (x_var (pv 0) (by decide)) a_nil) (al_cons al_nil)))) (ss_one (s_raise rfl (takes_of rfl rfl rfl rfl) (pmk_own PySem.F.excBase_ValueError tx.x_Malformed tx.g_Malformed tx.k_Malformed (raises_own tx.b_Malformed tx.y_Malformed) rfl) (fun _ _ _ q => q) rfl)) ss_nil))
theorem ok_is_figures (tx : Tx K mg A) : Ok P w K mg base (TT K A) 2 A.f_is_figures 2 F_is_figures := by
  obtain ⟨fd, F, b⟩ := tx.f_is_figures
  refine ⟨fd, _, fn_mk (T := TT K A) (S := B_is_figures) (own := []) F sc_is_figures rfl rfl (fun cdv A' outer s H E Z hr => ?_), F.kp, b⟩
  have hu := hr.units
  exact (ss_cons (s_if (XW.t (xw_or (xt_not (xt_val (x_isi .tuple rfl tx.m_isinstance (by decide +kernel) rfl tx.m_tuple (by decide +kernel) (x_var (pv 1) (by decide))))) (xw_or1 (xt_cmp (op_neD hu) bin_ne (nomark _) (x_cb call_len cl_len rfl tx.m_len PySem.boot_len (a_cons (x_var (pv 1) (by decide)) a_nil)) (x_cb call_len cl_len rfl tx.m_len PySem.boot_len (a_cons (x_var (pv 0) (by decide)) a_nil)))))) (ss_one (s_ret x_bl)) ss_nil) (ss_one (s_ret (x_cb (cr_all rfl) cl_all rfl tx.m_all (by decide +kernel) (a_cons (XF.toE (f_lc (ownN := [("x", 2), ("b", 3)]) rfl sc_is_figures.nd (i_zip rfl tx.m_zip (a_cons (x_var (pv 1) (by decide)) (a_cons (x_var (pv 0) (by decide)) a_nil))) (blkOk_by (by first | (show blkC ["bases", "value", "x", "b"] (defScope s_is_figures) _ _ = true; decide +kernel) | exact rfl)) (fun _ _ _ _ _ => (g_tup rfl (gs_cons (g_name sc_is_figures.nd rfl (by first | exact Or.inl rfl | exact Or.inr rfl)) (gs_cons (g_name sc_is_figures.nd rfl (by first | exact Or.inl rfl | exact Or.inr rfl)) (gs_nil (is := [])))))) (fun _ _ _ _ _ => ts_nil) (fun _ _ _ _ _ => (x_and (x_callO (ok_is_integer tx) rfl (hr.mono (by decide)) rfl tx.g_is_integer takes_none5 (a_cons (x_var (pv 2) (by decide)) a_nil) (al_cons al_nil)) (x_one (x_chain op_leA op_ltA bin_le bin_lt x_int (x_var (pv 2) (by decide)) (x_var (pv 3) (by decide)))))) (by decide) (by decide)) isLst_xLc) a_nil)))))
theorem ok_counted_on (tx : Tx K mg A) : Ok P w K mg base (TT K A) 4 A.f_counted_on 2 F_counted_on := by
  obtain ⟨fd, F, b⟩ := tx.f_counted_on
  refine ⟨fd, _, fn_mk (T := TT K A) (S := B_counted_on) (own := []) F sc_counted_on rfl rfl (fun cdv A' outer s H E Z hr => ?_), F.kp, b⟩
  have hu := hr.units
  exact (ss_cons (s_expr (x_callO (ok_check_bases tx) rfl (hr.mono (by decide)) rfl tx.g_check_bases (takes_of rfl rfl rfl rfl) (a_cons (x_var (pv 0) (by decide)) a_nil) (al_cons al_nil))) (ss_cons (s_if (xt_not (xt_val (x_callO (ok_is_figures tx) rfl (hr.mono (by decide)) rfl tx.g_is_figures (takes_of rfl rfl rfl rfl) (a_cons (x_var (pv 0) (by decide)) (a_cons (x_var (pv 1) (by decide)) a_nil)) (al_cons (al_cons al_nil))))) (ss_one (s_raise rfl (takes_of rfl rfl rfl rfl) (pmk_own PySem.F.excBase_ValueError tx.x_Malformed tx.g_Malformed tx.k_Malformed (raises_own tx.b_Malformed tx.y_Malformed) rfl) (fun _ _ _ q => q) rfl)) ss_nil) (ss_cons (s_parF (i := 2) (j := 3) rfl sc_counted_on.nd rfl rfl (by decide) rfl rfl (f_lst a_nil) isLst_xLst x_int rfl (by decide) (by decide)) (ss_cons (s_kill (is := [3, 4, 5]) (s_pre (own1 := [2]) (s_for (passes_of rfl) rfl (i_zip rfl tx.m_zip (a_cons (x_var (pv 1) (by decide)) (a_cons (x_var (pv 0) (by decide)) a_nil))) (g_tup rfl (gs_cons (g_name sc_counted_on.nd rfl (by first | exact Or.inl rfl | exact Or.inr rfl)) (gs_cons (g_name sc_counted_on.nd rfl (by first | exact Or.inl rfl | exact Or.inr rfl)) (gs_nil (is := []))))) (ss_kill (is := [4, 5]) (ss_cons (s_app (i := 2) rfl (by first | exact Or.inl rfl | exact Or.inr (Or.inl rfl) | exact Or.inr (Or.inr rfl)) (by decide) (x_bin op_mod bin_mod (x_bin op_addA bin_add (x_var (pv 4) (by decide)) (x_var (pv 3) (by decide))) (x_var (pv 5) (by decide)))) (ss_one (s_set (i := 3) sc_counted_on.nd rfl (by first | exact Or.inl rfl | exact Or.inr rfl) (x_bin op_fdiv bin_fdiv (x_bin op_addA bin_add (x_var (pv 4) (by decide)) (x_var (pv 3) (by decide))) (x_var (pv 5) (by decide))) (by decide)))) (by decide)) (by decide)) (by decide)) (by decide)) (ss_one (s_pre (own1 := []) (s_ret (x_ct call_tuple_of cl_tuple rfl tx.m_tuple (by decide +kernel) (a_cons (x_var (pv 2) (by decide)) a_nil))) (by decide)))))))
theorem ok_figures_of (tx : Tx K mg A) : Ok P w K mg base (TT K A) 4 A.f_figures_of 2 F_figures_of := by
  obtain ⟨fd, F, b⟩ := tx.f_figures_of
  refine ⟨fd, _, fn_mk (T := TT K A) (S := B_figures_of) (own := []) F sc_figures_of rfl rfl (fun cdv A' outer s H E Z hr => ?_), F.kp, b⟩
  have hu := hr.units
  exact (ss_cons (s_expr (x_callO (ok_check_bases tx) rfl (hr.mono (by decide)) rfl tx.g_check_bases (takes_of rfl rfl rfl rfl) (a_cons (x_var (pv 0) (by decide)) a_nil) (al_cons al_nil))) (ss_cons (s_if (xt_not (xt_val (x_callO (ok_is_integer tx) rfl (hr.mono (by decide)) rfl tx.g_is_integer (takes_of rfl rfl rfl rfl) (a_cons (x_var (pv 1) (by decide)) a_nil) (al_cons al_nil)))) (ss_one (s_raise rfl (takes_of rfl rfl rfl rfl) (pmk_own PySem.F.excBase_ValueError tx.x_Malformed tx.g_Malformed tx.k_Malformed (raises_own tx.b_Malformed tx.y_Malformed) rfl) (fun _ _ _ q => q) rfl)) ss_nil) (ss_cons (s_setF (i := 2) sc_figures_of.nd rfl (by first | exact Or.inl rfl | exact Or.inr rfl) (f_lst a_nil) isLst_xLst (by decide)) (ss_cons (s_kill (is := [1, 3]) (s_pre (own1 := [2]) (s_for (passes_of rfl) rfl (i_seq (x_var (pv 0) (by decide))) (g_name sc_figures_of.nd rfl (by first | exact Or.inl rfl | exact Or.inr rfl)) (ss_kill (is := [3]) (ss_cons (s_app (i := 2) rfl (by first | exact Or.inl rfl | exact Or.inr (Or.inl rfl) | exact Or.inr (Or.inr rfl)) (by decide) (x_bin op_mod bin_mod (x_var (pv 1) (by decide)) (x_var (pv 3) (by decide)))) (ss_one (s_set (i := 1) sc_figures_of.nd rfl (by first | exact Or.inl rfl | exact Or.inr rfl) (x_bin op_fdiv bin_fdiv (x_var (pv 1) (by decide)) (x_var (pv 3) (by decide))) (by decide)))) (by decide)) (by decide)) (by decide)) (by decide)) (ss_one (s_pre (own1 := []) (s_ret (x_ct call_tuple_of cl_tuple rfl tx.m_tuple (by decide +kernel) (a_cons (x_var (pv 2) (by decide)) a_nil))) (by decide)))))))
theorem ok_number_of (tx : Tx K mg A) : Ok P w K mg base (TT K A) 4 A.f_number_of 2 F_number_of := by
  obtain ⟨fd, F, b⟩ := tx.f_number_of
  refine ⟨fd, _, fn_mk (T := TT K A) (S := B_number_of) (own := []) F sc_number_of rfl rfl (fun cdv A' outer s H E Z hr => ?_), F.kp, b⟩
  have hu := hr.units
  exact (ss_cons (s_expr (x_callO (ok_check_bases tx) rfl (hr.mono (by decide)) rfl tx.g_check_bases (takes_of rfl rfl rfl rfl) (a_cons (x_var (pv 0) (by decide)) a_nil) (al_cons al_nil))) (ss_cons (s_if (xt_not (xt_val (x_callO (ok_is_figures tx) rfl (hr.mono (by decide)) rfl tx.g_is_figures (takes_of rfl rfl rfl rfl) (a_cons (x_var (pv 0) (by decide)) (a_cons (x_var (pv 1) (by decide)) a_nil)) (al_cons (al_cons al_nil))))) (ss_one (s_raise rfl (takes_of rfl rfl rfl rfl) (pmk_own PySem.F.excBase_ValueError tx.x_Malformed tx.g_Malformed tx.k_Malformed (raises_own tx.b_Malformed tx.y_Malformed) rfl) (fun _ _ _ q => q) rfl)) ss_nil) (ss_cons (s_set (i := 2) sc_number_of.nd rfl (by first | exact Or.inl rfl | exact Or.inr rfl) x_int (by decide)) (ss_cons (s_kill (is := [3, 4]) (s_pre (own1 := []) (s_for (passes_of rfl) rfl (i_seq (XF.toE (f_revL (XF.toE (f_lzip rfl rfl tx.m_list rfl tx.m_zip (a_cons (x_var (pv 1) (by decide)) (a_cons (x_var (pv 0) (by decide)) a_nil))) isLst_lzip) isLst_lzip) (isLst_rev isLst_lzip))) (g_tup rfl (gs_cons (g_name sc_number_of.nd rfl (by first | exact Or.inl rfl | exact Or.inr rfl)) (gs_cons (g_name sc_number_of.nd rfl (by first | exact Or.inl rfl | exact Or.inr rfl)) (gs_nil (is := []))))) (ss_kill (is := [3, 4]) (ss_one (s_set (i := 2) sc_number_of.nd rfl (by first | exact Or.inl rfl | exact Or.inr rfl) (x_bin op_addA bin_add (x_bin op_mulA bin_mul (x_var (pv 2) (by decide)) (x_var (pv 4) (by decide))) (x_var (pv 3) (by decide))) (by decide))) (by decide)) (by decide)) (by decide)) (by decide)) (ss_one (s_ret (x_var (pv 2) (by decide))))))))
theorem ok_figure_sum (tx : Tx K mg A) : Ok P w K mg base (TT K A) 5 A.f_figure_sum 3 F_figure_sum := by
  obtain ⟨fd, F, b⟩ := tx.f_figure_sum
  refine ⟨fd, _, fn_mk (T := TT K A) (S := B_figure_sum) (own := []) F sc_figure_sum rfl rfl (fun cdv A' outer s H E Z hr => ?_), F.kp, b⟩
  have hu := hr.units
  exact (ss_one (s_ret (x_callO (ok_figures_of tx) rfl (hr.mono (by decide)) rfl tx.g_figures_of (takes_of rfl rfl rfl rfl) (a_cons (x_var (pv 0) (by decide)) (a_cons (x_bin op_addA bin_add (x_callO (ok_number_of tx) rfl (hr.mono (by decide)) rfl tx.g_number_of (takes_of rfl rfl rfl rfl) (a_cons (x_var (pv 0) (by decide)) (a_cons (x_var (pv 1) (by decide)) a_nil)) (al_cons (al_cons al_nil))) (x_callO (ok_number_of tx) rfl (hr.mono (by decide)) rfl tx.g_number_of (takes_of rfl rfl rfl rfl) (a_cons (x_var (pv 0) (by decide)) (a_cons (x_var (pv 2) (by decide)) a_nil)) (al_cons (al_cons al_nil)))) a_nil)) (al_cons (al_cons al_nil)))))
theorem ok_carry_row (tx : Tx K mg A) : Ok P w K mg base (TT K A) 5 A.f_carry_row 2 F_carry_row := by
  obtain ⟨fd, F, b⟩ := tx.f_carry_row
  refine ⟨fd, _, fn_mk (T := TT K A) (S := B_carry_row) (own := []) F sc_carry_row rfl rfl (fun cdv A' outer s H E Z hr => ?_), F.kp, b⟩
  have hu := hr.units
  exact (ss_cons (s_expr (x_callO (ok_check_bases tx) rfl (hr.mono (by decide)) rfl tx.g_check_bases (takes_of rfl rfl rfl rfl) (a_cons (x_var (pv 0) (by decide)) a_nil) (al_cons al_nil))) (ss_cons (s_expr (x_callO (ok_check_from tx) rfl (hr.mono (by decide)) rfl tx.g_check_from (takes_of rfl rfl rfl rfl) (a_cons (x_var (pv 1) (by decide)) (a_cons x_int (a_cons x_int a_nil))) (al_cons (al_cons (al_cons al_nil))))) (ss_cons (s_parG (i := 3) (j := 4) rfl sc_carry_row.nd rfl rfl (by decide) rfl rfl (x_bin op_mulA bin_mul (x_tup (a_cons x_int a_nil)) (x_cb call_len cl_len rfl tx.m_len PySem.boot_len (a_cons (x_var (pv 0) (by decide)) a_nil))) (f_lst a_nil) isLst_xLst rfl (by decide) (by decide)) (ss_cons (s_kill (is := [2, 3, 5]) (s_pre (own1 := [4]) (s_for (passes_of rfl) rfl (i_rng1 rfl tx.m_range (a_cons (x_var (pv 1) (by decide)) a_nil)) (g_name sc_carry_row.nd rfl (by first | exact Or.inl rfl | exact Or.inr rfl)) (ss_kill (is := [2, 5]) (ss_cons (s_set (i := 5) sc_carry_row.nd rfl (by first | exact Or.inl rfl | exact Or.inr rfl) (x_callO (ok_counted_on tx) rfl (hr.mono (by decide)) rfl tx.g_counted_on (takes_of rfl rfl rfl rfl) (a_cons (x_var (pv 0) (by decide)) (a_cons (x_var (pv 3) (by decide)) a_nil)) (al_cons (al_cons al_nil))) (by decide)) (ss_cons (s_app (i := 4) rfl (by first | exact Or.inl rfl | exact Or.inr (Or.inl rfl) | exact Or.inr (Or.inr rfl)) (by decide) (x_cb call_len cl_len rfl tx.m_len PySem.boot_len (a_cons (XF.toE (f_lc (ownN := [("a", 6), ("b", 7)]) rfl sc_carry_row.nd (i_zip rfl tx.m_zip (a_cons (x_var (pv 3) (by decide)) (a_cons (x_var (pv 5) (by decide)) a_nil))) (blkOk_by (by first | (show blkC ["bases", "count", "_", "own", "found", "later", "a", "b"] (defScope s_carry_row) _ _ = true; decide +kernel) | exact rfl)) (fun _ _ _ _ _ => (g_tup rfl (gs_cons (g_name sc_carry_row.nd rfl (by first | exact Or.inl rfl | exact Or.inr rfl)) (gs_cons (g_name sc_carry_row.nd rfl (by first | exact Or.inl rfl | exact Or.inr rfl)) (gs_nil (is := [])))))) (fun _ _ _ _ _ => (ts_one (xt_cmp (op_neD hu) bin_ne (nomark _) (x_var (pv 6) (by decide)) (x_var (pv 7) (by decide))))) (fun _ _ _ _ _ => x_int) (by decide) (by decide)) isLst_xLc) a_nil))) (ss_one (s_set (i := 3) sc_carry_row.nd rfl (by first | exact Or.inl rfl | exact Or.inr rfl) (x_var (pv 5) (by decide)) (by decide))))) (by decide)) (by decide)) (by decide)) (by decide)) (ss_one (s_pre (own1 := []) (s_ret (x_ct call_tuple_of cl_tuple rfl tx.m_tuple (by decide +kernel) (a_cons (x_var (pv 4) (by decide)) a_nil))) (by decide)))))))
theorem ok_law_is_whole (tx : Tx K mg A) : Ok P w K mg base (TT K A) 1 A.f_law_is_whole 1 F_law_is_whole := by
  obtain ⟨fd, F, b⟩ := tx.f_law_is_whole
  refine ⟨fd, _, fn_mk (T := TT K A) (S := B_law_is_whole) (own := []) F sc_law_is_whole rfl rfl (fun cdv A' outer s H E Z hr => ?_), F.kp, b⟩
  have hu := hr.units
  exact (ss_one (s_ret (x_and (x_isi .int rfl tx.m_isinstance (by decide +kernel) rfl tx.m_int (by decide +kernel) (x_var (pv 0) (by decide))) (x_one (x_not (x_isi .bool rfl tx.m_isinstance (by decide +kernel) rfl tx.m_bool (by decide +kernel) (x_var (pv 0) (by decide))))))))
theorem or_law_same (tx : Tx K mg A) : ∀ n : Nat, Ok P w K mg base (TT K A) (2 + n) A.f_law_same 2 (R_law_same n)
  | 0 => by
    obtain ⟨fd, F, b⟩ := tx.f_law_same
    exact ok_bad (T := TT K A) F b sc_law_same
  | n + 1 => by
    obtain ⟨fd, F, b⟩ := tx.f_law_same
    have oSelf := or_law_same tx n
    refine ⟨fd, _, fn_mk (T := TT K A) (S := B_law_same (R_law_same n)) (own := []) F sc_law_same rfl rfl (fun cdv A' outer s H E Z hr => ?_), F.kp, b⟩
    have hu := hr.units
    have hr0 := hr.mono (Nat.le_add_right 2 n)
    exact (ss_cons (s_if (xt_val (x_isi .bool rfl tx.m_isinstance (by decide +kernel) rfl tx.m_bool (by decide +kernel) (x_var (pv 1) (by decide)))) (ss_one (s_ret (x_and (x_isi .bool rfl tx.m_isinstance (by decide +kernel) rfl tx.m_bool (by decide +kernel) (x_var (pv 0) (by decide))) (x_one (x_cmp (op_eqD hu) bin_eq (nomark _) (x_var (pv 0) (by decide)) (x_var (pv 1) (by decide))))))) ss_nil) (ss_cons (s_if (xt_val (x_isi .tuple rfl tx.m_isinstance (by decide +kernel) rfl tx.m_tuple (by decide +kernel) (x_var (pv 1) (by decide)))) (ss_one (s_ret (x_and (x_isi .tuple rfl tx.m_isinstance (by decide +kernel) rfl tx.m_tuple (by decide +kernel) (x_var (pv 0) (by decide))) (x_and (x_cmp (op_eqD hu) bin_eq (nomark _) (x_cb call_len cl_len rfl tx.m_len PySem.boot_len (a_cons (x_var (pv 0) (by decide)) a_nil)) (x_cb call_len cl_len rfl tx.m_len PySem.boot_len (a_cons (x_var (pv 1) (by decide)) a_nil))) (x_one (x_cb (cr_all rfl) cl_all rfl tx.m_all (by decide +kernel) (a_cons (XF.toE (f_lc (ownN := [("k", 2)]) rfl sc_law_same.nd (i_rng1 rfl tx.m_range (a_cons (x_cb call_len cl_len rfl tx.m_len PySem.boot_len (a_cons (x_var (pv 1) (by decide)) a_nil)) a_nil)) (blkOk_by (by first | (show blkC ["one", "two", "k"] (defScope s_law_same) _ _ = true; decide +kernel) | exact rfl)) (fun _ _ _ _ _ => (g_name sc_law_same.nd rfl (by first | exact Or.inl rfl | exact Or.inr rfl))) (fun _ _ _ _ _ => ts_nil) (fun _ _ _ _ _ => (x_callO oSelf rfl hr rfl tx.g_law_same takes_none5 (a_cons (x_ix (x_var (pv 0) (by decide)) (x_var (pv 2) (by decide))) (a_cons (x_ix (x_var (pv 1) (by decide)) (x_var (pv 2) (by decide))) a_nil)) (al_cons (al_cons al_nil)))) (by decide) (by decide)) isLst_xLc) a_nil))))))) ss_nil) (ss_cons (s_if (xt_val (x_isi .list rfl tx.m_isinstance (by decide +kernel) rfl tx.m_list (by decide +kernel) (x_var (pv 1) (by decide)))) (ss_one (s_ret (x_and (x_isi .list rfl tx.m_isinstance (by decide +kernel) rfl tx.m_list (by decide +kernel) (x_var (pv 0) (by decide))) (x_one (x_callO oSelf rfl hr rfl tx.g_law_same (takes_of rfl rfl rfl rfl) (a_cons (x_ct call_tuple_of cl_tuple rfl tx.m_tuple (by decide +kernel) (a_cons (x_var (pv 0) (by decide)) a_nil)) (a_cons (x_ct call_tuple_of cl_tuple rfl tx.m_tuple (by decide +kernel) (a_cons (x_var (pv 1) (by decide)) a_nil)) a_nil)) (al_cons (al_cons al_nil))))))) ss_nil) (ss_cons (s_if (xt_val (x_isi .str rfl tx.m_isinstance (by decide +kernel) rfl tx.m_str (by decide +kernel) (x_var (pv 1) (by decide)))) (ss_one (s_ret (x_and (x_isi .str rfl tx.m_isinstance (by decide +kernel) rfl tx.m_str (by decide +kernel) (x_var (pv 0) (by decide))) (x_one (x_cmp (op_eqD hu) bin_eq (nomark _) (x_var (pv 0) (by decide)) (x_var (pv 1) (by decide))))))) ss_nil) (ss_cons (s_if (xt_isN (x_var (pv 1) (by decide))) (ss_one (s_ret (x_isN (x_var (pv 0) (by decide))))) ss_nil) (ss_one (s_ret (x_and (x_callO (ok_law_is_whole tx) rfl (hr0.mono (by decide)) rfl tx.g_law_is_whole (takes_of rfl rfl rfl rfl) (a_cons (x_var (pv 0) (by decide)) a_nil) (al_cons al_nil)) (x_one (x_cmp (op_eqD hu) bin_eq (nomark _) (x_var (pv 0) (by decide)) (x_var (pv 1) (by decide))))))))))))
theorem ok_law_same (tx : Tx K mg A) : Ok P w K mg base (TT K A) 18 A.f_law_same 2 F_law_same := or_law_same tx 16
theorem ok_law_says (tx : Tx K mg A) : Ok P w K mg base (TT K A) 1 A.f_law_says 2 F_law_says := by
  obtain ⟨fd, F, b⟩ := tx.f_law_says
  refine ⟨fd, _, fn_mk (T := TT K A) (S := B_law_says) (own := []) F sc_law_says rfl rfl (fun cdv A' outer s H E Z hr => ?_), F.kp, b⟩
  have hu := hr.units
  exact (ss_one (s_ret (x_and (x_isi .bool rfl tx.m_isinstance (by decide +kernel) rfl tx.m_bool (by decide +kernel) (x_var (pv 0) (by decide))) (x_one (x_cmp (op_eqD hu) bin_eq (nomark _) (x_var (pv 0) (by decide)) (x_var (pv 1) (by decide)))))))
theorem tb_1 (tx : Tx K mg A) : Tbl P w K mg base (TT K A) 5 1 tbl_1 := tbl_of fun n fA e => match n, e with
  | 0, e => .inr fun _ _ _ => rfl
  | 1, e => .inr fun _ _ _ => rfl
  | 2, e => .inr fun _ _ _ => rfl
  | 3, e => .inr fun _ _ _ => rfl
  | 4, e => .inr fun _ _ _ => rfl
  | k + 5, e => by cases e
theorem tb_2 (tx : Tx K mg A) : Tbl P w K mg base (TT K A) 5 2 tbl_2 := tbl_of fun n fA e => match n, e with
  | 0, e => by cases e; exact .inl ((ok_figures_of tx).mono (by decide))
  | 1, e => by cases e; exact .inl ((ok_counted_on tx).mono (by decide))
  | 2, e => by cases e; exact .inl ((ok_number_of tx).mono (by decide))
  | 3, e => .inr fun _ _ _ => rfl
  | 4, e => by cases e; exact .inl ((ok_carry_row tx).mono (by decide))
  | k + 5, e => by cases e
theorem tb_3 (tx : Tx K mg A) : Tbl P w K mg base (TT K A) 5 3 tbl_3 := tbl_of fun n fA e => match n, e with
  | 0, e => .inr fun _ _ _ => rfl
  | 1, e => .inr fun _ _ _ => rfl
  | 2, e => .inr fun _ _ _ => rfl
  | 3, e => by cases e; exact .inl ((ok_figure_sum tx).mono (by decide))
  | 4, e => .inr fun _ _ _ => rfl
  | k + 5, e => by cases e
theorem tb_4 (tx : Tx K mg A) : Tbl P w K mg base (TT K A) 5 4 tbl_4 := tbl_of fun n fA e => match n, e with
  | 0, e => .inr fun _ _ _ => rfl
  | 1, e => .inr fun _ _ _ => rfl
  | 2, e => .inr fun _ _ _ => rfl
  | 3, e => .inr fun _ _ _ => rfl
  | 4, e => .inr fun _ _ _ => rfl
  | k + 5, e => by cases e
theorem ok_law_told (tx : Tx K mg A) : Ok P w K mg base (TT K A) 6 A.f_law_told 2 F_law_told := by
  obtain ⟨fd, F, b⟩ := tx.f_law_told
  refine ⟨fd, _, fn_mk (T := TT K A) (S := B_law_told) (own := []) F sc_law_told rfl rfl (fun cdv A' outer s H E Z hr => ?_), F.kp, b⟩
  have hu := hr.units
  exact (ss_one (s_try rfl rfl (takes_of rfl rfl rfl rfl) (fun W' pn' xe' tk' hp' => (ss_cons (s_if (xt_cmp (op_eqD hu) bin_eq (nomark _) (x_cb call_len cl_len rfl tx.m_len PySem.boot_len (a_cons (x_var (pv 1) (by decide)) a_nil)) x_int) (ss_one (s_ret (x_tup (a_cons (x_str [116, 111, 108, 100]) (a_cons (x_callV (tb_1 tx) (hr.mono (by decide)) rfl (by first | exact Or.inl rfl | exact Or.inr (Or.inl rfl) | exact Or.inr (Or.inr rfl)) (by decide) tk' (a_cons (x_ix (x_var (pv 1) (by decide)) x_int) a_nil) (al_cons al_nil) (nx_ix nx_nil)) a_nil))))) ss_nil) (ss_cons (s_if (xt_cmp (op_eqD hu) bin_eq (nomark _) (x_cb call_len cl_len rfl tx.m_len PySem.boot_len (a_cons (x_var (pv 1) (by decide)) a_nil)) x_int) (ss_one (s_ret (x_tup (a_cons (x_str [116, 111, 108, 100]) (a_cons (x_callV (tb_2 tx) (hr.mono (by decide)) rfl (by first | exact Or.inl rfl | exact Or.inr (Or.inl rfl) | exact Or.inr (Or.inr rfl)) (by decide) tk' (a_cons (x_ix (x_var (pv 1) (by decide)) x_int) (a_cons (x_ix (x_var (pv 1) (by decide)) x_int) a_nil)) (al_cons (al_cons al_nil)) (nx_ix (nx_ix nx_nil))) a_nil))))) ss_nil) (ss_cons (s_if (xt_cmp (op_eqD hu) bin_eq (nomark _) (x_cb call_len cl_len rfl tx.m_len PySem.boot_len (a_cons (x_var (pv 1) (by decide)) a_nil)) x_int) (ss_one (s_ret (x_tup (a_cons (x_str [116, 111, 108, 100]) (a_cons (x_callV (tb_3 tx) (hr.mono (by decide)) rfl (by first | exact Or.inl rfl | exact Or.inr (Or.inl rfl) | exact Or.inr (Or.inr rfl)) (by decide) tk' (a_cons (x_ix (x_var (pv 1) (by decide)) x_int) (a_cons (x_ix (x_var (pv 1) (by decide)) x_int) (a_cons (x_ix (x_var (pv 1) (by decide)) x_int) a_nil))) (al_cons (al_cons (al_cons al_nil))) (nx_ix (nx_ix (nx_ix nx_nil)))) a_nil))))) ss_nil) (ss_one (s_ret (x_tup (a_cons (x_str [116, 111, 108, 100]) (a_cons (x_callV (tb_4 tx) (hr.mono (by decide)) rfl (by first | exact Or.inl rfl | exact Or.inr (Or.inl rfl) | exact Or.inr (Or.inr rfl)) (by decide) tk' (a_cons (x_ix (x_var (pv 1) (by decide)) x_int) (a_cons (x_ix (x_var (pv 1) (by decide)) x_int) (a_cons (x_ix (x_var (pv 1) (by decide)) x_int) (a_cons (x_ix (x_var (pv 1) (by decide)) x_int) a_nil)))) (al_cons (al_cons (al_cons (al_cons al_nil)))) (nx_ix (nx_ix (nx_ix (nx_ix nx_nil))))) a_nil))))))))) (.bare (x := "Malformed") ⟨rfl, by decide, .inl tx.g_Malformed⟩ (tx.m_Malformed) (fun _ _ _ _ _ _ _ => (ss_one (s_ret (x_tup (a_cons (x_str [109, 97, 108, 102, 111, 114, 109, 101, 100]) (a_cons x_non a_nil)))))) (.named (x := "Refused") ⟨rfl, by decide, .inl tx.g_Refused⟩ (tx.m_Refused) sc_law_told.nd rfl rfl (fun _ _ _ _ _ _ _ => ss_never) .nil)) rfl))
theorem ok_law_figures (tx : Tx K mg A) : Ok P w K mg base (TT K A) 1 A.f_law_figures 2 F_law_figures := by
  obtain ⟨fd, F, b⟩ := tx.f_law_figures
  refine ⟨fd, _, fn_mk (T := TT K A) (S := B_law_figures) (own := []) F sc_law_figures rfl rfl (fun cdv A' outer s H E Z hr => ?_), F.kp, b⟩
  have hu := hr.units
  exact (ss_cons (s_setF (i := 2) sc_law_figures.nd rfl (by first | exact Or.inl rfl | exact Or.inr rfl) (f_lst a_nil) isLst_xLst (by decide)) (ss_cons (s_kill (is := [1, 3]) (s_pre (own1 := [2]) (s_for (passes_of rfl) rfl (i_seq (x_var (pv 0) (by decide))) (g_name sc_law_figures.nd rfl (by first | exact Or.inl rfl | exact Or.inr rfl)) (ss_kill (is := [3]) (ss_cons (s_app (i := 2) rfl (by first | exact Or.inl rfl | exact Or.inr (Or.inl rfl) | exact Or.inr (Or.inr rfl)) (by decide) (x_bin op_mod bin_mod (x_ct call_int1 cl_int rfl tx.m_int (by decide +kernel) (a_cons (x_var (pv 1) (by decide)) a_nil)) (x_var (pv 3) (by decide)))) (ss_one (s_set (i := 1) sc_law_figures.nd rfl (by first | exact Or.inl rfl | exact Or.inr rfl) (x_bin op_fdiv bin_fdiv (x_var (pv 1) (by decide)) (x_var (pv 3) (by decide))) (by decide)))) (by decide)) (by decide)) (by decide)) (by decide)) (ss_one (s_pre (own1 := []) (s_ret (x_ct call_tuple_of cl_tuple rfl tx.m_tuple (by decide +kernel) (a_cons (x_var (pv 2) (by decide)) a_nil))) (by decide)))))
theorem ok_law_number (tx : Tx K mg A) : Ok P w K mg base (TT K A) 1 A.f_law_number 2 F_law_number := by
  obtain ⟨fd, F, b⟩ := tx.f_law_number
  refine ⟨fd, _, fn_mk (T := TT K A) (S := B_law_number) (own := []) F sc_law_number rfl rfl (fun cdv A' outer s H E Z hr => ?_), F.kp, b⟩
  have hu := hr.units
  exact (ss_cons (s_asg (g_tup rfl (gs_cons (g_name sc_law_number.nd rfl (by first | exact Or.inl rfl | exact Or.inr rfl)) (gs_cons (g_name sc_law_number.nd rfl (by first | exact Or.inl rfl | exact Or.inr rfl)) (gs_nil (is := []))))) (x_tup (a_cons x_int (a_cons x_int a_nil))) (by decide)) (ss_cons (s_kill (is := [3, 4, 5]) (s_pre (own1 := []) (s_for (passes_of rfl) rfl (i_zip rfl tx.m_zip (a_cons (x_var (pv 1) (by decide)) (a_cons (x_var (pv 0) (by decide)) a_nil))) (g_tup rfl (gs_cons (g_name sc_law_number.nd rfl (by first | exact Or.inl rfl | exact Or.inr rfl)) (gs_cons (g_name sc_law_number.nd rfl (by first | exact Or.inl rfl | exact Or.inr rfl)) (gs_nil (is := []))))) (ss_kill (is := [4, 5]) (ss_one (s_par (i := 2) (j := 3) rfl sc_law_number.nd rfl rfl (by decide) rfl rfl (a_cons (x_bin op_addA bin_add (x_var (pv 2) (by decide)) (x_bin op_mulA bin_mul (x_var (pv 4) (by decide)) (x_var (pv 3) (by decide)))) (a_cons (x_bin op_mulA bin_mul (x_var (pv 3) (by decide)) (x_var (pv 5) (by decide))) a_nil)) rfl (by decide) (by decide))) (by decide)) (by decide)) (by decide)) (by decide)) (ss_one (s_ret (x_var (pv 2) (by decide))))))
theorem ok_law (tx : Tx K mg A) {fd : FuncData} (F : Fun K "law" "law" s_law A.f_law fd) (hS : ∀ (a : Nat) (g : G), g.on = true → g.at_ = a → GOk g → ∃ g', B_law ([none, some (.gen a)] ++ List.replicate 25 none) g = .rt (.bl true) g') : FnOk P w K mg base (L2.CX P w) 19 A.f_law fd ["script"] (spLaw K) := by
  obtain ⟨fdS, FS, kS, bS⟩ := ok_law_state (P := P) (w := w) (base := base) tx
  refine law_mk (T := TT K A) (S := B_law) (own := []) F sc_law rfl (FS.mono (by decide)) kS bS tx.g_law_state rfl rfl (by first | exact Or.inl rfl | exact Or.inr (Or.inl rfl) | exact Or.inr (Or.inr rfl)) (by first | exact Or.inl rfl | exact Or.inr rfl) (fun _ _ _ _ _ _ => rfl) (fun _ _ _ _ _ _ => by first | exact Or.inl rfl | exact Or.inr rfl) (fun cdv A' outer s H E Z hr => ?_) hS
  have hu := hr.units
  exact (ss_cons (s_set (i := 2) sc_law.nd rfl (by first | exact Or.inl rfl | exact Or.inr rfl) (x_ct call_tuple_of cl_tuple rfl tx.m_tuple (by decide +kernel) (a_cons (XF.toE (f_lc (ownN := [("t", 9)]) rfl sc_law.nd (i_rng1 rfl tx.m_range (a_cons (x_bin op_addA bin_add x_int (x_callO (ok_law_take tx) rfl (hr.mono (by decide)) rfl tx.g_law_take (takes_of rfl rfl rfl rfl) (a_cons (x_var (pv 1) (by decide)) (a_cons x_int a_nil)) (al_cons (al_cons al_nil)))) a_nil)) (blkOk_by (by first | (show blkC ["script", "state", "bases", "size", "b", "n", "zero", "first", "count", "t", "bads", "wild", "tried", "one", "two", "a", "now", "due", "later", "row", "x", "total", "share", "bad", "act", "given", "y"] (defScope s_law) _ _ = true; decide +kernel) | exact rfl)) (fun _ _ _ _ _ => (g_name sc_law.nd rfl (by first | exact Or.inl rfl | exact Or.inr rfl))) (fun _ _ _ _ _ => ts_nil) (fun _ _ _ _ _ => (x_bin op_addA bin_add x_int (x_callO (ok_law_take tx) rfl (hr.mono (by decide)) rfl tx.g_law_take takes_none5 (a_cons (x_var (pv 1) (by decide)) (a_cons x_int a_nil)) (al_cons (al_cons al_nil))))) (by decide) (by decide)) isLst_xLc) a_nil)) (by decide)) (ss_cons (s_set (i := 3) sc_law.nd rfl (by first | exact Or.inl rfl | exact Or.inr rfl) x_int (by decide)) (ss_cons (s_pre (own1 := []) (s_for (passes_of rfl) rfl (i_seq (x_var (pv 2) (by decide))) (g_name sc_law.nd rfl (by first | exact Or.inl rfl | exact Or.inr rfl)) (ss_one (s_set (i := 3) sc_law.nd rfl (by first | exact Or.inl rfl | exact Or.inr rfl) (x_bin op_mulA bin_mul (x_var (pv 3) (by decide)) (x_var (pv 4) (by decide))) (by decide))) (by decide)) (by decide)) (ss_cons (s_asg (g_tup rfl (gs_cons (g_name sc_law.nd rfl (by first | exact Or.inl rfl | exact Or.inr rfl)) (gs_cons (g_name sc_law.nd rfl (by first | exact Or.inl rfl | exact Or.inr rfl)) (gs_nil (is := []))))) (XF.toE (f_lc (ownN := [("t", 9)]) rfl sc_law.nd (i_rng1 rfl tx.m_range (a_cons x_int a_nil)) (blkOk_by (by first | (show blkC ["script", "state", "bases", "size", "b", "n", "zero", "first", "count", "t", "bads", "wild", "tried", "one", "two", "a", "now", "due", "later", "row", "x", "total", "share", "bad", "act", "given", "y"] (defScope s_law) _ _ = true; decide +kernel) | exact rfl)) (fun _ _ _ _ _ => (g_name sc_law.nd rfl (by first | exact Or.inl rfl | exact Or.inr rfl))) (fun _ _ _ _ _ => ts_nil) (fun _ _ _ _ _ => (x_ct call_tuple_of cl_tuple rfl tx.m_tuple (by decide +kernel) (a_cons (XF.toE (f_lc (ownN := [("b", 4)]) rfl sc_law.nd (i_seq (x_var (pv 2) (by decide))) (blkOk_by (by first | (show blkC ["script", "state", "bases", "size", "b", "n", "zero", "first", "count", "t", "bads", "wild", "tried", "one", "two", "a", "now", "due", "later", "row", "x", "total", "share", "bad", "act", "given", "y"] (defScope s_law) _ _ = true; decide +kernel) | exact rfl)) (fun _ _ _ _ _ => (g_name sc_law.nd rfl (by first | exact Or.inl rfl | exact Or.inr rfl))) (fun _ _ _ _ _ => ts_nil) (fun _ _ _ _ _ => (x_callO (ok_law_take tx) rfl (hr.mono (by decide)) rfl tx.g_law_take takes_none5 (a_cons (x_var (pv 1) (by decide)) (a_cons (x_var (pv 4) (by decide)) a_nil)) (al_cons (al_cons al_nil)))) (by decide) (by decide)) isLst_xLc) a_nil))) (by decide) (by decide)) isLst_xLc) (by decide)) (ss_cons (s_if (XW.t (xw_or (xt_not (xt_val (x_callO (ok_law_says tx) rfl (hr.mono (by decide)) rfl tx.g_law_says (takes_of rfl rfl rfl rfl) (a_cons (x_callO (ok_is_bases tx) rfl (hr.mono (by decide)) rfl tx.g_is_bases (takes_of rfl rfl rfl rfl) (a_cons (x_var (pv 2) (by decide)) a_nil) (al_cons al_nil)) (a_cons x_bl a_nil)) (al_cons (al_cons al_nil))))) (xw_or1 (xt_not (xt_val (x_callO (ok_law_says tx) rfl (hr.mono (by decide)) rfl tx.g_law_says (takes_of rfl rfl rfl rfl) (a_cons (x_callO (ok_is_figures tx) rfl (hr.mono (by decide)) rfl tx.g_is_figures (takes_of rfl rfl rfl rfl) (a_cons (x_var (pv 2) (by decide)) (a_cons (x_var (pv 13) (by decide)) a_nil)) (al_cons (al_cons al_nil))) (a_cons x_bl a_nil)) (al_cons (al_cons al_nil)))))))) (ss_one (s_ret x_bl)) ss_nil) (ss_cons (s_set (i := 5) sc_law.nd rfl (by first | exact Or.inl rfl | exact Or.inr rfl) (x_bin op_sub bin_sub (x_callO (ok_law_take tx) rfl (hr.mono (by decide)) rfl tx.g_law_take (takes_of rfl rfl rfl rfl) (a_cons (x_var (pv 1) (by decide)) (a_cons x_int a_nil)) (al_cons (al_cons al_nil))) x_int) (by decide)) (ss_cons (s_if (XW.t (xw_or (xt_not (xt_val (x_callO (ok_law_same tx) rfl (hr.mono (by decide)) rfl tx.g_law_same (takes_of rfl rfl rfl rfl) (a_cons (x_callO (ok_figures_of tx) rfl (hr.mono (by decide)) rfl tx.g_figures_of (takes_of rfl rfl rfl rfl) (a_cons (x_var (pv 2) (by decide)) (a_cons (x_var (pv 5) (by decide)) a_nil)) (al_cons (al_cons al_nil))) (a_cons (x_callO (ok_law_figures tx) rfl (hr.mono (by decide)) rfl tx.g_law_figures (takes_of rfl rfl rfl rfl) (a_cons (x_var (pv 2) (by decide)) (a_cons (x_var (pv 5) (by decide)) a_nil)) (al_cons (al_cons al_nil))) a_nil)) (al_cons (al_cons al_nil))))) (xw_or (xt_not (xt_val (x_callO (ok_law_same tx) rfl (hr.mono (by decide)) rfl tx.g_law_same (takes_of rfl rfl rfl rfl) (a_cons (x_callO (ok_number_of tx) rfl (hr.mono (by decide)) rfl tx.g_number_of (takes_of rfl rfl rfl rfl) (a_cons (x_var (pv 2) (by decide)) (a_cons (x_var (pv 13) (by decide)) a_nil)) (al_cons (al_cons al_nil))) (a_cons (x_callO (ok_law_number tx) rfl (hr.mono (by decide)) rfl tx.g_law_number (takes_of rfl rfl rfl rfl) (a_cons (x_var (pv 2) (by decide)) (a_cons (x_var (pv 13) (by decide)) a_nil)) (al_cons (al_cons al_nil))) a_nil)) (al_cons (al_cons al_nil))))) (xw_or1 (xt_cmp (op_neD hu) bin_ne (nomark _) (x_callO (ok_number_of tx) rfl (hr.mono (by decide)) rfl tx.g_number_of (takes_of rfl rfl rfl rfl) (a_cons (x_var (pv 2) (by decide)) (a_cons (x_callO (ok_figures_of tx) rfl (hr.mono (by decide)) rfl tx.g_figures_of (takes_of rfl rfl rfl rfl) (a_cons (x_var (pv 2) (by decide)) (a_cons (x_var (pv 5) (by decide)) a_nil)) (al_cons (al_cons al_nil))) a_nil)) (al_cons (al_cons al_nil))) (x_bin op_mod bin_mod (x_ct call_int1 cl_int rfl tx.m_int (by decide +kernel) (a_cons (x_var (pv 5) (by decide)) a_nil)) (x_var (pv 3) (by decide)))))))) (ss_one (s_ret x_bl)) ss_nil) (ss_cons (s_if (xt_not (xt_val (x_callO (ok_law_same tx) rfl (hr.mono (by decide)) rfl tx.g_law_same (takes_of rfl rfl rfl rfl) (a_cons (x_callO (ok_figures_of tx) rfl (hr.mono (by decide)) rfl tx.g_figures_of (takes_of rfl rfl rfl rfl) (a_cons (x_var (pv 2) (by decide)) (a_cons (x_callO (ok_number_of tx) rfl (hr.mono (by decide)) rfl tx.g_number_of (takes_of rfl rfl rfl rfl) (a_cons (x_var (pv 2) (by decide)) (a_cons (x_var (pv 14) (by decide)) a_nil)) (al_cons (al_cons al_nil))) a_nil)) (al_cons (al_cons al_nil))) (a_cons (x_var (pv 14) (by decide)) a_nil)) (al_cons (al_cons al_nil))))) (ss_one (s_ret x_bl)) ss_nil) (ss_cons (s_par (i := 15) (j := 4) rfl sc_law.nd rfl rfl (by decide) rfl rfl (a_cons (x_callO (ok_law_number tx) rfl (hr.mono (by decide)) rfl tx.g_law_number (takes_of rfl rfl rfl rfl) (a_cons (x_var (pv 2) (by decide)) (a_cons (x_var (pv 13) (by decide)) a_nil)) (al_cons (al_cons al_nil))) (a_cons (x_callO (ok_law_number tx) rfl (hr.mono (by decide)) rfl tx.g_law_number (takes_of rfl rfl rfl rfl) (a_cons (x_var (pv 2) (by decide)) (a_cons (x_var (pv 14) (by decide)) a_nil)) (al_cons (al_cons al_nil))) a_nil)) rfl (by decide) (by decide)) (ss_cons (s_if (xt_not (xt_val (x_callO (ok_law_same tx) rfl (hr.mono (by decide)) rfl tx.g_law_same (takes_of rfl rfl rfl rfl) (a_cons (x_callO (ok_counted_on tx) rfl (hr.mono (by decide)) rfl tx.g_counted_on (takes_of rfl rfl rfl rfl) (a_cons (x_var (pv 2) (by decide)) (a_cons (x_var (pv 13) (by decide)) a_nil)) (al_cons (al_cons al_nil))) (a_cons (x_callO (ok_law_figures tx) rfl (hr.mono (by decide)) rfl tx.g_law_figures (takes_of rfl rfl rfl rfl) (a_cons (x_var (pv 2) (by decide)) (a_cons (x_bin op_addA bin_add (x_var (pv 15) (by decide)) x_int) a_nil)) (al_cons (al_cons al_nil))) a_nil)) (al_cons (al_cons al_nil))))) (ss_one (s_ret x_bl)) ss_nil) (ss_cons (s_if (XW.t (xw_or (xt_not (xt_val (x_callO (ok_law_same tx) rfl (hr.mono (by decide)) rfl tx.g_law_same (takes_of rfl rfl rfl rfl) (a_cons (x_callO (ok_figure_sum tx) rfl (hr.mono (by decide)) rfl tx.g_figure_sum (takes_of rfl rfl rfl rfl) (a_cons (x_var (pv 2) (by decide)) (a_cons (x_var (pv 13) (by decide)) (a_cons (x_var (pv 14) (by decide)) a_nil))) (al_cons (al_cons (al_cons al_nil)))) (a_cons (x_callO (ok_law_figures tx) rfl (hr.mono (by decide)) rfl tx.g_law_figures (takes_of rfl rfl rfl rfl) (a_cons (x_var (pv 2) (by decide)) (a_cons (x_bin op_addA bin_add (x_var (pv 15) (by decide)) (x_var (pv 4) (by decide))) a_nil)) (al_cons (al_cons al_nil))) a_nil)) (al_cons (al_cons al_nil))))) (xw_or1 (xt_cmp (op_neD hu) bin_ne (nomark _) (x_callO (ok_figure_sum tx) rfl (hr.mono (by decide)) rfl tx.g_figure_sum (takes_of rfl rfl rfl rfl) (a_cons (x_var (pv 2) (by decide)) (a_cons (x_var (pv 13) (by decide)) (a_cons (x_var (pv 14) (by decide)) a_nil))) (al_cons (al_cons (al_cons al_nil)))) (x_callO (ok_figure_sum tx) rfl (hr.mono (by decide)) rfl tx.g_figure_sum (takes_of rfl rfl rfl rfl) (a_cons (x_var (pv 2) (by decide)) (a_cons (x_var (pv 14) (by decide)) (a_cons (x_var (pv 13) (by decide)) a_nil))) (al_cons (al_cons (al_cons al_nil)))))))) (ss_one (s_ret x_bl)) ss_nil) (ss_cons (s_set (i := 6) sc_law.nd rfl (by first | exact Or.inl rfl | exact Or.inr rfl) (x_bin op_mulA bin_mul (x_tup (a_cons x_int a_nil)) (x_cb call_len cl_len rfl tx.m_len PySem.boot_len (a_cons (x_var (pv 2) (by decide)) a_nil))) (by decide)) (ss_cons (s_set (i := 7) sc_law.nd rfl (by first | exact Or.inl rfl | exact Or.inr rfl) (x_callO (ok_law_figures tx) rfl (hr.mono (by decide)) rfl tx.g_law_figures (takes_of rfl rfl rfl rfl) (a_cons (x_var (pv 2) (by decide)) (a_cons x_int a_nil)) (al_cons (al_cons al_nil))) (by decide)) (ss_cons (s_if (XW.t (xw_or (xt_cmp (op_neD hu) bin_ne (nomark _) (x_callO (ok_figure_sum tx) rfl (hr.mono (by decide)) rfl tx.g_figure_sum (takes_of rfl rfl rfl rfl) (a_cons (x_var (pv 2) (by decide)) (a_cons (x_var (pv 13) (by decide)) (a_cons (x_var (pv 7) (by decide)) a_nil))) (al_cons (al_cons (al_cons al_nil)))) (x_callO (ok_counted_on tx) rfl (hr.mono (by decide)) rfl tx.g_counted_on (takes_of rfl rfl rfl rfl) (a_cons (x_var (pv 2) (by decide)) (a_cons (x_var (pv 13) (by decide)) a_nil)) (al_cons (al_cons al_nil)))) (xw_or (xt_cmp (op_neD hu) bin_ne (nomark _) (x_callO (ok_figure_sum tx) rfl (hr.mono (by decide)) rfl tx.g_figure_sum (takes_of rfl rfl rfl rfl) (a_cons (x_var (pv 2) (by decide)) (a_cons (x_var (pv 13) (by decide)) (a_cons (x_var (pv 6) (by decide)) a_nil))) (al_cons (al_cons (al_cons al_nil)))) (x_var (pv 13) (by decide))) (xw_or1 (xt_cmp (op_neD hu) bin_ne (nomark _) (x_callO (ok_figure_sum tx) rfl (hr.mono (by decide)) rfl tx.g_figure_sum (takes_of rfl rfl rfl rfl) (a_cons (x_var (pv 2) (by decide)) (a_cons (x_var (pv 13) (by decide)) (a_cons (x_callO (ok_figures_of tx) rfl (hr.mono (by decide)) rfl tx.g_figures_of (takes_of rfl rfl rfl rfl) (a_cons (x_var (pv 2) (by decide)) (a_cons (x_neg (x_var (pv 15) (by decide))) a_nil)) (al_cons (al_cons al_nil))) a_nil))) (al_cons (al_cons (al_cons al_nil)))) (x_var (pv 6) (by decide))))))) (ss_one (s_ret x_bl)) ss_nil) (ss_cons (s_if (xt_cmp (op_neD hu) bin_ne (nomark _) (x_callO (ok_counted_on tx) rfl (hr.mono (by decide)) rfl tx.g_counted_on (takes_of rfl rfl rfl rfl) (a_cons (x_var (pv 2) (by decide)) (a_cons (x_ct call_tuple_of cl_tuple rfl tx.m_tuple (by decide +kernel) (a_cons (XF.toE (f_lc (ownN := [("x", 20)]) rfl sc_law.nd (i_seq (x_var (pv 2) (by decide))) (blkOk_by (by first | (show blkC ["script", "state", "bases", "size", "b", "n", "zero", "first", "count", "t", "bads", "wild", "tried", "one", "two", "a", "now", "due", "later", "row", "x", "total", "share", "bad", "act", "given", "y"] (defScope s_law) _ _ = true; decide +kernel) | exact rfl)) (fun _ _ _ _ _ => (g_name sc_law.nd rfl (by first | exact Or.inl rfl | exact Or.inr rfl))) (fun _ _ _ _ _ => ts_nil) (fun _ _ _ _ _ => (x_bin op_sub bin_sub (x_var (pv 20) (by decide)) x_int)) (by decide) (by decide)) isLst_xLc) a_nil)) a_nil)) (al_cons (al_cons al_nil))) (x_var (pv 6) (by decide))) (ss_one (s_ret x_bl)) ss_nil) (ss_cons (s_set (i := 8) sc_law.nd rfl (by first | exact Or.inl rfl | exact Or.inr rfl) (x_bin op_addA bin_add x_int (x_callO (ok_law_take tx) rfl (hr.mono (by decide)) rfl tx.g_law_take (takes_of rfl rfl rfl rfl) (a_cons (x_var (pv 1) (by decide)) (a_cons x_int a_nil)) (al_cons (al_cons al_nil)))) (by decide)) (ss_cons (s_parG (i := 16) (j := 17) rfl sc_law.nd rfl rfl (by decide) rfl rfl (x_var (pv 6) (by decide)) (f_lst a_nil) isLst_xLst rfl (by decide) (by decide)) (ss_cons (s_kill (is := [9, 16, 18, 20]) (s_pre (own1 := [17]) (s_for (passes_of rfl) rfl (i_rng1 rfl tx.m_range (a_cons (x_var (pv 8) (by decide)) a_nil)) (g_name sc_law.nd rfl (by first | exact Or.inl rfl | exact Or.inr rfl)) (ss_kill (is := [9, 18]) (ss_cons (s_set (i := 18) sc_law.nd rfl (by first | exact Or.inl rfl | exact Or.inr rfl) (x_callO (ok_law_figures tx) rfl (hr.mono (by decide)) rfl tx.g_law_figures (takes_of rfl rfl rfl rfl) (a_cons (x_var (pv 2) (by decide)) (a_cons (x_bin op_addA bin_add (x_callO (ok_law_number tx) rfl (hr.mono (by decide)) rfl tx.g_law_number (takes_of rfl rfl rfl rfl) (a_cons (x_var (pv 2) (by decide)) (a_cons (x_var (pv 16) (by decide)) a_nil)) (al_cons (al_cons al_nil))) x_int) a_nil)) (al_cons (al_cons al_nil))) (by decide)) (ss_cons (s_app (i := 17) rfl (by first | exact Or.inl rfl | exact Or.inr (Or.inl rfl) | exact Or.inr (Or.inr rfl)) (by decide) (x_cb call_len cl_len rfl tx.m_len PySem.boot_len (a_cons (XF.toE (f_lc (ownN := [("x", 20), ("y", 26)]) rfl sc_law.nd (i_zip rfl tx.m_zip (a_cons (x_var (pv 16) (by decide)) (a_cons (x_var (pv 18) (by decide)) a_nil))) (blkOk_by (by first | (show blkC ["script", "state", "bases", "size", "b", "n", "zero", "first", "count", "t", "bads", "wild", "tried", "one", "two", "a", "now", "due", "later", "row", "x", "total", "share", "bad", "act", "given", "y"] (defScope s_law) _ _ = true; decide +kernel) | exact rfl)) (fun _ _ _ _ _ => (g_tup rfl (gs_cons (g_name sc_law.nd rfl (by first | exact Or.inl rfl | exact Or.inr rfl)) (gs_cons (g_name sc_law.nd rfl (by first | exact Or.inl rfl | exact Or.inr rfl)) (gs_nil (is := [])))))) (fun _ _ _ _ _ => (ts_one (xt_cmp (op_neD hu) bin_ne (nomark _) (x_var (pv 20) (by decide)) (x_var (pv 26) (by decide))))) (fun _ _ _ _ _ => x_int) (by decide) (by decide)) isLst_xLc) a_nil))) (ss_one (s_set (i := 16) sc_law.nd rfl (by first | exact Or.inl rfl | exact Or.inr rfl) (x_var (pv 18) (by decide)) (by decide))))) (by decide)) (by decide)) (by decide)) (by decide)) (ss_cons (s_pre (own1 := []) (s_if (xt_not (xt_val (x_callO (ok_law_same tx) rfl (hr.mono (by decide)) rfl tx.g_law_same (takes_of rfl rfl rfl rfl) (a_cons (x_callO (ok_carry_row tx) rfl (hr.mono (by decide)) rfl tx.g_carry_row (takes_of rfl rfl rfl rfl) (a_cons (x_var (pv 2) (by decide)) (a_cons (x_var (pv 8) (by decide)) a_nil)) (al_cons (al_cons al_nil))) (a_cons (x_ct call_tuple_of cl_tuple rfl tx.m_tuple (by decide +kernel) (a_cons (x_var (pv 17) (by decide)) a_nil)) a_nil)) (al_cons (al_cons al_nil))))) (ss_one (s_ret x_bl)) ss_nil) (by decide)) (ss_cons (s_if (xt_cmp op_ltA bin_lt (nomark _) (x_var (pv 3) (by decide)) x_int) (ss_cons (s_set (i := 19) sc_law.nd rfl (by first | exact Or.inl rfl | exact Or.inr rfl) (x_callO (ok_carry_row tx) rfl (hr.mono (by decide)) rfl tx.g_carry_row (takes_of rfl rfl rfl rfl) (a_cons (x_var (pv 2) (by decide)) (a_cons (x_var (pv 3) (by decide)) a_nil)) (al_cons (al_cons al_nil))) (by decide)) (ss_cons (s_par (i := 21) (j := 22) rfl sc_law.nd rfl rfl (by decide) rfl rfl (a_cons x_int (a_cons (x_var (pv 3) (by decide)) a_nil)) rfl (by decide) (by decide)) (ss_cons (s_kill (is := [20, 22]) (s_pre (own1 := []) (s_for (passes_of rfl) rfl (i_seq (x_var (pv 2) (by decide))) (g_name sc_law.nd rfl (by first | exact Or.inl rfl | exact Or.inr rfl)) (ss_kill (is := [20]) (ss_one (s_par (i := 21) (j := 22) rfl sc_law.nd rfl rfl (by decide) rfl rfl (a_cons (x_bin op_addA bin_add (x_var (pv 21) (by decide)) (x_var (pv 22) (by decide))) (a_cons (x_bin op_fdiv bin_fdiv (x_var (pv 22) (by decide)) (x_var (pv 20) (by decide))) a_nil)) rfl (by decide) (by decide))) (by decide)) (by decide)) (by decide)) (by decide)) (ss_one (s_if (XW.t (xw_or (xt_cmp (op_neD hu) bin_ne (nomark _) (x_cb (cr_sumA rfl) cl_sum rfl tx.m_sum (by decide +kernel) (a_cons (x_var (pv 19) (by decide)) a_nil)) (x_var (pv 21) (by decide))) (xw_or (xt_cmp (op_neD hu) bin_ne (nomark _) (x_ix (x_var (pv 19) (by decide)) (x_neg x_int)) (x_cb call_len cl_len rfl tx.m_len PySem.boot_len (a_cons (x_var (pv 2) (by decide)) a_nil))) (xw_or1 (XW.t (xw_and (xt_cmp op_geA bin_ge (nomark _) (x_var (pv 3) (by decide)) x_int) (xw_and1 (xt_cmp (op_neD hu) bin_ne (nomark _) (x_callO (ok_carry_row tx) rfl (hr.mono (by decide)) rfl tx.g_carry_row (takes_of rfl rfl rfl rfl) (a_cons (x_var (pv 2) (by decide)) (a_cons (x_bin op_addA bin_add (x_var (pv 3) (by decide)) x_int) a_nil)) (al_cons (al_cons al_nil))) (x_bin op_addA bin_add (x_var (pv 19) (by decide)) (x_slice (x_var (pv 19) (by decide)) o_none (o_some x_int))))))))))) (ss_one (s_ret x_bl)) ss_nil))))) ss_nil) (ss_cons (s_set (i := 10) sc_law.nd rfl (by first | exact Or.inl rfl | exact Or.inr rfl) (XF.toE (f_lst (a_cons (x_tup a_nil) (a_cons (x_tup (a_cons x_int a_nil)) (a_cons (x_tup (a_cons x_int a_nil)) (a_cons (x_bin op_mulA bin_mul (x_tup (a_cons x_int a_nil)) x_int) (a_cons (XF.toE (f_lst (a_cons x_int a_nil)) isLst_xLst) (a_cons x_non (a_cons x_int (a_cons (x_tup (a_cons x_bl a_nil)) (a_cons (x_tup (a_cons (x_str [50]) a_nil)) (a_cons (x_tup (a_cons x_int (a_cons (x_neg x_int) a_nil))) a_nil))))))))))) isLst_xLst) (by decide)) (ss_cons (s_if (XW.t (xw_or (xt_not (xt_val (x_cb (cr_all rfl) cl_all rfl tx.m_all (by decide +kernel) (a_cons (XF.toE (f_lc (ownN := [("bad", 23)]) rfl sc_law.nd (i_seq (x_var (pv 10) (by decide))) (blkOk_by (by first | (show blkC ["script", "state", "bases", "size", "b", "n", "zero", "first", "count", "t", "bads", "wild", "tried", "one", "two", "a", "now", "due", "later", "row", "x", "total", "share", "bad", "act", "given", "y"] (defScope s_law) _ _ = true; decide +kernel) | exact rfl)) (fun _ _ _ _ _ => (g_name sc_law.nd rfl (by first | exact Or.inl rfl | exact Or.inr rfl))) (fun _ _ _ _ _ => ts_nil) (fun _ _ _ _ _ => (x_callO (ok_law_says tx) rfl (hr.mono (by decide)) rfl tx.g_law_says takes_none5 (a_cons (x_callO (ok_is_bases tx) rfl (hr.mono (by decide)) rfl tx.g_is_bases takes_none5 (a_cons (x_var (pv 23) (by decide)) a_nil) (al_cons al_nil)) (a_cons x_bl a_nil)) (al_cons (al_cons al_nil)))) (by decide) (by decide)) isLst_xLc) a_nil)))) (xw_or1 (xt_cmp (op_neD hu) bin_ne (nomark _) (XF.toE (f_lc (ownN := [("bad", 23)]) rfl sc_law.nd (i_seq (x_var (pv 10) (by decide))) (blkOk_by (by first | (show blkC ["script", "state", "bases", "size", "b", "n", "zero", "first", "count", "t", "bads", "wild", "tried", "one", "two", "a", "now", "due", "later", "row", "x", "total", "share", "bad", "act", "given", "y"] (defScope s_law) _ _ = true; decide +kernel) | exact rfl)) (fun _ _ _ _ _ => (g_name sc_law.nd rfl (by first | exact Or.inl rfl | exact Or.inr rfl))) (fun _ _ _ _ _ => ts_nil) (fun _ _ _ _ _ => (x_ix (x_callO (ok_law_told tx) rfl (hr.mono (by decide)) rfl tx.g_law_told takes_none5 (a_cons (x_gfn 0 rfl rfl tx.g_figures_of) (a_cons (x_tup (a_cons (x_var (pv 23) (by decide)) (a_cons x_int a_nil))) a_nil)) (al_cons (al_cons al_nil))) x_int)) (by decide) (by decide)) isLst_xLc) (x_bin op_mulA bin_mul (XF.toE (f_lst (a_cons (x_str [109, 97, 108, 102, 111, 114, 109, 101, 100]) a_nil)) isLst_xLst) x_int))))) (ss_one (s_ret x_bl)) ss_nil) (ss_cons (s_set (i := 11) sc_law.nd rfl (by first | exact Or.inl rfl | exact Or.inr rfl) (XF.toE (f_lst (a_cons x_non (a_cons x_int (a_cons (XF.toE (f_list rfl tx.m_list (by decide +kernel) (a_cons (x_var (pv 13) (by decide)) a_nil)) isLst_list) (a_cons (x_slice (x_var (pv 13) (by decide)) o_none (o_some (x_neg x_int))) (a_cons (x_bin op_addA bin_add (x_var (pv 13) (by decide)) (x_tup (a_cons x_int a_nil))) (a_cons (x_var (pv 2) (by decide)) (a_cons (x_bin op_addA bin_add (x_tup (a_cons (x_neg x_int) a_nil)) (x_slice (x_var (pv 13) (by decide)) (o_some x_int) o_none)) (a_cons (x_bin op_addA bin_add (x_tup (a_cons x_bl a_nil)) (x_slice (x_var (pv 13) (by decide)) (o_some x_int) o_none)) (a_cons (x_bin op_addA bin_add (x_tup (a_cons (x_str [48]) a_nil)) (x_slice (x_var (pv 13) (by decide)) (o_some x_int) o_none)) a_nil)))))))))) isLst_xLst) (by decide)) (ss_cons (s_if (XW.t (xw_or (xt_not (xt_val (x_cb (cr_all rfl) cl_all rfl tx.m_all (by decide +kernel) (a_cons (XF.toE (f_lc (ownN := [("bad", 23)]) rfl sc_law.nd (i_seq (x_var (pv 11) (by decide))) (blkOk_by (by first | (show blkC ["script", "state", "bases", "size", "b", "n", "zero", "first", "count", "t", "bads", "wild", "tried", "one", "two", "a", "now", "due", "later", "row", "x", "total", "share", "bad", "act", "given", "y"] (defScope s_law) _ _ = true; decide +kernel) | exact rfl)) (fun _ _ _ _ _ => (g_name sc_law.nd rfl (by first | exact Or.inl rfl | exact Or.inr rfl))) (fun _ _ _ _ _ => ts_nil) (fun _ _ _ _ _ => (x_callO (ok_law_says tx) rfl (hr.mono (by decide)) rfl tx.g_law_says takes_none5 (a_cons (x_callO (ok_is_figures tx) rfl (hr.mono (by decide)) rfl tx.g_is_figures takes_none5 (a_cons (x_var (pv 2) (by decide)) (a_cons (x_var (pv 23) (by decide)) a_nil)) (al_cons (al_cons al_nil))) (a_cons x_bl a_nil)) (al_cons (al_cons al_nil)))) (by decide) (by decide)) isLst_xLc) a_nil)))) (xw_or1 (xt_cmp (op_neD hu) bin_ne (nomark _) (XF.toE (f_lc (ownN := [("bad", 23)]) rfl sc_law.nd (i_seq (x_var (pv 11) (by decide))) (blkOk_by (by first | (show blkC ["script", "state", "bases", "size", "b", "n", "zero", "first", "count", "t", "bads", "wild", "tried", "one", "two", "a", "now", "due", "later", "row", "x", "total", "share", "bad", "act", "given", "y"] (defScope s_law) _ _ = true; decide +kernel) | exact rfl)) (fun _ _ _ _ _ => (g_name sc_law.nd rfl (by first | exact Or.inl rfl | exact Or.inr rfl))) (fun _ _ _ _ _ => ts_nil) (fun _ _ _ _ _ => (x_ix (x_callO (ok_law_told tx) rfl (hr.mono (by decide)) rfl tx.g_law_told takes_none5 (a_cons (x_gfn 1 rfl rfl tx.g_counted_on) (a_cons (x_tup (a_cons (x_var (pv 2) (by decide)) (a_cons (x_var (pv 23) (by decide)) a_nil))) a_nil)) (al_cons (al_cons al_nil))) x_int)) (by decide) (by decide)) isLst_xLc) (x_bin op_mulA bin_mul (XF.toE (f_lst (a_cons (x_str [109, 97, 108, 102, 111, 114, 109, 101, 100]) a_nil)) isLst_xLst) x_int))))) (ss_one (s_ret x_bl)) ss_nil) (ss_cons (s_if (xt_cmp (op_neD hu) bin_ne (nomark _) (XF.toE (f_lc (ownN := [("bad", 23)]) rfl sc_law.nd (i_seq (x_var (pv 11) (by decide))) (blkOk_by (by first | (show blkC ["script", "state", "bases", "size", "b", "n", "zero", "first", "count", "t", "bads", "wild", "tried", "one", "two", "a", "now", "due", "later", "row", "x", "total", "share", "bad", "act", "given", "y"] (defScope s_law) _ _ = true; decide +kernel) | exact rfl)) (fun _ _ _ _ _ => (g_name sc_law.nd rfl (by first | exact Or.inl rfl | exact Or.inr rfl))) (fun _ _ _ _ _ => ts_nil) (fun _ _ _ _ _ => (x_ix (x_callO (ok_law_told tx) rfl (hr.mono (by decide)) rfl tx.g_law_told takes_none5 (a_cons (x_gfn 2 rfl rfl tx.g_number_of) (a_cons (x_tup (a_cons (x_var (pv 2) (by decide)) (a_cons (x_var (pv 23) (by decide)) a_nil))) a_nil)) (al_cons (al_cons al_nil))) x_int)) (by decide) (by decide)) isLst_xLc) (x_bin op_mulA bin_mul (XF.toE (f_lst (a_cons (x_str [109, 97, 108, 102, 111, 114, 109, 101, 100]) a_nil)) isLst_xLst) x_int)) (ss_one (s_ret x_bl)) ss_nil) (ss_cons (s_set (i := 12) sc_law.nd rfl (by first | exact Or.inl rfl | exact Or.inr rfl) (XF.toE (f_lst (a_cons (x_tup (a_cons (x_gfn 0 rfl rfl tx.g_figures_of) (a_cons (x_tup (a_cons (x_var (pv 2) (by decide)) (a_cons x_non a_nil))) a_nil))) (a_cons (x_tup (a_cons (x_gfn 0 rfl rfl tx.g_figures_of) (a_cons (x_tup (a_cons (x_var (pv 2) (by decide)) (a_cons x_bl a_nil))) a_nil))) (a_cons (x_tup (a_cons (x_gfn 3 rfl rfl tx.g_figure_sum) (a_cons (x_tup (a_cons (x_var (pv 2) (by decide)) (a_cons (x_var (pv 13) (by decide)) (a_cons x_non a_nil)))) a_nil))) (a_cons (x_tup (a_cons (x_gfn 3 rfl rfl tx.g_figure_sum) (a_cons (x_tup (a_cons (x_var (pv 2) (by decide)) (a_cons x_int (a_cons (x_var (pv 13) (by decide)) a_nil)))) a_nil))) a_nil))))) isLst_xLst) (by decide)) (ss_cons (s_set (i := 12) sc_law.nd rfl (by first | exact Or.inl rfl | exact Or.inr rfl) (x_bin op_addA bin_add (x_var (pv 12) (by decide)) (XF.toE (f_lst (a_cons (x_tup (a_cons (x_gfn 3 rfl rfl tx.g_figure_sum) (a_cons (x_tup (a_cons x_non (a_cons (x_var (pv 13) (by decide)) (a_cons (x_var (pv 13) (by decide)) a_nil)))) a_nil))) (a_cons (x_tup (a_cons (x_gfn 4 rfl rfl tx.g_carry_row) (a_cons (x_tup (a_cons (x_var (pv 2) (by decide)) (a_cons x_int a_nil))) a_nil))) (a_cons (x_tup (a_cons (x_gfn 4 rfl rfl tx.g_carry_row) (a_cons (x_tup (a_cons (x_var (pv 2) (by decide)) (a_cons x_int a_nil))) a_nil))) (a_cons (x_tup (a_cons (x_gfn 4 rfl rfl tx.g_carry_row) (a_cons (x_tup (a_cons (x_tup (a_cons x_int a_nil)) (a_cons x_int a_nil))) a_nil))) (a_cons (x_tup (a_cons (x_gfn 1 rfl rfl tx.g_counted_on) (a_cons (x_tup (a_cons (x_tup (a_cons x_int a_nil)) (a_cons (x_tup (a_cons x_int a_nil)) a_nil))) a_nil))) a_nil)))))) isLst_xLst)) (by decide)) (ss_cons (s_set (i := 12) sc_law.nd rfl (by first | exact Or.inl rfl | exact Or.inr rfl) (x_bin op_addA bin_add (x_var (pv 12) (by decide)) (XF.toE (f_lst (a_cons (x_tup (a_cons (x_gfn 2 rfl rfl tx.g_number_of) (a_cons (x_tup (a_cons x_int (a_cons (x_var (pv 13) (by decide)) a_nil))) a_nil))) a_nil)) isLst_xLst)) (by decide)) (ss_one (s_ret (x_cmp (op_eqD hu) bin_eq (nomark _) (XF.toE (f_lc (ownN := [("act", 24), ("given", 25)]) rfl sc_law.nd (i_seq (x_var (pv 12) (by decide))) (blkOk_by (by first | (show blkC ["script", "state", "bases", "size", "b", "n", "zero", "first", "count", "t", "bads", "wild", "tried", "one", "two", "a", "now", "due", "later", "row", "x", "total", "share", "bad", "act", "given", "y"] (defScope s_law) _ _ = true; decide +kernel) | exact rfl)) (fun _ _ _ _ _ => (g_tup rfl (gs_cons (g_name sc_law.nd rfl (by first | exact Or.inl rfl | exact Or.inr rfl)) (gs_cons (g_name sc_law.nd rfl (by first | exact Or.inl rfl | exact Or.inr rfl)) (gs_nil (is := [])))))) (fun _ _ _ _ _ => ts_nil) (fun _ _ _ _ _ => (x_ix (x_callO (ok_law_told tx) rfl (hr.mono (by decide)) rfl tx.g_law_told takes_none5 (a_cons (x_var (pv 24) (by decide)) (a_cons (x_var (pv 25) (by decide)) a_nil)) (al_cons (al_cons al_nil))) x_int)) (by decide) (by decide)) isLst_xLc) (x_bin op_mulA bin_mul (XF.toE (f_lst (a_cons (x_str [109, 97, 108, 102, 111, 114, 109, 101, 100]) a_nil)) isLst_xLst) x_int))))))))))))))))))))))))))))))))
theorem all_mk {af_is_integer af_check_from af_is_bases af_check_bases af_is_figures af_counted_on af_figures_of af_number_of af_figure_sum af_carry_row af_law_state af_law_take af_law_is_whole af_law_same af_law_says af_law_told af_law_figures af_law_number af_law ac__Malformed ac__Refused : Addr} {fa : Addr} {h : Heap} (KX : K.In h) (KG : h.Ns mainGlobals mg) (hfa : mg "law" = some (.ref fa))
    {od0 an0 : Option Addr} {sl0 : Array (Option Value)} {oc0 kV0 dc0 pm0 cd0 ct0 : Value}
    {od1 an1 : Option Addr} {sl1 : Array (Option Value)} {oc1 kV1 dc1 pm1 cd1 ct1 : Value}
    {od2 an2 : Option Addr} {sl2 : Array (Option Value)} {oc2 kV2 dc2 pm2 cd2 ct2 : Value}
    {od3 an3 : Option Addr} {sl3 : Array (Option Value)} {oc3 kV3 dc3 pm3 cd3 ct3 : Value}
    {od4 an4 : Option Addr} {sl4 : Array (Option Value)} {oc4 kV4 dc4 pm4 cd4 ct4 : Value}
    {od5 an5 : Option Addr} {sl5 : Array (Option Value)} {oc5 kV5 dc5 pm5 cd5 ct5 : Value}
    {od6 an6 : Option Addr} {sl6 : Array (Option Value)} {oc6 kV6 dc6 pm6 cd6 ct6 : Value}
    {od7 an7 : Option Addr} {sl7 : Array (Option Value)} {oc7 kV7 dc7 pm7 cd7 ct7 : Value}
    {od8 an8 : Option Addr} {sl8 : Array (Option Value)} {oc8 kV8 dc8 pm8 cd8 ct8 : Value}
    {od9 an9 : Option Addr} {sl9 : Array (Option Value)} {oc9 kV9 dc9 pm9 cd9 ct9 : Value}
    {od10 an10 : Option Addr} {sl10 : Array (Option Value)} {oc10 kV10 dc10 pm10 cd10 ct10 : Value}
    {od11 an11 : Option Addr} {sl11 : Array (Option Value)} {oc11 kV11 dc11 pm11 cd11 ct11 : Value}
    {od12 an12 : Option Addr} {sl12 : Array (Option Value)} {oc12 kV12 dc12 pm12 cd12 ct12 : Value}
    {od13 an13 : Option Addr} {sl13 : Array (Option Value)} {oc13 kV13 dc13 pm13 cd13 ct13 : Value}
    {od14 an14 : Option Addr} {sl14 : Array (Option Value)} {oc14 kV14 dc14 pm14 cd14 ct14 : Value}
    {od15 an15 : Option Addr} {sl15 : Array (Option Value)} {oc15 kV15 dc15 pm15 cd15 ct15 : Value}
    {od16 an16 : Option Addr} {sl16 : Array (Option Value)} {oc16 kV16 dc16 pm16 cd16 ct16 : Value}
    {od17 an17 : Option Addr} {sl17 : Array (Option Value)} {oc17 kV17 dc17 pm17 cd17 ct17 : Value}
    {od18 an18 : Option Addr} {sl18 : Array (Option Value)} {oc18 kV18 dc18 pm18 cd18 ct18 : Value}
    (a0 : PySem.W.nsIn K mainGlobals "is_integer" = some (some (.ref af_is_integer))) (l0 : K.lookup af_is_integer = some ⟨oc0, od0, .func (PySem.W.fnOf "is_integer" "is_integer" (defArgs s_is_integer) (defBody s_is_integer) (defScope s_is_integer) .none kV0 dc0 pm0 an0 cd0 ct0), sl0⟩) (c0 : PySem.W.codeIn K cd0 "is_integer" = true) (k0 : PySem.W.keepIn K (.ref af_is_integer) = true)
    (a1 : PySem.W.nsIn K mainGlobals "check_from" = some (some (.ref af_check_from))) (l1 : K.lookup af_check_from = some ⟨oc1, od1, .func (PySem.W.fnOf "check_from" "check_from" (defArgs s_check_from) (defBody s_check_from) (defScope s_check_from) .none kV1 dc1 pm1 an1 cd1 ct1), sl1⟩) (c1 : PySem.W.codeIn K cd1 "check_from" = true) (k1 : PySem.W.keepIn K (.ref af_check_from) = true)
    (a2 : PySem.W.nsIn K mainGlobals "is_bases" = some (some (.ref af_is_bases))) (l2 : K.lookup af_is_bases = some ⟨oc2, od2, .func (PySem.W.fnOf "is_bases" "is_bases" (defArgs s_is_bases) (defBody s_is_bases) (defScope s_is_bases) .none kV2 dc2 pm2 an2 cd2 ct2), sl2⟩) (c2 : PySem.W.codeIn K cd2 "is_bases" = true) (k2 : PySem.W.keepIn K (.ref af_is_bases) = true)
    (a3 : PySem.W.nsIn K mainGlobals "check_bases" = some (some (.ref af_check_bases))) (l3 : K.lookup af_check_bases = some ⟨oc3, od3, .func (PySem.W.fnOf "check_bases" "check_bases" (defArgs s_check_bases) (defBody s_check_bases) (defScope s_check_bases) .none kV3 dc3 pm3 an3 cd3 ct3), sl3⟩) (c3 : PySem.W.codeIn K cd3 "check_bases" = true) (k3 : PySem.W.keepIn K (.ref af_check_bases) = true)
    (a4 : PySem.W.nsIn K mainGlobals "is_figures" = some (some (.ref af_is_figures))) (l4 : K.lookup af_is_figures = some ⟨oc4, od4, .func (PySem.W.fnOf "is_figures" "is_figures" (defArgs s_is_figures) (defBody s_is_figures) (defScope s_is_figures) .none kV4 dc4 pm4 an4 cd4 ct4), sl4⟩) (c4 : PySem.W.codeIn K cd4 "is_figures" = true) (k4 : PySem.W.keepIn K (.ref af_is_figures) = true)
    (a5 : PySem.W.nsIn K mainGlobals "counted_on" = some (some (.ref af_counted_on))) (l5 : K.lookup af_counted_on = some ⟨oc5, od5, .func (PySem.W.fnOf "counted_on" "counted_on" (defArgs s_counted_on) (defBody s_counted_on) (defScope s_counted_on) .none kV5 dc5 pm5 an5 cd5 ct5), sl5⟩) (c5 : PySem.W.codeIn K cd5 "counted_on" = true) (k5 : PySem.W.keepIn K (.ref af_counted_on) = true)
    (a6 : PySem.W.nsIn K mainGlobals "figures_of" = some (some (.ref af_figures_of))) (l6 : K.lookup af_figures_of = some ⟨oc6, od6, .func (PySem.W.fnOf "figures_of" "figures_of" (defArgs s_figures_of) (defBody s_figures_of) (defScope s_figures_of) .none kV6 dc6 pm6 an6 cd6 ct6), sl6⟩) (c6 : PySem.W.codeIn K cd6 "figures_of" = true) (k6 : PySem.W.keepIn K (.ref af_figures_of) = true)
    (a7 : PySem.W.nsIn K mainGlobals "number_of" = some (some (.ref af_number_of))) (l7 : K.lookup af_number_of = some ⟨oc7, od7, .func (PySem.W.fnOf "number_of" "number_of" (defArgs s_number_of) (defBody s_number_of) (defScope s_number_of) .none kV7 dc7 pm7 an7 cd7 ct7), sl7⟩) (c7 : PySem.W.codeIn K cd7 "number_of" = true) (k7 : PySem.W.keepIn K (.ref af_number_of) = true)
    (a8 : PySem.W.nsIn K mainGlobals "figure_sum" = some (some (.ref af_figure_sum))) (l8 : K.lookup af_figure_sum = some ⟨oc8, od8, .func (PySem.W.fnOf "figure_sum" "figure_sum" (defArgs s_figure_sum) (defBody s_figure_sum) (defScope s_figure_sum) .none kV8 dc8 pm8 an8 cd8 ct8), sl8⟩) (c8 : PySem.W.codeIn K cd8 "figure_sum" = true) (k8 : PySem.W.keepIn K (.ref af_figure_sum) = true)
    (a9 : PySem.W.nsIn K mainGlobals "carry_row" = some (some (.ref af_carry_row))) (l9 : K.lookup af_carry_row = some ⟨oc9, od9, .func (PySem.W.fnOf "carry_row" "carry_row" (defArgs s_carry_row) (defBody s_carry_row) (defScope s_carry_row) .none kV9 dc9 pm9 an9 cd9 ct9), sl9⟩) (c9 : PySem.W.codeIn K cd9 "carry_row" = true) (k9 : PySem.W.keepIn K (.ref af_carry_row) = true)
    (a10 : PySem.W.nsIn K mainGlobals "_law_state" = some (some (.ref af_law_state))) (l10 : K.lookup af_law_state = some ⟨oc10, od10, .func (PySem.W.fnOf "_law_state" "_law_state" (defArgs s_law_state) (defBody s_law_state) (defScope s_law_state) .none kV10 dc10 pm10 an10 cd10 ct10), sl10⟩) (c10 : PySem.W.codeIn K cd10 "_law_state" = true) (k10 : PySem.W.keepIn K (.ref af_law_state) = true)
    (a11 : PySem.W.nsIn K mainGlobals "_law_take" = some (some (.ref af_law_take))) (l11 : K.lookup af_law_take = some ⟨oc11, od11, .func (PySem.W.fnOf "_law_take" "_law_take" (defArgs s_law_take) (defBody s_law_take) (defScope s_law_take) .none kV11 dc11 pm11 an11 cd11 ct11), sl11⟩) (c11 : PySem.W.codeIn K cd11 "_law_take" = true) (k11 : PySem.W.keepIn K (.ref af_law_take) = true)
    (a12 : PySem.W.nsIn K mainGlobals "_law_is_whole" = some (some (.ref af_law_is_whole))) (l12 : K.lookup af_law_is_whole = some ⟨oc12, od12, .func (PySem.W.fnOf "_law_is_whole" "_law_is_whole" (defArgs s_law_is_whole) (defBody s_law_is_whole) (defScope s_law_is_whole) .none kV12 dc12 pm12 an12 cd12 ct12), sl12⟩) (c12 : PySem.W.codeIn K cd12 "_law_is_whole" = true) (k12 : PySem.W.keepIn K (.ref af_law_is_whole) = true)
    (a13 : PySem.W.nsIn K mainGlobals "_law_same" = some (some (.ref af_law_same))) (l13 : K.lookup af_law_same = some ⟨oc13, od13, .func (PySem.W.fnOf "_law_same" "_law_same" (defArgs s_law_same) (defBody s_law_same) (defScope s_law_same) .none kV13 dc13 pm13 an13 cd13 ct13), sl13⟩) (c13 : PySem.W.codeIn K cd13 "_law_same" = true) (k13 : PySem.W.keepIn K (.ref af_law_same) = true)
    (a14 : PySem.W.nsIn K mainGlobals "_law_says" = some (some (.ref af_law_says))) (l14 : K.lookup af_law_says = some ⟨oc14, od14, .func (PySem.W.fnOf "_law_says" "_law_says" (defArgs s_law_says) (defBody s_law_says) (defScope s_law_says) .none kV14 dc14 pm14 an14 cd14 ct14), sl14⟩) (c14 : PySem.W.codeIn K cd14 "_law_says" = true) (k14 : PySem.W.keepIn K (.ref af_law_says) = true)
    (a15 : PySem.W.nsIn K mainGlobals "_law_told" = some (some (.ref af_law_told))) (l15 : K.lookup af_law_told = some ⟨oc15, od15, .func (PySem.W.fnOf "_law_told" "_law_told" (defArgs s_law_told) (defBody s_law_told) (defScope s_law_told) .none kV15 dc15 pm15 an15 cd15 ct15), sl15⟩) (c15 : PySem.W.codeIn K cd15 "_law_told" = true) (k15 : PySem.W.keepIn K (.ref af_law_told) = true)
    (a16 : PySem.W.nsIn K mainGlobals "_law_figures" = some (some (.ref af_law_figures))) (l16 : K.lookup af_law_figures = some ⟨oc16, od16, .func (PySem.W.fnOf "_law_figures" "_law_figures" (defArgs s_law_figures) (defBody s_law_figures) (defScope s_law_figures) .none kV16 dc16 pm16 an16 cd16 ct16), sl16⟩) (c16 : PySem.W.codeIn K cd16 "_law_figures" = true) (k16 : PySem.W.keepIn K (.ref af_law_figures) = true)
    (a17 : PySem.W.nsIn K mainGlobals "_law_number" = some (some (.ref af_law_number))) (l17 : K.lookup af_law_number = some ⟨oc17, od17, .func (PySem.W.fnOf "_law_number" "_law_number" (defArgs s_law_number) (defBody s_law_number) (defScope s_law_number) .none kV17 dc17 pm17 an17 cd17 ct17), sl17⟩) (c17 : PySem.W.codeIn K cd17 "_law_number" = true) (k17 : PySem.W.keepIn K (.ref af_law_number) = true)
    (a18 : PySem.W.nsIn K mainGlobals "law" = some (some (.ref af_law))) (l18 : K.lookup af_law = some ⟨oc18, od18, .func (PySem.W.fnOf "law" "law" (defArgs s_law) (defBody s_law) (defScope s_law) .none kV18 dc18 pm18 an18 cd18 ct18), sl18⟩) (c18 : PySem.W.codeIn K cd18 "law" = true) (k18 : PySem.W.keepIn K (.ref af_law) = true)
    (z_abs : PySem.W.nsIn K mainGlobals "abs" = some none)
    (z_all : PySem.W.nsIn K mainGlobals "all" = some none)
    (z_bool : PySem.W.nsIn K mainGlobals "bool" = some none)
    (z_int : PySem.W.nsIn K mainGlobals "int" = some none)
    (z_isinstance : PySem.W.nsIn K mainGlobals "isinstance" = some none)
    (z_len : PySem.W.nsIn K mainGlobals "len" = some none)
    (z_list : PySem.W.nsIn K mainGlobals "list" = some none)
    (z_range : PySem.W.nsIn K mainGlobals "range" = some none)
    (z_str : PySem.W.nsIn K mainGlobals "str" = some none)
    (z_sum : PySem.W.nsIn K mainGlobals "sum" = some none)
    (z_tuple : PySem.W.nsIn K mainGlobals "tuple" = some none)
    (z_zip : PySem.W.nsIn K mainGlobals "zip" = some none)
    (ac_Malformed : PySem.W.nsIn K mainGlobals "Malformed" = some (some (.ref ac__Malformed)))
    (xc_Malformed : PySem.W.excIn K ac__Malformed [.type "ValueError", .type "Exception", .type "BaseException", .type "object"] "ValueError.__new__" = true)
    (kc_Malformed : PySem.W.keepIn K (.ref ac__Malformed) = true) (bc_Malformed : PySem.W.subIn K (.ref ac__Malformed) (.type "BaseException") = some true) (yc_Malformed : PySem.W.typeIn K (.ref ac__Malformed) = some (.type "type")) (dc_Malformed : PySem.W.hasDictIn K ac__Malformed = true)
    (s_Malformed_Malformed : PySem.W.subIn K (.ref ac__Malformed) (.ref ac__Malformed) = some true)
    (s_Refused_Malformed : PySem.W.subIn K (.ref ac__Refused) (.ref ac__Malformed) = some false)
    (ac_Refused : PySem.W.nsIn K mainGlobals "Refused" = some (some (.ref ac__Refused)))
    (kc_Refused : PySem.W.keepIn K (.ref ac__Refused) = true) (bc_Refused : PySem.W.subIn K (.ref ac__Refused) (.type "BaseException") = some true) (yc_Refused : PySem.W.typeIn K (.ref ac__Refused) = some (.type "type")) (dc_Refused : PySem.W.hasDictIn K ac__Refused = true)
    (s_Malformed_Refused : PySem.W.subIn K (.ref ac__Malformed) (.ref ac__Refused) = some false)
    (s_Refused_Refused : PySem.W.subIn K (.ref ac__Refused) (.ref ac__Refused) = some true)
    (hS : ∀ (a : Nat) (g : G), g.on = true → g.at_ = a → GOk g → ∃ g', B_law ([none, some (.gen a)] ++ List.replicate 25 none) g = .rt (.bl true) g') :
    ∃ fd : FuncData, (∀ (s : Shared) (v : Value), BindsTo s fd ⟨[v], []⟩ [("script", v)]) ∧ ∀ base : Heap, K.In base → base.Ns mainGlobals mg → FnOk P w K mg base (L2.CX P w) 19 fa fd ["script"] (spLaw K) := by
  have e := hfa.symm.trans (PySem.W.mg_of KX KG a18)
  cases e
  have tx : Tx K mg ⟨af_is_integer, af_check_from, af_is_bases, af_check_bases, af_is_figures, af_counted_on, af_figures_of, af_number_of, af_figure_sum, af_carry_row, af_law_state, af_law_take, af_law_is_whole, af_law_same, af_law_says, af_law_told, af_law_figures, af_law_number, af_law, ac__Malformed, ac__Refused⟩ := {
    f_is_integer := ⟨_, fun_mk (st := s_is_integer) l0 c0 k0, (fun_mk (st := s_is_integer) l0 c0 k0).binds (ps := ["value"]) fun _ _ _ _ _ _ us hl => match us, hl with | [_], _ => rfl⟩
    g_is_integer := PySem.W.mg_of KX KG a0
    f_check_from := ⟨_, fun_mk (st := s_check_from) l1 c1 k1, (fun_mk (st := s_check_from) l1 c1 k1).binds (ps := ["n", "low", "high"]) fun _ _ _ _ _ _ us hl => match us, hl with | [_, _, _], _ => rfl⟩
    g_check_from := PySem.W.mg_of KX KG a1
    f_is_bases := ⟨_, fun_mk (st := s_is_bases) l2 c2 k2, (fun_mk (st := s_is_bases) l2 c2 k2).binds (ps := ["value"]) fun _ _ _ _ _ _ us hl => match us, hl with | [_], _ => rfl⟩
    g_is_bases := PySem.W.mg_of KX KG a2
    f_check_bases := ⟨_, fun_mk (st := s_check_bases) l3 c3 k3, (fun_mk (st := s_check_bases) l3 c3 k3).binds (ps := ["value"]) fun _ _ _ _ _ _ us hl => match us, hl with | [_], _ => rfl⟩
    g_check_bases := PySem.W.mg_of KX KG a3
    f_is_figures := ⟨_, fun_mk (st := s_is_figures) l4 c4 k4, (fun_mk (st := s_is_figures) l4 c4 k4).binds (ps := ["bases", "value"]) fun _ _ _ _ _ _ us hl => match us, hl with | [_, _], _ => rfl⟩
    g_is_figures := PySem.W.mg_of KX KG a4
    f_counted_on := ⟨_, fun_mk (st := s_counted_on) l5 c5 k5, (fun_mk (st := s_counted_on) l5 c5 k5).binds (ps := ["bases", "figures"]) fun _ _ _ _ _ _ us hl => match us, hl with | [_, _], _ => rfl⟩
    g_counted_on := PySem.W.mg_of KX KG a5
    f_figures_of := ⟨_, fun_mk (st := s_figures_of) l6 c6 k6, (fun_mk (st := s_figures_of) l6 c6 k6).binds (ps := ["bases", "n"]) fun _ _ _ _ _ _ us hl => match us, hl with | [_, _], _ => rfl⟩
    g_figures_of := PySem.W.mg_of KX KG a6
    f_number_of := ⟨_, fun_mk (st := s_number_of) l7 c7 k7, (fun_mk (st := s_number_of) l7 c7 k7).binds (ps := ["bases", "figures"]) fun _ _ _ _ _ _ us hl => match us, hl with | [_, _], _ => rfl⟩
    g_number_of := PySem.W.mg_of KX KG a7
    f_figure_sum := ⟨_, fun_mk (st := s_figure_sum) l8 c8 k8, (fun_mk (st := s_figure_sum) l8 c8 k8).binds (ps := ["bases", "one", "two"]) fun _ _ _ _ _ _ us hl => match us, hl with | [_, _, _], _ => rfl⟩
    g_figure_sum := PySem.W.mg_of KX KG a8
    f_carry_row := ⟨_, fun_mk (st := s_carry_row) l9 c9 k9, (fun_mk (st := s_carry_row) l9 c9 k9).binds (ps := ["bases", "count"]) fun _ _ _ _ _ _ us hl => match us, hl with | [_, _], _ => rfl⟩
    g_carry_row := PySem.W.mg_of KX KG a9
    f_law_state := ⟨_, fun_mk (st := s_law_state) l10 c10 k10, (fun_mk (st := s_law_state) l10 c10 k10).binds (ps := ["script"]) fun _ _ _ _ _ _ us hl => match us, hl with | [_], _ => rfl⟩
    g_law_state := PySem.W.mg_of KX KG a10
    f_law_take := ⟨_, fun_mk (st := s_law_take) l11 c11 k11, (fun_mk (st := s_law_take) l11 c11 k11).binds (ps := ["state", "m"]) fun _ _ _ _ _ _ us hl => match us, hl with | [_, _], _ => rfl⟩
    g_law_take := PySem.W.mg_of KX KG a11
    f_law_is_whole := ⟨_, fun_mk (st := s_law_is_whole) l12 c12 k12, (fun_mk (st := s_law_is_whole) l12 c12 k12).binds (ps := ["value"]) fun _ _ _ _ _ _ us hl => match us, hl with | [_], _ => rfl⟩
    g_law_is_whole := PySem.W.mg_of KX KG a12
    f_law_same := ⟨_, fun_mk (st := s_law_same) l13 c13 k13, (fun_mk (st := s_law_same) l13 c13 k13).binds (ps := ["one", "two"]) fun _ _ _ _ _ _ us hl => match us, hl with | [_, _], _ => rfl⟩
    g_law_same := PySem.W.mg_of KX KG a13
    f_law_says := ⟨_, fun_mk (st := s_law_says) l14 c14 k14, (fun_mk (st := s_law_says) l14 c14 k14).binds (ps := ["value", "due"]) fun _ _ _ _ _ _ us hl => match us, hl with | [_, _], _ => rfl⟩
    g_law_says := PySem.W.mg_of KX KG a14
    f_law_told := ⟨_, fun_mk (st := s_law_told) l15 c15 k15, (fun_mk (st := s_law_told) l15 c15 k15).binds (ps := ["act", "given"]) fun _ _ _ _ _ _ us hl => match us, hl with | [_, _], _ => rfl⟩
    g_law_told := PySem.W.mg_of KX KG a15
    f_law_figures := ⟨_, fun_mk (st := s_law_figures) l16 c16 k16, (fun_mk (st := s_law_figures) l16 c16 k16).binds (ps := ["bases", "n"]) fun _ _ _ _ _ _ us hl => match us, hl with | [_, _], _ => rfl⟩
    g_law_figures := PySem.W.mg_of KX KG a16
    f_law_number := ⟨_, fun_mk (st := s_law_number) l17 c17 k17, (fun_mk (st := s_law_number) l17 c17 k17).binds (ps := ["bases", "figures"]) fun _ _ _ _ _ _ us hl => match us, hl with | [_, _], _ => rfl⟩
    g_law_number := PySem.W.mg_of KX KG a17
    f_law := ⟨_, fun_mk (st := s_law) l18 c18 k18, (fun_mk (st := s_law) l18 c18 k18).binds (ps := ["script"]) fun _ _ _ _ _ _ us hl => match us, hl with | [_], _ => rfl⟩
    g_law := PySem.W.mg_of KX KG a18
    m_abs := PySem.W.mg_none_of KX KG z_abs
    m_all := PySem.W.mg_none_of KX KG z_all
    m_bool := PySem.W.mg_none_of KX KG z_bool
    m_int := PySem.W.mg_none_of KX KG z_int
    m_isinstance := PySem.W.mg_none_of KX KG z_isinstance
    m_len := PySem.W.mg_none_of KX KG z_len
    m_list := PySem.W.mg_none_of KX KG z_list
    m_range := PySem.W.mg_none_of KX KG z_range
    m_str := PySem.W.mg_none_of KX KG z_str
    m_sum := PySem.W.mg_none_of KX KG z_sum
    m_tuple := PySem.W.mg_none_of KX KG z_tuple
    m_zip := PySem.W.mg_none_of KX KG z_zip
    g_Malformed := PySem.W.mg_of KX KG ac_Malformed
    x_Malformed := xc_Malformed
    k_Malformed := kc_Malformed
    b_Malformed := bc_Malformed
    y_Malformed := yc_Malformed
    m_Malformed := fun m C e => match m, e with
      | 0, e => by cases e; exact PySem.W.exm_ref bc_Malformed dc_Malformed yc_Malformed s_Malformed_Malformed
      | 1, e => by cases e; exact PySem.W.exm_ref bc_Malformed dc_Malformed yc_Malformed s_Refused_Malformed
      | k + 2, e => by cases e
    g_Refused := PySem.W.mg_of KX KG ac_Refused
    k_Refused := kc_Refused
    b_Refused := bc_Refused
    y_Refused := yc_Refused
    m_Refused := fun m C e => match m, e with
      | 0, e => by cases e; exact PySem.W.exm_ref bc_Refused dc_Refused yc_Refused s_Malformed_Refused
      | 1, e => by cases e; exact PySem.W.exm_ref bc_Refused dc_Refused yc_Refused s_Refused_Refused
      | k + 2, e => by cases e
  }
  exact ⟨_, fun s v => .of_eq rfl, fun base _ _ => ok_law tx (fun_mk (st := s_law) l18 c18 k18) hS⟩
end
end K39

open PySem PySem.W PyProof.Rows
set_option maxHeartbeats 0 in
theorem PySem.Challenge.cw_shiftroads_k39_whole_counters_of_figures_holds : PySem.Challenge.rw_shiftroads_k39_whole_counters_of_figures.Holds := by
  w_on; o_law; k_head; (case hw => w_witness2)
  k_fill
  refine L2.walk_of (l := PySem.Challenge.rw_shiftroads_k39_whole_counters_of_figures) (n := 63) (k := 19) (x := "script") (CX := fun w => L2.CX (PySem.Challenge.rw_shiftroads_k39_whole_counters_of_figures).prog w) (sp := fun w => PP.spLaw _) rfl (by decide) rfl ⟨rfl, by decide, by decide⟩ (fun w h Y => PySem.W.kIn_of Y) ?F (fun _ _ a ns hl _ hS => ⟨a, ns, rfl, hS, hl, fun _ => rfl⟩) (fun _ _ _ _ _ hz => by
    obtain ⟨_, _, _, _, _, _, _, _, _, _, _, _, z⟩ := hz
    exact z)
  case F =>
    intro w mg fa h KX G hmg
    refine' K39.all_mk KX G hmg ?a0 ?l0 ?c0 ?k0 ?a1 ?l1 ?c1 ?k1 ?a2 ?l2 ?c2 ?k2 ?a3 ?l3 ?c3 ?k3 ?a4 ?l4 ?c4 ?k4 ?a5 ?l5 ?c5 ?k5 ?a6 ?l6 ?c6 ?k6 ?a7 ?l7 ?c7 ?k7 ?a8 ?l8 ?c8 ?k8 ?a9 ?l9 ?c9 ?k9 ?a10 ?l10 ?c10 ?k10 ?a11 ?l11 ?c11 ?k11 ?a12 ?l12 ?c12 ?k12 ?a13 ?l13 ?c13 ?k13 ?a14 ?l14 ?c14 ?k14 ?a15 ?l15 ?c15 ?k15 ?a16 ?l16 ?c16 ?k16 ?a17 ?l17 ?c17 ?k17 ?a18 ?l18 ?c18 ?k18 ?z_abs ?z_all ?z_bool ?z_int ?z_isinstance ?z_len ?z_list ?z_range ?z_str ?z_sum ?z_tuple ?z_zip ?ac_Malformed ?xc_Malformed ?kc_Malformed ?bc_Malformed ?yc_Malformed ?dc_Malformed ?s_Malformed_Malformed ?s_Refused_Malformed ?ac_Refused ?kc_Refused ?bc_Refused ?yc_Refused ?dc_Refused ?s_Malformed_Refused ?s_Refused_Refused K39.pure_law
    (case ac_Malformed => k_is)
    (case ac_Refused => k_is)
    (case a0 => k_is)
    (case l0 => k_is)
    (case c0 => k_is)
    (case k0 => k_is)
    (case a1 => k_is)
    (case l1 => k_is)
    (case c1 => k_is)
    (case k1 => k_is)
    (case a2 => k_is)
    (case l2 => k_is)
    (case c2 => k_is)
    (case k2 => k_is)
    (case a3 => k_is)
    (case l3 => k_is)
    (case c3 => k_is)
    (case k3 => k_is)
    (case a4 => k_is)
    (case l4 => k_is)
    (case c4 => k_is)
    (case k4 => k_is)
    (case a5 => k_is)
    (case l5 => k_is)
    (case c5 => k_is)
    (case k5 => k_is)
    (case a6 => k_is)
    (case l6 => k_is)
    (case c6 => k_is)
    (case k6 => k_is)
    (case a7 => k_is)
    (case l7 => k_is)
    (case c7 => k_is)
    (case k7 => k_is)
    (case a8 => k_is)
    (case l8 => k_is)
    (case c8 => k_is)
    (case k8 => k_is)
    (case a9 => k_is)
    (case l9 => k_is)
    (case c9 => k_is)
    (case k9 => k_is)
    (case a10 => k_is)
    (case l10 => k_is)
    (case c10 => k_is)
    (case k10 => k_is)
    (case a11 => k_is)
    (case l11 => k_is)
    (case c11 => k_is)
    (case k11 => k_is)
    (case a12 => k_is)
    (case l12 => k_is)
    (case c12 => k_is)
    (case k12 => k_is)
    (case a13 => k_is)
    (case l13 => k_is)
    (case c13 => k_is)
    (case k13 => k_is)
    (case a14 => k_is)
    (case l14 => k_is)
    (case c14 => k_is)
    (case k14 => k_is)
    (case a15 => k_is)
    (case l15 => k_is)
    (case c15 => k_is)
    (case k15 => k_is)
    (case a16 => k_is)
    (case l16 => k_is)
    (case c16 => k_is)
    (case k16 => k_is)
    (case a17 => k_is)
    (case l17 => k_is)
    (case c17 => k_is)
    (case k17 => k_is)
    (case a18 => k_is)
    (case l18 => k_is)
    (case c18 => k_is)
    (case k18 => k_is)
    (case z_abs => k_is)
    (case z_all => k_is)
    (case z_bool => k_is)
    (case z_int => k_is)
    (case z_isinstance => k_is)
    (case z_len => k_is)
    (case z_list => k_is)
    (case z_range => k_is)
    (case z_str => k_is)
    (case z_sum => k_is)
    (case z_tuple => k_is)
    (case z_zip => k_is)
    (case xc_Malformed => k_exc)
    (case kc_Malformed => k_is)
    (case bc_Malformed => k_is)
    (case yc_Malformed => k_is)
    (case dc_Malformed => k_is)
    (case s_Malformed_Malformed => k_is)
    (case s_Refused_Malformed => k_is)
    (case kc_Refused => k_is)
    (case bc_Refused => k_is)
    (case yc_Refused => k_is)
    (case dc_Refused => k_is)
    (case s_Malformed_Refused => k_is)
    (case s_Refused_Refused => k_is)


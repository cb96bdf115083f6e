import PyProof.Rows.All
import Wide.All
import OpenK.AllK
import Wide.FinOn
import HandS.ExcIs
import HandS.TupAny
import HandS.TupMul
import HandS.Walk
import HandS.ForMost
import HandS.Exc
import HandS.TryMany
import HandS.ExcOwn
import HandS.WordsExc
import HandS.Wide
import HandS.Deep
import HandS.Zip
import HandS.IsInst
import HandS.CallLocal
import HandS.Text
import HandS.Flow
import KE.KTupSum
import HandS.TryOnly
import HandS.Style
import KE.KDictZip
import KE.GoesMore
import KE.KDictItemsList
import HandS.StrMore
import HandS.Replace
import PyProof.StrLawsIn
import KE.GoesEnum
import HandS.Strs
import KE.SortData
import KE.DataMinMax
import PyProof.CollectStr
import KE.KDictList
import HandS.More
import PyProof.Rows.StrMeet
import PyProof.Claim2Refuses
import HandS.ExcInit
import HandS.ExcField
import PyProof.StrBlock2
import PyProof.Rows.StrMul
import PyProof.TableCode
import PySem.Challenge.RW_shiftroads_k23_whole_return_words_and_de
/-! PP: Python's values and statements as plain Lean functions (core Lean alone). -/
namespace PP
set_option linter.all false

/-- data: a number in `fn` names a def of the module, in `ins` a class; `gen`: the law's drawing state -/
inductive D where
  | non | bl (b : Bool) | int (i : Int) | str (s : List Nat) | tup (l : List D) | lst (l : List D)
  | fn (n : Nat) | gen (a : Nat) | ins (c : Nat) (fs : List D) | dic (ks vs : List D)
  deriving Inhabited

/-- the drawing state: whether there is one, where it lies, its two numbers -/
structure G where
  on : Bool
  at_ : Nat
  s : Int
  t : Int

/-- what the law's first call leaves -/
def GOk (g : G) : Prop := 0 ≤ g.s ∧ 0 ≤ g.t ∧ g.t < 2147483647

/-- an exception: its class, what it carries -/
inductive Ex where
  | mk (c : Nat) (pay : List D)

inductive R (α : Type) where
  | ok (a : α) (g : G) | ex (e : Ex) (g : G) | bad

abbrev Env := List (Option D)
abbrev X := Env → G → R D
abbrev XT := Env → G → R Bool
abbrev XA := Env → G → R (List D)
abbrev FN := List D → G → R D
abbrev TG := D → Env → Option Env

def R.bind {α β : Type} (x : R α) (k : α → G → R β) : R β :=
  match x with
  | .ok a g => k a g
  | .ex e g => .ex e g
  | .bad => .bad
@[simp] theorem R.bind_ok {α β : Type} {a : α} {g : G} {k : α → G → R β} : R.bind (.ok a g) k = k a g := rfl
@[simp] theorem R.bind_ex {α β : Type} {e : Ex} {g : G} {k : α → G → R β} : R.bind (.ex e g) k = .ex e g := rfl
@[simp] theorem R.bind_bad {α β : Type} {k : α → G → R β} : R.bind (.bad : R α) k = .bad := rfl

/-- longest list, text -/
def LIM : Nat := 16777216
def ofO (o : Option D) (g : G) : R D := match o with
  | some d => .ok d g
  | none => .bad
@[simp] theorem ofO_some {d : D} {g : G} : ofO (some d) g = .ok d g := rfl
@[simp] theorem ofO_none {g : G} : ofO none g = .bad := rfl

/-! ### values -/
mutual
def dep : D → Nat
  | .tup l => depL l + 1
  | .lst l => depL l + 1
  | _ => 0
def depL : List D → Nat
  | [] => 0
  | x :: xs => max (dep x) (depL xs)
end
mutual
/-- none, truths, numbers, texts, lists and tuples of these -/
def isDat : D → Bool
  | .non => true | .bl _ => true | .int _ => true | .str _ => true
  | .tup l => isDatL l
  | .lst l => isDatL l
  | _ => false
def isDatL : List D → Bool
  | [] => true
  | x :: xs => isDat x && isDatL xs
end
mutual
/-- == of such data -/
def eqB : D → D → Bool
  | .non, .non => true
  | .bl a, .bl b => a == b
  | .bl a, .int j => (if a then 1 else 0) == j
  | .int i, .bl b => i == (if b then 1 else 0)
  | .int i, .int j => i == j
  | .str x, .str y => x == y
  | .tup xs, .tup ys => eqBL xs ys
  | .lst xs, .lst ys => eqBL xs ys
  | _, _ => false
def eqBL : List D → List D → Bool
  | [], [] => true
  | x :: xs, y :: ys => eqB x y && eqBL xs ys
  | _, _ => false
end
mutual
/-- nothing that may change within -/
def noLst : D → Bool
  | .lst _ => false | .ins _ _ => false | .dic _ _ => false
  | .tup l => noLstL l
  | _ => true
def noLstL : List D → Bool
  | [] => true
  | x :: xs => noLst x && noLstL xs
end
def shapeOk (a : D) : Bool := isDat a && decide (dep a ≤ 64)
def eqD (a b : D) : Option D := if shapeOk a && shapeOk b then some (.bl (eqB a b)) else none
def neD (a b : D) : Option D := if shapeOk a && shapeOk b then some (.bl (!eqB a b)) else none
def flatD : D → Bool
  | .non => true | .bl _ => true | .int _ => true | .str _ => true | _ => false

def mulOk (i j : Int) : Bool := decide (i.natAbs < 18446744073709551616) || decide (j.natAbs < 18446744073709551616)
def repL {α : Type} (k : Nat) (l : List α) : List α := (List.replicate k l).flatten
def cntOk (n : Nat) (k : Int) : Bool := decide (k.natAbs < 9223372036854775808) && decide (n * k.toNat ≤ LIM)

def addD : D → D → Option D
  | .int i, .int j => some (.int (i + j))
  | .str a, .str b => if a.length + b.length ≤ LIM then some (.str (a ++ b)) else none
  | .tup a, .tup b => if a.length + b.length ≤ LIM then some (.tup (a ++ b)) else none
  | .lst a, .lst b => if a.length + b.length ≤ LIM then some (.lst (a ++ b)) else none
  | _, _ => none
def subD : D → D → Option D
  | .int i, .int j => some (.int (i - j))
  | _, _ => none
def mulD : D → D → Option D
  | .int i, .int j => if mulOk i j then some (.int (i * j)) else none
  | .tup a, .int k => if !a.isEmpty && decide (1 ≤ k) && decide (k ≤ 1000) && decide (a.length ≤ 1000) then some (.tup (repL k.toNat a)) else none
  | .lst a, .int k => if cntOk a.length k then some (.lst (repL k.toNat a)) else none
  | _, _ => none
def modD : D → D → Option D
  | .int i, .int j => if 0 < j then some (.int (i % j)) else none
  | _, _ => none
def fdivD : D → D → Option D
  | .int i, .int j => if 0 < j ∧ j.natAbs < 1073741824 then some (.int (i / j)) else none
  | _, _ => none
def negD : D → Option D
  | .int i => some (.int (-i))
  | _ => none
def ltL : List Nat → List Nat → Bool
  | _, [] => false
  | [], _ :: _ => true
  | x :: xs, y :: ys => if x = y then ltL xs ys else decide (x < y)
def ltD : D → D → Option D
  | .int i, .int j => some (.bl (decide (i < j)))
  | .str a, .str b => some (.bl (ltL a b))
  | _, _ => none
def leD : D → D → Option D
  | .int i, .int j => some (.bl (decide (i ≤ j)))
  | .str a, .str b => some (.bl (!ltL b a))
  | _, _ => none
def gtD (a b : D) : Option D := ltD b a
def geD : D → D → Option D
  | .int i, .int j => some (.bl (decide (j ≤ i)))
  | _, _ => none
/-- is None -/
def isNonD : D → Option D
  | .non => some (.bl true)
  | _ => some (.bl false)
def notNonD : D → Option D
  | .non => some (.bl false)
  | _ => some (.bl true)

/-- a place, from the end below nought -/
def plc (n : Nat) (i : Int) : Option Nat := if 0 ≤ i then (if i < n then some i.toNat else none) else if -(n : Int) ≤ i then some (i + n).toNat else none
def itD {α : Type} (l : List α) (i : Int) : Option α := (plc l.length i).bind fun j => l[j]?
/-- keys: numbers and texts -/
def isKey : D → Bool
  | .int _ => true | .str _ => true | _ => false
def keyB : D → D → Bool
  | .int i, .int j => i == j
  | .str x, .str y => x == y
  | _, _ => false
/-- what a dict has under a key -/
def dGet (k : D) : List D → List D → Option D
  | x :: xs, v :: vs => if keyB x k then some v else dGet k xs vs
  | _, _ => none
def dHas (k : D) (ks : List D) : Bool := ks.any fun x => keyB x k
def dRep (k v : D) : List D → List D → List D
  | x :: xs, u :: us => (if keyB x k then v else u) :: dRep k v xs us
  | _, _ => []
def dPut (k v : D) (ks vs : List D) : D := if dHas k ks then .dic ks (dRep k v ks vs) else .dic (ks ++ [k]) (vs ++ [v])
def ixD : D → D → Option D
  | .tup l, .int i => itD l i
  | .lst l, .int i => itD l i
  | .str s, .int i => (itD s i).map fun c => .str [c]
  | .dic ks vs, .int i => dGet (.int i) ks vs
  | .dic ks vs, .str s => dGet (.str s) ks vs
  | _, _ => none
/-- a slice's bound as a place among n -/
def bnd (n d : Nat) : Option Int → Nat
  | none => d
  | some v => if v < 0 then (v + (n : Int)).toNat else min v.toNat n
def cut {α : Type} (l : List α) (lo hi : Option Int) : List α := (l.drop (bnd l.length 0 lo)).take (bnd l.length l.length hi - bnd l.length 0 lo)
def sliceD (d : D) (lo hi : Option Int) : Option D := match d with
  | .tup l => some (.tup (cut l lo hi))
  | .lst l => some (.lst (cut l lo hi))
  | .str s => some (.str (cut s lo hi))
  | _ => none
def revD : D → Option D
  | .lst l => some (.lst l.reverse)
  | .tup l => some (.tup l.reverse)
  | .str s => some (.str s.reverse)
  | _ => none

def strsD : List D → Option (List (List Nat))
  | [] => some []
  | .str s :: r => (strsD r).map fun l => s :: l
  | _ => none
def joinL (sep : List Nat) : List (List Nat) → List Nat
  | [] => []
  | [x] => x
  | x :: y :: r => x ++ sep ++ joinL sep (y :: r)
def joinS (sep : List Nat) (l : List D) : Option D := (strsD l).bind fun xs => if (xs.map List.length).sum + xs.length * sep.length ≤ LIM then some (.str (joinL sep xs)) else none
def joinD (sep : List Nat) : D → Option D
  | .lst l => joinS sep l
  | .tup l => joinS sep l
  | _ => none
/-- count, index of a single sign; startswith -/
def countD (s : List Nat) : D → Option D
  | .str [c] => some (.int (s.count c))
  | _ => none
def indexD (s : List Nat) : D → Option D
  | .str [c] => if s.contains c then some (.int (s.idxOf c)) else none
  | _ => none
def startsD (s : List Nat) : D → Option D
  | .str t => some (.bl (t.isPrefixOf s))
  | _ => none
/-- in: a sign in a text; flat things in a row -/
def inRow (x : D) (l : List D) : Option Bool := if flatD x && l.all flatD then some (l.any fun y => eqB y x) else none
def inB : D → D → Option Bool
  | .str [c], .str s => some (s.contains c)
  | x, .lst l => inRow x l
  | x, .tup l => inRow x l
  | .int i, .dic ks _ => some (dHas (.int i) ks)
  | .str s, .dic ks _ => some (dHas (.str s) ks)
  | _, _ => none
def inD (x y : D) : Option D := (inB x y).map .bl
def ninD (x y : D) : Option D := (inB x y).map fun b => .bl (!b)
/-- x.index(y): the first place; flat things in a row, a single sign in a text -/
def idxRow (x : D) (l : List D) : Option D := if flatD x && l.all flatD then (l.findIdx? fun y => eqB y x).map fun (j : Nat) => D.int j else none
def idxD : D → D → Option D
  | .lst l, x => idxRow x l
  | .tup l, x => idxRow x l
  | .str s, x => indexD s x
  | _, _ => none
def lenD : List D → Option D
  | [.tup l] => some (.int l.length)
  | [.lst l] => some (.int l.length)
  | [.str s] => some (.int s.length)
  | [.dic ks _] => some (.int ks.length)
  | _ => none
def absD : List D → Option D
  | [.int i] => some (.int (if i < 0 then -i else i))
  | _ => none
def intD : List D → Option D
  | [.int i] => some (.int i)
  | [.bl b] => some (.int (if b then 1 else 0))
  | _ => none
def blsD : List D → Option (List Bool)
  | [] => some []
  | .bl b :: r => (blsD r).map fun l => b :: l
  | _ => none
def allD : List D → Option D
  | [.lst l] => (blsD l).map fun bs => .bl (bs.all id)
  | _ => none
def anyD : List D → Option D
  | [.lst l] => (blsD l).map fun bs => .bl (bs.any id)
  | _ => none
def intsD : List D → Option (List Int)
  | [] => some []
  | .int b :: r => (intsD r).map fun l => b :: l
  | _ => none
def sumD : List D → Option D
  | [.lst l] => (intsD l).map fun ns => .int ns.sum
  | [.tup l] => (intsD l).map fun ns => .int ns.sum
  | _ => none
def tupleD : List D → Option D
  | [.lst l] => some (.tup l)
  | [.tup l] => some (.tup l)
  | _ => none
def listD : List D → Option D
  | [.lst l] => some (.lst l)
  | [.tup l] => some (.lst l)
  | _ => none

/-- the built-in kinds that isinstance asks for -/
inductive Kd where | int | bool | str | tuple | list
  deriving DecidableEq
def isKd : Kd → D → Option D
  | _, .ins _ _ => none
  | _, .fn _ => none
  | _, .gen _ => none
  | _, .dic _ _ => none
  | k, .non => some (.bl false)
  | k, .bl _ => some (.bl (k == .bool || k == .int))
  | k, .int _ => some (.bl (k == .int))
  | k, .str _ => some (.bl (k == .str))
  | k, .tup _ => some (.bl (k == .tuple))
  | k, .lst _ => some (.bl (k == .list))

/-- the j-th field of an instance of the class c; isinstance(.., c) -/
def fldC (c j : Nat) : D → Option D
  | .ins c' fs => if c' = c then fs[j]? else none
  | _ => none
def isC (c : Nat) : D → Option D
  | .ins c' _ => some (.bl (c' == c))
  | .fn _ => none
  | .gen _ => none
  | .dic _ _ => none
  | _ => some (.bl false)
/-! ### expressions -/
def xVar (i : Nat) : X := fun ρ g => match ρ[i]? with
  | some (some d) => .ok d g
  | _ => .bad
def xC (d : D) : X := fun _ g => .ok d g
def xUn (op : D → Option D) (f : X) : X := fun ρ g => (f ρ g).bind fun a g1 => ofO (op a) g1
def xBin (op : D → D → Option D) (f h : X) : X := fun ρ g => (f ρ g).bind fun a g1 => (h ρ g1).bind fun b g2 => ofO (op a b) g2
/-- a op b op' c -/
def xChain (op op' : D → D → Option D) (f h k : X) : X := fun ρ g => (f ρ g).bind fun a g1 => (h ρ g1).bind fun b g2 => match op a b with
  | some (.bl true) => (k ρ g2).bind fun c g3 => ofO (op' b c) g3
  | some (.bl false) => .ok (.bl false) g2
  | _ => .bad
def xAnd (f h : X) : X := fun ρ g => (f ρ g).bind fun a g1 => match a with
  | .bl true => h ρ g1
  | .bl false => .ok (.bl false) g1
  | _ => .bad
def xOr (f h : X) : X := fun ρ g => (f ρ g).bind fun a g1 => match a with
  | .bl false => h ρ g1
  | .bl true => .ok (.bl true) g1
  | _ => .bad
def notD : D → Option D
  | .bl b => some (.bl (!b))
  | _ => none
def xNot (f : X) : X := xUn notD f
def xIf (t : XT) (f h : X) : X := fun ρ g => (t ρ g).bind fun b g1 => match b with
  | true => f ρ g1
  | false => h ρ g1
/-- only where nothing that may change comes out -/
def xFlat (f : X) : X := fun ρ g => (f ρ g).bind fun d g1 => match flatD d with
  | true => .ok d g1
  | false => .bad
/-- a method of a text, one argument -/
def xSM (op : List Nat → D → Option D) (f h : X) : X := fun ρ g => (f ρ g).bind fun d g1 => match d with
  | .str s => (h ρ g1).bind fun e g2 => ofO (op s e) g2
  | _ => .bad
def isSeq : D → Bool
  | .lst _ => true | .tup _ => true | .str _ => true | _ => false
def xIdx (f h : X) : X := fun ρ g => (f ρ g).bind fun a g1 => match isSeq a with
  | true => (h ρ g1).bind fun b g2 => ofO (idxD a b) g2
  | false => .bad
/-! tests -/
def tV (f : X) : XT := fun ρ g => (f ρ g).bind fun d g1 => match d with
  | .bl b => .ok b g1
  | _ => .bad
def tAnd (t u : XT) : XT := fun ρ g => (t ρ g).bind fun b g1 => match b with
  | true => u ρ g1
  | false => .ok false g1
def tOr (t u : XT) : XT := fun ρ g => (t ρ g).bind fun b g1 => match b with
  | true => .ok true g1
  | false => u ρ g1
def tNot (t : XT) : XT := fun ρ g => (t ρ g).bind fun b g1 => .ok (!b) g1
def tYes : XT := fun _ g => .ok true g
/-! arguments, displays, calls -/
def aNil : XA := fun _ g => .ok [] g
def aCons (f : X) (a : XA) : XA := fun ρ g => (f ρ g).bind fun d g1 => (a ρ g1).bind fun ds g2 => .ok (d :: ds) g2
def xTup (a : XA) : X := fun ρ g => (a ρ g).bind fun ds g1 => match decide (ds.length ≤ LIM) with
  | true => .ok (.tup ds) g1
  | false => .bad
def xLst (a : XA) : X := fun ρ g => (a ρ g).bind fun ds g1 => match decide (ds.length ≤ LIM) with
  | true => .ok (.lst ds) g1
  | false => .bad
def xCB (op : List D → Option D) (a : XA) : X := fun ρ g => (a ρ g).bind fun ds g1 => ofO (op ds) g1
def xCall (F : FN) (a : XA) : X := fun ρ g => (a ρ g).bind fun ds g1 => F ds g1
/-- the call of a value: tbl tells the defs by their numbers -/
def xCallV (tbl : Nat → FN) (f : X) (a : XA) : X := fun ρ g => (f ρ g).bind fun d g1 => match d with
  | .fn n => (a ρ g1).bind fun ds g2 => tbl n ds g2
  | _ => .bad
def xSlice (f : X) (lo hi : Option X) : X := fun ρ g => (f ρ g).bind fun d g1 =>
  let part (o : Option X) (g : G) (k : Option Int → G → R D) : R D := match o with
    | none => k none g
    | some h => (h ρ g).bind fun b g' => match b with
      | .int i => k (some i) g'
      | _ => .bad
  part lo g1 fun l g2 => part hi g2 fun h g3 => ofO (sliceD d l h) g3
/-! targets -/
def gName (i : Nat) : TG := fun d ρ => if i < ρ.length then some (ρ.set i (some d)) else none
def gSeq : List TG → List D → Env → Option Env
  | [], [], ρ => some ρ
  | t :: ts, d :: ds, ρ => (t d ρ).bind fun ρ1 => gSeq ts ds ρ1
  | _, _, _ => none
def gTup (ts : List TG) : TG := fun d ρ => match d with
  | .tup l => gSeq ts l ρ
  | .lst l => gSeq ts l ρ
  | _ => none
/-! what is walked -/
def iSeq (f : X) : XA := fun ρ g => (f ρ g).bind fun d g1 => match d with
  | .tup l => .ok l g1
  | .lst l => .ok l g1
  | .str s => .ok (s.map fun c => .str [c]) g1
  | _ => .bad
def rngL (a : Int) (n : Nat) : List D := (List.range n).map fun (i : Nat) => D.int (a + (i : Int))
def rngOk (i : Int) : Bool := decide (i.natAbs < 4611686018427387904)
def iRng1 (f : X) : XA := fun ρ g => (f ρ g).bind fun b g2 => match b with
  | .int j => (match rngOk j && decide (j.toNat ≤ LIM) with
    | true => .ok (rngL 0 j.toNat) g2
    | false => .bad)
  | _ => .bad
def iRng (f h : X) : XA := fun ρ g => (f ρ g).bind fun a g1 => (h ρ g1).bind fun b g2 => match a, b with
  | .int i, .int j => (match rngOk i && rngOk j && decide ((j - i).toNat ≤ LIM) with
    | true => .ok (rngL i (j - i).toNat) g2
    | false => .bad)
  | _, _ => .bad
def zipL (a b : List D) : List D := (a.zip b).map fun p => .tup [p.1, p.2]
def seqD : D → Option (List D)
  | .tup l => some l
  | .lst l => some l
  | _ => none
def iZip (f h : X) : XA := fun ρ g => (f ρ g).bind fun a g1 => (h ρ g1).bind fun b g2 => match a, b with
  | .tup l, .tup m => .ok (zipL l m) g2
  | .lst l, .lst m => .ok (zipL l m) g2
  | _, _ => .bad
/-- list(zip(f, h)) -/
def xLZip (f h : X) : X := fun ρ g => (f ρ g).bind fun a g1 => (h ρ g1).bind fun b g2 => match a, b with
  | .tup l, .tup m => .ok (.lst (zipL l m)) g2
  | _, _ => .bad
def enumL (a : List D) : List D := zipL (rngL 0 a.length) a
def iEnum (f : X) : XA := fun ρ g => (f ρ g).bind fun a g1 => match a with
  | .lst l => .ok (enumL l) g1
  | _ => .bad
/-- what may be walked, as data -/
def walkD : D → Option (List D)
  | .tup l => some l
  | .lst l => some l
  | .str s => some (s.map fun c => .str [c])
  | _ => none
def iZipA (f h : X) : XA := fun ρ g => (f ρ g).bind fun a g1 => (h ρ g1).bind fun b g2 => match walkD a, walkD b with
  | some l, some m => .ok (zipL l m) g2
  | _, _ => .bad
def iEnumA (f : X) : XA := fun ρ g => (f ρ g).bind fun a g1 => match walkD a with
  | some l => .ok (enumL l) g1
  | none => .bad
/-! a comprehension: an exception within is not told -/
def lcL (tg : TG) (t : XT) (e : X) (ρ : Env) : List D → G → R (List D)
  | [], g => .ok [] g
  | d :: ds, g => match tg d ρ with
    | none => .bad
    | some ρ1 => match t ρ1 g with
      | .ok true g1 => (match e ρ1 g1 with
        | .ok y g2 => (match lcL tg t e ρ ds g2 with
          | .ok ys g3 => .ok (y :: ys) g3
          | _ => .bad)
        | _ => .bad)
      | .ok false g1 => lcL tg t e ρ ds g1
      | _ => .bad
def wipe {α : Type} : List Nat → List (Option α) → List (Option α)
  | [], l => l
  | v :: vs, l => (wipe vs l).set v none
def xLc (own : List Nat) (it : XA) (tg : TG) (t : XT) (e : X) : X := fun ρ g => (it ρ g).bind fun ds g1 =>
  match lcL tg t e (wipe own ρ) ds g1 with
  | .ok ys g2 => .ok (.lst ys) g2
  | _ => .bad
/-- .. and one that lets exceptions out -/
def lcLE (tg : TG) (t : XT) (e : X) (ρ : Env) : List D → G → R (List D)
  | [], g => .ok [] g
  | d :: ds, g => match tg d ρ with
    | none => .bad
    | some ρ1 => (t ρ1 g).bind fun b g1 => match b with
      | true => (e ρ1 g1).bind fun y g2 => (lcLE tg t e ρ ds g2).bind fun ys g3 => .ok (y :: ys) g3
      | false => lcLE tg t e ρ ds g1
def xLcE (own : List Nat) (it : XA) (tg : TG) (t : XT) (e : X) : X := fun ρ g => (it ρ g).bind fun ds g1 => (lcLE tg t e (wipe own ρ) ds g1).bind fun ys g2 => .ok (.lst ys) g2

/-! ### statements -/
inductive O where
  | nx (ρ : Env) (g : G) | rt (d : D) (g : G) | bk (ρ : Env) (g : G) | ct (ρ : Env) (g : G) | ex (e : Ex) (ρ : Env) (g : G) | bad
abbrev S := Env → G → O
def R.to {α : Type} (x : R α) (ρ : Env) (k : α → G → O) : O := match x with
  | .ok a g => k a g
  | .ex e g => .ex e ρ g
  | .bad => .bad
@[simp] theorem R.to_ok {α : Type} {a : α} {g : G} {ρ : Env} {k : α → G → O} : R.to (.ok a g) ρ k = k a g := rfl
@[simp] theorem R.to_ex {α : Type} {e : Ex} {g : G} {ρ : Env} {k : α → G → O} : R.to (.ex e g : R α) ρ k = .ex e ρ g := rfl
@[simp] theorem R.to_bad {α : Type} {ρ : Env} {k : α → G → O} : R.to (.bad : R α) ρ k = .bad := rfl
def sNop : S := fun ρ g => .nx ρ g
def sSeq (a b : S) : S := fun ρ g => match a ρ g with
  | .nx ρ1 g1 => b ρ1 g1
  | o => o
def sBrk : S := fun ρ g => .bk ρ g
def sCont : S := fun ρ g => .ct ρ g
def sSet (tg : TG) (f : X) : S := fun ρ g => (f ρ g).to ρ fun d g1 => match tg d ρ with
  | some ρ1 => .nx ρ1 g1
  | none => .bad
/-- i, j = f, h: stored from the right -/
def sPar (i j : Nat) (f h : X) : S := fun ρ g => (f ρ g).to ρ fun a g1 => (h ρ g1).to ρ fun b g2 => if i < ρ.length ∧ j < ρ.length then .nx ((ρ.set i (some a)).set j (some b)) g2 else .bad
def sIf (t : XT) (a b : S) : S := fun ρ g => (t ρ g).to ρ fun c g1 => match c with
  | true => a ρ g1
  | false => b ρ g1
def sRet (f : X) : S := fun ρ g => (f ρ g).to ρ fun d g1 => .rt d g1
def sExpr (f : X) : S := fun ρ g => (f ρ g).to ρ fun _ g1 => .nx ρ g1
/-- slots that nobody reads any more -/
def sKill (is : List Nat) : S := fun ρ g => .nx (wipe is ρ) g
/-- raise c(..) -/
def sRaise (c : Nat) (a : XA) : S := fun ρ g => (a ρ g).to ρ fun ds g1 => .ex (.mk c ds) ρ g1
def sApp (i : Nat) (f : X) : S := fun ρ g => match ρ[i]? with
  | some (some (.lst _)) => (f ρ g).to ρ fun d g1 => (match ρ[i]? with
    | some (some (.lst l)) => (match decide (l.length < LIM) with
      | true => .nx (ρ.set i (some (.lst (l ++ [d])))) g1
      | false => .bad)
    | _ => .bad)
  | _ => .bad
def sExt (i : Nat) (f : X) : S := fun ρ g => match ρ[i]? with
  | some (some (.lst l)) => (f ρ g).to ρ fun d g1 => (match d with
    | .lst m => (match decide (l.length + m.length ≤ LIM) with
      | true => .nx (ρ.set i (some (.lst (l ++ m)))) g1
      | false => .bad)
    | _ => .bad)
  | _ => .bad
/-- the last of a list of one's own is taken away: for nothing, into a target -/
def sPop (i : Nat) : S := fun ρ g => match ρ[i]? with
  | some (some (.lst l)) => (match l.getLast? with
    | some _ => .nx (ρ.set i (some (.lst l.dropLast))) g
    | none => .bad)
  | _ => .bad
def sPopTo (tg : TG) (i : Nat) : S := fun ρ g => match ρ[i]? with
  | some (some (.lst l)) => (match l.getLast? with
    | some d => (match tg d (ρ.set i (some (.lst l.dropLast))) with
      | some ρ1 => .nx ρ1 g
      | none => .bad)
    | none => .bad)
  | _ => .bad
/-- xs[k] = f, xs one's own -/
def sPut (i : Nat) (fk f : X) : S := fun ρ g => (f ρ g).to ρ fun d g1 => (fk ρ g1).to ρ fun k g2 => match ρ[i]?, k with
  | some (some (.lst l)), .int z => (match plc l.length z with
    | some j => .nx (ρ.set i (some (.lst (l.set j d)))) g2
    | none => .bad)
  | some (some (.dic ks vs)), .int z => (match decide (ks.length < LIM) with
    | true => .nx (ρ.set i (some (dPut (.int z) d ks vs))) g2
    | false => .bad)
  | some (some (.dic ks vs)), .str z => (match decide (ks.length < LIM) with
    | true => .nx (ρ.set i (some (dPut (.str z) d ks vs))) g2
    | false => .bad)
  | _, _ => .bad
def forL (tg : TG) (b : S) : List D → Env → G → O
  | [], ρ, g => .nx ρ g
  | d :: ds, ρ, g => match tg d ρ with
    | none => .bad
    | some ρ1 => match b ρ1 g with
      | .nx ρ2 g2 => forL tg b ds ρ2 g2
      | .ct ρ2 g2 => forL tg b ds ρ2 g2
      | .bk ρ2 g2 => .nx ρ2 g2
      | o => o
def sFor (tg : TG) (it : XA) (b : S) : S := fun ρ g => (it ρ g).to ρ fun ds g1 => forL tg b ds ρ g1
def whileL (t : XT) (b : S) : Nat → Env → G → O
  | 0, _, _ => .bad
  | n + 1, ρ, g => (t ρ g).to ρ fun c g1 => match c with
    | false => .nx ρ g1
    | true => match b ρ g1 with
      | .nx ρ2 g2 => whileL t b n ρ2 g2
      | .ct ρ2 g2 => whileL t b n ρ2 g2
      | .bk ρ2 g2 => .nx ρ2 g2
      | o => o
def sWhile (n : Nat) (t : XT) (b : S) : S := fun ρ g => whileL t b n ρ g
/-- except clauses: by class; some i: the exception is put to the slot i, and the suite hands back plain data -/
def noExO : O → O
  | .ex _ _ _ => .bad
  | o => o
def handleL (c : Nat) (pay : List D) (ρ : Env) (g : G) : List (Nat × Option Nat × S) → O
  | [] => .ex (.mk c pay) ρ g
  | (n, none, s) :: r => if n = c then noExO (s ρ g) else handleL c pay ρ g r
  | (n, some i, s) :: r => if n = c then (match pay, s (ρ.set i (some (.ins c pay))) g with
    | _ :: _, .rt d g2 => (match isDat d with
      | true => .rt d g2
      | false => .bad)
    | _, _ => .bad) else handleL c pay ρ g r
def sTry (b : S) (hs : List (Nat × Option Nat × S)) : S := fun ρ g => match b ρ g with
  | .ex (.mk c pay) ρ1 g1 => handleL c pay ρ1 g1 hs
  | o => o
/-- e.f: the k-th field -/
def fldD (k : Nat) : D → Option D
  | .ins _ fs => fs[k]?
  | _ => none
/-- an __init__: statements, then the fields in order -/
abbrev XJ := Env → G → R (List D)
def jNil : XJ := fun _ g => .ok [] g
def jFld (f : X) (r : XJ) : XJ := fun ρ g => (f ρ g).bind fun d g1 => (r ρ g1).bind fun ds g2 => .ok (d :: ds) g2
def jSeq (s : S) (r : XJ) : XJ := fun ρ g => match s ρ g with
  | .nx ρ1 g1 => r ρ1 g1
  | .ex e _ g1 => .ex e g1
  | _ => .bad
/-- slot 0 is the new instance, at a, which nobody reads -/
def initOf (c n : Nat) (b : XJ) (a : Nat) : FN := fun ds g => (b (some (.gen a) :: ds.map some ++ List.replicate (n - 1 - ds.length) none) g).bind fun fs g1 => .ok (.ins c fs) g1
/-- a method of the class c: the instance is the first argument -/
def xMeth (c : Nat) (F : FN) (o : X) (a : XA) : X := fun ρ g => (o ρ g).bind fun d g1 => match d with
  | .ins c' fs => (match decide (c' = c) with
    | true => (a ρ g1).bind fun ds g2 => F (.ins c' fs :: ds) g2
    | false => .bad)
  | _ => .bad
/-- a def from its body: n slots -/
def fnOf (n : Nat) (b : S) : FN := fun ds g => match b (ds.map some ++ List.replicate (n - ds.length) none) g with
  | .rt d g1 => .ok d g1
  | .nx _ g1 => .ok .non g1
  | .ex e _ g1 => .ex e g1
  | _ => .bad
/-- a def that hands back a new list or dict, the caller's own; it never ends without a return -/
def fnFof (n : Nat) (b : S) : FN := fun ds g => match b (ds.map some ++ List.replicate (n - ds.length) none) g with
  | .rt d g1 => .ok d g1
  | .ex e _ g1 => .ex e g1
  | _ => .bad
/-! the draw -/
def tkG (g : G) (m : Int) : Int × G := if 0 < g.s then (g.s % m, { g with s := g.s / m }) else
  let t' := (g.t * 48271 + 11) % 2147483647
  ((t' / 7) % m, { g with t := t' })
def takeF : FN := fun ds g => match ds with
  | [.gen a, .int m] => if g.on = true ∧ a = g.at_ ∧ 0 < m ∧ m.natAbs < 1000000000000000000 then .ok (.int (tkG g m).1) (tkG g m).2 else .bad
  | _ => .bad
end PP

/-! PPV: how PP's functions run: rows for loops and comprehensions (core Lean alone). -/
namespace PP
set_option linter.all false

theorem xVar_eq {ρ : Env} {i : Nat} {d : D} {g : G} (h : ρ[i]? = some (some d)) : xVar i ρ g = .ok d g := by unfold xVar; rw [h]
/-- a comprehension that draws nothing -/
theorem lcL_pure {tg : TG} {t : XT} {e : X} {ρ : Env} {g : G} (f : D → D) (p : D → Bool) : ∀ {ds : List D}, (∀ d ∈ ds, ∃ ρ1, tg d ρ = some ρ1 ∧ t ρ1 g = .ok (p d) g ∧ (p d = true → e ρ1 g = .ok (f d) g)) →
    lcL tg t e ρ ds g = .ok ((ds.filter p).map f) g
  | [], _ => rfl
  | d :: ds, h => by
    obtain ⟨ρ1, h1, h2, h3⟩ := h d (by simp)
    have ih := lcL_pure (ds := ds) f p fun x hx => h x (by simp [hx])
    unfold lcL
    rw [h1]
    simp only
    rw [h2]
    cases hp : p d with
    | false => simp [hp, ih]
    | true => simp [hp, ih, h3 hp]
theorem lcL_map {tg : TG} {e : X} {ρ : Env} {g : G} (f : D → D) {ds : List D} (h : ∀ d ∈ ds, ∃ ρ1, tg d ρ = some ρ1 ∧ e ρ1 g = .ok (f d) g) : lcL tg tYes e ρ ds g = .ok (ds.map f) g := by
  have := lcL_pure (t := tYes) (e := e) (tg := tg) (ρ := ρ) (g := g) f (fun _ => true) (ds := ds) fun d hd => by
    obtain ⟨ρ1, h1, h2⟩ := h d hd
    exact ⟨ρ1, h1, rfl, fun _ => h2⟩
  rw [this]
  congr 1
  congr 1
  exact List.filter_eq_self.mpr fun _ _ => rfl
/-- a comprehension that draws: I holds of the draw, P of each that comes out -/
theorem lcL_draw {tg : TG} {e : X} {ρ : Env} (I : G → Prop) (P : D → Prop) : ∀ {ds : List D} {g : G}, I g → (∀ d ∈ ds, ∀ g, I g → ∃ ρ1 y g1, tg d ρ = some ρ1 ∧ e ρ1 g = .ok y g1 ∧ P y ∧ I g1) →
    ∃ ys g1, lcL tg tYes e ρ ds g = .ok ys g1 ∧ ys.length = ds.length ∧ (∀ y ∈ ys, P y) ∧ I g1
  | [], g, hg, _ => ⟨[], g, rfl, rfl, by simp, hg⟩
  | d :: ds, g, hg, h => by
    obtain ⟨ρ1, y, g1, h1, h2, h3, h4⟩ := h d (by simp) g hg
    obtain ⟨ys, g2, k1, k2, k3, k4⟩ := lcL_draw (ds := ds) (g := g1) I P h4 fun x hx => h x (by simp [hx])
    refine ⟨y :: ys, g2, ?_, by simp [k2], ?_, k4⟩
    · unfold lcL
      rw [h1]
      simp only
      simp only [tYes]
      rw [h2]
      simp only
      rw [k1]
    · intro z hz
      rcases List.mem_cons.mp hz with rfl | hz
      · exact h3
      · exact k3 z hz
inductive All2 {α β : Type} (P : α → β → Prop) : List α → List β → Prop
  | nil : All2 P [] []
  | cons {a : α} {b : β} {as : List α} {bs : List β} (h : P a b) (t : All2 P as bs) : All2 P (a :: as) (b :: bs)
/-- the same, each with what it comes from -/
theorem lcL_draw2 {tg : TG} {e : X} {ρ : Env} (I : G → Prop) (P : D → D → Prop) : ∀ {ds : List D} {g : G}, I g → (∀ d ∈ ds, ∀ g, I g → ∃ ρ1 y g1, tg d ρ = some ρ1 ∧ e ρ1 g = .ok y g1 ∧ P d y ∧ I g1) →
    ∃ ys g1, lcL tg tYes e ρ ds g = .ok ys g1 ∧ All2 P ds ys ∧ I g1
  | [], g, hg, _ => ⟨[], g, rfl, .nil, hg⟩
  | d :: ds, g, hg, h => by
    obtain ⟨ρ1, y, g1, h1, h2, h3, h4⟩ := h d (by simp) g hg
    obtain ⟨ys, g2, k1, k2, k4⟩ := lcL_draw2 (ds := ds) (g := g1) I P h4 fun x hx => h x (by simp [hx])
    refine ⟨y :: ys, g2, ?_, .cons h3 k2, k4⟩
    unfold lcL
    rw [h1]
    simp only [tYes]
    rw [h2]
    simp only
    rw [k1]
theorem xLc_of {own : List Nat} {it : XA} {tg : TG} {t : XT} {e : X} {ρ : Env} {g g1 g2 : G} {ds ys : List D} (h1 : it ρ g = .ok ds g1) (h2 : lcL tg t e (wipe own ρ) ds g1 = .ok ys g2) : xLc own it tg t e ρ g = .ok (.lst ys) g2 := by
  unfold xLc
  rw [h1]
  simp only [R.bind_ok]
  rw [h2]
/-- a loop: the slots as a function of what is kept -/
theorem forL_fold {α : Type} {tg : TG} {b : S} {g : G} (E : α → Env) (step : α → D → α) (I : α → Prop) : ∀ {ds : List D} {s : α}, I s → (∀ d ∈ ds, ∀ s, I s → ∃ ρ1, tg d (E s) = some ρ1 ∧ b ρ1 g = .nx (E (step s d)) g ∧ I (step s d)) →
    forL tg b ds (E s) g = .nx (E (ds.foldl step s)) g
  | [], s, _, _ => rfl
  | d :: ds, s, hs, h => by
    obtain ⟨ρ1, h1, h2, h3⟩ := h d (by simp) s hs
    unfold forL
    rw [h1]
    simp only
    rw [h2]
    exact forL_fold (ds := ds) E step I h3 fun x hx => h x (by simp [hx])
/-- a loop with a row of states that is told -/
theorem forL_seq {tg : TG} {b : S} {g : G} (E : Nat → Env) : ∀ {ds : List D} (k : Nat), (∀ i (h : i < ds.length), ∃ ρ1, tg ds[i] (E (k + i)) = some ρ1 ∧ b ρ1 g = .nx (E (k + i + 1)) g) →
    forL tg b ds (E k) g = .nx (E (k + ds.length)) g
  | [], _, _ => rfl
  | d :: ds, k, h => by
    obtain ⟨ρ1, h1, h2⟩ := h 0 (by simp)
    unfold forL
    have h1' : tg d (E k) = some ρ1 := h1
    rw [h1']
    simp only
    have h2' : b ρ1 g = .nx (E (k + 1)) g := h2
    rw [h2']
    simp only
    rw [forL_seq (ds := ds) E (k + 1) fun i hi => by
      obtain ⟨ρ2, k1, k2⟩ := h (i + 1) (by simpa using hi)
      refine ⟨ρ2, ?_, ?_⟩
      · rw [← k1]
        simp only [List.getElem_cons_succ]
        congr 2
        omega
      · rw [k2]
        congr 2
        omega]
    simp only [List.length_cons]
    congr 2
    omega
theorem forL_nx {tg : TG} {b : S} {d : D} {ds : List D} {ρ ρ1 ρ2 : Env} {g g2 : G} (h1 : tg d ρ = some ρ1) (h2 : b ρ1 g = .nx ρ2 g2) : forL tg b (d :: ds) ρ g = forL tg b ds ρ2 g2 := by
  rw [forL, h1]
  simp only
  rw [h2]
theorem sFor_of {tg : TG} {it : XA} {b : S} {ρ : Env} {g g1 : G} {ds : List D} {o : O} (h : it ρ g = .ok ds g1) (h2 : forL tg b ds ρ g1 = o) : sFor tg it b ρ g = o := by
  unfold sFor
  rw [h]
  exact h2
theorem seq_nx {a b : S} {ρ ρ1 : Env} {g g1 : G} (h : a ρ g = .nx ρ1 g1) : sSeq a b ρ g = b ρ1 g1 := by unfold sSeq; rw [h]
theorem seq_ex {a b : S} {ρ ρ1 : Env} {g g1 : G} {e : Ex} (h : a ρ g = .ex e ρ1 g1) : sSeq a b ρ g = .ex e ρ1 g1 := by unfold sSeq; rw [h]
theorem seq_rt {a b : S} {ρ : Env} {g g1 : G} {d : D} (h : a ρ g = .rt d g1) : sSeq a b ρ g = .rt d g1 := by unfold sSeq; rw [h]
theorem fnOf_rt {n : Nat} {b : S} {ds : List D} {g g1 : G} {d : D} (h : b (ds.map some ++ List.replicate (n - ds.length) none) g = .rt d g1) : fnOf n b ds g = .ok d g1 := by unfold fnOf; rw [h]
theorem fnOf_nx {n : Nat} {b : S} {ds : List D} {g g1 : G} {ρ : Env} (h : b (ds.map some ++ List.replicate (n - ds.length) none) g = .nx ρ g1) : fnOf n b ds g = .ok .non g1 := by unfold fnOf; rw [h]
theorem fnOf_ex {n : Nat} {b : S} {ds : List D} {g g1 : G} {e : Ex} {ρ : Env} (h : b (ds.map some ++ List.replicate (n - ds.length) none) g = .ex e ρ g1) : fnOf n b ds g = .ex e g1 := by unfold fnOf; rw [h]
theorem takeF_eq {a : Nat} {m : Int} {g : G} (h1 : g.on = true) (h2 : g.at_ = a) (h3 : 0 < m) (h4 : m < 1000000000000000000) : takeF [.gen a, .int m] g = .ok (.int (tkG g m).1) (tkG g m).2 := by
  unfold takeF
  simp only
  rw [if_pos ⟨h1, h2.symm, h3, by omega⟩]
theorem tkG_lo {g : G} {m : Int} (h : 0 < m) : 0 ≤ (tkG g m).1 ∧ (tkG g m).1 < m := by
  unfold tkG
  split
  · exact ⟨Int.emod_nonneg _ (by omega), Int.emod_lt_of_pos _ h⟩
  · exact ⟨Int.emod_nonneg _ (by omega), Int.emod_lt_of_pos _ h⟩
/-- the law's drawing state at a -/
structure Gn (a : Nat) (g : G) : Prop where
  on : g.on = true
  at_ : g.at_ = a
theorem take_ex {a : Nat} {m : Int} {g : G} (h : Gn a g) (h3 : 0 < m) (h4 : m < 1000000000000000000) : ∃ v g1, takeF [.gen a, .int m] g = .ok (.int v) g1 ∧ 0 ≤ v ∧ v < m ∧ Gn a g1 := by
  refine ⟨_, _, takeF_eq h.on h.at_ h3 h4, (tkG_lo h3).1, (tkG_lo h3).2, ?_, ?_⟩
  · unfold tkG; split <;> exact h.on
  · unfold tkG; split <;> exact h.at_
theorem blsD_map : ∀ l : List Bool, blsD (l.map .bl) = some l
  | [] => rfl
  | b :: l => by simp [blsD, blsD_map l]
theorem intsD_map : ∀ l : List Int, intsD (l.map .int) = some l
  | [] => rfl
  | b :: l => by simp [intsD, intsD_map l]
mutual
theorem eqB_refl : ∀ d : D, isDat d = true → eqB d d = true
  | .non, _ => rfl
  | .bl _, _ => by simp [eqB]
  | .int _, _ => by simp [eqB]
  | .str _, _ => by simp [eqB]
  | .tup l, h => by simp only [eqB]; exact eqBL_refl l (by simpa [isDat] using h)
  | .lst l, h => by simp only [eqB]; exact eqBL_refl l (by simpa [isDat] using h)
  | .fn _, h => by simp [isDat] at h
  | .gen _, h => by simp [isDat] at h
  | .ins _ _, h => by simp [isDat] at h
theorem eqBL_refl : ∀ l : List D, isDatL l = true → eqBL l l = true
  | [], _ => rfl
  | d :: l, h => by
    simp only [isDatL, Bool.and_eq_true] at h
    simp [eqBL, eqB_refl d h.1, eqBL_refl l h.2]
end
theorem eqD_refl {d : D} (h : shapeOk d = true) : eqD d d = some (.bl true) := by
  have h1 : isDat d = true := by simp only [shapeOk, Bool.and_eq_true] at h; exact h.1
  simp [eqD, h, eqB_refl d h1]
theorem neD_refl {d : D} (h : shapeOk d = true) : neD d d = some (.bl false) := by
  have h1 : isDat d = true := by simp only [shapeOk, Bool.and_eq_true] at h; exact h.1
  simp [neD, h, eqB_refl d h1]
theorem isDatL_ints : ∀ l : List Int, isDatL (l.map .int) = true
  | [] => rfl
  | _ :: l => by simp [isDatL, isDat, isDatL_ints l]
theorem depL_ints : ∀ l : List Int, depL (l.map .int) = 0
  | [] => rfl
  | _ :: l => by simp [depL, dep, depL_ints l]
theorem shape_ints (l : List Int) : shapeOk (.tup (l.map .int)) = true := by simp [shapeOk, isDat, isDatL_ints, dep, depL_ints]
theorem shape_intl (l : List Int) : shapeOk (.lst (l.map .int)) = true := by simp [shapeOk, isDat, isDatL_ints, dep, depL_ints]
@[simp] theorem shape_int (i : Int) : shapeOk (.int i) = true := by simp [shapeOk, isDat, dep]
@[simp] theorem shape_bl (i : Bool) : shapeOk (.bl i) = true := by simp [shapeOk, isDat, dep]
@[simp] theorem shape_str (i : List Nat) : shapeOk (.str i) = true := by simp [shapeOk, isDat, dep]
@[simp] theorem shape_non : shapeOk .non = true := by simp [shapeOk, isDat, dep]
theorem eqD_int (i j : Int) : eqD (.int i) (.int j) = some (.bl (i == j)) := by simp [eqD, eqB]
theorem neD_int (i j : Int) : neD (.int i) (.int j) = some (.bl (!(i == j))) := by simp [neD, eqB]
theorem eqBL_ints : ∀ a b : List Int, eqBL (a.map .int) (b.map .int) = (a == b)
  | [], [] => rfl
  | [], _ :: _ => rfl
  | _ :: _, [] => rfl
  | x :: xs, y :: ys => by simp [eqBL, eqB, eqBL_ints xs ys]
theorem eqD_ints (a b : List Int) : eqD (.tup (a.map .int)) (.tup (b.map .int)) = some (.bl (a == b)) := by simp [eqD, shape_ints, eqB, eqBL_ints]
theorem neD_ints (a b : List Int) : neD (.tup (a.map .int)) (.tup (b.map .int)) = some (.bl (!(a == b))) := by simp [neD, shape_ints, eqB, eqBL_ints]

/-! ### the rows by which simp runs a text -/
section
variable {ρ : Env} {g : G} {f h k : X} {a : XA} {t u : XT}
@[simp] theorem ev_v0 {d : D} {ρ : Env} : xVar 0 (some d :: ρ) g = .ok d g := rfl
@[simp] theorem ev_vs {o : Option D} {i : Nat} {ρ : Env} : xVar (i + 1) (o :: ρ) g = xVar i ρ g := rfl
@[simp] theorem ev_c {d : D} : xC d ρ g = .ok d g := rfl
@[simp] theorem ev_un {op : D → Option D} : xUn op f ρ g = (f ρ g).bind fun a g1 => ofO (op a) g1 := rfl
@[simp] theorem ev_bin {op : D → D → Option D} : xBin op f h ρ g = (f ρ g).bind fun a g1 => (h ρ g1).bind fun b g2 => ofO (op a b) g2 := rfl
@[simp] theorem ev_chain {op op' : D → D → Option D} : xChain op op' f h k ρ g = (f ρ g).bind fun a g1 => (h ρ g1).bind fun b g2 => match op a b with
  | some (.bl true) => (k ρ g2).bind fun c g3 => ofO (op' b c) g3
  | some (.bl false) => .ok (.bl false) g2
  | _ => .bad := rfl
@[simp] theorem ev_and : xAnd f h ρ g = (f ρ g).bind fun a g1 => match a with
  | .bl true => h ρ g1
  | .bl false => .ok (.bl false) g1
  | _ => .bad := rfl
@[simp] theorem ev_or : xOr f h ρ g = (f ρ g).bind fun a g1 => match a with
  | .bl false => h ρ g1
  | .bl true => .ok (.bl true) g1
  | _ => .bad := rfl
@[simp] theorem ev_not : xNot f ρ g = (f ρ g).bind fun a g1 => ofO (notD a) g1 := rfl
@[simp] theorem ev_if : xIf t f h ρ g = (t ρ g).bind fun b g1 => match b with
  | true => f ρ g1
  | false => h ρ g1 := rfl
@[simp] theorem ev_tV : tV f ρ g = (f ρ g).bind fun d g1 => match d with
  | .bl b => .ok b g1
  | _ => .bad := rfl
@[simp] theorem ev_tAnd : tAnd t u ρ g = (t ρ g).bind fun b g1 => match b with
  | true => u ρ g1
  | false => .ok false g1 := rfl
@[simp] theorem ev_tOr : tOr t u ρ g = (t ρ g).bind fun b g1 => match b with
  | true => .ok true g1
  | false => u ρ g1 := rfl
@[simp] theorem ev_tNot : tNot t ρ g = (t ρ g).bind fun b g1 => .ok (!b) g1 := rfl
@[simp] theorem ev_nil : aNil ρ g = .ok [] g := rfl
@[simp] theorem ev_cons : aCons f a ρ g = (f ρ g).bind fun d g1 => (a ρ g1).bind fun ds g2 => .ok (d :: ds) g2 := rfl
@[simp] theorem ev_tup : xTup a ρ g = (a ρ g).bind fun ds g1 => match decide (ds.length ≤ LIM) with
  | true => .ok (.tup ds) g1
  | false => .bad := rfl
@[simp] theorem ev_lst : xLst a ρ g = (a ρ g).bind fun ds g1 => match decide (ds.length ≤ LIM) with
  | true => .ok (.lst ds) g1
  | false => .bad := rfl
@[simp] theorem ev_cb {op : List D → Option D} : xCB op a ρ g = (a ρ g).bind fun ds g1 => ofO (op ds) g1 := rfl
@[simp] theorem ev_call {F : FN} : xCall F a ρ g = (a ρ g).bind fun ds g1 => F ds g1 := rfl
@[simp] theorem ev_callV {tbl : Nat → FN} : xCallV tbl f a ρ g = (f ρ g).bind fun d g1 => match d with
  | .fn n => (a ρ g1).bind fun ds g2 => tbl n ds g2
  | _ => .bad := rfl
@[simp] theorem ev_sl00 : xSlice f none none ρ g = (f ρ g).bind fun d g1 => ofO (sliceD d none none) g1 := rfl
@[simp] theorem ev_sl10 : xSlice f (some h) none ρ g = (f ρ g).bind fun d g1 => (h ρ g1).bind fun b g' => match b with
  | .int i => ofO (sliceD d (some i) none) g'
  | _ => .bad := rfl
@[simp] theorem ev_sl01 : xSlice f none (some h) ρ g = (f ρ g).bind fun d g1 => (h ρ g1).bind fun b g' => match b with
  | .int i => ofO (sliceD d none (some i)) g'
  | _ => .bad := rfl
@[simp] theorem ev_sl11 : xSlice f (some h) (some k) ρ g = (f ρ g).bind fun d g1 => (h ρ g1).bind fun b g' => match b with
  | .int i => (k ρ g').bind fun b2 g2 => match b2 with
    | .int j => ofO (sliceD d (some i) (some j)) g2
    | _ => .bad
  | _ => .bad := rfl
@[simp] theorem ev_gName {i : Nat} {d : D} (hi : i < ρ.length) : gName i d ρ = some (ρ.set i (some d)) := if_pos hi
@[simp] theorem ev_gTupT {ts : List TG} {l : List D} : gTup ts (.tup l) ρ = gSeq ts l ρ := rfl
@[simp] theorem ev_gTupL {ts : List TG} {l : List D} : gTup ts (.lst l) ρ = gSeq ts l ρ := rfl
@[simp] theorem ev_gNil : gSeq [] [] ρ = some ρ := rfl
@[simp] theorem ev_gCons {t : TG} {ts : List TG} {d : D} {ds : List D} : gSeq (t :: ts) (d :: ds) ρ = (t d ρ).bind fun ρ1 => gSeq ts ds ρ1 := rfl
@[simp] theorem ev_iSeq : iSeq f ρ g = (f ρ g).bind fun d g1 => match d with
  | .tup l => .ok l g1
  | .lst l => .ok l g1
  | .str s => .ok (s.map fun c => .str [c]) g1
  | _ => .bad := rfl
@[simp] theorem ev_iRng1 : iRng1 f ρ g = (f ρ g).bind fun b g2 => match b with
  | .int j => (match rngOk j && decide (j.toNat ≤ LIM) with
    | true => .ok (rngL 0 j.toNat) g2
    | false => .bad)
  | _ => .bad := rfl
@[simp] theorem ev_iRng : iRng f h ρ g = (f ρ g).bind fun a g1 => (h ρ g1).bind fun b g2 => match a, b with
  | .int i, .int j => (match rngOk i && rngOk j && decide ((j - i).toNat ≤ LIM) with
    | true => .ok (rngL i (j - i).toNat) g2
    | false => .bad)
  | _, _ => .bad := rfl
@[simp] theorem ev_iZip : iZip f h ρ g = (f ρ g).bind fun a g1 => (h ρ g1).bind fun b g2 => match a, b with
  | .tup l, .tup m => .ok (zipL l m) g2
  | .lst l, .lst m => .ok (zipL l m) g2
  | _, _ => .bad := rfl
@[simp] theorem ev_lZip : xLZip f h ρ g = (f ρ g).bind fun a g1 => (h ρ g1).bind fun b g2 => match a, b with
  | .tup l, .tup m => .ok (.lst (zipL l m)) g2
  | _, _ => .bad := rfl
@[simp] theorem ev_iEnum : iEnum f ρ g = (f ρ g).bind fun a g1 => match a with
  | .lst l => .ok (enumL l) g1
  | _ => .bad := rfl
@[simp] theorem ev_nop : sNop ρ g = .nx ρ g := rfl
@[simp] theorem ev_brk : sBrk ρ g = .bk ρ g := rfl
@[simp] theorem ev_cont : sCont ρ g = .ct ρ g := rfl
@[simp] theorem ev_kill {is : List Nat} : sKill is ρ g = .nx (wipe is ρ) g := rfl
@[simp] theorem ev_set {tg : TG} : sSet tg f ρ g = (f ρ g).to ρ fun d g1 => match tg d ρ with
  | some ρ1 => .nx ρ1 g1
  | none => .bad := rfl
@[simp] theorem ev_par {i j : Nat} (hi : i < ρ.length) (hj : j < ρ.length) : sPar i j f h ρ g = (f ρ g).to ρ fun a g1 => (h ρ g1).to ρ fun b g2 => .nx ((ρ.set i (some a)).set j (some b)) g2 := by
  unfold sPar
  simp only [hi, hj, and_self, if_true]
@[simp] theorem ev_sif {a b : S} : sIf t a b ρ g = (t ρ g).to ρ fun c g1 => match c with
  | true => a ρ g1
  | false => b ρ g1 := rfl
@[simp] theorem ev_ret : sRet f ρ g = (f ρ g).to ρ fun d g1 => .rt d g1 := rfl
@[simp] theorem ev_expr : sExpr f ρ g = (f ρ g).to ρ fun _ g1 => .nx ρ g1 := rfl
@[simp] theorem ev_raise {c : Nat} : sRaise c a ρ g = (a ρ g).to ρ fun ds g1 => .ex (.mk c ds) ρ g1 := rfl
@[simp] theorem ev_seq {a b : S} : sSeq a b ρ g = match a ρ g with
  | .nx ρ1 g1 => b ρ1 g1
  | o => o := rfl
@[simp] theorem ev_app {i : Nat} : sApp i f ρ g = match ρ[i]? with
  | some (some (.lst l)) => (f ρ g).to ρ fun d g1 => if l.length < LIM then .nx (ρ.set i (some (.lst (l ++ [d])))) g1 else .bad
  | _ => .bad := by
  unfold sApp
  cases h : ρ[i]? with
  | none => rfl
  | some o =>
    cases o with
    | none => rfl
    | some d =>
      cases d with
      | lst l =>
        simp only
        cases f ρ g with
        | ok d g1 =>
          simp only [R.to_ok]
          by_cases hl : l.length < LIM
          · rw [if_pos hl, decide_eq_true hl]
          · rw [if_neg hl, decide_eq_false hl]
        | ex e g1 => rfl
        | bad => rfl
      | _ => rfl
theorem LIM_big {n : Nat} (h : n ≤ 1000000) : n ≤ LIM := Nat.le_trans h (by decide)
@[simp] theorem ev_wN : wipe ([] : List Nat) ρ = ρ := rfl
@[simp] theorem ev_wC {v : Nat} {vs : List Nat} : wipe (v :: vs) ρ = (wipe vs ρ).set v none := rfl
end
/-! operations -/
section
variable {i j : Int} {b c : Bool} {l m : List D}
@[simp] theorem op_add_i : addD (.int i) (.int j) = some (.int (i + j)) := rfl
@[simp] theorem op_sub_i : subD (.int i) (.int j) = some (.int (i - j)) := rfl
@[simp] theorem op_neg_i : negD (.int i) = some (.int (-i)) := rfl
@[simp] theorem op_lt_i : ltD (.int i) (.int j) = some (.bl (decide (i < j))) := rfl
@[simp] theorem op_le_i : leD (.int i) (.int j) = some (.bl (decide (i ≤ j))) := rfl
@[simp] theorem op_gt_i : gtD (.int i) (.int j) = some (.bl (decide (j < i))) := rfl
@[simp] theorem op_ge_i : geD (.int i) (.int j) = some (.bl (decide (j ≤ i))) := rfl
theorem op_mod_i (h : 0 < j) : modD (.int i) (.int j) = some (.int (i % j)) := if_pos h
theorem op_fdiv_i (h : 0 < j) (h2 : j < 1073741824) : fdivD (.int i) (.int j) = some (.int (i / j)) := if_pos ⟨h, by omega⟩
theorem op_mul_l (h : i.natAbs < 18446744073709551616) : mulD (.int i) (.int j) = some (.int (i * j)) := by simp [mulD, mulOk, h]
theorem op_mul_r (h : j.natAbs < 18446744073709551616) : mulD (.int i) (.int j) = some (.int (i * j)) := by simp [mulD, mulOk, h]
@[simp] theorem op_not_b : notD (.bl b) = some (.bl (!b)) := rfl
@[simp] theorem op_eq_i : eqD (.int i) (.int j) = some (.bl (i == j)) := eqD_int i j
@[simp] theorem op_ne_i : neD (.int i) (.int j) = some (.bl (!(i == j))) := neD_int i j
@[simp] theorem op_len_t : lenD [.tup l] = some (.int l.length) := rfl
@[simp] theorem op_len_l : lenD [.lst l] = some (.int l.length) := rfl
@[simp] theorem op_len_s {s : List Nat} : lenD [.str s] = some (.int s.length) := rfl
@[simp] theorem op_int_i : intD [.int i] = some (.int i) := rfl
@[simp] theorem op_tuple_l : tupleD [.lst l] = some (.tup l) := rfl
@[simp] theorem op_tuple_t : tupleD [.tup l] = some (.tup l) := rfl
@[simp] theorem op_list_l : listD [.lst l] = some (.lst l) := rfl
@[simp] theorem op_list_t : listD [.tup l] = some (.lst l) := rfl
theorem op_all_of {bs : List Bool} : allD [.lst (bs.map .bl)] = some (.bl (bs.all id)) := by simp [allD, blsD_map]
theorem op_any_of {bs : List Bool} : anyD [.lst (bs.map .bl)] = some (.bl (bs.any id)) := by simp [anyD, blsD_map]
theorem op_sum_l {ns : List Int} : sumD [.lst (ns.map .int)] = some (.int ns.sum) := by simp [sumD, intsD_map]
theorem op_sum_t {ns : List Int} : sumD [.tup (ns.map .int)] = some (.int ns.sum) := by simp [sumD, intsD_map]
end
section
variable {i : Int} {b : Bool} {l : List D} {s : List Nat}
@[simp] theorem kd_int_non : isKd .int .non = some (.bl false) := rfl
@[simp] theorem kd_int_bl : isKd .int (.bl b) = some (.bl true) := rfl
@[simp] theorem kd_int_int : isKd .int (.int i) = some (.bl true) := rfl
@[simp] theorem kd_int_str : isKd .int (.str s) = some (.bl false) := rfl
@[simp] theorem kd_int_tup : isKd .int (.tup l) = some (.bl false) := rfl
@[simp] theorem kd_int_lst : isKd .int (.lst l) = some (.bl false) := rfl
@[simp] theorem kd_bool_non : isKd .bool .non = some (.bl false) := rfl
@[simp] theorem kd_bool_bl : isKd .bool (.bl b) = some (.bl true) := rfl
@[simp] theorem kd_bool_int : isKd .bool (.int i) = some (.bl false) := rfl
@[simp] theorem kd_bool_str : isKd .bool (.str s) = some (.bl false) := rfl
@[simp] theorem kd_bool_tup : isKd .bool (.tup l) = some (.bl false) := rfl
@[simp] theorem kd_bool_lst : isKd .bool (.lst l) = some (.bl false) := rfl
@[simp] theorem kd_str_non : isKd .str .non = some (.bl false) := rfl
@[simp] theorem kd_str_bl : isKd .str (.bl b) = some (.bl false) := rfl
@[simp] theorem kd_str_int : isKd .str (.int i) = some (.bl false) := rfl
@[simp] theorem kd_str_str : isKd .str (.str s) = some (.bl true) := rfl
@[simp] theorem kd_str_tup : isKd .str (.tup l) = some (.bl false) := rfl
@[simp] theorem kd_str_lst : isKd .str (.lst l) = some (.bl false) := rfl
@[simp] theorem kd_tuple_non : isKd .tuple .non = some (.bl false) := rfl
@[simp] theorem kd_tuple_bl : isKd .tuple (.bl b) = some (.bl false) := rfl
@[simp] theorem kd_tuple_int : isKd .tuple (.int i) = some (.bl false) := rfl
@[simp] theorem kd_tuple_str : isKd .tuple (.str s) = some (.bl false) := rfl
@[simp] theorem kd_tuple_tup : isKd .tuple (.tup l) = some (.bl true) := rfl
@[simp] theorem kd_tuple_lst : isKd .tuple (.lst l) = some (.bl false) := rfl
@[simp] theorem kd_list_non : isKd .list .non = some (.bl false) := rfl
@[simp] theorem kd_list_bl : isKd .list (.bl b) = some (.bl false) := rfl
@[simp] theorem kd_list_int : isKd .list (.int i) = some (.bl false) := rfl
@[simp] theorem kd_list_str : isKd .list (.str s) = some (.bl false) := rfl
@[simp] theorem kd_list_tup : isKd .list (.tup l) = some (.bl false) := rfl
@[simp] theorem kd_list_lst : isKd .list (.lst l) = some (.bl true) := rfl
@[simp] theorem isnon_non : isNonD .non = some (.bl true) := rfl
@[simp] theorem nonon_non : notNonD .non = some (.bl false) := rfl
@[simp] theorem isnon_bl : isNonD (.bl b) = some (.bl false) := rfl
@[simp] theorem nonon_bl : notNonD (.bl b) = some (.bl true) := rfl
@[simp] theorem isnon_int : isNonD (.int i) = some (.bl false) := rfl
@[simp] theorem nonon_int : notNonD (.int i) = some (.bl true) := rfl
@[simp] theorem isnon_str : isNonD (.str s) = some (.bl false) := rfl
@[simp] theorem nonon_str : notNonD (.str s) = some (.bl true) := rfl
@[simp] theorem isnon_tup : isNonD (.tup l) = some (.bl false) := rfl
@[simp] theorem nonon_tup : notNonD (.tup l) = some (.bl true) := rfl
@[simp] theorem isnon_lst : isNonD (.lst l) = some (.bl false) := rfl
@[simp] theorem nonon_lst : notNonD (.lst l) = some (.bl true) := rfl
end
@[simp] theorem LIM_0 : (0 ≤ LIM) = True := eq_true (by decide)
@[simp] theorem LIM_1 : (1 ≤ LIM) = True := eq_true (by decide)
@[simp] theorem LIM_2 : (2 ≤ LIM) = True := eq_true (by decide)
@[simp] theorem LIM_3 : (3 ≤ LIM) = True := eq_true (by decide)
@[simp] theorem LIM_4 : (4 ≤ LIM) = True := eq_true (by decide)
@[simp] theorem LIM_5 : (5 ≤ LIM) = True := eq_true (by decide)
@[simp] theorem LIM_6 : (6 ≤ LIM) = True := eq_true (by decide)
@[simp] theorem LIM_7 : (7 ≤ LIM) = True := eq_true (by decide)
@[simp] theorem LIM_8 : (8 ≤ LIM) = True := eq_true (by decide)
@[simp] theorem LIM_9 : (9 ≤ LIM) = True := eq_true (by decide)
@[simp] theorem LIM_10 : (10 ≤ LIM) = True := eq_true (by decide)
@[simp] theorem LIM_11 : (11 ≤ LIM) = True := eq_true (by decide)
@[simp] theorem LIM_12 : (12 ≤ LIM) = True := eq_true (by decide)
@[simp] theorem LIM_13 : (13 ≤ LIM) = True := eq_true (by decide)
@[simp] theorem LIM_14 : (14 ≤ LIM) = True := eq_true (by decide)
@[simp] theorem LIM_15 : (15 ≤ LIM) = True := eq_true (by decide)
@[simp] theorem LIM_16 : (16 ≤ LIM) = True := eq_true (by decide)
@[simp] theorem LIM_17 : (17 ≤ LIM) = True := eq_true (by decide)
@[simp] theorem LIM_18 : (18 ≤ LIM) = True := eq_true (by decide)
@[simp] theorem LIM_19 : (19 ≤ LIM) = True := eq_true (by decide)
@[simp] theorem LIM_20 : (20 ≤ LIM) = True := eq_true (by decide)
@[simp] theorem LIM_21 : (21 ≤ LIM) = True := eq_true (by decide)
@[simp] theorem LIM_22 : (22 ≤ LIM) = True := eq_true (by decide)
@[simp] theorem LIM_23 : (23 ≤ LIM) = True := eq_true (by decide)
@[simp] theorem LIM_24 : (24 ≤ LIM) = True := eq_true (by decide)
@[simp] theorem LIM_25 : (25 ≤ LIM) = True := eq_true (by decide)
@[simp] theorem LIM_26 : (26 ≤ LIM) = True := eq_true (by decide)
@[simp] theorem LIM_27 : (27 ≤ LIM) = True := eq_true (by decide)
@[simp] theorem LIM_28 : (28 ≤ LIM) = True := eq_true (by decide)
@[simp] theorem LIM_29 : (29 ≤ LIM) = True := eq_true (by decide)
@[simp] theorem LIM_30 : (30 ≤ LIM) = True := eq_true (by decide)
@[simp] theorem LIM_31 : (31 ≤ LIM) = True := eq_true (by decide)
@[simp] theorem LIM_32 : (32 ≤ LIM) = True := eq_true (by decide)
@[simp] theorem LIM_33 : (33 ≤ LIM) = True := eq_true (by decide)
@[simp] theorem LIM_34 : (34 ≤ LIM) = True := eq_true (by decide)
@[simp] theorem LIM_35 : (35 ≤ LIM) = True := eq_true (by decide)
@[simp] theorem LIM_36 : (36 ≤ LIM) = True := eq_true (by decide)
@[simp] theorem LIM_37 : (37 ≤ LIM) = True := eq_true (by decide)
@[simp] theorem LIM_38 : (38 ≤ LIM) = True := eq_true (by decide)
@[simp] theorem LIM_39 : (39 ≤ LIM) = True := eq_true (by decide)
@[simp] theorem LIM_40 : (40 ≤ LIM) = True := eq_true (by decide)
theorem LIM_lt {n : Nat} (h : n < 1000000) : n < LIM := Nat.lt_trans h (by decide)
theorem LIM_le {n : Nat} (h : n ≤ 1000000) : n ≤ LIM := Nat.le_trans h (by decide)
@[simp] theorem ixD_t {l : List D} {i : Int} : ixD (.tup l) (.int i) = itD l i := rfl
@[simp] theorem ixD_l {l : List D} {i : Int} : ixD (.lst l) (.int i) = itD l i := rfl
@[simp] theorem ixD_s {l : List Nat} {i : Int} : ixD (.str l) (.int i) = (itD l i).map fun c => .str [c] := rfl
theorem itD_nat {α : Type} {l : List α} {i : Nat} {d : α} (h : l[i]? = some d) : itD l (i : Int) = some d := by
  have hi : i < l.length := (List.getElem?_eq_some_iff.mp h).1
  unfold itD plc
  rw [if_pos (by omega), if_pos (by omega)]
  simpa using h
theorem itD_neg1 {α : Type} {l : List α} {d : α} (h : l.getLast? = some d) : itD l (-1) = some d := by
  have hl : 0 < l.length := by
    cases l with
    | nil => simp at h
    | cons _ _ => simp
  unfold itD plc
  rw [if_neg (by omega), if_pos (by omega)]
  rw [List.getLast?_eq_getElem?] at h
  have : ((-1 : Int) + (l.length : Int)).toNat = l.length - 1 := by omega
  simp only [Option.bind_some, this]
  exact h
theorem rok1 {n : Nat} (hn : n ≤ LIM) : rngOk (n : Int) = true := by
  have h2 : LIM < 4611686018427387904 := by decide
  generalize LIM = L at hn h2
  simp only [rngOk, decide_eq_true_eq]
  omega
theorem iRng1_nat {f : X} {ρ : Env} {g g1 : G} {n : Nat} (h : f ρ g = .ok (.int (n : Int)) g1) (hn : n ≤ LIM) : iRng1 f ρ g = .ok (rngL 0 n) g1 := by
  rw [ev_iRng1, h, R.bind_ok]
  simp only [rok1 hn, Int.toNat_natCast, decide_eq_true hn, Bool.and_self]
theorem rng_len (a : Int) (n : Nat) : (rngL a n).length = n := by simp [rngL]
theorem rng_mem {n : Nat} {d : D} (h : d ∈ rngL 0 n) : ∃ i : Nat, i < n ∧ d = .int (i : Int) := by
  simp only [rngL, List.mem_map, List.mem_range] at h
  obtain ⟨i, hi, rfl⟩ := h
  exact ⟨i, hi, by simp⟩
theorem all_t (l : List D) : l.map (fun _ => D.bl true) = (List.replicate l.length true).map .bl := by
  induction l with
  | nil => rfl
  | cons d l ih => simp only [List.map_cons, ih]; rfl
theorem allD_t (l : List D) : allD [.lst (l.map fun _ => D.bl true)] = some (.bl true) := by
  rw [all_t l, op_all_of]
  simp
@[simp] theorem xVar_ne {ρ : Env} {i j : Nat} {o : Option D} {g : G} (h : i ≠ j) : xVar i (ρ.set j o) g = xVar i ρ g := by
  unfold xVar
  rw [List.getElem?_set_ne (Ne.symm h)]
@[simp] theorem xVar_self {ρ : Env} {j : Nat} {d : D} {g : G} (h : j < ρ.length) : xVar j (ρ.set j (some d)) g = .ok d g := by
  unfold xVar
  rw [List.getElem?_set_self h]
/-- the slot i holds d -/
def Has (ρ : Env) (i : Nat) (d : D) : Prop := ∀ g, xVar i ρ g = .ok d g
theorem Has.get {ρ : Env} {i : Nat} {d : D} (h : Has ρ i d) : ρ[i]? = some (some d) := by
  have := h ⟨false, 0, 0, 0⟩
  unfold xVar at this
  split at this
  · rename_i e he
    cases this
    exact he
  · cases this
theorem has_of {ρ : Env} {i : Nat} {d : D} (h : ρ[i]? = some (some d)) : Has ρ i d := fun _ => xVar_eq h
/-- but for the slots is, ρ' is as ρ -/
structure Fr (is : List Nat) (ρ ρ' : Env) : Prop where
  len : ρ'.length = ρ.length
  at_ : ∀ i, i ∉ is → ρ'[i]? = ρ[i]?
theorem Fr.refl {is : List Nat} {ρ : Env} : Fr is ρ ρ := ⟨rfl, fun _ _ => rfl⟩
theorem Fr.trans {is : List Nat} {ρ ρ1 ρ2 : Env} (a : Fr is ρ ρ1) (b : Fr is ρ1 ρ2) : Fr is ρ ρ2 := ⟨b.len.trans a.len, fun i h => (b.at_ i h).trans (a.at_ i h)⟩
theorem Fr.mono {is js : List Nat} {ρ ρ1 : Env} (a : Fr is ρ ρ1) (h : ∀ i ∈ is, i ∈ js) : Fr js ρ ρ1 := ⟨a.len, fun i hi => a.at_ i fun z => hi (h i z)⟩
theorem Fr.set {is : List Nat} {ρ ρ1 : Env} {j : Nat} {o : Option D} (a : Fr is ρ ρ1) (h : j ∈ is) : Fr is ρ (ρ1.set j o) := ⟨by rw [List.length_set]; exact a.len, fun i hi => by
  rw [List.getElem?_set_ne (by intro z; subst z; exact hi h)]; exact a.at_ i hi⟩
theorem Fr.has {is : List Nat} {ρ ρ1 : Env} {i : Nat} {d : D} (a : Fr is ρ ρ1) (h : Has ρ i d) (hi : i ∉ is) : Has ρ1 i d := has_of (by rw [a.at_ i hi]; exact h.get)
theorem Has.set {ρ : Env} {i j : Nat} {o : Option D} {d : D} (h : Has ρ i d) (hi : i ≠ j) : Has (ρ.set j o) i d := fun g => by rw [xVar_ne hi]; exact h g
theorem has_set {ρ : Env} {i : Nat} {d : D} (h : i < ρ.length) : Has (ρ.set i (some d)) i d := fun g => xVar_self h
theorem cut_len {α : Type} (l : List α) (lo hi : Option Int) : (cut l lo hi).length ≤ l.length := by
  unfold cut
  rw [List.length_take, List.length_drop]
  omega
end PP

/-! PT: the mirrors as functions over Lean's own kinds (core Lean alone). -/
namespace PP
set_option linter.all false
set_option autoImplicit true

def R.map {α β : Type} (f : α → β) : R α → R β
  | .ok a g => .ok (f a) g
  | .ex e g => .ex e g
  | .bad => .bad
@[simp] theorem R.map_ok {f : α → β} {a : α} {g : G} : R.map f (.ok a g) = .ok (f a) g := rfl
@[simp] theorem R.map_ex {f : α → β} {e : Ex} {g : G} : R.map f (.ex e g) = .ex e g := rfl
@[simp] theorem R.map_bad {f : α → β} : R.map f .bad = .bad := rfl
theorem R.map_map {f : α → β} {h : β → γ} {r : R α} : (r.map f).map h = r.map fun a => h (f a) := by cases r <;> rfl
theorem R.map_id {r : R α} : (r.map fun a => a) = r := by cases r <;> rfl
theorem R.bind_map {f : α → β} {k : β → G → R γ} {r : R α} : (r.map f).bind k = r.bind fun a g => k (f a) g := by cases r <;> rfl
theorem R.map_bind {f : β → γ} {k : α → G → R β} {r : R α} : (r.bind k).map f = r.bind fun a g => (k a g).map f := by cases r <;> rfl
theorem R.bind_bind {k : α → G → R β} {h : β → G → R γ} {r : R α} : (r.bind k).bind h = r.bind fun a g => (k a g).bind h := by cases r <;> rfl
theorem R.bind_cg {k k' : α → G → R β} {r : R α} (h : ∀ a g, k a g = k' a g) : r.bind k = r.bind k' := by cases r <;> simp [h]
def ofR (o : Option α) (g : G) : R α := match o with
  | some a => .ok a g
  | none => .bad
@[simp] theorem ofR_some {a : α} {g : G} : ofR (some a) g = .ok a g := rfl
@[simp] theorem ofR_none {g : G} : ofR (none : Option α) g = .bad := rfl
theorem ofR_map {o : Option α} {f : α → β} {g : G} : (ofR o g).map f = ofR (o.map f) g := by cases o <;> rfl
theorem ofO_R {o : Option D} {g : G} : ofO o g = ofR o g := by cases o <;> rfl
def nlet {α β : Type} (v : α) (k : α → β) : β := k v
theorem nlet_eq {v : α} {k : α → β} : nlet v k = k v := rfl

/-! ### what is known of the slots: none: anything -/
abbrev Pt := List (Option D)
def Mt (p : Pt) (ρ : Env) : Prop := p.length = ρ.length ∧ ∀ (i : Nat) (d : D), p[i]? = some (some d) → ρ[i]? = some (some d)
inductive Lep : Pt → Pt → Prop
  | nil : Lep [] []
  | skip {o : Option D} {p q : Pt} (h : Lep p q) : Lep (none :: p) (o :: q)
  | keep {o : Option D} {p q : Pt} (h : Lep p q) : Lep (o :: p) (o :: q)
theorem Lep.get : ∀ {p q : Pt}, Lep p q → p.length = q.length ∧ ∀ (i : Nat) (d : D), p[i]? = some (some d) → q[i]? = some (some d)
  | _, _, .nil => ⟨rfl, fun _ _ h => h⟩
  | _, _, .skip h => ⟨by simp [h.get.1], fun i d e => by
      cases i with
      | zero => simp at e
      | succ i => simpa using h.get.2 i d (by simpa using e)⟩
  | _, _, .keep h => ⟨by simp [h.get.1], fun i d e => by
      cases i with
      | zero => simpa using e
      | succ i => simpa using h.get.2 i d (by simpa using e)⟩
theorem Lep.refl : ∀ (p : Pt), Lep p p
  | [] => .nil
  | _ :: p => .keep (Lep.refl p)
theorem Mt.weak {p q : Pt} {ρ : Env} (h : Mt q ρ) (l : Lep p q) : Mt p ρ := ⟨l.get.1.trans h.1, fun i d e => h.2 i d (l.get.2 i d e)⟩
theorem Mt.self (ρ : Env) : Mt ρ ρ := ⟨rfl, fun _ _ h => h⟩
theorem Mt.set {p : Pt} {ρ : Env} (h : Mt p ρ) (i : Nat) (o : Option D) : Mt (p.set i o) (ρ.set i o) := ⟨by simp [h.1], fun j d e => by
  by_cases q : i = j
  · subst q
    have hl : i < p.length := by
      have := (List.getElem?_eq_some_iff.mp e).1
      simpa using this
    rw [List.getElem?_set_self hl] at e
    rw [List.getElem?_set_self (by rw [← h.1]; exact hl)]
    exact e
  · rw [List.getElem?_set_ne q] at e ⊢
    exact h.2 j d e⟩
theorem Mt.wipe {p : Pt} {ρ : Env} (h : Mt p ρ) : ∀ vs : List Nat, Mt (PP.wipe vs p) (PP.wipe vs ρ)
  | [] => h
  | v :: vs => (Mt.wipe h vs).set v none
theorem Mt.var {p : Pt} {ρ : Env} (h : Mt p ρ) {i : Nat} {d : D} (e : p[i]? = some (some d)) (g : G) : xVar i ρ g = .ok d g := xVar_eq (h.2 i d e)

/-! ### readings -/
def NP (p : Pt) (f : X) (v : α) (c : α → D) : Prop := ∀ ρ, Mt p ρ → ∀ g, f ρ g = .ok (c v) g
def NX (p : Pt) (g : G) (f : X) (r : R α) (c : α → D) : Prop := ∀ ρ, Mt p ρ → f ρ g = r.map c
def TP (p : Pt) (t : XT) (b : Bool) : Prop := ∀ ρ, Mt p ρ → ∀ g, t ρ g = .ok b g
def TX (p : Pt) (g : G) (t : XT) (r : R Bool) : Prop := ∀ ρ, Mt p ρ → t ρ g = r
def AP (p : Pt) (a : XA) (l : List D) : Prop := ∀ ρ, Mt p ρ → ∀ g, a ρ g = .ok l g
def AX (p : Pt) (g : G) (a : XA) (K : List D → G → R D) (r : R α) (c : α → D) : Prop := ∀ ρ, Mt p ρ → (a ρ g).bind K = r.map c
def IP (p : Pt) (it : XA) (xs : List α) (c : α → D) : Prop := ∀ ρ, Mt p ρ → ∀ g, it ρ g = .ok (xs.map c) g
def IX (p : Pt) (g : G) (it : XA) (r : R (List α)) (c : α → D) : Prop := ∀ ρ, Mt p ρ → it ρ g = r.map (List.map c)
def GT (tg : TG) (d : D) (p q : Pt) : Prop := ∀ ρ, Mt p ρ → ∃ ρ', tg d ρ = some ρ' ∧ Mt q ρ'
def GS (ts : List TG) (ds : List D) (p q : Pt) : Prop := ∀ ρ, Mt p ρ → ∃ ρ', gSeq ts ds ρ = some ρ' ∧ Mt q ρ'
/-! codecs -/
abbrev cD : D → D := fun d => d
abbrev cN : Unit → D := fun _ => .non
def cL (c : α → D) : List α → D := fun l => .lst (l.map c)
def cT (c : α → D) : List α → D := fun l => .tup (l.map c)
def c2 (c : α → D) (c' : β → D) : α × β → D := fun x => .tup [c x.1, c' x.2]
def c3 (c : α → D) (c' : β → D) (c'' : γ → D) : α × β × γ → D := fun x => .tup [c x.1, c' x.2.1, c'' x.2.2]
def c4 (c : α → D) (c' : β → D) (c'' : γ → D) (c''' : δ → D) : α × β × γ × δ → D := fun x => .tup [c x.1, c' x.2.1, c'' x.2.2.1, c''' x.2.2.2]
def c5 (c : α → D) (c' : β → D) (c'' : γ → D) (c''' : δ → D) (c4' : ε → D) : α × β × γ × δ × ε → D := fun x => .tup [c x.1, c' x.2.1, c'' x.2.2.1, c''' x.2.2.2.1, c4' x.2.2.2.2]
def cO (c : α → D) : Option α → D
  | none => .non
  | some a => c a
def cDic (c : α → D) (c' : β → D) : List (α × β) → D := fun l => .dic (l.map fun x => c x.1) (l.map fun x => c' x.2)

section
variable {p q : Pt} {g : G} {f h k : X} {a : XA} {t u : XT} {α β γ δ : Type} {c : α → D} {c' : β → D} {c'' : γ → D}
theorem NP.x {v : α} (h : NP p f v c) : NX p g f (.ok v g) c := fun ρ m => h ρ m g
theorem NP.d {v : α} (h : NP p f v c) : NP p f (c v) cD := h
theorem NX.d {r : R α} (h : NX p g f r c) : NX p g f (r.map c) cD := fun ρ m => by rw [h ρ m, R.map_map]
theorem NP.as {v w : α} (h : NP p f v c) (e : v = w) : NP p f w c := e ▸ h
theorem NX.as {r r' : R α} (h : NX p g f r c) (e : r = r') : NX p g f r' c := e ▸ h
theorem np_var {i : Nat} {v : α} (e : p[i]? = some (some (c v))) : NP p (xVar i) v c := fun ρ m g => m.var e g
theorem np_c {v : α} : NP p (xC (c v)) v c := fun ρ m g => rfl
/-! one place -/
theorem np_un {op : D → Option D} {v : α} {w : β} (h : NP p f v c) (ho : op (c v) = some (c' w)) : NP p (xUn op f) w c' := fun ρ m g => by
  rw [ev_un, h ρ m g, R.bind_ok, ho]; rfl
theorem nx_unP {op : D → Option D} {v : α} {o : Option β} (h : NP p f v c) (ho : op (c v) = o.map c') : NX p g (xUn op f) (ofR o g) c' := fun ρ m => by
  rw [ev_un, h ρ m g, R.bind_ok, ho]; cases o <;> rfl
theorem nx_un {op : D → Option D} {r : R α} {o : α → Option β} (h : NX p g f r c) (ho : ∀ a, op (c a) = (o a).map c') : NX p g (xUn op f) (r.bind fun a g => ofR (o a) g) c' := fun ρ m => by
  rw [ev_un, h ρ m, R.bind_map, R.map_bind]
  exact R.bind_cg fun a g => by rw [ho]; cases o a <;> rfl
theorem nx_unT {op : D → Option D} {r : R α} {w : α → β} (h : NX p g f r c) (ho : ∀ a, op (c a) = some (c' (w a))) : NX p g (xUn op f) (r.bind fun a g => .ok (w a) g) c' := fun ρ m => by
  rw [ev_un, h ρ m, R.bind_map, R.map_bind]
  exact R.bind_cg fun a g => by rw [ho]; rfl
/-! two places -/
theorem np_bin {op : D → D → Option D} {v : α} {w : β} {z : γ} (h1 : NP p f v c) (h2 : NP p h w c') (ho : op (c v) (c' w) = some (c'' z)) : NP p (xBin op f h) z c'' := fun ρ m g => by
  rw [ev_bin, h1 ρ m g, R.bind_ok, h2 ρ m g, R.bind_ok, ho]; rfl
theorem nx_binPP {op : D → D → Option D} {v : α} {w : β} {o : Option γ} (h1 : NP p f v c) (h2 : NP p h w c') (ho : op (c v) (c' w) = o.map c'') : NX p g (xBin op f h) (ofR o g) c'' := fun ρ m => by
  rw [ev_bin, h1 ρ m g, R.bind_ok, h2 ρ m g, R.bind_ok, ho]; cases o <;> rfl
theorem nx_binXP {op : D → D → Option D} {r : R α} {w : β} {o : α → Option γ} (h1 : NX p g f r c) (h2 : NP p h w c') (ho : ∀ a, op (c a) (c' w) = (o a).map c'') : NX p g (xBin op f h) (r.bind fun a g => ofR (o a) g) c'' := fun ρ m => by
  rw [ev_bin, h1 ρ m, R.bind_map, R.map_bind]
  exact R.bind_cg fun a g => by rw [h2 ρ m g, R.bind_ok, ho]; cases o a <;> rfl
theorem nx_binPX {op : D → D → Option D} {v : α} {r : R β} {o : β → Option γ} (h1 : NP p f v c) (h2 : NX p g h r c') (ho : ∀ b, op (c v) (c' b) = (o b).map c'') : NX p g (xBin op f h) (r.bind fun b g => ofR (o b) g) c'' := fun ρ m => by
  rw [ev_bin, h1 ρ m g, R.bind_ok, h2 ρ m, R.bind_map, R.map_bind]
  exact R.bind_cg fun a g => by rw [ho]; cases o a <;> rfl
theorem nx_binXX {op : D → D → Option D} {r : R α} {r2 : α → G → R β} {o : α → β → Option γ} (h1 : NX p g f r c) (h2 : ∀ a g, NX p g h (r2 a g) c') (ho : ∀ a b, op (c a) (c' b) = (o a b).map c'') : NX p g (xBin op f h) (r.bind fun a g => (r2 a g).bind fun b g => ofR (o a b) g) c'' := fun ρ m => by
  rw [ev_bin, h1 ρ m, R.bind_map, R.map_bind]
  refine R.bind_cg fun a g => ?_
  rw [h2 a g ρ m, R.bind_map, R.map_bind]
  exact R.bind_cg fun b g => by rw [ho]; cases o a b <;> rfl
theorem nx_binXPT {op : D → D → Option D} {r : R α} {w : β} {o : α → γ} (h1 : NX p g f r c) (h2 : NP p h w c') (ho : ∀ a, op (c a) (c' w) = some (c'' (o a))) : NX p g (xBin op f h) (r.bind fun a g => .ok (o a) g) c'' := fun ρ m => by
  rw [ev_bin, h1 ρ m, R.bind_map, R.map_bind]
  exact R.bind_cg fun a g => by rw [h2 ρ m g, R.bind_ok, ho]; rfl
theorem nx_binPXT {op : D → D → Option D} {v : α} {r : R β} {o : β → γ} (h1 : NP p f v c) (h2 : NX p g h r c') (ho : ∀ b, op (c v) (c' b) = some (c'' (o b))) : NX p g (xBin op f h) (r.bind fun b g => .ok (o b) g) c'' := fun ρ m => by
  rw [ev_bin, h1 ρ m g, R.bind_ok, h2 ρ m, R.bind_map, R.map_bind]
  exact R.bind_cg fun a g => by rw [ho]; rfl
theorem nx_binXXT {op : D → D → Option D} {r : R α} {r2 : α → G → R β} {o : α → β → γ} (h1 : NX p g f r c) (h2 : ∀ a g, NX p g h (r2 a g) c') (ho : ∀ a b, op (c a) (c' b) = some (c'' (o a b))) : NX p g (xBin op f h) (r.bind fun a g => (r2 a g).bind fun b g => .ok (o a b) g) c'' := fun ρ m => by
  rw [ev_bin, h1 ρ m, R.bind_map, R.map_bind]
  refine R.bind_cg fun a g => ?_
  rw [h2 a g ρ m, R.bind_map, R.map_bind]
  exact R.bind_cg fun b g => by rw [ho]; rfl
/-! truths -/
theorem np_and {v w : Bool} (h1 : NP p f v .bl) (h2 : NP p h w .bl) : NP p (xAnd f h) (v && w) .bl := fun ρ m g => by
  rw [ev_and, h1 ρ m g, R.bind_ok]; cases v
  · rfl
  · exact h2 ρ m g
theorem np_or {v w : Bool} (h1 : NP p f v .bl) (h2 : NP p h w .bl) : NP p (xOr f h) (v || w) .bl := fun ρ m g => by
  rw [ev_or, h1 ρ m g, R.bind_ok]; cases v
  · exact h2 ρ m g
  · rfl
theorem nx_andP {v : Bool} {r : R Bool} (h1 : NP p f v .bl) (h2 : NX p g h r .bl) : NX p g (xAnd f h) (if v then r else .ok false g) .bl := fun ρ m => by
  rw [ev_and, h1 ρ m g, R.bind_ok]; cases v
  · rfl
  · exact h2 ρ m
theorem nx_orP {v : Bool} {r : R Bool} (h1 : NP p f v .bl) (h2 : NX p g h r .bl) : NX p g (xOr f h) (if v then .ok true g else r) .bl := fun ρ m => by
  rw [ev_or, h1 ρ m g, R.bind_ok]; cases v
  · exact h2 ρ m
  · rfl
theorem nx_and {r : R Bool} {r2 : G → R Bool} (h1 : NX p g f r .bl) (h2 : ∀ g, NX p g h (r2 g) .bl) : NX p g (xAnd f h) (r.bind fun b g => if b then r2 g else .ok false g) .bl := fun ρ m => by
  rw [ev_and, h1 ρ m, R.bind_map, R.map_bind]
  refine R.bind_cg fun b g => ?_
  cases b
  · rfl
  · exact h2 g ρ m
theorem nx_or {r : R Bool} {r2 : G → R Bool} (h1 : NX p g f r .bl) (h2 : ∀ g, NX p g h (r2 g) .bl) : NX p g (xOr f h) (r.bind fun b g => if b then .ok true g else r2 g) .bl := fun ρ m => by
  rw [ev_or, h1 ρ m, R.bind_map, R.map_bind]
  refine R.bind_cg fun b g => ?_
  cases b
  · exact h2 g ρ m
  · rfl
theorem np_not {v : Bool} (h : NP p f v .bl) : NP p (xNot f) (!v) .bl := np_un (c' := .bl) h rfl
theorem nx_not {r : R Bool} (h : NX p g f r .bl) : NX p g (xNot f) (r.bind fun a g => .ok (!a) g) .bl := nx_unT (c' := .bl) h fun _ => rfl
theorem np_chain {op op' : D → D → Option D} {v : α} {w : β} {z : γ} {b b' : Bool} (h1 : NP p f v c) (h2 : NP p h w c') (h3 : NP p k z c'') (o1 : op (c v) (c' w) = some (.bl b)) (o2 : op' (c' w) (c'' z) = some (.bl b')) : NP p (xChain op op' f h k) (b && b') .bl := fun ρ m g => by
  rw [ev_chain, h1 ρ m g, R.bind_ok, h2 ρ m g, R.bind_ok, o1]; cases b
  · rfl
  · simp only [h3 ρ m g, R.bind_ok, o2]; rfl
theorem np_if {b : Bool} {v w : α} (ht : TP p t b) (h1 : NP p f v c) (h2 : NP p h w c) : NP p (xIf t f h) (if b then v else w) c := fun ρ m g => by
  rw [ev_if, ht ρ m g, R.bind_ok]; cases b
  · exact h2 ρ m g
  · exact h1 ρ m g
theorem nx_ifP {b : Bool} {v w : R α} (ht : TP p t b) (h1 : NX p g f v c) (h2 : NX p g h w c) : NX p g (xIf t f h) (if b then v else w) c := fun ρ m => by
  rw [ev_if, ht ρ m g, R.bind_ok]; cases b
  · exact h2 ρ m
  · exact h1 ρ m
theorem nx_if {b : R Bool} {v w : G → R α} (ht : TX p g t b) (h1 : ∀ g, NX p g f (v g) c) (h2 : ∀ g, NX p g h (w g) c) : NX p g (xIf t f h) (b.bind fun b g => if b then v g else w g) c := fun ρ m => by
  rw [ev_if, ht ρ m, R.map_bind]
  refine R.bind_cg fun b g => ?_
  cases b
  · exact h2 g ρ m
  · exact h1 g ρ m
/-! tests -/
theorem TP.x {b : Bool} (h : TP p t b) : TX p g t (.ok b g) := fun ρ m => h ρ m g
theorem tp_v {b : Bool} (h : NP p f b .bl) : TP p (tV f) b := fun ρ m g => by rw [ev_tV, h ρ m g]; rfl
theorem tx_v {r : R Bool} (h : NX p g f r .bl) : TX p g (tV f) r := fun ρ m => by
  rw [ev_tV, h ρ m, R.bind_map]; cases r <;> rfl
def isB : D → Option Bool
  | .bl b => some b
  | _ => none
theorem tx_vD {r : R D} (h : NX p g f r cD) : TX p g (tV f) (r.bind fun d g => ofR (isB d) g) := fun ρ m => by
  rw [ev_tV, h ρ m, R.bind_map]
  exact R.bind_cg fun d g => by cases d <;> rfl
theorem tx_vDP {d : D} (h : NP p f d cD) : TX p g (tV f) (ofR (isB d) g) := fun ρ m => by
  rw [ev_tV, h ρ m g, R.bind_ok]; cases d <;> rfl
theorem tp_and {v w : Bool} (h1 : TP p t v) (h2 : TP p u w) : TP p (tAnd t u) (v && w) := fun ρ m g => by
  rw [ev_tAnd, h1 ρ m g, R.bind_ok]; cases v
  · rfl
  · exact h2 ρ m g
theorem tp_or {v w : Bool} (h1 : TP p t v) (h2 : TP p u w) : TP p (tOr t u) (v || w) := fun ρ m g => by
  rw [ev_tOr, h1 ρ m g, R.bind_ok]; cases v
  · exact h2 ρ m g
  · rfl
theorem tx_andP {v : Bool} {w : R Bool} (h1 : TP p t v) (h2 : TX p g u w) : TX p g (tAnd t u) (if v then w else .ok false g) := fun ρ m => by
  rw [ev_tAnd, h1 ρ m g, R.bind_ok]; cases v
  · rfl
  · exact h2 ρ m
theorem tx_orP {v : Bool} {w : R Bool} (h1 : TP p t v) (h2 : TX p g u w) : TX p g (tOr t u) (if v then .ok true g else w) := fun ρ m => by
  rw [ev_tOr, h1 ρ m g, R.bind_ok]; cases v
  · exact h2 ρ m
  · rfl
theorem tx_and {v : R Bool} {w : G → R Bool} (h1 : TX p g t v) (h2 : ∀ g, TX p g u (w g)) : TX p g (tAnd t u) (v.bind fun b g => if b then w g else .ok false g) := fun ρ m => by
  rw [ev_tAnd, h1 ρ m]
  refine R.bind_cg fun b g => ?_
  cases b
  · rfl
  · exact h2 g ρ m
theorem tx_or {v : R Bool} {w : G → R Bool} (h1 : TX p g t v) (h2 : ∀ g, TX p g u (w g)) : TX p g (tOr t u) (v.bind fun b g => if b then .ok true g else w g) := fun ρ m => by
  rw [ev_tOr, h1 ρ m]
  refine R.bind_cg fun b g => ?_
  cases b
  · exact h2 g ρ m
  · rfl
theorem tp_not {v : Bool} (h : TP p t v) : TP p (tNot t) (!v) := fun ρ m g => by rw [ev_tNot, h ρ m g]; rfl
theorem tx_not {v : R Bool} (h : TX p g t v) : TX p g (tNot t) (v.bind fun b g => .ok (!b) g) := fun ρ m => by rw [ev_tNot, h ρ m]
theorem tp_yes : TP p tYes true := fun _ _ _ => rfl
/-! arguments -/
theorem ap_nil : AP p aNil [] := fun _ _ _ => rfl
theorem ap_cons {v : α} {l : List D} (h : NP p f v c) (t : AP p a l) : AP p (aCons f a) (c v :: l) := fun ρ m g => by
  rw [ev_cons, h ρ m g, R.bind_ok, t ρ m g]; rfl
theorem ax_nil {K : List D → G → R D} {r : R α} (h : K [] g = r.map c) : AX p g aNil K r c := fun ρ m => h
theorem ax_P {v : β} {K : List D → G → R D} {r : R α} (h : NP p f v c') (t : AX p g a (fun ds g => K (c' v :: ds) g) r c) : AX p g (aCons f a) K r c := fun ρ m => by
  have := t ρ m
  rw [ev_cons, h ρ m g, R.bind_ok, R.bind_bind]
  exact this
theorem ax_X {r1 : R β} {K : List D → G → R D} {r : β → G → R α} (h : NX p g f r1 c') (t : ∀ b g, AX p g a (fun ds g => K (c' b :: ds) g) (r b g) c) : AX p g (aCons f a) K (r1.bind r) c := fun ρ m => by
  rw [ev_cons, h ρ m, R.bind_map, R.bind_bind, R.map_bind]
  refine R.bind_cg fun b g => ?_
  have := t b g ρ m
  rw [R.bind_bind]
  exact this
theorem np_tup {l : List D} {v : α} (h : AP p a l) (hl : decide (l.length ≤ LIM) = true) (e : c v = .tup l) : NP p (xTup a) v c := fun ρ m g => by
  rw [ev_tup, h ρ m g, R.bind_ok, hl, e]
theorem np_lst {l : List D} {v : α} (h : AP p a l) (hl : decide (l.length ≤ LIM) = true) (e : c v = .lst l) : NP p (xLst a) v c := fun ρ m g => by
  rw [ev_lst, h ρ m g, R.bind_ok, hl, e]
theorem nx_tup {r : R α} (h : AX p g a (fun ds g => if ds.length ≤ LIM then .ok (.tup ds) g else .bad) r c) : NX p g (xTup a) r c := fun ρ m => by
  rw [← h ρ m, ev_tup]
  refine R.bind_cg fun ds g => ?_
  by_cases e : ds.length ≤ LIM
  · rw [if_pos e, decide_eq_true e]
  · rw [if_neg e, decide_eq_false e]
theorem nx_lst {r : R α} (h : AX p g a (fun ds g => if ds.length ≤ LIM then .ok (.lst ds) g else .bad) r c) : NX p g (xLst a) r c := fun ρ m => by
  rw [← h ρ m, ev_lst]
  refine R.bind_cg fun ds g => ?_
  by_cases e : ds.length ≤ LIM
  · rw [if_pos e, decide_eq_true e]
  · rw [if_neg e, decide_eq_false e]
theorem np_cb {op : List D → Option D} {l : List D} {v : α} (h : AP p a l) (e : op l = some (c v)) : NP p (xCB op a) v c := fun ρ m g => by
  rw [ev_cb, h ρ m g, R.bind_ok, e]; rfl
theorem nx_cbP {op : List D → Option D} {l : List D} {o : Option α} (h : AP p a l) (e : op l = o.map c) : NX p g (xCB op a) (ofR o g) c := fun ρ m => by
  rw [ev_cb, h ρ m g, R.bind_ok, e]; cases o <;> rfl
theorem nx_cb {op : List D → Option D} {r : R α} (h : AX p g a (fun ds g => ofO (op ds) g) r c) : NX p g (xCB op a) r c := fun ρ m => by
  rw [← h ρ m]; rfl
theorem np_call {F : FN} {l : List D} {v : α} (h : AP p a l) (e : ∀ g, F l g = .ok (c v) g) : NP p (xCall F a) v c := fun ρ m g => by
  rw [ev_call, h ρ m g, R.bind_ok, e]
theorem nx_callP {F : FN} {l : List D} {r : R α} (h : AP p a l) (e : F l g = r.map c) : NX p g (xCall F a) r c := fun ρ m => by
  rw [ev_call, h ρ m g, R.bind_ok, e]
theorem nx_call {F : FN} {r : R α} (h : AX p g a F r c) : NX p g (xCall F a) r c := h
theorem nx_callVP {tbl : Nat → FN} {n : Nat} {l : List D} {r : R α} (h1 : NP p f (.fn n) cD) (h : AP p a l) (e : tbl n l g = r.map c) : NX p g (xCallV tbl f a) r c := fun ρ m => by
  rw [ev_callV, h1 ρ m g, R.bind_ok]
  simp only [h ρ m g, R.bind_ok, e]
theorem np_flat {v : α} (h : NP p f v c) (e : flatD (c v) = true) : NP p (xFlat f) v c := fun ρ m g => by
  simp only [xFlat, h ρ m g, R.bind_ok, e]
theorem nx_flat {r : R α} (h : NX p g f r c) (e : ∀ a, flatD (c a) = true) : NX p g (xFlat f) r c := fun ρ m => by
  simp only [xFlat, h ρ m, R.bind_map]
  cases r <;> simp [e]
/-! slices -/
theorem np_sl {lo hi : Option X} {v : α} {w : α} {i j : Option Int} (h : NP p f v c) (hl : ∀ x, lo = some x → ∃ n, i = some n ∧ NP p x n .int) (hl0 : lo = none → i = none) (hh : ∀ x, hi = some x → ∃ n, j = some n ∧ NP p x n .int) (hh0 : hi = none → j = none) (e : sliceD (c v) i j = some (c w)) : NP p (xSlice f lo hi) w c := fun ρ m g => by
  cases lo with
  | none =>
    cases hl0 rfl
    cases hi with
    | none => cases hh0 rfl; rw [ev_sl00, h ρ m g, R.bind_ok, e]; rfl
    | some y =>
      obtain ⟨n, rfl, hn⟩ := hh y rfl
      rw [ev_sl01, h ρ m g, R.bind_ok, hn ρ m g, R.bind_ok]
      simp only [e]; rfl
  | some x =>
    obtain ⟨n, rfl, hn⟩ := hl x rfl
    cases hi with
    | none =>
      cases hh0 rfl; rw [ev_sl10, h ρ m g, R.bind_ok, hn ρ m g, R.bind_ok]
      simp only [e]; rfl
    | some y =>
      obtain ⟨n', rfl, hn'⟩ := hh y rfl
      rw [ev_sl11, h ρ m g, R.bind_ok, hn ρ m g, R.bind_ok]
      simp only [hn' ρ m g, R.bind_ok, e]; rfl
theorem np_sl00 {v w : α} (h : NP p f v c) (e : sliceD (c v) none none = some (c w)) : NP p (xSlice f none none) w c := np_sl h (fun _ e => by cases e) (fun _ => rfl) (fun _ e => by cases e) (fun _ => rfl) e
theorem np_sl10 {v w : α} {i : Int} {x : X} (h : NP p f v c) (h1 : NP p x i .int) (e : sliceD (c v) (some i) none = some (c w)) : NP p (xSlice f (some x) none) w c := np_sl h (fun _ e => by cases e; exact ⟨_, rfl, h1⟩) (fun e => by cases e) (fun _ e => by cases e) (fun _ => rfl) e
theorem np_sl01 {v w : α} {i : Int} {x : X} (h : NP p f v c) (h1 : NP p x i .int) (e : sliceD (c v) none (some i) = some (c w)) : NP p (xSlice f none (some x)) w c := np_sl h (fun _ e => by cases e) (fun _ => rfl) (fun _ e => by cases e; exact ⟨_, rfl, h1⟩) (fun e => by cases e) e
theorem np_sl11 {v w : α} {i j : Int} {x y : X} (h : NP p f v c) (h1 : NP p x i .int) (h2 : NP p y j .int) (e : sliceD (c v) (some i) (some j) = some (c w)) : NP p (xSlice f (some x) (some y)) w c := np_sl h (fun _ e => by cases e; exact ⟨_, rfl, h1⟩) (fun e => by cases e) (fun _ e => by cases e; exact ⟨_, rfl, h2⟩) (fun e => by cases e) e
theorem sl_Str {s : List Nat} {i j : Option Int} : sliceD (.str s) i j = some (.str (cut s i j)) := rfl
theorem cut_map {l : List α} {F : α → β} {i j : Option Int} : cut (l.map F) i j = (cut l i j).map F := by simp [cut]
theorem sl_L {l : List α} {i j : Option Int} : sliceD (cL c l) i j = some (cL c (cut l i j)) := by simp [cL, sliceD, cut_map]
theorem sl_T {l : List α} {i j : Option Int} : sliceD (cT c l) i j = some (cT c (cut l i j)) := by simp [cT, sliceD, cut_map]
/-! methods of texts -/
theorem np_sm {op : List Nat → D → Option D} {s : List Nat} {v : β} {w : γ} (h1 : NP p f s .str) (h2 : NP p h v c') (e : op s (c' v) = some (c'' w)) : NP p (xSM op f h) w c'' := fun ρ m g => by
  simp only [xSM, h1 ρ m g, R.bind_ok, h2 ρ m g, e]; rfl
theorem nx_smP {op : List Nat → D → Option D} {s : List Nat} {v : β} {o : Option γ} (h1 : NP p f s .str) (h2 : NP p h v c') (e : op s (c' v) = o.map c'') : NX p g (xSM op f h) (ofR o g) c'' := fun ρ m => by
  simp only [xSM, h1 ρ m g, R.bind_ok, h2 ρ m g, e]; cases o <;> rfl
theorem nx_smX {op : List Nat → D → Option D} {s : List Nat} {r : R β} {o : β → Option γ} (h1 : NP p f s .str) (h2 : NX p g h r c') (e : ∀ b, op s (c' b) = (o b).map c'') : NX p g (xSM op f h) (r.bind fun b g => ofR (o b) g) c'' := fun ρ m => by
  simp only [xSM, h1 ρ m g, R.bind_ok, h2 ρ m, R.bind_map, R.map_bind]
  exact R.bind_cg fun b g => by rw [e]; cases o b <;> rfl
theorem np_idx {v : α} {w : β} {z : γ} (h1 : NP p f v c) (h2 : NP p h w c') (hs : isSeq (c v) = true) (e : idxD (c v) (c' w) = some (c'' z)) : NP p (xIdx f h) z c'' := fun ρ m g => by
  simp only [xIdx, h1 ρ m g, R.bind_ok, hs, h2 ρ m g, e]; rfl
theorem nx_idxP {v : α} {w : β} {o : Option γ} (h1 : NP p f v c) (h2 : NP p h w c') (hs : isSeq (c v) = true) (e : idxD (c v) (c' w) = o.map c'') : NX p g (xIdx f h) (ofR o g) c'' := fun ρ m => by
  simp only [xIdx, h1 ρ m g, R.bind_ok, hs, h2 ρ m g, e]; cases o <;> rfl
/-! what is walked -/
def chars (s : List Nat) : List (List Nat) := s.map fun c => [c]
theorem ip_str {s : List Nat} (h : NP p f s .str) : IP p (iSeq f) (chars s) .str := fun ρ m g => by
  rw [ev_iSeq, h ρ m g, R.bind_ok]; simp [chars]
theorem ip_L {l : List α} (h : NP p f l (cL c)) : IP p (iSeq f) l c := fun ρ m g => by
  rw [ev_iSeq, h ρ m g, R.bind_ok]; rfl
theorem ip_T {l : List α} (h : NP p f l (cT c)) : IP p (iSeq f) l c := fun ρ m g => by
  rw [ev_iSeq, h ρ m g, R.bind_ok]; rfl
theorem ip_tupD {l : List D} {v : α} (h : NP p f v c) (e : c v = .tup l) : IP p (iSeq f) l cD := fun ρ m g => by
  rw [ev_iSeq, h ρ m g, R.bind_ok, e]; simp
theorem ip_lstD {l : List D} {v : α} (h : NP p f v c) (e : c v = .lst l) : IP p (iSeq f) l cD := fun ρ m g => by
  rw [ev_iSeq, h ρ m g, R.bind_ok, e]; simp
theorem IP.x {xs : List α} {it : XA} (h : IP p it xs c) : IX p g it (.ok xs g) c := fun ρ m => h ρ m g
theorem ix_str {r : R (List Nat)} (h : NX p g f r .str) : IX p g (iSeq f) (r.bind fun s g => .ok (chars s) g) .str := fun ρ m => by
  rw [ev_iSeq, h ρ m, R.bind_map, R.map_bind]
  exact R.bind_cg fun s g => by simp [chars]
theorem ix_L {r : R (List α)} (h : NX p g f r (cL c)) : IX p g (iSeq f) r c := fun ρ m => by
  rw [ev_iSeq, h ρ m, R.bind_map]; cases r <;> rfl
theorem ix_T {r : R (List α)} (h : NX p g f r (cT c)) : IX p g (iSeq f) r c := fun ρ m => by
  rw [ev_iSeq, h ρ m, R.bind_map]; cases r <;> rfl
def rng (a : Int) (n : Nat) : List Int := (List.range n).map fun (i : Nat) => a + (i : Int)
def rngO1 (j : Int) : Option (List Int) := if rngOk j && decide (j.toNat ≤ LIM) then some (rng 0 j.toNat) else none
def rngO (i j : Int) : Option (List Int) := if rngOk i && rngOk j && decide ((j - i).toNat ≤ LIM) then some (rng i (j - i).toNat) else none
theorem rng_L (a : Int) (n : Nat) : (rng a n).map D.int = rngL a n := by simp [rng, rngL]
theorem rng1_eq (j : Int) (g : G) : (match rngOk j && decide (j.toNat ≤ LIM) with
    | true => R.ok (rngL 0 j.toNat) g
    | false => .bad) = (ofR (rngO1 j) g).map (List.map D.int) := by
  unfold rngO1
  generalize (rngOk j && decide (j.toNat ≤ LIM)) = b
  cases b
  · rfl
  · show R.ok (rngL 0 j.toNat) g = R.ok ((rng 0 j.toNat).map D.int) g
    rw [rng_L]
theorem rng2_eq (i j : Int) (g : G) : (match rngOk i && rngOk j && decide ((j - i).toNat ≤ LIM) with
    | true => R.ok (rngL i (j - i).toNat) g
    | false => .bad) = (ofR (rngO i j) g).map (List.map D.int) := by
  unfold rngO
  generalize (rngOk i && rngOk j && decide ((j - i).toNat ≤ LIM)) = b
  cases b
  · rfl
  · show R.ok (rngL i (j - i).toNat) g = R.ok ((rng i (j - i).toNat).map D.int) g
    rw [rng_L]
theorem ix_rng1P {j : Int} (h : NP p f j .int) : IX p g (iRng1 f) (ofR (rngO1 j) g) .int := fun ρ m => by
  rw [ev_iRng1, h ρ m g, R.bind_ok]
  exact rng1_eq j g
theorem ix_rng1 {r : R Int} (h : NX p g f r .int) : IX p g (iRng1 f) (r.bind fun j g => ofR (rngO1 j) g) .int := fun ρ m => by
  rw [ev_iRng1, h ρ m, R.bind_map, R.map_bind]
  exact R.bind_cg fun j g => rng1_eq j g
theorem ix_rngP {i j : Int} (h1 : NP p f i .int) (h2 : NP p h j .int) : IX p g (iRng f h) (ofR (rngO i j) g) .int := fun ρ m => by
  rw [ev_iRng, h1 ρ m g, R.bind_ok, h2 ρ m g, R.bind_ok]
  exact rng2_eq i j g
theorem ix_rng {r : R Int} {r2 : Int → G → R Int} (h1 : NX p g f r .int) (h2 : ∀ i g, NX p g h (r2 i g) .int) : IX p g (iRng f h) (r.bind fun i g => (r2 i g).bind fun j g => ofR (rngO i j) g) .int := fun ρ m => by
  rw [ev_iRng, h1 ρ m, R.bind_map, R.map_bind]
  refine R.bind_cg fun i g => ?_
  rw [h2 i g ρ m, R.bind_map, R.map_bind]
  exact R.bind_cg fun j g => rng2_eq i j g
/-- a constant range -/
theorem ip_rng1C {n : Nat} (h : NP p f ((n : Nat) : Int) .int) (hn : n ≤ 1000000) : IP p (iRng1 f) (rng 0 n) .int := fun ρ m g => by
  rw [iRng1_nat (h ρ m g) (LIM_le hn), rng_L]
/-- what may be walked -/
def WK (c : α → D) (c' : β → D) (w : α → List β) : Prop := ∀ v, walkD (c v) = some ((w v).map c')
theorem wk_str : WK D.str D.str chars := fun v => by simp [walkD, chars]
theorem wk_L : WK (cL c) c (fun l => l) := fun v => rfl
theorem wk_T : WK (cT c) c (fun l => l) := fun v => rfl
theorem zip_c2 (l : List α) (m : List β) : zipL (l.map c) (m.map c') = (l.zip m).map (c2 c c') := by
  simp [zipL, List.zip_map, c2, Function.comp_def]
theorem ip_zip {α' β' : Type} {ca : α' → D} {cb : β' → D} {v : α'} {w : β'} {wa : α' → List α} {wb : β' → List β} (h1 : NP p f v ca) (h2 : NP p h w cb) (k1 : WK ca c wa) (k2 : WK cb c' wb) : IP p (iZipA f h) ((wa v).zip (wb w)) (c2 c c') := fun ρ m g => by
  simp only [iZipA, h1 ρ m g, R.bind_ok, h2 ρ m g, k1 v, k2 w, zip_c2]
theorem ix_zip {α' β' : Type} {ca : α' → D} {cb : β' → D} {r : R α'} {r2 : α' → G → R β'} {wa : α' → List α} {wb : β' → List β} (h1 : NX p g f r ca) (h2 : ∀ a g, NX p g h (r2 a g) cb) (k1 : WK ca c wa) (k2 : WK cb c' wb) : IX p g (iZipA f h) (r.bind fun a g => (r2 a g).bind fun b g => .ok ((wa a).zip (wb b)) g) (c2 c c') := fun ρ m => by
  simp only [iZipA, h1 ρ m, R.bind_map, R.map_bind]
  refine R.bind_cg fun a g => ?_
  rw [h2 a g ρ m, R.bind_map]
  refine R.bind_cg fun b g => ?_
  simp only [k1 a, k2 b, zip_c2]; rfl
def enm (l : List α) : List (Int × α) := (rng 0 l.length).zip l
theorem enum_c2 (l : List α) : enumL (l.map c) = (enm l).map (c2 .int c) := by
  unfold enumL enm
  rw [List.length_map, ← rng_L, zip_c2]
theorem ip_enum {α' : Type} {ca : α' → D} {v : α'} {wa : α' → List α} (h1 : NP p f v ca) (k1 : WK ca c wa) : IP p (iEnumA f) (enm (wa v)) (c2 .int c) := fun ρ m g => by
  simp only [iEnumA, h1 ρ m g, R.bind_ok, k1 v, enum_c2]
theorem ix_enum {α' : Type} {ca : α' → D} {r : R α'} {wa : α' → List α} (h1 : NX p g f r ca) (k1 : WK ca c wa) : IX p g (iEnumA f) (r.bind fun a g => .ok (enm (wa a)) g) (c2 .int c) := fun ρ m => by
  simp only [iEnumA, h1 ρ m, R.bind_map, R.map_bind]
  exact R.bind_cg fun a g => by simp only [k1 a, enum_c2]; rfl
/-! targets -/
theorem gt_name {i : Nat} {d : D} (hi : i < p.length) : GT (gName i) d p (p.set i (some d)) := fun ρ m => ⟨_, ev_gName (by rw [← m.1]; exact hi), m.set _ _⟩
theorem gq_nil : GS [] [] p p := fun ρ m => ⟨ρ, rfl, m⟩
theorem gq_cons {tg : TG} {ts : List TG} {d : D} {ds : List D} {p1 p2 : Pt} (h1 : GT tg d p p1) (h2 : GS ts ds p1 p2) : GS (tg :: ts) (d :: ds) p p2 := fun ρ m => by
  obtain ⟨ρ1, e1, m1⟩ := h1 ρ m
  obtain ⟨ρ2, e2, m2⟩ := h2 ρ1 m1
  exact ⟨ρ2, by rw [ev_gCons, e1]; exact e2, m2⟩
theorem gt_tup {ts : List TG} {ds : List D} {d : D} (h : GS ts ds p q) (e : d = .tup ds := by rfl) : GT (gTup ts) d p q := fun ρ m => by
  obtain ⟨ρ1, e1, m1⟩ := h ρ m
  exact ⟨ρ1, by rw [e]; exact e1, m1⟩
/-! comprehensions -/
theorem lcL_P {tg : TG} {e : X} {own : List Nat} {v : α → β} {pr : α → Bool} {q : α → Pt} (ht : ∀ x, GT tg (c x) (PP.wipe own p) (q x)) (hb : ∀ x, TP (q x) t (pr x)) (he : ∀ x, NP (q x) e (v x) c') {ρ : Env} (m : Mt p ρ) (g : G) : ∀ xs : List α, lcL tg t e (PP.wipe own ρ) (xs.map c) g = .ok (((xs.filter pr).map v).map c') g
  | [] => rfl
  | x :: xs => by
    obtain ⟨ρ1, e1, m1⟩ := ht x _ (m.wipe own)
    have ih := lcL_P ht hb he m g xs
    simp only [List.map_cons, lcL, e1, hb x ρ1 m1 g]
    cases hp : pr x
    · simp only [ih, List.filter_cons, hp]; rfl
    · simp only [he x ρ1 m1 g, ih, List.filter_cons, hp, if_true, List.map_cons]
theorem lcL_M {tg : TG} {e : X} {own : List Nat} {v : α → β} {q : α → Pt} (ht : ∀ x, GT tg (c x) (PP.wipe own p) (q x)) (he : ∀ x, NP (q x) e (v x) c') {ρ : Env} (m : Mt p ρ) (g : G) : ∀ xs : List α, lcL tg tYes e (PP.wipe own ρ) (xs.map c) g = .ok ((xs.map v).map c') g
  | [] => rfl
  | x :: xs => by
    obtain ⟨ρ1, e1, m1⟩ := ht x _ (m.wipe own)
    have ih := lcL_M ht he m g xs
    simp only [List.map_cons, lcL, e1, tYes, he x ρ1 m1 g, ih]
theorem np_lcM {it : XA} {tg : TG} {e : X} {own : List Nat} {xs : List α} {v : α → β} {q : α → Pt} (h : IP p it xs c) (ht : ∀ x, GT tg (c x) (PP.wipe own p) (q x)) (he : ∀ x, NP (q x) e (v x) c') : NP p (xLc own it tg tYes e) (xs.map v) (cL c') := fun ρ m g => by
  rw [xLc_of (h ρ m g) (lcL_M ht he m g xs)]; rfl
theorem np_lcP {it : XA} {tg : TG} {e : X} {own : List Nat} {xs : List α} {v : α → β} {pr : α → Bool} {q : α → Pt} (h : IP p it xs c) (ht : ∀ x, GT tg (c x) (PP.wipe own p) (q x)) (hb : ∀ x, TP (q x) t (pr x)) (he : ∀ x, NP (q x) e (v x) c') : NP p (xLc own it tg t e) ((xs.filter pr).map v) (cL c') := fun ρ m g => by
  rw [xLc_of (h ρ m g) (lcL_P ht hb he m g xs)]; rfl
theorem lc_none (it : XA) (own : List Nat) (tg : TG) (t : XT) (e : X) {ρ : Env} {g : G} {r : R (List α)} {k : List α → G → R (List β)} (h : it ρ g = r.map (List.map c)) (h2 : ∀ xs g, (match lcL tg t e (PP.wipe own ρ) (xs.map c) g with
    | .ok ys g2 => R.ok (.lst ys) g2
    | _ => .bad) = (k xs g).map (cL c')) : xLc own it tg t e ρ g = (r.bind k).map (cL c') := by
  unfold xLc
  rw [h, R.bind_map, R.map_bind]
  exact R.bind_cg h2
theorem nx_lcM {it : XA} {tg : TG} {e : X} {own : List Nat} {r : R (List α)} {v : α → β} {q : α → Pt} (h : IX p g it r c) (ht : ∀ x, GT tg (c x) (PP.wipe own p) (q x)) (he : ∀ x, NP (q x) e (v x) c') : NX p g (xLc own it tg tYes e) (r.bind fun xs g => .ok (xs.map v) g) (cL c') := fun ρ m =>
  lc_none it own tg tYes e (h ρ m) fun xs g => by rw [lcL_M ht he m g xs]; rfl
theorem nx_lcP {it : XA} {tg : TG} {e : X} {own : List Nat} {r : R (List α)} {v : α → β} {pr : α → Bool} {q : α → Pt} (h : IX p g it r c) (ht : ∀ x, GT tg (c x) (PP.wipe own p) (q x)) (hb : ∀ x, TP (q x) t (pr x)) (he : ∀ x, NP (q x) e (v x) c') : NX p g (xLc own it tg t e) (r.bind fun xs g => .ok ((xs.filter pr).map v) g) (cL c') := fun ρ m =>
  lc_none it own tg t e (h ρ m) fun xs g => by rw [lcL_P ht hb he m g xs]; rfl
/-- one that is no plain list -/
def lcN (t : α → G → R Bool) (e : α → G → R β) : List α → G → R (List β)
  | [], g => .ok [] g
  | x :: xs, g => match t x g with
    | .ok true g1 => (match e x g1 with
      | .ok y g2 => (match lcN t e xs g2 with
        | .ok ys g3 => .ok (y :: ys) g3
        | _ => .bad)
      | _ => .bad)
    | .ok false g1 => lcN t e xs g1
    | _ => .bad
def yesN (_ : α) (g : G) : R Bool := .ok true g
theorem lcL_N {tg : TG} {e : X} {own : List Nat} {tn : α → G → R Bool} {en : α → G → R β} {q : α → Pt} (ht : ∀ x, GT tg (c x) (PP.wipe own p) (q x)) (hb : ∀ x g, TX (q x) g t (tn x g)) (he : ∀ x g, NX (q x) g e (en x g) c') {ρ : Env} (m : Mt p ρ) : ∀ (xs : List α) (g : G), (match lcL tg t e (PP.wipe own ρ) (xs.map c) g with
    | .ok ys g2 => R.ok (.lst ys) g2
    | _ => .bad) = (match lcN tn en xs g with
    | .ok ys g2 => R.ok (cL c' ys) g2
    | _ => .bad)
  | [], g => rfl
  | x :: xs, g => by
    obtain ⟨ρ1, e1, m1⟩ := ht x _ (m.wipe own)
    simp only [List.map_cons, lcL, e1, lcN, hb x g ρ1 m1]
    cases tn x g with
    | ok b g1 =>
      cases b
      · exact lcL_N ht hb he m xs g1
      · simp only [he x g1 ρ1 m1]
        cases en x g1 with
        | ok y g2 =>
          have ih := lcL_N ht hb he m xs g2
          simp only [R.map_ok]
          cases h1 : lcL tg t e (PP.wipe own ρ) (xs.map c) g2 <;> cases h2 : lcN tn en xs g2 <;> simp only [h1, h2] at ih ⊢ <;> first | (cases ih; rfl) | (cases ih)
        | ex e g2 => rfl
        | bad => rfl
    | ex e g1 => rfl
    | bad => rfl
/-- what a comprehension lets out: no exception -/
def noX : R α → R α
  | .ok a g => .ok a g
  | _ => .bad
@[simp] theorem noX_ok {a : α} {g : G} : noX (.ok a g) = .ok a g := rfl
theorem nx_lcN {it : XA} {tg : TG} {e : X} {own : List Nat} {r : R (List α)} {tn : α → G → R Bool} {en : α → G → R β} {q : α → Pt} (h : IX p g it r c) (ht : ∀ x, GT tg (c x) (PP.wipe own p) (q x)) (hb : ∀ x g, TX (q x) g t (tn x g)) (he : ∀ x g, NX (q x) g e (en x g) c') : NX p g (xLc own it tg t e) (r.bind fun xs g => noX (lcN tn en xs g)) (cL c') := fun ρ m =>
  lc_none it own tg t e (h ρ m) fun xs g => by
    rw [lcL_N ht hb he m xs g]
    cases lcN tn en xs g <;> rfl
/-- .. and with exceptions -/
def lcEN (t : α → G → R Bool) (e : α → G → R β) : List α → G → R (List β)
  | [], g => .ok [] g
  | x :: xs, g => (t x g).bind fun b g => if b then (e x g).bind fun y g => (lcEN t e xs g).bind fun ys g => .ok (y :: ys) g else lcEN t e xs g
theorem lcL_EN {tg : TG} {e : X} {own : List Nat} {tn : α → G → R Bool} {en : α → G → R β} {q : α → Pt} (ht : ∀ x, GT tg (c x) (PP.wipe own p) (q x)) (hb : ∀ x g, TX (q x) g t (tn x g)) (he : ∀ x g, NX (q x) g e (en x g) c') {ρ : Env} (m : Mt p ρ) : ∀ (xs : List α) (g : G), lcLE tg t e (PP.wipe own ρ) (xs.map c) g = (lcEN tn en xs g).map (List.map c')
  | [], g => rfl
  | x :: xs, g => by
    obtain ⟨ρ1, e1, m1⟩ := ht x _ (m.wipe own)
    simp only [List.map_cons, lcLE, e1, lcEN, hb x g ρ1 m1, R.map_bind]
    refine R.bind_cg fun b g => ?_
    cases b
    · exact lcL_EN ht hb he m xs g
    · simp only [if_true, he x g ρ1 m1, R.bind_map, R.map_bind, lcL_EN ht hb he m xs]
      rfl
theorem nx_lcEN {it : XA} {tg : TG} {e : X} {own : List Nat} {r : R (List α)} {tn : α → G → R Bool} {en : α → G → R β} {q : α → Pt} (h : IX p g it r c) (ht : ∀ x, GT tg (c x) (PP.wipe own p) (q x)) (hb : ∀ x g, TX (q x) g t (tn x g)) (he : ∀ x g, NX (q x) g e (en x g) c') : NX p g (xLcE own it tg t e) (r.bind fun xs g => lcEN tn en xs g) (cL c') := fun ρ m => by
  unfold xLcE
  rw [h ρ m, R.bind_map, R.map_bind]
  refine R.bind_cg fun xs g => ?_
  rw [lcL_EN ht hb he m xs g, R.bind_map, ← R.map_id (r := (lcEN tn en xs g).map (cL c'))]
  cases lcEN tn en xs g <;> rfl
end

/-! ### statements -/
def O.then (o : O) (b : PP.S) : O := match o with
  | .nx ρ g => b ρ g
  | o => o
theorem ev_seqT {a b : PP.S} {ρ : Env} {g : G} : sSeq a b ρ g = (a ρ g).then b := by
  unfold sSeq O.then; cases a ρ g <;> rfl
/-- what an outcome is told as -/
structure KS (γ β : Type) where
  K : O → R γ → Prop
  c : β → D
  ret : β → γ
  hex : ∀ e ρ g, K (.ex e ρ g) (.ex e g)
  hbad : K .bad .bad
  hret : ∀ b g, K (.rt (c b) g) (.ok (ret b) g)
def NS {γ β : Type} (k : KS γ β) (p : Pt) (g : G) (S0 : PP.S) (r : R γ) : Prop := ∀ ρ, Mt p ρ → k.K (S0 ρ g) r
/-- a def's end -/
def O.fin : O → R D
  | .rt d g => .ok d g
  | .nx _ g => .ok .non g
  | .ex e _ g => .ex e g
  | _ => .bad
theorem fnOf_fin {n : Nat} {b : PP.S} {ds : List D} {g : G} : fnOf n b ds g = (b (ds.map some ++ List.replicate (n - ds.length) none) g).fin := by
  unfold fnOf
  cases b (ds.map some ++ List.replicate (n - ds.length) none) g <;> rfl
def kFn {β : Type} (c : β → D) : KS β β where
  K o r := o.fin = r.map c
  c := c
  ret b := b
  hex _ _ _ := rfl
  hbad := rfl
  hret _ _ := rfl
/-- a loop's turn -/
inductive Ctl (τ β : Type) where
  | nx (s : τ) | bk (s : τ) | rt (b : β)
def kBody {τ β : Type} (P : τ → Pt) (c : β → D) : KS (Ctl τ β) β where
  K o r := match o, r with
    | .nx ρ g, .ok (.nx s) g' => g = g' ∧ Mt (P s) ρ
    | .ct ρ g, .ok (.nx s) g' => g = g' ∧ Mt (P s) ρ
    | .bk ρ g, .ok (.bk s) g' => g = g' ∧ Mt (P s) ρ
    | .rt d g, .ok (.rt b) g' => g = g' ∧ d = c b
    | .ex e _ g, .ex e' g' => e = e' ∧ g = g'
    | .bad, .bad => True
    | _, _ => False
  c := c
  ret b := .rt b
  hex _ _ _ := ⟨rfl, rfl⟩
  hbad := trivial
  hret _ _ := ⟨rfl, rfl⟩
/-- one without break or return -/
def kTurn {τ : Type} (P : τ → Pt) : KS τ Empty where
  K o r := match o, r with
    | .nx ρ g, .ok s g' => g = g' ∧ Mt (P s) ρ
    | .ct ρ g, .ok s g' => g = g' ∧ Mt (P s) ρ
    | .ex e _ g, .ex e' g' => e = e' ∧ g = g'
    | .bad, .bad => True
    | _, _ => False
  c b := nomatch b
  ret b := nomatch b
  hex _ _ _ := ⟨rfl, rfl⟩
  hbad := trivial
  hret b := nomatch b
section
variable {γ β : Type} {k : KS γ β} {p q : Pt} {g : G} {S0 S1 S2 S3 : PP.S} {α δ : Type} {c : α → D} {c' : δ → D}
theorem NS.weak {r : R γ} (l : Lep p q) (h : NS k p g S0 r) : NS k q g S0 r := fun ρ m => h ρ (m.weak l)
theorem NS.as {r r' : R γ} (h : NS k p g S0 r) (e : r = r') : NS k p g S0 r' := e ▸ h
theorem ns_last {r : R γ} (h : NS k p g (sSeq S0 sNop) r) : NS k p g S0 r := fun ρ m => by
  have := h ρ m
  rw [ev_seqT] at this
  cases e : S0 ρ g <;> rw [e] at this <;> exact this
theorem ns_assoc {r : R γ} (h : NS k p g (sSeq S1 (sSeq S2 S3)) r) : NS k p g (sSeq (sSeq S1 S2) S3) r := fun ρ m => by
  have := h ρ m
  simp only [ev_seqT] at this ⊢
  cases e : S1 ρ g <;> rw [e] at this <;> exact this
theorem ns_nop {r : R γ} (h : NS k p g S0 r) : NS k p g (sSeq sNop S0) r := h
theorem ns_kill {is : List Nat} {r : R γ} (h : NS k (PP.wipe is p) g S0 r) : NS k p g (sSeq (sKill is) S0) r := fun ρ m => h _ (m.wipe is)
theorem ns_end {s : α} {P : α → Pt} (l : Lep (P s) p) : NS (kTurn P) p g sNop (.ok s g) := fun ρ m => ⟨rfl, m.weak l⟩
theorem ns_endB {s : α} {P : α → Pt} (l : Lep (P s) p) : NS (kBody P c') p g sNop (.ok (.nx s) g) := fun ρ m => ⟨rfl, m.weak l⟩
theorem ns_cont {s : α} {P : α → Pt} (l : Lep (P s) p) : NS (kTurn P) p g (sSeq sCont S0) (.ok s g) := fun ρ m => ⟨rfl, m.weak l⟩
theorem ns_contB {s : α} {P : α → Pt} (l : Lep (P s) p) : NS (kBody P c') p g (sSeq sCont S0) (.ok (.nx s) g) := fun ρ m => ⟨rfl, m.weak l⟩
theorem ns_brk {s : α} {P : α → Pt} (l : Lep (P s) p) : NS (kBody P c') p g (sSeq sBrk S0) (.ok (.bk s) g) := fun ρ m => ⟨rfl, m.weak l⟩
theorem ns_off : NS (kFn cN) p g sNop (.ok () g) := fun ρ m => rfl
theorem to_K {f : X} {r : R α} {kk : α → G → R γ} {S0 : D → G → O} {ρ : Env} (h : f ρ g = r.map c) (hk : ∀ a g, k.K (S0 (c a) g) (kk a g)) : k.K ((f ρ g).to ρ S0) (r.bind kk) := by
  rw [h]
  cases r with
  | ok a g => exact hk a g
  | ex e g => exact k.hex e ρ g
  | bad => exact k.hbad
theorem seq_to {α : Type} {x : R α} {ρ : Env} {F : α → G → O} {b : PP.S} : (x.to ρ F).then b = x.to ρ fun a g => (F a g).then b := by
  cases x <;> rfl
theorem ns_set {tg : TG} {f : X} {r : R α} {kk : α → G → R γ} {q : α → Pt} (h : NX p g f r c) (ht : ∀ a, GT tg (c a) p (q a)) (hk : ∀ a g, NS k (q a) g S0 (kk a g)) : NS k p g (sSeq (sSet tg f) S0) (r.bind kk) := fun ρ m => by
  rw [ev_seqT, ev_set, seq_to]
  refine to_K (h ρ m) fun a g => ?_
  obtain ⟨ρ1, e1, m1⟩ := ht a ρ m
  simp only [e1]
  exact hk a g ρ1 m1
theorem ns_setP {tg : TG} {f : X} {v : α} {r : R γ} {q : Pt} (h : NP p f v c) (ht : GT tg (c v) p q) (hk : NS k q g S0 r) : NS k p g (sSeq (sSet tg f) S0) r := fun ρ m => by
  obtain ⟨ρ1, e1, m1⟩ := ht ρ m
  rw [ev_seqT, ev_set, h ρ m g]
  simp only [R.to_ok, e1]
  exact hk ρ1 m1
theorem ns_par {i j : Nat} {f h : X} {r : R α} {r2 : α → G → R δ} {kk : α → δ → G → R γ} (h1 : NX p g f r c) (h2 : ∀ a g, NX p g h (r2 a g) c') (hi : i < p.length) (hj : j < p.length) (hk : ∀ a b g, NS k ((p.set i (some (c a))).set j (some (c' b))) g S0 (kk a b g)) : NS k p g (sSeq (sPar i j f h) S0) (r.bind fun a g => (r2 a g).bind fun b g => kk a b g) := fun ρ m => by
  rw [ev_seqT, ev_par (by rw [← m.1]; exact hi) (by rw [← m.1]; exact hj), seq_to]
  refine to_K (h1 ρ m) fun a g => ?_
  rw [seq_to]
  refine to_K (h2 a g ρ m) fun b g => ?_
  exact hk a b g _ ((m.set _ _).set _ _)
theorem ns_parP {i j : Nat} {f h : X} {v : α} {w : δ} {r : R γ} (h1 : NP p f v c) (h2 : NP p h w c') (hi : i < p.length) (hj : j < p.length) (hk : NS k ((p.set i (some (c v))).set j (some (c' w))) g S0 r) : NS k p g (sSeq (sPar i j f h) S0) r := fun ρ m => by
  rw [ev_seqT, ev_par (by rw [← m.1]; exact hi) (by rw [← m.1]; exact hj), h1 ρ m g]
  simp only [R.to_ok, h2 ρ m g]
  exact hk _ ((m.set _ _).set _ _)
theorem ns_if {t : XT} {b : R Bool} {r1 r2 : G → R γ} (ht : TX p g t b) (h1 : ∀ g, NS k p g (sSeq S1 S0) (r1 g)) (h2 : ∀ g, NS k p g (sSeq S2 S0) (r2 g)) : NS k p g (sSeq (sIf t S1 S2) S0) (b.bind fun b g => if b then r1 g else r2 g) := fun ρ m => by
  rw [ev_seqT, ev_sif, ht ρ m]
  cases b with
  | ok b g =>
    cases b
    · exact h2 g ρ m
    · exact h1 g ρ m
  | ex e g => exact k.hex e ρ g
  | bad => exact k.hbad
theorem ns_ifP {t : XT} {b : Bool} {r1 r2 : R γ} (ht : TP p t b) (h1 : NS k p g (sSeq S1 S0) r1) (h2 : NS k p g (sSeq S2 S0) r2) : NS k p g (sSeq (sIf t S1 S2) S0) (if b then r1 else r2) := fun ρ m => by
  rw [ev_seqT, ev_sif, ht ρ m g]
  cases b
  · exact h2 ρ m
  · exact h1 ρ m
theorem ns_ret {f : X} {r : R β} (h : NX p g f r k.c) : NS k p g (sSeq (sRet f) S0) (r.bind fun b g => .ok (k.ret b) g) := fun ρ m => by
  rw [ev_seqT, ev_ret, h ρ m]
  cases r with
  | ok b g => exact k.hret b g
  | ex e g => exact k.hex e ρ g
  | bad => exact k.hbad
theorem ns_retP {f : X} {v : β} (h : NP p f v k.c) : NS k p g (sSeq (sRet f) S0) (.ok (k.ret v) g) := fun ρ m => by
  rw [ev_seqT, ev_ret, h ρ m g]
  exact k.hret v g
theorem ns_retF {cc : β → D} {f : X} {r : R β} (h : NX p g f r cc) : NS (kFn cc) p g (sSeq (sRet f) S0) r := fun ρ m => by
  rw [ev_seqT, ev_ret, h ρ m]
  cases r <;> rfl
theorem ns_retFP {cc : β → D} {f : X} {v : β} (h : NP p f v cc) : NS (kFn cc) p g (sSeq (sRet f) S0) (.ok v g) := ns_retF h.x
theorem ns_expr {f : X} {r : R α} {kk : α → G → R γ} (h : NX p g f r c) (hk : ∀ a g, NS k p g S0 (kk a g)) : NS k p g (sSeq (sExpr f) S0) (r.bind kk) := fun ρ m => by
  rw [ev_seqT, ev_expr, seq_to]
  exact to_K (h ρ m) fun a g => hk a g ρ m
theorem ns_raise {n : Nat} : NS k p g (sSeq (sRaise n aNil) S0) (.ex (.mk n []) g) := fun ρ m => k.hex _ ρ g
theorem ns_raiseP {n : Nat} {a : XA} {l : List D} (h : AP p a l) : NS k p g (sSeq (sRaise n a) S0) (.ex (.mk n l) g) := fun ρ m => by
  rw [ev_seqT, ev_raise, h ρ m g]; exact k.hex _ ρ g
/-! lists of one's own -/
def appO (l : List α) (x : α) : Option (List α) := if l.length < LIM then some (l ++ [x]) else none
def extO (l m : List α) : Option (List α) := if l.length + m.length ≤ LIM then some (l ++ m) else none
theorem ns_app {i : Nat} {f : X} {l : List α} {r : R α} {kk : List α → G → R γ} (e : p[i]? = some (some (cL c l))) (h : NX p g f r c) (hk : ∀ m g, NS k (p.set i (some (cL c m))) g S0 (kk m g)) : NS k p g (sSeq (sApp i f) S0) (r.bind fun x g => (ofR (appO l x) g).bind kk) := fun ρ m => by
  rw [ev_seqT, ev_app, m.2 i _ e]
  simp only [cL]
  rw [seq_to]
  refine to_K (h ρ m) fun x g => ?_
  unfold appO
  simp only [List.length_map]
  by_cases hl : l.length < LIM
  · simp only [hl, if_true, ofR_some, R.bind_ok]
    have := hk (l ++ [x]) g _ (m.set i (some (cL c (l ++ [x]))))
    simpa [cL, O.then] using this
  · simp only [hl, if_false, ofR_none, R.bind_bad]
    exact k.hbad
theorem ns_appP {i : Nat} {f : X} {l : List α} {x : α} {kk : List α → G → R γ} (e : p[i]? = some (some (cL c l))) (h : NP p f x c) (hk : ∀ m g, NS k (p.set i (some (cL c m))) g S0 (kk m g)) : NS k p g (sSeq (sApp i f) S0) ((ofR (appO l x) g).bind kk) := ns_app e h.x hk
theorem ns_ext {i : Nat} {f : X} {l : List α} {r : R (List α)} {kk : List α → G → R γ} (e : p[i]? = some (some (cL c l))) (h : NX p g f r (cL c)) (hk : ∀ m g, NS k (p.set i (some (cL c m))) g S0 (kk m g)) : NS k p g (sSeq (sExt i f) S0) (r.bind fun x g => (ofR (extO l x) g).bind kk) := fun ρ m => by
  rw [ev_seqT]
  unfold sExt
  rw [m.2 i _ e]
  simp only [cL]
  rw [seq_to]
  refine to_K (h ρ m) fun x g => ?_
  unfold extO
  simp only [cL, List.length_map]
  by_cases hl : l.length + x.length ≤ LIM
  · simp only [hl, decide_true, if_true, ofR_some, R.bind_ok]
    have := hk (l ++ x) g _ (m.set i (some (cL c (l ++ x))))
    simpa [cL, O.then] using this
  · simp only [hl, decide_false, if_false, ofR_none, R.bind_bad]
    exact k.hbad
def popO (l : List α) : Option (α × List α) := match l.getLast? with
  | some x => some (x, l.dropLast)
  | none => none
theorem ns_popTo {i : Nat} {tg : TG} {l : List α} {q : α → List α → Pt} {kk : α × List α → G → R γ} (e : p[i]? = some (some (cL c l))) (ht : ∀ x m, GT tg (c x) (p.set i (some (cL c m))) (q x m)) (hk : ∀ x m g, NS k (q x m) g S0 (kk (x, m) g)) : NS k p g (sSeq (sPopTo tg i) S0) ((ofR (popO l) g).bind kk) := fun ρ m => by
  rw [ev_seqT]
  unfold sPopTo popO
  rw [m.2 i _ e]
  simp only [cL, List.getLast?_map]
  cases h : l.getLast? with
  | none => simp only [Option.map_none, ofR_none, R.bind_bad]; exact k.hbad
  | some x =>
    simp only [Option.map_some, ofR_some, R.bind_ok]
    obtain ⟨ρ1, e1, m1⟩ := ht x l.dropLast _ (m.set i (some (cL c l.dropLast)))
    simp only [cL, List.map_dropLast] at e1
    simp only [e1]
    exact hk x l.dropLast g ρ1 m1
/-! loops -/
def forS {τ : Type} (f : τ → α → G → R τ) : List α → τ → G → R τ
  | [], s, g => .ok s g
  | x :: xs, s, g => (f s x g).bind fun s g => forS f xs s g
def forN {τ β : Type} (f : τ → α → G → R (Ctl τ β)) : List α → τ → G → R (Ctl τ β)
  | [], s, g => .ok (.nx s) g
  | x :: xs, s, g => (f s x g).bind fun r g => match r with
    | .nx s => forN f xs s g
    | .bk s => .ok (.nx s) g
    | .rt b => .ok (.rt b) g
theorem forL_ct (tg : TG) (b : PP.S) : ∀ (ds : List D) (ρ : Env) (g : G) (ρ' : Env) (g' : G), forL tg b ds ρ g ≠ .ct ρ' g' ∧ forL tg b ds ρ g ≠ .bk ρ' g'
  | [], ρ, g, ρ', g' => ⟨fun h => (by cases h), fun h => (by cases h)⟩
  | d :: ds, ρ, g, ρ', g' => by
    unfold forL
    cases tg d ρ with
    | none => exact ⟨fun h => (by cases h), fun h => (by cases h)⟩
    | some ρ1 =>
      simp only
      cases b ρ1 g with
      | nx ρ2 g2 => exact forL_ct tg b ds ρ2 g2 ρ' g'
      | ct ρ2 g2 => exact forL_ct tg b ds ρ2 g2 ρ' g'
      | bk ρ2 g2 => exact ⟨fun h => (by cases h), fun h => (by cases h)⟩
      | rt d g2 => exact ⟨fun h => (by cases h), fun h => (by cases h)⟩
      | ex e ρ2 g2 => exact ⟨fun h => (by cases h), fun h => (by cases h)⟩
      | bad => exact ⟨fun h => (by cases h), fun h => (by cases h)⟩
theorem for_S {τ : Type} {P : τ → Pt} {tg : TG} {b : PP.S} {f : τ → α → G → R τ} {q : τ → α → Pt} (ht : ∀ s x, GT tg (c x) (P s) (q s x)) (hb : ∀ s x g, NS (kTurn P) (q s x) g b (f s x g)) : ∀ (xs : List α) (s : τ) (g : G) (ρ : Env), Mt (P s) ρ → (kTurn P).K (forL tg b (xs.map c) ρ g) (forS f xs s g)
  | [], s, g, ρ, m => ⟨rfl, m⟩
  | x :: xs, s, g, ρ, m => by
    obtain ⟨ρ1, e1, m1⟩ := ht s x ρ m
    have h := hb s x g ρ1 m1
    simp only [List.map_cons, forL, e1, forS]
    cases h1 : b ρ1 g <;> cases h2 : f s x g <;> rw [h1, h2] at h <;> try exact h.elim
    · obtain ⟨rfl, m2⟩ := h
      exact for_S ht hb xs _ _ _ m2
    · obtain ⟨rfl, m2⟩ := h
      exact for_S ht hb xs _ _ _ m2
    · exact h
    · exact trivial
theorem for_N {τ β' : Type} {cb : β' → D} {P : τ → Pt} {tg : TG} {b : PP.S} {f : τ → α → G → R (Ctl τ β')} {q : τ → α → Pt} (ht : ∀ s x, GT tg (c x) (P s) (q s x)) (hb : ∀ s x g, NS (kBody P cb) (q s x) g b (f s x g)) : ∀ (xs : List α) (s : τ) (g : G) (ρ : Env), Mt (P s) ρ → (kBody P cb).K (forL tg b (xs.map c) ρ g) (forN f xs s g)
  | [], s, g, ρ, m => ⟨rfl, m⟩
  | x :: xs, s, g, ρ, m => by
    obtain ⟨ρ1, e1, m1⟩ := ht s x ρ m
    have h := hb s x g ρ1 m1
    simp only [List.map_cons, forL, e1, forN]
    cases h1 : b ρ1 g <;> cases h2 : f s x g <;> rw [h1, h2] at h <;> try exact h.elim
    all_goals try (rename_i r g'; cases r <;> try exact h.elim)
    all_goals first
      | (obtain ⟨rfl, m2⟩ := h; exact for_N ht hb xs _ _ _ m2)
      | exact h
      | exact trivial
theorem ns_for {τ : Type} {P : τ → Pt} {tg : TG} {it : XA} {b : PP.S} {f : τ → α → G → R τ} {q : τ → α → Pt} {r : R (List α)} {s : τ} {kk : τ → G → R γ} (hi : IX p g it r c) (l : Lep (P s) p) (ht : ∀ s x, GT tg (c x) (P s) (q s x)) (hb : ∀ s x g, NS (kTurn P) (q s x) g b (f s x g)) (hk : ∀ s g, NS k (P s) g S0 (kk s g)) : NS k p g (sSeq (sFor tg it b) S0) (r.bind fun xs g => (forS f xs s g).bind kk) := fun ρ m => by
  rw [ev_seqT]
  unfold sFor
  rw [hi ρ m]
  cases r with
  | ok xs g =>
    have h := for_S ht hb xs s g ρ (m.weak l)
    simp only [R.map_ok, R.to_ok, R.bind_ok]
    cases h1 : forL tg b (xs.map c) ρ g <;> cases h2 : forS f xs s g <;> rw [h1, h2] at h <;> try exact h.elim
    · obtain ⟨rfl, m2⟩ := h
      exact hk _ _ _ m2
    · exact absurd h1 (forL_ct _ _ _ _ _ _ _).1
    · obtain ⟨rfl, rfl⟩ := h; exact k.hex _ _ _
    · exact k.hbad
  | ex e g => exact k.hex e ρ g
  | bad => exact k.hbad
theorem ns_forN {τ β' : Type} {cb : β' → D} {P : τ → Pt} {tg : TG} {it : XA} {b : PP.S} {f : τ → α → G → R (Ctl τ β')} {q : τ → α → Pt} {r : R (List α)} {s : τ} {kk : τ → G → R γ} {kr : β' → G → R γ} (hi : IX p g it r c) (l : Lep (P s) p) (ht : ∀ s x, GT tg (c x) (P s) (q s x)) (hb : ∀ s x g, NS (kBody P cb) (q s x) g b (f s x g)) (hr : ∀ x g, k.K (.rt (cb x) g) (kr x g)) (hk : ∀ s g, NS k (P s) g S0 (kk s g)) : NS k p g (sSeq (sFor tg it b) S0) (r.bind fun xs g => (forN f xs s g).bind fun z g => match z with
    | .nx s => kk s g
    | .bk s => kk s g
    | .rt x => kr x g) := fun ρ m => by
  rw [ev_seqT]
  unfold sFor
  rw [hi ρ m]
  cases r with
  | ok xs g =>
    have h := for_N ht hb xs s g ρ (m.weak l)
    simp only [R.map_ok, R.to_ok, R.bind_ok]
    cases h1 : forL tg b (xs.map c) ρ g <;> cases h2 : forN f xs s g <;> rw [h1, h2] at h <;> try exact h.elim
    all_goals try (rename_i r g'; cases r <;> try exact h.elim)
    · obtain ⟨rfl, m2⟩ := h
      exact hk _ _ _ m2
    · obtain ⟨rfl, rfl⟩ := h
      exact hr _ _
    · exact absurd h1 (forL_ct _ _ _ _ _ _ _).2
    · exact absurd h1 (forL_ct _ _ _ _ _ _ _).1
    · obtain ⟨rfl, rfl⟩ := h; exact k.hex _ _ _
    · exact k.hbad
  | ex e g => exact k.hex e ρ g
  | bad => exact k.hbad
def whileS {τ : Type} (t : τ → G → R Bool) (f : τ → G → R τ) : Nat → τ → G → R τ
  | 0, _, _ => .bad
  | n + 1, s, g => (t s g).bind fun b g => if b then (f s g).bind fun s g => whileS t f n s g else .ok s g
def whileN {τ β : Type} (t : τ → G → R Bool) (f : τ → G → R (Ctl τ β)) : Nat → τ → G → R (Ctl τ β)
  | 0, _, _ => .bad
  | n + 1, s, g => (t s g).bind fun b g => if b then (f s g).bind fun r g => (match r with
    | .nx s => whileN t f n s g
    | .bk s => .ok (.nx s) g
    | .rt b => .ok (.rt b) g) else .ok (.nx s) g
theorem while_S {τ : Type} {P : τ → Pt} {t : XT} {b : PP.S} {tn : τ → G → R Bool} {f : τ → G → R τ} (ht : ∀ s g, TX (P s) g t (tn s g)) (hb : ∀ s g, NS (kTurn P) (P s) g b (f s g)) : ∀ (n : Nat) (s : τ) (g : G) (ρ : Env), Mt (P s) ρ → (kTurn P).K (whileL t b n ρ g) (whileS tn f n s g)
  | 0, s, g, ρ, m => trivial
  | n + 1, s, g, ρ, m => by
    unfold whileL whileS
    rw [ht s g ρ m]
    cases tn s g with
    | ok c g1 =>
      cases c
      · exact ⟨rfl, m⟩
      · have h := hb s g1 ρ m
        simp only [R.to_ok, R.bind_ok, if_true]
        cases h1 : b ρ g1 <;> cases h2 : f s g1 <;> rw [h1, h2] at h <;> try exact h.elim
        · obtain ⟨rfl, m2⟩ := h
          exact while_S ht hb n _ _ _ m2
        · obtain ⟨rfl, m2⟩ := h
          exact while_S ht hb n _ _ _ m2
        · exact h
        · exact trivial
    | ex e g1 => exact ⟨rfl, rfl⟩
    | bad => exact trivial
theorem while_N {τ β' : Type} {cb : β' → D} {P : τ → Pt} {t : XT} {b : PP.S} {tn : τ → G → R Bool} {f : τ → G → R (Ctl τ β')} (ht : ∀ s g, TX (P s) g t (tn s g)) (hb : ∀ s g, NS (kBody P cb) (P s) g b (f s g)) : ∀ (n : Nat) (s : τ) (g : G) (ρ : Env), Mt (P s) ρ → (kBody P cb).K (whileL t b n ρ g) (whileN tn f n s g)
  | 0, s, g, ρ, m => trivial
  | n + 1, s, g, ρ, m => by
    unfold whileL whileN
    rw [ht s g ρ m]
    cases tn s g with
    | ok c g1 =>
      cases c
      · exact ⟨rfl, m⟩
      · have h := hb s g1 ρ m
        simp only [R.to_ok, R.bind_ok, if_true]
        cases h1 : b ρ g1 <;> cases h2 : f s g1 <;> rw [h1, h2] at h <;> try exact h.elim
        all_goals try (rename_i r g'; cases r <;> try exact h.elim)
        all_goals first
          | (obtain ⟨rfl, m2⟩ := h; exact while_N ht hb n _ _ _ m2)
          | exact h
          | exact trivial
    | ex e g1 => exact ⟨rfl, rfl⟩
    | bad => exact trivial
theorem whileL_ct (t : XT) (b : PP.S) : ∀ (n : Nat) (ρ : Env) (g : G) (ρ' : Env) (g' : G), whileL t b n ρ g ≠ .ct ρ' g' ∧ whileL t b n ρ g ≠ .bk ρ' g'
  | 0, ρ, g, ρ', g' => ⟨fun h => (by cases h), fun h => (by cases h)⟩
  | n + 1, ρ, g, ρ', g' => by
    unfold whileL
    cases t ρ g with
    | ok c g1 =>
      cases c
      · exact ⟨fun h => (by cases h), fun h => (by cases h)⟩
      · simp only [R.to_ok]
        cases b ρ g1 with
        | nx ρ2 g2 => exact whileL_ct t b n ρ2 g2 ρ' g'
        | ct ρ2 g2 => exact whileL_ct t b n ρ2 g2 ρ' g'
        | bk ρ2 g2 => exact ⟨fun h => (by cases h), fun h => (by cases h)⟩
        | rt d g2 => exact ⟨fun h => (by cases h), fun h => (by cases h)⟩
        | ex e ρ2 g2 => exact ⟨fun h => (by cases h), fun h => (by cases h)⟩
        | bad => exact ⟨fun h => (by cases h), fun h => (by cases h)⟩
    | ex e g1 => exact ⟨fun h => (by cases h), fun h => (by cases h)⟩
    | bad => exact ⟨fun h => (by cases h), fun h => (by cases h)⟩
theorem ns_while {τ : Type} {P : τ → Pt} {t : XT} {b : PP.S} {n : Nat} {tn : τ → G → R Bool} {f : τ → G → R τ} {s : τ} {kk : τ → G → R γ} (l : Lep (P s) p) (ht : ∀ s g, TX (P s) g t (tn s g)) (hb : ∀ s g, NS (kTurn P) (P s) g b (f s g)) (hk : ∀ s g, NS k (P s) g S0 (kk s g)) : NS k p g (sSeq (sWhile n t b) S0) ((whileS tn f n s g).bind kk) := fun ρ m => by
  rw [ev_seqT]
  unfold sWhile
  have h := while_S ht hb n s g ρ (m.weak l)
  cases h1 : whileL t b n ρ g <;> cases h2 : whileS tn f n s g <;> rw [h1, h2] at h <;> try exact h.elim
  · obtain ⟨rfl, m2⟩ := h
    exact hk _ _ _ m2
  · exact absurd h1 (whileL_ct _ _ _ _ _ _ _).1
  · obtain ⟨rfl, rfl⟩ := h; exact k.hex _ _ _
  · exact k.hbad
theorem ns_whileN {τ β' : Type} {cb : β' → D} {P : τ → Pt} {t : XT} {b : PP.S} {n : Nat} {tn : τ → G → R Bool} {f : τ → G → R (Ctl τ β')} {s : τ} {kk : τ → G → R γ} {kr : β' → G → R γ} (l : Lep (P s) p) (ht : ∀ s g, TX (P s) g t (tn s g)) (hb : ∀ s g, NS (kBody P cb) (P s) g b (f s g)) (hr : ∀ x g, k.K (.rt (cb x) g) (kr x g)) (hk : ∀ s g, NS k (P s) g S0 (kk s g)) : NS k p g (sSeq (sWhile n t b) S0) ((whileN tn f n s g).bind fun z g => match z with
    | .nx s => kk s g
    | .bk s => kk s g
    | .rt x => kr x g) := fun ρ m => by
  rw [ev_seqT]
  unfold sWhile
  have h := while_N ht hb n s g ρ (m.weak l)
  cases h1 : whileL t b n ρ g <;> cases h2 : whileN tn f n s g <;> rw [h1, h2] at h <;> try exact h.elim
  all_goals try (rename_i r g'; cases r <;> try exact h.elim)
  · obtain ⟨rfl, m2⟩ := h
    exact hk _ _ _ m2
  · obtain ⟨rfl, rfl⟩ := h
    exact hr _ _
  · exact absurd h1 (whileL_ct _ _ _ _ _ _ _).2
  · exact absurd h1 (whileL_ct _ _ _ _ _ _ _).1
  · obtain ⟨rfl, rfl⟩ := h; exact k.hex _ _ _
  · exact k.hbad
end
end PP

/-! PP2: order of data, more operations (core Lean alone). -/
namespace PP
def WFUEL : Nat := 1000000
set_option linter.all false
mutual
/-- < of alike data -/
def ltB : D → D → Bool
  | .bl a, .bl b => !a && b
  | .int i, .int j => decide (i < j)
  | .str a, .str b => ltL a b
  | .tup xs, .tup ys => ltBL xs ys
  | .lst xs, .lst ys => ltBL xs ys
  | _, _ => false
def ltBL : List D → List D → Bool
  | x :: xs, y :: ys => if eqB x y then ltBL xs ys else ltB x y
  | [], _ :: _ => true
  | _, [] => false
end
mutual
/-- may be compared, place by place -/
def alB : D → D → Bool
  | .non, .non => true
  | .bl _, .bl _ => true
  | .int _, .int _ => true
  | .str _, .str _ => true
  | .lst xs, .lst ys => alBL xs ys
  | .tup xs, .tup ys => alBL xs ys
  | _, _ => false
def alBL : List D → List D → Bool
  | x :: xs, y :: ys => alB x y && alBL xs ys
  | [], _ => true
  | _ :: _, [] => true
end
def isTupNE : D → Bool
  | .tup (_ :: _) => true
  | _ => false
def isPlainK : D → Bool
  | .non => false
  | .tup _ => false
  | _ => true
/-- may be sorted -/
def srtOk (l : List D) : Bool := l.all shapeOk && (l.all fun x => l.all fun y => alB x y) && (l.all isTupNE || l.all isPlainK)
def insD (x : D) : List D → List D
  | [] => [x]
  | y :: ys => if ltB y x then y :: insD x ys else x :: y :: ys
def sortL (l : List D) : List D := l.foldr insD []
def minL : D → List D → D := fun x l => l.foldl (fun a y => if ltB y a then y else a) x
def maxL : D → List D → D := fun x l => l.foldl (fun a y => if ltB a y then y else a) x
def rowOf : D → Option (List D)
  | .lst l => some l
  | .tup l => some l
  | _ => none
def minD : List D → Option D
  | [.int i, .int j] => some (.int (if j < i then j else i))
  | [d] => (rowOf d).bind fun l => match l with
    | x :: xs => if srtOk (x :: xs) then some (minL x xs) else none
    | [] => none
  | _ => none
def maxD : List D → Option D
  | [.int i, .int j] => some (.int (if j > i then j else i))
  | [d] => (rowOf d).bind fun l => match l with
    | x :: xs => if srtOk (x :: xs) then some (maxL x xs) else none
    | [] => none
  | _ => none
def keyed : List D → Bool
  | [] => true
  | .int _ :: r => r.all fun d => match d with | .int _ => true | _ => false
  | .str _ :: r => r.all fun d => match d with | .str _ => true | _ => false
  | _ => false
/-- sorted(..): a new list -/
def sortedD : List D → Option D
  | [.lst l] => if srtOk l then some (.lst (sortL l)) else none
  | [.dic ks _] => if keyed ks && decide (ks.length < 64) then some (.lst (sortL ks)) else none
  | _ => none
/-- list(..) of a text, too -/
def listD2 : List D → Option D
  | [.str s] => some (.lst (s.map fun c => .str [c]))
  | l => listD l
/-- a * n, of texts too -/
def mulD2 : D → D → Option D
  | .str s, .int k => if cntOk s.length k then some (.str (repL k.toNat s)) else none
  | a, b => mulD a b
/-- {}, {k: v, ..} with at most 15 -/
def xDic0 : X := fun _ g => .ok (.dic [] []) g
def putAll : List (D × D) → List D → List D → D
  | [], ks, vs => .dic ks vs
  | (k, v) :: r, ks, vs => match dPut k v ks vs with
    | .dic ks' vs' => putAll r ks' vs'
    | _ => .non
def xPairs : List (X × X) → Env → G → R (List (D × D))
  | [], _, g => .ok [] g
  | (k, v) :: r, ρ, g => (k ρ g).bind fun dk g1 => (v ρ g1).bind fun dv g2 => (xPairs r ρ g2).bind fun l g3 => .ok ((dk, dv) :: l) g3
def xDisp (ps : List (X × X)) : X := fun ρ g => (xPairs ps ρ g).bind fun l g1 => match decide (l.length ≤ 15) && l.all fun kv => isKey kv.1 with
  | true => .ok (putAll l [] []) g1
  | false => .bad
/-- the item of a row of one's own -/
def xIxO (i : Nat) (h : X) : X := fun ρ g => (h ρ g).bind fun k g1 => match ρ[i]? with
  | some (some (.lst l)) => (match k with
    | .int z => ofO (itD l z) g1
    | _ => .bad)
  | _ => .bad
/-- what __init__ makes: slot 0 is the new instance, which nobody reads -/
noncomputable def initF (c n : Nat) (J : XJ) : FN := fun ds g => open Classical in if ∀ a, initOf c n J a ds g = initOf c n J 0 ds g then initOf c n J 0 ds g else .bad
theorem initF_hF (c n : Nat) (J : XJ) (a : Nat) (ds : List D) (g : G) (h : initF c n J ds g ≠ .bad) : initOf c n J a ds g = initF c n J ds g := by
  unfold initF at h ⊢
  by_cases q : ∀ a, initOf c n J a ds g = initOf c n J 0 ds g
  · rw [if_pos q]; exact q a
  · rw [if_neg q] at h; exact absurd rfl h
theorem initF_ins {c n : Nat} {J : XJ} (ds : List D) (g : G) (d : D) (g' : G) (h : initF c n J ds g = .ok d g') : ∃ fs, d = .ins c fs := by
  unfold initF at h
  split at h
  · unfold initOf at h
    cases hb : J (some (.gen 0) :: ds.map some ++ List.replicate (n - 1 - ds.length) none) g with
    | ok fs g1 => rw [hb] at h; cases h; exact ⟨fs, rfl⟩
    | ex e g1 => rw [hb] at h; cases h
    | bad => rw [hb] at h; cases h
  · cases h
theorem initF_of {c n : Nat} {J : XJ} {ds : List D} {g : G} {r : R D} (h : ∀ a, initOf c n J a ds g = r) : initF c n J ds g = r := by
  unfold initF
  rw [if_pos fun a => (h a).trans (h 0).symm]
  exact h 0
end PP

set_option Elab.async false
set_option linter.all false
set_option maxRecDepth 100000
set_option maxHeartbeats 4000000
/-! Tuples whose object is known (no dict of its own): made by the kit's rules, held as such. -/
namespace PPT
open PySem PySem.Spec PyProof.Rows L2
/-- the tuple vs stands at a -/
def TH (H : Hp) (a : Addr) (vs : List V) : Prop := ∃ o : Obj, o.cls = .type "tuple" ∧ o.dict = none ∧ H a = some (.frz o (.tup vs))
theorem TH.sq {K : PySem.W.Frag} {H : Hp} {a : Addr} {vs : List V} (h : TH H a vs) : SqT K H a vs := by
  obtain ⟨o, _, _, h⟩ := h
  exact .inl (.inr ⟨o, h⟩)
theorem TH.mono {F H : Hp} {a : Addr} {vs : List V} (h : TH F a vs) (s : ∀ a o, F a = some o → H a = some o) : TH H a vs := by
  obtain ⟨o, h1, h2, h3⟩ := h
  exact ⟨o, h1, h2, s _ _ h3⟩
/-- a new tuple -/
def nT (H : Hp) (Q : VK) (vs : List V) : Prop := ∀ p o, H p = none → o.cls = .type "tuple" → o.dict = none → Q (.ref p) (upd H p (.frz o (.tup vs)))
section
variable {X : Cx} {pins : List (Addr × Obj)} {σ : L2.St} {H : Hp} {s : Shared} {Q : VK}
theorem laidT (I : Inv X pins σ H s) {xs : List V} {its : List Value} (r : Vals xs its) (hz : xs.length ≤ sizeLine) (q : nT H Q xs) : EP X pins σ Q (.ref s.heap.objs.size) { s with heap := s.heap.push { cls := .type "tuple", data := .seq its.toArray } } :=
  ⟨.ref s.heap.objs.size, upd H s.heap.objs.size (.frz { cls := .type "tuple", data := .seq its.toArray } (.tup xs)), I.laid (t' := s.toks) (o := .frz { cls := .type "tuple", data := .seq its.toArray } (.tup xs)) (fun b u e => Heap.get?_push_of_some _ e) (Nat.le_refl _)
    ⟨Heap.get?_push_size _ rfl, hz, its, r, IsTup.new _ _⟩, rfl, q _ _ (I.hok.fresh (Nat.le_refl _)) rfl rfl⟩
theorem TH.inj (I : Inv X pins σ H s) {a : Addr} {vs : List V} (h : TH H a vs) : ∃ its : List Value, Vals vs its ∧ (∃ o, s.heap.get? a = some o ∧ o.cls = .type "tuple" ∧ o.dict = none) ∧ IsTup s.heap a its.toArray ∧ vs.length ≤ sizeLine := by
  obtain ⟨o, h1, h2, h3⟩ := h
  obtain ⟨e, hz, its, r, p⟩ := (show ObjOk X.prog X.w H s.heap a (.frz o (.tup vs)) from I.hok a _ h3)
  exact ⟨its, r, ⟨o, e, h1, h2⟩, p, hz⟩
end
section
variable {X : Cx}
def tTupF (t : TA) : TE := fun σ H Q => t σ H fun xs H1 => xs.length ≤ sizeLine ∧ nT H1 Q xs
theorem pe_tupF {es : List Expr} {t : TA} {pos : Pos} {x1} (h : PA X es t) : PE X (.Tuple es x1 pos) (tTupF t) := by
  refine ⟨fun pins s σ H Q I hq => ?_⟩
  exact wpAny_Tuple_spliced (thn (h.run pos pins s σ H _ I hq) fun us s1 ⟨xs, H1, I1, r, z, q⟩ => ⟨by rw [← r.length]; exact z, laidT I1 r z q⟩)
def rCatF (K : PySem.W.Frag) : R2 := fun x y H Q => ∃ a b xs ys, x = .ref a ∧ y = .ref b ∧ SqT K H a xs ∧ SqT K H b ys ∧ xs.length + ys.length ≤ sizeLine ∧
  (xs = [] → Q (.ref b) H) ∧ (xs ≠ [] → ys = [] → Q (.ref a) H) ∧ (xs ≠ [] → ys ≠ [] → nT H Q (xs ++ ys))
theorem op_catF : OpR X (binaryOp .Add) (rCatF X.K) := by
  intro pins s σ H x y v u Q I rx ry h
  obtain ⟨a, b, xs, ys, rfl, rfl, ha, hb, hz, q0, q1, q2⟩ := h
  cases rx
  cases ry
  obtain ⟨its, r1, p1, _⟩ := I.tuple ha
  obtain ⟨its2, r2, p2, _⟩ := I.tuple hb
  by_cases hx : xs = []
  · subst hx
    cases r1
    exact cat_tup0 p1 p2 ⟨.ref b, H, I, rfl, q0 rfl⟩
  · exact HT.cat_tup p1 p2 (fun z => hx (r1.nil_iff.mp z)) (fun z => ⟨.ref a, H, I, rfl, q1 hx (r2.nil_iff.mp z)⟩) (fun z => laidT I (r1.append r2) (by rw [List.length_append]; exact hz) (q2 hx fun w => z (r2.nil_iff.mpr w))) (by rw [← r1.length, ← r2.length]; exact hz)
def rSlF (K : PySem.W.Frag) : V → Option Int → Option Int → Hp → VK → Prop := fun x lo hi H Q => ∃ a xs, x = .ref a ∧ SqT K H a xs ∧
  (HT.sIx xs.length 0 lo = 0 ∧ HT.sIx xs.length xs.length hi = xs.length → Q (.ref a) H) ∧ (¬ (HT.sIx xs.length 0 lo = 0 ∧ HT.sIx xs.length xs.length hi = xs.length) → nT H Q (cutV xs lo hi))
theorem sl_tupF : SlR X (rSlF X.K) := by
  intro pins s σ H x v vl vu lo hi sl Q I rx hs pl pu h
  obtain ⟨a, xs, rfl, hx, q1, q2⟩ := h
  cases rx
  obtain ⟨its, r, ht, hz⟩ := I.tuple hx
  have hlen : its.toArray.size = xs.length := by rw [List.size_toArray]; exact r.length.symm
  refine ⟨"tuple", _, PyProof.Rows.slot_tuple_getitem.lookup, ht.typeIs, ?_⟩
  by_cases hw : HT.sIx xs.length 0 lo = 0 ∧ HT.sIx xs.length xs.length hi = xs.length
  · exact getItem_tuple_whole ht hs pl pu (by rw [hlen]; exact hw) ⟨.ref a, H, I, rfl, q1 hw⟩
  · refine HT.getItem_tuple_cut ht hs pl pu (by rw [hlen]; exact hw) ?_ (by rw [hlen]; exact hz)
    rw [hlen]
    exact laidT I ((r.drop (HT.sIx xs.length 0 lo)).take (HT.sIx xs.length xs.length hi - HT.sIx xs.length 0 lo)) (Nat.le_trans (cutV_length xs lo hi) hz) (q2 hw)
def rTupleF (K : PySem.W.Frag) : List V → Hp → VK → Prop := fun xs H Q => ∃ p ys, xs = [.ref p] ∧ ((SqL K H p ys ∧ nT H Q ys) ∨ (SqT K H p ys ∧ Q (.ref p) H))
theorem call_tupleF : CallR X (.type "tuple") (rTupleF X.K) := by
  intro pins s σ H xs us Q I r h
  obtain ⟨p, ys, rfl, h⟩ := h
  obtain ⟨u, rfl, rx⟩ := vals1 r
  cases rx
  rcases h with ⟨hq, q⟩ | ⟨hq, q⟩
  · obtain ⟨its, r', pl, hz⟩ := I.list hq
    have hlen := r'.length
    refine call_tuple_list pl.isList (fun h' kp => ?_) (by simp only [List.size_toArray] <;> omega)
    have I1 : Inv X pins σ H { s with heap := h' } := I.kept (t' := s.toks) kp
    exact laidT I1 r' hz q
  · obtain ⟨its, r', pl, hz⟩ := I.tuple hq
    exact call_tuple_same pl ⟨.ref p, H, I, rfl, q⟩
def rRepF (K : PySem.W.Frag) : R2 := fun x y H Q => ∃ l k xs, x = .ref l ∧ y = .int k ∧ SqT K H l xs ∧ xs ≠ [] ∧ 2 ≤ k ∧ k ≤ 1000 ∧ xs.length ≤ 1000 ∧ nT H Q (List.replicate k.toNat xs).flatten
theorem op_repF : OpR X (binaryOp .Mult) (rRepF X.K) := by
  intro pins s σ H x y v u Q I rx ry h
  obtain ⟨l, k, xs, rfl, rfl, hT, hne, h1, h2, hz, q⟩ := h
  cases rx
  obtain ⟨t, rfl⟩ := ry
  obtain ⟨its, r, ⟨⟨cls, dd, data, sl⟩, ho, hc, n, hd⟩, hs⟩ := I.tuple hT
  simp only at hc hd
  subst hc hd
  have hle : its.length = xs.length := r.length.symm
  have hn : its ≠ [] := fun e => hne (by
    rw [e] at hle
    exact List.eq_nil_of_length_eq_zero hle.symm)
  have hi : its.toArray.isEmpty = false := by
    cases its with
    | nil => exact absurd rfl hn
    | cons a b => rfl
  have hsz0 : its.toArray.size = xs.length := by rw [List.size_toArray, hle]
  have hm : ((its.toArray.size : Nat) : Int) * k ≤ 1000000 := by
    rw [hsz0]
    have a1 : ((xs.length : Nat) : Int) * k ≤ 1000 * k := Int.mul_le_mul_of_nonneg_right (by omega) (by omega)
    omega
  have flen : (List.replicate k.toNat its).flatten.length ≤ sizeLine := by
    rw [PyProof.Rows.lm_len_rep_flat, hle, sizeLine_eq]
    have a1 : k.toNat * xs.length ≤ 1000 * 1000 := Nat.mul_le_mul (by omega) hz
    omega
  have c0 : (decide (k < -(2 ^ 63)) || decide (k ≥ 2 ^ 63)) = false := by
    rw [decide_eq_false (by omega), decide_eq_false (by omega)] <;> rfl
  have c1 : (its.toArray.isEmpty || k == 1) = false := by
    rw [hi, Bool.false_or]
    exact beq_eq_false_iff_ne.mpr (by omega)
  have c2 : (decide (k ≤ 0) || its.toArray.isEmpty) = false := by
    rw [hi, Bool.or_false]
    exact decide_eq_false (by omega)
  have c4 : Builtin.Tuple.tupleTooMany (((its.toArray.size : Nat) : Int) * k) = false := by
    unfold Builtin.Tuple.tupleTooMany
    rw [sizeLine_eq]
    exact decide_eq_false (by omega)
  refine wpAny_binaryOp_repeat_ref (T := "tuple") (U := "int") (by decide) ⟨_, ho, rfl⟩ (fun s' => typeIs_int s' k t) noFill_tuple_mul F.fills_int_mul F.slot_int_rmul repeat_tuple F.slot_int_index.lookup
    (call_meets F.slot_int_rmul (typeIs_int s k t) F.entry_int_rmul (F.args_int_rmul_2 _ _) (int_rmul_tuple k t l its.toArray n dd sl)
      ⟨ho, rfl, ⟨_, ho, rfl⟩, call_meets F.slot_tuple_mul ⟨_, ho, rfl⟩ F.entry_tuple_mul (F.args_tuple_mul_2 _ _) (tuple_mulW l its.toArray n dd sl k t c0 c1 c2 (by omega) c4 (by rw [size_rep, List.size_toArray]; exact flen)) ⟨ho, ?_⟩⟩)
  rw [size_rep]
  exact laidT I (r.rep k.toNat) (by rw [PyProof.Rows.lm_len_rep_flat, sizeLine_eq]; have a1 : k.toNat * xs.length ≤ 1000 * 1000 := Nat.mul_le_mul (by omega) hz; omega) q
end
end PPT

set_option Elab.async false
set_option linter.all false
set_option maxRecDepth 100000
set_option maxHeartbeats 4000000
/-! PPS: the plain functions of PP are what the text does: over HandS. -/
namespace PP
open PySem L2

/-- where the module's defs and classes lie; the classes' fields in order -/
structure Tb where
  K : PySem.W.Frag
  fnA : Nat → Option Addr
  clA : Nat → Option Addr
  clF : Nat → List Str
  exA : Nat → Option Addr
  exF : Nat → List Str
  exn : Option (Addr × Addr)

mutual
def Rep (T : Tb) (H : Hp) : V → D → Prop
  | v, .non => v = .non
  | v, .bl b => v = .bl b
  | v, .int i => v = .int i
  | v, .str s => v = .str ⟨s.toArray⟩ ∧ s.length ≤ LIM ∧ ∀ c ∈ s, c < 1114112
  | v, .tup l => ∃ (a : Addr) (vs : List V), v = .ref a ∧ PPT.TH H a vs ∧ vs.length ≤ LIM ∧ RepL T H vs l
  | v, .lst l => ∃ (a : Addr) (vs : List V), v = .ref a ∧ H a = some (.lst vs) ∧ vs.length ≤ LIM ∧ RepL T H vs l
  | v, .fn n => ∃ a : Addr, v = .ref a ∧ T.fnA n = some a
  | v, .gen a => v = .ref a
  | v, .dic ks vs => ∃ (a : Addr) (kvs : List (Key × V)), v = .ref a ∧ H a = some (.dK kvs) ∧ kvs.length ≤ LIM ∧ RepL T H (kvs.map fun kv => kV kv.1) ks ∧ RepL T H (kvs.map (·.2)) vs
  | v, .ins c fs => (∃ (a C dx : Addr) (ps : List (Str × V)), v = .ref a ∧ H a = some (.ins C dx ps) ∧ T.clA c = some C ∧ ps.map (·.1) = (T.clF c).take fs.length ∧ RepL T H (ps.map (·.2)) fs) ∨
      ∃ (a d : Addr) (ps : List (Str × V)), T.exn = some (a, d) ∧ v = .ref a ∧ H d = some (.xd ps) ∧ ps.map (·.1) = T.exF c ∧ RepL T H (ps.map (·.2)) fs
def RepL (T : Tb) (H : Hp) : List V → List D → Prop
  | [], [] => True
  | v :: vs, d :: ds => Rep T H v d ∧ RepL T H vs ds
  | [], _ :: _ => False
  | _ :: _, [] => False
end
def Sub (F H : Hp) : Prop := ∀ a o, F a = some o → H a = some o
theorem Sub.refl (H : Hp) : Sub H H := fun _ _ h => h
theorem Sub.trans {A B C : Hp} (a : Sub A B) (b : Sub B C) : Sub A C := fun x o h => b x o (a x o h)
theorem Sub.upd {F H : Hp} {p : Addr} {o : HO} (s : Sub F H) (n : F p = none) : Sub F (L2.upd H p o) := fun a u e => by
  rw [upd_ne (ne_of_none e n)]; exact s a u e
theorem Sub.upd2 {F H : Hp} {p : Addr} {o : HO} (s : Sub F H) : Sub (L2.upd F p o) (L2.upd H p o) := fun a u e => by
  by_cases h : a = p
  · subst h; rw [upd_same] at e; rw [upd_same]; exact e
  · rw [upd_ne h] at e; rw [upd_ne h]; exact s a u e
theorem Sub.none {F H : Hp} (s : Sub F H) {p : Addr} (h : H p = none) : F p = none := by
  cases e : F p with
  | none => rfl
  | some o => rw [s p o e] at h; cases h

mutual
theorem Rep.mono {T : Tb} {H H' : Hp} (e : Sub H H') : ∀ (d : D) (v : V), Rep T H v d → Rep T H' v d
  | .non, _, h => h
  | .bl _, _, h => h
  | .int _, _, h => h
  | .str _, _, h => h
  | .tup l, v, h => by
    unfold Rep at h ⊢
    obtain ⟨a, vs, h1, h2, h3, h4⟩ := h
    exact ⟨a, vs, h1, h2.mono e, h3, RepL.mono e l vs h4⟩
  | .lst l, v, h => by
    unfold Rep at h ⊢
    obtain ⟨a, vs, h1, h2, h3, h4⟩ := h
    exact ⟨a, vs, h1, e _ _ h2, h3, RepL.mono e l vs h4⟩
  | .fn _, _, h => h
  | .gen _, _, h => h
  | .dic ks vs, v, h => by
    unfold Rep at h ⊢
    obtain ⟨a, kvs, h1, h2, h3, h4, h5⟩ := h
    exact ⟨a, kvs, h1, e _ _ h2, h3, RepL.mono e ks _ h4, RepL.mono e vs _ h5⟩
  | .ins c fs, v, h => by
    unfold Rep at h ⊢
    rcases h with ⟨a, C, dx, ps, h1, h2, h3, h4, h5⟩ | ⟨a, d, ps, h1, h2, h3, h4, h5⟩
    · exact .inl ⟨a, C, dx, ps, h1, e _ _ h2, h3, h4, RepL.mono e fs _ h5⟩
    · exact .inr ⟨a, d, ps, h1, h2, e _ _ h3, h4, RepL.mono e fs _ h5⟩
theorem RepL.mono {T : Tb} {H H' : Hp} (e : Sub H H') : ∀ (ds : List D) (vs : List V), RepL T H vs ds → RepL T H' vs ds
  | [], [], h => h
  | [], _ :: _, h => h
  | _ :: _, [], h => h
  | d :: ds, v :: vs, h => by
    unfold RepL at h ⊢
    exact ⟨Rep.mono e d v h.1, RepL.mono e ds vs h.2⟩
end
section
variable {T : Tb} {H : Hp}
theorem RepL.length : ∀ {vs : List V} {ds : List D}, RepL T H vs ds → vs.length = ds.length
  | [], [], _ => rfl
  | _ :: vs, _ :: ds, h => by
    unfold RepL at h
    simp [RepL.length h.2]
  | [], _ :: _, h => by unfold RepL at h; exact h.elim
  | _ :: _, [], h => by unfold RepL at h; exact h.elim
theorem RepL.nil : RepL T H [] [] := by unfold RepL; trivial
theorem RepL.cons {v : V} {vs : List V} {d : D} {ds : List D} (h : Rep T H v d) (t : RepL T H vs ds) : RepL T H (v :: vs) (d :: ds) := by
  unfold RepL; exact ⟨h, t⟩
theorem RepL.inv {v : V} {vs : List V} {ds : List D} (h : RepL T H (v :: vs) ds) : ∃ d r, ds = d :: r ∧ Rep T H v d ∧ RepL T H vs r := by
  cases ds with
  | nil => unfold RepL at h; exact h.elim
  | cons d r => unfold RepL at h; exact ⟨d, r, rfl, h.1, h.2⟩
theorem RepL.inv2 {vs : List V} {d : D} {ds : List D} (h : RepL T H vs (d :: ds)) : ∃ v r, vs = v :: r ∧ Rep T H v d ∧ RepL T H r ds := by
  cases vs with
  | nil => unfold RepL at h; exact h.elim
  | cons v r => unfold RepL at h; exact ⟨v, r, rfl, h.1, h.2⟩
theorem RepL.nil_inv {vs : List V} (h : RepL T H vs []) : vs = [] := by
  cases vs with
  | nil => rfl
  | cons v r => unfold RepL at h; exact h.elim
theorem RepL.append : ∀ {vs : List V} {ds : List D} {vs' : List V} {ds' : List D}, RepL T H vs ds → RepL T H vs' ds' → RepL T H (vs ++ vs') (ds ++ ds')
  | [], [], _, _, _, h => h
  | _ :: vs, _ :: ds, _, _, h, h' => by
    unfold RepL at h
    exact .cons h.1 (RepL.append h.2 h')
  | [], _ :: _, _, _, h, _ => by unfold RepL at h; exact h.elim
  | _ :: _, [], _, _, h, _ => by unfold RepL at h; exact h.elim
theorem RepL.get : ∀ {vs : List V} {ds : List D} {i : Nat} {d : D}, RepL T H vs ds → ds[i]? = some d → ∃ v, vs[i]? = some v ∧ Rep T H v d
  | [], [], _, _, _, e => by simp at e
  | v :: vs, d :: ds, 0, x, h, e => by
    simp at e; subst e
    unfold RepL at h
    exact ⟨v, rfl, h.1⟩
  | v :: vs, d :: ds, i + 1, x, h, e => by
    unfold RepL at h
    obtain ⟨u, h1, h2⟩ := RepL.get (i := i) (d := x) h.2 (by simpa using e)
    exact ⟨u, by simpa using h1, h2⟩
  | [], _ :: _, _, _, h, _ => by unfold RepL at h; exact h.elim
  | _ :: _, [], _, _, h, _ => by unfold RepL at h; exact h.elim
theorem RepL.take : ∀ {vs : List V} {ds : List D} (n : Nat), RepL T H vs ds → RepL T H (vs.take n) (ds.take n)
  | _, _, 0, _ => by simp; exact .nil
  | [], [], _ + 1, _ => by simp; exact .nil
  | _ :: vs, _ :: ds, n + 1, h => by
    unfold RepL at h
    simp only [List.take_succ_cons]
    exact .cons h.1 (RepL.take n h.2)
  | [], _ :: _, _ + 1, h => by unfold RepL at h; exact h.elim
  | _ :: _, [], _ + 1, h => by unfold RepL at h; exact h.elim
theorem RepL.drop : ∀ {vs : List V} {ds : List D} (n : Nat), RepL T H vs ds → RepL T H (vs.drop n) (ds.drop n)
  | _, _, 0, h => by simpa using h
  | [], [], _ + 1, _ => by simp; exact .nil
  | _ :: vs, _ :: ds, n + 1, h => by
    unfold RepL at h
    simp only [List.drop_succ_cons]
    exact RepL.drop n h.2
  | [], _ :: _, _ + 1, h => by unfold RepL at h; exact h.elim
  | _ :: _, [], _ + 1, h => by unfold RepL at h; exact h.elim
theorem RepL.reverse {vs : List V} {ds : List D} (h : RepL T H vs ds) : RepL T H vs.reverse ds.reverse := by
  induction vs generalizing ds with
  | nil =>
    cases ds with
    | nil => exact h
    | cons d r => unfold RepL at h; exact h.elim
  | cons v vs ih =>
    obtain ⟨d, r, rfl, h1, h2⟩ := h.inv
    simp only [List.reverse_cons]
    exact (ih h2).append (.cons h1 .nil)
theorem RepL.flat {vs : List V} {ds : List D} (h : RepL T H vs ds) : ∀ k : Nat, RepL T H (List.replicate k vs).flatten (List.replicate k ds).flatten
  | 0 => .nil
  | k + 1 => by
    simp only [List.replicate_succ, List.flatten_cons]
    exact h.append (h.flat k)
end

/-! ### how the heap grows while an expression is evaluated -/
structure Grow (F H F' H' : Hp) : Prop where
  ff : Sub F F'
  hh : Sub H H'
  fh : Sub F' H'
  new : ∀ a o, F' a = some o → F a = some o ∨ H a = none
theorem Grow.refl {F H : Hp} (s : Sub F H) : Grow F H F H := ⟨.refl _, .refl _, s, fun _ _ e => .inl e⟩
theorem Grow.trans {F H F1 H1 F2 H2 : Hp} (a : Grow F H F1 H1) (b : Grow F1 H1 F2 H2) : Grow F H F2 H2 :=
  ⟨a.ff.trans b.ff, a.hh.trans b.hh, b.fh, fun p o e => by
    rcases b.new p o e with q | q
    · exact a.new p o q
    · exact .inr (a.hh.none q)⟩
theorem Grow.one {F H : Hp} {p : Addr} {o : HO} (s : Sub F H) (n : H p = none) : Grow F H (upd F p o) (upd H p o) :=
  ⟨(Sub.refl F).upd (s.none n), (Sub.refl H).upd n, s.upd2, fun a u e => by
    by_cases h : a = p
    · subst h; exact .inr n
    · rw [upd_ne h] at e; exact .inl e⟩

/-! ### where a def stands -/
/-- at the entry: the heap, its known part, the drawing state's place -/
structure Act where
  H0 : Hp
  F0 : Hp
  on : Bool
  at_ : Addr
  /-- a list that is returned is a new one, the caller's own -/
  fr : Bool
structure Core (Z : Act) (kp F H : Hp) (g : G) : Prop where
  sub : Sub F H
  kph : Sub kp H
  kpf : ∀ a o, kp a = some o → F a = none
  base : ∀ a o, Z.H0 a = some o → (Z.on = true → a ≠ Z.at_) → H a = some o
  new : ∀ a o, F a = some o → Z.F0 a = some o ∨ Z.H0 a = none
  f0 : Sub Z.F0 F
  fh0 : Sub Z.F0 Z.H0
  on : g.on = Z.on
  at_ : g.at_ = Z.at_
  gen : Z.on = true → H Z.at_ = some (.lst [.int g.s, .int g.t]) ∧ F Z.at_ = none ∧ kp Z.at_ = none ∧ GOk g
/-- what may be one's own: a list, a dict -/
def OwnC (T : Tb) (F : Hp) (o : HO) : D → Prop
  | .lst ds => ∃ vs, o = .lst vs ∧ vs.length ≤ LIM ∧ RepL T F vs ds
  | .dic ks vs => ∃ kvs, o = .dK kvs ∧ kvs.length ≤ LIM ∧ RepL T F (kvs.map fun kv => kV kv.1) ks ∧ RepL T F (kvs.map (·.2)) vs
  | _ => False
theorem OwnC.mono {T : Tb} {F F' : Hp} {o : HO} {d : D} (h : OwnC T F o d) (s : Sub F F') : OwnC T F' o d := by
  cases d with
  | lst ds => obtain ⟨vs, h1, h2, h3⟩ := h; exact ⟨vs, h1, h2, RepL.mono s _ _ h3⟩
  | dic ks vs => obtain ⟨kvs, h1, h2, h3, h4⟩ := h; exact ⟨kvs, h1, h2, RepL.mono s _ _ h3, RepL.mono s _ _ h4⟩
  | _ => exact h.elim
/-- known for good -/
theorem OwnC.rep {T : Tb} {F : Hp} {o : HO} {d : D} {p : Addr} (h : OwnC T F o d) (e : F p = some o) : Rep T F (.ref p) d := by
  cases d with
  | lst ds => obtain ⟨vs, rfl, h2, h3⟩ := h; unfold Rep; exact ⟨p, vs, rfl, e, h2, h3⟩
  | dic ks vs => obtain ⟨kvs, rfl, h2, h3, h4⟩ := h; unfold Rep; exact ⟨p, kvs, rfl, e, h2, h3, h4⟩
  | _ => exact h.elim
/-- a thing of one's own at p -/
structure Own (T : Tb) (Z : Act) (kp F H : Hp) (p : Addr) (d : D) : Prop where
  f : F p = none
  k : kp p = none
  h0 : Z.H0 p = none
  g : Z.on = true → p ≠ Z.at_
  at_ : ∃ o, H p = some o ∧ OwnC T F o d
theorem Own.lst {T : Tb} {Z : Act} {kp F H : Hp} {p : Addr} {ds : List D} (w : Own T Z kp F H p (.lst ds)) : ∃ vs, H p = some (.lst vs) ∧ vs.length ≤ LIM ∧ RepL T F vs ds := by
  obtain ⟨o, h, vs, rfl, h2, h3⟩ := w.at_
  exact ⟨vs, h, h2, h3⟩
structure Rel (T : Tb) (Z : Act) (own : List Nat) (kp F H : Hp) (σ : St) (ρ : Env) (g : G) : Prop where
  core : Core Z kp F H g
  len : σ.length = ρ.length
  own_ : ∀ i ∈ own, ∃ p d, σ[i]? = some (some (.ref p)) ∧ ρ[i]? = some (some d) ∧ Own T Z kp F H p d ∧ ∀ j ∈ own, j ≠ i → σ[j]? ≠ some (some (.ref p))
  shr : ∀ i d, i ∉ own → ρ[i]? = some (some d) → ∃ v, σ[i]? = some (some v) ∧ Rep T F v d

section
variable {T : Tb} {Z : Act} {own : List Nat} {kp F H F' H' : Hp} {σ : St} {ρ : Env} {g g' : G}
theorem Core.atNone (c : Core Z kp F H g) {a : Addr} (h : H a = none) : Z.H0 a = none := by
  cases e : Z.H0 a with
  | none => rfl
  | some o =>
    by_cases q : Z.on = true → a ≠ Z.at_
    · rw [c.base a o e q] at h; cases h
    · have q1 : Z.on = true := Classical.byContradiction fun n => q fun z => absurd z n
      have q2 : a = Z.at_ := Classical.byContradiction fun n => q fun _ => n
      rw [q2, (c.gen q1).1] at h; cases h
theorem Core.ne_gen (c : Core Z kp F H g) {a : Addr} (h : H a = none) : Z.on = true → a ≠ Z.at_ := fun o e => by
  rw [e, (c.gen o).1] at h; cases h
theorem Core.grow (c : Core Z kp F H g) (r : Grow F H F' H') : Core Z kp F' H' g where
  sub := r.fh
  kph := c.kph.trans r.hh
  kpf := fun a o e => by
    cases q : F' a with
    | none => rfl
    | some u =>
      rcases r.new a u q with z | z
      · rw [c.kpf a o e] at z; cases z
      · rw [c.kph a o e] at z; cases z
  base := fun a o e n => r.hh a o (c.base a o e n)
  new := fun a o e => by
    rcases r.new a o e with z | z
    · exact c.new a o z
    · exact .inr (c.atNone z)
  f0 := c.f0.trans r.ff
  fh0 := c.fh0
  on := c.on
  at_ := c.at_
  gen := fun o => by
    obtain ⟨h1, h2, h3, h4⟩ := c.gen o
    refine ⟨r.hh _ _ h1, ?_, h3, h4⟩
    cases q : F' Z.at_ with
    | none => rfl
    | some u =>
      rcases r.new _ u q with z | z
      · rw [h2] at z; cases z
      · rw [h1] at z; cases z
theorem Own.grow {p : Addr} {d : D} (w : Own T Z kp F H p d) (r : Grow F H F' H') : Own T Z kp F' H' p d where
  f := by
    obtain ⟨o, h1, _⟩ := w.at_
    cases q : F' p with
    | none => rfl
    | some u =>
      rcases r.new _ u q with z | z
      · rw [w.f] at z; cases z
      · rw [h1] at z; cases z
  k := w.k
  h0 := w.h0
  g := w.g
  at_ := by
    obtain ⟨o, h1, h2⟩ := w.at_
    exact ⟨o, r.hh _ _ h1, h2.mono r.ff⟩
theorem Rel.grow (c : Rel T Z own kp F H σ ρ g) (r : Grow F H F' H') : Rel T Z own kp F' H' σ ρ g where
  core := c.core.grow r
  len := c.len
  own_ := fun i hi => by
    obtain ⟨p, ds, h1, h2, h3, h4⟩ := c.own_ i hi
    exact ⟨p, ds, h1, h2, h3.grow r, h4⟩
  shr := fun i d hi e => by
    obtain ⟨v, h1, h2⟩ := c.shr i d hi e
    exact ⟨v, h1, Rep.mono r.ff _ _ h2⟩
/-- an own list is made known for good -/
theorem Core.freeze (c : Core Z kp F H g) {p : Addr} {o : HO} (h : H p = some o) (k : kp p = none) (h0 : Z.H0 p = none) (hg : Z.on = true → p ≠ Z.at_) : Core Z kp (upd F p o) H g where
  sub := fun a u e => by
    by_cases q : a = p
    · subst q; rw [upd_same] at e; cases e; exact h
    · rw [upd_ne q] at e; exact c.sub a u e
  kph := c.kph
  kpf := fun a u e => by
    have q : a ≠ p := fun z => by rw [z, k] at e; cases e
    rw [upd_ne q]; exact c.kpf a u e
  base := c.base
  new := fun a u e => by
    by_cases q : a = p
    · subst q; exact .inr h0
    · rw [upd_ne q] at e; exact c.new a u e
  f0 := fun a u e => by
    have q : a ≠ p := fun z => by
      rw [z] at e
      have := c.fh0 p u e
      rw [h0] at this; cases this
    rw [upd_ne q]; exact c.f0 a u e
  fh0 := c.fh0
  on := c.on
  at_ := c.at_
  gen := fun o' => by
    obtain ⟨h1, h2, h3, h4⟩ := c.gen o'
    exact ⟨h1, by rw [upd_ne (Ne.symm (hg o'))]; exact h2, h3, h4⟩

theorem Rel.cong {own' : List Nat} (c : Rel T Z own kp F H σ ρ g) (h : ∀ i, i ∈ own ↔ i ∈ own') : Rel T Z own' kp F H σ ρ g where
  core := c.core
  len := c.len
  own_ := fun i hi => by
    obtain ⟨p, ds, h1, h2, h3, h4⟩ := c.own_ i ((h i).mpr hi)
    exact ⟨p, ds, h1, h2, h3, fun j hj => h4 j ((h j).mpr hj)⟩
  shr := fun i d hi => c.shr i d fun z => hi ((h i).mp z)
theorem Rel.freeze1 (c : Rel T Z own kp F H σ ρ g) (i : Nat) : ∃ F', Sub F F' ∧ Rel T Z (own.filter fun j => j != i) kp F' H σ ρ g := by
  by_cases hi : i ∈ own
  · obtain ⟨p, ds, h1, h2, w, h4⟩ := c.own_ i hi
    obtain ⟨o, e1, e2⟩ := w.at_
    have sF : Sub F (upd F p o) := (Sub.refl F).upd w.f
    refine ⟨_, sF, c.core.freeze e1 w.k w.h0 w.g, c.len, fun j hj => ?_, fun j d hj e => ?_⟩
    · obtain ⟨hj1, hj2⟩ := List.mem_filter.mp hj
      have hji : j ≠ i := by simpa using hj2
      obtain ⟨q, es, k1, k2, k3, k4⟩ := c.own_ j hj1
      have hqp : q ≠ p := fun z => h4 j hj1 hji (by rw [k1, z])
      refine ⟨q, es, k1, k2, ⟨by rw [upd_ne hqp]; exact k3.f, k3.k, k3.h0, k3.g, ?_⟩, fun m hm => k4 m (List.mem_filter.mp hm).1⟩
      obtain ⟨u, z1, z2⟩ := k3.at_
      exact ⟨u, z1, z2.mono sF⟩
    · by_cases hji : j = i
      · subst hji
        rw [h2] at e; cases e
        exact ⟨_, h1, (e2.mono sF).rep upd_same⟩
      · obtain ⟨v, z1, z2⟩ := c.shr j d (fun hm => hj (List.mem_filter.mpr ⟨hm, by simpa using hji⟩)) e
        exact ⟨v, z1, Rep.mono sF _ _ z2⟩
  · exact ⟨F, .refl _, c.cong fun j => by
      rw [List.mem_filter]
      exact ⟨fun h => ⟨h, by simp; intro e; exact hi (e ▸ h)⟩, fun h => h.1⟩⟩
theorem Rel.freezeL (l : List Nat) : ∀ {own : List Nat} {F : Hp}, Rel T Z own kp F H σ ρ g → ∃ F', Sub F F' ∧ Rel T Z (own.filter fun j => !l.contains j) kp F' H σ ρ g := by
  induction l with
  | nil => intro own F c; exact ⟨F, .refl _, c.cong fun j => by simp⟩
  | cons i l ih =>
    intro own F c
    obtain ⟨F1, s1, c1⟩ := c.freeze1 i
    obtain ⟨F2, s2, c2⟩ := ih c1
    refine ⟨F2, s1.trans s2, c2.cong fun j => ?_⟩
    simp only [List.mem_filter, bne_iff_ne, ne_eq, Bool.not_eq_true', List.contains_cons, Bool.or_eq_false_iff, beq_eq_false_iff_ne]
    constructor
    · rintro ⟨⟨a, b⟩, c⟩; exact ⟨a, b, c⟩
    · rintro ⟨a, b, c⟩; exact ⟨⟨a, b⟩, c⟩
theorem Rel.freeze {own' : List Nat} (c : Rel T Z own kp F H σ ρ g) (h : ∀ i ∈ own', i ∈ own) : ∃ F', Sub F F' ∧ Rel T Z own' kp F' H σ ρ g := by
  obtain ⟨F', s, c'⟩ := Rel.freezeL (own.filter fun j => !own'.contains j) c
  refine ⟨F', s, c'.cong fun i => ?_⟩
  simp only [List.mem_filter, Bool.not_eq_true', List.contains_eq_mem, decide_eq_false_iff_not, not_and, Decidable.not_not]
  exact ⟨fun z => z.2 z.1, fun z => ⟨h i z, fun _ => z⟩⟩

/-! ### readings -/
/-- an exception of the class c with what it carries -/
def ExRep (T : Tb) (F : Hp) (cls : Value) (dd : Option Addr) : Ex → Prop
  | .mk c pay => ∃ C, T.exA c = some C ∧ cls = .ref C ∧ ((pay = [] ∧ dd = none) ∨ ∃ (d : Addr) (fs : List (Str × V)), dd = some d ∧ F d = some (.xd fs) ∧ fs.map (·.1) = T.exF c ∧ RepL T F (fs.map (·.2)) pay)
theorem ExRep.mono {T : Tb} {F F' : Hp} {cls : Value} {dd : Option Addr} {e : Ex} (h : ExRep T F cls dd e) (s : Sub F F') : ExRep T F' cls dd e := by
  cases e with
  | mk c pay =>
    obtain ⟨C, h1, h2, h3⟩ := h
    refine ⟨C, h1, h2, h3.imp id ?_⟩
    rintro ⟨d, fs, k1, k2, k3, k4⟩
    exact ⟨d, fs, k1, s _ _ k2, k3, RepL.mono s _ _ k4⟩
/-- what an exception finds -/
def exQ (T : Tb) (Z : Act) (W : WX) (kp F : Hp) (ρ : Env) (e : Ex) (g : G) : Prop :=
  ∀ cls dd σ' F' H', Rel T Z [] kp F' H' σ' ρ g → Sub F F' → ExRep T F' cls dd e → W cls dd σ' H'
def rQ {α : Type} (T : Tb) (Z : Act) (W : WX) (kp F : Hp) (σ : St) (ρ : Env) (post : α → G → Prop) : R α → Prop
  | .ok a g => post a g
  | .ex e g => exQ T Z W kp F ρ e g
  | .bad => False
def pD (T : Tb) (Z : Act) (own : List Nat) (kp F : Hp) (σ : St) (ρ : Env) (Q : VK) : D → G → Prop := fun d g' => ∀ v F' H', Rel T Z own kp F' H' σ ρ g' → Sub F F' → Rep T F' v d → Q v H'
def pB (T : Tb) (Z : Act) (own : List Nat) (kp F : Hp) (σ : St) (ρ : Env) (Q : Bool → Hp → Prop) : Bool → G → Prop := fun b g' => ∀ F' H', Rel T Z own kp F' H' σ ρ g' → Sub F F' → Q b H'
def pL (T : Tb) (Z : Act) (own : List Nat) (kp F : Hp) (σ : St) (ρ : Env) (Q : List V → Hp → Prop) : List D → G → Prop := fun ds g' => ∀ vs F' H', Rel T Z own kp F' H' σ ρ g' → Sub F F' → RepL T F' vs ds → Q vs H'
def pF (T : Tb) (Z : Act) (own : List Nat) (kp F : Hp) (σ : St) (ρ : Env) (Q : VK) : D → G → Prop := fun d g' => ∀ p F' H', Rel T Z own kp F' H' σ ρ g' → Sub F F' → Own T Z kp F' H' p d → (∀ j ∈ own, σ[j]? ≠ some (some (.ref p))) → Q (.ref p) H'
def tP (T : Tb) (Z : Act) (W : WX) (own : List Nat) (f : X) : TE := fun σ H Q => ∃ kp F ρ g, Rel T Z own kp F H σ ρ g ∧ rQ T Z W kp F σ ρ (pD T Z own kp F σ ρ Q) (f ρ g)
def tPT (T : Tb) (Z : Act) (W : WX) (own : List Nat) (f : XT) : TT := fun σ H Q => ∃ kp F ρ g, Rel T Z own kp F H σ ρ g ∧ rQ T Z W kp F σ ρ (pB T Z own kp F σ ρ Q) (f ρ g)
def tPA (T : Tb) (Z : Act) (W : WX) (own : List Nat) (f : XA) : TA := fun σ H Q => ∃ kp F ρ g, Rel T Z own kp F H σ ρ g ∧ rQ T Z W kp F σ ρ (pL T Z own kp F σ ρ Q) (f ρ g)
/-- a new list of one's own -/
def tPF (T : Tb) (Z : Act) (W : WX) (own : List Nat) (f : X) : TE := fun σ H Q => ∃ kp F ρ g, Rel T Z own kp F H σ ρ g ∧ rQ T Z W kp F σ ρ (pF T Z own kp F σ ρ Q) (f ρ g)
section
variable {T : Tb} {Z : Act} {W : WX} {own : List Nat} {kp F F1 H : Hp} {σ : St} {ρ : Env}
theorem exQ.up {e : Ex} {g : G} (q : exQ T Z W kp F ρ e g) (s : Sub F F1) : exQ T Z W kp F1 ρ e g := fun cls dd σ' F2 H2 c s2 x => q cls dd σ' F2 H2 c (s.trans s2) x
theorem rQ.bind {α β : Type} {post : β → G → Prop} {x : R α} {k : α → G → R β} (h : rQ T Z W kp F σ ρ post (x.bind k)) : rQ T Z W kp F σ ρ (fun a g => rQ T Z W kp F σ ρ post (k a g)) x := by
  cases x with
  | ok a g => exact h
  | ex e g => exact h
  | bad => exact h
theorem rQ.imp {α : Type} {post post' : α → G → Prop} {x : R α} (h : rQ T Z W kp F σ ρ post x) (i : ∀ a g, post a g → post' a g) : rQ T Z W kp F σ ρ post' x := by
  cases x with
  | ok a g => exact i a g h
  | ex e g => exact h
  | bad => exact h
theorem rQ.up {α : Type} {post post' : α → G → Prop} {x : R α} (s : Sub F F1) (h : rQ T Z W kp F σ ρ post x) (i : ∀ a g, post a g → post' a g) : rQ T Z W kp F1 σ ρ post' x := by
  cases x with
  | ok a g => exact i a g h
  | ex e g => exact exQ.up h s
  | bad => exact h
theorem pD.up {Q : VK} (s : Sub F F1) : ∀ d g, pD T Z own kp F σ ρ Q d g → pD T Z own kp F1 σ ρ Q d g := fun d g h v F' H' c s2 r => h v F' H' c (s.trans s2) r
theorem pB.up {Q : Bool → Hp → Prop} (s : Sub F F1) : ∀ d g, pB T Z own kp F σ ρ Q d g → pB T Z own kp F1 σ ρ Q d g := fun d g h F' H' c s2 => h F' H' c (s.trans s2)
theorem pL.up {Q : List V → Hp → Prop} (s : Sub F F1) : ∀ d g, pL T Z own kp F σ ρ Q d g → pL T Z own kp F1 σ ρ Q d g := fun d g h v F' H' c s2 r => h v F' H' c (s.trans s2) r
theorem pF.up {Q : VK} (s : Sub F F1) : ∀ d g, pF T Z own kp F σ ρ Q d g → pF T Z own kp F1 σ ρ Q d g := fun d g h p F' H' c s2 w n => h p F' H' c (s.trans s2) w n
/-- the first part, then the rest -/
theorem tP.then {f : PP.X} {g : G} {post : D → G → Prop} {Q : VK} (c : Rel T Z own kp F H σ ρ g) (h : rQ T Z W kp F σ ρ post (f ρ g))
    (n : ∀ d g1 v F1 H1, post d g1 → Rel T Z own kp F1 H1 σ ρ g1 → Sub F F1 → Rep T F1 v d → Q v H1) : tP T Z W own f σ H Q :=
  ⟨kp, F, ρ, g, c, h.imp fun d g1 q v F1 H1 c1 s1 r1 => n d g1 v F1 H1 q c1 s1 r1⟩
end
end
/-! ### judgements -/
section
variable (X : Cx) (T : Tb) (Z : Act) (W : WX) (own : List Nat)
def XE (e : Expr) (f : PP.X) : Prop := PE X e (tP T Z W own f)
def XTt (e : Expr) (f : XT) : Prop := PT X e (tPT T Z W own f)
def XAs (es : List Expr) (f : XA) : Prop := PA X es (tPA T Z W own f)
def XF (e : Expr) (f : PP.X) : Prop := PE X e (tPF T Z W own f)
end
theorem PE.imp {X : Cx} {e : Expr} {t t' : TE} (h : PE X e t) (i : ∀ σ H Q, t' σ H Q → t σ H Q) : PE X e t' := ⟨fun pins s σ H Q I w => h.run pins s σ H Q I (i σ H Q w)⟩
theorem PT.imp {X : Cx} {e : Expr} {t t' : TT} (h : PT X e t) (i : ∀ σ H Q, t' σ H Q → t σ H Q) : PT X e t' := ⟨fun pins s σ H Q I w => h.run pins s σ H Q I (i σ H Q w)⟩
theorem PA.imp {X : Cx} {e : List Expr} {t t' : TA} (h : PA X e t) (i : ∀ σ H Q, t' σ H Q → t σ H Q) : PA X e t' := ⟨fun pos pins s σ H Q I w => h.run pos pins s σ H Q I (i σ H Q w)⟩
theorem PS.imp {X : Cx} {e : Stmt} {t t' : TS} (h : PS X e t) (i : ∀ D σ H, t' D σ H → t D σ H) : PS X e t' := ⟨fun pins s σ H D I w => h.run pins s σ H D I (i D σ H w)⟩
theorem PSs.imp {X : Cx} {e : List Stmt} {t t' : TS} (h : PSs X e t) (i : ∀ D σ H, t' D σ H → t D σ H) : PSs X e t' := ⟨fun pins s σ H D I w => h.run pins s σ H D I (i D σ H w)⟩


/-! ### rules: values -/
/-- a two-place operation -/
def BinOk (T : Tb) (r : R2) (od : D → D → Option D) : Prop := ∀ F H x y d1 d2 d Q, Sub F H → Rep T F x d1 → Rep T F y d2 → od d1 d2 = some d → (∀ v F' H', Grow F H F' H' → Rep T F' v d → Q v H') → r x y H Q
def UnOk (T : Tb) (r : V → Hp → VK → Prop) (od : D → Option D) : Prop := ∀ F H x d1 d Q, Sub F H → Rep T F x d1 → od d1 = some d → (∀ v F' H', Grow F H F' H' → Rep T F' v d → Q v H') → r x H Q
def CallOk (T : Tb) (r : List V → Hp → VK → Prop) (od : List D → Option D) : Prop := ∀ F H xs ds d Q, Sub F H → RepL T F xs ds → od ds = some d → (∀ v F' H', Grow F H F' H' → Rep T F' v d → Q v H') → r xs H Q
section
variable {X : Cx} {T : Tb} {Z : Act} {W : WX} {own : List Nat} {e a b : Expr} {es : List Expr} {fa fb : PP.X} {pos : Pos}
theorem rQ.ofO {kp F H : Hp} {σ : St} {ρ : Env} {post : D → G → Prop} {o : Option D} {g : G} (h : rQ T Z W kp F σ ρ post (PP.ofO o g)) : ∃ d, o = some d ∧ post d g := by
  cases o with
  | none => exact h.elim
  | some d => exact ⟨d, rfl, h⟩
theorem x_var {i : Nat} (h : PE X e (tVar i)) (hi : i ∉ own) : XE X T Z W own e (xVar i) := PE.imp h fun σ H Q ⟨kp, F, ρ, g, c, q⟩ => by
  unfold xVar at q
  cases hv : ρ[i]? with
  | none => rw [hv] at q; exact q.elim
  | some o =>
    cases o with
    | none => rw [hv] at q; exact q.elim
    | some d =>
      rw [hv] at q
      obtain ⟨v, h1, h2⟩ := c.shr i d hi hv
      exact ⟨v, h1, q v F H c (.refl _) h2⟩
theorem x_C {v : V} {d : D} (h : PE X e (tC v)) (r : ∀ F, Rep T F v d) : XE X T Z W own e (xC d) := PE.imp h fun σ H Q ⟨kp, F, ρ, g, c, q⟩ => q v F H c (.refl _) (r F)
theorem x_bin {op : Operator} {r : R2} {od : D → D → Option D} (ho : OpR X (binaryOp op) r) (hr : BinOk T r od) (ha : XE X T Z W own a fa) (hb : XE X T Z W own b fb) : XE X T Z W own (.BinOp a op b pos) (xBin od fa fb) :=
  PE.imp (pe_op ho ha hb) fun σ H Q ⟨kp, F, ρ, g, c, q⟩ => tP.then c q.bind fun d1 g1 v1 F1 H1 q1 c1 s1 r1 => tP.then c1 (q1.bind.up s1 fun _ _ z => z) fun d2 g2 v2 F2 H2 q2 c2 s2 r2 => by
    obtain ⟨d, e, q3⟩ := rQ.ofO (H := H) q2
    exact hr F2 H2 v1 v2 d1 d2 d Q c2.core.sub (Rep.mono s2 _ _ r1) r2 e fun v F' H' gr rv => q3 v F' H' (c2.grow gr) ((s1.trans s2).trans gr.ff) rv
end
end PP

set_option Elab.async false
set_option linter.all false
set_option maxRecDepth 100000
set_option maxHeartbeats 4000000
namespace PP
open PySem L2

theorem LIM_eq : LIM = sizeLine := by decide
/-! ### inversions of Rep -/
section
variable {T : Tb} {H : Hp} {v : V}
theorem rep_int {i : Int} (h : Rep T H v (.int i)) : v = .int i := by unfold Rep at h; exact h
theorem rep_bl {b : Bool} (h : Rep T H v (.bl b)) : v = .bl b := by unfold Rep at h; exact h
theorem rep_non (h : Rep T H v .non) : v = .non := by unfold Rep at h; exact h
theorem rep_gen {a : Nat} (h : Rep T H v (.gen a)) : v = .ref a := by unfold Rep at h; exact h
theorem rep_str {s : List Nat} (h : Rep T H v (.str s)) : v = .str ⟨s.toArray⟩ ∧ s.length ≤ LIM ∧ ∀ c ∈ s, c < 1114112 := by unfold Rep at h; exact h
theorem rep_tup {l : List D} (h : Rep T H v (.tup l)) : ∃ (a : Addr) (vs : List V), v = .ref a ∧ PPT.TH H a vs ∧ vs.length ≤ LIM ∧ RepL T H vs l := by unfold Rep at h; exact h
theorem rep_lst {l : List D} (h : Rep T H v (.lst l)) : ∃ (a : Addr) (vs : List V), v = .ref a ∧ H a = some (.lst vs) ∧ vs.length ≤ LIM ∧ RepL T H vs l := by unfold Rep at h; exact h
theorem rep_dic {ks ds : List D} (h : Rep T H v (.dic ks ds)) : ∃ (a : Addr) (kvs : List (Key × V)), v = .ref a ∧ H a = some (.dK kvs) ∧ kvs.length ≤ LIM ∧ RepL T H (kvs.map fun kv => kV kv.1) ks ∧ RepL T H (kvs.map (·.2)) ds := by unfold Rep at h; exact h
theorem rep_fn {n : Nat} (h : Rep T H v (.fn n)) : ∃ a : Addr, v = .ref a ∧ T.fnA n = some a := by unfold Rep at h; exact h
theorem mk_int {i : Int} : Rep T H (.int i) (.int i) := by unfold Rep; rfl
theorem mk_bl {b : Bool} : Rep T H (.bl b) (.bl b) := by unfold Rep; rfl
theorem mk_non : Rep T H .non .non := by unfold Rep; rfl
theorem mk_str {s : List Nat} (h1 : s.length ≤ LIM) (h2 : ∀ c ∈ s, c < 1114112) : Rep T H (.str ⟨s.toArray⟩) (.str s) := by unfold Rep; exact ⟨rfl, h1, h2⟩
theorem mk_tup {l : List D} {a : Addr} {vs : List V} (h : PPT.TH H a vs) (hl : vs.length ≤ LIM) (r : RepL T H vs l) : Rep T H (.ref a) (.tup l) := by unfold Rep; exact ⟨a, vs, rfl, h, hl, r⟩
theorem mk_lst {l : List D} {a : Addr} {vs : List V} (h : H a = some (.lst vs)) (hl : vs.length ≤ LIM) (r : RepL T H vs l) : Rep T H (.ref a) (.lst l) := by unfold Rep; exact ⟨a, vs, rfl, h, hl, r⟩
end
/-- a new tuple -/
theorem new_tup {T : Tb} {F H : Hp} {p : Addr} {vs : List V} {l : List D} {o : Obj} (s : Sub F H) (n : H p = none) (o1 : o.cls = .type "tuple") (o2 : o.dict = none) (hl : vs.length ≤ LIM) (r : RepL T F vs l) : Grow F H (upd F p (.frz o (.tup vs))) (upd H p (.frz o (.tup vs))) ∧ Rep T (upd F p (.frz o (.tup vs))) (.ref p) (.tup l) :=
  ⟨.one s n, mk_tup ⟨o, o1, o2, upd_same⟩ hl (RepL.mono (Grow.one (o := .frz o (.tup vs)) s n).ff _ _ r)⟩
theorem new_lst {T : Tb} {F H : Hp} {p : Addr} {vs : List V} {l : List D} (s : Sub F H) (n : H p = none) (hl : vs.length ≤ LIM) (r : RepL T F vs l) : Grow F H (upd F p (.lst vs)) (upd H p (.lst vs)) ∧ Rep T (upd F p (.lst vs)) (.ref p) (.lst l) :=
  ⟨.one s n, mk_lst upd_same hl (RepL.mono (Grow.one (o := .lst vs) s n).ff _ _ r)⟩

/-! ### the operations -/
theorem BinOk.or {T : Tb} {r r' : R2} {o o' : D → D → Option D} (h : BinOk T r o) (h' : BinOk T r' o') (od : D → D → Option D) (hs : ∀ a b d, od a b = some d → o a b = some d ∨ o' a b = some d) : BinOk T (fun x y H Q => r x y H Q ∨ r' x y H Q) od :=
  fun F H x y d1 d2 d Q s r1 r2 e k => (hs d1 d2 d e).elim (fun z => .inl (h F H x y d1 d2 d Q s r1 r2 z k)) (fun z => .inr (h' F H x y d1 d2 d Q s r1 r2 z k))
def lift2 (f : Int → Int → Option D) : D → D → Option D
  | .int i, .int j => f i j
  | _, _ => none
theorem bin_int {T : Tb} {C : Int → Int → Prop} {gv : Int → Int → V} {f : Int → Int → Option D} (h : ∀ i j d, f i j = some d → C i j ∧ ∀ F, Rep T F (gv i j) d) : BinOk T (rI C gv) (lift2 f) := by
  intro F H x y d1 d2 d Q s r1 r2 e k
  cases d1 <;> cases d2 <;> simp only [lift2] at e <;> try cases e
  obtain rfl := rep_int r1
  obtain rfl := rep_int r2
  obtain ⟨h1, h2⟩ := h _ _ _ e
  exact ⟨_, _, rfl, rfl, h1, k _ F H (.refl s) (h2 F)⟩
theorem bin_int0 {T : Tb} {gv : Int → Int → V} {f : Int → Int → Option D} (h : ∀ i j d, f i j = some d → ∀ F, Rep T F (gv i j) d) : BinOk T (rI0 gv) (lift2 f) := by
  intro F H x y d1 d2 d Q s r1 r2 e k
  cases d1 <;> cases d2 <;> simp only [lift2] at e <;> try cases e
  obtain rfl := rep_int r1
  obtain rfl := rep_int r2
  exact ⟨_, _, rfl, rfl, k _ F H (.refl s) (h _ _ _ e F)⟩
/-- + -/
def rAddA (K : PySem.W.Frag) : R2 := fun x y H Q => rI0 (fun i j => .int (i + j)) x y H Q ∨ ((∃ i j, x = .str i ∧ y = .str j ∧ i.length + j.length ≤ sizeLine ∧ Q (.str (i ++ j)) H) ∨ (rCat x y H Q ∨ PPT.rCatF K x y H Q))
theorem op_addA {X : Cx} : OpR X (binaryOp .Add) (rAddA X.K) := op_add.or (op_add_str.or (op_cat.or PPT.op_catF))
theorem str_len {a : List Nat} : (⟨a.toArray⟩ : Str).length = a.length := by simp [Str.length]
theorem str_app {a b : List Nat} : (⟨a.toArray⟩ : Str) ++ ⟨b.toArray⟩ = ⟨(a ++ b).toArray⟩ := by
  show Str.mk _ = _
  congr 1
  simp
theorem bin_add {T : Tb} : BinOk T (rAddA T.K) addD := by
  intro F H x y d1 d2 d Q s r1 r2 e k
  cases d1 with
  | int i =>
    cases d2 with
    | int j =>
      simp only [addD, Option.some.injEq] at e; subst e
      obtain rfl := rep_int r1
      obtain rfl := rep_int r2
      exact .inl ⟨_, _, rfl, rfl, k _ F H (.refl s) mk_int⟩
    | _ => simp [addD] at e
  | str a =>
    cases d2 with
    | str b =>
      simp only [addD, Option.ite_none_right_eq_some, Option.some.injEq] at e
      obtain ⟨hl, rfl⟩ := e
      obtain ⟨rfl, l1, c1⟩ := rep_str r1
      obtain ⟨rfl, l2, c2⟩ := rep_str r2
      refine .inr (.inl ⟨_, _, rfl, rfl, by rw [str_len, str_len, ← LIM_eq]; exact hl, ?_⟩)
      rw [str_app]
      exact k _ F H (.refl s) (mk_str (by simpa using hl) fun c hc => (List.mem_append.mp hc).elim (c1 c) (c2 c))
    | _ => simp [addD] at e
  | tup a =>
    cases d2 with
    | tup b =>
      simp only [addD, Option.ite_none_right_eq_some, Option.some.injEq] at e
      obtain ⟨hl, rfl⟩ := e
      obtain ⟨p, vs, rfl, e1, l1, q1⟩ := rep_tup r1
      obtain ⟨q, ws, rfl, e2, l2, q2⟩ := rep_tup r2
      have n1 := q1.length
      have n2 := q2.length
      refine .inr (.inr (.inr ⟨p, q, vs, ws, rfl, rfl, (e1.mono s).sq, (e2.mono s).sq, by rw [← LIM_eq]; omega, fun z => ?_, fun z1 z2 => ?_, fun z1 z2 t o nt o1 o2 => ?_⟩))
      · subst z
        have : a = [] := List.eq_nil_of_length_eq_zero (by simpa using n1.symm)
        subst this
        exact k _ F H (.refl s) (mk_tup e2 l2 q2)
      · subst z2
        have : b = [] := List.eq_nil_of_length_eq_zero (by simpa using n2.symm)
        subst this
        rw [List.append_nil] at k
        exact k _ F H (.refl s) (mk_tup e1 l1 q1)
      · obtain ⟨g1, g2⟩ := new_tup (T := T) s nt o1 o2 (by simp; omega) (q1.append q2)
        exact k _ _ _ g1 g2
    | _ => simp [addD] at e
  | lst a =>
    cases d2 with
    | lst b =>
      simp only [addD, Option.ite_none_right_eq_some, Option.some.injEq] at e
      obtain ⟨hl, rfl⟩ := e
      obtain ⟨p, vs, rfl, e1, l1, q1⟩ := rep_lst r1
      obtain ⟨q, ws, rfl, e2, l2, q2⟩ := rep_lst r2
      have n1 := q1.length
      have n2 := q2.length
      refine .inr (.inr (.inl ⟨p, q, vs, ws, rfl, rfl, s _ _ e1, s _ _ e2, by rw [← LIM_eq]; omega, fun t nt => ?_⟩))
      obtain ⟨g1, g2⟩ := new_lst (T := T) s nt (by simp; omega) (q1.append q2)
      exact k _ _ _ g1 g2
    | _ => simp [addD] at e
  | _ => simp [addD] at e
theorem subD_lift : subD = lift2 fun i j => some (.int (i - j)) := by
  funext a b; cases a <;> cases b <;> rfl
theorem bin_sub {T : Tb} : BinOk T (rI0 fun i j => .int (i - j)) subD := by
  rw [subD_lift]
  exact bin_int0 fun i j d e F => by cases e; exact mk_int
theorem modD_lift : modD = lift2 fun i j => if 0 < j then some (.int (i % j)) else none := by
  funext a b; cases a <;> cases b <;> rfl
theorem bin_mod {T : Tb} : BinOk T (rI (fun _ j => 0 < j) fun i j => .int (i % j)) modD := by
  rw [modD_lift]
  refine bin_int fun i j d e => ?_
  simp only [Option.ite_none_right_eq_some, Option.some.injEq] at e
  obtain ⟨h, rfl⟩ := e
  exact ⟨h, fun F => mk_int⟩
theorem fdivD_lift : fdivD = lift2 fun i j => if 0 < j ∧ j.natAbs < 1073741824 then some (.int (i / j)) else none := by
  funext a b; cases a <;> cases b <;> rfl
theorem bin_fdiv {T : Tb} : BinOk T (rI CDiv fun i j => .int (i / j)) fdivD := by
  rw [fdivD_lift]
  refine bin_int fun i j d e => ?_
  simp only [Option.ite_none_right_eq_some, Option.some.injEq] at e
  obtain ⟨h, rfl⟩ := e
  exact ⟨⟨h.1, by have := h.1; have := h.2; omega⟩, fun F => mk_int⟩
/-! == -/
mutual
def toPy : D → PyData
  | .non => .none | .bl b => .bool b | .int i => .int i | .str s => .str ⟨s.toArray⟩
  | .tup l => .tuple (toPyL l)
  | .lst l => .list (toPyL l)
  | _ => .none
def toPyL : List D → List PyData
  | [] => []
  | x :: xs => toPy x :: toPyL xs
end
mutual
theorem rep_dp {T : Tb} {F H : Hp} (s : Sub F H) : ∀ (d : D) (v : V), isDat d = true → Rep T F v d → Dp T.K H v (toPy d) ∧ (toPy d).canLay0 = true
  | .non, v, _, r => by obtain rfl := rep_non r; exact ⟨.non, rfl⟩
  | .bl b, v, _, r => by obtain rfl := rep_bl r; exact ⟨.bl b, rfl⟩
  | .int i, v, _, r => by obtain rfl := rep_int r; exact ⟨.int i, rfl⟩
  | .str x, v, _, r => by
    obtain ⟨rfl, _, h⟩ := rep_str r
    refine ⟨.str _, ?_⟩
    show PyData.strOk _ = true
    unfold PyData.strOk
    simpa using h
  | .tup l, v, e, r => by
    obtain ⟨a, vs, rfl, h1, h2, h3⟩ := rep_tup r
    obtain ⟨q1, q2⟩ := repL_dp s l vs (by simpa [isDat] using e) h3
    exact ⟨.tup ((h1.mono s).sq) q1, by simpa [toPy, PyData.canLay0] using q2⟩
  | .lst l, v, e, r => by
    obtain ⟨a, vs, rfl, h1, h2, h3⟩ := rep_lst r
    obtain ⟨q1, q2⟩ := repL_dp s l vs (by simpa [isDat] using e) h3
    exact ⟨.lst (SqL.of (s _ _ h1)) q1, by simpa [toPy, PyData.canLay0] using q2⟩
  | .fn _, _, e, _ => by simp [isDat] at e
  | .gen _, _, e, _ => by simp [isDat] at e
  | .ins _ _, _, e, _ => by simp [isDat] at e
theorem repL_dp {T : Tb} {F H : Hp} (s : Sub F H) : ∀ (ds : List D) (vs : List V), isDatL ds = true → RepL T F vs ds → DpAll T.K H vs (toPyL ds) ∧ PyData.canLayAll0 (toPyL ds) = true
  | [], vs, _, r => by obtain rfl := r.nil_inv; exact ⟨.nil, rfl⟩
  | d :: ds, vs, e, r => by
    obtain ⟨v, us, rfl, h1, h2⟩ := r.inv2
    simp only [isDatL, Bool.and_eq_true] at e
    obtain ⟨q1, q2⟩ := rep_dp s d v e.1 h1
    obtain ⟨q3, q4⟩ := repL_dp s ds us e.2 h2
    exact ⟨.cons q1 q3, by simp [toPyL, PyData.canLayAll0, q2, q4]⟩
end
mutual
theorem dep_py : ∀ d : D, isDat d = true → (toPy d).depth = dep d
  | .non, _ => rfl
  | .bl _, _ => rfl
  | .int _, _ => rfl
  | .str _, _ => rfl
  | .tup l, e => by simp [toPy, PyData.depth, dep, depL_py l (by simpa [isDat] using e)]
  | .lst l, e => by simp [toPy, PyData.depth, dep, depL_py l (by simpa [isDat] using e)]
  | .fn _, e => by simp [isDat] at e
  | .gen _, e => by simp [isDat] at e
  | .ins _ _, e => by simp [isDat] at e
theorem depL_py : ∀ ds : List D, isDatL ds = true → PyData.depthAll (toPyL ds) = depL ds
  | [], _ => rfl
  | d :: ds, e => by
    simp only [isDatL, Bool.and_eq_true] at e
    simp [toPyL, PyData.depthAll, depL, dep_py d e.1, depL_py ds e.2]
end
mutual
theorem eqv_py : ∀ (a b : D), isDat a = true → isDat b = true → PyData.eqv (toPy a) (toPy b) = eqB a b
  | .non, b, _, h => by cases b <;> first | rfl | simp [isDat] at h | simp [toPy, PyData.eqv, eqB]
  | .bl _, b, _, h => by cases b <;> first | rfl | simp [isDat] at h | simp [toPy, PyData.eqv, eqB]
  | .int _, b, _, h => by cases b <;> first | rfl | simp [isDat] at h | simp [toPy, PyData.eqv, eqB]
  | .str x, b, _, h => by
    cases b with
    | str y =>
      simp only [toPy, PyData.eqv, eqB]
      rw [Bool.eq_iff_iff]
      simp
    | _ => first | rfl | simp [isDat] at h | simp [toPy, PyData.eqv, eqB]
  | .tup l, b, e, h => by
    cases b with
    | tup m => simpa [toPy, PyData.eqv, eqB] using eqvL_py l m (by simpa [isDat] using e) (by simpa [isDat] using h)
    | _ => first | rfl | simp [isDat] at h | simp [toPy, PyData.eqv, eqB]
  | .lst l, b, e, h => by
    cases b with
    | lst m => simpa [toPy, PyData.eqv, eqB] using eqvL_py l m (by simpa [isDat] using e) (by simpa [isDat] using h)
    | _ => first | rfl | simp [isDat] at h | simp [toPy, PyData.eqv, eqB]
  | .fn _, _, e, _ => by simp [isDat] at e
  | .gen _, _, e, _ => by simp [isDat] at e
  | .ins _ _, _, e, _ => by simp [isDat] at e
theorem eqvL_py : ∀ (a b : List D), isDatL a = true → isDatL b = true → PyData.eqvAll (toPyL a) (toPyL b) = eqBL a b
  | [], [], _, _ => rfl
  | [], _ :: _, _, _ => by simp [toPyL, PyData.eqvAll, eqBL]
  | _ :: _, [], _, _ => by simp [toPyL, PyData.eqvAll, eqBL]
  | x :: xs, y :: ys, e, h => by
    simp only [isDatL, Bool.and_eq_true] at e h
    simp [toPyL, PyData.eqvAll, eqBL, eqv_py x y e.1 h.1, eqvL_py xs ys e.2 h.2]
end
theorem shape_py {T : Tb} {F H : Hp} {d : D} {v : V} (s : Sub F H) (e : shapeOk d = true) (r : Rep T F v d) : isDat d = true ∧ Dp T.K H v (toPy d) ∧ SeqAt.shaped (toPy d) = true := by
  simp only [shapeOk, Bool.and_eq_true, decide_eq_true_eq] at e
  obtain ⟨q1, q2⟩ := rep_dp s d v e.1 r
  exact ⟨e.1, q1, by simp [SeqAt.shaped, q2, dep_py d e.1, e.2]⟩
theorem bin_eq {T : Tb} : BinOk T (rEqD T.K) eqD := by
  intro F H x y d1 d2 d Q s r1 r2 e k
  simp only [eqD, Option.ite_none_right_eq_some, Option.some.injEq, Bool.and_eq_true] at e
  obtain ⟨⟨e1, e2⟩, rfl⟩ := e
  obtain ⟨a1, a2, a3⟩ := shape_py s e1 r1
  obtain ⟨b1, b2, b3⟩ := shape_py s e2 r2
  refine ⟨_, _, a2, b2, a3, b3, ?_⟩
  rw [eqv_py _ _ a1 b1]
  exact k _ F H (.refl s) mk_bl
theorem bin_ne {T : Tb} : BinOk T (rNeD T.K) neD := by
  intro F H x y d1 d2 d Q s r1 r2 e k
  simp only [neD, Option.ite_none_right_eq_some, Option.some.injEq, Bool.and_eq_true] at e
  obtain ⟨⟨e1, e2⟩, rfl⟩ := e
  obtain ⟨a1, a2, a3⟩ := shape_py s e1 r1
  obtain ⟨b1, b2, b3⟩ := shape_py s e2 r2
  refine ⟨_, _, a2, b2, a3, b3, ?_⟩
  rw [eqv_py _ _ a1 b1]
  exact k _ F H (.refl s) mk_bl
/-! order -/
theorem ltL_lt : ∀ a b : List Nat, ltL a b = decide (a < b)
  | [], [] => by simp [ltL]
  | _ :: _, [] => by simp [ltL]
  | [], _ :: _ => by simp [ltL]
  | x :: xs, y :: ys => by
    unfold ltL
    by_cases h : x = y
    · subst h
      rw [if_pos rfl, ltL_lt xs ys]
      simp [List.cons_lt_cons_iff]
    · rw [if_neg h]
      simp [List.cons_lt_cons_iff, h]
def rOrd (p : Int → Int → Bool) (q : List Nat → List Nat → Bool) : R2 := fun x y H Q => rI0 (fun i j => .bl (p i j)) x y H Q ∨ ∃ i j : Str, x = .str i ∧ y = .str j ∧ Q (.bl (q i.cps.toList j.cps.toList)) H
def ordD (p : Int → Int → Bool) (q : List Nat → List Nat → Bool) : D → D → Option D
  | .int i, .int j => some (.bl (p i j))
  | .str a, .str b => some (.bl (q a b))
  | _, _ => none
theorem bin_ord {T : Tb} (p : Int → Int → Bool) (q : List Nat → List Nat → Bool) : BinOk T (rOrd p q) (ordD p q) := by
  intro F H x y d1 d2 d Q s r1 r2 e k
  cases d1 with
  | int i =>
    cases d2 with
    | int j =>
      simp only [ordD, Option.some.injEq] at e; subst e
      obtain rfl := rep_int r1
      obtain rfl := rep_int r2
      exact .inl ⟨_, _, rfl, rfl, k _ F H (.refl s) mk_bl⟩
    | _ => simp [ordD] at e
  | str a =>
    cases d2 with
    | str b =>
      simp only [ordD, Option.some.injEq] at e; subst e
      obtain ⟨rfl, l1, c1⟩ := rep_str r1
      obtain ⟨rfl, l2, c2⟩ := rep_str r2
      exact .inr ⟨_, _, rfl, rfl, k _ F H (.refl s) (by simpa using mk_bl)⟩
    | _ => simp [ordD] at e
  | _ => simp [ordD] at e
theorem OpR.cg {X : Cx} {f : Value → Value → Sem Value} {r r' : R2} (h : OpR X f r) (e : ∀ x y H Q, r' x y H Q → r x y H Q) : OpR X f r' := fun pins s σ H x y v u Q I rx ry q => h pins s σ H x y v u Q I rx ry (e x y H Q q)
theorem op_ltA {X : Cx} : OpR X (compareOp .Lt) (rOrd (fun i j => decide (i < j)) ltL) := PP.OpR.cg (op_lt.or op_lt_str) fun x y H Q h => h.imp id fun ⟨i, j, e1, e2, q⟩ => ⟨i, j, e1, e2, by rw [← ltL_lt]; exact q⟩
theorem op_leA {X : Cx} : OpR X (compareOp .LtE) (rOrd (fun i j => decide (i ≤ j)) fun a b => !ltL b a) := PP.OpR.cg (op_le.or op_le_str) fun x y H Q h => h.imp id fun ⟨i, j, e1, e2, q⟩ => ⟨i, j, e1, e2, by rw [← ltL_lt]; exact q⟩
theorem op_gtA {X : Cx} : OpR X (compareOp .Gt) (rOrd (fun i j => decide (j < i)) fun a b => ltL b a) := PP.OpR.cg (op_gt.or op_gt_str) fun x y H Q h => h.imp id fun ⟨i, j, e1, e2, q⟩ => ⟨i, j, e1, e2, by rw [← ltL_lt]; exact q⟩
theorem op_geA {X : Cx} : OpR X (compareOp .GtE) (rI0 fun i j => .bl (decide (j ≤ i))) := op_ge
theorem ltD_ord : ltD = ordD (fun i j => decide (i < j)) ltL := by funext a b; cases a <;> cases b <;> rfl
theorem leD_ord : leD = ordD (fun i j => decide (i ≤ j)) fun a b => !ltL b a := by funext a b; cases a <;> cases b <;> rfl
theorem gtD_ord : gtD = ordD (fun i j => decide (j < i)) fun a b => ltL b a := by funext a b; cases a <;> cases b <;> rfl
theorem bin_lt {T : Tb} : BinOk T (rOrd (fun i j => decide (i < j)) ltL) ltD := by rw [ltD_ord]; exact bin_ord _ _
theorem bin_le {T : Tb} : BinOk T (rOrd (fun i j => decide (i ≤ j)) fun a b => !ltL b a) leD := by rw [leD_ord]; exact bin_ord _ _
theorem bin_gt {T : Tb} : BinOk T (rOrd (fun i j => decide (j < i)) fun a b => ltL b a) gtD := by rw [gtD_ord]; exact bin_ord _ _
theorem geD_lift : geD = lift2 fun i j => some (.bl (decide (j ≤ i))) := by funext a b; cases a <;> cases b <;> rfl
theorem bin_ge {T : Tb} : BinOk T (rI0 fun i j => .bl (decide (j ≤ i))) geD := by rw [geD_lift]; exact bin_int0 fun i j d e F => by cases e; exact mk_bl
/-! is None -/
theorem isN_V {T : Tb} {F : Hp} {x : V} {d : D} (r : Rep T F x d) : decide (x = .non) = match d with | .non => true | _ => false := by
  cases d with
  | non => obtain rfl := rep_non r; rfl
  | bl b => obtain rfl := rep_bl r; rfl
  | int i => obtain rfl := rep_int r; rfl
  | str s => obtain ⟨rfl, _⟩ := rep_str r; rfl
  | tup l => obtain ⟨a, vs, rfl, _⟩ := rep_tup r; rfl
  | lst l => obtain ⟨a, vs, rfl, _⟩ := rep_lst r; rfl
  | fn n => obtain ⟨a, rfl, _⟩ := rep_fn r; rfl
  | gen a => obtain rfl := rep_gen r; rfl
  | dic ks ds => obtain ⟨a, kvs, rfl, _⟩ := rep_dic r; rfl
  | ins c fs =>
    unfold Rep at r
    rcases r with ⟨a, C, dx, ps, rfl, _⟩ | ⟨a, d, ps, _, rfl, _⟩ <;> rfl
/-! * -/
def rRep1 (K : PySem.W.Frag) : R2 := fun x y H Q => ∃ l xs, x = .ref l ∧ y = .int 1 ∧ SqT K H l xs ∧ Q (.ref l) H
def rMulA (K : PySem.W.Frag) : R2 := fun x y H Q => rI CMul (fun i j => .int (i * j)) x y H Q ∨ (rRep x y H Q ∨ (rRep1 K x y H Q ∨ PPT.rRepF K x y H Q))
theorem tuple_mul1 (l : Addr) (items : Array Value) (n : Nat) (dd : Option Addr) (sl : Array (Option Value)) (u : Tok) :
    Meets (Builtin.«tuple.__mul__» ⟨[.ref l, .int 1 u], []⟩) (fun _ R s => s.heap.get? l = some { cls := .type "tuple", dict := dd, data := .seq items n, slots := sl } ∧
      R (.ok (.ret (Value.ref l))) s) :=
  .of_wp fun prog w A R s h => by
    obtain ⟨hp, g, d, tk, os⟩ := s
    obtain ⟨hl, h⟩ := h
    have f1 := AutoSeq1.idx_int
    have c0 : (decide ((1 : Int) < -(2 ^ 63)) || decide ((1 : Int) ≥ 2 ^ 63)) = false := by decide
    have c1 : (items.isEmpty || (1 : Int) == 1) = true := by simp
    wp_walk using wpAny_loadPart' hl
    repeat (first
      | (refine wpAny_ite_false (decide_eq_false (by rw [c0]; exact Bool.false_ne_true)) ?_; wp_walk using wpAny_loadPart' hl)
      | (refine wpAny_ite_true (decide_eq_true (by rw [c1])) ?_; wp_walk using wpAny_loadPart' hl))
    exact ⟨_, rfl, h⟩
theorem op_rep1 {X : Cx} : OpR X (binaryOp .Mult) (rRep1 X.K) := by
  intro pins s σ H x y v u Q I rx ry h
  obtain ⟨l, xs, rfl, rfl, hT, q⟩ := h
  cases rx
  obtain ⟨t, rfl⟩ := ry
  obtain ⟨its, r, ⟨⟨cls, dd, data, sl⟩, ho, hc, n, hd⟩, hs⟩ := I.tuple hT
  simp only at hc hd
  subst hc hd
  refine wpAny_binaryOp_repeat_ref (T := "tuple") (U := "int") (by decide) ⟨_, ho, rfl⟩ (fun s' => typeIs_int s' 1 t) noFill_tuple_mul F.fills_int_mul F.slot_int_rmul repeat_tuple F.slot_int_index.lookup
    (call_meets F.slot_int_rmul (typeIs_int s 1 t) F.entry_int_rmul (F.args_int_rmul_2 _ _) (int_rmul_tuple 1 t l its.toArray n dd sl)
      ⟨ho, rfl, ⟨_, ho, rfl⟩, call_meets F.slot_tuple_mul ⟨_, ho, rfl⟩ F.entry_tuple_mul (F.args_tuple_mul_2 _ _) (tuple_mul1 l its.toArray n dd sl t) ⟨ho, ?_⟩⟩)
  exact ⟨.ref l, H, I, rfl, q⟩
theorem op_mulA {X : Cx} : OpR X (binaryOp .Mult) (rMulA X.K) := op_mul.or (op_rep.or (op_rep1.or PPT.op_repF))
theorem mulOk_C {i j : Int} (h : mulOk i j = true) : CMul i j := by
  simp only [mulOk, Bool.or_eq_true, decide_eq_true_eq] at h
  have e : (18446744073709551616 : Nat) = 2 ^ 64 := by decide
  have e2 : ((2 : Int) ^ 64) = 18446744073709551616 := by decide
  unfold CMul
  rw [e2]
  omega
theorem bin_mul {T : Tb} : BinOk T (rMulA T.K) mulD := by
  intro F H x y d1 d2 d Q s r1 r2 e k
  cases d2 with
  | int j =>
    obtain rfl := rep_int r2
    cases d1 with
    | int i =>
      simp only [mulD, Option.ite_none_right_eq_some, Option.some.injEq] at e
      obtain ⟨h, rfl⟩ := e
      obtain rfl := rep_int r1
      exact .inl ⟨_, _, rfl, rfl, mulOk_C h, k _ F H (.refl s) mk_int⟩
    | tup l =>
      simp only [mulD, Option.ite_none_right_eq_some, Option.some.injEq, Bool.and_eq_true, Bool.not_eq_true', decide_eq_true_eq] at e
      obtain ⟨⟨⟨⟨h1, h2⟩, h3⟩, h4⟩, rfl⟩ := e
      obtain ⟨p, vs, rfl, e1, l1, q1⟩ := rep_tup r1
      have n1 := q1.length
      by_cases hj : j = 1
      · subst hj
        refine .inr (.inr (.inl ⟨p, vs, rfl, rfl, (e1.mono s).sq, k _ F H (.refl s) ?_⟩))
        show Rep T F (V.ref p) (.tup (repL 1 l))
        have : repL 1 l = l := by simp [repL]
        rw [this]
        exact r1
      · refine .inr (.inr (.inr ⟨p, j, vs, rfl, rfl, (e1.mono s).sq, ?_, by omega, h3, by omega, fun t o nt o1 o2 => ?_⟩))
        · intro z; subst z
          have : l = [] := List.eq_nil_of_length_eq_zero (by simpa using n1.symm)
          subst this
          simp at h1
        · obtain ⟨g1, g2⟩ := new_tup (T := T) s nt o1 o2 (by
            rw [PyProof.Rows.lm_len_rep_flat, LIM_eq, sizeLine_eq]
            have a1 : j.toNat * vs.length ≤ 1000 * 1000 := Nat.mul_le_mul (by omega) (by omega)
            omega) (q1.flat j.toNat)
          exact k _ _ _ g1 g2
    | lst l =>
      simp only [mulD, cntOk, Option.ite_none_right_eq_some, Option.some.injEq, Bool.and_eq_true, decide_eq_true_eq] at e
      obtain ⟨⟨h1, h3⟩, rfl⟩ := e
      obtain ⟨p, vs, rfl, e1, l1, q1⟩ := rep_lst r1
      have n1 := q1.length
      refine .inr (.inl ⟨p, j, vs, rfl, rfl, s _ _ e1, by omega, by omega, by rw [← LIM_eq, n1]; exact h3, fun t nt => ?_⟩)
      obtain ⟨g1, g2⟩ := new_lst (T := T) s nt (by
        rw [PyProof.Rows.lm_len_rep_flat, Nat.mul_comm, n1]; exact h3) (q1.flat j.toNat)
      exact k _ _ _ g1 g2
    | _ => simp [mulD] at e
  | _ => cases d1 <;> simp [mulD] at e
end PP

set_option Elab.async false
set_option linter.all false
set_option maxRecDepth 100000
set_option maxHeartbeats 4000000
namespace PP
open PySem L2

/-! ### subscripts, slices -/
theorem plc_ixN {n : Nat} {i : Int} : plc n i = ixN n i := rfl
theorem itD_atI {α : Type} {l : List α} {i : Int} : itD l i = atI l i := rfl
theorem atI_rep {T : Tb} {F : Hp} {vs : List V} {l : List D} {i : Int} {d : D} (r : RepL T F vs l) (h : itD l i = some d) : ∃ v, atI vs i = some v ∧ Rep T F v d := by
  rw [itD_atI] at h
  unfold atI at h ⊢
  rw [r.length]
  cases e : ixN l.length i with
  | none => rw [e] at h; cases h
  | some j =>
    rw [e] at h
    exact r.get h
/-! dicts: keys that are numbers and texts -/
theorem rep_key {T : Tb} {F : Hp} {k : Key} {d : D} (r : Rep T F (kV k) d) : (∃ i, d = .int i ∧ k = .inl i) ∨ ∃ s, d = .str s ∧ k = .inr ⟨s.toArray⟩ := by
  cases k with
  | inl i =>
    cases d with
    | int j => obtain h := rep_int r; cases h; exact .inl ⟨_, rfl, rfl⟩
    | non => obtain h := rep_non r; cases h
    | bl b => obtain h := rep_bl r; cases h
    | str s => obtain ⟨h, _⟩ := rep_str r; cases h
    | tup l => obtain ⟨_, _, h, _⟩ := rep_tup r; cases h
    | lst l => obtain ⟨_, _, h, _⟩ := rep_lst r; cases h
    | fn n => obtain ⟨_, h, _⟩ := rep_fn r; cases h
    | gen a => obtain h := rep_gen r; cases h
    | dic ks ds => obtain ⟨_, _, h, _⟩ := rep_dic r; cases h
    | ins c fs => unfold Rep at r; rcases r with ⟨_, _, _, _, h, _⟩ | ⟨_, _, _, _, h, _⟩ <;> cases h
  | inr x =>
    cases d with
    | int j => obtain h := rep_int r; cases h
    | non => obtain h := rep_non r; cases h
    | bl b => obtain h := rep_bl r; cases h
    | str s => obtain ⟨h, _⟩ := rep_str r; cases h; exact .inr ⟨_, rfl, rfl⟩
    | tup l => obtain ⟨_, _, h, _⟩ := rep_tup r; cases h
    | lst l => obtain ⟨_, _, h, _⟩ := rep_lst r; cases h
    | fn n => obtain ⟨_, h, _⟩ := rep_fn r; cases h
    | gen a => obtain h := rep_gen r; cases h
    | dic ks ds => obtain ⟨_, _, h, _⟩ := rep_dic r; cases h
    | ins c fs => unfold Rep at r; rcases r with ⟨_, _, _, _, h, _⟩ | ⟨_, _, _, _, h, _⟩ <;> cases h
theorem key_eq {T : Tb} {F : Hp} {k1 k2 : Key} {d1 d2 : D} (r1 : Rep T F (kV k1) d1) (r2 : Rep T F (kV k2) d2) : decide (k1 = k2) = keyB d1 d2 := by
  rcases rep_key r1 with ⟨i, rfl, rfl⟩ | ⟨s, rfl, rfl⟩
  · rcases rep_key r2 with ⟨j, rfl, rfl⟩ | ⟨t, rfl, rfl⟩
    · by_cases h : i = j <;> simp [keyB, h]
    · simp [keyB]
  · rcases rep_key r2 with ⟨j, rfl, rfl⟩ | ⟨t, rfl, rfl⟩
    · simp [keyB]
    · by_cases h : s = t
      · subst h; simp [keyB]
      · simp [keyB, h]
theorem key_of_rep {T : Tb} {F : Hp} {y : V} {d : D} (h : isKey d = true) (r : Rep T F y d) : ∃ k, y = kV k := by
  cases d with
  | int i => exact ⟨.inl i, rep_int r⟩
  | str s => obtain ⟨h, _⟩ := rep_str r; exact ⟨.inr _, h⟩
  | _ => simp [isKey] at h
theorem dget_rep {T : Tb} {F : Hp} {k : Key} {dk : D} (rk : Rep T F (kV k) dk) : ∀ {kvs : List (Key × V)} {ks ds : List D}, RepL T F (kvs.map fun kv => kV kv.1) ks → RepL T F (kvs.map (·.2)) ds →
    (match dGet dk ks ds with | some d => ∃ v, valV kvs k = some v ∧ Rep T F v d | none => valV kvs k = none)
  | [], ks, ds, r1, r2 => by
    cases ks with
    | nil => rfl
    | cons x xs => unfold RepL at r1; exact r1.elim
  | p :: kvs, ks, ds, r1, r2 => by
    obtain ⟨x, xs, rfl, a1, a2⟩ := r1.inv
    obtain ⟨v, vs, rfl, b1, b2⟩ := r2.inv
    have e := key_eq a1 rk
    simp only [dGet]
    by_cases h : p.1 = k
    · rw [← e, decide_eq_true h, if_pos rfl]
      exact ⟨p.2, valV_pos h, b1⟩
    · rw [← e, decide_eq_false h, if_neg Bool.false_ne_true, valV_neg h]
      exact dget_rep rk a2 b2
theorem dhas_rep {T : Tb} {F : Hp} {k : Key} {dk : D} (rk : Rep T F (kV k) dk) : ∀ {kvs : List (Key × V)} {ks : List D}, RepL T F (kvs.map fun kv => kV kv.1) ks → dHas dk ks = (valV kvs k).isSome
  | [], ks, r1 => by rw [show ks = [] from by cases ks with | nil => rfl | cons x xs => unfold RepL at r1; exact r1.elim]; rfl
  | p :: kvs, ks, r1 => by
    obtain ⟨x, xs, rfl, a1, a2⟩ := r1.inv
    have e := key_eq a1 rk
    have ih := dhas_rep rk a2
    simp only [dHas, List.any_cons] at ih ⊢
    rw [ih, ← e]
    by_cases h : p.1 = k
    · rw [valV_pos h, decide_eq_true h]; rfl
    · rw [valV_neg h, decide_eq_false h, Bool.false_or]
theorem dput_rep {T : Tb} {F : Hp} {k : Key} {dk d : D} {v : V} {kvs : List (Key × V)} {ks ds : List D} (rk : Rep T F (kV k) dk) (rv : Rep T F v d) (r1 : RepL T F (kvs.map fun kv => kV kv.1) ks) (r2 : RepL T F (kvs.map (·.2)) ds) (hl : kvs.length < LIM) :
    OwnC T F (.dK (putK kvs k v)) (dPut dk d ks ds) := by
  unfold dPut
  have hh := dhas_rep rk r1
  have hany := valV_any k kvs
  cases hv : (valV kvs k).isSome with
  | true =>
    rw [hh, hv, if_pos rfl]
    rw [hv] at hany
    refine ⟨_, rfl, ?_, ?_, ?_⟩
    · unfold putK; rw [if_pos hany, List.length_map]; omega
    · unfold putK; rw [if_pos hany, List.map_map]
      have e : (kvs.map ((fun kv => kV kv.1) ∘ fun kv => if kv.1 = k then (kv.1, v) else kv)) = kvs.map fun kv => kV kv.1 := List.map_congr_left fun kv _ => by
        simp only [Function.comp]; split <;> rfl
      rw [show (kvs.map ((fun kv => kV kv.1) ∘ fun kv => if kv.1 = k then (kv.1, v) else kv)) = _ from e]; exact r1
    · unfold putK; rw [if_pos hany, List.map_map]
      clear hh hany hv hl
      induction kvs generalizing ks ds with
      | nil =>
        cases ks with
        | nil => exact .nil
        | cons x xs => unfold RepL at r1; exact r1.elim
      | cons p kvs ih =>
        obtain ⟨x, xs, rfl, a1, a2⟩ := r1.inv
        obtain ⟨u, us, rfl, b1, b2⟩ := r2.inv
        have e := key_eq a1 rk
        simp only [List.map_cons, dRep, Function.comp]
        refine .cons ?_ (ih a2 b2)
        by_cases h : p.1 = k
        · rw [← e, decide_eq_true h, if_pos rfl, if_pos h]; exact rv
        · rw [← e, decide_eq_false h, if_neg Bool.false_ne_true, if_neg h]; exact b1
  | false =>
    rw [hh, hv, if_neg Bool.false_ne_true]
    have hn : valV kvs k = none := by cases h : valV kvs k with | none => rfl | some z => rw [h] at hv; cases hv
    rw [putK_new v hn]
    refine ⟨_, rfl, by simp; omega, ?_, ?_⟩
    · rw [List.map_append]; exact r1.append (.cons rk .nil)
    · rw [List.map_append]; exact r2.append (.cons rv .nil)
def rDG : R2 := fun x y H Q => ∃ a v, x = .ref a ∧ DGet H a y (some v) ∧ Q v H
theorem ix_dic {X : Cx} (hu : X.A.units + 1 < cLine) : IxR X rDG := by
  intro value slice pins s σ H x y v u Q I rx ry h hs
  obtain ⟨a, z, rfl, g, q⟩ := h
  obtain rfl : v = Value.ref a := rx
  exact PyProof.Rows.tail_any (dict_typeIs I g) PySem.F.slot_dict_getitem.lookup (d_getItem hu I g ry fun w' s' I' rw' => ⟨z, H, I', rw', q⟩) hs
def rIxA (K : PySem.W.Frag) : R2 := fun x y H Q => rIx K x y H Q ∨ rDG x y H Q
theorem ix_all {X : Cx} (hu : X.A.units + 1 < cLine) : IxR X (rIxA X.K) := ix_seq.or (ix_dic hu)
theorem dg_ix {T : Tb} {F H : Hp} {x y : V} {dk d : D} {ks ds : List D} {Q : VK} (s : Sub F H) (hk : isKey dk = true) (r1 : Rep T F x (.dic ks ds)) (r2 : Rep T F y dk) (e : dGet dk ks ds = some d) (k : ∀ v F' H', Grow F H F' H' → Rep T F' v d → Q v H') : rIxA T.K x y H Q := by
  obtain ⟨a, kvs, rfl, e1, l1, q1, q2⟩ := rep_dic r1
  obtain ⟨key, rfl⟩ := key_of_rep hk r2
  have := dget_rep r2 q1 q2
  rw [e] at this
  obtain ⟨v, hv, rv⟩ := this
  exact .inr ⟨a, v, rfl, by rw [← hv]; exact DGet.k (s _ _ e1), k _ F H (.refl s) rv⟩
theorem bin_ix {T : Tb} : BinOk T (rIxA T.K) ixD := by
  intro F H x y d1 d2 d Q s r1 r2 e k
  by_cases hd : ∃ ks ds, d1 = .dic ks ds
  · obtain ⟨ks, ds, rfl⟩ := hd
    cases d2 with
    | int j => exact dg_ix s rfl r1 r2 e k
    | str z => exact dg_ix s rfl r1 r2 e k
    | _ => simp [ixD] at e
  refine .inl ?_
  cases d2 with
  | int j =>
    obtain rfl := rep_int r2
    cases d1 with
    | dic ks ds => exact absurd ⟨ks, ds, rfl⟩ hd
    | tup l =>
      obtain ⟨p, vs, rfl, e1, l1, q1⟩ := rep_tup r1
      obtain ⟨v, h1, h2⟩ := atI_rep q1 e
      exact .inr (.inl ⟨p, vs, j, v, rfl, rfl, (e1.mono s).sq, h1, k _ F H (.refl s) h2⟩)
    | lst l =>
      obtain ⟨p, vs, rfl, e1, l1, q1⟩ := rep_lst r1
      obtain ⟨v, h1, h2⟩ := atI_rep q1 e
      exact .inl ⟨p, vs, j, v, rfl, rfl, SqL.of (s _ _ e1), h1, k _ F H (.refl s) h2⟩
    | str z =>
      obtain ⟨rfl, l1, c1⟩ := rep_str r1
      simp only [ixD, Option.map_eq_some_iff] at e
      obtain ⟨c, h1, rfl⟩ := e
      refine .inr (.inr ⟨_, j, c, rfl, rfl, by rw [str_len, ← LIM_eq]; exact l1, by simpa [itD_atI] using h1, k _ F H (.refl s) (mk_str (s := [c]) (by simp [LIM]) fun c' hc => ?_)⟩)
      obtain rfl : c' = c := by simpa using hc
      obtain ⟨m, _, hm, _⟩ := atI_get (show atI z j = some c' from h1)
      exact c1 c' (List.mem_of_getElem? hm)
    | _ => simp [ixD] at e
  | str z => cases d1 <;> first | exact absurd ⟨_, _, rfl⟩ hd | simp [ixD] at e
  | _ => cases d1 <;> simp [ixD] at e
/-- a slice of any kind -/
def rSlQ (K : PySem.W.Frag) : V → Option Int → Option Int → Hp → VK → Prop := fun x lo hi H Q => rSlL K x lo hi H Q ∨ (PPT.rSlF K x lo hi H Q ∨ rSlS x lo hi H Q)
theorem sl_any {X : Cx} : SlR X (rSlQ X.K) := sl_list.or (PPT.sl_tupF.or sl_str)
theorem bnd_sIx {n d : Nat} {o : Option Int} : bnd n d o = HT.sIx n d o := rfl
theorem cut_rep {T : Tb} {F : Hp} {vs : List V} {l : List D} (r : RepL T F vs l) (lo hi : Option Int) : RepL T F (cutV vs lo hi) (cut l lo hi) := by
  unfold cutV cut
  rw [r.length]
  exact (r.drop _).take _
theorem cut_whole {α : Type} {l : List α} {lo hi : Option Int} (h : HT.sIx l.length 0 lo = 0 ∧ HT.sIx l.length l.length hi = l.length) : cut l lo hi = l := by
  unfold cut
  rw [bnd_sIx, bnd_sIx, h.1, h.2]
  simp
theorem cut_length {α : Type} (l : List α) (lo hi : Option Int) : (cut l lo hi).length ≤ l.length := by
  unfold cut
  rw [List.length_take, List.length_drop]
  omega
theorem cutS_cut {s : List Nat} {lo hi : Option Int} : cutS ⟨s.toArray⟩ lo hi = ⟨(cut s lo hi).toArray⟩ := by
  unfold cutS cut
  simp [bnd_sIx, Str.length]
theorem sl_ok {T : Tb} {F H : Hp} {x : V} {d1 d : D} {lo hi : Option Int} {Q : VK} (s : Sub F H) (r : Rep T F x d1) (e : sliceD d1 lo hi = some d) (k : ∀ v F' H', Grow F H F' H' → Rep T F' v d → Q v H') : rSlQ T.K x lo hi H Q := by
  cases d1 with
  | lst l =>
    simp only [sliceD, Option.some.injEq] at e; subst e
    obtain ⟨p, vs, rfl, e1, l1, q1⟩ := rep_lst r
    refine .inl ⟨p, vs, rfl, SqL.of (s _ _ e1), fun t nt => ?_⟩
    obtain ⟨g1, g2⟩ := new_lst (T := T) s nt (Nat.le_trans (cutV_length _ _ _) l1) (cut_rep q1 lo hi)
    exact k _ _ _ g1 g2
  | tup l =>
    simp only [sliceD, Option.some.injEq] at e; subst e
    obtain ⟨p, vs, rfl, e1, l1, q1⟩ := rep_tup r
    refine .inr (.inl ⟨p, vs, rfl, (e1.mono s).sq, fun w => ?_, fun _ t o nt o1 o2 => ?_⟩)
    · have : cut l lo hi = l := cut_whole (by rw [← q1.length]; exact w)
      rw [this] at k
      exact k _ F H (.refl s) r
    · obtain ⟨g1, g2⟩ := new_tup (T := T) s nt o1 o2 (Nat.le_trans (cutV_length _ _ _) l1) (cut_rep q1 lo hi)
      exact k _ _ _ g1 g2
  | str z =>
    simp only [sliceD, Option.some.injEq] at e; subst e
    obtain ⟨rfl, l1, c1⟩ := rep_str r
    refine .inr (.inr ⟨_, rfl, by rw [str_len, ← LIM_eq]; exact l1, ?_⟩)
    rw [cutS_cut]
    refine k _ F H (.refl s) (mk_str (Nat.le_trans (cut_length _ _ _) l1) fun c hc => c1 c ?_)
    unfold cut at hc
    exact List.mem_of_mem_drop (List.mem_of_mem_take hc)
  | _ => simp [sliceD] at e

/-! ### calls of built-ins -/
theorem call1 {T : Tb} {F : Hp} {xs : List V} {d : D} (r : RepL T F xs [d]) : ∃ x, xs = [x] ∧ Rep T F x d := by
  obtain ⟨v, r', rfl, h1, h2⟩ := r.inv2
  exact ⟨v, by rw [h2.nil_inv], h1⟩
theorem call2 {T : Tb} {F : Hp} {xs : List V} {d e : D} (r : RepL T F xs [d, e]) : ∃ x y, xs = [x, y] ∧ Rep T F x d ∧ Rep T F y e := by
  obtain ⟨v, r', rfl, h1, h2⟩ := r.inv2
  obtain ⟨y, rfl, h3⟩ := call1 h2
  exact ⟨v, y, rfl, h1, h3⟩
def one1 (o : D → Option D) : List D → Option D
  | [d] => o d
  | _ => none
theorem cl1 {T : Tb} {r : List V → Hp → VK → Prop} {od : List D → Option D} (he : ∀ ds d, od ds = some d → ∃ d1, ds = [d1]) (h : ∀ F H x d1 d Q, Sub F H → Rep T F x d1 → od [d1] = some d → (∀ v F' H', Grow F H F' H' → Rep T F' v d → Q v H') → r [x] H Q) : CallOk T r od := by
  intro F H xs ds d Q s rr e k
  obtain ⟨d1, rfl⟩ := he ds d e
  obtain ⟨x, rfl, r1⟩ := call1 rr
  exact h F H x d1 d Q s r1 e k
def rLenA (K : PySem.W.Frag) : List V → Hp → VK → Prop := fun xs H Q => (∃ x n, xs = [x] ∧ LenV K x H n ∧ Q (.int n) H) ∨ ∃ a kvs, xs = [.ref a] ∧ Rd H a (.dK kvs) ∧ Q (.int kvs.length) H
theorem call_lenA {X : Cx} : CallR X (.builtin "len") (rLenA X.K) := by
  intro pins s σ H xs us Q I r h
  rcases h with h | ⟨a, kvs, rfl, e, q⟩
  · exact call_len pins s σ H xs us Q I r h
  · obtain ⟨u, rfl, rx⟩ := vals1 r
    obtain rfl : u = Value.ref a := rx
    exact d_len I e fun t s' I' => ⟨.int kvs.length, H, I', ⟨t, rfl⟩, q⟩
theorem cl_len {T : Tb} : CallOk T (rLenA T.K) lenD := by
  refine cl1 (fun ds d e => ?_) fun F H x d1 d Q s r e k => ?_
  · unfold lenD at e
    split at e <;> first | exact ⟨_, rfl⟩ | cases e
  · cases d1 with
    | lst l =>
      simp only [lenD, Option.some.injEq] at e; subst e
      obtain ⟨p, vs, rfl, e1, l1, q1⟩ := rep_lst r
      exact .inl ⟨_, l.length, rfl, .inl ⟨vs, SqL.of (s _ _ e1), q1.length.symm⟩, k _ F H (.refl s) mk_int⟩
    | tup l =>
      simp only [lenD, Option.some.injEq] at e; subst e
      obtain ⟨p, vs, rfl, e1, l1, q1⟩ := rep_tup r
      exact .inl ⟨_, l.length, rfl, .inr ⟨vs, (e1.mono s).sq, q1.length.symm⟩, k _ F H (.refl s) mk_int⟩
    | str z =>
      simp only [lenD, Option.some.injEq] at e; subst e
      obtain ⟨rfl, l1, c1⟩ := rep_str r
      exact .inl ⟨_, z.length, rfl, ⟨by rw [str_len, ← LIM_eq]; exact l1, str_len.symm⟩, k _ F H (.refl s) mk_int⟩
    | dic ks ds =>
      simp only [lenD, Option.some.injEq] at e; subst e
      obtain ⟨p, kvs, rfl, e1, l1, q1, q2⟩ := rep_dic r
      refine .inr ⟨p, kvs, rfl, .inl (s _ _ e1), ?_⟩
      have : kvs.length = ks.length := by simpa using q1.length
      rw [this]
      exact k _ F H (.refl s) mk_int
    | _ => simp [lenD] at e
theorem cl_abs {T : Tb} : CallOk T (fun xs H Q => ∃ i, xs = [.int i] ∧ Q (.int (if i < 0 then -i else i)) H) absD := by
  refine cl1 (fun ds d e => ?_) fun F H x d1 d Q s r e k => ?_
  · unfold absD at e
    split at e <;> first | exact ⟨_, rfl⟩ | cases e
  · cases d1 with
    | int i =>
      simp only [absD, Option.some.injEq] at e; subst e
      obtain rfl := rep_int r
      exact ⟨i, rfl, k _ F H (.refl s) mk_int⟩
    | _ => simp [absD] at e
theorem cl_int {T : Tb} : CallOk T (fun xs H Q => (∃ i, xs = [.int i] ∧ Q (.int i) H) ∨ ∃ k, xs = [.bl k] ∧ Q (.int (if k then 1 else 0)) H) intD := by
  refine cl1 (fun ds d e => ?_) fun F H x d1 d Q s r e k => ?_
  · unfold intD at e
    split at e <;> first | exact ⟨_, rfl⟩ | cases e
  · cases d1 with
    | int i =>
      simp only [intD, Option.some.injEq] at e; subst e
      obtain rfl := rep_int r
      exact .inl ⟨i, rfl, k _ F H (.refl s) mk_int⟩
    | bl b =>
      simp only [intD, Option.some.injEq] at e; subst e
      obtain rfl := rep_bl r
      exact .inr ⟨b, rfl, k _ F H (.refl s) mk_int⟩
    | _ => simp [intD] at e
theorem bls_rep {T : Tb} {F : Hp} : ∀ {l : List D} {vs : List V} {bs : List Bool}, RepL T F vs l → blsD l = some bs → vs = bs.map V.bl
  | [], vs, bs, r, e => by
    simp only [blsD, Option.some.injEq] at e; subst e
    exact r.nil_inv
  | d :: l, vs, bs, r, e => by
    obtain ⟨v, us, rfl, h1, h2⟩ := r.inv2
    cases d with
    | bl b =>
      simp only [blsD, Option.map_eq_some_iff] at e
      obtain ⟨bs', e', rfl⟩ := e
      rw [rep_bl h1, bls_rep h2 e']; rfl
    | _ => simp [blsD] at e
theorem ints_rep {T : Tb} {F : Hp} : ∀ {l : List D} {vs : List V} {bs : List Int}, RepL T F vs l → intsD l = some bs → vs = bs.map V.int
  | [], vs, bs, r, e => by
    simp only [intsD, Option.some.injEq] at e; subst e
    exact r.nil_inv
  | d :: l, vs, bs, r, e => by
    obtain ⟨v, us, rfl, h1, h2⟩ := r.inv2
    cases d with
    | int b =>
      simp only [intsD, Option.map_eq_some_iff] at e
      obtain ⟨bs', e', rfl⟩ := e
      rw [rep_int h1, ints_rep h2 e']; rfl
    | _ => simp [intsD] at e
theorem cl_all {T : Tb} : CallOk T (rAll T.K) allD := by
  refine cl1 (fun ds d e => ?_) fun F H x d1 d Q s r e k => ?_
  · unfold allD at e
    split at e <;> first | exact ⟨_, rfl⟩ | cases e
  · cases d1 with
    | lst l =>
      simp only [allD, Option.map_eq_some_iff] at e
      obtain ⟨bs, e', rfl⟩ := e
      obtain ⟨p, vs, rfl, e1, l1, q1⟩ := rep_lst r
      obtain rfl := bls_rep q1 e'
      exact ⟨p, bs, rfl, SqL.of (s _ _ e1), k _ F H (.refl s) mk_bl⟩
    | _ => simp [allD] at e
theorem cl_any {T : Tb} : CallOk T (rAny T.K) anyD := by
  refine cl1 (fun ds d e => ?_) fun F H x d1 d Q s r e k => ?_
  · unfold anyD at e
    split at e <;> first | exact ⟨_, rfl⟩ | cases e
  · cases d1 with
    | lst l =>
      simp only [anyD, Option.map_eq_some_iff] at e
      obtain ⟨bs, e', rfl⟩ := e
      obtain ⟨p, vs, rfl, e1, l1, q1⟩ := rep_lst r
      obtain rfl := bls_rep q1 e'
      exact ⟨p, bs, rfl, SqL.of (s _ _ e1), k _ F H (.refl s) mk_bl⟩
    | _ => simp [anyD] at e
/-- sum of a tuple of ints -/
theorem cr_sumT {X : Cx} (hc : X.calm = true) : CallR X (.builtin "sum") (fun vs H Q => ∃ (a : Addr) (ns : List Int), vs = [V.ref a] ∧ SqT X.K H a (ns.map V.int) ∧ Q (.int ns.sum) H) := by
  intro pins s σ H xs us Q I r h
  obtain ⟨a, ns, rfl, hq, q⟩ := h
  obtain ⟨u, rfl, ru⟩ := vals1 r
  cases ru
  obtain ⟨its, rv, ht, hz⟩ := I.tuple hq
  have hi := rv.ints
  obtain ⟨xs, hx⟩ := hi.allInts.items
  have hn : numsOf its.toArray.toList = ns := by rw [show its.toArray.toList = its from rfl, hi.numsOf]
  have ht' : s.heap.IsTuple a its.toArray := ht
  rw [hx] at ht' hn
  rw [nums_intItems] at hn
  refine PySem.W.ktm_sumG (I.ok.hd hc) ht' fun h' tk t' hk => ?_
  rw [PySem.preSum_eq, List.take_of_length_le (by simp), hn]
  exact ⟨.int ns.sum, H, I.kept (t' := tk) hk, ⟨t', rfl⟩, q⟩
def rSumA (K : PySem.W.Frag) : List V → Hp → VK → Prop := fun vs H Q => rSum K vs H Q ∨ ∃ (a : Addr) (ns : List Int), vs = [V.ref a] ∧ SqT K H a (ns.map V.int) ∧ Q (.int ns.sum) H
theorem cr_sumA {X : Cx} (hc : X.calm = true) : CallR X (.builtin "sum") (rSumA X.K) := CallR.or (cr_sum hc) (cr_sumT hc)
theorem cl_sum {T : Tb} : CallOk T (rSumA T.K) sumD := by
  refine cl1 (fun ds d e => ?_) fun F H x d1 d Q s r e k => ?_
  · unfold sumD at e
    split at e <;> first | exact ⟨_, rfl⟩ | cases e
  · cases d1 with
    | lst l =>
      simp only [sumD, Option.map_eq_some_iff] at e
      obtain ⟨bs, e', rfl⟩ := e
      obtain ⟨p, vs, rfl, e1, l1, q1⟩ := rep_lst r
      obtain rfl := ints_rep q1 e'
      exact .inl ⟨p, bs, rfl, SqL.of (s _ _ e1), k _ F H (.refl s) mk_int⟩
    | tup l =>
      simp only [sumD, Option.map_eq_some_iff] at e
      obtain ⟨bs, e', rfl⟩ := e
      obtain ⟨p, vs, rfl, e1, l1, q1⟩ := rep_tup r
      obtain rfl := ints_rep q1 e'
      exact .inr ⟨p, bs, rfl, (e1.mono s).sq, k _ F H (.refl s) mk_int⟩
    | _ => simp [sumD] at e
theorem cl_tuple {T : Tb} : CallOk T (PPT.rTupleF T.K) tupleD := by
  refine cl1 (fun ds d e => ?_) fun F H x d1 d Q s r e k => ?_
  · unfold tupleD at e
    split at e <;> first | exact ⟨_, rfl⟩ | cases e
  · cases d1 with
    | lst l =>
      simp only [tupleD, Option.some.injEq] at e; subst e
      obtain ⟨p, vs, rfl, e1, l1, q1⟩ := rep_lst r
      refine ⟨p, vs, rfl, .inl ⟨SqL.of (s _ _ e1), fun t o nt o1 o2 => ?_⟩⟩
      obtain ⟨g1, g2⟩ := new_tup (T := T) s nt o1 o2 l1 q1
      exact k _ _ _ g1 g2
    | tup l =>
      simp only [tupleD, Option.some.injEq] at e; subst e
      obtain ⟨p, vs, rfl, e1, l1, q1⟩ := rep_tup r
      exact ⟨p, vs, rfl, .inr ⟨(e1.mono s).sq, k _ F H (.refl s) r⟩⟩
    | _ => simp [tupleD] at e
def rListA (K : PySem.W.Frag) : List V → Hp → VK → Prop := fun xs H Q => ∃ p ys, xs = [.ref p] ∧ (SqL K H p ys ∨ SqT K H p ys) ∧ ∀ l, H l = none → Q (.ref l) (upd H l (.lst ys))
theorem cl_list {T : Tb} : CallOk T (rListA T.K) listD := by
  refine cl1 (fun ds d e => ?_) fun F H x d1 d Q s r e k => ?_
  · unfold listD at e
    split at e <;> first | exact ⟨_, rfl⟩ | cases e
  · cases d1 with
    | lst l =>
      simp only [listD, Option.some.injEq] at e; subst e
      obtain ⟨p, vs, rfl, e1, l1, q1⟩ := rep_lst r
      refine ⟨p, vs, rfl, .inl (SqL.of (s _ _ e1)), fun t nt => ?_⟩
      obtain ⟨g1, g2⟩ := new_lst (T := T) s nt l1 q1
      exact k _ _ _ g1 g2
    | tup l =>
      simp only [listD, Option.some.injEq] at e; subst e
      obtain ⟨p, vs, rfl, e1, l1, q1⟩ := rep_tup r
      refine ⟨p, vs, rfl, .inr ((e1.mono s).sq), fun t nt => ?_⟩
      obtain ⟨g1, g2⟩ := new_lst (T := T) s nt l1 q1
      exact k _ _ _ g1 g2
    | _ => simp [listD] at e
/-! isinstance with a built-in kind -/
def kdT : Kd → String
  | .int => "int" | .bool => "bool" | .str => "str" | .tuple => "tuple" | .list => "list"
def rKd (K : PySem.W.Frag) (k : Kd) : V → Hp → VK → Prop := fun x H Q => rIsi K [x, .ty (kdT k)] H Q
theorem th_ty {K : PySem.W.Frag} {H : Hp} {a : Addr} {vs : List V} (h : PPT.TH H a vs) : TyX K H (.ref a) (.type "tuple") := by
  obtain ⟨o, _, _, h⟩ := h
  exact .fTuple h
theorem un_kd {T : Tb} (kd : Kd) : UnOk T (rKd T.K kd) (isKd kd) := by
  intro F H x d1 d Q s r e k
  have go : ∀ (t : String) (b : Bool), TyX T.K H x (.type t) → kitB t (kdT kd) = some b → d = .bl b → rKd T.K kd x H Q := fun t b ty hk hd => by
    subst hd
    exact ⟨x, .ty (kdT kd), .type t, .type (kdT kd), b, rfl, .ty _, ty, kit_ty hk, k _ F H (.refl s) mk_bl⟩
  cases d1 with
  | non => obtain rfl := rep_non r; cases kd <;> (cases e; exact go "NoneType" false (.base .non) (by decide +kernel) rfl)
  | bl b =>
    obtain rfl := rep_bl r
    cases kd with
    | int => cases e; exact go "bool" true (.base (.bl b)) (by decide +kernel) rfl
    | bool => cases e; exact go "bool" true (.base (.bl b)) (by decide +kernel) rfl
    | str => cases e; exact go "bool" false (.base (.bl b)) (by decide +kernel) rfl
    | tuple => cases e; exact go "bool" false (.base (.bl b)) (by decide +kernel) rfl
    | list => cases e; exact go "bool" false (.base (.bl b)) (by decide +kernel) rfl
  | int i =>
    obtain rfl := rep_int r
    cases kd with
    | int => cases e; exact go "int" true (.base (.int i)) (by decide +kernel) rfl
    | bool => cases e; exact go "int" false (.base (.int i)) (by decide +kernel) rfl
    | str => cases e; exact go "int" false (.base (.int i)) (by decide +kernel) rfl
    | tuple => cases e; exact go "int" false (.base (.int i)) (by decide +kernel) rfl
    | list => cases e; exact go "int" false (.base (.int i)) (by decide +kernel) rfl
  | str z =>
    obtain ⟨rfl, _⟩ := rep_str r
    cases kd with
    | int => cases e; exact go "str" false (.base (.str _)) (by decide +kernel) rfl
    | bool => cases e; exact go "str" false (.base (.str _)) (by decide +kernel) rfl
    | str => cases e; exact go "str" true (.base (.str _)) (by decide +kernel) rfl
    | tuple => cases e; exact go "str" false (.base (.str _)) (by decide +kernel) rfl
    | list => cases e; exact go "str" false (.base (.str _)) (by decide +kernel) rfl
  | tup l =>
    obtain ⟨p, vs, rfl, e1, _⟩ := rep_tup r
    cases kd with
    | int => cases e; exact go "tuple" false (th_ty (e1.mono s)) (by decide +kernel) rfl
    | bool => cases e; exact go "tuple" false (th_ty (e1.mono s)) (by decide +kernel) rfl
    | str => cases e; exact go "tuple" false (th_ty (e1.mono s)) (by decide +kernel) rfl
    | tuple => cases e; exact go "tuple" true (th_ty (e1.mono s)) (by decide +kernel) rfl
    | list => cases e; exact go "tuple" false (th_ty (e1.mono s)) (by decide +kernel) rfl
  | lst l =>
    obtain ⟨p, vs, rfl, e1, _⟩ := rep_lst r
    cases kd with
    | int => cases e; exact go "list" false (.base (.lst (s _ _ e1))) (by decide +kernel) rfl
    | bool => cases e; exact go "list" false (.base (.lst (s _ _ e1))) (by decide +kernel) rfl
    | str => cases e; exact go "list" false (.base (.lst (s _ _ e1))) (by decide +kernel) rfl
    | tuple => cases e; exact go "list" false (.base (.lst (s _ _ e1))) (by decide +kernel) rfl
    | list => cases e; exact go "list" true (.base (.lst (s _ _ e1))) (by decide +kernel) rfl
  | _ => cases kd <;> simp [isKd] at e

/-! ### expressions -/
section
variable {X : Cx} {T : Tb} {Z : Act} {W : WX} {own : List Nat} {e a b c : Expr} {es : List Expr} {fa fb fc : PP.X} {pos : Pos}
theorem un_imp {r : V → Hp → VK → Prop} {od : D → Option D} (hr : UnOk T r od) {σ : St} {H : Hp} {Q : VK} (h : tP T Z W own (xUn od fa) σ H Q) : tP T Z W own fa σ H fun x H1 => r x H1 Q := by
  obtain ⟨kp, F, ρ, g, c, q⟩ := h
  exact tP.then c q.bind fun d1 g1 v1 F1 H1 q1 c1 s1 r1 => by
    obtain ⟨d, e, q3⟩ := rQ.ofO (H := H) q1
    exact hr F1 H1 v1 d1 d Q c1.core.sub r1 e fun v F' H' gr rv => q3 v F' H' (c1.grow gr) (s1.trans gr.ff) rv
theorem bin_imp {r : R2} {od : D → D → Option D} (hr : BinOk T r od) {σ : St} {H : Hp} {Q : VK} (h : tP T Z W own (xBin od fa fb) σ H Q) : tOp r (tP T Z W own fa) (tP T Z W own fb) σ H Q := by
  obtain ⟨kp, F, ρ, g, c, q⟩ := h
  exact tP.then c q.bind fun d1 g1 v1 F1 H1 q1 c1 s1 r1 => tP.then c1 (q1.bind.up s1 fun _ _ z => z) fun d2 g2 v2 F2 H2 q2 c2 s2 r2 => by
    obtain ⟨d, e, q3⟩ := rQ.ofO (H := H) q2
    exact hr F2 H2 v1 v2 d1 d2 d Q c2.core.sub (Rep.mono s2 _ _ r1) r2 e fun v F' H' gr rv => q3 v F' H' (c2.grow gr) ((s1.trans s2).trans gr.ff) rv
theorem x_un {op : UnaryOp} {r : V → Hp → VK → Prop} {od : D → Option D} (ho : UnR X (unaryOp op) r) (hr : UnOk T r od) (ha : XE X T Z W own a fa) : XE X T Z W own (.UnaryOp op a pos) (xUn od fa) :=
  PE.imp (pe_un ho ha) fun σ H Q h => un_imp hr h
theorem un_neg' : UnOk T (rU fun i => .int (-i)) negD := by
  intro F H x d1 d Q s r e k
  cases d1 with
  | int i =>
    simp only [negD, Option.some.injEq] at e; subst e
    obtain rfl := rep_int r
    exact ⟨i, rfl, k _ F H (.refl s) mk_int⟩
  | _ => simp [negD] at e
theorem x_neg (ha : XE X T Z W own a fa) : XE X T Z W own (.UnaryOp .USub a pos) (xUn negD fa) := x_un un_neg un_neg' ha
theorem x_cmp {op : CmpOp} {r : R2} {od : D → D → Option D} (ho : OpR X (compareOp op) r) (hr : BinOk T r od) (hm : behindInMarks op b = false) (ha : XE X T Z W own a fa) (hb : XE X T Z W own b fb) : XE X T Z W own (.Compare a [op] [b] pos) (xBin od fa fb) :=
  PE.imp (pe_cmpR ho ha hb hm) fun σ H Q h => bin_imp hr h
/-- what gives a truth, as a test -/
theorem tv_imp {t : TE} {f : PP.X} (i : ∀ σ H Q, tP T Z W own f σ H Q → t σ H Q) {σ : St} {H : Hp} {Q : Bool → Hp → Prop} (h : tPT T Z W own (tV f) σ H Q) : t σ H fun x H1 => ∃ k, x = .bl k ∧ Q k H1 := by
  obtain ⟨kp, F, ρ, g, c, q⟩ := h
  exact i _ _ _ (tP.then c q.bind fun d1 g1 v1 F1 H1 q1 c1 s1 r1 => by
    cases d1 with
    | bl b =>
      obtain rfl := rep_bl r1
      exact ⟨b, rfl, q1 F1 H1 c1 s1⟩
    | _ => exact q1.elim)
theorem xt_cmp {op : CmpOp} {r : R2} {od : D → D → Option D} (ho : OpR X (compareOp op) r) (hr : BinOk T r od) (hm : behindInMarks op b = false) (ha : XE X T Z W own a fa) (hb : XE X T Z W own b fb) : XTt X T Z W own (.Compare a [op] [b] pos) (tV (xBin od fa fb)) :=
  PT.imp (pt_cmpR ho ha hb hm) fun σ H Q h => tv_imp (fun _ _ _ h => bin_imp hr h) h
theorem xt_val {f : PP.X} (h : XE X T Z W own e f) (he : ∀ whole, isTrue e X.env whole = (do let v ← whole; standAt e.pos; holding [v] (truthy v)) := by intro _; rfl) : XTt X T Z W own e (tV f) :=
  PT.imp (pt_val h he) fun σ H Q h => tv_imp (fun _ _ _ h => h) h
/-- is None -/
theorem x_isN {j : Nat} {pos' : Pos} (ha : XE X T Z W own a fa) : XE X T Z W own (.Compare a [.Is] [.Constant .none j pos'] pos) (xUn isNonD fa) :=
  PE.imp (pe_cmp (pc_isN ha)) fun σ H Q ⟨kp, F, ρ, g, c, q⟩ => tP.then c q.bind fun d1 g1 v1 F1 H1 q1 c1 s1 r1 => by
    rw [isN_V r1]
    cases d1 <;> exact q1 _ F1 H1 c1 s1 mk_bl
theorem x_notN {j : Nat} {pos' : Pos} (ha : XE X T Z W own a fa) : XE X T Z W own (.Compare a [.IsNot] [.Constant .none j pos'] pos) (xUn notNonD fa) :=
  PE.imp (pe_cmp (pc_notN ha)) fun σ H Q ⟨kp, F, ρ, g, c, q⟩ => tP.then c q.bind fun d1 g1 v1 F1 H1 q1 c1 s1 r1 => by
    rw [isN_V r1]
    cases d1 <;> exact q1 _ F1 H1 c1 s1 mk_bl
theorem xt_isN {j : Nat} {pos' : Pos} (ha : XE X T Z W own a fa) : XTt X T Z W own (.Compare a [.Is] [.Constant .none j pos'] pos) (tV (xUn isNonD fa)) :=
  PT.imp (pt_cmp (pc_isN ha)) fun σ H Q h => tv_imp (f := xUn isNonD fa) (t := tIsN (tP T Z W own fa)) (fun σ H Q ⟨kp, F, ρ, g, c, q⟩ => tP.then c q.bind fun d1 g1 v1 F1 H1 q1 c1 s1 r1 => by
    rw [isN_V r1]
    cases d1 <;> exact q1 _ F1 H1 c1 s1 mk_bl) h
theorem xt_notN {j : Nat} {pos' : Pos} (ha : XE X T Z W own a fa) : XTt X T Z W own (.Compare a [.IsNot] [.Constant .none j pos'] pos) (tV (xUn notNonD fa)) :=
  PT.imp (pt_cmp (pc_notN ha)) fun σ H Q h => tv_imp (f := xUn notNonD fa) (t := tNotN (tP T Z W own fa)) (fun σ H Q ⟨kp, F, ρ, g, c, q⟩ => tP.then c q.bind fun d1 g1 v1 F1 H1 q1 c1 s1 r1 => by
    rw [isN_V r1]
    cases d1 <;> exact q1 _ F1 H1 c1 s1 mk_bl) h
/-- a op b op' c -/
theorem chain_imp {r r' : R2} {od od' : D → D → Option D} (hr : BinOk T r od) (hr' : BinOk T r' od') {σ : St} {H : Hp} {Q : VK} (h : tP T Z W own (xChain od od' fa fb fc) σ H Q) : tChain r r' (tP T Z W own fa) (tP T Z W own fb) (tP T Z W own fc) σ H Q := by
  obtain ⟨kp, F, ρ, g, c, q⟩ := h
  refine tP.then c q.bind fun d1 g1 v1 F1 H1 q1 c1 s1 r1 => tP.then c1 (q1.bind.up s1 fun _ _ z => z) fun d2 g2 v2 F2 H2 q2 c2 s2 r2 => ?_
  have r1' := Rep.mono s2 _ _ r1
  cases ho : od d1 d2 with
  | none => rw [ho] at q2; exact q2.elim
  | some d =>
    rw [ho] at q2
    cases d with
    | bl k =>
      refine hr F2 H2 v1 v2 d1 d2 _ _ c2.core.sub r1' r2 ho fun v F3 H3 gr rv => ?_
      obtain rfl := rep_bl rv
      have c3 := c2.grow gr
      cases k with
      | true =>
        refine ⟨true, rfl, ?_⟩
        rw [if_pos rfl]
        refine tP.then c3 (q2.bind.up ((s1.trans s2).trans gr.ff) fun _ _ z => z) fun d3 g3 v3 F4 H4 q3 c4 s4 r3 => ?_
        obtain ⟨d, e, q4⟩ := rQ.ofO (H := H) q3
        exact hr' F4 H4 v2 v3 d2 d3 d Q c4.core.sub (Rep.mono (gr.ff.trans s4) _ _ r2) r3 e fun v F' H' gr' rv => q4 v F' H' (c4.grow gr') ((((s1.trans s2).trans gr.ff).trans s4).trans gr'.ff) rv
      | false =>
        refine ⟨false, rfl, ?_⟩
        rw [if_neg Bool.false_ne_true]
        exact q2 _ F3 H3 c3 ((s1.trans s2).trans gr.ff) mk_bl
    | _ => exact q2.elim
theorem x_chain {op op' : CmpOp} {r r' : R2} {od od' : D → D → Option D} (ho : OpR X (compareOp op) r) (ho' : OpR X (compareOp op') r') (hr : BinOk T r od) (hr' : BinOk T r' od') (ha : XE X T Z W own a fa) (hb : XE X T Z W own b fb) (hc : XE X T Z W own c fc)
    (hm : lastMarks [op, op'] [b, c] = false := by with_unfolding_all rfl) : XE X T Z W own (.Compare a [op, op'] [b, c] pos) (xChain od od' fa fb fc) :=
  PE.imp (pe_chain ho ho' ha hb hc hm) fun σ H Q h => chain_imp hr hr' h
theorem xt_chain {op op' : CmpOp} {r r' : R2} {od od' : D → D → Option D} (ho : OpR X (compareOp op) r) (ho' : OpR X (compareOp op') r') (hr : BinOk T r od) (hr' : BinOk T r' od') (ha : XE X T Z W own a fa) (hb : XE X T Z W own b fb) (hc : XE X T Z W own c fc)
    (hm : lastMarks [op, op'] [b, c] = false := by with_unfolding_all rfl) : XTt X T Z W own (.Compare a [op, op'] [b, c] pos) (tV (xChain od od' fa fb fc)) :=
  PT.imp (pt_chain ho ho' ha hb hc hm) fun σ H Q h => tv_imp (fun _ _ _ h => chain_imp hr hr' h) h
end
end PP

set_option Elab.async false
set_option linter.all false
set_option maxRecDepth 100000
set_option maxHeartbeats 4000000
namespace PP
open PySem L2

section
variable {X : Cx} {T : Tb} {Z : Act} {W : WX} {own : List Nat} {e a b c : Expr} {es rest : List Expr} {fa fb fc : PP.X} {ta tb : XT} {pos : Pos}
theorem rep_bl_inv {F : Hp} {v : V} {k : Bool} (h : Rep T F v (.bl k)) : v = .bl k := rep_bl h
/-- and, or of truths as values -/
theorem x_one {op : BoolOp} (h : XE X T Z W own a fa) : XE X T Z W own (.BoolOp op [a] pos) fa := pe_one h
theorem x_and (ha : XE X T Z W own a fa) (hb : XE X T Z W own (.BoolOp .And (b :: rest) pos) fb) : XE X T Z W own (.BoolOp .And (a :: b :: rest) pos) (xAnd fa fb) :=
  PE.imp (pe_and ha hb) fun σ H Q ⟨kp, F, ρ, g, c, q⟩ => tP.then c q.bind fun d1 g1 v1 F1 H1 q1 c1 s1 r1 => by
    cases d1 with
    | bl k =>
      obtain rfl := rep_bl r1
      refine ⟨k, rfl, ?_⟩
      cases k with
      | true =>
        rw [if_pos rfl]
        exact ⟨kp, F1, ρ, g1, c1, q1.up s1 (pD.up s1)⟩
      | false =>
        rw [if_neg Bool.false_ne_true]
        exact q1 _ F1 H1 c1 s1 mk_bl
    | _ => exact q1.elim
theorem x_or (ha : XE X T Z W own a fa) (hb : XE X T Z W own (.BoolOp .Or (b :: rest) pos) fb) : XE X T Z W own (.BoolOp .Or (a :: b :: rest) pos) (xOr fa fb) :=
  PE.imp (pe_or ha hb) fun σ H Q ⟨kp, F, ρ, g, c, q⟩ => tP.then c q.bind fun d1 g1 v1 F1 H1 q1 c1 s1 r1 => by
    cases d1 with
    | bl k =>
      obtain rfl := rep_bl r1
      refine ⟨k, rfl, ?_⟩
      cases k with
      | false =>
        rw [if_neg Bool.false_ne_true]
        exact ⟨kp, F1, ρ, g1, c1, q1.up s1 (pD.up s1)⟩
      | true =>
        rw [if_pos rfl]
        exact q1 _ F1 H1 c1 s1 mk_bl
    | _ => exact q1.elim
theorem x_not (ha : XE X T Z W own a fa) : XE X T Z W own (.UnaryOp .Not a pos) (xNot fa) :=
  PE.imp (pe_not ha) fun σ H Q ⟨kp, F, ρ, g, c, q⟩ => tP.then c q.bind fun d1 g1 v1 F1 H1 q1 c1 s1 r1 => by
    cases d1 with
    | bl k =>
      obtain rfl := rep_bl r1
      exact ⟨k, rfl, q1 _ F1 H1 c1 s1 mk_bl⟩
    | _ => exact q1.elim
/-! tests -/
def XW (X : Cx) (T : Tb) (Z : Act) (W : WX) (own : List Nat) (e : Expr) (f : XT) : Prop := PW X e (tPT T Z W own f)
theorem PW.imp {t t' : TT} (h : PW X e t) (i : ∀ σ H Q, t' σ H Q → t σ H Q) : PW X e t' := ⟨fun wh pins s σ H Q I w => h.run wh pins s σ H Q I (i σ H Q w)⟩
theorem XW.t {f : XT} (h : XW X T Z W own e f) : XTt X T Z W own e f := L2.PW.pt h
theorem tPT.then {f : XT} {kp F H : Hp} {σ : St} {ρ : Env} {g : G} {post : Bool → G → Prop} {Q : Bool → Hp → Prop} (c : Rel T Z own kp F H σ ρ g) (h : rQ T Z W kp F σ ρ post (f ρ g))
    (n : ∀ b g1 F1 H1, post b g1 → Rel T Z own kp F1 H1 σ ρ g1 → Sub F F1 → Q b H1) : tPT T Z W own f σ H Q :=
  ⟨kp, F, ρ, g, c, h.imp fun d g1 q F1 H1 c1 s1 => n d g1 F1 H1 q c1 s1⟩
theorem xw_and1 (ha : XTt X T Z W own a ta) : XW X T Z W own (.BoolOp .And [a] pos) ta := pw_and1 ha
theorem xw_or1 (ha : XTt X T Z W own a ta) : XW X T Z W own (.BoolOp .Or [a] pos) ta := pw_or1 ha
theorem xw_and (ha : XTt X T Z W own a ta) (hb : XW X T Z W own (.BoolOp .And (b :: rest) pos) tb) : XW X T Z W own (.BoolOp .And (a :: b :: rest) pos) (PP.tAnd ta tb) :=
  PW.imp (pw_and ha hb) fun σ H Q ⟨kp, F, ρ, g, c, q⟩ => tPT.then c q.bind fun k g1 F1 H1 q1 c1 s1 => by
    cases k with
    | true =>
      rw [if_pos rfl]
      exact ⟨kp, F1, ρ, g1, c1, q1.up s1 (pB.up s1)⟩
    | false =>
      rw [if_neg Bool.false_ne_true]
      exact q1 F1 H1 c1 s1
theorem xw_or (ha : XTt X T Z W own a ta) (hb : XW X T Z W own (.BoolOp .Or (b :: rest) pos) tb) : XW X T Z W own (.BoolOp .Or (a :: b :: rest) pos) (PP.tOr ta tb) :=
  PW.imp (pw_or ha hb) fun σ H Q ⟨kp, F, ρ, g, c, q⟩ => tPT.then c q.bind fun k g1 F1 H1 q1 c1 s1 => by
    cases k with
    | false =>
      rw [if_neg Bool.false_ne_true]
      exact ⟨kp, F1, ρ, g1, c1, q1.up s1 (pB.up s1)⟩
    | true =>
      rw [if_pos rfl]
      exact q1 F1 H1 c1 s1
theorem xt_not (ha : XTt X T Z W own a ta) : XTt X T Z W own (.UnaryOp .Not a pos) (PP.tNot ta) :=
  PT.imp (pt_not ha) fun σ H Q ⟨kp, F, ρ, g, c, q⟩ => tPT.then c q.bind fun k g1 F1 H1 q1 c1 s1 => q1 F1 H1 c1 s1
theorem x_if {t : Expr} (ht : XTt X T Z W own t ta) (ha : XE X T Z W own a fa) (hb : XE X T Z W own b fb) : XE X T Z W own (.IfExp t a b pos) (xIf ta fa fb) :=
  PE.imp (pe_ifExp ht ha hb) fun σ H Q ⟨kp, F, ρ, g, c, q⟩ => tPT.then c q.bind fun k g1 F1 H1 q1 c1 s1 => by
    cases k with
    | true =>
      rw [if_pos rfl]
      exact ⟨kp, F1, ρ, g1, c1, q1.up s1 (pD.up s1)⟩
    | false =>
      rw [if_neg Bool.false_ne_true]
      exact ⟨kp, F1, ρ, g1, c1, q1.up s1 (pD.up s1)⟩
/-! constants -/
theorem x_int {i : Int} {j : Nat} : XE X T Z W own (.Constant (.int i) j pos) (xC (.int i)) := x_C pe_int fun _ => mk_int
theorem x_bl {i : Bool} {j : Nat} : XE X T Z W own (.Constant (.bool i) j pos) (xC (.bl i)) := x_C pe_bl fun _ => mk_bl
theorem x_non {j : Nat} : XE X T Z W own (.Constant .none j pos) (xC .non) := x_C pe_non fun _ => mk_non
def strOkL (s : List Nat) : Bool := decide (s.length ≤ 1000) && s.all fun c => decide (c < 1114112)
theorem x_str {x : Str} {j : Nat} (s : List Nat) (h : x = ⟨s.toArray⟩ := by decide +kernel) (hs : strOkL s = true := by decide +kernel) : XE X T Z W own (.Constant (.str x) j pos) (xC (.str s)) := by
  subst h
  simp only [strOkL, Bool.and_eq_true, decide_eq_true_eq, List.all_eq_true] at hs
  exact x_C pe_str fun _ => mk_str (by simp only [LIM]; omega) hs.2
/-- a global text -/
theorem x_gstr {x : Str} {u : Value} (s : List Nat) (hg : Gl X x) (hm : X.mg x = some u) (hu : ∃ t, u = Value.str ⟨s.toArray⟩ t) (hs : strOkL s = true := by decide +kernel) (hd : (x == ("__debug__" : Str)) = false := by decide) : XE X T Z W own (.Name x pos) (xC (.str s)) := by
  simp only [strOkL, Bool.and_eq_true, decide_eq_true_eq, List.all_eq_true] at hs
  exact x_C (pe_glob (v := .str ⟨s.toArray⟩) hg hm hu hd) fun _ => mk_str (by simp only [LIM]; omega) hs.2
theorem x_gint {x : Str} {u : Value} (i : Int) (hg : Gl X x) (hm : X.mg x = some u) (hu : ∃ t, u = Value.int i t) (hd : (x == ("__debug__" : Str)) = false := by decide) : XE X T Z W own (.Name x pos) (xC (.int i)) :=
  x_C (pe_glob (v := .int i) hg hm hu hd) fun _ => mk_int
/-- a def as a value -/
theorem x_gfn {x : Str} {f : Addr} (n : Nat) (hT : T.fnA n = some f) (hg : Gl X x) (hm : X.mg x = some (.ref f)) (hd : (x == ("__debug__" : Str)) = false := by decide) : XE X T Z W own (.Name x pos) (xC (.fn n)) :=
  x_C (pe_glob (v := .ref f) hg hm rfl hd) fun _ => by unfold Rep; exact ⟨f, rfl, hT⟩
/-! arguments, displays -/
theorem tPA.then {f : XA} {kp F H : Hp} {σ : St} {ρ : Env} {g : G} {post : List D → G → Prop} {Q : List V → Hp → Prop} (c : Rel T Z own kp F H σ ρ g) (h : rQ T Z W kp F σ ρ post (f ρ g))
    (n : ∀ ds g1 vs F1 H1, post ds g1 → Rel T Z own kp F1 H1 σ ρ g1 → Sub F F1 → RepL T F1 vs ds → Q vs H1) : tPA T Z W own f σ H Q :=
  ⟨kp, F, ρ, g, c, h.imp fun d g1 q vs F1 H1 c1 s1 r1 => n d g1 vs F1 H1 q c1 s1 r1⟩
theorem a_nil : XAs X T Z W own [] aNil := PA.imp pa_nil fun σ H Q ⟨kp, F, ρ, g, c, q⟩ => q [] F H c (.refl _) .nil
theorem a_cons {f : XA} (ha : XE X T Z W own e fa) (hr : XAs X T Z W own es f) (hs : starEach (e :: es) X.env = (false, eval e X.env) :: starEach es X.env := by rfl) : XAs X T Z W own (e :: es) (aCons fa f) :=
  PA.imp (pa_cons ha hr hs) fun σ H Q ⟨kp, F, ρ, g, c, q⟩ => tP.then c q.bind fun d1 g1 v1 F1 H1 q1 c1 s1 r1 => tPA.then c1 (q1.bind.up s1 fun _ _ z => z) fun ds g2 vs F2 H2 q2 c2 s2 r2 =>
    q2 (v1 :: vs) F2 H2 c2 (s1.trans s2) (.cons (Rep.mono s2 _ _ r1) r2)
theorem x_tup {f : XA} {k : Nat} (h : XAs X T Z W own es f) : XE X T Z W own (.Tuple es k pos) (xTup f) :=
  PE.imp (PPT.pe_tupF h) fun σ H Q ⟨kp, F, ρ, g, c, q⟩ => tPA.then c q.bind fun ds g1 vs F1 H1 q1 c1 s1 r1 => by
    cases hl : decide (ds.length ≤ LIM) with
    | false => simp only [hl] at q1; exact q1.elim
    | true =>
      simp only [hl] at q1
      have hl' : vs.length ≤ LIM := by rw [r1.length]; exact of_decide_eq_true hl
      refine ⟨by rw [← LIM_eq]; exact hl', fun p o np o1 o2 => ?_⟩
      obtain ⟨gr, rr⟩ := new_tup (T := T) c1.core.sub np o1 o2 hl' r1
      exact q1 _ _ _ (c1.grow gr) (s1.trans gr.ff) rr
/-! a new list -/
theorem tPF.of {f : PP.X} {kp F H : Hp} {σ : St} {ρ : Env} {g : G} {Q : VK} {ds : List D} {vs : List V} (c : Rel T Z own kp F H σ ρ g) (q : pF T Z own kp F σ ρ Q (.lst ds) g) (hl : vs.length ≤ LIM) (r : RepL T F vs ds) :
    ∀ p, H p = none → Q (.ref p) (upd H p (.lst vs)) := fun p np => by
  have gr : Grow F H F (upd H p (.lst vs)) := ⟨.refl _, (Sub.refl H).upd np, fun a o e => by rw [upd_ne (ne_of_none (c.core.sub a o e) np)]; exact c.core.sub a o e, fun a o e => .inl e⟩
  refine q p F _ (c.grow gr) (.refl _) ⟨c.core.sub.none np, c.core.kph.none np, c.core.atNone np, c.core.ne_gen np, _, upd_same, vs, rfl, hl, r⟩ fun j hj e => ?_
  obtain ⟨p', ds', h1, h2, w, h4⟩ := c.own_ j hj
  rw [h1] at e
  cases e
  obtain ⟨us, h5, _⟩ := w.at_
  rw [np] at h5; cases h5
theorem f_lst {f : XA} (h : XAs X T Z W own es f) : XF X T Z W own (.List es pos) (xLst f) :=
  PE.imp (pe_lst h) fun σ H Q ⟨kp, F, ρ, g, c, q⟩ => tPA.then c q.bind fun ds g1 vs F1 H1 q1 c1 s1 r1 => by
    cases hl : decide (ds.length ≤ LIM) with
    | false => simp only [hl] at q1; exact q1.elim
    | true =>
      simp only [hl] at q1
      have hl' : vs.length ≤ LIM := by rw [r1.length]; exact of_decide_eq_true hl
      exact ⟨by rw [← LIM_eq]; exact hl', tPF.of (f := xLst f) c1 (pF.up s1 _ _ q1) hl' r1⟩
/-- a list of one's own, handed on for good -/
theorem XF.toE {f : PP.X} (h : XF X T Z W own e f) : XE X T Z W own e f :=
  PE.imp h fun σ H Q ⟨kp, F, ρ, g, c, q⟩ => ⟨kp, F, ρ, g, c, by
    cases hf : f ρ g with
    | ok d g' =>
      rw [hf] at q
      refine fun p F' H' c' s' w n => ?_
      obtain ⟨o, e1, e2⟩ := w.at_
      have sF : Sub F' (upd F' p o) := (Sub.refl F').upd w.f
      refine q _ (upd F' p o) H' ⟨c'.core.freeze e1 w.k w.h0 w.g, c'.len, fun i hi => ?_, fun i d hi he => ?_⟩ (s'.trans sF) ((e2.mono sF).rep upd_same)
      · obtain ⟨q', es', h1, h2, w', h4⟩ := c'.own_ i hi
        have hqp : q' ≠ p := fun z => n i hi (by rw [h1, z])
        refine ⟨q', es', h1, h2, ⟨by rw [upd_ne hqp]; exact w'.f, w'.k, w'.h0, w'.g, ?_⟩, h4⟩
        obtain ⟨u, z1, z2⟩ := w'.at_
        exact ⟨u, z1, z2.mono sF⟩
      · obtain ⟨v, z1, z2⟩ := c'.shr i d hi he
        exact ⟨v, z1, Rep.mono sF _ _ z2⟩
    | ex e g' => rw [hf] at q; exact q
    | bad => rw [hf] at q; exact q⟩
theorem isLst_xLst {f : XA} : ∀ ρ g d g', xLst f ρ g = .ok d g' → ∃ l, d = .lst l := fun ρ g d g' h => by
  unfold xLst at h
  cases hf : f ρ g with
  | ok ds g1 =>
    rw [hf] at h
    simp only [R.bind_ok] at h
    split at h
    · cases h; exact ⟨_, rfl⟩
    · cases h
  | ex e g1 => rw [hf] at h; cases h
  | bad => rw [hf] at h; cases h
theorem x_lst {f : XA} (h : XAs X T Z W own es f) : XE X T Z W own (.List es pos) (xLst f) := XF.toE (f_lst h)
/-! subscripts -/
theorem x_ix (hu : X.A.units + 1 < cLine) (ha : XE X T Z W own a fa) (hb : XE X T Z W own b fb) (hs : PlainIx b := by intro _ _; rfl) (hK : X.K = T.K := by rfl) : XE X T Z W own (.Subscript a b pos) (xBin ixD fa fb) := by
  have h1 : IxR X (rIxA T.K) := by rw [← hK]; exact ix_all hu
  exact PE.imp (pe_ix h1 ha hb hs) fun σ H Q h => bin_imp bin_ix h
/-- the parts of a slice -/
def partX (ρ : Env) (o : Option PP.X) (g : G) (k : Option Int → G → R D) : R D := match o with
    | none => k none g
    | some h => (h ρ g).bind fun b g' => match b with
      | .int i => k (some i) g'
      | _ => .bad
theorem xSlice_eq (f : PP.X) (lo hi : Option PP.X) (ρ : Env) (g : G) : xSlice f lo hi ρ g = (f ρ g).bind fun d g1 => partX ρ lo g1 fun l g2 => partX ρ hi g2 fun h g3 => PP.ofO (sliceD d l h) g3 := rfl
def XO (X : Cx) (T : Tb) (Z : Act) (W : WX) (own : List Nat) (e : Option Expr) (f : Option PP.X) : Prop :=
  PO X e (match f with | none => tNoPart | some f => tPart (tP T Z W own f))
theorem o_none : XO X T Z W own none none := po_none
theorem o_some {f : PP.X} (h : XE X T Z W own e f) : XO X T Z W own (some e) (some f) := po_some h
theorem part_imp {o : Option PP.X} {kp F H : Hp} {σ : St} {ρ : Env} {g : G} {k : Option Int → G → R D} {post : D → G → Prop} {Q : Option Int → Hp → Prop} (c : Rel T Z own kp F H σ ρ g) (h : rQ T Z W kp F σ ρ post (partX ρ o g k))
    (n : ∀ l g1 F1 H1, rQ T Z W kp F σ ρ post (k l g1) → Rel T Z own kp F1 H1 σ ρ g1 → Sub F F1 → Q l H1) : (match o with | none => tNoPart | some f => tPart (tP T Z W own f)) σ H Q := by
  cases o with
  | none => exact n none g F H h c (.refl _)
  | some f =>
    refine tP.then c (rQ.bind (k := fun b g' => match b with
      | .int i => k (some i) g'
      | _ => .bad) h) fun d1 g1 v1 F1 H1 q1 c1 s1 r1 => ?_
    cases d1 with
    | int i =>
      obtain rfl := rep_int r1
      exact ⟨i, rfl, n (some i) g1 F1 H1 q1 c1 s1⟩
    | _ => exact q1.elim
theorem x_slice {lo hi : Option Expr} {fl fh : Option PP.X} {p2 : Pos} (ha : XE X T Z W own a fa) (hl : XO X T Z W own lo fl) (hh : XO X T Z W own hi fh) (hK : X.K = T.K := by rfl) : XE X T Z W own (.Subscript a (.Slice lo hi none p2) pos) (xSlice fa fl fh) := by
  have h1 : SlR X (rSlQ T.K) := by rw [← hK]; exact sl_any
  refine PE.imp (pe_slice h1 ha hl hh) fun σ H Q ⟨kp, F, ρ, g, c, q⟩ => ?_
  rw [xSlice_eq] at q
  refine tP.then c q.bind fun d1 g1 v1 F1 H1 q1 c1 s1 r1 => ?_
  refine part_imp (W := W) (post := pD T Z own kp F σ ρ Q) c1 (q1.up s1 fun _ _ z => z) fun l g2 F2 H2 q2 c2 s2 => ?_
  refine part_imp (W := W) (post := pD T Z own kp F σ ρ Q) c2 (q2.up s2 fun _ _ z => z) fun h g3 F3 H3 q3 c3 s3 => ?_
  obtain ⟨d, e, q4⟩ := rQ.ofO (H := H) q3
  exact sl_ok c3.core.sub (Rep.mono (s2.trans s3) _ _ r1) e fun v F' H' gr rv => q4 v F' H' (c3.grow gr) (((s1.trans s2).trans s3).trans gr.ff) rv
end
end PP

set_option Elab.async false
set_option linter.all false
set_option maxRecDepth 100000
set_option maxHeartbeats 4000000
namespace PP
open PySem L2

/-! ### built-ins by name -/
section
variable {X : Cx} {T : Tb} {Z : Act} {W : WX} {own : List Nat} {e a b c : Expr} {es rest : List Expr} {fa fb fc : PP.X} {f : XA} {p pos : Pos} {x : Str}
theorem cb_imp {r : List V → Hp → VK → Prop} {od : List D → Option D} (hr : CallOk T r od) {σ : St} {H : Hp} {Q : VK} (h : tP T Z W own (xCB od f) σ H Q) : tCB r (tPA T Z W own f) σ H Q := by
  obtain ⟨kp, F, ρ, g, c, q⟩ := h
  exact tPA.then c q.bind fun ds g1 vs F1 H1 q1 c1 s1 r1 => by
    obtain ⟨d, e, q3⟩ := rQ.ofO (H := H) q1
    exact hr F1 H1 vs ds d Q c1.core.sub r1 e fun v F' H' gr rv => q3 v F' H' (c1.grow gr) (s1.trans gr.ff) rv
theorem x_cb {id : String} {r : List V → Hp → VK → Prop} {od : List D → Option D} (hc : CallR X (.builtin id) r) (hr : CallOk T r od) (hg : Gl X x) (hm : X.mg x = none) (hv : bootBuiltins x = some (.builtin id)) (ha : XAs X T Z W own (e :: es) f)
    (hn : x ≠ "__name__" := by decide) (hdb : (x == ("__debug__" : Str)) = false := by decide) (he : starEach (e :: es) X.env = (false, eval e X.env) :: starEach es X.env := by rfl) (hpl : (backTo pos (starEach es X.env)).any (·.1) = false := by rfl) :
    XE X T Z W own (.Call (.Name x p) (e :: es) [] pos) (xCB od f) := PE.imp (pe_callB hc hg hm hv ha hn hdb he hpl) fun σ H Q h => cb_imp hr h
theorem x_ct {id : String} {r : List V → Hp → VK → Prop} {od : List D → Option D} (hc : CallR X (.type id) r) (hr : CallOk T r od) (hg : Gl X x) (hm : X.mg x = none) (hv : bootBuiltins x = some (.type id)) (ha : XAs X T Z W own (e :: es) f)
    (hn : x ≠ "__name__" := by decide) (hdb : (x == ("__debug__" : Str)) = false := by decide) (he : starEach (e :: es) X.env = (false, eval e X.env) :: starEach es X.env := by rfl) (hpl : (backTo pos (starEach es X.env)).any (·.1) = false := by rfl) :
    XE X T Z W own (.Call (.Name x p) (e :: es) [] pos) (xCB od f) := PE.imp (pe_callTy hc hg hm hv ha hn hdb he hpl) fun σ H Q h => cb_imp hr h
/-- isinstance(e, T), T a built-in kind -/
theorem x_isi {y : Str} {py : Pos} (kd : Kd) (hg : Gl X x) (hm : X.mg x = none) (hv : bootBuiltins x = some (.builtin "isinstance")) (hg2 : Gl X y) (hm2 : X.mg y = none) (hv2 : bootBuiltins y = some (.type (kdT kd))) (ha : XE X T Z W own a fa) (hK : X.K = T.K := by rfl)
    (hn : x ≠ "__name__" := by decide) (hdb : (x == ("__debug__" : Str)) = false := by decide) (hn2 : y ≠ "__name__" := by decide) (hdb2 : (y == ("__debug__" : Str)) = false := by decide)
    (he : starEach [a, .Name y py] X.env = (false, eval a X.env) :: starEach [.Name y py] X.env := by rfl) (he2 : starEach [.Name y py] X.env = (false, eval (.Name y py) X.env) :: starEach [] X.env := by rfl) (hpl : (backTo pos (starEach [.Name y py] X.env)).any (·.1) = false := by rfl) :
    XE X T Z W own (.Call (.Name x p) [a, .Name y py] [] pos) (xUn (isKd kd) fa) := by
  have h1 : CallR X (.builtin "isinstance") (rIsi T.K) := by rw [← hK]; exact call_isi
  exact PE.imp (pe_callB h1 hg hm hv (pa_cons ha (pa_cons (pe_bltn (v := .ty (kdT kd)) hg2 hm2 hv2 rfl hn2 hdb2) pa_nil he2) he) hn hdb he hpl) fun σ H Q h => un_imp (un_kd kd) h
/-- list(..): a list of one's own -/
theorem f_list (hg : Gl X x) (hm : X.mg x = none) (hv : bootBuiltins x = some (.type "list")) (ha : XAs X T Z W own [e] f) (hK : X.K = T.K := by rfl)
    (hn : x ≠ "__name__" := by decide) (hdb : (x == ("__debug__" : Str)) = false := by decide) (he : starEach [e] X.env = (false, eval e X.env) :: starEach [] X.env := by rfl) (hpl : (backTo pos (starEach [] X.env)).any (·.1) = false := by rfl) :
    XF X T Z W own (.Call (.Name x p) [e] [] pos) (xCB listD f) := by
  have h1 : CallR X (.type "list") (rListA T.K) := by rw [← hK]; exact call_list_of
  refine PE.imp (pe_callTy h1 hg hm hv ha hn hdb he hpl) fun σ H Q ⟨kp, F, ρ, g, c, q⟩ => tPA.then c q.bind fun ds g1 vs F1 H1 q1 c1 s1 r1 => ?_
  cases hd : listD ds with
  | none => rw [hd] at q1; exact q1.elim
  | some d =>
    rw [hd] at q1
    unfold listD at hd
    split at hd
    · cases hd
      obtain ⟨y, rfl, ry⟩ := call1 r1
      obtain ⟨a, us, rfl, e1, l1, r2⟩ := rep_lst ry
      exact ⟨a, us, rfl, .inl (SqL.of (c1.core.sub _ _ e1)), tPF.of (f := xCB listD f) c1 (pF.up s1 _ _ q1) l1 r2⟩
    · cases hd
      obtain ⟨y, rfl, ry⟩ := call1 r1
      obtain ⟨a, us, rfl, e1, l1, r2⟩ := rep_tup ry
      exact ⟨a, us, rfl, .inr ((e1.mono c1.core.sub).sq), tPF.of (f := xCB listD f) c1 (pF.up s1 _ _ q1) l1 r2⟩
    · cases hd
end
/-! ### defs -/
/-- behind a call -/
structure Post (F0 H : Hp) (g g' : G) (F' H' : Hp) : Prop where
  ff : Sub F0 F'
  fh : Sub F' H'
  new : ∀ a o, F' a = some o → F0 a = some o ∨ H a = none
  keep : ∀ a o, H a = some o → (g.on = true → a ≠ g.at_) → H' a = some o
  on : g'.on = g.on
  at_ : g'.at_ = g.at_
  gen : g.on = true → H' g.at_ = some (.lst [.int g'.s, .int g'.t]) ∧ F' g.at_ = none ∧ GOk g'
/-- what a def promises: f on data -/
def spF (T : Tb) (f : FN) (n : Nat) : Sp := fun vs H Q E => ∃ F0 ds g, vs.length = n ∧ Sub F0 H ∧ (g.on = true → H g.at_ = some (.lst [.int g.s, .int g.t]) ∧ F0 g.at_ = none ∧ GOk g) ∧ RepL T F0 vs ds ∧
  match f ds g with
  | .ok d g' => ∀ v F' H', Post F0 H g g' F' H' → Rep T F' v d → Q v H'
  | .ex e g' => ∀ cls dd F' H', Post F0 H g g' F' H' → ExRep T F' cls dd e → E cls dd H'
  | .bad => False
section
variable {T : Tb} {Z : Act} {own : List Nat} {kp F H F' H' : Hp} {σ : St} {ρ : Env} {g g' : G}
theorem Core.post (c : Core Z kp F H g) (p : Post F H g g' F' H') : Core Z kp F' H' g' where
  sub := p.fh
  kph := fun a o e => p.keep a o (c.kph a o e) fun q z => by
    have := (c.gen (by rw [← c.on]; exact q)).2.2.1
    rw [← c.at_, ← z, e] at this; cases this
  kpf := fun a o e => by
    cases q : F' a with
    | none => rfl
    | some u =>
      rcases p.new a u q with z | z
      · rw [c.kpf a o e] at z; cases z
      · rw [c.kph a o e] at z; cases z
  base := fun a o e n => p.keep a o (c.base a o e n) fun q => by rw [c.at_]; exact n (by rw [← c.on]; exact q)
  new := fun a o e => by
    rcases p.new a o e with z | z
    · exact c.new a o z
    · exact .inr (c.atNone z)
  f0 := c.f0.trans p.ff
  fh0 := c.fh0
  on := p.on.trans c.on
  at_ := p.at_.trans c.at_
  gen := fun o => by
    have o' : g.on = true := by rw [c.on]; exact o
    obtain ⟨h1, h2, h3⟩ := p.gen o'
    rw [c.at_] at h1 h2
    exact ⟨h1, h2, (c.gen o).2.2.1, h3⟩
theorem Rel.post (c : Rel T Z own kp F H σ ρ g) (p : Post F H g g' F' H') : Rel T Z own kp F' H' σ ρ g' where
  core := c.core.post p
  len := c.len
  own_ := fun i hi => by
    obtain ⟨q, ds, h1, h2, w, h4⟩ := c.own_ i hi
    obtain ⟨ob, e1, e2⟩ := w.at_
    refine ⟨q, ds, h1, h2, ⟨?_, w.k, w.h0, w.g, ob, p.keep _ _ e1 fun o => by rw [c.core.at_]; exact w.g (by rw [← c.core.on]; exact o), e2.mono p.ff⟩, h4⟩
    cases z : F' q with
    | none => rfl
    | some u =>
      rcases p.new _ u z with y | y
      · rw [w.f] at y; cases y
      · rw [e1] at y; cases y
  shr := fun i d hi e => by
    obtain ⟨v, h1, h2⟩ := c.shr i d hi e
    exact ⟨v, h1, Rep.mono p.ff _ _ h2⟩
theorem Rel.freezeAll (c : Rel T Z own kp F H σ ρ g) : ∃ F', Sub F F' ∧ Rel T Z [] kp F' H σ ρ g := c.freeze fun _ h => nomatch h
end
section
variable {X : Cx} {T : Tb} {Z : Act} {W : WX} {own : List Nat} {e : Expr} {es : List Expr} {fa : PP.X} {f : XA} {p pos : Pos} {x : Str} {k n : Nat} {fd : FuncData} {ps : List Str} {fA : Addr} {Fn : FN}
/-- from a call's reading -/
theorem call_sp {kp F H : Hp} {σ : St} {ρ : Env} {g : G} {Q : VK} {ds : List D} {vs : List V} (c : Rel T Z own kp F H σ ρ g) (r : RepL T F vs ds) (hl : vs.length = n) (h : rQ T Z W kp F σ ρ (pD T Z own kp F σ ρ Q) (Fn ds g)) :
    spF T Fn n vs H Q (WE W σ) := by
  refine ⟨F, ds, g, hl, c.core.sub, fun o => ?_, r, ?_⟩
  · have o' : Z.on = true := by rw [← c.core.on]; exact o
    obtain ⟨h1, h2, _, h4⟩ := c.core.gen o'
    rw [c.core.at_]
    exact ⟨h1, h2, h4⟩
  · cases hf : Fn ds g with
    | ok d g' =>
      rw [hf] at h
      exact fun v F' H' p rv => h v F' H' (c.post p) p.ff rv
    | ex e g' =>
      rw [hf] at h
      intro cls dd F' H' p re
      obtain ⟨F2, s2, c2⟩ := (c.post p).freezeAll
      exact h cls dd σ F2 H' c2 (p.ff.trans s2) (re.mono s2)
    | bad => rw [hf] at h; exact h
theorem x_call (F : FnOk X.prog X.w X.K X.mg X.base (L2.CX X.prog X.w) k fA fd ps (spF T Fn n)) (hl : es.length + 1 = n) (hr : Room k X.A) (hg : Gl X x) (hm : X.mg x = some (.ref fA)) (hk : PySem.W.keepIn X.K (.ref fA) = true) (hb : Binds X.K fd ps []) (tk : Takes X W)
    (ha : XAs X T Z W own (e :: es) f) (hlen : ∀ ρ g ds g', f ρ g = .ok ds g' → ds.length = n) (hdb : (x == ("__debug__" : Str)) = false := by decide) (he : starEach (e :: es) X.env = (false, eval e X.env) :: starEach es X.env := by rfl) (hpl : (backTo pos (starEach es X.env)).any (·.1) = false := by rfl) :
    XE X T Z W own (.Call (.Name x p) (e :: es) [] pos) (xCall Fn f) :=
  PE.imp (pe_callS F hr hg hm hk hb (fun σ => passAt tk σ) ha hdb he hpl) fun σ H Q ⟨kp, F, ρ, g, c, q⟩ => by
    refine ⟨kp, F, ρ, g, c, ?_⟩
    have q' := rQ.bind q
    cases hf : f ρ g with
    | ok ds g1 =>
      rw [hf] at q'
      intro vs F1 H1 c1 s1 r1
      exact call_sp c1 r1 (by rw [r1.length]; exact hlen _ _ _ _ hf) (rQ.up s1 q' (pD.up s1))
    | ex e g1 => rw [hf] at q'; exact q'
    | bad => rw [hf] at q'; exact q'
/-- f(..), f one of the defs of a table, in the slot i -/
structure Tbl (P : Program) (w : World) (K : PySem.W.Frag) (mg : Str → Option Value) (base : Heap) (T : Tb) (k : Nat) (m : Nat) (tbl : Nat → FN) : Prop where
  ex : ∀ n fA, T.fnA n = some fA → (∃ (fd : FuncData) (ps : List Str), FnOk P w K mg base (L2.CX P w) k fA fd ps (spF T (tbl n) m) ∧ PySem.W.keepIn K (.ref fA) = true ∧ Binds K fd ps []) ∨ ∀ ds g, ds.length = m → tbl n ds g = .bad
theorem x_callV {i : Nat} {tbl : Nat → FN} (A : Tbl X.prog X.w X.K X.mg X.base T k n tbl) (hr : Room k X.A) (hN : X.N[i]? = some x) (hv : Vis X.env.scope x) (hi : i ∉ own) (tk : Takes X W) (ha : XAs X T Z W own (e :: es) f) (hlen : ∀ ρ g ds g', f ρ g = .ok ds g' → ds.length = n) (hne : ∀ ρ g ex g', f ρ g ≠ .ex ex g')
    (hdb : (x == ("__debug__" : Str)) = false := by decide) (hcd : (x == ("__classdict__" : Str)) = false := by decide) (he : starEach (e :: es) X.env = (false, eval e X.env) :: starEach es X.env := by rfl) (hpl : (backTo pos (starEach es X.env)).any (·.1) = false := by rfl) :
    XE X T Z W own (.Call (.Name x p) (e :: es) [] pos) (xCallV tbl (xVar i) f) := by
  refine ⟨fun pins s σ H Q I h => ?_⟩
  obtain ⟨kp, F, ρ, g, c, q⟩ := h
  unfold xCallV xVar at q
  cases hv' : ρ[i]? with
  | none => rw [hv'] at q; exact q.elim
  | some o =>
    rw [hv'] at q
    cases o with
    | none => exact q.elim
    | some d =>
      cases d with
      | fn n' =>
        simp only [R.bind_ok] at q
        obtain ⟨v, h1, h2⟩ := c.shr i _ hi hv'
        obtain ⟨fA, rfl, hT⟩ := rep_fn h2
        rcases A.ex n' fA hT with ⟨fd, ps, F', hk, hb⟩ | nope
        · refine wpAny_Call_Name_kw (thn ((pe_var (pos := p) hN hv hdb hcd).run pins s σ H (fun v H1 => v = .ref fA ∧ H1 = H) I ⟨.ref fA, h1, rfl, rfl⟩) fun u s1 ⟨v, H1, I1, r1, q1⟩ => ?_)
          obtain ⟨rfl, rfl⟩ := q1
          cases r1
          have tr : tPA T Z W own f σ H1 fun vs H2 => spF T (tbl n') n vs H2 Q (WE W σ) := by
            refine ⟨kp, F, ρ, g, c, ?_⟩
            have q' := rQ.bind q
            cases hf : f ρ g with
            | ok ds g1 =>
              rw [hf] at q'
              intro vs F1 H1 c1 s1 r1
              exact call_sp c1 r1 (by rw [r1.length]; exact hlen _ _ _ _ hf) (rQ.up s1 q' (pD.up s1))
            | ex e g1 => rw [hf] at q'; exact q'
            | bad => rw [hf] at q'; exact q'
          refine PySem.W.callWith_K (h₀ := X.base) I.ok.mod.kin hk (thn (ha.run pos pins s1 σ H1 _ I1 tr) fun us s2 ⟨vs, H2, I2, r, q2⟩ => ⟨I2.kIn, ?_⟩) he hpl
          exact run_fnS F' hr hb (passAt tk σ) I2 r q2
        · exfalso
          have q' := rQ.bind q
          cases hf : f ρ g with
          | ok ds g1 =>
            rw [hf] at q'
            have := nope ds g1 (hlen _ _ _ _ hf)
            simp only [rQ, this] at q'
          | ex e g1 => exact hne _ _ _ _ hf
          | bad => rw [hf] at q'; exact q'
      | _ => exact q.elim
end
end PP

set_option Elab.async false
set_option linter.all false
set_option maxRecDepth 100000
set_option maxHeartbeats 4000000
namespace PP
open PySem L2

/-! ### what is walked -/
/-- J walks ds, known over F -/
def Iters (T : Tb) (F : Hp) (J : It) (ds : List D) : Prop := ∃ (G : Hp → Prop) (Y : Nat → Hp → V → Hp → Prop), Walk J ds.length G Y ∧ (∀ H, Sub F H → G H) ∧
  ∀ i H1 x H2 d, ds[i]? = some d → Sub F H1 → Y i H1 x H2 → ∃ F2, Grow F H1 F2 H2 ∧ Rep T F2 x d
/-- over a known part that has grown -/
theorem Iters.up {T : Tb} {F F' : Hp} {J : It} {ds : List D} (h : Iters T F J ds) (s : Sub F F') : ∃ (G : Hp → Prop) (Y : Nat → Hp → V → Hp → Prop), Walk J ds.length G Y ∧ (∀ H, Sub F' H → G H) ∧
  ∀ i H1 x H2 d F1, ds[i]? = some d → Sub F' F1 → Sub F1 H1 → Y i H1 x H2 → ∃ F2, Grow F1 H1 F2 H2 ∧ Rep T F2 x d := by
  obtain ⟨G, Y, w, hg, hy⟩ := h
  refine ⟨G, Y, w, fun H q => hg H (s.trans q), fun i H1 x H2 d F1 e s1 s2 y => ?_⟩
  obtain ⟨F2, gr, r⟩ := hy i H1 x H2 d e ((s.trans s1).trans s2) y
  refine ⟨fun a => match F1 a with | some o => some o | none => F2 a, ⟨fun a o e => by simp only [e], gr.hh, fun a o e => ?_, fun a o e => ?_⟩, Rep.mono (fun a o e => ?_) _ _ r⟩
  · cases q : F1 a with
    | some u => simp only [q] at e; cases e; exact gr.hh _ _ (s2 _ _ q)
    | none => simp only [q] at e; exact gr.fh _ _ e
  · cases q : F1 a with
    | some u => simp only [q] at e; exact .inl e
    | none =>
      simp only [q] at e
      rcases gr.new a o e with z | z
      · have := s1 _ _ (s _ _ z); rw [q] at this; cases this
      · exact .inr z
  · cases q : F1 a with
    | some u =>
      simp only
      rcases gr.new a o e with z | z
      · have := s1 _ _ (s _ _ z); rw [q] at this; exact this
      · have := s2 _ _ q; rw [z] at this; cases this
    | none => simp only; exact e
def tPI (T : Tb) (Z : Act) (W : WX) (own : List Nat) (f : XA) : TI := fun σ H R => ∃ kp F ρ g, Rel T Z own kp F H σ ρ g ∧ rQ T Z W kp F σ ρ (fun ds g' => ∀ J F' H', Rel T Z own kp F' H' σ ρ g' → Sub F F' → Iters T F' J ds → ds.length ≤ LIM → R J H') (f ρ g)
def XI (X : Cx) (T : Tb) (Z : Act) (W : WX) (own : List Nat) (tg e : Expr) (f : XA) : Prop := PI X tg e (tPI T Z W own f)
theorem PI.imp {X : Cx} {tg e : Expr} {t t' : TI} (h : PI X tg e t) (i : ∀ σ H Q, t' σ H Q → t σ H Q) : PI X tg e t' := ⟨fun pins s σ H Q I w => h.run pins s σ H Q I (i σ H Q w)⟩
theorem PI.or {X : Cx} {tg e : Expr} {t t' : TI} (h : PI X tg e t) (h' : PI X tg e t') : PI X tg e (fun σ H R => t σ H R ∨ t' σ H R) := ⟨fun pins s σ H Q I w => w.elim (h.run pins s σ H Q I) (h'.run pins s σ H Q I)⟩
theorem iters_lst {T : Tb} {F : Hp} {a : Addr} {vs : List V} {l : List D} (h : F a = some (.lst vs)) (r : RepL T F vs l) : Iters T F (Itl T.K a) l := by
  refine ⟨_, _, by rw [← r.length]; exact walk_list (K := T.K) (a := a) (xs := vs), fun H s => SqL.of (s _ _ h), fun i H1 x H2 d e s y => ?_⟩
  obtain ⟨rfl, hx⟩ := y
  obtain ⟨v, h1, h2⟩ := r.get e
  rw [h1] at hx; cases hx
  exact ⟨F, .refl s, h2⟩
theorem iters_tup {T : Tb} {F : Hp} {a : Addr} {vs : List V} {l : List D} (h : PPT.TH F a vs) (r : RepL T F vs l) : Iters T F (Itt T.K a) l := by
  refine ⟨_, _, by rw [← r.length]; exact walk_tup (K := T.K) (a := a) (xs := vs), fun H s => (h.mono s).sq, fun i H1 x H2 d e s y => ?_⟩
  obtain ⟨rfl, hx⟩ := y
  obtain ⟨v, h1, h2⟩ := r.get e
  rw [h1] at hx; cases hx
  exact ⟨F, .refl s, h2⟩
theorem iters_str {T : Tb} {F : Hp} {s : List Nat} (hc : ∀ c ∈ s, c < 1114112) : Iters T F (Its ⟨s.toArray⟩) (s.map fun c => .str [c]) := by
  refine ⟨_, _, by simpa using walk_str (z := ⟨s.toArray⟩), fun _ _ => trivial, fun i H1 x H2 d e s' y => ?_⟩
  obtain ⟨rfl, c, h1, rfl⟩ := y
  have h1' : s[i]? = some c := by simpa using h1
  simp only [List.getElem?_map, h1', Option.map_some, Option.some.injEq] at e
  subst e
  exact ⟨F, .refl s', mk_str (s := [c]) (by simp [LIM]) fun c' hc' => by
    obtain rfl : c' = c := by simpa using hc'
    exact hc _ (List.mem_of_getElem? h1')⟩
section
variable {X : Cx} {T : Tb} {Z : Act} {W : WX} {own : List Nat} {tg e e2 : Expr} {fa fb : PP.X} {p pos tpos : Pos}
/-- a list, a tuple, a text -/
theorem i_seq (ha : XE X T Z W own e fa) (hK : X.K = T.K := by rfl) : XI X T Z W own tg e (iSeq fa) := by
  have h1 : PI X tg e (fun σ H R => iList T.K (tP T Z W own fa) σ H R ∨ (iTup T.K (tP T Z W own fa) σ H R ∨ iStr (tP T Z W own fa) σ H R)) := by
    rw [← hK]; exact PI.or (pi_list ha) (PI.or (pi_tup ha) (pi_str ha))
  refine PI.imp h1 fun σ H R ⟨kp, F, ρ, g, c, q⟩ => ?_
  have q' := q.bind
  cases hf : fa ρ g with
  | ok d g1 =>
    rw [hf] at q'
    cases d with
    | lst l =>
      refine .inl ⟨kp, F, ρ, g, c, ?_⟩
      rw [hf]
      intro v F' H' c' s' r
      obtain ⟨a, vs, rfl, e1, l1, r1⟩ := rep_lst r
      exact ⟨a, rfl, ⟨vs, SqL.of (c'.core.sub _ _ e1)⟩, q' _ F' H' c' s' (iters_lst e1 r1) (by rw [← r1.length]; exact l1)⟩
    | tup l =>
      refine .inr (.inl ⟨kp, F, ρ, g, c, ?_⟩)
      rw [hf]
      intro v F' H' c' s' r
      obtain ⟨a, vs, rfl, e1, l1, r1⟩ := rep_tup r
      exact ⟨a, rfl, ⟨vs, (e1.mono c'.core.sub).sq⟩, q' _ F' H' c' s' (iters_tup e1 r1) (by rw [← r1.length]; exact l1)⟩
    | str z =>
      refine .inr (.inr ⟨kp, F, ρ, g, c, ?_⟩)
      rw [hf]
      intro v F' H' c' s' r
      obtain ⟨rfl, l1, c1⟩ := rep_str r
      exact ⟨_, rfl, q' _ F' H' c' s' (iters_str c1) (by simpa using l1)⟩
    | _ => exact q'.elim
  | ex e' g1 =>
    rw [hf] at q'
    exact .inl ⟨kp, F, ρ, g, c, by rw [hf]; exact q'⟩
  | bad => rw [hf] at q'; exact q'.elim
theorem rng_get {a : Int} {n i : Nat} {d : D} (h : (rngL a n)[i]? = some d) : i < n ∧ d = .int (a + (i : Int)) := by
  unfold rngL at h
  simp only [List.getElem?_map, Option.map_eq_some_iff] at h
  obtain ⟨j, hj, rfl⟩ := h
  have := List.getElem?_eq_some_iff.mp hj
  obtain ⟨h1, h2⟩ := this
  simp at h1 h2
  subst h2
  exact ⟨h1, rfl⟩
theorem iters_rng {F : Hp} {a : Int} {n : Nat} : Iters T F (Itr a n) (rngL a n) := by
  refine ⟨_, _, by simpa [rngL] using walk_range (lo := a) (n := n), fun _ _ => trivial, fun i H1 x H2 d e s y => ?_⟩
  obtain ⟨rfl, rfl⟩ := y
  obtain ⟨_, rfl⟩ := rng_get e
  exact ⟨F, .refl s, mk_int⟩
theorem rngOk_iff {i : Int} (h : rngOk i = true) : -(2 ^ 62) ≤ i ∧ i < 2 ^ 62 := by
  have e : ((2 : Int) ^ 62) = 4611686018427387904 := by decide
  rw [e]
  have := of_decide_eq_true h
  omega
theorem i_rng1 {a : Expr} (hg : Gl X "range") (hm : X.mg "range" = none) (ha : XAs X T Z W own [a] (aCons fa aNil)) (hs : starEach [a] X.env = [(false, eval a X.env)] := by rfl) : XI X T Z W own tg (.Call (.Name "range" p) [a] [] pos) (iRng1 fa) :=
  PI.imp (pi_range1 hg hm ha hs) fun σ H R ⟨kp, F, ρ, g, c, q⟩ => by
    refine ⟨kp, F, ρ, g, c, ?_⟩
    have q' := q.bind
    unfold aCons
    cases hf : fa ρ g with
    | ok d g1 =>
      rw [hf] at q'
      cases d with
      | int j =>
        cases hr : rngOk j && decide (j.toNat ≤ LIM) with
        | true =>
          simp only [rQ, hr] at q'
          simp only [Bool.and_eq_true, decide_eq_true_eq] at hr
          intro vs F1 H1 c1 s1 r1
          obtain ⟨x, rfl, r⟩ := call1 r1
          obtain rfl := rep_int r
          exact ⟨j, rfl, (rngOk_iff hr.1).1, (rngOk_iff hr.1).2, q' _ F1 H1 c1 s1 iters_rng (by simp [rngL]; omega)⟩
        | false => simp only [rQ, hr] at q'
      | _ => exact q'.elim
    | ex e' g1 => rw [hf] at q'; exact q'
    | bad => rw [hf] at q'; exact q'.elim
theorem i_rng2 {a b : Expr} (hg : Gl X "range") (hm : X.mg "range" = none) (ha : XAs X T Z W own [a, b] (aCons fa (aCons fb aNil))) (hs : starEach [a, b] X.env = [(false, eval a X.env), (false, eval b X.env)] := by rfl) (hs2 : starEach [b] X.env = [(false, eval b X.env)] := by rfl) :
    XI X T Z W own tg (.Call (.Name "range" p) [a, b] [] pos) (iRng fa fb) :=
  PI.imp (pi_range2 hg hm ha hs hs2) fun σ H R ⟨kp, F, ρ, g, c, q⟩ => by
    refine ⟨kp, F, ρ, g, c, ?_⟩
    have q' := q.bind
    simp only [aCons]
    cases hf : fa ρ g with
    | ok d g1 =>
      rw [hf] at q'
      have q2 := rQ.bind (σ := σ) q'
      simp only [PP.R.bind_ok]
      cases hf2 : fb ρ g1 with
      | ok d2 g2 =>
        rw [hf2] at q2
        cases d with
        | int i =>
          cases d2 with
          | int j =>
            cases hr : rngOk i && rngOk j && decide ((j - i).toNat ≤ LIM) with
            | true =>
              simp only [rQ, hr] at q2
              simp only [Bool.and_eq_true, decide_eq_true_eq] at hr
              intro vs F1 H1 c1 s1 r1
              obtain ⟨x, y, rfl, r, r'⟩ := call2 r1
              obtain rfl := rep_int r
              obtain rfl := rep_int r'
              exact ⟨i, j, rfl, ⟨(rngOk_iff hr.1.1).1, (rngOk_iff hr.1.1).2, (rngOk_iff hr.1.2).1, (rngOk_iff hr.1.2).2⟩, q2 _ F1 H1 c1 s1 iters_rng (by simp [rngL]; omega)⟩
            | false => simp only [rQ, hr] at q2
          | _ => exact q2.elim
        | _ => cases d2 <;> exact q2.elim
      | ex e' g1 => rw [hf2] at q2; exact q2
      | bad => rw [hf2] at q2; exact q2.elim
    | ex e' g1 => rw [hf] at q'; exact q'
    | bad => rw [hf] at q'; exact q'.elim
theorem zip_get {a b : List D} {i : Nat} {d : D} (h : (zipL a b)[i]? = some d) : ∃ x y, a[i]? = some x ∧ b[i]? = some y ∧ d = .tup [x, y] := by
  unfold zipL at h
  simp only [List.getElem?_map, Option.map_eq_some_iff] at h
  obtain ⟨p, hp, rfl⟩ := h
  have := List.getElem?_zip_eq_some.mp hp
  exact ⟨p.1, p.2, this.1, this.2, rfl⟩
theorem zipL_length (l m : List D) : (zipL l m).length = min l.length m.length := by simp [zipL]
end
end PP

set_option Elab.async false
set_option linter.all false
set_option maxRecDepth 100000
set_option maxHeartbeats 4000000
namespace PP
open PySem L2

/-! ### targets -/
inductive Ups (T : Tb) (F : Hp) (is : List Nat) (σ : St) (ρ : Env) : St → Env → Prop
  | refl : Ups T F is σ ρ σ ρ
  | set {σ' : St} {ρ' : Env} {i : Nat} {v : V} {d : D} (h : Ups T F is σ ρ σ' ρ') (hi : i ∈ is) (r : Rep T F v d) : Ups T F is σ ρ (σ'.set i (some v)) (ρ'.set i (some d))
theorem Ups.trans {T : Tb} {F : Hp} {is : List Nat} {σ σ1 σ2 : St} {ρ ρ1 ρ2 : Env} (a : Ups T F is σ ρ σ1 ρ1) (b : Ups T F is σ1 ρ1 σ2 ρ2) : Ups T F is σ ρ σ2 ρ2 := by
  induction b with
  | refl => exact a
  | set h hi r ih => exact .set ih hi r
theorem Ups.mono {T : Tb} {F : Hp} {is js : List Nat} {σ σ1 : St} {ρ ρ1 : Env} (a : Ups T F is σ ρ σ1 ρ1) (h : ∀ i ∈ is, i ∈ js) : Ups T F js σ ρ σ1 ρ1 := by
  induction a with
  | refl => exact .refl
  | set _ hi r ih => exact .set ih (h _ hi) r
theorem Rel.set {T : Tb} {Z : Act} {own : List Nat} {kp F H : Hp} {σ : St} {ρ : Env} {g : G} {i : Nat} {v : V} {d : D} (c : Rel T Z own kp F H σ ρ g) (hi : i ∉ own) (r : Rep T F v d) : Rel T Z own kp F H (σ.set i (some v)) (ρ.set i (some d)) g where
  core := c.core
  len := by simpa using c.len
  own_ := fun j hj => by
    have hji : i ≠ j := fun e => hi (e ▸ hj)
    obtain ⟨p, ds, h1, h2, w, h4⟩ := c.own_ j hj
    refine ⟨p, ds, by rw [List.getElem?_set_ne hji]; exact h1, by rw [List.getElem?_set_ne hji]; exact h2, w, fun m hm hmj => ?_⟩
    have hmi : i ≠ m := fun e => hi (e ▸ hm)
    rw [List.getElem?_set_ne hmi]; exact h4 m hm hmj
  shr := fun j e hj he => by
    by_cases h : i = j
    · subst h
      have hl : i < ρ.length := by
        have := List.getElem?_eq_some_iff.mp he
        obtain ⟨z, _⟩ := this
        simpa using z
      rw [List.getElem?_set_self hl] at he
      cases he
      exact ⟨v, List.getElem?_set_self (by rw [c.len]; exact hl), r⟩
    · rw [List.getElem?_set_ne h] at he
      rw [List.getElem?_set_ne h]
      exact c.shr j e hj he
theorem Rel.ups {T : Tb} {Z : Act} {own : List Nat} {kp F H : Hp} {σ σ' : St} {ρ ρ' : Env} {g : G} {is : List Nat} (c : Rel T Z own kp F H σ ρ g) (u : Ups T F is σ ρ σ' ρ') (h : ∀ i ∈ is, i ∉ own) : Rel T Z own kp F H σ' ρ' g := by
  induction u with
  | refl => exact c
  | set _ hi r ih => exact ih.set (h _ hi) r
/-- the target tg stores as gt says, at the slots is -/
def XG (X : Cx) (T : Tb) (tg : Expr) (gr : L2.TG) (gt : PP.TG) (is : List Nat) : Prop := PG X tg gr ∧
  ∀ F H x d σ ρ ρ' Q, Sub F H → Rep T F x d → gt d ρ = some ρ' → (∀ σ', Ups T F is σ ρ σ' ρ' → Q σ' H) → gr x σ H Q
def XGs (X : Cx) (T : Tb) (tgs : List Expr) (gr : TGs) (gt : List PP.TG) (is : List Nat) : Prop := PGs X tgs gr ∧
  ∀ F H xs ds σ ρ ρ' Q, Sub F H → RepL T F xs ds → gSeq gt ds ρ = some ρ' → (∀ σ', Ups T F is σ ρ σ' ρ' → Q σ' H) → gr xs σ H Q
section
variable {X : Cx} {T : Tb} {tg : Expr} {tgs : List Expr} {pos : Pos} {is js : List Nat}
theorem g_name {i : Nat} {x : Str} (hN : X.N.Nodup) (hi : X.N[i]? = some x) (hx : Loc X.env.scope x) (hf : X.fn x = true ∨ X.env.scope.names.lookup x = some .local := by first | exact .inl rfl | exact .inr rfl | assumption) : XG X T (.Name x pos) (L2.gName i) (PP.gName i) [i] :=
  ⟨pg_name hN hi hx hf, fun F H x d σ ρ ρ' Q s r e k => by
    simp only [PP.gName, Option.ite_none_right_eq_some, Option.some.injEq] at e
    obtain ⟨_, e⟩ := e
    subst e
    exact k _ (.set .refl (by simp) r)⟩
theorem gs_nil : XGs X T [] L2.gNil [] is := ⟨pgs_nil, fun F H xs ds σ ρ ρ' Q s r e k => by
  cases ds with
  | nil =>
    simp only [gSeq, Option.some.injEq] at e
    subst e
    exact ⟨r.nil_inv, k _ .refl⟩
  | cons d ds => simp [gSeq] at e⟩
theorem gs_cons {gr : L2.TG} {gt : PP.TG} {gr2 : TGs} {gt2 : List PP.TG} (h1 : XG X T tg gr gt is) (h2 : XGs X T tgs gr2 gt2 js) (hs : (assignEach (tg :: tgs) X.env).map (·.2) = assign tg X.env :: (assignEach tgs X.env).map (·.2) := by rfl) : XGs X T (tg :: tgs) (L2.gCons gr gr2) (gt :: gt2) (is ++ js) :=
  ⟨pgs_cons h1.1 h2.1 hs, fun F H xs ds σ ρ ρ' Q s r e k => by
    cases ds with
    | nil => simp [gSeq] at e
    | cons d ds =>
      obtain ⟨v, vs, rfl, r1, r2⟩ := r.inv2
      simp only [gSeq] at e
      cases e1 : gt d ρ with
      | none => rw [e1] at e; cases e
      | some ρ1 =>
        rw [e1] at e
        exact ⟨v, vs, rfl, h1.2 F H v d σ ρ ρ1 _ s r1 e1 fun σ1 u1 => h2.2 F H vs ds σ1 ρ1 ρ' _ s r2 e fun σ2 u2 =>
          k σ2 ((u1.mono fun i hi => List.mem_append_left _ hi).trans (u2.mono fun i hi => List.mem_append_right _ hi))⟩⟩
def rTup (K : PySem.W.Frag) (n : Nat) (gr : TGs) : L2.TG := fun v σ H Q => L2.gTup K n gr v σ H Q ∨ L2.gLst K n gr v σ H Q
theorem gSeq_length : ∀ {gts : List PP.TG} {ds : List D} {ρ ρ' : Env}, gSeq gts ds ρ = some ρ' → ds.length = gts.length
  | [], [], _, _, _ => rfl
  | [], _ :: _, _, _, e => by simp [gSeq] at e
  | _ :: _, [], _, _, e => by simp [gSeq] at e
  | gt :: gts, d :: ds, ρ, ρ', e => by
    simp only [gSeq] at e
    cases e1 : gt d ρ with
    | none => rw [e1] at e; cases e
    | some ρ1 => rw [e1] at e; simp [gSeq_length e]
theorem g_tup {k n : Nat} {gr : TGs} {gts : List PP.TG} (hc : X.calm = true) (h : XGs X T tgs gr gts is) (hl : gts.length = n := by rfl) (hn : (assignEach tgs X.env).length = n := by rfl) (hst : (assignEach tgs X.env).findIdx? (·.1) = none := by rfl) (hK : X.K = T.K := by rfl) :
    XG X T (.Tuple tgs k pos) (rTup T.K n gr) (PP.gTup gts) is := by
  refine ⟨?_, fun F H x d σ ρ ρ' Q s r e q => ?_⟩
  · have a := pg_tup (k := k) (pos := pos) hc h.1 hn hst
    have b := pg_lst (k := k) (pos := pos) hc h.1 hn hst
    rw [hK] at a b
    exact ⟨fun pins s σ H v u Q I rr z => z.elim (a.run pins s σ H v u Q I rr) (b.run pins s σ H v u Q I rr)⟩
  · cases d with
    | tup l =>
      obtain ⟨a, vs, rfl, e1, l1, r1⟩ := rep_tup r
      exact .inl ⟨a, vs, rfl, (e1.mono s).sq, by rw [r1.length, gSeq_length e, hl], h.2 F H vs l σ ρ ρ' Q s r1 e q⟩
    | lst l =>
      obtain ⟨a, vs, rfl, e1, l1, r1⟩ := rep_lst r
      exact .inr ⟨a, vs, rfl, SqL.of (s _ _ e1), by rw [r1.length, gSeq_length e, hl], h.2 F H vs l σ ρ ρ' Q s r1 e q⟩
    | _ => simp [PP.gTup] at e
end
/-! ### wiped slots -/
theorem wipe_eq (σ : St) : ∀ vs : List Nat, L2.wipe σ vs = PP.wipe vs σ
  | [] => rfl
  | v :: vs => by unfold L2.wipe PP.wipe; rw [wipe_eq σ vs]
section
variable {α : Type}
theorem wipe_len (l : List (Option α)) : ∀ vs : List Nat, (PP.wipe vs l).length = l.length
  | [] => rfl
  | v :: vs => by unfold PP.wipe; rw [List.length_set, wipe_len l vs]
theorem wipe_get (l : List (Option α)) (i : Nat) : ∀ vs : List Nat, (PP.wipe vs l)[i]? = if i ∈ vs then (if i < l.length then some none else none) else l[i]?
  | [] => by simp [PP.wipe]
  | v :: vs => by
    unfold PP.wipe
    by_cases h : v = i
    · subst h
      rw [List.getElem?_set]
      simp [wipe_len]
    · rw [List.getElem?_set_ne h, wipe_get l i vs]
      simp [List.mem_cons, Ne.symm h]
theorem wipe_set (l : List (Option α)) {vs : List Nat} {i : Nat} (h : i ∈ vs) (o : Option α) : PP.wipe vs (l.set i o) = PP.wipe vs l := by
  apply List.ext_getElem?
  intro j
  rw [wipe_get, wipe_get, List.length_set]
  by_cases hj : j ∈ vs
  · rw [if_pos hj, if_pos hj]
  · rw [if_neg hj, if_neg hj, List.getElem?_set_ne (fun e => by rw [e] at h; exact hj h)]
theorem wipe_wipe (l : List (Option α)) (vs : List Nat) : PP.wipe vs (PP.wipe vs l) = PP.wipe vs l := by
  apply List.ext_getElem?
  intro j
  rw [wipe_get, wipe_get, wipe_len]
  split <;> rfl
end
theorem Ups.wipe {T : Tb} {F : Hp} {is vs : List Nat} {σ σ1 : St} {ρ ρ1 : Env} (a : Ups T F is σ ρ σ1 ρ1) (h : ∀ i ∈ is, i ∈ vs) : PP.wipe vs σ1 = PP.wipe vs σ ∧ PP.wipe vs ρ1 = PP.wipe vs ρ := by
  induction a with
  | refl => exact ⟨rfl, rfl⟩
  | set _ hi r ih => rw [wipe_set _ (h _ hi), wipe_set _ (h _ hi)]; exact ih
section
variable {T : Tb} {Z : Act} {own : List Nat} {kp kp' F F' H H' : Hp} {σ : St} {ρ : Env} {g g' : G} {vs : List Nat}
theorem Rel.wipe (c : Rel T Z own kp F H σ ρ g) (h : ∀ i ∈ own, i ∉ vs) : Rel T Z own kp F H (PP.wipe vs σ) (PP.wipe vs ρ) g where
  core := c.core
  len := by rw [wipe_len, wipe_len]; exact c.len
  own_ := fun i hi => by
    obtain ⟨p, ds, h1, h2, w, h4⟩ := c.own_ i hi
    refine ⟨p, ds, by rw [wipe_get, if_neg (h i hi)]; exact h1, by rw [wipe_get, if_neg (h i hi)]; exact h2, w, fun j hj hji => ?_⟩
    rw [wipe_get, if_neg (h j hj)]; exact h4 j hj hji
  shr := fun i d hi e => by
    rw [wipe_get] at e ⊢
    split at e
    · split at e <;> cases e
    · rename_i hv
      rw [if_neg hv]
      exact c.shr i d hi e
/-- the slots as they were -/
theorem Rel.unwipe (c : Rel T Z own kp F H σ ρ g) (c' : Rel T Z own kp' F' H' (PP.wipe vs σ) (PP.wipe vs ρ) g') (s : Sub F F') (h : ∀ i ∈ own, i ∉ vs) : Rel T Z own kp' F' H' σ ρ g' where
  core := c'.core
  len := c.len
  own_ := fun i hi => by
    obtain ⟨p, ds, h1, h2, w, h4⟩ := c'.own_ i hi
    rw [wipe_get, if_neg (h i hi)] at h1 h2
    refine ⟨p, ds, h1, h2, w, fun j hj hji => ?_⟩
    have := h4 j hj hji
    rw [wipe_get, if_neg (h j hj)] at this; exact this
  shr := fun i d hi e => by
    obtain ⟨v, h1, h2⟩ := c.shr i d hi e
    exact ⟨v, h1, Rep.mono s _ _ h2⟩
theorem Core.kpw (c : Core Z kp' F H g) (h : Sub kp kp') : Core Z kp F H g :=
  ⟨c.sub, h.trans c.kph, fun a o e => c.kpf a o (h a o e), c.base, c.new, c.f0, c.fh0, c.on, c.at_, fun o => ⟨(c.gen o).1, (c.gen o).2.1, h.none (c.gen o).2.2.1, (c.gen o).2.2.2⟩⟩
theorem Rel.kpw (c : Rel T Z own kp' F H σ ρ g) (h : Sub kp kp') : Rel T Z own kp F H σ ρ g where
  core := c.core.kpw h
  len := c.len
  own_ := fun i hi => by
    obtain ⟨p, ds, h1, h2, w, h4⟩ := c.own_ i hi
    exact ⟨p, ds, h1, h2, ⟨w.f, h.none w.k, w.h0, w.g, w.at_⟩, h4⟩
  shr := c.shr
/-- a new object is kept apart -/
theorem Rel.keep {p : Addr} {o : HO} (c : Rel T Z own kp F H σ ρ g) (np : H p = none) : Rel T Z own (upd kp p o) F (upd H p o) σ ρ g where
  core := by
    have k := c.core
    refine ⟨k.sub.upd (k.sub.none np), fun a u e => ?_, fun a u e => ?_, fun a u e n => ?_, k.new, k.f0, k.fh0, k.on, k.at_, fun q => ?_⟩
    · by_cases h : a = p
      · subst h; rw [upd_same] at e ⊢; exact e
      · rw [upd_ne h] at e ⊢; exact k.kph a u e
    · by_cases h : a = p
      · subst h; exact k.sub.none np
      · rw [upd_ne h] at e; exact k.kpf a u e
    · have := k.base a u e n
      rw [upd_ne (ne_of_none this np)]; exact this
    · obtain ⟨h1, h2, h3, h4⟩ := k.gen q
      have hne := ne_of_none h1 np
      exact ⟨by rw [upd_ne hne]; exact h1, h2, by rw [upd_ne hne]; exact h3, h4⟩
  len := c.len
  own_ := fun i hi => by
    obtain ⟨q, ds, h1, h2, w, h4⟩ := c.own_ i hi
    obtain ⟨ob, e1, e2⟩ := w.at_
    have hne := ne_of_none e1 np
    exact ⟨q, ds, h1, h2, ⟨w.f, by rw [upd_ne hne]; exact w.k, w.h0, w.g, ob, by rw [upd_ne hne]; exact e1, e2⟩, h4⟩
  shr := c.shr
/-- what is kept apart is written -/
theorem Rel.kset {p : Addr} {o o' : HO} (c : Rel T Z own (upd kp p o) F H σ ρ g) (h0 : Z.H0 p = none) : Rel T Z own (upd kp p o') F (upd H p o') σ ρ g where
  core := by
    have k := c.core
    have fp : F p = none := k.kpf p o upd_same
    have hp : H p = some o := k.kph p o upd_same
    refine ⟨k.sub.upd fp, fun a u e => ?_, fun a u e => ?_, fun a u e n => ?_, k.new, k.f0, k.fh0, k.on, k.at_, fun q => ?_⟩
    · by_cases h : a = p
      · subst h; rw [upd_same] at e ⊢; exact e
      · rw [upd_ne h] at e ⊢; exact k.kph a u (by rw [upd_ne h]; exact e)
    · by_cases h : a = p
      · subst h; exact fp
      · rw [upd_ne h] at e; exact k.kpf a u (by rw [upd_ne h]; exact e)
    · rw [upd_ne (ne_of_none e h0)]; exact k.base a u e n
    · obtain ⟨h1, h2, h3, h4⟩ := k.gen q
      have hne : Z.at_ ≠ p := fun z => by rw [z, upd_same] at h3; cases h3
      rw [upd_ne hne] at h3
      exact ⟨by rw [upd_ne hne]; exact h1, h2, by rw [upd_ne hne]; exact h3, h4⟩
  len := c.len
  own_ := fun i hi => by
    obtain ⟨q, ds, h1, h2, w, h4⟩ := c.own_ i hi
    obtain ⟨ob, e1, e2⟩ := w.at_
    have hne : q ≠ p := fun z => by have := w.k; rw [z, upd_same] at this; cases this
    have wk := w.k
    rw [upd_ne hne] at wk
    exact ⟨q, ds, h1, h2, ⟨w.f, by rw [upd_ne hne]; exact wk, w.h0, w.g, ob, by rw [upd_ne hne]; exact e1, e2⟩, h4⟩
  shr := c.shr
end
/-! ### comprehensions -/
def noW : WX := fun _ _ _ _ => False
def XTs (X : Cx) (T : Tb) (Z : Act) (W : WX) (own : List Nat) (ifs : List Expr) (f : XT) : Prop := PTs X ifs (tPT T Z W own f)
section
variable {X : Cx} {T : Tb} {Z : Act} {W : WX} {own : List Nat} {tg iter elt e : Expr} {ifs : List Expr} {fi : XA} {ft : XT} {fe : PP.X} {pos : Pos}
theorem ts_nil : XTs X T Z W own [] PP.tYes := ⟨fun pins s σ H Q I ⟨kp, F, ρ, g, c, q⟩ => pts_nil.run pins s σ H Q I (q F H c (.refl _))⟩
theorem ts_one (h : XTt X T Z W own e ft) : XTs X T Z W own [e] ft := pts_one h
theorem drop_cons {α : Type} {l : List α} {i : Nat} {d : α} (h : l[i]? = some d) : l.drop i = d :: l.drop (i + 1) := by
  obtain ⟨h1, h2⟩ := List.getElem?_eq_some_iff.mp h
  rw [List.drop_eq_getElem_cons h1, h2]
theorem lc_red {gr : L2.TG} {gt : PP.TG} {is vs : List Nat} (gOk : ∀ F H x d σ ρ ρ' Q, Sub F H → Rep T F x d → gt d ρ = some ρ' → (∀ σ', Ups T F is σ ρ σ' ρ' → Q σ' H) → gr x σ H Q)
    (h1 : ∀ i ∈ own, i ∉ vs) (h2 : ∀ i ∈ is, i ∈ vs) {σ : St} {H : Hp} {Q : VK} (w : tPF T Z W own (xLc vs fi gt ft fe) σ H Q) : tLc (tPI T Z W own fi) gr (tPT T Z noW own ft) (tP T Z noW own fe) vs σ H Q := by
  obtain ⟨kp, F, ρ, g, c, q⟩ := w
  refine ⟨kp, F, ρ, g, c, q.bind.imp fun ds g1 q1 J F1 H1 c1 s1 it hlen => ?_⟩
  intro D nD
  cases hL : lcL gt ft fe (PP.wipe vs ρ) ds g1 with
  | ex e' g' => rw [hL] at q1; exact q1.elim
  | bad => rw [hL] at q1; exact q1.elim
  | ok ys g' =>
  rw [hL] at q1
  obtain ⟨GG, Y, w, hG, hY⟩ := it.up (.refl F1)
  have z0 := c1.core.atNone nD
  have zg := c1.core.ne_gen nD
  have zk := c1.core.kph.none nD
  let Pv : Nat → Hp → Prop := fun i H => ∃ F2 g2 us zs, Rel T Z own (upd kp D (.lst us)) F2 H (PP.wipe vs σ) (PP.wipe vs ρ) g2 ∧ Sub F1 F2 ∧ RepL T F2 us zs ∧ us.length ≤ i ∧ ∃ rs, lcL gt ft fe (PP.wipe vs ρ) (ds.drop i) g2 = .ok rs g' ∧ zs ++ rs = ys
  refine lc_it w Pv ⟨F1, g1, [], [], (c1.wipe h1).keep nD, .refl _, .nil, Nat.le_refl _, ys, by simpa using hL, rfl⟩ (fun i H hi ⟨F2, g2, us, zs, c2, s2, _⟩ => hG H (s2.trans c2.core.sub)) (fun i x H H' hi ⟨F2, g2, us, zs, c2, s2, r2, hl, rs, hrs, hys⟩ y => ?_) (fun H ⟨F2, g2, us, zs, c2, s2, r2, hl, rs, hrs, hys⟩ => ?_)
  · have hd : ds[i]? = some ds[i] := by simp [hi]
    obtain ⟨F3, gr3, rx⟩ := hY i H x H' _ F2 hd s2 c2.core.sub y
    have c3 := c2.grow gr3
    rw [drop_cons hd] at hrs
    simp only [lcL] at hrs
    cases hgt : gt ds[i] (PP.wipe vs ρ) with
    | none => rw [hgt] at hrs; cases hrs
    | some ρ1 =>
    rw [hgt] at hrs
    simp only at hrs
    rw [wipe_eq]
    refine gOk F3 H' x ds[i] _ _ ρ1 _ c3.core.sub rx hgt fun σ2 u2 => ?_
    have uw := u2.wipe h2
    rw [wipe_wipe, wipe_wipe] at uw
    refine ⟨by rw [wipe_eq]; exact uw.1, ?_⟩
    have c4 := c3.ups u2 fun i hi => fun h => h1 i h (h2 i hi)
    refine ⟨_, F3, ρ1, g2, c4, ?_⟩
    cases hft : ft ρ1 g2 with
    | ex e' g' => rw [hft] at hrs; cases hrs
    | bad => rw [hft] at hrs; cases hrs
    | ok b g3 =>
    rw [hft] at hrs
    intro F4 H4 c5 s5
    have back : ∀ {F' H' : Hp} {g' : G} {kp' : Hp}, Rel T Z own kp' F' H' σ2 ρ1 g' → Rel T Z own kp' F' H' (PP.wipe vs σ) (PP.wipe vs ρ) g' := fun {F' H' g' kp'} cc => by
      have := cc.wipe h1
      rw [uw.1, uw.2] at this; exact this
    cases b with
    | false =>
      rw [if_neg Bool.false_ne_true]
      exact ⟨F4, g3, us, zs, back c5, (s2.trans gr3.ff).trans s5, RepL.mono (gr3.ff.trans s5) _ _ r2, Nat.le_succ_of_le hl, rs, hrs, hys⟩
    | true =>
      rw [if_pos rfl]
      refine ⟨_, F4, ρ1, g3, c5, ?_⟩
      simp only at hrs
      cases hfe : fe ρ1 g3 with
      | ex e' g' => rw [hfe] at hrs; cases hrs
      | bad => rw [hfe] at hrs; cases hrs
      | ok yv g4 =>
      rw [hfe] at hrs
      simp only at hrs
      intro v F5 H5 c6 s6 r6
      cases hr2 : lcL gt ft fe (PP.wipe vs ρ) (ds.drop (i + 1)) g4 with
      | ex e' g' => rw [hr2] at hrs; cases hrs
      | bad => rw [hr2] at hrs; cases hrs
      | ok rs2 g5 =>
      rw [hr2] at hrs
      simp only [PP.R.ok.injEq] at hrs
      obtain ⟨rfl, rfl⟩ := hrs
      refine ⟨us, c6.core.kph D _ upd_same, by rw [← LIM_eq]; omega, F5, g4, us ++ [v], zs ++ [yv], (back c6).kset z0, ((s2.trans gr3.ff).trans s5).trans s6, ?_, by simp; omega, rs2, hr2, by simpa using hys⟩
      exact (RepL.mono ((gr3.ff.trans s5).trans s6) _ _ r2).append (.cons r6 .nil)
  · have e0 : ds.drop ds.length = [] := by simp
    rw [e0] at hrs
    simp only [lcL, PP.R.ok.injEq] at hrs
    obtain ⟨rfl, rfl⟩ := hrs
    rw [List.append_nil] at hys
    subst hys
    have cu := c1.unwipe c2 s2 h1
    have ck : Rel T Z own kp F2 H σ ρ g2 := cu.kpw (fun a o e => by rw [upd_ne (fun z => by rw [z, zk] at e; cases e)]; exact e)
    refine q1 D F2 H ck (s1.trans s2) ⟨c2.core.kpf D _ upd_same, zk, z0, zg, _, c2.core.kph D _ upd_same, us, rfl, by omega, r2⟩ fun j hj e => ?_
    obtain ⟨p, ds', k1, k2, w', k4⟩ := c1.own_ j hj
    rw [k1] at e
    cases e
    obtain ⟨vs', k5, _⟩ := w'.at_
    rw [nD] at k5; cases k5
theorem f_lc {scope : Scope} {ownN : List (Str × Nat)} {gr : L2.TG} {gt : PP.TG} {is : List Nat} (hc : X.calm = true) (hN : X.N.Nodup) (hi : XI X T Z W own tg iter fi) (ok : BlkOk X.N X.env.scope scope ownN)
    (hg : ∀ (s : Shared) (H : Hp) (C : Addr) (cl : List (Str × Addr)) (fp : List Addr), XG (X.blk s H scope (compEnvC scope cl C X.env) fp) T tg gr gt is)
    (ht : ∀ (s : Shared) (H : Hp) (C : Addr) (cl : List (Str × Addr)) (fp : List Addr), XTs (X.blk s H scope (compEnvC scope cl C X.env) fp) T Z noW own ifs ft)
    (he : ∀ (s : Shared) (H : Hp) (C : Addr) (cl : List (Str × Addr)) (fp : List Addr), XE (X.blk s H scope (compEnvC scope cl C X.env) fp) T Z noW own elt fe)
    (h1 : ∀ i ∈ own, i ∉ ownN.map (·.2)) (h2 : ∀ i ∈ is, i ∈ ownN.map (·.2)) (hs : ∀ x, foldedSetIterable iter X.env x = pure x := by intro _; rfl) :
    XF X T Z W own (.ListComp elt [⟨tg, iter, ifs, 0⟩] scope pos) (xLc (ownN.map (·.2)) fi gt ft fe) :=
  ⟨fun pins s0 σ0 H0 Q0 I0 w0 => (PE.imp (t' := tPF T Z W own (xLc (ownN.map (·.2)) fi gt ft fe)) (pe_lc hc hN hi ok (fun s H C cl fp => (hg s H C cl fp).1) ht he hs) fun σ H Q w => lc_red (hg s0 H0 0 [] []).2 h1 h2 w).run pins s0 σ0 H0 Q0 I0 w0⟩

end
end PP

set_option Elab.async false
set_option linter.all false
set_option maxRecDepth 100000
set_option maxHeartbeats 4000000
namespace PP
open PySem L2
open PyProof.Rows (envOfC)

/-! ### statements -/
def rtQ (T : Tb) (Z : Act) (kp F : Hp) (D : Ends) (d : PP.D) (g : G) : Prop := match Z.fr with
  | false => ∀ v F' H', Core Z kp F' H' g → Sub F F' → Rep T F' v d → D.rt v H'
  | true => ∀ p F' H', Core Z kp F' H' g → Sub F F' → Own T Z kp F' H' p d → D.rt (.ref p) H'
theorem rtQ.up {T : Tb} {Z : Act} {kp F F1 : Hp} {D : Ends} {d : PP.D} {g : G} (q : rtQ T Z kp F D d g) (s : Sub F F1) : rtQ T Z kp F1 D d g := by
  unfold rtQ at q ⊢
  cases hz : Z.fr with
  | false =>
    rw [hz] at q
    exact fun v F' H' c s' r => q v F' H' c (s.trans s') r
  | true =>
    rw [hz] at q
    exact fun p F' H' c s' w => q p F' H' c (s.trans s') w
theorem rtQ.old {T : Tb} {Z : Act} {kp F : Hp} {D : Ends} {d : PP.D} {g : G} (hz : Z.fr = false) (q : rtQ T Z kp F D d g) : ∀ v F' H', Core Z kp F' H' g → Sub F F' → Rep T F' v d → D.rt v H' := by
  unfold rtQ at q
  rw [hz] at q
  exact q
theorem rtQ.mk {T : Tb} {Z : Act} {kp F : Hp} {D : Ends} {d : PP.D} {g : G} (hz : Z.fr = false) (q : ∀ v F' H', Core Z kp F' H' g → Sub F F' → Rep T F' v d → D.rt v H') : rtQ T Z kp F D d g := by
  unfold rtQ
  rw [hz]
  exact q
theorem rtQ.new {T : Tb} {Z : Act} {kp F : Hp} {D : Ends} {d : PP.D} {g : G} (hz : Z.fr = true) (q : rtQ T Z kp F D d g) : ∀ p F' H', Core Z kp F' H' g → Sub F F' → Own T Z kp F' H' p d → D.rt (.ref p) H' := by
  unfold rtQ at q
  rw [hz] at q
  exact q
def oQ (T : Tb) (Z : Act) (W : WX) (own' ob : List Nat) (kp F : Hp) (D : Ends) : O → Prop
  | .nx ρ g => ∀ σ' F' H', Rel T Z own' kp F' H' σ' ρ g → Sub F F' → D.nx σ' H'
  | .rt d g => rtQ T Z kp F D d g
  | .bk ρ g => ∀ σ' F' H', Rel T Z ob kp F' H' σ' ρ g → Sub F F' → D.bk σ' H'
  | .ct ρ g => ∀ σ' F' H', Rel T Z ob kp F' H' σ' ρ g → Sub F F' → D.ct σ' H'
  | .ex e ρ g => exQ T Z W kp F ρ e g
  | .bad => False
def tS (T : Tb) (Z : Act) (W : WX) (own ob : List Nat) (S : PP.S) (own' : List Nat) : TS := fun D σ H => ∃ kp F ρ g, Rel T Z own kp F H σ ρ g ∧ oQ T Z W own' ob kp F D (S ρ g)
def YS (X : Cx) (T : Tb) (Z : Act) (W : WX) (own ob : List Nat) (st : Stmt) (S : PP.S) (own' : List Nat) : Prop := PS X st (tS T Z W own ob S own')
def YSs (X : Cx) (T : Tb) (Z : Act) (W : WX) (own ob : List Nat) (st : List Stmt) (S : PP.S) (own' : List Nat) : Prop := PSs X st (tS T Z W own ob S own')
section
variable {T : Tb} {Z : Act} {W : WX} {own ob own1 own2 : List Nat} {kp F F1 H : Hp} {σ : St} {ρ : Env} {g : G} {D : Ends}
theorem oQ.up {o : O} (q : oQ T Z W own1 ob kp F D o) (s : Sub F F1) : oQ T Z W own1 ob kp F1 D o := by
  cases o with
  | nx ρ g => exact fun σ' F' H' c s' => q σ' F' H' c (s.trans s')
  | rt d g => exact rtQ.up q s
  | bk ρ g => exact fun σ' F' H' c s' => q σ' F' H' c (s.trans s')
  | ct ρ g => exact fun σ' F' H' c s' => q σ' F' H' c (s.trans s')
  | ex e ρ g => exact exQ.up q s
  | bad => exact q
theorem oQ.weak {o : O} (q : oQ T Z W own1 ob kp F D o) (h : ∀ i ∈ own1, i ∈ own2) : oQ T Z W own2 ob kp F D o := by
  cases o with
  | nx ρ g =>
    intro σ' F' H' c s'
    obtain ⟨F2, s2, c2⟩ := c.freeze h
    exact q σ' F2 H' c2 (s'.trans s2)
  | rt d g => exact q
  | bk ρ g => exact q
  | ct ρ g => exact q
  | ex e ρ g => exact q
  | bad => exact q
/-- an expression's outcome, then a statement's -/
theorem to_bind {α : Type} {x : R α} {k : α → G → O} (h : oQ T Z W own1 ob kp F D (x.to ρ k)) : rQ T Z W kp F σ ρ (fun a g => oQ T Z W own1 ob kp F D (k a g)) x := by
  cases x with
  | ok a g => exact h
  | ex e g => exact h
  | bad => exact h
end
section
variable {X : Cx} {T : Tb} {Z : Act} {W : WX} {own ob own1 own2 own3 : List Nat} {st : Stmt} {sts rest : List Stmt} {S S1 S2 : PP.S} {e : Expr} {f : PP.X} {ft : XT} {pos : Pos}
/-- lists of one's own handed on ahead of a statement, behind it -/
theorem s_pre (h : YS X T Z W own1 ob st S own2) (w : ∀ i ∈ own1, i ∈ own) : YS X T Z W own ob st S own2 := PS.imp h fun D σ H ⟨kp, F, ρ, g, c, q⟩ => by
  obtain ⟨F2, s2, c2⟩ := c.freeze w
  exact ⟨kp, F2, ρ, g, c2, q.up s2⟩
theorem s_post (h : YS X T Z W own ob st S own1) (w : ∀ i ∈ own2, i ∈ own1) : YS X T Z W own ob st S own2 := PS.imp h fun D σ H ⟨kp, F, ρ, g, c, q⟩ => ⟨kp, F, ρ, g, c, q.weak w⟩
theorem ss_pre (h : YSs X T Z W own1 ob sts S own2) (w : ∀ i ∈ own1, i ∈ own) : YSs X T Z W own ob sts S own2 := PSs.imp h fun D σ H ⟨kp, F, ρ, g, c, q⟩ => by
  obtain ⟨F2, s2, c2⟩ := c.freeze w
  exact ⟨kp, F2, ρ, g, c2, q.up s2⟩
theorem ss_post (h : YSs X T Z W own ob sts S own1) (w : ∀ i ∈ own2, i ∈ own1) : YSs X T Z W own ob sts S own2 := PSs.imp h fun D σ H ⟨kp, F, ρ, g, c, q⟩ => ⟨kp, F, ρ, g, c, q.weak w⟩
/-- slots forgotten -/
theorem Rel.kill {kp F H : Hp} {σ : St} {ρ : Env} {g : G} {is : List Nat} (c : Rel T Z own kp F H σ ρ g) (h : ∀ i ∈ own, i ∉ is) : Rel T Z own kp F H σ (PP.wipe is ρ) g where
  core := c.core
  len := by rw [wipe_len]; exact c.len
  own_ := fun i hi => by
    obtain ⟨p, ds, h1, h2, w, h4⟩ := c.own_ i hi
    exact ⟨p, ds, h1, by rw [wipe_get, if_neg (h i hi)]; exact h2, w, h4⟩
  shr := fun i d hi e => by
    rw [wipe_get] at e
    split at e
    · split at e <;> cases e
    · exact c.shr i d hi e
theorem ss_kill {is : List Nat} (h : YSs X T Z W own ob sts S own1) (w : ∀ i ∈ own1, i ∉ is) : YSs X T Z W own ob sts (sSeq S (sKill is)) own1 := PSs.imp h fun D σ H ⟨kp, F, ρ, g, c, q⟩ => by
  refine ⟨kp, F, ρ, g, c, ?_⟩
  unfold sSeq at q
  cases hs : S ρ g with
  | nx ρ1 g1 =>
    rw [hs] at q
    exact fun σ' F' H' c' s' => q σ' F' H' (c'.kill w) s'
  | rt d g => rw [hs] at q; exact q
  | bk ρ g => rw [hs] at q; exact q
  | ct ρ g => rw [hs] at q; exact q
  | ex e ρ g => rw [hs] at q; exact q
  | bad => rw [hs] at q; exact q
theorem s_kill {is : List Nat} (h : YS X T Z W own ob st S own1) (w : ∀ i ∈ own1, i ∉ is) : YS X T Z W own ob st (sSeq S (sKill is)) own1 := PS.imp h fun D σ H ⟨kp, F, ρ, g, c, q⟩ => by
  refine ⟨kp, F, ρ, g, c, ?_⟩
  unfold sSeq at q
  cases hs : S ρ g with
  | nx ρ1 g1 =>
    rw [hs] at q
    exact fun σ' F' H' c' s' => q σ' F' H' (c'.kill w) s'
  | rt d g => rw [hs] at q; exact q
  | bk ρ g => rw [hs] at q; exact q
  | ct ρ g => rw [hs] at q; exact q
  | ex e ρ g => rw [hs] at q; exact q
  | bad => rw [hs] at q; exact q
theorem ss_nil : YSs X T Z W own ob [] sNop own := PSs.imp pss_nil fun D σ H ⟨kp, F, ρ, g, c, q⟩ => q σ F H c (.refl _)
theorem ss_one (h : YS X T Z W own ob st S own1) : YSs X T Z W own ob [st] S own1 := pss_one h
theorem ss_cons (h1 : YS X T Z W own ob st S1 own1) (h2 : YSs X T Z W own1 ob rest S2 own2) : YSs X T Z W own ob (st :: rest) (sSeq S1 S2) own2 :=
  PSs.imp (pss_cons h1 h2) fun D σ H ⟨kp, F, ρ, g, c, q⟩ => by
    refine ⟨kp, F, ρ, g, c, ?_⟩
    unfold sSeq at q
    cases hs : S1 ρ g with
    | nx ρ1 g1 =>
      rw [hs] at q
      exact fun σ' F' H' c' s' => ⟨kp, F', ρ1, g1, c', q.up s'⟩
    | rt d g => rw [hs] at q; exact q
    | bk ρ g => rw [hs] at q; exact q
    | ct ρ g => rw [hs] at q; exact q
    | ex e ρ g => rw [hs] at q; exact q
    | bad => rw [hs] at q; exact q
theorem s_pass : YS X T Z W own ob (.Pass pos) sNop own := PS.imp ps_pass fun D σ H ⟨kp, F, ρ, g, c, q⟩ => q σ F H c (.refl _)
theorem s_brk : YS X T Z W ob ob (.Break pos) sBrk own := PS.imp ps_break fun D σ H ⟨kp, F, ρ, g, c, q⟩ => q σ F H c (.refl _)
theorem s_cont : YS X T Z W ob ob (.Continue pos) sCont own := PS.imp ps_continue fun D σ H ⟨kp, F, ρ, g, c, q⟩ => q σ F H c (.refl _)
/-- x = e, a name -/
theorem s_set {i : Nat} {x : Str} {pos' : Pos} (hN : X.N.Nodup) (hi : X.N[i]? = some x) (hx : Loc X.env.scope x) (he : XE X T Z W own e f) (ho : i ∉ own) (hs : swapsWith e (some (.Name x pos')) pos.line X.env = pure false := by rfl) (hf : X.fn x = true ∨ X.env.scope.names.lookup x = some .local := by first | exact .inl rfl | exact .inr rfl | assumption) :
    YS X T Z W own ob (.Assign [.Name x pos'] e pos) (sSet (PP.gName i) f) own :=
  PS.imp (ps_set hN hi hx he hs hf) fun D σ H ⟨kp, F, ρ, g, c, q⟩ => tP.then c (to_bind q) fun d g1 v F1 H1 q1 c1 s1 r1 => by
    by_cases hl : i < ρ.length
    · simp only [PP.gName, if_pos hl] at q1
      exact q1 _ F1 H1 (c1.set ho r1) s1
    · simp only [PP.gName, if_neg hl] at q1
      exact q1.elim
/-- x = a new list, x its owner from then on -/
theorem Rel.take {kp F H : Hp} {σ : St} {ρ : Env} {g : G} {i : Nat} {p : Addr} {ds : PP.D} (c : Rel T Z own kp F H σ ρ g) (w : Own T Z kp F H p ds) (n : ∀ j ∈ own, σ[j]? ≠ some (some (.ref p))) (hi : i ∉ own) (hl : i < ρ.length) :
    Rel T Z (i :: own) kp F H (σ.set i (some (.ref p))) (ρ.set i (some ds)) g where
  core := c.core
  len := by simpa using c.len
  own_ := fun j hj => by
    rcases List.mem_cons.mp hj with e | hj'
    · subst e
      refine ⟨p, ds, List.getElem?_set_self (by rw [c.len]; exact hl), List.getElem?_set_self hl, w, fun m hm hmj => ?_⟩
      rcases List.mem_cons.mp hm with e | hm'
      · exact absurd e hmj
      · rw [List.getElem?_set_ne (Ne.symm hmj)]; exact n m hm'
    · have hji : i ≠ j := fun e => hi (e ▸ hj')
      obtain ⟨q, es, h1, h2, w', h4⟩ := c.own_ j hj'
      refine ⟨q, es, by rw [List.getElem?_set_ne hji]; exact h1, by rw [List.getElem?_set_ne hji]; exact h2, w', fun m hm hmj => ?_⟩
      rcases List.mem_cons.mp hm with e | hm'
      · subst e
        rw [List.getElem?_set_self (by rw [c.len]; exact hl)]
        intro e
        cases e
        exact n j hj' h1
      · have hmi : i ≠ m := fun e => hi (e ▸ hm')
        rw [List.getElem?_set_ne hmi]; exact h4 m hm' hmj
  shr := fun j d hj e => by
    have hji : i ≠ j := fun z => hj (by rw [z]; exact List.mem_cons_self)
    rw [List.getElem?_set_ne hji] at e ⊢
    exact c.shr j d (fun z => hj (List.mem_cons_of_mem _ z)) e
theorem tPF.then {own : List Nat} {kp F H : Hp} {σ : St} {ρ : Env} {g : G} {post : PP.D → G → Prop} {Q : VK} (c : Rel T Z own kp F H σ ρ g) (h : rQ T Z W kp F σ ρ post (f ρ g))
    (n : ∀ ds g1 p F1 H1, post ds g1 → Rel T Z own kp F1 H1 σ ρ g1 → Sub F F1 → Own T Z kp F1 H1 p ds → (∀ j ∈ own, σ[j]? ≠ some (some (.ref p))) → Q (.ref p) H1) : tPF T Z W own f σ H Q := by
  refine ⟨kp, F, ρ, g, c, ?_⟩
  cases hf : f ρ g with
  | ok d g1 =>
    rw [hf] at h
    exact fun p F1 H1 c1 s1 w m => n d g1 p F1 H1 h c1 s1 w m
  | ex e g1 => rw [hf] at h; exact h
  | bad => rw [hf] at h; exact h
theorem s_setF {i : Nat} {x : Str} {pos' : Pos} (hN : X.N.Nodup) (hi : X.N[i]? = some x) (hx : Loc X.env.scope x) (he : XF X T Z W own e f) (ho : i ∉ own) (hs : swapsWith e (some (.Name x pos')) pos.line X.env = pure false := by rfl) (hf : X.fn x = true ∨ X.env.scope.names.lookup x = some .local := by first | exact .inl rfl | exact .inr rfl | assumption) :
    YS X T Z W own ob (.Assign [.Name x pos'] e pos) (sSet (PP.gName i) f) (i :: own) :=
  PS.imp (ps_set hN hi hx he hs hf) fun D σ H ⟨kp, F, ρ, g, c, q⟩ => tPF.then c (to_bind (σ := σ) q) fun ds g1 p F1 H1 q1 c1 s1 w n => by
    by_cases hl : i < ρ.length
    · simp only [PP.gName, if_pos hl] at q1
      exact q1 _ F1 H1 (c1.take w n ho hl) s1
    · simp only [PP.gName, if_neg hl] at q1
      exact q1.elim
/-- a target of any form -/
theorem s_asg {tg : Expr} {gr : L2.TG} {gt : PP.TG} {is : List Nat} (hg : XG X T tg gr gt is) (he : XE X T Z W own e f) (ho : ∀ i ∈ is, i ∉ own) (hs : swapsWithSole [tg] e pos.line X.env = pure false := by rfl) (hw : swappedStores [tg] e X.env = pure none := by rfl)
    (h1 : (assignEach [tg] X.env).map (·.2) = [assign tg X.env] := by rfl) : YS X T Z W own ob (.Assign [tg] e pos) (sSet gt f) own :=
  PS.imp (ps_asg he hg.1 hs hw h1) fun D σ H ⟨kp, F, ρ, g, c, q⟩ => tP.then c (to_bind q) fun d g1 v F1 H1 q1 c1 s1 r1 => by
    cases hgt : gt d ρ with
    | none => rw [hgt] at q1; exact q1.elim
    | some ρ1 =>
      rw [hgt] at q1
      exact hg.2 F1 H1 v d σ ρ ρ1 _ c1.core.sub r1 hgt fun σ' u => q1 σ' F1 H1 (c1.ups u ho) s1
/-- x, y = a, b of plain local names -/
theorem s_par {i j : Nat} {x y : Str} {a b : Expr} {fa fb : PP.X} {px py pt : Pos} {kt k2 : Nat} {pt2 : Pos} (hc : X.calm = true) (hN : X.N.Nodup) (hi : X.N[i]? = some x) (hj : X.N[j]? = some y) (hij : i ≠ j)
    (hx : X.env.scope.names.lookup x = some .local) (hy : X.env.scope.names.lookup y = some .local) (ha : XAs X T Z W own [a, b] (aCons fa (aCons fb aNil)))
    (hw : swappedStores [.Tuple [.Name x px, .Name y py] kt pt] (.Tuple [a, b] k2 pt2) X.env = pure (some [x, y])) (hio : i ∉ own) (hjo : j ∉ own)
    (hs : swapsWithSole [.Tuple [.Name x px, .Name y py] kt pt] (.Tuple [a, b] k2 pt2) pos.line X.env = pure false := by rfl) :
    YS X T Z W own ob (.Assign [.Tuple [.Name x px, .Name y py] kt pt] (.Tuple [a, b] k2 pt2) pos) (sPar i j fa fb) own :=
  PS.imp (ps_par hc hN hi hj hij hx hy ha hw hs) fun D σ H ⟨kp, F, ρ, g, c, q⟩ => by
    refine ⟨kp, F, ρ, g, c, ?_⟩
    have q' := to_bind (σ := σ) q
    simp only [aCons]
    cases hf : fa ρ g with
    | ex e g1 => rw [hf] at q'; exact q'
    | bad => rw [hf] at q'; exact q'
    | ok d1 g1 =>
      rw [hf] at q'
      have q2 := to_bind (σ := σ) (x := fb ρ g1) q'
      simp only [PP.R.bind_ok]
      cases hf2 : fb ρ g1 with
      | ex e g2 => rw [hf2] at q2; exact q2
      | bad => rw [hf2] at q2; exact q2
      | ok d2 g2 =>
        rw [hf2] at q2
        intro vs F1 H1 c1 s1 r1
        obtain ⟨v, w, rfl, h1, h2⟩ := call2 r1
        by_cases hlr : i < ρ.length ∧ j < ρ.length
        · simp only [if_pos hlr] at q2
          exact ⟨v, w, rfl, q2 _ F1 H1 ((c1.set hio h1).set hjo h2) s1⟩
        · simp only [if_neg hlr] at q2
          exact q2.elim
theorem s_if {t : Expr} {a b : List Stmt} (ht : XTt X T Z W own t ft) (ha : YSs X T Z W own ob a S1 own1) (hb : YSs X T Z W own ob b S2 own1) : YS X T Z W own ob (.If t a b pos) (sIf ft S1 S2) own1 :=
  PS.imp (ps_if ht ha hb) fun D σ H ⟨kp, F, ρ, g, c, q⟩ => tPT.then c (to_bind q) fun k g1 F1 H1 q1 c1 s1 => by
    cases k with
    | true => rw [if_pos rfl]; exact ⟨kp, F1, ρ, g1, c1, oQ.up q1 s1⟩
    | false => rw [if_neg Bool.false_ne_true]; exact ⟨kp, F1, ρ, g1, c1, oQ.up q1 s1⟩
theorem s_ret (hz : Z.fr = false) (he : XE X T Z W own e f) : YS X T Z W own ob (.Return (some e) pos) (sRet f) own1 :=
  PS.imp (ps_ret he) fun D σ H ⟨kp, F, ρ, g, c, q⟩ => tP.then c (to_bind q) fun d g1 v F1 H1 q1 c1 s1 r1 => rtQ.old hz q1 v F1 H1 c1.core s1 r1
/-- a new list is returned, a list of one's own -/
theorem s_retF (hz : Z.fr = true) (he : XF X T Z W own e f) : YS X T Z W own ob (.Return (some e) pos) (sRet f) own1 :=
  PS.imp (ps_ret he) fun D σ H ⟨kp, F, ρ, g, c, q⟩ => by
    refine ⟨kp, F, ρ, g, c, (to_bind (σ := σ) q).imp fun d g1 q1 => ?_⟩
    exact fun p F' H' c' s' w _ => rtQ.new hz q1 p F' H' c'.core s' w
theorem s_retV (hz : Z.fr = true) {i : Nat} {x : Str} {p : Pos} (hN : X.N[i]? = some x) (hv : Vis X.env.scope x) (hi : i ∈ own) (hd : (x == ("__debug__" : Str)) = false := by decide) (hcd : (x == ("__classdict__" : Str)) = false := by decide) : YS X T Z W own ob (.Return (some (.Name x p)) pos) (sRet (xVar i)) own1 :=
  PS.imp (ps_ret (pe_var hN hv hd hcd)) fun D σ H ⟨kp, F, ρ, g, c, q⟩ => by
    obtain ⟨a, ds, k1, k2, w, k4⟩ := c.own_ i hi
    unfold sRet xVar at q
    rw [k2] at q
    exact ⟨_, k1, rtQ.new hz q a F H c.core (.refl _) w⟩
theorem s_expr (he : XE X T Z W own e f) (hs : swapsWith e none pos.line X.env = pure false := by rfl) : YS X T Z W own ob (.Expr e pos) (sExpr f) own :=
  PS.imp (ps_expr he hs) fun D σ H ⟨kp, F, ρ, g, c, q⟩ => tP.then c (to_bind q) fun d g1 v F1 H1 q1 c1 s1 r1 => q1 σ F1 H1 c1 s1
/-- raise C('..'), C without an own __init__ -/
theorem s_raise {cn : Nat} {C : Addr} {t : St → Hp → XK → Prop} (hc : X.calm = true) (tk : Takes X W) (hm : PMk X e t) (ht : ∀ σ H Q, Q (.ref C) none H → t σ H Q) (hT : T.exA cn = some C) : YS X T Z W own ob (.Raise (some e) none pos) (sRaise cn aNil) own1 :=
  PS.imp (ps_raise hc tk hm) fun D σ H ⟨kp, F, ρ, g, c, q⟩ => ht σ H _ (by
    obtain ⟨F1, s1, c1⟩ := c.freezeAll
    exact q (.ref C) none σ F1 H c1 s1 ⟨C, hT, rfl, .inl ⟨rfl, rfl⟩⟩)
/-- a thing of one's own is written -/
theorem Rel.wr {T : Tb} {Z : Act} {own : List Nat} {kp F H : Hp} {σ : St} {ρ : Env} {g : G} {i : Nat} {p : Addr} {d d' : PP.D} {o' : HO} (c : Rel T Z own kp F H σ ρ g) (hi : i ∈ own) (k1 : σ[i]? = some (some (.ref p))) (k2 : ρ[i]? = some (some d)) (r : OwnC T F o' d') :
    Rel T Z own kp F (upd H p o') σ (ρ.set i (some d')) g := by
  obtain ⟨p0, ds0, e1, e2, w, k4⟩ := c.own_ i hi
  rw [k1] at e1; cases e1
  refine ⟨?_, by simpa using c.len, fun j hj => ?_, fun j dj hj ej => ?_⟩
  · have k := c.core
    refine ⟨k.sub.upd w.f, fun a u ea => ?_, k.kpf, fun a u ea n => ?_, k.new, k.f0, k.fh0, k.on, k.at_, fun o => ?_⟩
    · rw [upd_ne (fun z => by rw [z, w.k] at ea; cases ea)]; exact k.kph a u ea
    · rw [upd_ne (fun z => by rw [z, w.h0] at ea; cases ea)]; exact k.base a u ea n
    · obtain ⟨g1', g2', g3', g4'⟩ := k.gen o
      exact ⟨by rw [upd_ne (Ne.symm (w.g o))]; exact g1', g2', g3', g4'⟩
  · by_cases hji : j = i
    · subst hji
      exact ⟨p, d', k1, List.getElem?_set_self (List.getElem?_eq_some_iff.mp k2).1, ⟨w.f, w.k, w.h0, w.g, o', upd_same, r⟩, k4⟩
    · obtain ⟨q', es, y1, y2, y3, y4⟩ := c.own_ j hj
      have hqp : q' ≠ p := fun z => k4 j hj hji (by rw [y1, z])
      obtain ⟨ws, x1, x2⟩ := y3.at_
      exact ⟨q', es, y1, by rw [List.getElem?_set_ne (Ne.symm hji)]; exact y2, ⟨y3.f, y3.k, y3.h0, y3.g, ws, by rw [upd_ne hqp]; exact x1, x2⟩, y4⟩
  · have hji : i ≠ j := fun z => hj (z ▸ hi)
    rw [List.getElem?_set_ne hji] at ej
    exact c.shr j dj hj ej
/-- i.append(e), i a list of one's own -/
theorem s_app {i : Nat} {x : Str} {apos cpos npos : Pos} (hN : X.N[i]? = some x) (hv : Vis X.env.scope x) (hi : i ∈ own) (he : XE X T Z W own e f) (hK : X.K = T.K := by rfl)
    (hd : (x == ("__debug__" : Str)) = false := by decide) (hcd : (x == ("__classdict__" : Str)) = false := by decide)
    (hbase : attributeBase (.Name x npos) "append" X.env (eval (.Name x npos) X.env) = eval (.Name x npos) X.env := by rfl)
    (hfew : ((backTo cpos (starEach [e] X.env)).all (fun x => !x.1) && (backToKw cpos (keywordEach [] X.env)).all (fun x => x.1.isSome)
      && decide ([e].length + ([] : List Keyword).length + (if ([] : List Keyword).isEmpty then 0 else 1) < 30)) = true := by rfl)
    (hline : (apos.endLine == cpos.line) = true := by rfl) (hs : starEach [e] X.env = (false, eval e X.env) :: starEach [] X.env := by rfl) (hplain : (backTo cpos (starEach [] X.env)).any (·.1) = false := by rfl)
    (hsw : swapsWith (.Call (.Attribute (.Name x npos) "append" apos) [e] [] cpos) none pos.line X.env = pure false := by rfl) :
    YS X T Z W own ob (.Expr (.Call (.Attribute (.Name x npos) "append" apos) [e] [] cpos) pos) (sApp i f) own := by
  have h1 := ps_expr (pos := pos) (pe_bm PySem.F.plainAttrs_list PySem.F.slot_list_append PySem.F.type_list_append mt_append (pe_var (pos := npos) hN hv hd hcd) (pa_cons he pa_nil hs) hbase hfew hline hs hplain) hsw
  rw [hK] at h1
  refine PS.imp h1 fun D σ H ⟨kp, F, ρ, g, c, q⟩ => ?_
  obtain ⟨p, d0, k1, k2, w, k4⟩ := c.own_ i hi
  simp only [sApp, k2] at q
  cases d0 with
  | lst ds =>
    obtain ⟨vs, e1, e2, e3⟩ := w.lst
    simp only at q
    refine ⟨_, k1, .inl ⟨rfl, vs, SqL.of e1⟩, tP.then c (to_bind q) fun d g1 v F1 H1 q1 c1 s1 r1 => ?_⟩
    obtain ⟨p', ds', k1', k2', w', k4'⟩ := c1.own_ i hi
    rw [k1] at k1'
    cases k1'
    rw [k2] at k2'
    cases k2'
    obtain ⟨us, z1, z2, z3⟩ := w'.lst
    cases hl : decide (ds.length < LIM) with
    | false => simp only [hl] at q1; exact q1.elim
    | true =>
      simp only [hl] at q1
      have hl' : us.length < LIM := by rw [z3.length]; exact of_decide_eq_true hl
      refine ⟨p, us, v, rfl, rfl, z1, by rw [← LIM_eq]; exact hl', ?_⟩
      exact q1 σ F1 _ (c1.wr hi k1 k2 (o' := .lst (us ++ [v])) (d' := .lst (ds ++ [d])) ⟨_, rfl, by simp; omega, z3.append (.cons r1 .nil)⟩) s1
  | _ => exact q.elim
/-- for -/
theorem s_for {tg iter : Expr} {body : List Stmt} {fi : XA} {gr : L2.TG} {gt : PP.TG} {is : List Nat} (hp : PassesOwn (model X.prog X.w) X.A X.env X.xe) (hc : X.calm = true) (hi : XI X T Z W own tg iter fi) (hg : XG X T tg gr gt is) (hb : YSs X T Z W own own body S own) (ho : ∀ i ∈ is, i ∉ own)
    (hs : ∀ x, foldedSetIterable iter X.env x = pure x := by intro _; rfl) : YS X T Z W own ob (.For tg iter body [] pos) (sFor gt fi S) own :=
  PS.imp (ps_for hp hc hi hg.1 hb hs) fun D σ H ⟨kp, F, ρ, g, c, q⟩ => by
    refine ⟨kp, F, ρ, g, c, (to_bind (σ := σ) q).imp fun ds g1 q1 J F1 H1 c1 s1 it hlen => ?_⟩
    obtain ⟨GG, Y, w, hG, hY⟩ := it.up (.refl F1)
    refine for_it w (fun i σ2 H2 => ∃ F2 ρ2 g2, Rel T Z own kp F2 H2 σ2 ρ2 g2 ∧ Sub F1 F2 ∧ oQ T Z W own ob kp F2 D (forL gt S (ds.drop i) ρ2 g2)) ⟨F1, ρ, g1, c1, .refl _, by simpa using q1.up s1⟩
      (fun i σ2 H2 hi ⟨F2, ρ2, g2, c2, s2, _⟩ => hG H2 (s2.trans c2.core.sub)) (fun i x σ2 H2 H3 hi ⟨F2, ρ2, g2, c2, s2, q2⟩ y => ?_) (fun σ2 H2 ⟨F2, ρ2, g2, c2, s2, q2⟩ => ?_)
    · have hd : ds[i]? = some ds[i] := by simp [hi]
      obtain ⟨F3, gr3, rx⟩ := hY i H2 x H3 _ F2 hd s2 c2.core.sub y
      have c3 := c2.grow gr3
      rw [drop_cons hd] at q2
      simp only [forL] at q2
      cases hgt : gt ds[i] ρ2 with
      | none => rw [hgt] at q2; exact q2.elim
      | some ρ3 =>
      rw [hgt] at q2
      simp only at q2
      refine hg.2 F3 H3 x ds[i] _ _ ρ3 _ c3.core.sub rx hgt fun σ3 u3 => ?_
      refine ⟨kp, F3, ρ3, g2, c3.ups u3 ho, ?_⟩
      have q3 := oQ.up q2 gr3.ff
      have s3 := s2.trans gr3.ff
      cases hS : S ρ3 g2 with
      | nx ρ4 g4 => rw [hS] at q3; exact fun σ4 F4 H4 c4 s4 => ⟨F4, ρ4, g4, c4, s3.trans s4, q3.up s4⟩
      | ct ρ4 g4 => rw [hS] at q3; exact fun σ4 F4 H4 c4 s4 => ⟨F4, ρ4, g4, c4, s3.trans s4, q3.up s4⟩
      | bk ρ4 g4 => rw [hS] at q3; exact fun σ4 F4 H4 c4 s4 => q3 σ4 F4 H4 c4 s4
      | rt d4 g4 => rw [hS] at q3; exact q3
      | ex e4 ρ4 g4 => rw [hS] at q3; exact q3
      | bad => rw [hS] at q3; exact q3
    · have e0 : ds.drop ds.length = [] := by simp
      rw [e0] at q2
      exact q2 σ2 F2 H2 c2 (.refl _)
theorem s_while {t : Expr} {body : List Stmt} {n : Nat} (hp : PassesOwn (model X.prog X.w) X.A X.env X.xe) (ht : XTt X T Z W own t ft) (hb : YSs X T Z W own own body S own) : YS X T Z W own ob (.While t body [] pos) (sWhile n ft S) own :=
  PS.imp (ps_while hp ht hb) fun D σ H ⟨kp, F, ρ, g, c, q⟩ => by
    refine ⟨fun m σ2 H2 => ∃ F2 ρ2 g2, Rel T Z own kp F2 H2 σ2 ρ2 g2 ∧ oQ T Z W own ob kp F2 D (whileL ft S m ρ2 g2), ⟨n, F, ρ, g, c, q⟩, fun m σ2 H2 ⟨F2, ρ2, g2, c2, q2⟩ => ?_⟩
    cases m with
    | zero => exact q2.elim
    | succ m =>
      simp only [whileL] at q2
      refine tPT.then c2 (to_bind (σ := σ2) q2) fun k g3 F3 H3 q3 c3 s3 => ?_
      cases k with
      | false =>
        rw [if_neg Bool.false_ne_true]
        exact q3 σ2 F3 H3 c3 s3
      | true =>
        rw [if_pos rfl]
        simp only at q3
        refine ⟨fun σ4 H4 => ∃ F4 ρ4 g4, Rel T Z own kp F4 H4 σ4 ρ4 g4 ∧ oQ T Z W own ob kp F4 D (whileL ft S m ρ4 g4), fun σ4 H4 z => ⟨m, Nat.lt_succ_self m, z⟩, kp, F3, ρ2, g3, c3, ?_⟩
        have q4 := oQ.up q3 s3
        cases hS : S ρ2 g3 with
        | nx ρ4 g4 => rw [hS] at q4; exact fun σ4 F4 H4 c4 s4 => ⟨F4, ρ4, g4, c4, q4.up s4⟩
        | ct ρ4 g4 => rw [hS] at q4; exact fun σ4 F4 H4 c4 s4 => ⟨F4, ρ4, g4, c4, q4.up s4⟩
        | bk ρ4 g4 => rw [hS] at q4; exact fun σ4 F4 H4 c4 s4 => q4 σ4 F4 H4 c4 s4
        | rt d4 g4 => rw [hS] at q4; exact q4
        | ex e4 ρ4 g4 => rw [hS] at q4; exact q4
        | bad => rw [hS] at q4; exact q4
end
/-! ### a def from its body -/
theorem fn_mk {T : Tb} {P : Program} {w : World} {mg : Str → Option Value} {base : Heap} {x qual : Str} {st : Stmt} {fA : Addr} {fd : FuncData} {N ps : List Str} {k m n : Nat} {S : PP.S} {own : List Nat} (F : Fun T.K x qual st fA fd) (Sc : FnScope N ps (defScope st)) (hm : ps.length = m) (hn : N.length = n)
    (hb : ∀ (cdv : Value) (A : Around) (outer : List PySem.Env) (s : Shared) (H : Hp) (E : XK) (Z : Act) (hZ : Z.fr = false), Room k (A.deeper (envOfC qual (defScope st) s.heap.objs.size fA cdv)) →
      YSs (cxOf (L2.CX P w) P w T.K mg base N qual (defScope st) fA cdv A outer s H E) T Z (fun cls d _ H => E cls d H) [] [] (defBody st) S own) :
    FnOk P w T.K mg base (L2.CX P w) (k + 1) fA fd ps (spF T (fnOf n S) m) := by
  subst hn
  refine F.okX Sc (fun vs H Q E ⟨F0, ds, g, hl, _⟩ => by rw [hl, hm]) fun cdv A outer s H vs Q E hr ⟨F0, ds, g, hl, h1, h2, h3, h4⟩ => ?_
  have core : Core (⟨H, F0, g.on, g.at_, false⟩ : Act) (fun _ => none) F0 H g := {
    sub := h1
    kph := fun _ _ e => by cases e
    kpf := fun _ _ e => by cases e
    base := fun _ _ e _ => e
    new := fun _ _ e => .inl e
    f0 := .refl _
    fh0 := h1
    on := rfl
    at_ := rfl
    gen := fun o => ⟨(h2 o).1, (h2 o).2.1, rfl, (h2 o).2.2⟩ }
  refine ⟨_, hb cdv A outer s H E ⟨H, F0, g.on, g.at_, false⟩ rfl hr, fun _ => none, F0, ds.map some ++ List.replicate (N.length - ds.length) none, g, ⟨core, ?_, (fun i hi => by cases hi), fun i d _ e => ?_⟩, ?_⟩
  · unfold L2.start; rw [List.length_append, List.length_append, List.length_map, List.length_map, List.length_replicate, List.length_replicate, h3.length]
  · by_cases hi : i < ds.length
    · rw [List.getElem?_append_left (by simpa using hi), List.getElem?_map] at e
      cases hd : ds[i]? with
      | none => rw [hd] at e; simp at e
      | some d' =>
        rw [hd] at e
        simp at e
        subst e
        obtain ⟨v, z1, z2⟩ := h3.get hd
        refine ⟨v, ?_, z2⟩
        unfold L2.start
        rw [List.getElem?_append_left (by simp; rw [h3.length]; exact hi), List.getElem?_map, z1]; rfl
    · rw [List.getElem?_append_right (by simp; omega)] at e
      rw [List.getElem?_replicate] at e
      split at e <;> simp at e
  · unfold fnOf at h4
    have mkPost : ∀ {F' H' : Hp} {g' : G}, Core (⟨H, F0, g.on, g.at_, false⟩ : Act) (fun _ => none) F' H' g' → Post F0 H g g' F' H' := fun {F' H' g'} c =>
      ⟨c.f0, c.sub, c.new, c.base, c.on, c.at_, fun o => ⟨(c.gen o).1, (c.gen o).2.1, (c.gen o).2.2.2⟩⟩
    cases hS : S (ds.map some ++ List.replicate (N.length - ds.length) none) g with
    | nx ρ1 g1 => rw [hS] at h4; exact fun σ' F' H' c' s' => h4 .non F' H' (mkPost c'.core) mk_non
    | rt d1 g1 => rw [hS] at h4; exact rtQ.mk rfl fun v F' H' c' s' r => h4 v F' H' (mkPost c') r
    | bk ρ1 g1 => rw [hS] at h4; exact h4.elim
    | ct ρ1 g1 => rw [hS] at h4; exact h4.elim
    | ex e ρ1 g1 => rw [hS] at h4; exact fun cls dd σ' F' H' c' s' r => h4 cls dd F' H' (mkPost c'.core) r
    | bad => rw [hS] at h4; exact h4.elim
/-- another function that says the same wherever it says anything -/
theorem fn_as {T : Tb} {P : Program} {w : World} {mg : Str → Option Value} {base : Heap} {fA : Addr} {fd : FuncData} {ps : List Str} {k m : Nat} {f f' : FN} (h : FnOk P w T.K mg base (L2.CX P w) k fA fd ps (spF T f m)) (e : ∀ ds g, ds.length = m → f' ds g ≠ .bad → f ds g = f' ds g) :
    FnOk P w T.K mg base (L2.CX P w) k fA fd ps (spF T f' m) := h.imp fun vs H Q E ⟨F0, ds, g, hl, h1, h2, h3, h4⟩ => by
  refine ⟨F0, ds, g, hl, h1, h2, h3, ?_⟩
  have hn : f' ds g ≠ .bad := fun z => by rw [z] at h4; exact h4
  rw [e ds g (by rw [← h3.length, hl]) hn]
  exact h4
end PP

set_option Elab.async false
set_option linter.all false
set_option maxRecDepth 100000
set_option maxHeartbeats 4000000
namespace PP
open PySem L2
open PyProof.Rows (envOfC)

/-! ### try: several clauses, with and without a name -/
/-- a clause: its class, its name's slot, its suite's reading -/
structure Cl where
  c : Value
  i : Option Nat
  ts : Addr → Value → Option Addr → TS
def gone (i : Option Nat) (D : Ends) : Ends := match i with
  | none => D
  | some i => { nx := fun σ' H' => D.nx (σ'.set i none) H', rt := D.rt, bk := fun σ' H' => D.bk (σ'.set i none) H', ct := fun σ' H' => D.ct (σ'.set i none) H' }
def bound (i : Option Nat) (a : Addr) (σ : St) : St := match i with
  | none => σ
  | some i => σ.set i (some (.ref a))
/-- what the clauses wish of an exception -/
def wCls (K : PySem.W.Frag) (Wout : WX) (D : Ends) : List Cl → WX
  | [] => Wout
  | cl :: r => fun cls d σ H => ∃ b, PySem.W.exmOne K cls cl.c = some b ∧ (b = true → ∀ a, H a = none → cl.ts a cls d (gone cl.i D) (bound cl.i a σ) H) ∧ (b = false → wCls K Wout D r cls d σ H)
inductive ClsOk (X : Cx) : List ExceptHandler → List Cl → Prop
  | nil : ClsOk X [] []
  | bare {x : Str} {c : Value} {ts : Addr → Value → Option Addr → TS} {b₀ : Stmt} {suite : List Stmt} {np pos' : Pos} {hds : List ExceptHandler} {l : List Cl} (hc : Names X x c)
      (hsu : ∀ (a : Addr) (oe : Obj) (cls : Value) (d : Option Addr) (pn : List (Addr × Obj)), Zc cls d oe → (∃ vs, oe.data = .fields vs) → PSs (X.suite a ((a, oe) :: pn)) (b₀ :: suite) (ts a cls d)) (r : ClsOk X hds l) :
      ClsOk X (.ExceptHandler (some (.Name x np)) none (b₀ :: suite) pos' :: hds) (⟨c, none, ts⟩ :: l)
  | named {x n : Str} {c : Value} {i : Nat} {ts : Addr → Value → Option Addr → TS} {b₀ : Stmt} {suite : List Stmt} {np pos' : Pos} {hds : List ExceptHandler} {l : List Cl} (hc : Names X x c) (hN : X.N.Nodup) (hi : X.N[i]? = some n) (hln : X.env.kindOf n = some .local)
      (hsu : ∀ (a : Addr) (oe : Obj) (cls : Value) (d : Option Addr) (pn : List (Addr × Obj)), Zc cls d oe → (∃ vs, oe.data = .fields vs) → PSs (X.suite a ((a, oe) :: pn)) (b₀ :: suite) (ts a cls d)) (r : ClsOk X hds l) :
      ClsOk X (.ExceptHandler (some (.Name x np)) (some n) (b₀ :: suite) pos' :: hds) (⟨c, some i, ts⟩ :: l)
section
variable {X : Cx} {body : List Stmt} {h₀ : ExceptHandler} {hds : List ExceptHandler} {l : List Cl} {pos : Pos} {tb : WX → TS} {Wout : WX}
theorem ps_tryC (hs : X.stack = X.env :: X.outer) (hf : X.env.frame = some X.env.locals) (tk : Takes X Wout)
    (hb : ∀ (W : WX) (pn : List (Addr × Obj)) (xe : Value → Shared → Prop), Takes (X.tr pn xe) W → PassesOwn (model X.prog X.w) X.A X.env xe → PSs (X.tr pn xe) body (tb W))
    (hh : ClsOk X (h₀ :: hds) l) : PS X (.Try body (h₀ :: hds) [] [] pos) (fun D σ H => tb (wCls X.K Wout D l) D σ H) := by
  constructor
  intro pins s σ H D I h
  have ok := I.ok
  have hfr : X.A.frames = some (X.env :: X.outer) := by rw [I.ok.frames, hs]
  refine PySem.wpAny_Try_except ?_
  have hb' := hb (wCls X.K Wout D l) (X.pn ++ pins) (fun e s₁ => wpAny (model X.prog X.w) X.A (noteFrame e X.env) (fun _ s₂ => wpAny (model X.prog X.w) X.A (setFlight e none)
    (fun _ s₃ => wpAny (model X.prog X.w) X.A (handleBy e X.env (h₀ :: hds)) (SP X pins D) X.xe s₃) X.xe s₂) X.xe s₁)
  have out : ∀ {f : Flow} {s1 : Shared} {xe : Value → Shared → Prop}, SP (X.tr (X.pn ++ pins) xe) [] D f s1 → SP X pins D f s1 := fun {f s1 xe} hsp => by
    cases f with
    | next => obtain ⟨σ', H', J', q⟩ := hsp; exact ⟨σ', H', J'.ofTry ok, q⟩
    | brk => obtain ⟨σ', H', J', q⟩ := hsp; exact ⟨σ', H', J'.ofTry ok, q⟩
    | cont => obtain ⟨σ', H', J', q⟩ := hsp; exact ⟨σ', H', J'.ofTry ok, q⟩
    | ret u => obtain ⟨v, σ', H', J', r, q⟩ := hsp; exact ⟨v, σ', H', J'.ofTry ok, r, q⟩
  refine wpAny_mono ((hb' (fun u s' xx => ?_) PassesOwn.looking).run [] s σ H D (I.toTry _) h) (fun f s1 hsp => ?_) (fun e s1 he => he)
  · obtain ⟨a, B, sI, pins', σ', H', cls, d, rfl, J', nb, up, sky, na, os, ag, w⟩ := xx
    have J := J'.ofTry ok
    have sky' : Sky B (X.env :: X.outer) a (Zc cls d) X.env.locals s'.heap := hs ▸ sky
    refine Sky.land Zc.steady hfr hf sky' (fun h3 fl3 up3 => ?_)
    have J3 := J.landed (s' := { s' with heap := h3 }) nb fl3.1 (up.trans up3) os ag
    obtain ⟨oe3, vs3, he3, hz3, hd3⟩ := fl3.there
    have nfr : a ∉ frs (X.env :: X.outer) := fun hm => by
      obtain ⟨_, o', e', hnf⟩ := fl3.2.2.1.mem hm
      rw [he3] at e'
      cases e'
      exact hnf _ hd3
    have nL : a ≠ X.env.locals := fun z => nfr (List.mem_filterMap.mpr ⟨X.env, List.mem_cons_self, by rw [hf, z]⟩)
    have nF : a ∉ X.fs := fun hm => by
      obtain ⟨e1, e2, e3⟩ := List.mem_filterMap.mp hm
      exact nfr (List.mem_filterMap.mpr ⟨e1, List.mem_cons_of_mem _ e2, e3⟩)
    have S3 := J3.suite he3 hd3 na nL nF
    have test : ∀ {x : Str} {c : Value} {np : Pos} {Q : Value → Shared → Prop} {E : Value → Shared → Prop}, Names X x c → Q c { s' with heap := h3 } →
        wpAny (model X.prog X.w) (X.A.mark (some (.ref a))) (eval (.Name x np) X.env) Q E { s' with heap := h3 } := fun {x c np Q E} hc q => by
      rcases hc with ⟨hg, hdbg, hm | ⟨hm, hv, hnn⟩⟩
      · exact ld_glob (X := X.suite a ((a, oe3) :: (X.pn ++ pins))) S3 hg hm q hdbg
      · exact ld_blt (X := X.suite a ((a, oe3) :: (X.pn ++ pins))) S3 hg hm hv q hnn hdbg
    have go : ∀ {hs' : List ExceptHandler} {l' : List Cl}, ClsOk X hs' l' → wCls X.K Wout D l' cls d σ' H' → wpAny (model X.prog X.w) X.A (handleBy (.ref a) X.env hs') (SP X pins D) X.xe { s' with heap := h3 } := by
      intro hs' l' hk
      induction hk with
      | nil =>
        intro w
        refine PySem.wpAny_handleBy_nil ?_
        obtain ⟨k1, k2, k3, oe, vs, T, oT, ts', he, hz, hd, h1, hr⟩ := id fl3
        unfold PySem.passOn
        refine wpAny_bind (wpAny_field he hd h1 ?_)
        rw [if_neg (by simp : ¬ ((Value.ref T == Value.none) = true))]
        have fin : wpAny (model X.prog X.w) X.A (setFlight (.ref a) X.env.frame) (fun _ s4 => wpAny (model X.prog X.w) X.A (throw (.ref a) : Sem Flow) (SP X pins D) X.xe s4) X.xe { s' with heap := h3 } := by
          rw [hf]
          exact HandSPX.setFlight_upZ fl3 fun h4 hh4 up4 => PySem.wpAny_throw (tk _ _ ⟨a, B, sI, pins, σ', H', cls, d, rfl, J, nb, (up.trans up3).trans up4, .inr (.inr (by rw [hs]; exact hh4)), na, os, ag, w⟩)
        first | exact wpAny_bind (wpAny_pure (wpAny_bind fin)) | exact wpAny_bind fin
      | @bare x c ts b₀ suite np pos' hds2 l2 hc hsu r ih =>
        rintro ⟨b, hb1, hyes, hno⟩
        refine PySem.wpAny_handleBy_cons (PySem.codeAny_handlers_test ?_) (by intro q; cases q)
        have LT : PySem.W.Looks (model X.prog X.w) h3 (typeOf (.ref a)) cls := fun A Q E s k q => PySem.wpAny_typeOf_ref (k _ _ he3) (by rw [hz3.1]; exact q)
        refine test hc ((PySem.W.exm_one (M := model X.prog X.w) J3.kIn LT hb1).here ?_)
        cases b with
        | false => exact ih (hno rfl)
        | true =>
          refine PySem.codeAny_handlers_suite ?_
          refine HandSPX.lands_againZ fl3 (fun h4 fl4 up4 => ?_)
          have J4 := J.landed (s' := { s' with heap := h4 }) nb fl4.1 ((up.trans up3).trans up4) os ag
          obtain ⟨oe4, vs4, he4, hz4, hd4⟩ := fl4.there
          refine wpAny_mono ((hsu a oe4 cls d (X.pn ++ pins) hz4 ⟨_, hd4⟩).run [] _ _ H' _ (J4.suite he4 hd4 na nL nF) (hyes rfl a na)) (fun f s6 hsp => ?_) fun _ _ z => False.elim z
          cases f with
          | next => obtain ⟨σ6, H6, S6, q6⟩ := hsp; exact ⟨_, _, S6.unsuite ok, q6⟩
          | brk => obtain ⟨σ6, H6, S6, q6⟩ := hsp; exact ⟨_, _, S6.unsuite ok, q6⟩
          | cont => obtain ⟨σ6, H6, S6, q6⟩ := hsp; exact ⟨_, _, S6.unsuite ok, q6⟩
          | ret u => obtain ⟨v6, σ6, H6, S6, r6, q6⟩ := hsp; exact ⟨_, _, _, S6.unsuite ok, r6, q6⟩
      | @named x n c i ts b₀ suite np pos' hds2 l2 hc hN hi hln hsu r ih =>
        rintro ⟨b, hb1, hyes, hno⟩
        refine PySem.wpAny_handleBy_cons (PySem.codeAny_handlers_test ?_) (by intro q; cases q)
        have LT : PySem.W.Looks (model X.prog X.w) h3 (typeOf (.ref a)) cls := fun A Q E s k q => PySem.wpAny_typeOf_ref (k _ _ he3) (by rw [hz3.1]; exact q)
        refine test hc ((PySem.W.exm_one (M := model X.prog X.w) J3.kIn LT hb1).here ?_)
        cases b with
        | false => exact ih (hno rfl)
        | true =>
          refine PySem.codeAny_handlers_suite_as ?_
          refine HandSPX.lands_againZ fl3 (fun h4 fl4 up4 => ?_)
          have J4 := J.landed (s' := { s' with heap := h4 }) nb fl4.1 ((up.trans up3).trans up4) os ag
          obtain ⟨oe4, vs4, he4, hz4, hd4⟩ := fl4.there
          refine store_ok (X := X.suite a ((a, oe4) :: (X.pn ++ pins))) (v := .ref a) (J4.suite he4 hd4 na nL nF) hN hi (.inl hln) rfl (fun s5 S5 => ?_) (.inr hln)
          refine wpAny_mono ((hsu a oe4 cls d (X.pn ++ pins) hz4 ⟨_, hd4⟩).run [] s5 _ H' _ S5 (hyes rfl a na)) (fun f s6 hsp => ?_) fun _ _ z => False.elim z
          have fin : ∀ {σ6 : St} {H6 : Hp} {Q : Shared → Prop}, L2.Inv (X.suite a ((a, oe4) :: (X.pn ++ pins))) [] σ6 H6 s6 → (∀ s7, L2.Inv X pins (σ6.set i none) H6 s7 → Q s7) →
              wpAny (model X.prog X.w) X.A (do bindName X.env n .none; unbindBehindTheSuite X.env n pos') (fun _ s7 => Q s7) X.xe s6 := fun {σ6 H6 Q} S6 hq => gone_ok (S6.unsuite ok) hN hi hln hq
          cases f with
          | next => obtain ⟨σ6, H6, S6, q6⟩ := hsp; exact fin S6 fun s7 J7 => ⟨_, _, J7, q6⟩
          | brk => obtain ⟨σ6, H6, S6, q6⟩ := hsp; exact fin S6 fun s7 J7 => ⟨_, _, J7, q6⟩
          | cont => obtain ⟨σ6, H6, S6, q6⟩ := hsp; exact fin S6 fun s7 J7 => ⟨_, _, J7, q6⟩
          | ret u => obtain ⟨v6, σ6, H6, S6, r6, q6⟩ := hsp; exact fin S6 fun s7 J7 => ⟨_, _, _, J7, r6, q6⟩
    exact go hh w
  · cases f with
    | next => exact PySem.wpAny_execs_nil (out hsp)
    | brk => exact out hsp
    | cont => exact out hsp
    | ret u => exact out hsp
end
end PP

set_option Elab.async false
set_option linter.all false
set_option maxRecDepth 100000
set_option maxHeartbeats 4000000
namespace PP
open PySem L2

/-! ### an exception that a suite holds -/
abbrev Tb.at (T : Tb) (x : Option (Addr × Addr)) : Tb := { T with exn := x }
mutual
theorem rep_exn {T : Tb} {F : Hp} (hT : T.exn = none) (x : Option (Addr × Addr)) : ∀ (d : D) (v : V), Rep T F v d → Rep (T.at x) F v d
  | .non, _, h => h
  | .bl _, _, h => h
  | .int _, _, h => h
  | .str _, _, h => h
  | .tup l, v, h => by
    obtain ⟨a, vs, rfl, h2, h3, h4⟩ := rep_tup h
    exact mk_tup h2 h3 (repL_exn hT x l vs h4)
  | .lst l, v, h => by
    obtain ⟨a, vs, rfl, h2, h3, h4⟩ := rep_lst h
    exact mk_lst h2 h3 (repL_exn hT x l vs h4)
  | .fn _, _, h => h
  | .gen _, _, h => h
  | .dic ks ds, v, h => by
    obtain ⟨a, kvs, rfl, h2, h3, h4, h5⟩ := rep_dic h
    unfold Rep
    exact ⟨a, kvs, rfl, h2, h3, repL_exn hT x ks _ h4, repL_exn hT x ds _ h5⟩
  | .ins c fs, v, h => by
    unfold Rep at h ⊢
    rcases h with ⟨a, C, dx, ps, h1, h2, h3, h4, h5⟩ | ⟨a, d, ps, h1, h2, h3, h4, h5⟩
    · exact .inl ⟨a, C, dx, ps, h1, h2, h3, h4, repL_exn hT x fs _ h5⟩
    · rw [hT] at h1; cases h1
theorem repL_exn {T : Tb} {F : Hp} (hT : T.exn = none) (x : Option (Addr × Addr)) : ∀ (ds : List D) (vs : List V), RepL T F vs ds → RepL (T.at x) F vs ds
  | [], vs, h => by rw [h.nil_inv]; exact .nil
  | d :: ds, vs, h => by
    obtain ⟨v, r, rfl, h1, h2⟩ := h.inv2
    exact .cons (rep_exn hT x d v h1) (repL_exn hT x ds r h2)
end
mutual
theorem rep_unexn {T : Tb} {F : Hp} (x : Option (Addr × Addr)) : ∀ (d : D) (v : V), isDat d = true → Rep (T.at x) F v d → Rep T F v d
  | .non, _, _, h => h
  | .bl _, _, _, h => h
  | .int _, _, _, h => h
  | .str _, _, _, h => h
  | .tup l, v, e, h => by
    obtain ⟨a, vs, rfl, h2, h3, h4⟩ := rep_tup h
    exact mk_tup h2 h3 (repL_unexn x l vs (by simpa [isDat] using e) h4)
  | .lst l, v, e, h => by
    obtain ⟨a, vs, rfl, h2, h3, h4⟩ := rep_lst h
    exact mk_lst h2 h3 (repL_unexn x l vs (by simpa [isDat] using e) h4)
  | .fn _, _, e, _ => by simp [isDat] at e
  | .gen _, _, e, _ => by simp [isDat] at e
  | .dic _ _, _, e, _ => by simp [isDat] at e
  | .ins _ _, _, e, _ => by simp [isDat] at e
theorem repL_unexn {T : Tb} {F : Hp} (x : Option (Addr × Addr)) : ∀ (ds : List D) (vs : List V), isDatL ds = true → RepL (T.at x) F vs ds → RepL T F vs ds
  | [], vs, _, h => by rw [h.nil_inv]; exact .nil
  | d :: ds, vs, e, h => by
    obtain ⟨v, r, rfl, h1, h2⟩ := h.inv2
    simp only [isDatL, Bool.and_eq_true] at e
    exact .cons (rep_unexn x d v e.1 h1) (repL_unexn x ds r e.2 h2)
end
theorem Rel.exn {T : Tb} {Z : Act} {kp F H : Hp} {σ : St} {ρ : Env} {g : G} (hT : T.exn = none) (x : Option (Addr × Addr)) (c : Rel T Z [] kp F H σ ρ g) : Rel (T.at x) Z [] kp F H σ ρ g where
  core := c.core
  len := c.len
  own_ := fun i hi => by cases hi
  shr := fun i d hi e => by
    obtain ⟨v, h1, h2⟩ := c.shr i d hi e
    exact ⟨v, h1, rep_exn hT x d v h2⟩
inductive TrCls (X : Cx) (T : Tb) (Z : Act) (ob own2 : List Nat) : List ExceptHandler → List Cl → List (Nat × Option Nat × PP.S) → Prop
  | nil : TrCls X T Z ob own2 [] [] []
  | bare {x : Str} {c : Value} {n : Nat} {S : PP.S} {b₀ : Stmt} {suite : List Stmt} {np pos' : Pos} {hds : List ExceptHandler} {l : List Cl} {hs : List (Nat × Option Nat × PP.S)} (hc : Names X x c) (hx : ∀ m C, T.exA m = some C → PySem.W.exmOne T.K (.ref C) c = some (decide (n = m)))
      (hsu : ∀ (a : Addr) (oe : Obj) (cls : Value) (d : Option Addr) (pn : List (Addr × Obj)), Zc cls d oe → (∃ vs, oe.data = .fields vs) → YSs (X.suite a ((a, oe) :: pn)) T Z noW [] ob (b₀ :: suite) S own2) (r : TrCls X T Z ob own2 hds l hs) :
      TrCls X T Z ob own2 (.ExceptHandler (some (.Name x np)) none (b₀ :: suite) pos' :: hds) (⟨c, none, fun _ _ _ => tS T Z noW [] ob S own2⟩ :: l) ((n, none, S) :: hs)
  | named {x nm : Str} {i : Nat} {c : Value} {n : Nat} {C0 : Addr} {S : PP.S} {b₀ : Stmt} {suite : List Stmt} {np pos' : Pos} {hds : List ExceptHandler} {l : List Cl} {hs : List (Nat × Option Nat × PP.S)} (hc : Names X x c) (hx : ∀ m C, T.exA m = some C → PySem.W.exmOne T.K (.ref C) c = some (decide (n = m)))
      (hC : T.exA n = some C0) (hN : X.N.Nodup) (hi : X.N[i]? = some nm) (hln : X.env.kindOf nm = some .local)
      (hsu : ∀ (a : Addr) (oe : Obj) (d : Addr) (pn : List (Addr × Obj)), Zc (.ref C0) (some d) oe → (∃ vs, oe.data = .fields vs) → YSs (X.suite a ((a, oe) :: pn)) (T.at (some (a, d))) Z noW [] ob (b₀ :: suite) S []) (r : TrCls X T Z ob own2 hds l hs) :
      TrCls X T Z ob own2 (.ExceptHandler (some (.Name x np)) (some nm) (b₀ :: suite) pos' :: hds) (⟨c, some i, fun a cls d D σ H => (cls = .ref C0 ∧ ∃ dx, d = some dx) ∧ tS (T.at (some (a, d.getD 0))) Z noW [] ob S [] D σ H⟩ :: l) ((n, some i, S) :: hs)
section
variable {X : Cx} {T : Tb} {Z : Act} {W : WX} {own ob own1 own2 : List Nat}
theorem PSs.pre {X : Cx} {p : Prop} {sts : List Stmt} {t : TS} (h : p → PSs X sts t) : PSs X sts (fun D σ H => p ∧ t D σ H) := ⟨fun pins s σ H D I ⟨z, q⟩ => (h z).run pins s σ H D I q⟩
theorem TrCls.ok {hds : List ExceptHandler} {l : List Cl} {hs : List (Nat × Option Nat × PP.S)} (h : TrCls X T Z ob own2 hds l hs) : ClsOk X hds l := by
  induction h with
  | nil => exact .nil
  | bare hc hx hsu r ih => exact .bare hc hsu ih
  | named hc hx hC hN hi hln hsu r ih =>
    refine .named hc hN hi hln (fun a oe cls d pn hz hf => PSs.pre fun z => ?_) ih
    obtain ⟨rfl, dx, rfl⟩ := z
    exact hsu a oe dx pn hz hf
theorem oQ.noEx {own' : List Nat} {kp F : Hp} {D : Ends} {o : O} (h : oQ T Z W own' ob kp F D (noExO o)) : oQ T Z noW own' ob kp F D o := by
  cases o with
  | ex e ρ g => exact h.elim
  | nx ρ g => exact h
  | rt d g => exact h
  | bk ρ g => exact h
  | ct ρ g => exact h
  | bad => exact h
theorem try_w {D : Ends} (hz : Z.fr = false) (hT : T.exn = none) (hK : X.K = T.K) {hds : List ExceptHandler} {l : List Cl} {hs : List (Nat × Option Nat × PP.S)} (h : TrCls X T Z ob own2 hds l hs) {kp F H : Hp} {σ : St} {ρ : Env} {g : G} {cls : Value} {dd : Option Addr} {n : Nat} {pay : List PP.D}
    (c : Rel T Z [] kp F H σ ρ g) (x : ExRep T F cls dd (.mk n pay)) (q : oQ T Z W own2 ob kp F D (handleL n pay ρ g hs)) : wCls X.K W D l cls dd σ H := by
  induction h with
  | nil => exact q cls dd σ F H c (.refl _) x
  | @bare x' c' n' S b₀ suite np pos' hds l hs hc hx hsu r ih =>
    obtain ⟨C, h1, rfl, h3⟩ := id x
    refine ⟨_, by rw [hK]; exact hx _ _ h1, fun e a na => ?_, fun e => ?_⟩
    · have e' := of_decide_eq_true e
      simp only [handleL, if_pos e'] at q
      exact ⟨kp, F, ρ, g, c, q.noEx⟩
    · have e' := of_decide_eq_false e
      simp only [handleL, if_neg e'] at q
      exact ih q
  | @named x' nm i c' n' C0 S b₀ suite np pos' hds l hs hc hx hC hN hi hln hsu r ih =>
    obtain ⟨C, h1, rfl, h3⟩ := id x
    refine ⟨_, by rw [hK]; exact hx _ _ h1, fun e a na => ?_, fun e => ?_⟩
    · have e' := of_decide_eq_true e
      simp only [handleL, if_pos e'] at q
      cases pay with
      | nil => exact q.elim
      | cons p0 pr =>
        rcases h3 with ⟨h4, _⟩ | ⟨d, fs, rfl, k2, k3, k4⟩
        · cases h4
        · have cT := c.exn hT (some (a, d))
          have r0 : Rep (T.at (some (a, d))) F (.ref a) (.ins n (p0 :: pr)) := by
            unfold Rep
            exact .inr ⟨a, d, fs, rfl, rfl, k2, k3, repL_exn hT _ _ _ k4⟩
          refine ⟨⟨by rw [e', h1] at hC; cases hC; rfl, d, rfl⟩, kp, F, ρ.set i (some (.ins n (p0 :: pr))), g, cT.set (fun h => by cases h) r0, ?_⟩
          cases hS : S (ρ.set i (some (.ins n (p0 :: pr)))) g with
          | rt dr g2 =>
            simp only [hS] at q
            cases hd : isDat dr with
            | false => simp only [hd] at q; exact q.elim
            | true =>
              simp only [hd] at q
              exact rtQ.mk hz fun v F' H' k s' rv => rtQ.old hz q v F' H' k s' (rep_unexn _ dr v hd rv)
          | nx ρ g => simp only [hS] at q; exact q.elim
          | bk ρ g => simp only [hS] at q; exact q.elim
          | ct ρ g => simp only [hS] at q; exact q.elim
          | ex e ρ g => simp only [hS] at q; exact q.elim
          | bad => simp only [hS] at q; exact q.elim
    · have e' := of_decide_eq_false e
      simp only [handleL, if_neg e'] at q
      exact ih q
theorem s_try {body : List Stmt} {h₀ : ExceptHandler} {hds : List ExceptHandler} {l : List Cl} {pos : Pos} {S : PP.S} {hs : List (Nat × Option Nat × PP.S)} (hz : Z.fr = false) (hst : X.stack = X.env :: X.outer) (hf : X.env.frame = some X.env.locals) (tk : Takes X W)
    (hb : ∀ (W : WX) (pn : List (Addr × Obj)) (xe : Value → Shared → Prop), Takes (X.tr pn xe) W → PassesOwn (model X.prog X.w) X.A X.env xe → YSs (X.tr pn xe) T Z W own ob body S own2)
    (hh : TrCls X T Z ob own2 (h₀ :: hds) l hs) (hT : T.exn = none) (hK : X.K = T.K := by rfl) : YS X T Z W own ob (.Try body (h₀ :: hds) [] [] pos) (sTry S hs) own2 :=
  PS.imp (ps_tryC hst hf tk hb hh.ok) fun D σ H ⟨kp, F, ρ, g, c, q⟩ => by
    refine ⟨kp, F, ρ, g, c, ?_⟩
    unfold sTry at q
    cases hS : S ρ g with
    | nx ρ1 g1 => rw [hS] at q; exact q
    | rt d g1 => rw [hS] at q; exact q
    | bk ρ1 g1 => rw [hS] at q; exact q
    | ct ρ1 g1 => rw [hS] at q; exact q
    | bad => rw [hS] at q; exact q
    | ex e ρ1 g1 =>
      rw [hS] at q
      obtain ⟨n, pay⟩ := e
      exact fun cls dd σ' F' H' c' s' x => try_w hz hT hK hh c' x (oQ.up q s')
end
end PP

set_option Elab.async false
set_option linter.all false
set_option maxRecDepth 100000
set_option maxHeartbeats 4000000
namespace PP
open PySem L2
open PyProof.Rows (envOfC)

/-! ### contracts, packed -/
structure Ok (P : Program) (w : World) (K : PySem.W.Frag) (mg : Str → Option Value) (base : Heap) (T : Tb) (k : Nat) (fA : Addr) (n : Nat) (f : FN) : Prop where
  ex : ∃ (fd : FuncData) (ps : List Str), FnOk P w K mg base (L2.CX P w) k fA fd ps (spF T f n) ∧ PySem.W.keepIn K (.ref fA) = true ∧ Binds K fd ps []
theorem Ok.mono {P : Program} {w : World} {K : PySem.W.Frag} {mg : Str → Option Value} {base : Heap} {T : Tb} {j k : Nat} {fA : Addr} {n : Nat} {f : FN} (o : Ok P w K mg base T j fA n f) (h : j ≤ k) : Ok P w K mg base T k fA n f := by
  obtain ⟨fd, ps, F, a, b⟩ := o.ex
  exact ⟨fd, ps, F.mono h, a, b⟩
theorem Ok.as {P : Program} {w : World} {mg : Str → Option Value} {base : Heap} {T : Tb} {k : Nat} {fA : Addr} {n : Nat} {f f' : FN} (o : Ok P w T.K mg base T k fA n f) (e : ∀ ds g, ds.length = n → f' ds g ≠ .bad → f ds g = f' ds g) : Ok P w T.K mg base T k fA n f' := by
  obtain ⟨fd, ps, F, a, b⟩ := o.ex
  exact ⟨fd, ps, fn_as F e, a, b⟩
theorem Ok.none {P : Program} {w : World} {K : PySem.W.Frag} {mg : Str → Option Value} {base : Heap} {T : Tb} {k : Nat} {fA : Addr} {n : Nat} {f : FN} (o : Ok P w K mg base T k fA n f) : Ok P w K mg base T k fA n (fun _ _ => .bad) := by
  obtain ⟨fd, ps, F, a, b⟩ := o.ex
  exact ⟨fd, ps, F.imp fun vs H Q E ⟨_, _, _, _, _, _, _, h⟩ => h.elim, a, b⟩
/-- args' lengths -/
def Ln (f : XA) (n : Nat) : Prop := ∀ ρ g ds g', f ρ g = .ok ds g' → ds.length = n
theorem al_nil : Ln aNil 0 := fun ρ g ds g' h => by cases h; rfl
theorem al_cons {f : PP.X} {a : XA} {n : Nat} (h : Ln a n) : Ln (aCons f a) (n + 1) := fun ρ g ds g' e => by
  unfold aCons at e
  cases hf : f ρ g with
  | ok d g1 =>
    rw [hf] at e
    simp only [PP.R.bind_ok] at e
    cases ha : a ρ g1 with
    | ok ds' g2 =>
      rw [ha] at e
      simp only [PP.R.bind_ok, PP.R.ok.injEq] at e
      obtain ⟨rfl, rfl⟩ := e
      simp [h _ _ _ _ ha]
    | ex e' g2 => rw [ha] at e; cases e
    | bad => rw [ha] at e; cases e
  | ex e' g2 => rw [hf] at e; cases e
  | bad => rw [hf] at e; cases e
section
variable {X : Cx} {T : Tb} {Z : Act} {W : WX} {own ob : List Nat} {e a b : Expr} {es : List Expr} {fa fb : PP.X} {f : XA} {p pos : Pos} {x : Str} {k k' n : Nat} {fA : Addr} {Fn : FN}
theorem x_callO (o : Ok X.prog X.w X.K X.mg X.base T k fA n Fn) (hl : es.length + 1 = n) (hr : Room k X.A) (hg : Gl X x) (hm : X.mg x = some (.ref fA)) (tk : Takes X W)
    (ha : XAs X T Z W own (e :: es) f) (hlen : Ln f n) (hdb : (x == ("__debug__" : Str)) = false := by decide) (he : starEach (e :: es) X.env = (false, eval e X.env) :: starEach es X.env := by rfl) (hpl : (backTo pos (starEach es X.env)).any (·.1) = false := by rfl) :
    XE X T Z W own (.Call (.Name x p) (e :: es) [] pos) (xCall Fn f) := by
  obtain ⟨fd, ps, F, hk, hb⟩ := o.ex
  exact x_call F hl hr hg hm hk hb tk ha hlen hdb he hpl
theorem isLst_xLc {own' : List Nat} {it : XA} {tg : PP.TG} {t : XT} {el : PP.X} : ∀ ρ g d g', xLc own' it tg t el ρ g = .ok d g' → ∃ l, d = .lst l := fun ρ g d g' h => by
  unfold xLc at h
  cases hi : it ρ g with
  | ok ds g1 =>
    rw [hi] at h
    simp only [PP.R.bind_ok] at h
    split at h
    · cases h; exact ⟨_, rfl⟩
    · cases h
  | ex e' g2 => rw [hi] at h; cases h
  | bad => rw [hi] at h; cases h
theorem isLst_list : ∀ ρ g d g', xCB listD f ρ g = .ok d g' → ∃ l, d = .lst l := fun ρ g d g' h => by
  unfold xCB at h
  cases hi : f ρ g with
  | ok ds g1 =>
    rw [hi] at h
    simp only [PP.R.bind_ok] at h
    unfold listD at h
    split at h <;> cases h <;> exact ⟨_, rfl⟩
  | ex e' g2 => rw [hi] at h; cases h
  | bad => rw [hi] at h; cases h
/-! ### e[::-1] of a list -/
theorem f_revL {k : Nat} {p1 p2 p3 : Pos} (ha : XE X T Z W own a fa) (hl : ∀ ρ g d g', fa ρ g = .ok d g' → ∃ l, d = .lst l) (hK : X.K = T.K := by rfl) :
    XF X T Z W own (.Subscript a (.Slice none none (some (.UnaryOp .USub (.Constant (.int 1) k p1) p2)) p3) pos) (xUn revD fa) := by
  have h1 := pe_revL (k := k) (p1 := p1) (p2 := p2) (p3 := p3) (pos := pos) ha
  rw [hK] at h1
  refine PE.imp h1 fun σ H Q ⟨kp, F, ρ, g, c, q⟩ => ?_
  have q' := q.bind
  refine ⟨kp, F, ρ, g, c, ?_⟩
  cases hf : fa ρ g with
  | ex e' g1 => rw [hf] at q'; exact q'
  | bad => rw [hf] at q'; exact q'
  | ok d g1 =>
    rw [hf] at q'
    obtain ⟨l, rfl⟩ := hl _ _ _ _ hf
    intro v F1 H1 c1 s1 r1
    obtain ⟨a', vs, rfl, e1, l1, r2⟩ := rep_lst r1
    exact ⟨a', vs, rfl, SqL.of (c1.core.sub _ _ e1), tPF.of (f := xUn revD fa) c1 (pF.up s1 _ _ q') (by simpa using l1) r2.reverse⟩
theorem isLst_rev (hl : ∀ ρ g d g', fa ρ g = .ok d g' → ∃ l, d = .lst l) : ∀ ρ g d g', xUn revD fa ρ g = .ok d g' → ∃ l, d = .lst l := fun ρ g d g' h => by
  unfold xUn at h
  cases hf : fa ρ g with
  | ok d1 g1 =>
    rw [hf] at h
    obtain ⟨l, rfl⟩ := hl _ _ _ _ hf
    cases h
    exact ⟨_, rfl⟩
  | ex e' g2 => rw [hf] at h; cases h
  | bad => rw [hf] at h; cases h
end
/-! ### a comprehension given to a name on its own line -/
section
variable {X : Cx} {T : Tb} {Z : Act} {W : WX} {own ob : List Nat} {tg iter elt : Expr} {ifs : List Expr} {fi : XA} {ft : XT} {fe : PP.X} {pos spos py : Pos} {i : Nat} {y : Str}
theorem s_setLF {scope : Scope} {ownN : List (Str × Nat)} {gr : L2.TG} {gt : PP.TG} {is : List Nat} (hc : X.calm = true) (hN : X.N.Nodup) (hy : X.N[i]? = some y) (hyl : X.env.scope.names.lookup y = some .local) (hsw : swapsWith (.ListComp elt [⟨tg, iter, ifs, 0⟩] scope pos) (some (.Name y py)) spos.line X.env = pure true)
    (hio : i ∉ own) (hi : XI X T Z W own tg iter fi) (ok : BlkOk X.N X.env.scope scope ownN)
    (hg : ∀ (s : Shared) (H : Hp) (C : Addr) (cl : List (Str × Addr)) (fp : List Addr), XG (X.blk s H scope (compEnvC scope cl C X.env) fp) T tg gr gt is)
    (ht : ∀ (s : Shared) (H : Hp) (C : Addr) (cl : List (Str × Addr)) (fp : List Addr), XTs (X.blk s H scope (compEnvC scope cl C X.env) fp) T Z noW own ifs ft)
    (he : ∀ (s : Shared) (H : Hp) (C : Addr) (cl : List (Str × Addr)) (fp : List Addr), XE (X.blk s H scope (compEnvC scope cl C X.env) fp) T Z noW own elt fe)
    (h1 : ∀ i ∈ own, i ∉ ownN.map (·.2)) (h2 : ∀ i ∈ is, i ∈ ownN.map (·.2)) (hs : ∀ x, foldedSetIterable iter X.env x = pure x := by intro _; rfl) :
    YS X T Z W own ob (.Assign [.Name y py] (.ListComp elt [⟨tg, iter, ifs, 0⟩] scope pos) spos) (sSet (PP.gName i) (xLc (ownN.map (·.2)) fi gt ft fe)) (i :: own) :=
  ⟨fun pins s0 σ0 H0 D0 I0 w0 => (PS.imp (t' := tS T Z W own ob (sSet (PP.gName i) (xLc (ownN.map (·.2)) fi gt ft fe)) (i :: own)) (ps_setLc hc hN hy hyl hsw hi ok (fun s H C cl fp => (hg s H C cl fp).1) ht he hs) fun D σ H ⟨kp, F, ρ, g, c, q⟩ =>
    lc_red (hg s0 H0 0 [] []).2 h1 h2 (tPF.then c (to_bind (σ := σ) q) fun ds g1 p F1 H1 q1 c1 s1 w n => by
      by_cases hl : i < ρ.length
      · simp only [PP.gName, if_pos hl] at q1
        exact q1 _ F1 H1 (c1.take w n hio hl) s1
      · simp only [PP.gName, if_neg hl] at q1
        exact q1.elim)).run pins s0 σ0 H0 D0 I0 w0⟩
theorem s_setL {scope : Scope} {ownN : List (Str × Nat)} {gr : L2.TG} {gt : PP.TG} {is : List Nat} (hc : X.calm = true) (hN : X.N.Nodup) (hy : X.N[i]? = some y) (hyl : X.env.scope.names.lookup y = some .local) (hsw : swapsWith (.ListComp elt [⟨tg, iter, ifs, 0⟩] scope pos) (some (.Name y py)) spos.line X.env = pure true)
    (hio : i ∉ own) (hi : XI X T Z W own tg iter fi) (ok : BlkOk X.N X.env.scope scope ownN)
    (hg : ∀ (s : Shared) (H : Hp) (C : Addr) (cl : List (Str × Addr)) (fp : List Addr), XG (X.blk s H scope (compEnvC scope cl C X.env) fp) T tg gr gt is)
    (ht : ∀ (s : Shared) (H : Hp) (C : Addr) (cl : List (Str × Addr)) (fp : List Addr), XTs (X.blk s H scope (compEnvC scope cl C X.env) fp) T Z noW own ifs ft)
    (he : ∀ (s : Shared) (H : Hp) (C : Addr) (cl : List (Str × Addr)) (fp : List Addr), XE (X.blk s H scope (compEnvC scope cl C X.env) fp) T Z noW own elt fe)
    (h1 : ∀ i ∈ own, i ∉ ownN.map (·.2)) (h2 : ∀ i ∈ is, i ∈ ownN.map (·.2)) (hs : ∀ x, foldedSetIterable iter X.env x = pure x := by intro _; rfl) :
    YS X T Z W own ob (.Assign [.Name y py] (.ListComp elt [⟨tg, iter, ifs, 0⟩] scope pos) spos) (sSet (PP.gName i) (xLc (ownN.map (·.2)) fi gt ft fe)) own :=
  s_post (s_setLF hc hN hy hyl hsw hio hi ok hg ht he h1 h2 hs) fun _ h => List.mem_cons_of_mem _ h
end
/-! ### a new list held while more is reckoned -/
section
variable {T : Tb} {Z : Act} {own : List Nat} {kp F H : Hp} {σ : St} {ρ : Env} {g : G} {p : Addr} {ds : PP.D}
theorem Rel.hold (c : Rel T Z own kp F H σ ρ g) (w : Own T Z kp F H p ds) (n : ∀ j ∈ own, σ[j]? ≠ some (some (.ref p))) : ∃ us, OwnC T F us ds ∧ Rel T Z own (upd kp p us) F H σ ρ g := by
  obtain ⟨us, e1, e2⟩ := w.at_
  refine ⟨us, e2, ?_, c.len, fun i hi => ?_, c.shr⟩
  · have k := c.core
    refine ⟨k.sub, fun a u e => ?_, fun a u e => ?_, k.base, k.new, k.f0, k.fh0, k.on, k.at_, fun o => ?_⟩
    · by_cases h : a = p
      · subst h; rw [upd_same] at e; cases e; exact e1
      · rw [upd_ne h] at e; exact k.kph a u e
    · by_cases h : a = p
      · subst h; exact w.f
      · rw [upd_ne h] at e; exact k.kpf a u e
    · obtain ⟨h1, h2, h3, h4⟩ := k.gen o
      exact ⟨h1, h2, by rw [upd_ne (Ne.symm (w.g o))]; exact h3, h4⟩
  · obtain ⟨q, es, h1, h2, w', h4⟩ := c.own_ i hi
    have hne : q ≠ p := fun z => n i hi (by rw [h1, z])
    exact ⟨q, es, h1, h2, ⟨w'.f, by rw [upd_ne hne]; exact w'.k, w'.h0, w'.g, w'.at_⟩, h4⟩
theorem Rel.unhold {us : HO} {F1 : Hp} (c : Rel T Z own (upd kp p us) F1 H σ ρ g) (k : kp p = none) (h0 : Z.H0 p = none) (r : OwnC T F1 us ds) (hg : Z.on = true → p ≠ Z.at_) : Rel T Z own kp F1 H σ ρ g ∧ Own T Z kp F1 H p ds ∧ ∀ j ∈ own, σ[j]? ≠ some (some (.ref p)) := by
  refine ⟨c.kpw fun a o e => by rw [upd_ne (fun z => by rw [z, k] at e; cases e)]; exact e, ⟨c.core.kpf p _ upd_same, k, h0, hg, us, c.core.kph p _ upd_same, r⟩, fun j hj e => ?_⟩
  obtain ⟨q, es, h1, h2, w', h4⟩ := c.own_ j hj
  rw [h1] at e
  cases e
  have := w'.k
  rw [upd_same] at this; cases this
end
theorem exQ.kpw {T : Tb} {Z : Act} {W : WX} {kp kp' F : Hp} {ρ : Env} {e : Ex} {g : G} (q : exQ T Z W kp F ρ e g) (h : Sub kp kp') : exQ T Z W kp' F ρ e g := fun cls dd σ' F' H' c s x => q cls dd σ' F' H' (c.kpw h) s x
theorem rQ.kpw {α : Type} {T : Tb} {Z : Act} {W : WX} {kp kp' F : Hp} {σ : St} {ρ : Env} {post : α → G → Prop} {x : R α} (q : rQ T Z W kp F σ ρ post x) (h : Sub kp kp') : rQ T Z W kp' F σ ρ post x := by
  cases x with
  | ok a g => exact q
  | ex e g => exact exQ.kpw q h
  | bad => exact q
section
variable {X : Cx} {T : Tb} {Z : Act} {W : WX} {own ob : List Nat} {a b : Expr} {fa fb : PP.X} {x y : Str} {i j : Nat} {px py pt pos : Pos} {kt k2 : Nat} {pt2 : Pos}
/-- x, y = a new list, b: x its owner -/
theorem s_parF (hc : X.calm = true) (hN : X.N.Nodup) (hi : X.N[i]? = some x) (hj : X.N[j]? = some y) (hij : i ≠ j)
    (hx : X.env.scope.names.lookup x = some .local) (hy : X.env.scope.names.lookup y = some .local) (ha : XF X T Z W own a fa) (hb : XE X T Z W own b fb)
    (hw : swappedStores [.Tuple [.Name x px, .Name y py] kt pt] (.Tuple [a, b] k2 pt2) X.env = pure (some [x, y])) (hio : i ∉ own) (hjo : j ∉ own)
    (hs : swapsWithSole [.Tuple [.Name x px, .Name y py] kt pt] (.Tuple [a, b] k2 pt2) pos.line X.env = pure false := by rfl) (hs1 : starEach [a, b] X.env = (false, eval a X.env) :: starEach [b] X.env := by rfl) (hs2 : starEach [b] X.env = (false, eval b X.env) :: starEach [] X.env := by rfl) :
    YS X T Z W own ob (.Assign [.Tuple [.Name x px, .Name y py] kt pt] (.Tuple [a, b] k2 pt2) pos) (sPar i j fa fb) (i :: own) :=
  PS.imp (ps_par hc hN hi hj hij hx hy (pa_cons ha (pa_cons hb pa_nil hs2) hs1) hw hs) fun D σ H ⟨kp, F, ρ, g, c, q⟩ => by
    refine tPF.then c (to_bind (σ := σ) q) fun ds g1 p F1 H1 q1 c1 s1 w n => ?_
    obtain ⟨us, r, ch⟩ := c1.hold w n
    have zk := w.k
    have ks : Sub kp (upd kp p us) := (Sub.refl kp).upd zk
    refine tP.then ch (((to_bind (σ := σ) q1).up s1 fun _ _ z => z).kpw ks) fun d g2 v F2 H2 q2 c2 s2 r2 => ?_
    by_cases hlr : i < ρ.length ∧ j < ρ.length
    · simp only [if_pos hlr] at q2
      obtain ⟨c3, w3, n3⟩ := c2.unhold zk w.h0 (r.mono s2) w.g
      exact ⟨.ref p, v, rfl, q2 _ F2 H2 ((c3.take w3 n3 hio hlr.1).set (fun h => (List.mem_cons.mp h).elim (fun e => hij e.symm) hjo) r2) (s1.trans s2)⟩
    · simp only [if_neg hlr] at q2
      exact q2.elim
/-- x, y = a, a new list: y its owner -/
theorem s_parG (hc : X.calm = true) (hN : X.N.Nodup) (hi : X.N[i]? = some x) (hj : X.N[j]? = some y) (hij : i ≠ j)
    (hx : X.env.scope.names.lookup x = some .local) (hy : X.env.scope.names.lookup y = some .local) (ha : XE X T Z W own a fa) (hb : XF X T Z W own b fb)
    (hw : swappedStores [.Tuple [.Name x px, .Name y py] kt pt] (.Tuple [a, b] k2 pt2) X.env = pure (some [x, y])) (hio : i ∉ own) (hjo : j ∉ own)
    (hs : swapsWithSole [.Tuple [.Name x px, .Name y py] kt pt] (.Tuple [a, b] k2 pt2) pos.line X.env = pure false := by rfl) (hs1 : starEach [a, b] X.env = (false, eval a X.env) :: starEach [b] X.env := by rfl) (hs2 : starEach [b] X.env = (false, eval b X.env) :: starEach [] X.env := by rfl) :
    YS X T Z W own ob (.Assign [.Tuple [.Name x px, .Name y py] kt pt] (.Tuple [a, b] k2 pt2) pos) (sPar i j fa fb) (j :: own) :=
  PS.imp (ps_par hc hN hi hj hij hx hy (pa_cons ha (pa_cons hb pa_nil hs2) hs1) hw hs) fun D σ H ⟨kp, F, ρ, g, c, q⟩ => by
    refine tP.then c (to_bind (σ := σ) q) fun d g1 v F1 H1 q1 c1 s1 r1 => ?_
    refine tPF.then c1 ((to_bind (σ := σ) q1).up s1 fun _ _ z => z) fun ds g2 p F2 H2 q2 c2 s2 w n => ?_
    by_cases hlr : i < ρ.length ∧ j < ρ.length
    · simp only [if_pos hlr] at q2
      have c3 := c2.set hio (Rep.mono s2 _ _ r1)
      have n3 : ∀ m ∈ own, (σ.set i (some v))[m]? ≠ some (some (.ref p)) := fun m hm => by
        rw [List.getElem?_set_ne (fun e => hio (by rw [e]; exact hm))]; exact n m hm
      exact ⟨v, .ref p, rfl, q2 _ F2 H2 (c3.take w n3 hjo (by simpa using hlr.2)) (s1.trans s2)⟩
    · simp only [if_neg hlr] at q2
      exact q2.elim
end
/-! ### a call of a value: no exception in the arguments -/
def Nx (f : XA) : Prop := ∀ ρ g e g', f ρ g ≠ .ex e g'
theorem nx_nil : Nx aNil := fun _ _ _ _ h => by cases h
theorem nx_ix {i : Nat} {m : Int} {a : XA} (h : Nx a) : Nx (aCons (xBin ixD (xVar i) (xC (.int m))) a) := fun ρ g e g' q => by
  unfold aCons xBin xC xVar at q
  cases hv : ρ[i]? with
  | none => rw [hv] at q; cases q
  | some o =>
    rw [hv] at q
    cases o with
    | none => cases q
    | some d =>
      simp only [PP.R.bind_ok] at q
      cases hx : ixD d (.int m) with
      | none => rw [hx] at q; cases q
      | some d' =>
        rw [hx] at q
        simp only [ofO_some, PP.R.bind_ok] at q
        cases ha : a ρ g with
        | ok ds g2 => rw [ha] at q; cases q
        | bad => rw [ha] at q; cases q
        | ex e2 g2 => exact h _ _ _ _ ha
/-- a table's entries of one number of parameters -/
theorem tbl_of {P : Program} {w : World} {K : PySem.W.Frag} {mg : Str → Option Value} {base : Heap} {T : Tb} {k m : Nat} {tbl : Nat → FN}
    (h : ∀ n fA, T.fnA n = some fA → Ok P w K mg base T k fA m (tbl n) ∨ ∀ ds g, ds.length = m → tbl n ds g = .bad) : Tbl P w K mg base T k m tbl := ⟨fun n fA e => (h n fA e).imp (fun o => o.ex) id⟩
/-! ### suites that no run comes to -/
theorem ss_never {X : Cx} {T : Tb} {Z : Act} {W : WX} {own ob own2 : List Nat} {sts : List Stmt} : YSs X T Z W own ob sts (fun _ _ => .bad) own2 := PSs.imp pss_never fun D σ H ⟨kp, F, ρ, g, c, q⟩ => q.elim
end PP

set_option Elab.async false
set_option linter.all false
set_option maxRecDepth 100000
set_option maxHeartbeats 4000000
set_option exponentiation.threshold 10000
namespace PP
open PySem L2
open PyProof.Rows (envOfC)

/-! ### the draw -/
theorem take_inv {T : Tb} {F0 : Hp} {vs : List V} {ds : List D} {g : G} {P : D → G → Prop} {P2 : Ex → G → Prop} (r : RepL T F0 vs ds) (h : match takeF ds g with
    | .ok d g' => P d g'
    | .ex e g' => P2 e g'
    | .bad => False) : ∃ m : Int, vs = [.ref g.at_, .int m] ∧ g.on = true ∧ 0 < m ∧ m < 1000000000000000000 ∧ P (.int (tkG g m).1) (tkG g m).2 := by
  unfold takeF at h
  split at h
  · rename_i heq
    split at heq
    · rename_i a m
      split at heq
      · rename_i hc
        obtain ⟨h1, h2, h3, h4⟩ := hc
        cases heq
        obtain ⟨x, y, rfl, r1, r2⟩ := call2 r
        obtain rfl := rep_gen r1
        obtain rfl := rep_int r2
        exact ⟨m, by rw [h2], h1, h3, by omega, h⟩
      · cases heq
    · cases heq
  · rename_i heq
    split at heq
    · split at heq <;> cases heq
    · cases heq
  · exact h.elim
theorem take_post {F0 H : Hp} {g g' : G} (s : Sub F0 H) (hf : F0 g.at_ = none) (hh : ∃ o, H g.at_ = some o) (h1 : g'.on = g.on) (h2 : g'.at_ = g.at_) (h3 : GOk g') (ho : g.on = true) : Post F0 H g g' F0 (upd H g.at_ (.lst [.int g'.s, .int g'.t])) where
  ff := .refl _
  fh := s.upd hf
  new := fun a o e => .inl e
  keep := fun a o e n => by
    by_cases h : a = g.at_
    · exact absurd h (n ho)
    · rw [upd_ne h]; exact e
  on := h1
  at_ := h2
  gen := fun _ => ⟨upd_same, hf, h3⟩
theorem tkG_on (g : G) (m : Int) : (tkG g m).2.on = g.on := by unfold tkG; split <;> rfl
theorem tkG_at (g : G) (m : Int) : (tkG g m).2.at_ = g.at_ := by unfold tkG; split <;> rfl
theorem tkG_ok {g : G} {m : Int} (h : GOk g) (hm : 0 < m) : GOk (tkG g m).2 := by
  obtain ⟨h1, h2, h3⟩ := h
  unfold tkG
  split
  · exact ⟨Int.ediv_nonneg h1 (by omega), h2, h3⟩
  · exact ⟨h1, Int.emod_nonneg _ (by decide), Int.emod_lt_of_pos _ (by decide)⟩
theorem div_ok {m : Int} (h : 0 < m) (h2 : m < 1000000000000000000) : 0 < m ∧ m.natAbs.log2 < 9000 := by
  refine ⟨h, ?_⟩
  have h3 : m.natAbs ≠ 0 := by omega
  rw [Nat.log2_lt h3]
  have : m.natAbs < 2 ^ 60 := by
    have e : (2 : Nat) ^ 60 = 1152921504606846976 := by decide
    rw [e]; omega
  exact Nat.lt_of_lt_of_le this (Nat.pow_le_pow_right (by decide) (by decide))
/-! ### a def that promises nothing -/
theorem ok_bad {T : Tb} {P : Program} {w : World} {mg : Str → Option Value} {base : Heap} {x qual : Str} {st : Stmt} {fA : Addr} {fd : FuncData} {N ps : List Str} {k m : Nat} (F : Fun T.K x qual st fA fd) (b : Binds T.K fd ps []) (Sc : FnScope N ps (defScope st)) (hm : ps.length = m := by rfl) :
    Ok P w T.K mg base T (k + 1) fA m (fun _ _ => .bad) := by
  refine ⟨fd, ps, F.okX Sc (fun vs H Q E ⟨F0, ds, g, hl, _⟩ => by rw [hl, hm]) fun cdv A outer s H vs Q E hr ⟨F0, ds, g, hl, h1, h2, h3, h4⟩ => h4.elim, F.kp, b⟩
/-! ### the law -/
def spLaw (K : PySem.W.Frag) : Sp := fun vs H Q _ => ∃ (a : Addr) (ns : List Int), vs = [.ref a] ∧ SqL K H a (ns.map V.int) ∧ ns.length ≤ 63 ∧ ∀ H', Q (.bl true) H'
theorem PSs.ex {X : Cx} {α : Type} {sts : List Stmt} {t : α → TS} (h : ∀ z, PSs X sts (t z)) : PSs X sts (fun D σ H => ∃ z, t z D σ H) := ⟨fun pins s σ H D I ⟨z, q⟩ => (h z).run pins s σ H D I q⟩
/-- a state of the draw -/
def spState (K : PySem.W.Frag) : Sp := fun vs H Q _ => ∃ (a : Addr) (ns : List Int), vs = [.ref a] ∧ SqL K H a (ns.map V.int) ∧ ∀ (s t : Int) (p : Addr) (H' : Hp), 0 ≤ s → 0 ≤ t → t < 2147483647 → H' p = some (.lst [.int s, .int t]) → Q (.ref p) H'
theorem law_mk {T : Tb} {P : Program} {w : World} {mg : Str → Option Value} {base : Heap} {x qual : Str} {st : Stmt} {fA fS : Addr} {fd : FuncData} {N : List Str} {k : Nat} {S : PP.S} {own : List Nat} {fdS : FuncData} {psS : List Str} {q1 q2 q3 q4 q5 : Pos} {rest : List Stmt}
    (F : Fun T.K x qual st fA fd) (Sc : FnScope N ["script"] (defScope st)) (hst : defBody st = .Assign [.Name "state" q1] (.Call (.Name "_law_state" q2) [.Name "script" q3] [] q4) q5 :: rest)
    (FS1 : FnOk P w T.K mg base (L2.CX P w) k fS fdS psS (spState T.K)) (kS : PySem.W.keepIn T.K (.ref fS) = true) (bS : Binds T.K fdS psS []) (gS : mg "_law_state" = some (.ref fS))
    (hN0 : N[0]? = some ("script" : Str)) (hN1 : N[1]? = some ("state" : Str)) (hv0 : Vis (defScope st) "script") (hv1 : Loc (defScope st) "state") (hgl : ∀ (cdv : Value) (A : Around) (outer : List PySem.Env) (s : Shared) (H : Hp) (E : XK), Gl (cxOf (L2.CX P w) P w T.K mg base N qual (defScope st) fA cdv A outer s H E) "_law_state")
    (hf1 : ∀ (cdv : Value) (A : Around) (outer : List PySem.Env) (s : Shared) (H : Hp) (E : XK), (cxOf (L2.CX P w) P w T.K mg base N qual (defScope st) fA cdv A outer s H E).fn "state" = true ∨ (defScope st).names.lookup ("state" : Str) = some .local)
    (hb : ∀ (cdv : Value) (A : Around) (outer : List PySem.Env) (s : Shared) (H : Hp) (E : XK) (Z : Act) (hZ : Z.fr = false), Room k (A.deeper (envOfC qual (defScope st) s.heap.objs.size fA cdv)) →
      YSs (cxOf (L2.CX P w) P w T.K mg base N qual (defScope st) fA cdv A outer s H E) T Z (fun cls d _ H => E cls d H) [] [] rest S own)
    (hR : ∀ (a : Nat) (g : G), g.on = true → g.at_ = a → GOk g → ∃ g', S ([none, some (.gen a)] ++ List.replicate (N.length - 2) none) g = .rt (.bl true) g') :
    FnOk P w T.K mg base (L2.CX P w) (k + 1) fA fd ["script"] (spLaw T.K) := by
  refine F.okX Sc (fun vs H Q E ⟨a, ns, e, _⟩ => by rw [e]; rfl) fun cdv A outer s H vs Q E hr ⟨a, ns, e, hSq, hl, hq⟩ => ?_
  subst e
  refine ⟨_, by
    rw [hst]
    exact pss_cons (ps_set (i := 1) Sc.nd hN1 hv1 (pe_callS FS1 hr (hgl cdv A outer s H E) gS kS bS (fun σ => passAt (takes_of rfl rfl rfl rfl) σ) (pa_cons (pe_var (i := 0) hN0 hv0) pa_nil)) (hf := hf1 cdv A outer s H E)) (PSs.ex (α := { Z : Act // Z.fr = false }) fun Z => hb cdv A outer s H E Z.1 Z.2 hr), ?_⟩
  have hlen : 2 ≤ N.length := by
    have := List.getElem?_eq_some_iff.mp hN1
    obtain ⟨z, _⟩ := this
    omega
  have e0 : ((L2.start N [V.ref a])[0]?) = some (some (.ref a)) := by
    unfold L2.start
    rfl
  refine ⟨.ref a, e0, a, ns, rfl, hSq, fun sS tS' b H' b1 b2 b3 hb' => ?_⟩
  obtain ⟨g', hg'⟩ := hR b ⟨true, b, sS, tS'⟩ rfl rfl ⟨b1, b2, b3⟩
  refine ⟨⟨⟨H', fun _ => none, true, b, false⟩, rfl⟩, fun _ => none, fun _ => none, [none, some (.gen b)] ++ List.replicate (N.length - 2) none, ⟨true, b, sS, tS'⟩, ⟨?_, ?_, (fun i hi => by cases hi), fun i d _ e => ?_⟩, ?_⟩
  · exact {
      sub := fun _ _ e => by cases e
      kph := fun _ _ e => by cases e
      kpf := fun _ _ e => by cases e
      base := fun _ _ e _ => e
      new := fun _ _ e => by cases e
      f0 := .refl _
      fh0 := fun _ _ e => by cases e
      on := rfl
      at_ := rfl
      gen := fun _ => ⟨hb', rfl, rfl, b1, b2, b3⟩ }
  · unfold L2.start
    simp
    omega
  · match i, e with
    | 0, e => simp at e
    | 1, e =>
      simp at e
      subst e
      refine ⟨.ref b, ?_, by unfold Rep; rfl⟩
      rw [List.getElem?_set_self]
      unfold L2.start
      simp
      omega
    | i + 2, e =>
      simp [List.getElem?_replicate] at e
  · rw [hg']
    refine rtQ.mk (Z := ⟨H', fun _ => none, true, b, false⟩) rfl fun v F2 H2 c2 s2 r2 => ?_
    obtain rfl := rep_bl r2
    exact hq H2
end PP

set_option Elab.async false
set_option linter.all false
set_option maxRecDepth 100000
set_option maxHeartbeats 4000000
/-! list(zip(a, b)), a and b tuples: the pairs stay, so each is a new one. -/
namespace PPZ
open PySem PySem.W PySem.Calls PyProof.Rows PySem.Spec
theorem no_len : typeLookup (.type "zip") "__len__" = pure none := am_miss_of_fast (by decide +kernel)
theorem no_hint : typeLookup (.type "zip") "__length_hint__" = pure none := am_miss_of_fast (by decide +kernel)
section
variable {prog : Program} {w : World} {A : Around} {E : Value → Shared → Prop} {s : Shared}
theorem next_held {z TI TO T i1 i2 l1 l2 : Addr} {f : Bool} {oT : Obj} {k1 k2 : Nat} {xs ys : Array Value} {x y : Value} {Q : Value → Shared → Prop} (D : ZipApart z TI TO i1 i2 l1 l2) (hz : IsZipHeld s.heap z TI TO T f) (hT : s.heap.get? T = some oT) (hTI : IsPair s.heap TI (.ref i1) (.ref i2))
    (h1 : s.heap.IsTupleIter i1 l1 k1) (h2 : s.heap.IsTupleIter i2 l2 k2) (hl1 : s.heap.IsTuple l1 xs) (hl2 : s.heap.IsTuple l2 ys) (hx : xs[k1]? = some x) (hy : ys[k2]? = some y)
    (hQ : ∀ h', IsZipHeld h' z TI TO T true → h'.IsTupleIter i1 l1 (k1 + 1) → h'.IsTupleIter i2 l2 (k2 + 1) → IsPair h' s.heap.objs.size x y → h'.objs.size = s.heap.objs.size + 1 → (∀ c o, c ≠ z → c ≠ i1 → c ≠ i2 → s.heap.get? c = some o → h'.get? c = some o) → Q (.ref s.heap.objs.size) { s with heap := h' }) :
    wpAny (model prog w) A (Builtin.«zip.__next__» ⟨[.ref z], []⟩) (fun fin s' => ∃ v, fin = .done (.ret v) ∧ Q v s') E s := by
  show wpAny _ _ (field (.ref z) 2 >>= _) _ _ _; refine wpAny_bind (wpAny_field hz rfl (x := .bool false) rfl ?_); show wpAny _ _ (field (.ref z) 3 >>= _) _ _ _
  refine wpAny_bind (wpAny_field hz rfl (x := .ref TI) rfl ?_); refine wpAny_bind (wpAny_seqItems hTI rfl ?_); show wpAny _ _ (Builtin.SmallTypes.ownedTupleIsFree (.ref z) >>= _) _ _ _
  refine wpAny_bind (wpAny_tupleHeld_zip hz hT fun h₁ hz₁ hs₁ => ?_); simp only [Bool.false_eq_true, if_false]; refine wpAny_bind ?_
  rw [← Array.forIn_toList]; simp only [List.forIn_cons, List.forIn_nil]; refine wpAny_bind (wpAny_bind (wpAny_holding ?_))
  show wpAny _ _ (Builtin.SmallTypes.nextOf (.ref i1) >>= _) _ _ _; refine wpAny_bind (RZ.nextOf_tuple_item (s := { s with heap := h₁ }) (h1.extBut hs₁.extBut D.i1z) (hl1.extBut hs₁.extBut D.l1z) hx fun h₂ h1₂ hs₂ => wpAny_pure ?_)
  refine wpAny_pure ?_; refine wpAny_bind (wpAny_bind (wpAny_holding ?_)); show wpAny _ _ (Builtin.SmallTypes.nextOf (.ref i2) >>= _) _ _ _
  refine wpAny_bind (RZ.nextOf_tuple_item (s := { s with heap := h₂ }) ((h2.extBut hs₁.extBut D.i2z).extBut hs₂.extBut D.i12.symm) ((hl2.extBut hs₁.extBut D.l2z).extBut hs₂.extBut D.l2i1) hy fun h₃ h2₃ hs₃ => wpAny_pure ?_)
  refine wpAny_pure (wpAny_pure ?_); show wpAny _ _ (newTuple [x, y] >>= _) _ _ _; refine wpAny_bind (wpAny_newTuple ?_)
  have hsz : h₃.objs.size = s.heap.objs.size := by rw [hs₃.1, hs₂.1, hs₁.1]
  have hz₃ : IsZipHeld h₃ z TI TO T true := hs₃.extBut _ _ D.i2z.symm (hs₂.extBut _ _ D.i1z.symm hz₁)
  have hk : ∀ c o, c ≠ z → c ≠ i1 → c ≠ i2 → s.heap.get? c = some o → h₃.get? c = some o := fun c o c1 c2 c3 e => hs₃.extBut _ _ c3 (hs₂.extBut _ _ c2 (hs₁.extBut _ _ c1 e))
  have h1₃ : h₃.IsTupleIter i1 l1 (k1 + 1) := h1₂.extBut hs₃.extBut D.i12
  refine wpAny_pure ⟨_, rfl, ?_⟩; show Q (.ref h₃.objs.size) _
  have hp : IsPair (h₃.push { cls := .type "tuple", data := .seq #[x, y] }) h₃.objs.size x y := Heap.get?_push_size _ rfl
  have hz4 : (h₃.push { cls := .type "tuple", data := .seq #[x, y] }).objs.size = h₃.objs.size + 1 := Heap.size_push ..
  rw [hsz] at hp hz4 ⊢
  exact hQ _ (Heap.get?_push_of_some _ hz₃) (h1₃.at fun o e => Heap.get?_push_of_some _ e) (h2₃.at fun o e => Heap.get?_push_of_some _ e) hp hz4 fun c o c1 c2 c3 e => Heap.get?_push_of_some _ (hk c o c1 c2 c3 e)
theorem end_held {z TI TO T i1 i2 l1 l2 : Addr} {f : Bool} {oT : Obj} {k1 k2 : Nat} {xs ys : Array Value} {Q : Fin → Shared → Prop} (hh : A.handled = none) (D : ZipApart z TI TO i1 i2 l1 l2) (hz : IsZipHeld s.heap z TI TO T f) (hT : s.heap.get? T = some oT) (hTI : IsPair s.heap TI (.ref i1) (.ref i2))
    (h1 : s.heap.IsTupleIter i1 l1 k1) (h2 : s.heap.IsTupleIter i2 l2 k2) (hl1 : s.heap.IsTuple l1 xs) (hl2 : s.heap.IsTuple l2 ys) (hend : xs[k1]? = none ∨ ys[k2]? = none)
    (hE : ∀ h' e, (∀ c o, c ≠ z → c ≠ i1 → c ≠ i2 → s.heap.get? c = some o → h'.get? c = some o) → (∃ o, h'.get? e = some o ∧ o.cls = .type "StopIteration") → E (.ref e) { s with heap := h' }) : wpAny (model prog w) A (Builtin.«zip.__next__» ⟨[.ref z], []⟩) Q E s := by
  show wpAny _ _ (field (.ref z) 2 >>= _) _ _ _; refine wpAny_bind (wpAny_field hz rfl (x := .bool false) rfl ?_); show wpAny _ _ (field (.ref z) 3 >>= _) _ _ _
  refine wpAny_bind (wpAny_field hz rfl (x := .ref TI) rfl ?_); refine wpAny_bind (wpAny_seqItems hTI rfl ?_); show wpAny _ _ (Builtin.SmallTypes.ownedTupleIsFree (.ref z) >>= _) _ _ _
  refine wpAny_bind (wpAny_tupleHeld_zip hz hT fun h₁ hz₁ hs₁ => ?_); simp only [Bool.false_eq_true, if_false]; refine wpAny_bind ?_
  rw [← Array.forIn_toList]; simp only [List.forIn_cons, List.forIn_nil]; refine wpAny_bind (wpAny_bind (wpAny_holding ?_))
  show wpAny _ _ (Builtin.SmallTypes.nextOf (.ref i1) >>= _) _ _ _; cases hx : xs[k1]? with
  | none => exact wpAny_bind (RZ.nextOf_tuple_end (s := { s with heap := h₁ }) hh (h1.extBut hs₁.extBut D.i1z) (hl1.extBut hs₁.extBut D.l1z) hx fun h₂ e hs₂ he => hE h₂ e (fun c o c1 c2 _ x => hs₂ _ _ c2 (hs₁.extBut _ _ c1 x)) he)
  | some x =>
    have hy : ys[k2]? = none := by rcases hend with h | h; rw [hx] at h; cases h; exact h
    refine wpAny_bind (RZ.nextOf_tuple_item (s := { s with heap := h₁ }) (h1.extBut hs₁.extBut D.i1z) (hl1.extBut hs₁.extBut D.l1z) hx fun h₂ h1₂ hs₂ => wpAny_pure ?_); refine wpAny_pure ?_; refine wpAny_bind (wpAny_bind (wpAny_holding ?_))
    show wpAny _ _ (Builtin.SmallTypes.nextOf (.ref i2) >>= _) _ _ _; refine wpAny_bind (RZ.nextOf_tuple_end (s := { s with heap := h₂ }) hh ((h2.extBut hs₁.extBut D.i2z).extBut hs₂.extBut D.i12.symm) ((hl2.extBut hs₁.extBut D.l2z).extBut hs₂.extBut D.l2i1) hy fun h₃ e hs₃ he => ?_)
    exact hE h₃ e (fun c o c1 c2 c3 x => hs₃ _ _ c3 (hs₂.extBut _ _ c2 (hs₁.extBut _ _ c1 x))) he
/-- a zip of two tuples that has given out k pairs, which stay -/
def ZSt (h : Heap) (z TI TO i1 i2 a b S : Addr) (k : Nat) : Prop := IsPair h TI (.ref i1) (.ref i2) ∧ h.IsTupleIter i1 a k ∧ h.IsTupleIter i2 b k ∧
  ((IsZip h z TI TO .none ∧ ∃ x y, IsPair h TO x y) ∨ ∃ (T : Addr) (f : Bool) (oT : Obj), IsZipHeld h z TI TO T f ∧ h.get? T = some oT ∧ T ≠ z ∧ T ≠ i1 ∧ T ≠ i2 ∧ T ≠ S)
variable {z TI TO i1 i2 a b S : Addr} {k : Nat} {xs ys : Array Value}
theorem ZSt.keep {h h' : Heap} (st : ZSt h z TI TO i1 i2 a b S k) (up : ∀ c o, c ≠ S → h.get? c = some o → h'.get? c = some o) (n0 : TI ≠ S) (n1 : i1 ≠ S) (n2 : i2 ≠ S) (n3 : z ≠ S) (n4 : TO ≠ S) : ZSt h' z TI TO i1 i2 a b S k := by
  obtain ⟨q1, q2, q3, q4⟩ := st
  refine ⟨up _ _ n0 q1, q2.at fun o e => up _ o n1 e, q3.at fun o e => up _ o n2 e, ?_⟩
  rcases q4 with ⟨g1, x, y, g2⟩ | ⟨T, f, oT, g1, g2, r1, r2, r3, r4⟩
  · exact .inl ⟨up _ _ n3 g1, x, y, up _ _ n4 g2⟩
  · exact .inr ⟨T, f, oT, up _ _ n3 g1, up _ _ r4 g2, r1, r2, r3, r4⟩
theorem item {x y : Value} {Q : Option Value → Shared → Prop} (D : ZipApart z TI TO i1 i2 a b) (st : ZSt s.heap z TI TO i1 i2 a b S k) (hS : S < s.heap.objs.size) (ha : s.heap.IsTuple a xs) (hb : s.heap.IsTuple b ys) (hx : xs[k]? = some x) (hy : ys[k]? = some y)
    (hQ : ∀ h', ZSt h' z TI TO i1 i2 a b S (k + 1) → IsPair h' s.heap.objs.size x y → h'.objs.size = s.heap.objs.size + 1 → (∀ c o, c ≠ z → c ≠ TO → c ≠ i1 → c ≠ i2 → s.heap.get? c = some o → h'.get? c = some o) → Q (some (.ref s.heap.objs.size)) { s with heap := h' }) :
    wpAny (model prog w) A (pyNext (.ref z)) Q E s := by
  obtain ⟨q1, q2, q3, q4⟩ := st
  have n1 : s.heap.objs.size ≠ i1 := by obtain ⟨_, e, _⟩ := q2; exact Nat.ne_of_gt (Heap.lt_size e)
  have n2 : s.heap.objs.size ≠ i2 := by obtain ⟨_, e, _⟩ := q3; exact Nat.ne_of_gt (Heap.lt_size e)
  rcases q4 with ⟨g1, x0, y0, g2⟩ | ⟨T, f, oT, g1, g2, r1, r2, r3, r4⟩
  · refine RZ.pyNext_zipT_item D g1 q1 g2 q2 q3 ha hb hx hy fun h' a1 a2 a3 a4 a5 a6 a7 => hQ h' ⟨a7 _ _ D.TIz D.TITO D.TIi1 D.TIi2 q1, a3, a4, .inr ⟨s.heap.objs.size, false, _, a1, a5, Nat.ne_of_gt (Heap.lt_size g1), n1, n2, Nat.ne_of_gt hS⟩⟩ a5 a6 a7
  · have hTy : s.TypeIs (.ref z) "zip" := ⟨_, g1, rfl⟩
    unfold pyNext
    refine wpAny_bind (wpAny_attempt (wpAny_callSpecial?_slot (name := Str.ofString "__next__") hTy F.slot_zip_next (wpAny_call_entry F.slot_zip_next hTy F.entry_zip_next (next_held D g1 g2 q1 q2 q3 ha hb hx hy fun h' a1 a3 a4 a5 a6 a7 => ?_) (F.args_zip_next_1 _))))
    exact wpAny_pure (hQ h' ⟨a7 _ _ D.TIz D.TIi1 D.TIi2 q1, a3, a4, .inr ⟨T, true, oT, a1, a7 _ _ r1 r2 r3 g2, r1, r2, r3, r4⟩⟩ a5 a6 fun c o c1 _ c3 c4 e => a7 c o c1 c3 c4 e)
theorem done {Q : Option Value → Shared → Prop} (hh : A.handled = none) (D : ZipApart z TI TO i1 i2 a b) (st : ZSt s.heap z TI TO i1 i2 a b S k) (ha : s.heap.IsTuple a xs) (hb : s.heap.IsTuple b ys) (hend : xs[k]? = none ∨ ys[k]? = none)
    (hQ : ∀ h', (∀ c o, c ≠ z → c ≠ TO → c ≠ i1 → c ≠ i2 → s.heap.get? c = some o → h'.get? c = some o) → Q none { s with heap := h' }) : wpAny (model prog w) A (pyNext (.ref z)) Q E s := by
  obtain ⟨q1, q2, q3, q4⟩ := st
  rcases q4 with ⟨g1, x0, y0, g2⟩ | ⟨T, f, oT, g1, g2, r1, r2, r3, r4⟩
  · exact RZ.pyNext_zipT_end hh D g1 q1 g2 q2 q3 ha hb hend hQ
  · have hTy : s.TypeIs (.ref z) "zip" := ⟨_, g1, rfl⟩
    unfold pyNext
    refine wpAny_bind (wpAny_attempt (wpAny_callSpecial?_slot (name := Str.ofString "__next__") hTy F.slot_zip_next (wpAny_call_entry F.slot_zip_next hTy F.entry_zip_next (end_held hh D g1 g2 q1 q2 q3 ha hb hend fun h' e hk he => ?_) (F.args_zip_next_1 _))))
    obtain ⟨o, ho, hc⟩ := he
    exact wpAny_bind (wpAny_isInstance (T := "StopIteration") (b := true) ⟨o, ho, hc⟩ isSubtype_stop (wpAny_pure (hQ _ fun c o c1 _ c3 c4 e => hk c o c1 c3 c4 e)))
end
/-- the pairs that were given out, in order: new tuples above lo -/
structure Gv (xs ys : Array Value) (lo : Addr) (h : Heap) (as : List Addr) : Prop where
  up : ∀ a ∈ as, lo < a
  rise : as.Pairwise (· < ·)
  pr : ∀ (j : Nat) (a : Addr), as[j]? = some a → ∃ x y, xs[j]? = some x ∧ ys[j]? = some y ∧ IsPair h a x y
section
variable {prog : Program} {w : World} {A : Around} {s : Shared} {R : Result → Shared → Prop} {z TI TO i1 i2 a b S : Addr} {xs ys : Array Value} {n : Nat}
theorem loop (hh : A.handled = none) (D : ZipApart z TI TO i1 i2 a b) (hn : n = min xs.size ys.size) (hn2 : n ≤ sizeLine) (o1 : z < S) (o2 : TI < z) (o3 : TO < z) (o4 : i1 < z) (o5 : i2 < z) (aS : a ≠ S) (bS : b ≠ S) (res : Value) {h₁ : Heap}
    (hR : ∀ h' tk acc c as, (∀ p o, p ≠ S → p ≠ z → p ≠ TO → p ≠ i1 → p ≠ i2 → h₁.get? p = some o → h'.get? p = some o) → h'.get? S = some { cls := .type "list", dict := none, data := .seq acc c, slots := #[] } → as.length = n → Gv xs ys S h' as → acc.toList = as.map Value.ref → R (.ok (.ret res)) { s with heap := h', toks := tk }) :
    ∀ (k i : Nat) (h : Heap) (tk c : Nat) (acc : Array Value) (as : List Addr), n - i = k → i ≤ n → ZSt h z TI TO i1 i2 a b S i → h.IsTuple a xs → h.IsTuple b ys → (∀ p o, p ≠ S → p ≠ z → p ≠ TO → p ≠ i1 → p ≠ i2 → h₁.get? p = some o → h.get? p = some o) →
      h.get? S = some { cls := .type "list", dict := none, data := .seq acc c, slots := #[] } → acc.toList = as.map Value.ref → as.length = i → Gv xs ys S h as →
      codeAny (model prog w) A (.builtin "list.extend.loop" ⟨[.ref S, .ref z, res], []⟩) R { s with heap := h, toks := tk } := by
  have nS : ∀ p, p < z → p ≠ S := fun p hp => by intro e; rw [e] at hp; exact absurd (Nat.lt_trans o1 hp) (Nat.lt_irrefl _)
  have zS : z ≠ S := Nat.ne_of_lt o1
  have above : ∀ p, S < p → p ≠ S ∧ p ≠ z ∧ p ≠ TO ∧ p ≠ i1 ∧ p ≠ i2 := fun p hp => by
    have q := Nat.lt_trans o1 hp
    exact ⟨Nat.ne_of_gt hp, Nat.ne_of_gt q, Nat.ne_of_gt (Nat.lt_trans o3 q), Nat.ne_of_gt (Nat.lt_trans o4 q), Nat.ne_of_gt (Nat.lt_trans o5 q)⟩
  intro k
  induction k with
  | zero =>
    intro i h tk c acc as hk hi hst ha hb hkeep hS hacc hal hG
    have e : i = n := Nat.le_antisymm hi (Nat.le_of_sub_eq_zero hk)
    have hend : xs[i]? = none ∨ ys[i]? = none := by
      rcases Nat.le_total xs.size ys.size with q | q
      · exact .inl (Array.getElem?_eq_none (by rw [e, hn, Nat.min_eq_left q]; exact Nat.le_refl _))
      · exact .inr (Array.getElem?_eq_none (by rw [e, hn, Nat.min_eq_right q]; exact Nat.le_refl _))
    refine codeAny_builtin PySem.F.entry_extend_loop ?_; rw [Around.under_plainId PySem.F.plain_extend_loop _]; show wpAny _ A.in1 (pyNext (.ref z) >>= _) _ _ _
    refine wpAny_bind (done (s := { s with heap := h, toks := tk }) (A := A.in1) hh D hst ha hb hend fun h' he => ?_)
    refine wpAny_pure (hR h' tk acc c as (fun p o p1 p2 p3 p4 p5 q => he p o p2 p3 p4 p5 (hkeep p o p1 p2 p3 p4 p5 q)) (he S _ (Ne.symm zS) (Ne.symm (nS _ o3)) (Ne.symm (nS _ o4)) (Ne.symm (nS _ o5)) hS) (by rw [hal, e]) ⟨hG.up, hG.rise, fun j p hj => ?_⟩ hacc)
    obtain ⟨x, y, e1, e2, e3⟩ := hG.pr j p hj
    obtain ⟨_, p2, p3, p4, p5⟩ := above p (hG.up p (List.mem_of_getElem? hj))
    exact ⟨x, y, e1, e2, he p _ p2 p3 p4 p5 e3⟩
  | succ k ih =>
    intro i h tk c acc as hk hi hst ha hb hkeep hS hacc hal hG
    have hlt : i < n := by omega
    have hx : xs[i]? = some xs[i] := Array.getElem?_eq_getElem (by omega)
    have hy : ys[i]? = some ys[i] := Array.getElem?_eq_getElem (by omega)
    have hsz : acc.size = i := by rw [← Array.length_toList, hacc, List.length_map, hal]
    have hSl : S < h.objs.size := Heap.lt_size hS
    refine codeAny_builtin PySem.F.entry_extend_loop ?_; rw [Around.under_plainId PySem.F.plain_extend_loop _]; show wpAny _ A.in1 (pyNext (.ref z) >>= _) _ _ _
    refine wpAny_bind (item (s := { s with heap := h, toks := tk }) D hst hSl ha hb hx hy fun h' hst' ht hz hkp => ?_)
    dsimp only at ht hz hkp ⊢
    have hS' := hkp S _ (Ne.symm zS) (Ne.symm (nS _ o3)) (Ne.symm (nS _ o4)) (Ne.symm (nS _ o5)) hS
    have up : ∀ p o, p ≠ S → h'.get? p = some o → (h'.update S (Obj.mapSeq (·.push (Value.ref h.objs.size)))).get? p = some o := fun p o hp e => (Heap.get?_update_other _ _ (Ne.symm hp)).trans e
    have ha' : h'.IsTuple a xs := ha.at fun o e => hkp a o D.l1z D.l1TO D.l1i1 D.l1i2 e
    have hb' : h'.IsTuple b ys := hb.at fun o e => hkp b o D.l2z D.l2TO D.l2i1 D.l2i2 e
    show wpAny _ A.in1 (updateSeq S (·.push (Value.ref h.objs.size)) >>= _) _ _ _
    refine wpAny_bind ?_
    refine wpAny_updateSeq hS' rfl (wpAny_pure ⟨plainId_quiet PySem.F.plain_extend_loop _, ih (i + 1) _ tk _ (acc.push (Value.ref h.objs.size)) (as ++ [h.objs.size]) (by omega) hlt (hst'.keep up (nS _ o2) (nS _ o4) (nS _ o5) zS (nS _ o3)) (ha'.at fun o e => up a o aS e) (hb'.at fun o e => up b o bS e)
      (fun p o p1 p2 p3 p4 p5 e => up p o p1 (hkp p o p2 p3 p4 p5 (hkeep p o p1 p2 p3 p4 p5 e))) (Heap.get?_update_self _ hS' rfl) (by rw [Array.toList_push, hacc, List.map_append]; rfl) (by rw [List.length_append, hal]; rfl) ⟨fun p hp => ?_, ?_, fun j p hj => ?_⟩⟩) (by rw [hsz]; omega) (by show (acc.push (Value.ref h.objs.size)).size ≤ sizeLine + 1; rw [Array.size_push, hsz]; omega)
    · rcases List.mem_append.mp hp with hp | hp
      · exact hG.up p hp
      · rw [List.mem_singleton.mp hp]; exact hSl
    · refine List.pairwise_append.mpr ⟨hG.rise, List.pairwise_singleton _ _, fun p hp q hq => ?_⟩
      rw [List.mem_singleton.mp hq]
      obtain ⟨j, hj⟩ := List.mem_iff_getElem?.mp hp
      obtain ⟨_, _, _, _, e3⟩ := hG.pr j p hj
      exact Heap.lt_size e3
    · rcases Nat.lt_trichotomy j as.length with h1 | h1 | h1
      · rw [List.getElem?_append_left h1] at hj
        obtain ⟨x, y, e1, e2, e3⟩ := hG.pr j p hj
        obtain ⟨p1, p2, p3, p4, p5⟩ := above p (hG.up p (List.mem_of_getElem? hj))
        exact ⟨x, y, e1, e2, up p _ p1 (hkp p _ p2 p3 p4 p5 e3)⟩
      · subst h1
        have e : h.objs.size = p := by simpa using hj
        subst e
        exact ⟨_, _, by rw [hal]; exact hx, by rw [hal]; exact hy, up _ _ (Nat.ne_of_gt hSl) ht⟩
      · rw [List.getElem?_eq_none (by rw [List.length_append, List.length_singleton]; omega)] at hj; cases hj
end
section
variable {prog : Program} {w : World} {A : Around} {E : Value → Shared → Prop} {s : Shared} {z TI TO i1 i2 a b : Addr} {xs ys : Array Value} {n : Nat}
theorem hint (hT : s.TypeIs (.ref z) "zip") {Q : Bool → Shared → Prop} (h : Q true s) : wpAny (model prog w) A (Builtin.List.listLengthHint (.ref z)) Q E s := by
  unfold Builtin.List.listLengthHint
  refine wpAny_bind (wpAny_specialOf hT no_len ?_); show wpAny _ A (specialOf (Value.ref z) (Str.ofString "__length_hint__") >>= _) _ _ _
  exact wpAny_bind (wpAny_specialOf hT no_hint (wpAny_pure h))
theorem extend {R : Result → Shared → Prop} {S : Addr} (hh : A.handled = none) (D : ZipApart z TI TO i1 i2 a b) (hn : n = min xs.size ys.size) (hn2 : n ≤ sizeLine) (o1 : z < S) (o2 : TI < z) (o3 : TO < z) (o4 : i1 < z) (o5 : i2 < z) (aS : a ≠ S) (bS : b ≠ S) (res : Value) (c₀ : Nat)
    (hS : s.heap.get? S = some { cls := .type "list", data := .seq #[] c₀ }) (st : ZSt s.heap z TI TO i1 i2 a b S 0) (hz : ∃ f0, IsZip s.heap z TI TO f0) (ha : s.heap.IsTuple a xs) (hb : s.heap.IsTuple b ys)
    (hR : ∀ h' tk acc c as, (∀ p o, p ≠ S → p ≠ z → p ≠ TO → p ≠ i1 → p ≠ i2 → s.heap.get? p = some o → h'.get? p = some o) → h'.get? S = some { cls := .type "list", dict := none, data := .seq acc c, slots := #[] } → as.length = n → Gv xs ys S h' as → acc.toList = as.map Value.ref → R (.ok (.ret res)) { s with heap := h', toks := tk }) :
    wpAny (model prog w) A.in1 (Builtin.List.listExtendWith (.ref S) (.ref z) res) (fun fin s' => match fin with | .done f => R (.ok f) s' | .again c' => c'.quiet = true ∧ codeAny (model prog w) A c' R s') (fun e s' => R (.error e) s') s := by
  obtain ⟨f0, hz⟩ := hz
  have hT : s.TypeIs (.ref z) "zip" := ⟨_, hz, rfl⟩
  have zS : z ≠ S := Nat.ne_of_lt o1
  have nS : ∀ p, p < z → p ≠ S := fun p hp => by intro e; rw [e] at hp; exact absurd (Nat.lt_trans o1 hp) (Nat.lt_irrefl _)
  unfold Builtin.List.listExtendWith
  refine wpAny_bind (wpAny_typeOf (T := "zip") hT ?_)
  have h1 : Builtin.List.listSameRef (.ref S) (.ref z) = false := by simp [Builtin.List.listSameRef, Ne.symm zS]
  have h2 : (Value.type "zip" == Value.type "list") = false ∧ (Value.type "zip" == Value.type "tuple") = false := by decide
  simp only [h1, h2.1, h2.2, Bool.or_false, Bool.false_eq_true, if_false]
  refine wpAny_bind (wpAny_pyIter_zip hz ?_); refine wpAny_bind (wpAny_holding (hint hT ?_))
  refine wpAny_ite_split (fun _ => ?_) (fun hab => absurd (by rfl) hab)
  refine wpAny_bind (wpAny_rule ?_); refine wpAny_bind ?_; show wpAny _ _ (updateSeq S (·.push .none) >>= fun _ => updateSeq S (·.pop)) _ _ _
  refine wpAny_bind (wpAny_updateSeq hS rfl ?_)
  have hS₂ := Heap.get?_update_self (Obj.mapSeq (·.push Value.none)) hS rfl
  refine wpAny_updateSeq (hz := by seq_fits) hS₂ rfl ?_
  have hS₃ := Heap.get?_update_self (Obj.mapSeq (·.pop)) hS₂ rfl
  have up : ∀ p o, p ≠ S → s.heap.get? p = some o → ((s.heap.update S (Obj.mapSeq (·.push Value.none))).update S (Obj.mapSeq (·.pop))).get? p = some o := fun p o hp e => (Heap.get?_update_other _ _ (Ne.symm hp)).trans ((Heap.get?_update_other _ _ (Ne.symm hp)).trans e)
  refine wpAny_pure ⟨plainId_quiet PySem.F.plain_extend_loop _, loop (s := s) (h₁ := s.heap) hh D hn hn2 o1 o2 o3 o4 o5 aS bS res hR n 0 _ _ _ #[] [] (Nat.sub_zero _) (Nat.zero_le _) (st.keep up (nS _ o2) (nS _ o4) (nS _ o5) zS (nS _ o3)) (ha.at fun o e => up a o aS e) (hb.at fun o e => up b o bS e)
    (fun p o p1 _ _ _ _ e => up p o p1 e) hS₃ rfl rfl ⟨(fun _ hp => nomatch hp), List.Pairwise.nil, (fun j p hj => by simp at hj)⟩⟩
theorem listOf {Q : Value → Shared → Prop} (hh : A.handled = none) (D : ZipApart z TI TO i1 i2 a b) (hn : n = min xs.size ys.size) (hn2 : n ≤ sizeLine) (o2 : TI < z) (o3 : TO < z) (o4 : i1 < z) (o5 : i2 < z) (hz : IsZip s.heap z TI TO .none) (hTI : IsPair s.heap TI (.ref i1) (.ref i2)) (hTO : ∃ x y, IsPair s.heap TO x y)
    (h1 : s.heap.IsTupleIter i1 a 0) (h2 : s.heap.IsTupleIter i2 b 0) (ha : s.heap.IsTuple a xs) (hb : s.heap.IsTuple b ys)
    (hQ : ∀ h' tk acc c as, (∀ p o, p ≠ z → p ≠ TO → p ≠ i1 → p ≠ i2 → s.heap.get? p = some o → h'.get? p = some o) → h'.get? s.heap.objs.size = some { cls := .type "list", dict := none, data := .seq acc c, slots := #[] } → as.length = n → Gv xs ys s.heap.objs.size h' as → acc.toList = as.map Value.ref → Q (.ref s.heap.objs.size) { s with heap := h', toks := tk }) :
    wpAny (model prog w) A (call (.type "list") [.ref z]) Q E s := by
  refine callType_codes (Q₁ := fun obj s₁ => obj = .ref s.heap.objs.size ∧ s₁ = { s with heap := s.heap.push { cls := .type "list", data := .seq #[] } }) PySem.F.called_list (PySem.F.typeCall_list_1 _) PySem.F.entry_list_init (code_list_new _ ⟨rfl, rfl⟩) fun obj s₁ hob => ?_
  obtain ⟨rfl, rfl⟩ := hob
  have hS : (s.heap.push { cls := .type "list", data := .seq #[] }).get? s.heap.objs.size = some { cls := .type "list", data := .seq #[] } := Heap.get?_push_size _ rfl
  have zl : z < s.heap.objs.size := Heap.lt_size hz
  have al : a < s.heap.objs.size := by obtain ⟨o, e, _⟩ := ha; exact Heap.lt_size e
  have bl : b < s.heap.objs.size := by obtain ⟨o, e, _⟩ := hb; exact Heap.lt_size e
  refine ⟨⟨_, hS, rfl⟩, PySem.F.args_list_init_2 _ _, ?_⟩
  show wpAny _ _ (do let old ← Builtin.List.listItems (.ref s.heap.objs.size); Builtin.List.listUpdate (.ref s.heap.objs.size) (fun _ => #[]); letGo old.toList.reverse; Builtin.List.listExtendWith (.ref s.heap.objs.size) (.ref z) .none) _ _ _
  refine wpAny_bind ?_; unfold Builtin.List.listItems; refine wpAny_bind (wpAny_seqItems hS rfl (wpAny_pure ?_))
  show wpAny _ _ (updateSeq s.heap.objs.size (fun _ => #[]) >>= fun _ => letGo (#[] : Array Value).toList.reverse >>= fun _ => Builtin.List.listExtendWith (.ref s.heap.objs.size) (.ref z) .none) _ _ _
  refine wpAny_bind (wpAny_updateSeq hS rfl ?_)
  have hS₂ := Heap.get?_update_self (Obj.mapSeq (fun _ => (#[] : Array Value))) hS rfl
  have up : ∀ p o, s.heap.get? p = some o → ((s.heap.push { cls := .type "list", data := .seq #[] }).update s.heap.objs.size (Obj.mapSeq (fun _ => (#[] : Array Value)))).get? p = some o := fun p o e => (Heap.get?_update_other _ _ (Nat.ne_of_gt (Heap.lt_size e))).trans (Heap.get?_push_of_some _ e)
  refine wpAny_bind (wpAny_letGo ?_)
  obtain ⟨x0, y0, hTO⟩ := hTO
  refine extend (A := A.in1) hh D hn hn2 zl o2 o3 o4 o5 (Nat.ne_of_lt al) (Nat.ne_of_lt bl) .none _ hS₂ ⟨up _ _ hTI, h1.at fun o e => up _ o e, h2.at fun o e => up _ o e, .inl ⟨up _ _ hz, x0, y0, up _ _ hTO⟩⟩ ⟨_, up _ _ hz⟩ (ha.at fun o e => up _ o e) (hb.at fun o e => up _ o e) fun h' tk acc c as hk hS' hl hG hacc => ?_
  exact ⟨rfl, hQ h' tk acc c as (fun p o p2 p3 p4 p5 e => hk p o (Nat.ne_of_lt (Heap.lt_size e)) p2 p3 p4 p5 (up p o e)) hS' hl hG hacc⟩
end
end PPZ

set_option Elab.async false
set_option linter.all false
set_option maxRecDepth 100000
set_option maxHeartbeats 4000000
namespace PP
open PySem L2
open PyProof.Rows (envOfC args_cons args_nil boot_list Call_)
/-! ### list(zip(a, b)), a and b tuples -/
def lay (ob : Addr → Obj) : List (Addr × V × V) → Hp → Hp
  | [], H => H
  | p :: r, H => lay ob r (upd H p.1 (.frz (ob p.1) (.tup [p.2.1, p.2.2])))
def Apart : List (Addr × V × V) → Prop
  | [] => True
  | p :: r => (∀ q ∈ r, q.1 ≠ p.1) ∧ Apart r
theorem lay_old {ob : Addr → Obj} : ∀ {ps : List (Addr × V × V)} {H : Hp} {b : Addr}, (∀ p ∈ ps, p.1 ≠ b) → lay ob ps H b = H b
  | [], _, _, _ => rfl
  | p :: r, H, b, h => by
    unfold lay
    rw [lay_old fun q hq => h q (by simp [hq]), upd_ne (Ne.symm (h p (by simp)))]
theorem lay_grow {ob : Addr → Obj} : ∀ {ps : List (Addr × V × V)} {F H : Hp}, PP.Sub F H → (∀ p ∈ ps, H p.1 = none) → Apart ps → Grow F H (lay ob ps F) (lay ob ps H)
  | [], F, H, s, _, _ => Grow.refl s
  | p :: r, F, H, s, h, d => by
    have g := Grow.one (o := .frz (ob p.1) (.tup [p.2.1, p.2.2])) s (h p (by simp))
    unfold lay
    exact g.trans (lay_grow g.fh (fun q hq => by rw [upd_ne (d.1 q hq)]; exact h q (by simp [hq])) d.2)
theorem lay_rep {T : Tb} {ob : Addr → Obj} : ∀ {ps : List (Addr × V × V)} {F H : Hp} {xs ys : List V} {l m : List D}, PP.Sub F H → (∀ p ∈ ps, H p.1 = none) → Apart ps → (∀ p ∈ ps, (ob p.1).cls = .type "tuple" ∧ (ob p.1).dict = none) → RepL T F xs l → RepL T F ys m → ps.map (·.2) = xs.zip ys → RepL T (lay ob ps F) (ps.map fun p => V.ref p.1) (zipL l m)
  | [], F, H, xs, ys, l, m, s, _, _, _, r1, r2, e => by
    have z : zipL l m = [] := by
      unfold zipL
      have h1 := r1.length
      have h2 := r2.length
      have h3 : (xs.zip ys).length = 0 := by rw [← e]; rfl
      rw [List.length_zip] at h3
      have : (l.zip m).length = 0 := by rw [List.length_zip]; omega
      rw [List.eq_nil_of_length_eq_zero this]; rfl
    rw [z]; exact .nil
  | p :: r, F, H, [], ys, l, m, s, _, _, _, r1, r2, e => by simp at e
  | p :: r, F, H, x :: xs, [], l, m, s, _, _, _, r1, r2, e => by simp at e
  | (pa, px, py) :: r, F, H, x :: xs, y :: ys, l, m, s, h, d, hob, r1, r2, e => by
    obtain ⟨dx, l', rfl, a1, a2⟩ := r1.inv
    obtain ⟨dy, m', rfl, b1, b2⟩ := r2.inv
    simp only [List.map_cons, List.zip_cons_cons, List.cons.injEq, Prod.mk.injEq] at e
    obtain ⟨⟨rfl, rfl⟩, e2⟩ := e
    have g := Grow.one (o := .frz (ob pa) (.tup [px, py])) s (h (pa, px, py) (by simp))
    have hb := hob (pa, px, py) (by simp)
    have h2 : ∀ q ∈ r, (upd H pa (.frz (ob pa) (.tup [px, py]))) q.1 = none := fun q hq => by rw [upd_ne (d.1 q hq)]; exact h q (by simp [hq])
    have g2 := lay_grow (ob := ob) g.fh h2 d.2
    have ih := lay_rep (T := T) g.fh h2 d.2 (fun q hq => hob q (by simp [hq])) (RepL.mono g.ff _ _ a2) (RepL.mono g.ff _ _ b2) e2
    unfold lay
    exact .cons (Rep.mono g2.ff _ _ (mk_tup (vs := [px, py]) ⟨_, hb.1, hb.2, upd_same⟩ (by simp [LIM]) (.cons (Rep.mono g.ff _ _ a1) (.cons (Rep.mono g.ff _ _ b1) .nil)))) ih
theorem apart_of : ∀ {ps : List (Addr × V × V)}, (ps.map (·.1)).Pairwise (· < ·) → Apart ps
  | [], _ => trivial
  | p :: r, h => by
    simp only [List.map_cons, List.pairwise_cons] at h
    exact ⟨fun q hq => Nat.ne_of_gt (h.1 q.1 (List.mem_map.mpr ⟨q, hq, rfl⟩)), apart_of h.2⟩
section
variable {X : Cx} {pins : List (Addr × Obj)} {σ : St} {H : Hp} {s : Shared} {h' : Heap}
theorem hok_one {P : Program} {w : World} {H : Hp} {h' : Heap} {a : Addr} {o : HO} (x : HOk P w H h') (hn : H a = none) (new : ObjOk P w (upd H a o) h' a o) : HOk P w (upd H a o) h' := fun b u e => by
  by_cases hb : b = a
  · subst hb; rw [upd_same] at e; cases e; exact new
  · rw [upd_ne hb] at e
    exact (x b u e).stay (fun c v _ q => q) (fun c q => by rw [upd_ne (ne_of_none q hn)]; exact q) fun c xs q => by rw [upd_ne (ne_of_none q hn)]; exact q
theorem hok_lay {P : Program} {w : World} {h' : Heap} {ob : Addr → Obj} : ∀ {ps : List (Addr × V × V)} {H : Hp}, HOk P w H h' → (∀ p ∈ ps, H p.1 = none) → Apart ps → (∀ p ∈ ps, ∃ u v : Value, RelV p.2.1 u ∧ RelV p.2.2 v ∧ h'.get? p.1 = some (ob p.1) ∧ ob p.1 = { cls := .type "tuple", data := .seq #[u, v] }) → HOk P w (lay ob ps H) h'
  | [], H, x, _, _, _ => x
  | p :: r, H, x, h, d, t => by
    unfold lay
    refine hok_lay (hok_one x (h p (by simp)) ?_) (fun q hq => by rw [upd_ne (d.1 q hq)]; exact h q (by simp [hq])) d.2 fun q hq => t q (by simp [hq])
    obtain ⟨u, v, r1, r2, e, e'⟩ := t p (by simp)
    exact ⟨e, by show 2 ≤ sizeLine; decide, [u, v], .cons r1 (.cons r2 .nil), ⟨_, e, by rw [e'], 0, by rw [e']⟩⟩
theorem inv_lay {ob : Addr → Obj} {t' : Nat} {ps : List (Addr × V × V)} {S : Addr} {acc : Array Value} {c : Nat} (I : Inv X pins σ H s) (k : ∀ b u, s.heap.get? b = some u → h'.get? b = some u) (hS : s.heap.objs.size ≤ S) (hp : ∀ p ∈ ps, S < p.1) (d : Apart ps)
    (t : ∀ p ∈ ps, ∃ u v : Value, RelV p.2.1 u ∧ RelV p.2.2 v ∧ h'.get? p.1 = some (ob p.1) ∧ ob p.1 = { cls := .type "tuple", data := .seq #[u, v] }) (hl : ps.length ≤ sizeLine) (ha : acc.toList = ps.map fun p => Value.ref p.1) (he : h'.get? S = some { cls := .type "list", data := .seq acc c }) :
    Inv X pins σ (upd (lay ob ps H) S (.lst (ps.map fun p => V.ref p.1))) { s with heap := h', toks := t' } := by
  have hn : ∀ p ∈ ps, H p.1 = none := fun p hq => I.hok.fresh (Nat.le_trans hS (Nat.le_of_lt (hp p hq)))
  have hlS : lay ob ps H S = none := by rw [lay_old fun p hq => Nat.ne_of_gt (hp p hq)]; exact I.hok.fresh hS
  have old : ∀ b, b < s.heap.objs.size → (upd (lay ob ps H) S (.lst (ps.map fun p => V.ref p.1))) b = H b := fun b hb => by
    rw [upd_ne (Nat.ne_of_lt (Nat.lt_of_lt_of_le hb hS)), lay_old fun p hq => Nat.ne_of_gt (Nat.lt_trans (Nat.lt_of_lt_of_le hb hS) (hp p hq))]
  have oldS : ∀ b u, H b = some u → (upd (lay ob ps H) S (.lst (ps.map fun p => V.ref p.1))) b = some u := fun b u e => by
    rw [old b (I.hok.lt e)]; exact e
  refine I.un ⟨fun b o q _ _ _ => k b o q, fun b o q _ _ _ => ⟨o.slots, k b o q⟩, fun b o q n _ => by rw [old b (Heap.lt_size q)]; exact n, fun b o q _ => ⟨o, k b o q⟩, fun b xs q => oldS b _ q, fun b o u q => oldS b _ q, fun b ps' q => ⟨#[], by rw [oldS b _ q]; simp⟩⟩ ?_
  refine hok_one (hok_lay (I.hok.kept k) hn d t) hlS ⟨by rw [List.length_map]; exact hl, ps.map fun p => Value.ref p.1, c, ?_, ?_⟩
  · clear ha he hl hlS hn t d hp old oldS
    induction ps with
    | nil => exact .nil
    | cons p r ih => exact .cons rfl ih
  · have e : acc = (ps.map fun p => Value.ref p.1).toArray := by rw [← ha]
    rw [← e]; exact he
end
theorem zlt {n d e : Nat} (h : d < e) : n + d < n + e := Nat.add_lt_add_left h n
def tLZ (K : PySem.W.Frag) (t : TA) : TE := fun σ H Q => t σ H fun vs H1 => ∃ (a b : Addr) (xs ys : List V), vs = [.ref a, .ref b] ∧ SqT K H1 a xs ∧ SqT K H1 b ys ∧ xs.length ≤ sizeLine ∧
  ∀ (S : Addr) (ps : List (Addr × V × V)) (ob : Addr → Obj), H1 S = none → (∀ p ∈ ps, H1 p.1 = none ∧ p.1 ≠ S) → Apart ps → (∀ p ∈ ps, (ob p.1).cls = .type "tuple" ∧ (ob p.1).dict = none) → ps.map (·.2) = xs.zip ys → Q (.ref S) (upd (lay ob ps H1) S (.lst (ps.map fun p => V.ref p.1)))
theorem pe_lzip {X : Cx} {e e2 : Expr} {t : TA} {p p2 pos pos2 : Pos} (hc : X.calm = true) (hg : Gl X "list") (hm : X.mg "list" = none) (hg2 : Gl X "zip") (hm2 : X.mg "zip" = none) (ha : PA X [e, e2] t)
    (na : starEach [.Call (.Name "zip" p2) [e, e2] [] pos2] X.env = (false, eval (.Call (.Name "zip" p2) [e, e2] [] pos2) X.env) :: starEach [] X.env := by rfl) (hs : starEach [e, e2] X.env = (false, eval e X.env) :: starEach [e2] X.env := by rfl) (hpl : (backTo pos2 (starEach [e2] X.env)).any (·.1) = false := by rfl) :
    PE X (.Call (.Name "list" p) [.Call (.Name "zip" p2) [e, e2] [] pos2] [] pos) (tLZ X.K t) := by
  refine ⟨fun pins s σ H Q I h => ?_⟩
  refine Call_ (ld_blt I hg hm boot_list (PyProof.Rows.callWith_type1 (args_cons ?_ na) na))
  refine Call_ (ld_blt I hg2 hm2 PyProof.Rows.boot_zip (PyProof.Rows.callWith_type1 (thn (ha.run pos2 pins s σ H _ I h) fun us s1 ⟨vs, H1, I1, r1, q1⟩ => ?_) hs hpl))
  obtain ⟨a, b, xs, ys, ex, hqx, hqy, hlx, q⟩ := q1
  subst ex
  cases r1 with
  | cons r rr =>
    cases rr with
    | cons r' rr =>
      cases rr
      cases r
      cases r'
      obtain ⟨its, rv, p1, _⟩ := I1.tuple hqx
      obtain ⟨its2, rv2, p2, _⟩ := I1.tuple hqy
      obtain ⟨o1, ho1, _⟩ := id p1
      obtain ⟨o2, ho2, _⟩ := id p2
      have l1 := rv.length
      refine RZ.call_zipT (show s1.heap.IsTuple a its.toArray from p1) (show s1.heap.IsTuple b its2.toArray from p2) fun h' hz hTI hTO h1 h2 hsz hk => args_nil ?_
      refine PPZ.listOf (s := { s1 with heap := h' }) (n := min its.length its2.length) (xs := its.toArray) (ys := its2.toArray) (I1.ok.hd hc) (PySem.W.ktu_apart s1.heap.objs.size a b (Heap.lt_size ho1) (Heap.lt_size ho2)) (by simp) (by omega) (zlt (by decide)) (zlt (by decide)) (zlt (d := 0) (by decide)) (zlt (by decide)) hz hTI ⟨_, _, hTO⟩ h1 h2 (Heap.IsTuple.at p1 fun o e => hk _ o e) (Heap.IsTuple.at p2 fun o e => hk _ o e) fun h2' tk acc c as hk2 hS2 hl hG hacc => ?_
      have hsz' : s1.heap.objs.size + 5 = h'.objs.size := hsz.symm
      have kk : ∀ b u, s1.heap.get? b = some u → h2'.get? b = some u := fun b u e => by
        have := Heap.lt_size e
        exact hk2 b u (Nat.ne_of_lt (Nat.lt_of_lt_of_le this (Nat.le_add_right _ _))) (Nat.ne_of_lt (Nat.lt_of_lt_of_le this (Nat.le_add_right _ _))) (Nat.ne_of_lt this) (Nat.ne_of_lt (Nat.lt_of_lt_of_le this (Nat.le_add_right _ _))) (hk b u e)
      have hle : s1.heap.objs.size ≤ h'.objs.size := by rw [hsz]; exact Nat.le_add_right _ _
      have l2 := rv2.length
      have hlen : as.length = (xs.zip ys).length := by rw [hl, List.length_zip, l1, l2]
      have e1 : (as.zip (xs.zip ys)).map (·.2) = xs.zip ys := List.map_snd_zip (by omega)
      have e0 : (as.zip (xs.zip ys)).map (·.1) = as := List.map_fst_zip (by omega)
      have e2 : (as.zip (xs.zip ys)).map (fun p => Value.ref p.1) = as.map Value.ref := by
        have : (as.zip (xs.zip ys)).map (fun p => Value.ref p.1) = ((as.zip (xs.zip ys)).map (·.1)).map Value.ref := by rw [List.map_map]; rfl
        rw [this, e0]
      have hd : Apart (as.zip (xs.zip ys)) := apart_of (by rw [e0]; exact hG.rise)
      have hab : ∀ p ∈ as.zip (xs.zip ys), h'.objs.size < p.1 := fun p hp => hG.up p.1 (List.of_mem_zip hp).1
      obtain ⟨ob, hob⟩ : ∃ ob : Addr → Obj, ∀ a o, h2'.get? a = some o → ob a = o := ⟨fun a => match h2'.get? a with | some o => o | none => { cls := .none, data := .fields #[] }, fun a o e => by simp only [e]⟩
      have ht : ∀ p ∈ as.zip (xs.zip ys), ∃ u v : Value, RelV p.2.1 u ∧ RelV p.2.2 v ∧ h2'.get? p.1 = some (ob p.1) ∧ ob p.1 = { cls := .type "tuple", data := .seq #[u, v] } := fun p hp => by
        obtain ⟨j, hj⟩ := List.mem_iff_getElem?.mp hp
        obtain ⟨q1, q2⟩ := List.getElem?_zip_eq_some.mp hj
        obtain ⟨q3, q4⟩ := List.getElem?_zip_eq_some.mp q2
        obtain ⟨u, v, z1, z2, z3⟩ := hG.pr j p.1 q1
        obtain ⟨u', y1, y2⟩ := rv.get q3
        obtain ⟨v', y3, y4⟩ := rv2.get q4
        have z1' : its[j]? = some u := by simpa using z1
        have z2' : its2[j]? = some v := by simpa using z2
        rw [y1] at z1'; rw [y3] at z2'
        cases z1'; cases z2'
        exact ⟨_, _, y2, y4, by rw [hob _ _ z3]; exact z3, hob _ _ z3⟩
      have I2 := inv_lay (t' := tk) I1 kk hle hab hd ht (by rw [List.length_zip]; omega) (by rw [hacc, e2]) hS2
      exact ⟨.ref h'.objs.size, _, I2, rfl, q _ _ ob (I1.hok.fresh hle) (fun p hp => ⟨I1.hok.fresh (Nat.le_trans hle (Nat.le_of_lt (hab p hp))), Nat.ne_of_gt (hab p hp)⟩) hd (fun p hp => by
        obtain ⟨_, _, _, _, _, e'⟩ := ht p hp
        rw [e']; exact ⟨rfl, rfl⟩) e1⟩
theorem isLst_lzip {f h : PP.X} : ∀ ρ g d g', xLZip f h ρ g = .ok d g' → ∃ l, d = .lst l := fun ρ g d g' e => by
  unfold xLZip at e
  cases hf : f ρ g with
  | ok a g1 =>
    rw [hf] at e
    simp only [R.bind_ok] at e
    cases hh : h ρ g1 with
    | ok b g2 =>
      rw [hh] at e
      simp only [R.bind_ok] at e
      split at e <;> first | (cases e; exact ⟨_, rfl⟩) | cases e
    | ex _ _ => rw [hh] at e; cases e
    | bad => rw [hh] at e; cases e
  | ex _ _ => rw [hf] at e; cases e
  | bad => rw [hf] at e; cases e
theorem f_lzip {X : Cx} {T : Tb} {Z : Act} {W : WX} {own : List Nat} {e e2 : Expr} {fa fb : PP.X} {p p2 pos pos2 : Pos} (hc : X.calm = true) (hg : Gl X "list") (hm : X.mg "list" = none) (hg2 : Gl X "zip") (hm2 : X.mg "zip" = none) (ha : XAs X T Z W own [e, e2] (aCons fa (aCons fb aNil))) (hK : X.K = T.K := by rfl)
    (na : starEach [.Call (.Name "zip" p2) [e, e2] [] pos2] X.env = (false, eval (.Call (.Name "zip" p2) [e, e2] [] pos2) X.env) :: starEach [] X.env := by rfl) (hs : starEach [e, e2] X.env = (false, eval e X.env) :: starEach [e2] X.env := by rfl) (hpl : (backTo pos2 (starEach [e2] X.env)).any (·.1) = false := by rfl) :
    XF X T Z W own (.Call (.Name "list" p) [.Call (.Name "zip" p2) [e, e2] [] pos2] [] pos) (xLZip fa fb) := by
  have h1 := pe_lzip (p := p) (pos := pos) hc hg hm hg2 hm2 ha na hs hpl
  rw [hK] at h1
  refine PE.imp h1 fun σ H Q ⟨kp, F, ρ, g, c, q⟩ => ?_
  refine ⟨kp, F, ρ, g, c, ?_⟩
  have q' := q.bind
  simp only [aCons]
  cases hf : fa ρ g with
  | ok d g1 =>
    rw [hf] at q'
    have q2 := rQ.bind (σ := σ) q'
    simp only [PP.R.bind_ok]
    cases hf2 : fb ρ g1 with
    | ok d2 g2 =>
      rw [hf2] at q2
      cases d with
      | tup l =>
        cases d2 with
        | tup m =>
          intro vs F1 H1 c1 s1 r1
          obtain ⟨x, y, rfl, r, r'⟩ := call2 r1
          obtain ⟨a, us, rfl, e1, l1, k1⟩ := rep_tup r
          obtain ⟨b, ws, rfl, e3, l3, k3⟩ := rep_tup r'
          have t1 := PPT.TH.sq (K := T.K) (e1.mono c1.core.sub)
          have t2 := PPT.TH.sq (K := T.K) (e3.mono c1.core.sub)
          refine ⟨a, b, us, ws, rfl, t1, t2, by rw [← LIM_eq]; exact l1, fun S ps ob nS hp hd hob he => ?_⟩
          have gr := lay_grow (ob := ob) c1.core.sub (fun p hp' => (hp p hp').1) hd
          have rr := lay_rep (T := T) c1.core.sub (fun p hp' => (hp p hp').1) hd hob k1 k3 he
          have c2 := c1.grow gr
          have nl : lay ob ps H1 S = none := by rw [lay_old fun p hp' => (hp p hp').2]; exact nS
          have hlp : ps.length ≤ LIM := by
            have : (ps.map (·.2)).length = (us.zip ws).length := by rw [he]
            rw [List.length_map, List.length_zip] at this
            omega
          exact tPF.of (f := fa) c2 (pF.up (s1.trans gr.ff) _ _ q2) (by rw [List.length_map]; exact hlp) rr S nl
        | _ => exact q2.elim
      | _ => cases d2 <;> exact q2.elim
    | ex e' g1 => rw [hf2] at q2; exact q2
    | bad => rw [hf2] at q2; exact q2.elim
  | ex e' g1 => rw [hf] at q'; exact q'
  | bad => rw [hf] at q'; exact q'.elim
end PP

set_option Elab.async false
set_option linter.all false
set_option maxRecDepth 100000
set_option maxHeartbeats 4000000
namespace PP
open PySem L2
open PyProof.Rows (envOfC)
/-! ### one sign in a text -/
theorem subAt_one (s : List Nat) (c i : Nat) : Builtin.Str.subAt ⟨s.toArray⟩ ⟨#[c]⟩ i = decide (s[i]? = some c) := by
  unfold Builtin.Str.subAt
  rw [Bool.eq_iff_iff, decide_eq_true_eq, beq_iff_eq]
  have e1 : (⟨#[c]⟩ : Str).length = 1 := rfl
  rw [e1]
  constructor
  · intro h
    have h2 := congrArg (fun a => a.toList) h
    simp only [Array.toList_extract, List.extract_eq_drop_take] at h2
    have h3 : (List.take (i + 1 - i) (List.drop i s)) = [c] := h2
    have h4 : (List.take (i + 1 - i) (List.drop i s))[0]? = some c := by rw [h3]; rfl
    rw [List.getElem?_take] at h4
    split at h4
    · rw [List.getElem?_drop] at h4; simpa using h4
    · cases h4
  · intro h
    apply Array.toList_inj.mp
    simp only [Array.toList_extract, List.extract_eq_drop_take]
    show List.take (i + 1 - i) (List.drop i s) = [c]
    obtain ⟨hi, h2⟩ := List.getElem?_eq_some_iff.mp h
    have e : i + 1 - i = 1 := by omega
    rw [e, List.drop_eq_getElem_cons hi, h2]
    rfl
/-- where c stands, from i on -/
def posF (s : List Nat) (c : Nat) : Nat → Nat → List Nat
  | 0, _ => []
  | n + 1, i => if s[i]? = some c then i :: posF s c n (i + 1) else posF s c n (i + 1)
theorem occ_run (s : List Nat) (c limit : Nat) : ∀ (n i : Nat) (acc : Array Nat) (free : Nat), free ≤ i → i + n = s.length + 1 →
    (forIn (List.range' i n) (acc, free) (StrLaws.occBody ⟨s.toArray⟩ ⟨#[c]⟩ s.length limit)).run.fst.toList = acc.toList ++ (posF s c n i).take (limit - acc.size)
  | 0, i, acc, free, _, _ => by simp [posF]
  | n + 1, i, acc, free, hf, hn => by
    rw [List.range'_succ, List.forIn_cons]
    unfold StrLaws.occBody
    rw [subAt_one]
    have e1 : (⟨#[c]⟩ : Str).length = 1 := rfl
    by_cases hs : s[i]? = some c
    · have hi := (List.getElem?_eq_some_iff.mp hs).1
      by_cases hl : acc.size < limit
      · rw [if_pos ⟨⟨⟨hl, hf⟩, by rw [e1]; omega⟩, by simpa using hs⟩]
        have ih := occ_run s c limit n (i + 1) (acc.push i) (i + 1) (by omega) (by omega)
        show (forIn (List.range' (i + 1) n) (acc.push i, i + 1) (StrLaws.occBody ⟨s.toArray⟩ ⟨#[c]⟩ s.length limit)).run.fst.toList = _
        rw [ih]
        simp only [posF, hs, if_true, Array.toList_push, Array.size_push, List.append_assoc]
        have e : limit - acc.size = (limit - (acc.size + 1)) + 1 := by omega
        rw [e, List.take_succ_cons]
        rfl
      · rw [if_neg (fun h => hl h.1.1.1)]
        have ih := occ_run s c limit n (i + 1) acc free (by omega) (by omega)
        show (forIn (List.range' (i + 1) n) (acc, free) (StrLaws.occBody ⟨s.toArray⟩ ⟨#[c]⟩ s.length limit)).run.fst.toList = _
        rw [ih]
        have e : limit - acc.size = 0 := by omega
        simp [e]
    · rw [if_neg (fun h => hs (by simpa using h.2))]
      have ih := occ_run s c limit n (i + 1) acc free (by omega) (by omega)
      show (forIn (List.range' (i + 1) n) (acc, free) (StrLaws.occBody ⟨s.toArray⟩ ⟨#[c]⟩ s.length limit)).run.fst.toList = _
      rw [ih]
      simp only [posF, hs, if_false]
theorem occ_one (s : List Nat) (c limit : Nat) : Builtin.Str.occurrences ⟨s.toArray⟩ ⟨#[c]⟩ 0 s.length limit = (posF s c (s.length + 1) 0).take limit := by
  rw [StrLaws.occ_eq]
  have := occ_run s c limit (s.length + 1) 0 #[] 0 (Nat.le_refl _) (by omega)
  simpa using this
theorem posF_count (s : List Nat) (c : Nat) : ∀ (n i : Nat), s.length ≤ i + n → (posF s c n i).length = (s.drop i).count c
  | 0, i, h => by simp [posF]; rw [List.drop_eq_nil_of_le (by omega)]; rfl
  | n + 1, i, h => by
    have ih := posF_count s c n (i + 1) (by omega)
    by_cases hi : i < s.length
    · rw [List.drop_eq_getElem_cons hi, List.count_cons]
      have e : s[i]? = some s[i] := List.getElem?_eq_getElem hi
      simp only [posF, e, Option.some.injEq]
      by_cases hc : s[i] = c
      · simp [hc, ih]
      · simp [hc, ih]
    · have e : s[i]? = none := List.getElem?_eq_none (by omega)
      simp only [posF, e]
      rw [if_neg (by simp), ih, List.drop_eq_nil_of_le (by omega), List.drop_eq_nil_of_le (by omega)]
theorem posF_le (s : List Nat) (c : Nat) : ∀ n i, (posF s c n i).length ≤ n
  | 0, _ => by simp [posF]
  | n + 1, i => by
    have := posF_le s c n (i + 1)
    unfold posF
    split
    · simp; omega
    · omega
theorem posF_idx (s : List Nat) (c : Nat) : ∀ (n i : Nat), s.length ≤ i + n → c ∈ s.drop i → ∃ r, posF s c n i = (i + (s.drop i).idxOf c) :: r
  | 0, i, h, hm => by rw [List.drop_eq_nil_of_le (by omega)] at hm; cases hm
  | n + 1, i, h, hm => by
    by_cases hi : i < s.length
    · have e : s[i]? = some s[i] := List.getElem?_eq_getElem hi
      rw [List.drop_eq_getElem_cons hi] at hm ⊢
      by_cases hc : s[i] = c
      · refine ⟨posF s c n (i + 1), ?_⟩
        simp [posF, e, hc, List.idxOf_cons]
      · have hm' : c ∈ s.drop (i + 1) := by
          rcases List.mem_cons.mp hm with h1 | h1
          · exact absurd h1.symm hc
          · exact h1
        obtain ⟨r, hr⟩ := posF_idx s c n (i + 1) (by omega) hm'
        refine ⟨r, ?_⟩
        simp only [posF, e, Option.some.injEq, hc, if_false]
        rw [hr, List.idxOf_cons]
        have : (s[i] == c) = false := by simpa using hc
        rw [this]
        simp
        omega
    · rw [List.drop_eq_nil_of_le (by omega)] at hm; cases hm
theorem count_one (s : List Nat) (c : Nat) : Txt.count ⟨s.toArray⟩ ⟨#[c]⟩ = (s.count c : Nat) := by
  unfold Txt.count
  have e : (⟨s.toArray⟩ : Str).length = s.length := str_len
  rw [e, occ_one, List.take_of_length_le (posF_le s c _ _), posF_count s c _ _ (by omega)]
  rfl
theorem starts_pre (s t : List Nat) : Txt.startswith ⟨s.toArray⟩ ⟨t.toArray⟩ = t.isPrefixOf s := by
  unfold Txt.startswith Builtin.Str.subAt
  have e : (⟨s.toArray⟩ : Str).length = s.length := str_len
  have e2 : (⟨t.toArray⟩ : Str).length = t.length := str_len
  rw [e, e2, Bool.eq_iff_iff, Bool.and_eq_true, decide_eq_true_eq, beq_iff_eq, List.isPrefixOf_iff_prefix]
  constructor
  · rintro ⟨h1, h2⟩
    have h3 := congrArg (fun a => a.toList) h2
    simp only [Array.toList_extract, List.extract_eq_drop_take] at h3
    have h4 : List.take t.length s = t := by simpa using h3
    rw [← h4]
    exact List.take_prefix _ _
  · intro h
    refine ⟨by have := h.length_le; omega, ?_⟩
    apply Array.toList_inj.mp
    simp only [Array.toList_extract, List.extract_eq_drop_take]
    have := List.prefix_iff_eq_take.mp h
    simpa using this.symm
theorem join_L (sep : List Nat) : ∀ xs : List (List Nat), Txt.join ⟨sep.toArray⟩ (xs.map fun x => (⟨x.toArray⟩ : Str)) = ⟨(joinL sep xs).toArray⟩ := by
  intro xs
  rw [TL.join_eq]
  induction xs with
  | nil => rfl
  | cons x r ih =>
    cases r with
    | nil => rfl
    | cons y r =>
      show (⟨x.toArray⟩ : Str) ++ ⟨sep.toArray⟩ ++ Str.join ⟨sep.toArray⟩ ((y :: r).map fun x => (⟨x.toArray⟩ : Str)) = _
      rw [ih, str_app, str_app]
      rfl
theorem strs_rep {T : Tb} {F : Hp} : ∀ {l : List D} {vs : List V} {xs : List (List Nat)}, RepL T F vs l → strsD l = some xs → vs = (xs.map fun x => (⟨x.toArray⟩ : Str)).map V.str ∧ ∀ x ∈ xs, ∀ c ∈ x, c < 1114112
  | [], vs, xs, r, e => by
    simp only [strsD, Option.some.injEq] at e
    subst e
    exact ⟨r.nil_inv, by simp⟩
  | d :: l, vs, xs, r, e => by
    obtain ⟨v, us, rfl, h1, h2⟩ := r.inv2
    cases d with
    | str s =>
      simp only [strsD, Option.map_eq_some_iff] at e
      obtain ⟨ys, e1, rfl⟩ := e
      obtain ⟨rfl, _, hc⟩ := rep_str h1
      obtain ⟨i1, i2⟩ := strs_rep h2 e1
      refine ⟨by rw [i1]; rfl, fun x hx => ?_⟩
      rcases List.mem_cons.mp hx with rfl | hx
      · exact hc
      · exact i2 x hx
    | _ => simp [strsD] at e
theorem joinL_len (sep : List Nat) : ∀ xs : List (List Nat), (joinL sep xs).length ≤ (xs.map List.length).sum + xs.length * sep.length
  | [] => by simp [joinL]
  | [x] => by simp [joinL]
  | x :: y :: r => by
    have := joinL_len sep (y :: r)
    simp only [joinL, List.length_append, List.map_cons, List.sum_cons, List.length_cons, Nat.succ_mul] at this ⊢
    omega
theorem joinL_mem (sep : List Nat) : ∀ (xs : List (List Nat)) (c : Nat), c ∈ joinL sep xs → c ∈ sep ∨ ∃ x ∈ xs, c ∈ x
  | [], c, h => by simp [joinL] at h
  | [x], c, h => .inr ⟨x, by simp, h⟩
  | x :: y :: r, c, h => by
    simp only [joinL, List.mem_append] at h
    rcases h with (h | h) | h
    · exact .inr ⟨x, by simp, h⟩
    · exact .inl h
    · rcases joinL_mem sep (y :: r) c h with h | ⟨z, hz, h⟩
      · exact .inl h
      · exact .inr ⟨z, by simp [hz], h⟩
/-- a text's method, one argument -/
def MOk (T : Tb) (r : V → List V → Hp → VK → Prop) (op : List Nat → D → Option D) : Prop := ∀ F H s y e d Q, Sub F H → (s.length ≤ LIM ∧ ∀ c ∈ s, c < 1114112) → Rep T F y e → op s e = some d → (∀ v F' H', Grow F H F' H' → Rep T F' v d → Q v H') → r (.str ⟨s.toArray⟩) [y] H Q
section
variable {X : Cx} {T : Tb} {Z : Act} {W : WX} {own : List Nat} {o e : Expr} {fa fb : PP.X} {apos pos : Pos} {name : Str}
theorem sm_imp {r : V → List V → Hp → VK → Prop} {op : List Nat → D → Option D} (hr : MOk T r op) {σ : St} {H : Hp} {Q : VK} (h : tP T Z W own (xSM op fa fb) σ H Q) : tM1 r (tP T Z W own fa) (tP T Z W own fb) σ H Q := by
  obtain ⟨kp, F, ρ, g, c, q⟩ := h
  exact tP.then c q.bind fun d1 g1 v1 F1 H1 q1 c1 s1 r1 => by
    cases d1 with
    | str s =>
      obtain ⟨rfl, l1, m1⟩ := rep_str r1
      exact ⟨⟨_, rfl⟩, tP.then c1 (q1.bind.up s1 fun _ _ z => z) fun d2 g2 v2 F2 H2 q2 c2 s2 r2 => by
        obtain ⟨d, e, q3⟩ := rQ.ofO (H := H) q2
        exact hr F2 H2 s v2 d2 d Q c2.core.sub ⟨l1, m1⟩ r2 e fun v F' H' gr rv => q3 v F' H' (c2.grow gr) ((s1.trans s2).trans gr.ff) rv⟩
    | _ => exact q1.elim
theorem x_sm {id : String} {r : V → List V → Hp → VK → Prop} {op : List Nat → D → Option D} (slot : Slot "str" name id) (ty : typeOf (.builtin id) = pure (.type "method_descriptor")) (rule : MtR X id r) (hr : MOk T r op) (ho : XE X T Z W own o fa) (he : XE X T Z W own e fb)
    (hs : starEach [e] X.env = [(false, eval e X.env)] := by rfl) (hbase : attributeBase o name X.env (eval o X.env) = eval o X.env := by rfl) (hline : (apos.endLine == pos.line) = true := by rfl) :
    XE X T Z W own (.Call (.Attribute o name apos) [e] [] pos) (xSM op fa fb) := PE.imp (pe_m1 slot ty rule ho he hs hbase hline) fun σ H Q h => sm_imp hr h
end
theorem mk_count {T : Tb} : MOk T (fun x xs H Q => ∃ a b, x = .str a ∧ xs = [.str b] ∧ Q (.int (Txt.count a b)) H) countD := by
  intro F H s y e d Q sb hs ry he k
  cases e with
  | str t =>
    obtain ⟨rfl, _, _⟩ := rep_str ry
    unfold countD at he
    split at he
    · rename_i c hc
      cases hc; cases he
      refine ⟨_, _, rfl, rfl, k _ F H (.refl sb) ?_⟩
      rw [count_one]
      exact mk_int
    · cases he
  | _ => simp [countD] at he
theorem mk_starts {T : Tb} : MOk T (fun x xs H Q => ∃ a b, x = .str a ∧ xs = [.str b] ∧ Q (.bl (Txt.startswith a b)) H) startsD := by
  intro F H s y e d Q sb hs ry he k
  cases e with
  | str t =>
    obtain ⟨rfl, _, _⟩ := rep_str ry
    cases he
    refine ⟨_, _, rfl, rfl, k _ F H (.refl sb) ?_⟩
    rw [starts_pre]
    exact mk_bl
  | _ => simp [startsD] at he
theorem mk_index {T : Tb} : MOk T (fun x xs H Q => ∃ a b i rest, x = .str a ∧ xs = [.str b] ∧ Builtin.Str.occurrences a b 0 a.length 1 = i :: rest ∧ Q (.int (i : Nat)) H) indexD := by
  intro F H s y e d Q sb hs ry he k
  cases e with
  | str t =>
    obtain ⟨rfl, _, _⟩ := rep_str ry
    unfold indexD at he
    split at he
    · rename_i c hc
      cases hc
      split at he
      · rename_i hm
        cases he
        have hm' : c ∈ s.drop 0 := by simpa using hm
        obtain ⟨r, hr⟩ := posF_idx s c (s.length + 1) 0 (by omega) hm'
        have e : (⟨s.toArray⟩ : Str).length = s.length := str_len
        refine ⟨_, _, _, _, rfl, rfl, by rw [e]; exact (occ_one s c 1).trans (by rw [hr]; rfl), k _ F H (.refl sb) ?_⟩
        simpa using mk_int
      · cases he
    · cases he
  | _ => simp [indexD] at he
theorem mk_join {T : Tb} {K : PySem.W.Frag} (hK : K = T.K) : MOk T (fun x xs H Q => ∃ a p, ∃ ys : List Str, x = .str a ∧ xs = [.ref p] ∧ (SqL K H p (ys.map V.str) ∨ SqT K H p (ys.map V.str)) ∧ (ys.map (·.length)).sum + ys.length * a.length ≤ 16777216 ∧ Q (.str (Txt.join a ys)) H) joinD := by
  subst hK
  intro F H s y e d Q sb hs ry he k
  have main : ∀ (l : List D) (vs : List V) (p : Addr), RepL T F vs l → joinS s l = some d → (SqL T.K H p vs ∨ SqT T.K H p vs) → y = .ref p → ∃ a p, ∃ ys : List Str, (V.str ⟨s.toArray⟩ = .str a) ∧ [y] = [.ref p] ∧ (SqL T.K H p (ys.map V.str) ∨ SqT T.K H p (ys.map V.str)) ∧ (ys.map (·.length)).sum + ys.length * a.length ≤ 16777216 ∧ Q (.str (Txt.join a ys)) H := by
    intro l vs p r e sq ey
    unfold joinS at e
    simp only [Option.bind_eq_some_iff, Option.ite_none_right_eq_some, Option.some.injEq] at e
    obtain ⟨xs, e1, e2, rfl⟩ := e
    obtain ⟨rfl, hc⟩ := strs_rep r e1
    have el : ((xs.map fun x => (⟨x.toArray⟩ : Str)).map (·.length)) = xs.map List.length := by
      rw [List.map_map]
      apply List.map_congr_left
      intro x _
      exact str_len
    refine ⟨_, p, _, rfl, by rw [ey], sq, ?_, k _ F H (.refl sb) ?_⟩
    · rw [el, List.length_map, str_len]
      have : LIM = 16777216 := rfl
      omega
    · rw [join_L]
      refine mk_str (Nat.le_trans (joinL_len s xs) e2) fun c hcm => ?_
      rcases joinL_mem s xs c hcm with h | ⟨x, hx, h⟩
      · exact hs.2 c h
      · exact hc x hx c h
  cases e with
  | lst l =>
    obtain ⟨p, vs, rfl, e1, _, r⟩ := rep_lst ry
    exact main l vs p r he (.inl (SqL.of (sb _ _ e1))) rfl
  | tup l =>
    obtain ⟨p, vs, rfl, e1, _, r⟩ := rep_tup ry
    exact main l vs p r he (.inr ((e1.mono sb).sq)) rfl
  | _ => simp [joinD] at he
section
variable {X : Cx} {T : Tb} {Z : Act} {W : WX} {own : List Nat} {o e : Expr} {fa fb : PP.X} {apos pos : Pos}
theorem x_join (ho : XE X T Z W own o fa) (he : XE X T Z W own e fb) (hK : X.K = T.K := by rfl) (hs : starEach [e] X.env = [(false, eval e X.env)] := by rfl) (hbase : attributeBase o "join" X.env (eval o X.env) = eval o X.env := by rfl) (hline : (apos.endLine == pos.line) = true := by rfl) :
    XE X T Z W own (.Call (.Attribute o "join" apos) [e] [] pos) (xSM joinD fa fb) := x_sm F.slot_str_join F.type_str_join mt_join (mk_join hK) ho he hs hbase hline
theorem x_count (ho : XE X T Z W own o fa) (he : XE X T Z W own e fb) (hs : starEach [e] X.env = [(false, eval e X.env)] := by rfl) (hbase : attributeBase o "count" X.env (eval o X.env) = eval o X.env := by rfl) (hline : (apos.endLine == pos.line) = true := by rfl) :
    XE X T Z W own (.Call (.Attribute o "count" apos) [e] [] pos) (xSM countD fa fb) := x_sm F.slot_str_count F.type_str_count mt_count mk_count ho he hs hbase hline
theorem x_index (ho : XE X T Z W own o fa) (he : XE X T Z W own e fb) (hs : starEach [e] X.env = [(false, eval e X.env)] := by rfl) (hbase : attributeBase o "index" X.env (eval o X.env) = eval o X.env := by rfl) (hline : (apos.endLine == pos.line) = true := by rfl) :
    XE X T Z W own (.Call (.Attribute o "index" apos) [e] [] pos) (xSM indexD fa fb) := x_sm F.slot_str_index F.type_str_index mt_sindex mk_index ho he hs hbase hline
theorem x_starts (ho : XE X T Z W own o fa) (he : XE X T Z W own e fb) (hs : starEach [e] X.env = [(false, eval e X.env)] := by rfl) (hbase : attributeBase o "startswith" X.env (eval o X.env) = eval o X.env := by rfl) (hline : (apos.endLine == pos.line) = true := by rfl) :
    XE X T Z W own (.Call (.Attribute o "startswith" apos) [e] [] pos) (xSM startsD fa fb) := x_sm F.slot_str_startswith F.type_str_startswith mt_startswith mk_starts ho he hs hbase hline
end
/-! ### in -/
theorem flat_rep {T : Tb} {F : Hp} {v : V} {d : D} (r : Rep T F v d) (h : flatD d = true) : flatV v = true := by
  cases d with
  | non => obtain rfl := rep_non r; rfl
  | bl b => obtain rfl := rep_bl r; rfl
  | int i => obtain rfl := rep_int r; rfl
  | str s => obtain ⟨rfl, _⟩ := rep_str r; rfl
  | _ => simp [flatD] at h
theorem flat_reps {T : Tb} {F : Hp} : ∀ {l : List D} {vs : List V}, RepL T F vs l → l.all flatD = true → vs.all flatV = true
  | [], vs, r, _ => by rw [r.nil_inv]; rfl
  | d :: l, vs, r, h => by
    obtain ⟨v, us, rfl, h1, h2⟩ := r.inv2
    simp only [List.all_cons, Bool.and_eq_true] at h ⊢
    exact ⟨flat_rep h1 h.1, flat_reps h2 h.2⟩
theorem eq_flat {T : Tb} {F : Hp} {v u : V} {d e : D} (r : Rep T F v d) (r' : Rep T F u e) (h : flatD d = true) (h' : flatD e = true) : eqV v u = eqB d e := by
  cases d with
  | non => obtain rfl := rep_non r; cases e with
    | non => obtain rfl := rep_non r'; rfl
    | bl b => obtain rfl := rep_bl r'; rfl
    | int i => obtain rfl := rep_int r'; rfl
    | str s => obtain ⟨rfl, _⟩ := rep_str r'; rfl
    | _ => simp [flatD] at h'
  | bl b => obtain rfl := rep_bl r; cases e with
    | non => obtain rfl := rep_non r'; rfl
    | bl b => obtain rfl := rep_bl r'; rfl
    | int i => obtain rfl := rep_int r'; rfl
    | str s => obtain ⟨rfl, _⟩ := rep_str r'; rfl
    | _ => simp [flatD] at h'
  | int i => obtain rfl := rep_int r; cases e with
    | non => obtain rfl := rep_non r'; rfl
    | bl b => obtain rfl := rep_bl r'; rfl
    | int i => obtain rfl := rep_int r'; rfl
    | str s => obtain ⟨rfl, _⟩ := rep_str r'; rfl
    | _ => simp [flatD] at h'
  | str s => obtain ⟨rfl, _⟩ := rep_str r; cases e with
    | non => obtain rfl := rep_non r'; rfl
    | bl b => obtain rfl := rep_bl r'; rfl
    | int i => obtain rfl := rep_int r'; rfl
    | str t =>
      obtain ⟨rfl, _⟩ := rep_str r'
      simp only [eqV, eqB]
      rw [Bool.eq_iff_iff]
      simp
    | _ => simp [flatD] at h'
  | _ => simp [flatD] at h
theorem in_flat {T : Tb} {F : Hp} {x : V} {d : D} (rx : Rep T F x d) (hx : flatD d = true) : ∀ {l : List D} {vs : List V}, RepL T F vs l → l.all flatD = true → inV x vs = l.any fun y => eqB y d
  | [], vs, r, _ => by rw [r.nil_inv]; rfl
  | e :: l, vs, r, h => by
    obtain ⟨v, us, rfl, h1, h2⟩ := r.inv2
    simp only [List.all_cons, Bool.and_eq_true] at h
    have ih := in_flat rx hx h2 h.2
    unfold inV at ih ⊢
    rw [List.any_cons, List.any_cons, ih, eq_flat h1 rx h.1 hx]
def rDI (neg : Bool) : R2 := fun x y H Q => ∃ a o, y = .ref a ∧ DGet H a x o ∧ Q (.bl (if neg then !o.isSome else o.isSome)) H
theorem op_inD {X : Cx} (hu : X.A.units + 1 < cLine) : OpR X (compareOp .In) (rDI false) := by
  intro pins s σ H x y v u Q I rx ry h
  obtain ⟨a, o, rfl, g, q⟩ := h
  obtain rfl : u = Value.ref a := ry
  exact d_in hu I g rx fun s' I' => ⟨.bl o.isSome, H, I', rfl, q⟩
theorem op_ninD {X : Cx} (hu : X.A.units + 1 < cLine) : OpR X (compareOp .NotIn) (rDI true) := by
  intro pins s σ H x y v u Q I rx ry h
  obtain ⟨a, o, rfl, g, q⟩ := h
  obtain rfl : u = Value.ref a := ry
  exact d_notIn hu I g rx fun s' I' => ⟨.bl (!o.isSome), H, I', rfl, q⟩
def rInA (K : PySem.W.Frag) (neg : Bool) : R2 := fun x y H Q => (∃ (c : Nat) (z : Str), x = .str ⟨#[c]⟩ ∧ y = .str z ∧ Q (.bl (if neg then !decide (c ∈ z.cps.toList) else decide (c ∈ z.cps.toList))) H) ∨ (rIn K neg x y H Q ∨ rDI neg x y H Q)
theorem op_inA {X : Cx} (hu : X.A.units + 1 < cLine) : OpR X (compareOp .In) (rInA X.K false) := PP.OpR.cg (op_in_sign.or (op_in_seq.or (op_inD hu))) fun x y H Q h => h.imp (fun ⟨c, z, e1, e2, q⟩ => ⟨c, z, e1, e2, by simpa using q⟩) id
theorem op_ninA {X : Cx} (hu : X.A.units + 1 < cLine) : OpR X (compareOp .NotIn) (rInA X.K true) := PP.OpR.cg (op_notIn_sign.or (op_notIn_seq.or (op_ninD hu))) fun x y H Q h => h.imp (fun ⟨c, z, e1, e2, q⟩ => ⟨c, z, e1, e2, by simpa using q⟩) id
theorem bin_inG {T : Tb} (neg : Bool) : BinOk T (rInA T.K neg) (fun x y => (inB x y).map fun b => .bl (if neg then !b else b)) := by
  intro F H x y d1 d2 d Q s r1 r2 e k
  simp only [Option.map_eq_some_iff] at e
  obtain ⟨b, e, rfl⟩ := e
  have row : ∀ (l : List D) (vs : List V) (p : Addr), RepL T F vs l → inRow d1 l = some b → (SqL T.K H p vs ∨ SqT T.K H p vs) → y = .ref p → rInA T.K neg x y H Q := by
    intro l vs p r e sq ey
    unfold inRow at e
    simp only [Option.ite_none_right_eq_some, Bool.and_eq_true, Option.some.injEq] at e
    obtain ⟨⟨f1, f2⟩, rfl⟩ := e
    refine .inr (.inl ⟨p, vs, ey, sq, flat_rep r1 f1, flat_reps r f2, ?_⟩)
    rw [in_flat r1 f1 r f2]
    exact k _ F H (.refl s) mk_bl
  cases d2 with
  | str z =>
    cases d1 with
    | str t =>
      obtain ⟨rfl, _, _⟩ := rep_str r1
      obtain ⟨rfl, _, _⟩ := rep_str r2
      unfold inB at e
      split at e
      · rename_i c z' h1 h2
        cases h1; cases h2; cases e
        refine .inl ⟨c, _, rfl, rfl, ?_⟩
        have : decide (c ∈ z) = z.contains c := by simp
        show Q (.bl (if neg then !decide (c ∈ z) else decide (c ∈ z))) H
        rw [this]
        exact k _ F H (.refl s) mk_bl
      all_goals (rename_i h; first | cases h | cases e)
    | _ => simp [inB] at e
  | lst l =>
    obtain ⟨p, vs, rfl, e1, _, r⟩ := rep_lst r2
    exact row l vs p r (by cases d1 <;> simpa [inB] using e) (.inl (SqL.of (s _ _ e1))) rfl
  | tup l =>
    obtain ⟨p, vs, rfl, e1, _, r⟩ := rep_tup r2
    exact row l vs p r (by cases d1 <;> simpa [inB] using e) (.inr ((e1.mono s).sq)) rfl
  | dic ks ds =>
    obtain ⟨p, kvs, rfl, e1, _, q1, _⟩ := rep_dic r2
    have fin : isKey d1 = true → dHas d1 ks = b → rInA T.K neg x (.ref p) H Q := fun hk hb => by
      obtain ⟨key, rfl⟩ := key_of_rep hk r1
      refine .inr (.inr ⟨p, valV kvs key, rfl, DGet.k (s _ _ e1), ?_⟩)
      rw [← dhas_rep r1 q1, hb]
      exact k _ F H (.refl s) mk_bl
    cases d1 with
    | int i => exact fin rfl (by simpa [inB] using e)
    | str t => exact fin rfl (by unfold inB at e; split at e <;> simp_all)
    | _ => simp [inB] at e
  | _ => cases d1 <;> simp [inB] at e
theorem bin_in {T : Tb} : BinOk T (rInA T.K false) inD := bin_inG false
theorem bin_nin {T : Tb} : BinOk T (rInA T.K true) ninD := bin_inG true
end PP

set_option Elab.async false
set_option linter.all false
set_option maxRecDepth 100000
set_option maxHeartbeats 4000000
namespace PP
open PySem L2
open PyProof.Rows (envOfC)
section
variable {X : Cx} {T : Tb} {Z : Act} {W : WX} {own ob own1 own2 : List Nat} {kp F H : Hp} {σ : St} {ρ : Env} {g : G} {e ek : Expr} {f fk : PP.X} {pos : Pos}
theorem OwnC.at_of {T : Tb} {F F2 : Hp} {o : HO} {d : D} {p : Addr} (h : OwnC T F o d) (r : Rep T F2 (.ref p) d) : ∃ u, F2 p = some u := by
  cases d with
  | lst ds => obtain ⟨p', us, y1, y2, _⟩ := rep_lst r; cases y1; exact ⟨_, y2⟩
  | dic ks ds => obtain ⟨p', us, y1, y2, _⟩ := rep_dic r; cases y1; exact ⟨_, y2⟩
  | _ => exact h.elim
/-- what is one's own is read for something flat -/
theorem Rel.thaw {F2 F' H' : Hp} {g' : G} (c : Rel T Z own kp F H σ ρ g) (s0 : PP.Sub F F2) (c2 : Rel T Z [] kp F2 H σ ρ g) (c' : Rel T Z [] kp F' H' σ ρ g') (s : PP.Sub F2 F') : Rel T Z own kp F H' σ ρ g' where
  core := {
    sub := (s0.trans s).trans c'.core.sub
    kph := c'.core.kph
    kpf := c.core.kpf
    base := c'.core.base
    new := c.core.new
    f0 := c.core.f0
    fh0 := c.core.fh0
    on := c'.core.on
    at_ := c'.core.at_
    gen := fun o => ⟨(c'.core.gen o).1, (c.core.gen o).2.1, (c'.core.gen o).2.2.1, (c'.core.gen o).2.2.2⟩ }
  len := c'.len
  own_ := fun i hi => by
    obtain ⟨p, ds, k1, k2, w, k4⟩ := c.own_ i hi
    obtain ⟨o, e1, e2⟩ := w.at_
    obtain ⟨v, z1, z2⟩ := c2.shr i _ (by simp) k2
    rw [k1] at z1; cases z1
    obtain ⟨u, y⟩ := e2.at_of z2
    have e5 := c2.core.sub _ _ y
    rw [e1] at e5; cases e5
    exact ⟨p, ds, k1, k2, ⟨w.f, w.k, w.h0, w.g, o, c'.core.sub _ _ (s _ _ y), e2⟩, k4⟩
  shr := c.shr
theorem flat_up {F F' : Hp} {v : V} {d : D} (h : flatD d = true) (r : Rep T F' v d) : Rep T F v d := by
  cases d with
  | non => obtain rfl := rep_non r; exact mk_non
  | bl b => obtain rfl := rep_bl r; exact mk_bl
  | int i => obtain rfl := rep_int r; exact mk_int
  | str s => obtain ⟨rfl, h1, h2⟩ := rep_str r; exact mk_str h1 h2
  | _ => simp [flatD] at h
theorem x_flat (h : XE X T Z W [] e f) : XE X T Z W own e (xFlat f) := PE.imp h fun σ H Q ⟨kp, F, ρ, g, c, q⟩ => by
  obtain ⟨F2, s2, c2⟩ := c.freezeAll
  refine ⟨kp, F2, ρ, g, c2, ?_⟩
  have q' := q.bind
  cases hf : f ρ g with
  | ok d g1 =>
    rw [hf] at q'
    have q2 : rQ T Z W kp F σ ρ (pD T Z own kp F σ ρ Q) (match flatD d with
      | true => .ok d g1
      | false => .bad) := q'
    intro v F' H' c' s' r
    cases hd : flatD d with
    | true =>
      rw [hd] at q2
      exact q2 v F H' (c.thaw s2 c2 c' s') (.refl _) (flat_up hd r)
    | false => rw [hd] at q2; exact q2.elim
  | ex e' g1 => rw [hf] at q'; exact exQ.up q' s2
  | bad => rw [hf] at q'; exact q'
/-- xs.extend(e), xs one's own -/
theorem s_ext {i : Nat} {x : Str} {apos cpos npos : Pos} (hN : X.N[i]? = some x) (hv : Vis X.env.scope x) (hi : i ∈ own) (he : XE X T Z W own e f) (hK : X.K = T.K := by rfl)
    (hd : (x == ("__debug__" : Str)) = false := by decide) (hcd : (x == ("__classdict__" : Str)) = false := by decide)
    (hbase : attributeBase (.Name x npos) "extend" X.env (eval (.Name x npos) X.env) = eval (.Name x npos) X.env := by rfl)
    (hfew : ((backTo cpos (starEach [e] X.env)).all (fun x => !x.1) && (backToKw cpos (keywordEach [] X.env)).all (fun x => x.1.isSome)
      && decide ([e].length + ([] : List Keyword).length + (if ([] : List Keyword).isEmpty then 0 else 1) < 30)) = true := by rfl)
    (hline : (apos.endLine == cpos.line) = true := by rfl) (hs : starEach [e] X.env = (false, eval e X.env) :: starEach [] X.env := by rfl) (hplain : (backTo cpos (starEach [] X.env)).any (·.1) = false := by rfl)
    (hsw : swapsWith (.Call (.Attribute (.Name x npos) "extend" apos) [e] [] cpos) none pos.line X.env = pure false := by rfl) :
    YS X T Z W own ob (.Expr (.Call (.Attribute (.Name x npos) "extend" apos) [e] [] cpos) pos) (sExt i f) own := by
  have h1 := ps_expr (pos := pos) (pe_bm PySem.F.plainAttrs_list PySem.F.slot_list_extend PySem.F.type_list_extend mt_extend (pe_var (pos := npos) hN hv hd hcd) (pa_cons he pa_nil hs) hbase hfew hline hs hplain) hsw
  rw [hK] at h1
  refine PS.imp h1 fun D σ H ⟨kp, F, ρ, g, c, q⟩ => ?_
  obtain ⟨p, d0, k1, k2, w, k4⟩ := c.own_ i hi
  simp only [sExt, k2] at q
  cases d0 with
  | lst ds =>
    obtain ⟨vs, e1, e2, e3⟩ := w.lst
    simp only at q
    refine ⟨_, k1, .inl ⟨rfl, vs, SqL.of e1⟩, tP.then c (to_bind q) fun d g1 v F1 H1 q1 c1 s1 r1 => ?_⟩
    obtain ⟨p', ds', k1', k2', w', k4'⟩ := c1.own_ i hi
    rw [k1] at k1'; cases k1'
    rw [k2] at k2'; cases k2'
    obtain ⟨us, z1, z2, z3⟩ := w'.lst
    cases d with
    | lst m =>
      obtain ⟨b, ws, rfl, b1, b2, b3⟩ := rep_lst r1
      cases hl : decide (ds.length + m.length ≤ LIM) with
      | false => simp only [hl] at q1; exact q1.elim
      | true =>
        simp only [hl] at q1
        have hl' : us.length + ws.length ≤ LIM := by rw [z3.length, b3.length]; exact of_decide_eq_true hl
        exact ⟨p, b, us, ws, rfl, rfl, z1, c1.core.sub _ _ b1, by rw [← LIM_eq]; exact hl', q1 σ F1 _ (c1.wr (o' := .lst (us ++ ws)) (d' := .lst (ds ++ m)) hi k1 k2 ⟨_, rfl, by rw [List.length_append]; exact hl', z3.append b3⟩) s1⟩
    | _ => exact q1.elim
  | _ => exact q.elim
/-- xs.pop() -/
theorem RepL.set {T : Tb} {F : Hp} {v : V} {d : D} : ∀ {vs : List V} {ds : List D}, RepL T F vs ds → ∀ j : Nat, Rep T F v d → RepL T F (vs.set j v) (ds.set j d)
  | [], [], h, _, _ => by simpa using h
  | _ :: _, _ :: _, h, 0, r => by
    unfold RepL at h
    exact .cons r h.2
  | _ :: _, _ :: _, h, j + 1, r => by
    unfold RepL at h
    exact .cons h.1 (RepL.set h.2 j r)
  | [], _ :: _, h, _, _ => by unfold RepL at h; exact h.elim
  | _ :: _, [], h, _, _ => by unfold RepL at h; exact h.elim
theorem RepL.pop {T : Tb} {F : Hp} {vs : List V} {ds : List D} {d : D} (r : RepL T F vs ds) (h : ds.getLast? = some d) : ∃ v, vs[vs.length - 1]? = some v ∧ Rep T F v d ∧ RepL T F vs.dropLast ds.dropLast := by
  rw [List.getLast?_eq_getElem?] at h
  obtain ⟨v, h1, h2⟩ := r.get h
  rw [← r.length] at h1
  refine ⟨v, h1, h2, ?_⟩
  rw [List.dropLast_eq_take, List.dropLast_eq_take, r.length]
  exact r.take _
theorem s_pop {i : Nat} {x : Str} {apos cpos npos : Pos} (hN : X.N[i]? = some x) (hv : Vis X.env.scope x) (hi : i ∈ own) (hK : X.K = T.K := by rfl)
    (hd : (x == ("__debug__" : Str)) = false := by decide) (hcd : (x == ("__classdict__" : Str)) = false := by decide)
    (hbase : attributeBase (.Name x npos) "pop" X.env (eval (.Name x npos) X.env) = eval (.Name x npos) X.env := by rfl) (hline : (apos.endLine == cpos.line) = true := by rfl)
    (hsw : swapsWith (.Call (.Attribute (.Name x npos) "pop" apos) [] [] cpos) none pos.line X.env = pure false := by rfl) :
    YS X T Z W own ob (.Expr (.Call (.Attribute (.Name x npos) "pop" apos) [] [] cpos) pos) (sPop i) own := by
  have h1 := ps_expr (pos := pos) (pe_bm0 PySem.F.plainAttrs_list PySem.F.slot_list_pop PySem.F.type_list_pop mt_pop (pe_var (pos := npos) hN hv hd hcd) hbase hline) hsw
  rw [hK] at h1
  refine PS.imp h1 fun D σ H ⟨kp, F, ρ, g, c, q⟩ => ?_
  obtain ⟨p, d0, k1, k2, w, k4⟩ := c.own_ i hi
  simp only [sPop, k2] at q
  cases d0 with
  | lst ds =>
    obtain ⟨vs, e1, e2, e3⟩ := w.lst
    simp only at q
    cases hl : ds.getLast? with
    | none => rw [hl] at q; exact q.elim
    | some d =>
      rw [hl] at q
      obtain ⟨v, z1, z2, z3⟩ := e3.pop hl
      exact ⟨_, k1, .inl ⟨rfl, vs, SqL.of e1⟩, p, vs, v, rfl, rfl, e1, z1, q σ F _ (c.wr (o' := .lst vs.dropLast) (d' := .lst ds.dropLast) hi k1 k2 ⟨_, rfl, by rw [List.length_dropLast]; omega, z3⟩) (.refl _)⟩
  | _ => exact q.elim
theorem s_popTo {i : Nat} {x : Str} {tg : Expr} {gr : L2.TG} {gt : PP.TG} {is : List Nat} {apos cpos npos : Pos} (hN : X.N[i]? = some x) (hv : Vis X.env.scope x) (hi : i ∈ own) (hg : XG X T tg gr gt is) (ho : ∀ j ∈ is, j ∉ own) (hK : X.K = T.K := by rfl)
    (hd : (x == ("__debug__" : Str)) = false := by decide) (hcd : (x == ("__classdict__" : Str)) = false := by decide)
    (hbase : attributeBase (.Name x npos) "pop" X.env (eval (.Name x npos) X.env) = eval (.Name x npos) X.env := by rfl) (hline : (apos.endLine == cpos.line) = true := by rfl)
    (hs : swapsWithSole [tg] (.Call (.Attribute (.Name x npos) "pop" apos) [] [] cpos) pos.line X.env = pure false := by rfl) (hw : swappedStores [tg] (.Call (.Attribute (.Name x npos) "pop" apos) [] [] cpos) X.env = pure none := by rfl)
    (h1 : (assignEach [tg] X.env).map (·.2) = [assign tg X.env] := by rfl) : YS X T Z W own ob (.Assign [tg] (.Call (.Attribute (.Name x npos) "pop" apos) [] [] cpos) pos) (sPopTo gt i) own := by
  have h2 := ps_asg (pos := pos) (pe_bm0 PySem.F.plainAttrs_list PySem.F.slot_list_pop PySem.F.type_list_pop mt_pop (pe_var (pos := npos) hN hv hd hcd) hbase hline) hg.1 hs hw h1
  rw [hK] at h2
  refine PS.imp h2 fun D σ H ⟨kp, F, ρ, g, c, q⟩ => ?_
  obtain ⟨p, d0, k1, k2, w, k4⟩ := c.own_ i hi
  simp only [sPopTo, k2] at q
  cases d0 with
  | lst ds =>
   obtain ⟨vs, e1, e2, e3⟩ := w.lst
   simp only at q
   cases hl : ds.getLast? with
   | none => rw [hl] at q; exact q.elim
   | some d =>
    rw [hl] at q
    simp only at q
    obtain ⟨v, z1, z2, z3⟩ := e3.pop hl
    have c1 := c.wr (o' := .lst vs.dropLast) (d' := .lst ds.dropLast) hi k1 k2 ⟨_, rfl, by rw [List.length_dropLast]; omega, z3⟩
    cases hgt : gt d (ρ.set i (some (.lst ds.dropLast))) with
    | none => rw [hgt] at q; exact q.elim
    | some ρ1 =>
      rw [hgt] at q
      exact ⟨_, k1, .inl ⟨rfl, vs, SqL.of e1⟩, p, vs, v, rfl, rfl, e1, z1, hg.2 F _ v d _ _ ρ1 _ c1.core.sub z2 hgt fun σ2 u2 => q σ2 F _ (c1.ups u2 ho) (.refl _)⟩
  | _ => exact q.elim
/-- xs[k] = e -/
def rSetD : V → V → V → Hp → (Hp → Prop) → Prop := fun o i v H Q => ∃ p H', o = .ref p ∧ DPut H p i v H' ∧ Q H'
theorem set_dic {X : Cx} (hu : X.A.units + 1 < cLine) : PSet X rSetD := by
  intro pins s σ H o i v ov iv u Q I ro ri rv h
  obtain ⟨p, H', rfl, g, q⟩ := h
  obtain rfl : ov = Value.ref p := ro
  exact d_setItem hu I g ri rv fun s' I' => ⟨H', I', q⟩
def rSetA : V → V → V → Hp → (Hp → Prop) → Prop := fun o i v H Q => rSetL o i v H Q ∨ rSetD o i v H Q
theorem set_all {X : Cx} (hu : X.A.units + 1 < cLine) : PSet X rSetA := by
  intro pins s σ H o i v ov iv u Q I ro ri rv h
  rcases h with h | h
  · exact set_list pins s σ H o i v ov iv u Q I ro ri rv h
  · exact set_dic hu pins s σ H o i v ov iv u Q I ro ri rv h
theorem s_put (hu : X.A.units + 1 < cLine) {i : Nat} {x : Str} {npos : Pos} {tpos : Pos} (hN : X.N[i]? = some x) (hv : Vis X.env.scope x) (hi : i ∈ own) (he : XE X T Z W own e f) (hk : XE X T Z W own ek fk)
    (hd : (x == ("__debug__" : Str)) = false := by decide) (hcd : (x == ("__classdict__" : Str)) = false := by decide)
    (ha : ∀ v, assign (.Subscript (.Name x npos) ek tpos) X.env v = (do
      let ov ← holding [v] (eval (.Name x npos) X.env)
      let iv ← holding [v, ov] (eval ek X.env)
      standAt tpos
      holding [v, ov, iv] (setItem ov iv v)
      release [v, ov, iv] []) := by intro _; rfl)
    (hs : swapsWithSole [.Subscript (.Name x npos) ek tpos] e pos.line X.env = pure false := by rfl) (hw : swappedStores [.Subscript (.Name x npos) ek tpos] e X.env = pure none := by rfl)
    (h1 : (assignEach [.Subscript (.Name x npos) ek tpos] X.env).map (·.2) = [assign (.Subscript (.Name x npos) ek tpos) X.env] := by rfl) :
    YS X T Z W own ob (.Assign [.Subscript (.Name x npos) ek tpos] e pos) (sPut i fk f) own := by
  refine PS.imp (ps_asg (pos := pos) he (pg_sub (pe_var (pos := npos) hN hv hd hcd) hk (set_all hu) ha) hs hw h1) fun D σ H ⟨kp, F, ρ, g, c, q⟩ => tP.then c (to_bind q) fun d g1 v F1 H1 q1 c1 s1 r1 => ?_
  obtain ⟨p, ds, k1, k2, w, k4⟩ := c1.own_ i hi
  refine ⟨_, k1, tP.then c1 (to_bind (oQ.up q1 s1)) fun d2 g2 v2 F2 H2 q2 c2 s2 r2 => ?_⟩
  obtain ⟨p', d0, k1', k2', w', k4'⟩ := c2.own_ i hi
  rw [k1] at k1'; cases k1'
  rw [k2] at k2'; cases k2'
  simp only [k2] at q2
  cases ds with
  | lst ds =>
    obtain ⟨us, z1, z2, z3⟩ := w'.lst
    cases d2 with
    | int z =>
      obtain rfl := rep_int r2
      simp only at q2
      cases hp : plc ds.length z with
      | none => rw [hp] at q2; exact q2.elim
      | some j =>
        rw [hp] at q2
        refine .inl ⟨p, us, z, j, rfl, rfl, z1, by rw [z3.length]; exact hp, ?_⟩
        exact q2 σ F2 _ (c2.wr (o' := .lst (us.set j v)) (d' := .lst (ds.set j d)) hi k1 k2 ⟨_, rfl, by rw [List.length_set]; exact z2, RepL.set z3 j (Rep.mono s2 _ _ r1)⟩) s2
    | _ => exact q2.elim
  | dic ks es =>
    obtain ⟨o, z1, kvs, rfl, z2, z3, z4⟩ := w'.at_
    have fin : isKey d2 = true → oQ T Z W own ob kp F1 D (match decide (ks.length < LIM) with
        | true => .nx (ρ.set i (some (dPut d2 d ks es))) g2
        | false => .bad) → rSetA (.ref p) v2 v H2 (fun H3 => D.nx σ H3) := fun hk q3 => by
      obtain ⟨key, rfl⟩ := key_of_rep hk r2
      cases hl : decide (ks.length < LIM) with
      | false => rw [hl] at q3; exact q3.elim
      | true =>
        rw [hl] at q3
        have hl' : kvs.length < LIM := by
          have := z3.length
          rw [List.length_map] at this
          rw [this]; exact of_decide_eq_true hl
        exact .inr ⟨p, _, rfl, DPut.k z1 (by rw [← LIM_eq]; exact hl'), q3 σ F2 _ (c2.wr hi k1 k2 (dput_rep r2 (Rep.mono s2 _ _ r1) z3 z4 hl')) s2⟩
    cases d2 with
    | int z => exact fin rfl q2
    | str z => exact fin rfl q2
    | _ => exact q2.elim
  | _ => exact q2.elim
end
end PP

set_option Elab.async false
set_option linter.all false
set_option maxRecDepth 100000
set_option maxHeartbeats 4000000
namespace PP
open PySem L2
open PyProof.Rows (envOfC)
/-! ### defs that hand back a new list, the caller's own -/
def spFL (T : Tb) (f : FN) (n : Nat) : Sp := fun vs H Q E => ∃ F0 ds g, vs.length = n ∧ Sub F0 H ∧ (g.on = true → H g.at_ = some (.lst [.int g.s, .int g.t]) ∧ F0 g.at_ = none ∧ GOk g) ∧ RepL T F0 vs ds ∧
  match f ds g with
  | .ok d g' => ∀ p F' H', Post F0 H g g' F' H' → H p = none → F' p = none → (∃ o, H' p = some o ∧ OwnC T F' o d) → Q (.ref p) H'
  | .ex e g' => ∀ cls dd F' H', Post F0 H g g' F' H' → ExRep T F' cls dd e → E cls dd H'
  | .bad => False
theorem fnF_mk {T : Tb} {P : Program} {w : World} {mg : Str → Option Value} {base : Heap} {x qual : Str} {st : Stmt} {fA : Addr} {fd : FuncData} {N ps : List Str} {k m n : Nat} {S : PP.S} {own : List Nat} (F : Fun T.K x qual st fA fd) (Sc : FnScope N ps (defScope st)) (hm : ps.length = m) (hn : N.length = n)
    (hb : ∀ (cdv : Value) (A : Around) (outer : List PySem.Env) (s : Shared) (H : Hp) (E : XK) (Z : Act) (hZ : Z.fr = true), Room k (A.deeper (envOfC qual (defScope st) s.heap.objs.size fA cdv)) →
      YSs (cxOf (L2.CX P w) P w T.K mg base N qual (defScope st) fA cdv A outer s H E) T Z (fun cls d _ H => E cls d H) [] [] (defBody st) S own) :
    FnOk P w T.K mg base (L2.CX P w) (k + 1) fA fd ps (spFL T (fnFof n S) m) := by
  subst hn
  refine F.okX Sc (fun vs H Q E ⟨F0, ds, g, hl, _⟩ => by rw [hl, hm]) fun cdv A outer s H vs Q E hr ⟨F0, ds, g, hl, h1, h2, h3, h4⟩ => ?_
  have core : Core (⟨H, F0, g.on, g.at_, true⟩ : Act) (fun _ => none) F0 H g := {
    sub := h1
    kph := fun _ _ e => by cases e
    kpf := fun _ _ e => by cases e
    base := fun _ _ e _ => e
    new := fun _ _ e => .inl e
    f0 := .refl _
    fh0 := h1
    on := rfl
    at_ := rfl
    gen := fun o => ⟨(h2 o).1, (h2 o).2.1, rfl, (h2 o).2.2⟩ }
  refine ⟨_, hb cdv A outer s H E ⟨H, F0, g.on, g.at_, true⟩ rfl hr, fun _ => none, F0, ds.map some ++ List.replicate (N.length - ds.length) none, g, ⟨core, ?_, (fun i hi => by cases hi), fun i d _ e => ?_⟩, ?_⟩
  · unfold L2.start; rw [List.length_append, List.length_append, List.length_map, List.length_map, List.length_replicate, List.length_replicate, h3.length]
  · by_cases hi : i < ds.length
    · rw [List.getElem?_append_left (by simpa using hi), List.getElem?_map] at e
      cases hd : ds[i]? with
      | none => rw [hd] at e; simp at e
      | some d' =>
        rw [hd] at e
        simp at e
        subst e
        obtain ⟨v, z1, z2⟩ := h3.get hd
        refine ⟨v, ?_, z2⟩
        unfold L2.start
        rw [List.getElem?_append_left (by simp; rw [h3.length]; exact hi), List.getElem?_map, z1]; rfl
    · rw [List.getElem?_append_right (by simp; omega)] at e
      rw [List.getElem?_replicate] at e
      split at e <;> simp at e
  · unfold fnFof at h4
    have mkPost : ∀ {F' H' : Hp} {g' : G}, Core (⟨H, F0, g.on, g.at_, true⟩ : Act) (fun _ => none) F' H' g' → Post F0 H g g' F' H' := fun {F' H' g'} c =>
      ⟨c.f0, c.sub, c.new, c.base, c.on, c.at_, fun o => ⟨(c.gen o).1, (c.gen o).2.1, (c.gen o).2.2.2⟩⟩
    cases hS : S (ds.map some ++ List.replicate (N.length - ds.length) none) g with
    | nx ρ1 g1 => rw [hS] at h4; exact h4.elim
    | rt d1 g1 =>
      rw [hS] at h4
      exact fun p F' H' c' s' w => h4 p F' H' (mkPost c') w.h0 w.f w.at_
    | bk ρ1 g1 => rw [hS] at h4; exact h4.elim
    | ct ρ1 g1 => rw [hS] at h4; exact h4.elim
    | ex e ρ1 g1 => rw [hS] at h4; exact fun cls dd σ' F' H' c' s' r => h4 cls dd F' H' (mkPost c'.core) r
    | bad => rw [hS] at h4; exact h4.elim
structure OkF (P : Program) (w : World) (K : PySem.W.Frag) (mg : Str → Option Value) (base : Heap) (T : Tb) (k : Nat) (fA : Addr) (n : Nat) (f : FN) : Prop where
  ex : ∃ (fd : FuncData) (ps : List Str), FnOk P w K mg base (L2.CX P w) k fA fd ps (spFL T f n) ∧ PySem.W.keepIn K (.ref fA) = true ∧ Binds K fd ps []
/-- the list that comes out is known for good -/
theorem OkF.ok {P : Program} {w : World} {K : PySem.W.Frag} {mg : Str → Option Value} {base : Heap} {T : Tb} {k : Nat} {fA : Addr} {n : Nat} {f : FN} (o : OkF P w K mg base T k fA n f) : Ok P w K mg base T k fA n f := by
  obtain ⟨fd, ps, F, a, b⟩ := o.ex
  refine ⟨fd, ps, F.imp fun vs H Q E ⟨F0, ds, g, h0, h1, h2, h3, h4⟩ => ⟨F0, ds, g, h0, h1, h2, h3, ?_⟩, a, b⟩
  cases hf : f ds g with
  | ok d g' =>
    rw [hf] at h4
    refine fun p F' H' po hn fn ⟨us, e1, e2⟩ => h4 (.ref p) (upd F' p us) H' ?_ ((e2.mono ((Sub.refl F').upd fn)).rep upd_same)
    exact {
      ff := po.ff.upd (by
        cases q : F0 p with
        | none => rfl
        | some o => rw [po.ff _ _ q] at fn; cases fn)
      fh := fun a o e => by
        by_cases q : a = p
        · subst q; rw [upd_same] at e; cases e; exact e1
        · rw [upd_ne q] at e; exact po.fh a o e
      new := fun a o e => by
        by_cases q : a = p
        · subst q; exact .inr hn
        · rw [upd_ne q] at e; exact po.new a o e
      keep := po.keep
      on := po.on
      at_ := po.at_
      gen := fun q => ⟨(po.gen q).1, by
        rw [upd_ne (fun z => by rw [← z, (h2 q).1] at hn; cases hn)]; exact (po.gen q).2.1, (po.gen q).2.2⟩ }
  | ex e g' => rw [hf] at h4; exact h4
  | bad => rw [hf] at h4; exact h4
section
variable {X : Cx} {T : Tb} {Z : Act} {W : WX} {own : List Nat} {e : Expr} {es : List Expr} {f : XA} {p pos : Pos} {x : Str} {k n : Nat} {fA : Addr} {Fn : FN}
theorem x_callF (o : OkF X.prog X.w X.K X.mg X.base T k fA n Fn) (hl : es.length + 1 = n) (hr : Room k X.A) (hg : Gl X x) (hm : X.mg x = some (.ref fA)) (tk : Takes X W)
    (ha : XAs X T Z W own (e :: es) f) (hlen : Ln f n) (hdb : (x == ("__debug__" : Str)) = false := by decide) (he : starEach (e :: es) X.env = (false, eval e X.env) :: starEach es X.env := by rfl) (hpl : (backTo pos (starEach es X.env)).any (·.1) = false := by rfl) :
    XF X T Z W own (.Call (.Name x p) (e :: es) [] pos) (xCall Fn f) := by
  obtain ⟨fd, ps, F, hk, hb⟩ := o.ex
  exact PE.imp (pe_callS F hr hg hm hk hb (fun σ => passAt tk σ) ha hdb he hpl) fun σ H Q ⟨kp, F, ρ, g, c, q⟩ => by
    refine ⟨kp, F, ρ, g, c, ?_⟩
    have q' := rQ.bind q
    cases hf : f ρ g with
    | ok ds g1 =>
      rw [hf] at q'
      intro vs F1 H1 c1 s1 r1
      refine ⟨F1, ds, g1, by rw [r1.length]; exact hlen _ _ _ _ hf, c1.core.sub, fun o => ?_, r1, ?_⟩
      · have o' : Z.on = true := by rw [← c1.core.on]; exact o
        obtain ⟨h1, h2, _, h4⟩ := c1.core.gen o'
        rw [c1.core.at_]
        exact ⟨h1, h2, h4⟩
      · have q2 : rQ T Z W kp F σ ρ (pF T Z own kp F σ ρ Q) (Fn ds g1) := q'
        cases hF : Fn ds g1 with
        | ok d g2 =>
          rw [hF] at q2
          refine fun a F' H' po hn fn ⟨us, e1, e2⟩ => ?_
          have c2 := c1.post po
          refine q2 a F' H' c2 (s1.trans po.ff) ⟨fn, c1.core.kph.none hn, c1.core.atNone hn, c1.core.ne_gen hn, us, e1, e2⟩ fun j hj ej => ?_
          obtain ⟨p', ds', h1, h2, w, h4⟩ := c1.own_ j hj
          rw [h1] at ej
          cases ej
          obtain ⟨us', h5, _⟩ := w.at_
          rw [hn] at h5; cases h5
        | ex e g2 =>
          rw [hF] at q2
          intro cls dd F' H' po re
          obtain ⟨F2, s2, c2⟩ := (c1.post po).freezeAll
          exact q2 cls dd σ F2 H' c2 ((s1.trans po.ff).trans s2) (re.mono s2)
        | bad => rw [hF] at q2; exact q2
    | ex e g1 => rw [hf] at q'; exact q'
    | bad => rw [hf] at q'; exact q'
end
end PP

set_option Elab.async false
set_option linter.all false
set_option maxRecDepth 100000
set_option maxHeartbeats 4000000
namespace PP
open PySem L2
open PyProof.Rows (envOfC)
/-! ### instances -/
/-- what is known of the class c of the table -/
structure ClT (T : Tb) (c : Nat) (C : Addr) : Prop where
  at_ : T.clA c = some C
  cls : Cls T.K C
  nf : ∀ f ∈ T.clF c, NoAttr T.K C f
  nd : (T.clF c).Nodup
  xn : T.exn = none
theorem rep_ins {T : Tb} {F : Hp} {v : V} {c : Nat} {fs : List D} (h : Rep T F v (.ins c fs)) (hx : T.exn = none) : ∃ (a C dx : Addr) (ps : List (Str × V)), v = .ref a ∧ F a = some (.ins C dx ps) ∧ T.clA c = some C ∧ ps.map (·.1) = (T.clF c).take fs.length ∧ RepL T F (ps.map (·.2)) fs := by
  unfold Rep at h
  rcases h with h | ⟨a, d, ps, h1, _⟩
  · exact h
  · rw [hx] at h1; cases h1
theorem lookup_get : ∀ {ps : List (Str × V)} {j : Nat} {f : Str} {v : V}, (ps.map (·.1)).Nodup → ps[j]? = some (f, v) → ps.lookup f = some v
  | [], j, f, v, _, h => by simp at h
  | (g, u) :: r, 0, f, v, _, h => by
    simp at h
    obtain ⟨rfl, rfl⟩ := h
    simp [List.lookup]
  | (g, u) :: r, j + 1, f, v, nd, h => by
    simp only [List.map_cons, List.nodup_cons] at nd
    have h' : r[j]? = some (f, v) := by simpa using h
    have hne : (f == g) = false := by
      rw [beq_eq_false_iff_ne]
      intro e
      subst e
      exact nd.1 (List.mem_map.mpr ⟨(f, v), List.mem_of_getElem? h', rfl⟩)
    simp only [List.lookup, hne]
    exact lookup_get nd.2 h'
def rFld (K : PySem.W.Frag) (f : Str) : V → Hp → VK → Prop := fun x H Q => ∃ a C dx fs v, x = .ref a ∧ H a = some (.ins C dx fs) ∧ Cls K C ∧ NoAttr K C f ∧ fs.lookup f = some v ∧ Q v H
theorem un_fld {T : Tb} {c j : Nat} {C : Addr} {f : Str} (t : ClT T c C) (hj : (T.clF c)[j]? = some f) : UnOk T (rFld T.K f) (fldC c j) := by
  intro F H x d1 d Q s r e k
  cases d1 with
  | ins c' fs =>
    simp only [fldC, Option.ite_none_right_eq_some] at e
    obtain ⟨rfl, e⟩ := e
    obtain ⟨a, C', dx, ps, rfl, e1, e2, e3, e4⟩ := rep_ins r t.xn
    rw [t.at_] at e2; cases e2
    obtain ⟨v, z1, z2⟩ := e4.get e
    have hl : j < fs.length := (List.getElem?_eq_some_iff.mp e).1
    have n1 : (ps.map (·.1))[j]? = some f := by rw [e3, List.getElem?_take, if_pos hl]; exact hj
    have hp : ps[j]? = some (f, v) := by
      rw [List.getElem?_map] at z1 n1
      cases hq : ps[j]? with
      | none => rw [hq] at z1; cases z1
      | some q =>
        rw [hq] at z1 n1
        simp at z1 n1
        rw [← z1, ← n1]
    exact ⟨a, C, dx, ps, v, rfl, s _ _ e1, t.cls, t.nf f (List.mem_of_getElem? hj), lookup_get (by rw [e3]; exact t.nd.sublist (List.take_sublist _ _)) hp, k v F H (.refl s) z2⟩
  | _ => simp [fldC] at e
section
variable {X : Cx} {T : Tb} {Z : Act} {W : WX} {own : List Nat} {o e : Expr} {es : List Expr} {fa fb : PP.X} {f : XA} {p pos : Pos} {x : Str} {k n c j : Nat} {C fA : Addr} {Fn : FN}
theorem x_fld {fd : Str} (t : ClT T c C) (hj : (T.clF c)[j]? = some fd) (ho : XE X T Z W own o fa) (hK : X.K = T.K := by rfl) (hb : attributeBase o fd X.env (eval o X.env) = eval o X.env := by rfl) : XE X T Z W own (.Attribute o fd pos) (xUn (fldC c j) fa) := by
  have h1 := pe_fld (pos := pos) ho hb
  rw [hK] at h1
  exact PE.imp h1 fun σ H Q h => un_imp (r := rFld T.K fd) (un_fld t hj) h
end
/-! ### the making of an instance -/
structure PostI (F0 H : Hp) (a : Addr) (g g' : G) (F' H' : Hp) : Prop where
  ff : Sub F0 F'
  fh : Sub F' H'
  new : ∀ b o, F' b = some o → F0 b = some o ∨ H b = none
  keep : ∀ b o, H b = some o → b ≠ a → (g.on = true → b ≠ g.at_) → H' b = some o
  on : g'.on = g.on
  at_ : g'.at_ = g.at_
  gen : g.on = true → H' g.at_ = some (.lst [.int g'.s, .int g'.t]) ∧ F' g.at_ = none ∧ GOk g'
def spI (T : Tb) (c : Nat) (f : FN) (n : Nat) : Sp := fun vs H Q E => ∃ F0 ds g a C dx ws, vs = .ref a :: ws ∧ ws.length + 1 = n ∧ Sub F0 H ∧ H a = some (.ins C dx []) ∧ T.clA c = some C ∧ F0 a = none ∧ (g.on = true → a ≠ g.at_) ∧
  (g.on = true → H g.at_ = some (.lst [.int g.s, .int g.t]) ∧ F0 g.at_ = none ∧ GOk g) ∧ RepL T F0 ws ds ∧
  match f ds g with
  | .ok d g' => ∃ fs, d = .ins c fs ∧ ∀ F' H' ps, PostI F0 H a g g' F' H' → H' a = some (.ins C dx ps) → ps.map (·.1) = (T.clF c).take fs.length → RepL T F' (ps.map (·.2)) fs → Q .non H'
  | .ex e g' => ∀ cls dd F' H', PostI F0 H a g g' F' H' → ExRep T F' cls dd e → E cls dd H'
  | .bad => False
section
variable {X : Cx} {k : Nat} {f C : Addr} {fd : FuncData} {ps : List Str} {sp : Sp} {CX : CXT} {x : Str} {e : Expr} {es : List Expr} {t : TA} {p pos : Pos}
theorem run_makeS {E : St → XK} {pins : List (Addr × Obj)} {σ : St} {H : Hp} {s : Shared} {Q : VK} {us : List Value} {vs : List V} (M : Mk X.K C f) (F : FnOk X.prog X.w X.K X.mg X.base CX k f fd ps sp) (hr : Room (k + 1) X.A) (hb : L2.Binds X.K fd ps []) (hx : PassesAt CX X σ (E σ)) (I : Inv X pins σ H s) (r : Vals vs us)
    (h : ∀ x dx, H x = none → H dx = none → dx ≠ x → sp (.ref x :: vs) (upd (upd H dx (.own x)) x (.ins C dx [])) (fun v H2 => v = .non ∧ Q (.ref x) H2) (E σ)) : wpAny (model X.prog X.w) X.A (call (.ref C) us) (EP X pins σ Q) X.xe s := by
  have hq := h (s.heap.objs.size + 1) s.heap.objs.size (I.hok.fresh (Nat.le_succ _)) (I.hok.fresh (Nat.le_refl _)) (Nat.ne_of_lt (Nat.lt_succ_self _))
  have I2 := Inv.made (C := C) I
  have r2 : Vals (V.ref (s.heap.objs.size + 1) :: vs) (Value.ref (s.heap.objs.size + 1) :: us) := .cons rfl r
  have hl : (Value.ref (s.heap.objs.size + 1) :: us ++ []).length = ps.length := by
    rw [List.append_nil, ← F.len _ _ _ _ hq]
    exact r2.length.symm
  have hbb := hb _ (Value.ref (s.heap.objs.size + 1) :: us) I2.kIn hl
  rw [List.append_nil] at hbb
  refine wpAny_call (make_map (f := f) I.kIn M.makes M.init (beq_iff_eq.mp M.fn) (codeAny_mono (F.run _ X.stack _ _ ⟨Value.ref (s.heap.objs.size + 1) :: us, []⟩ (Value.ref (s.heap.objs.size + 1) :: us) _ _ (E σ) (hr.make C us []) (I2.env0.make C us []) hbb r2 hq) fun r s' hq' => ?_))
  cases r with
  | error e => exact hx pins _ _ e s' I2 hq'
  | ok fl =>
    cases fl with
    | ret u =>
      obtain ⟨v, H', I3, rv, ev, q3⟩ := I2.after hq'
      subst ev
      exact ⟨rv, ⟨V.ref (s.heap.objs.size + 1), H', I3, rfl, q3⟩⟩
    | next => exact False.elim hq'
    | brk => exact False.elim hq'
    | cont => exact False.elim hq'
def tMakeS (C : Addr) (sp : Sp) (E : St → XK) (t : TA) : TE := fun σ H Q => t σ H fun vs H1 => ∀ x dx, H1 x = none → H1 dx = none → dx ≠ x → sp (.ref x :: vs) (upd (upd H1 dx (.own x)) x (.ins C dx [])) (fun v H2 => v = .non ∧ Q (.ref x) H2) (E σ)
theorem pe_makeS {E : St → XK} (M : Mk X.K C f) (F : FnOk X.prog X.w X.K X.mg X.base CX k f fd ps sp) (hr : Room (k + 1) X.A) (hg : Gl X x) (hm : X.mg x = some (.ref C)) (hb : L2.Binds X.K fd ps []) (hx : ∀ σ, PassesAt CX X σ (E σ)) (ha : PA X (e :: es) t) (hdb : (x == ("__debug__" : Str)) = false := by decide)
    (he : starEach (e :: es) X.env = (false, eval e X.env) :: starEach es X.env := by rfl) (hpl : (backTo pos (starEach es X.env)).any (·.1) = false := by rfl) : PE X (.Call (.Name x p) (e :: es) [] pos) (tMakeS C sp E t) := by
  refine ⟨fun pins s σ H Q I h => ?_⟩
  refine wpAny_Call_Name_kw (ld_glob I hg hm ?_ hdb)
  refine PySem.W.callWith_K (h₀ := X.base) I.ok.mod.kin M.kp (thn (ha.run pos pins s σ H _ I h) fun us s1 ⟨vs, H1, I1, r, q⟩ => ⟨I1.kIn, ?_⟩) he hpl
  exact run_makeS M F hr hb (hx σ) I1 r q
end
structure OkI (P : Program) (w : World) (K : PySem.W.Frag) (mg : Str → Option Value) (base : Heap) (T : Tb) (k : Nat) (fA : Addr) (c n : Nat) (f : FN) : Prop where
  ex : ∃ (fd : FuncData) (ps : List Str), FnOk P w K mg base (L2.CX P w) k fA fd ps (spI T c f n) ∧ Binds K fd ps []
section
variable {X : Cx} {T : Tb} {Z : Act} {W : WX} {own : List Nat} {o e : Expr} {es : List Expr} {fa fb : PP.X} {f : XA} {p pos : Pos} {x : Str} {k n c j : Nat} {C fA : Addr} {Fn : FN}
theorem x_make (o : OkI X.prog X.w X.K X.mg X.base T k fA c n Fn) (t : ClT T c C) (M : Mk X.K C fA) (hl : es.length + 2 = n) (hr : Room (k + 1) X.A) (hg : Gl X x) (hm : X.mg x = some (.ref C)) (tk : Takes X W) (ha : XAs X T Z W own (e :: es) f) (hlen : Ln f (n - 1)) (hI : ∀ ds g d g', Fn ds g = .ok d g' → ∃ fs, d = .ins c fs)
    (hdb : (x == ("__debug__" : Str)) = false := by decide) (he : starEach (e :: es) X.env = (false, eval e X.env) :: starEach es X.env := by rfl) (hpl : (backTo pos (starEach es X.env)).any (·.1) = false := by rfl) :
    XE X T Z W own (.Call (.Name x p) (e :: es) [] pos) (xCall Fn f) := by
  obtain ⟨fd, ps, F, hb⟩ := o.ex
  refine PE.imp (pe_makeS M F hr hg hm hb (fun σ => passAt tk σ) ha hdb he hpl) fun σ H Q ⟨kp, Fz, ρ, g, cc, q⟩ => ?_
  refine ⟨kp, Fz, ρ, g, cc, ?_⟩
  have q' := rQ.bind q
  cases hf : f ρ g with
  | ok ds g1 =>
    rw [hf] at q'
    intro vs F1 H1 c1 s1 r1 a dx na nd hne
    have hsub : PP.Sub H1 (upd (upd H1 dx (.own a)) a (.ins C dx [])) := ((Sub.refl H1).upd nd).upd na
    refine ⟨F1, ds, g1, a, C, dx, vs, rfl, by rw [r1.length, hlen _ _ _ _ hf]; omega, c1.core.sub.trans hsub, upd_same, t.at_, c1.core.sub.none na, fun o => ?_, fun o => ?_, r1, ?_⟩
    · have o' : Z.on = true := by rw [← c1.core.on]; exact o
      rw [c1.core.at_]; exact c1.core.ne_gen na o'
    · have o' : Z.on = true := by rw [← c1.core.on]; exact o
      obtain ⟨h1, h2, _, h4⟩ := c1.core.gen o'
      rw [c1.core.at_]
      exact ⟨hsub _ _ h1, h2, h4⟩
    · have q2 : rQ T Z W kp Fz σ ρ (pD T Z own kp Fz σ ρ Q) (Fn ds g1) := q'
      have mkPost : ∀ {F' H' : Hp} {g' : G}, PostI F1 (upd (upd H1 dx (.own a)) a (.ins C dx [])) a g1 g' F' H' → F' a = none ∧ Post F1 H1 g1 g' F' H' := fun {F' H' g'} po => by
        have fa : F' a = none := by
          cases hq : F' a with
          | none => rfl
          | some u =>
            rcases po.new a u hq with z | z
            · rw [c1.core.sub.none na] at z; cases z
            · rw [upd_same] at z; cases z
        refine ⟨fa, po.ff, po.fh, fun b u eb => ?_, fun b u eb n => ?_, po.on, po.at_, po.gen⟩
        · rcases po.new b u eb with z | z
          · exact .inl z
          · right
            cases hb1 : H1 b with
            | none => rfl
            | some w => rw [hsub _ _ hb1] at z; cases z
        · exact po.keep b u (hsub _ _ eb) (ne_of_none eb na) n
      cases hF : Fn ds g1 with
      | ok d g2 =>
        rw [hF] at q2
        obtain ⟨fs, rfl⟩ := hI _ _ _ _ hF
        refine ⟨fs, rfl, fun F' H' ps po ea en er => ?_⟩
        obtain ⟨fa, po2⟩ := mkPost po
        have sb : PP.Sub F' (upd F' a (.ins C dx ps)) := (Sub.refl F').upd fa
        have po3 : Post F1 H1 g1 g2 (upd F' a (.ins C dx ps)) H' := {
          ff := po2.ff.trans sb
          fh := fun b u eb => by
            by_cases hq : b = a
            · subst hq; rw [upd_same] at eb; cases eb; exact ea
            · rw [upd_ne hq] at eb; exact po2.fh b u eb
          new := fun b u eb => by
            by_cases hq : b = a
            · subst hq; exact .inr na
            · rw [upd_ne hq] at eb; exact po2.new b u eb
          keep := po2.keep
          on := po2.on
          at_ := po2.at_
          gen := fun o => ⟨(po2.gen o).1, by
            have o' : Z.on = true := by rw [← c1.core.on]; exact o
            have := c1.core.ne_gen na o'
            rw [upd_ne (by rw [c1.core.at_]; exact Ne.symm this)]; exact (po2.gen o).2.1, (po2.gen o).2.2⟩ }
        refine ⟨rfl, q2 (.ref a) _ H' (c1.post po3) ((s1.trans po.ff).trans sb) ?_⟩
        unfold Rep
        exact .inl ⟨a, C, dx, ps, rfl, upd_same, t.at_, en, RepL.mono sb _ _ er⟩
      | ex e g2 =>
        rw [hF] at q2
        intro cls dd F' H' po re
        obtain ⟨F2, s2, c2⟩ := (c1.post (mkPost po).2).freezeAll
        exact q2 cls dd σ F2 H' c2 ((s1.trans po.ff).trans s2) (re.mono s2)
      | bad => rw [hF] at q2; exact q2
  | ex e g1 => rw [hf] at q'; exact q'
  | bad => rw [hf] at q'; exact q'
end
/-! ### the body of an __init__ -/
/-- Z, when the instance at a has the fields ps -/
structure IZ (F0 H00 : Hp) (on : Bool) (at_ a C dx : Addr) (ps : List (Str × V)) (Z : Act) : Prop where
  f0 : Z.F0 = F0
  o : Z.on = on
  zat : Z.at_ = at_
  fr : Z.fr = false
  h0 : ∀ b, b ≠ a → Z.H0 b = H00 b
  h1 : Z.H0 a = some (.ins C dx ps)
  ha : ∃ u, H00 a = some u
  fa : F0 a = none
  ng : on = true → a ≠ at_
structure PostJ (F0 H00 : Hp) (on : Bool) (at_ a : Addr) (g' : G) (F' H' : Hp) : Prop where
  ff : Sub F0 F'
  fh : Sub F' H'
  new : ∀ b o, F' b = some o → F0 b = some o ∨ H00 b = none
  keep : ∀ b o, H00 b = some o → b ≠ a → (on = true → b ≠ at_) → H' b = some o
  o : g'.on = on
  gat : g'.at_ = at_
  gen : on = true → H' at_ = some (.lst [.int g'.s, .int g'.t]) ∧ F' at_ = none ∧ GOk g'
theorem IZ.post {T : Tb} {Z : Act} {kp F0 H00 F H : Hp} {on : Bool} {at_ a C dx : Addr} {ps : List (Str × V)} {own : List Nat} {σ : St} {ρ : Env} {g : G} (z : IZ F0 H00 on at_ a C dx ps Z) (c : Rel T Z own kp F H σ ρ g) : PostJ F0 H00 on at_ a g F H where
  ff := by rw [← z.f0]; exact c.core.f0
  fh := c.core.sub
  new := fun b o e => by
    rcases c.core.new b o e with q | q
    · exact .inl (by rw [← z.f0]; exact q)
    · by_cases h : b = a
      · rw [h, z.h1] at q; cases q
      · exact .inr (by rw [← z.h0 b h]; exact q)
  keep := fun b o e h n => c.core.base b o (by rw [z.h0 b h]; exact e) (by rw [z.o, z.zat]; exact n)
  o := by rw [c.core.on, z.o]
  gat := by rw [c.core.at_, z.zat]
  gen := fun q => by
    have := c.core.gen (by rw [z.o]; exact q)
    rw [z.zat] at this
    exact ⟨this.1, this.2.1, this.2.2.2⟩
def tJ (T : Tb) (W : XK) (F0 H00 : Hp) (on : Bool) (at_ a C dx : Addr) (names : List Str) (J : XJ) : TS := fun D σ H => ∃ Z F ρ g ps ds, IZ F0 H00 on at_ a C dx ps Z ∧ Rel T Z [] (fun _ => none) F H σ ρ g ∧ σ[0]? = some (some (.ref a)) ∧ ρ[0]? = some (some (.gen a)) ∧ RepL T F (ps.map (·.2)) ds ∧ (∀ f ∈ names, f ∉ ps.map (·.1)) ∧ ps.length + names.length ≤ 100 ∧
  match J ρ g with
  | .ok es g' => ∀ σ' F' H' ps', PostJ F0 H00 on at_ a g' F' H' → H' a = some (.ins C dx ps') → ps'.map (·.1) = ps.map (·.1) ++ names → RepL T F' (ps'.map (·.2)) (ds ++ es) → D.nx σ' H'
  | .ex e g' => ∀ cls dd F' H', PostJ F0 H00 on at_ a g' F' H' → ExRep T F' cls dd e → W cls dd H'
  | .bad => False
theorem putF_new {f : Str} {v : V} : ∀ {ps : List (Str × V)}, f ∉ ps.map (·.1) → putF f v ps = ps ++ [(f, v)]
  | [], _ => rfl
  | (g, x) :: r, h => by
    simp only [List.map_cons, List.mem_cons, not_or] at h
    unfold putF
    rw [if_neg (Ne.symm h.1), putF_new h.2]
    rfl
section
variable {X : Cx} {T : Tb} {E : XK} {F0 H00 : Hp} {on : Bool} {at_ a C dx : Addr} {names : List Str} {J : XJ} {sts : List Stmt} {st : Stmt} {f : PP.X} {e : Expr} {fd : Str} {S : PP.S}
theorem j_nil : PSs X [] (tJ T E F0 H00 on at_ a C dx [] jNil) := PSs.imp pss_nil fun D σ H ⟨Z, F, ρ, g, ps, ds, z, c, _, _, r, _, _, q⟩ => q σ F H ps (z.post c) (by
    have := c.core.base a _ z.h1 (by rw [z.o, z.zat]; exact z.ng)
    exact this) (by simp) (by simpa using r)
theorem Rel.reZ {Z : Act} {kp F H : Hp} {σ : St} {ρ : Env} {g : G} {ps ps' : List (Str × V)} (z : IZ F0 H00 on at_ a C dx ps Z) (c : Rel T Z [] kp F H σ ρ g) (hk : kp a = none) : IZ F0 H00 on at_ a C dx ps' { Z with H0 := upd Z.H0 a (.ins C dx ps') } ∧ Rel T { Z with H0 := upd Z.H0 a (.ins C dx ps') } [] kp F (upd H a (.ins C dx ps')) σ ρ g := by
  have fa : F a = none := by
    cases q : F a with
    | none => rfl
    | some u =>
      rcases c.core.new a u q with w | w
      · rw [z.f0, z.fa] at w; cases w
      · rw [z.h1] at w; cases w
  refine ⟨⟨z.f0, z.o, z.zat, z.fr, fun b hb => by show (upd Z.H0 a _) b = _; rw [upd_ne hb]; exact z.h0 b hb, upd_same, z.ha, z.fa, z.ng⟩, ⟨?_, c.len, (fun i hi => by cases hi), c.shr⟩⟩
  exact {
    sub := c.core.sub.upd fa
    kph := fun b o e => by
      by_cases h : b = a
      · rw [h, hk] at e; cases e
      · rw [upd_ne h]; exact c.core.kph b o e
    kpf := c.core.kpf
    base := fun b o e n => by
      have e' : (upd Z.H0 a (.ins C dx ps')) b = some o := e
      by_cases h : b = a
      · subst h; rw [upd_same] at e' ⊢; exact e'
      · rw [upd_ne h] at e' ⊢; exact c.core.base b o e' n
    new := fun b o e => by
      rcases c.core.new b o e with w | w
      · exact .inl w
      · right
        show (upd Z.H0 a _) b = none
        by_cases h : b = a
        · rw [h, z.h1] at w; cases w
        · rw [upd_ne h]; exact w
    f0 := c.core.f0
    fh0 := fun b o e => by
      show (upd Z.H0 a _) b = _
      rw [upd_ne (fun h => by rw [h, z.f0, z.fa] at e; cases e)]
      exact c.core.fh0 b o e
    on := c.core.on
    at_ := c.core.at_
    gen := fun o => by
      have o' : Z.on = true := o
      have h := c.core.gen o'
      have hne : Z.at_ ≠ a := by rw [z.zat]; exact Ne.symm (z.ng (by rw [← z.o]; exact o'))
      exact ⟨by show (upd H a _) Z.at_ = _; rw [upd_ne hne]; exact h.1, h.2.1, h.2.2.1, h.2.2.2⟩ }
/-- self.f = e -/
theorem j_fld {p1 p2 pos : Pos} (t : Cls T.K C) (nf : NoAttr T.K C fd) (h0 : X.N[0]? = some ("self" : Str)) (hv : Vis X.env.scope ("self" : Str)) (he : ∀ (Z : Act), XE X T Z (fun cls d _ H => E cls d H) [] e f) (h : PSs X sts (tJ T E F0 H00 on at_ a C dx names J)) (hd : fd ∉ names) (hn : names.length < 90) (hK : X.K = T.K := by rfl)
    (hs : swapsWith e (some (.Attribute (.Name "self" p1) fd p2)) pos.line X.env = pure false := by rfl) : PSs X (.Assign [.Attribute (.Name "self" p1) fd p2] e pos :: sts) (tJ T E F0 H00 on at_ a C dx (fd :: names) (jFld f J)) := by
  have hZ : PE X e (fun σ H Q => ∃ Z, tP T Z (fun cls d _ H => E cls d H) [] f σ H Q) := ⟨fun pins s σ H Q I ⟨Z, q⟩ => (he Z).run pins s σ H Q I q⟩
  have h1 := ps_fld (f := fd) (pos := pos) (pos' := p2) (pe_var (pos := p1) h0 hv) hZ hs
  rw [hK] at h1
  refine PSs.imp (pss_cons h1 h) fun D σ H ⟨Z, F, ρ, g, ps, ds, z, c, k1, k2, r, nn, nl, q⟩ => ?_
  refine ⟨Z, (fun _ => none), F, ρ, g, c, ?_⟩
  unfold jFld at q
  cases hf : f ρ g with
  | ok d g1 =>
    rw [hf] at q
    simp only [R.bind_ok] at q
    intro v F1 H1 c1 s1 rv
    have ea : H1 a = some (.ins C dx ps) := c1.core.base a _ z.h1 (by rw [z.o, z.zat]; exact z.ng)
    refine ⟨.ref a, k1, a, C, dx, ps, rfl, ea, t, nf, by simp at nl; omega, ?_⟩
    have np : fd ∉ ps.map (·.1) := nn fd (by simp)
    rw [putF_new np]
    obtain ⟨z2, c2⟩ := Rel.reZ (ps' := ps ++ [(fd, v)]) z c1 rfl
    refine ⟨_, F1, ρ, g1, ps ++ [(fd, v)], ds ++ [d], z2, c2, k1, k2, by rw [List.map_append]; exact (RepL.mono s1 _ _ r).append (.cons rv .nil), fun x hx => ?_, by simp at nl ⊢; omega, ?_⟩
    · simp only [List.map_append, List.map_cons, List.map_nil, List.mem_append, List.mem_singleton, not_or]
      exact ⟨nn x (by simp [hx]), fun e => hd (e ▸ hx)⟩
    · cases hJ : J ρ g1 with
      | ok es g2 =>
        rw [hJ] at q
        simp only [R.bind_ok] at q
        intro σ' F' H' ps' po e1 e2 e3
        refine q σ' F' H' ps' po e1 (by rw [e2]; simp) (by simpa using e3)
      | ex e' g2 => rw [hJ] at q; exact q
      | bad => rw [hJ] at q; exact q
  | ex e' g1 =>
    rw [hf] at q
    intro cls dd σ' F' H' c' s' re
    exact q cls dd F' H' (z.post c') re
  | bad => rw [hf] at q; exact q
/-- a statement ahead of the fields -/
theorem j_seq {ob : List Nat} (h1 : ∀ (Z : Act), Z.fr = false → YS X T Z (fun cls d _ H => E cls d H) [] ob st S []) (h : PSs X sts (tJ T E F0 H00 on at_ a C dx names J)) (h0 : ∀ ρ g ρ' g', S ρ g = .nx ρ' g' → ρ'[0]? = ρ[0]?) : PSs X (st :: sts) (tJ T E F0 H00 on at_ a C dx names (jSeq S J)) := by
  have hZ : PS X st (fun D σ H => ∃ Z : { Z : Act // Z.fr = false }, tS T Z.1 (fun cls d _ H => E cls d H) [] ob S [] D σ H) := ⟨fun pins s σ H D I ⟨Z, q⟩ => (h1 Z.1 Z.2).run pins s σ H D I q⟩
  refine PSs.imp (pss_cons hZ h) fun D σ H ⟨Z, F, ρ, g, ps, ds, z, c, k1, k2, r, nn, nl, q⟩ => ?_
  refine ⟨⟨Z, z.fr⟩, (fun _ => none), F, ρ, g, c, ?_⟩
  unfold jSeq at q
  cases hS : S ρ g with
  | nx ρ1 g1 =>
    rw [hS] at q
    intro σ1 F1 H1 c1 s1
    have e0 : ρ1[0]? = some (some (.gen a)) := by rw [h0 _ _ _ _ hS]; exact k2
    obtain ⟨v, z1, z2⟩ := c1.shr 0 _ (by simp) e0
    obtain rfl := rep_gen z2
    exact ⟨Z, F1, ρ1, g1, ps, ds, z, c1, z1, e0, RepL.mono s1 _ _ r, nn, nl, q⟩
  | ex e ρ1 g1 =>
    rw [hS] at q
    intro cls dd σ' F' H' c' s' re
    exact q cls dd F' H' (z.post c') re
  | rt d g1 => rw [hS] at q; exact q.elim
  | bk ρ1 g1 => rw [hS] at q; exact q.elim
  | ct ρ1 g1 => rw [hS] at q; exact q.elim
  | bad => rw [hS] at q; exact q.elim
end
/-! ### a def __init__ from its body -/
theorem fnI_mk {T : Tb} {P : Program} {w : World} {mg : Str → Option Value} {base : Heap} {x qual : Str} {st : Stmt} {fA : Addr} {fd : FuncData} {N ps : List Str} {k m n c : Nat} {J : XJ} {F' : FN} (F : Fun T.K x qual st fA fd) (Sc : FnScope N ps (defScope st)) (hm : ps.length = m) (hn : N.length = n) (hm1 : m ≤ n) (hl : (T.clF c).length ≤ 100)
    (hb : ∀ (cdv : Value) (A : Around) (outer : List PySem.Env) (s : Shared) (H : Hp) (E : XK), Room k (A.deeper (envOfC qual (defScope st) s.heap.objs.size fA cdv)) → ∀ (F0 H00 : Hp) (on : Bool) (at_ a C dx : Addr), T.clA c = some C →
      PSs (cxOf (L2.CX P w) P w T.K mg base N qual (defScope st) fA cdv A outer s H E) (defBody st) (tJ T E F0 H00 on at_ a C dx (T.clF c) J))
    (hF : ∀ a ds g, ds.length + 1 = m → F' ds g ≠ .bad → initOf c n J a ds g = F' ds g) :
    FnOk P w T.K mg base (L2.CX P w) (k + 1) fA fd ps (spI T c F' m) := by
  subst hn
  refine F.okX Sc (fun vs H Q E ⟨F0, ds, g, a, C, dx, ws, e, hl, _⟩ => by rw [e, hm, ← hl]; rfl) fun cdv A outer s H vs Q E hr ⟨F0, ds, g, a, C, dx, ws, e, hlw, h1, ea, tC, fa, ng, hg, r, hq⟩ => ?_
  subst e
  have hne : F' ds g ≠ .bad := fun z => by rw [z] at hq; exact hq
  have hfe := hF a ds g (by rw [← r.length]; exact hlw) hne
  have z : IZ F0 H g.on g.at_ a C dx [] ⟨H, F0, g.on, g.at_, false⟩ := ⟨rfl, rfl, rfl, rfl, fun _ _ => rfl, ea, ⟨_, ea⟩, fa, ng⟩
  have core : Core (⟨H, F0, g.on, g.at_, false⟩ : Act) (fun _ => none) F0 H g := {
    sub := h1
    kph := fun _ _ e => by cases e
    kpf := fun _ _ e => by cases e
    base := fun _ _ e _ => e
    new := fun _ _ e => .inl e
    f0 := .refl _
    fh0 := h1
    on := rfl
    at_ := rfl
    gen := fun o => ⟨(hg o).1, (hg o).2.1, rfl, (hg o).2.2⟩ }
  have hlen := r.length
  have r' : RepL T F0 (V.ref a :: ws) (.gen a :: ds) := .cons (by unfold Rep; rfl) r
  refine ⟨_, hb cdv A outer s H E hr F0 H g.on g.at_ a C dx tC, ⟨H, F0, g.on, g.at_, false⟩, F0, some (.gen a) :: ds.map some ++ List.replicate (N.length - 1 - ds.length) none, g, [], [], z, ⟨core, ?_, (fun i hi => by cases hi), fun i d _ e => ?_⟩, rfl, rfl, .nil, by simp, by simpa using hl, ?_⟩
  · unfold L2.start; simp [hlen]; omega
  · have e2 : (some (D.gen a) :: ds.map some ++ List.replicate (N.length - 1 - ds.length) none) = ((D.gen a :: ds).map some) ++ List.replicate (N.length - 1 - ds.length) none := rfl
    rw [e2] at e
    by_cases hi : i < (D.gen a :: ds).length
    · rw [List.getElem?_append_left (by simpa using hi), List.getElem?_map] at e
      cases hd : (D.gen a :: ds)[i]? with
      | none => rw [hd] at e; simp at e
      | some d' =>
        rw [hd] at e
        simp at e
        subst e
        obtain ⟨v, z1, z2⟩ := r'.get hd
        refine ⟨v, ?_, z2⟩
        unfold L2.start
        rw [List.getElem?_append_left (by simp; simp at hi; omega), List.getElem?_map, z1]; rfl
    · rw [List.getElem?_append_right (by simp at hi ⊢; omega)] at e
      rw [List.getElem?_replicate] at e
      split at e <;> simp at e
  · unfold initOf at hfe
    rw [← hfe] at hq
    have toI : ∀ {F' H' : Hp} {g' : G}, PostJ F0 H g.on g.at_ a g' F' H' → PostI F0 H a g g' F' H' := fun {F' H' g'} p => ⟨p.ff, p.fh, p.new, p.keep, p.o, p.gat, p.gen⟩
    cases hJ : J (some (.gen a) :: ds.map some ++ List.replicate (N.length - 1 - ds.length) none) g with
    | ok es g' =>
      rw [hJ] at hq
      simp only [R.bind_ok] at hq
      obtain ⟨fs, e1, q⟩ := hq
      cases e1
      intro σ' F2 H2 ps' po e1 e2 e3
      have e4 : ps'.map (·.1) = T.clF c := by simpa using e2
      have hl2 : (T.clF c).length = es.length := by rw [← e4, List.length_map, ← List.length_map (f := (·.2)), RepL.length e3]; simp
      exact q F2 H2 ps' (toI po) e1 (by rw [e4, ← hl2, List.take_length]) (by simpa using e3)
    | ex e g' => rw [hJ] at hq; exact fun cls dd F2 H2 po re => hq cls dd F2 H2 (toI po) re
    | bad => rw [hJ] at hq; exact hq
/-! slot 0 stays -/
def K0 (S : PP.S) : Prop := ∀ ρ g ρ' g', S ρ g = .nx ρ' g' → ρ'[0]? = ρ[0]?
theorem k0_nop : K0 sNop := fun ρ g ρ' g' h => by cases h; rfl
theorem k0_raise {c : Nat} {a : XA} : K0 (sRaise c a) := fun ρ g ρ' g' h => by
  unfold sRaise at h
  cases hf : a ρ g with
  | ok ds g1 => rw [hf] at h; cases h
  | ex e g1 => rw [hf] at h; cases h
  | bad => rw [hf] at h; cases h
theorem k0_if {t : XT} {a b : PP.S} (ha : K0 a) (hb : K0 b) : K0 (sIf t a b) := fun ρ g ρ' g' h => by
  unfold sIf at h
  cases hf : t ρ g with
  | ok k g1 =>
    rw [hf] at h
    cases k with
    | true => exact ha _ _ _ _ h
    | false => exact hb _ _ _ _ h
  | ex e g1 => rw [hf] at h; cases h
  | bad => rw [hf] at h; cases h
theorem k0_expr {f : PP.X} : K0 (sExpr f) := fun ρ g ρ' g' h => by
  unfold sExpr at h
  cases hf : f ρ g with
  | ok d g1 => rw [hf] at h; cases h; rfl
  | ex e g1 => rw [hf] at h; cases h
  | bad => rw [hf] at h; cases h
theorem k0_set {i : Nat} {f : PP.X} (hi : i ≠ 0) : K0 (sSet (PP.gName i) f) := fun ρ g ρ' g' h => by
  unfold sSet at h
  cases hf : f ρ g with
  | ok d g1 =>
    rw [hf] at h
    simp only [R.to_ok, PP.gName] at h
    by_cases hl : i < ρ.length
    · rw [if_pos hl] at h
      cases h
      exact List.getElem?_set_ne hi
    · rw [if_neg hl] at h; cases h
  | ex e g1 => rw [hf] at h; cases h
  | bad => rw [hf] at h; cases h
end PP

set_option Elab.async false
set_option linter.all false
set_option maxRecDepth 100000
set_option maxHeartbeats 4000000
namespace PP
open PySem L2
open PyProof.Rows (envOfC)
/-! ### methods -/
section
variable {X : Cx} {k : Nat} {f C : Addr} {fd : FuncData} {ps : List Str} {sp : Sp} {CX : CXT} {m : Str} {o e : Expr} {es : List Expr} {ta : TE} {t : TA} {apos pos : Pos}
def tMethS (C : Addr) (m : Str) (sp : Sp) (E : St → XK) (ta : TE) (t : TA) : TE := fun σ H Q => ta σ H fun x H1 => ∃ a dx fs, x = .ref a ∧ H1 a = some (.ins C dx fs) ∧ fs.lookup m = none ∧ t σ H1 fun vs H2 => sp (x :: vs) H2 Q (E σ)
theorem pe_methS {E : St → XK} {pl : Sem Bool} (he : PE X o ta) (c : Cls X.K C) (hm : Meth X.K C m f) (F : FnOk X.prog X.w X.K X.mg X.base CX k f fd ps sp) (hr : Room k X.A) (hb : L2.Binds X.K fd ps []) (hx : ∀ σ, PassesAt CX X σ (E σ)) (ha : PA X (e :: es) t)
    (hst : starEach (e :: es) X.env = (false, eval e X.env) :: starEach es X.env := by rfl) (hpl : (backTo pos (starEach es X.env)).any (·.1) = false := by rfl)
    (ht : eval (.Call (.Attribute o m apos) (e :: es) [] pos) X.env = (do
      let ov ← eval o X.env
      standAt apos.atName
      let (f, first) ← holding [ov] (getMethod ov m pl)
      callWith pos f first (backTo pos (starEach (e :: es) X.env)) (backToKw pos (keywordEach [] X.env))) := by rfl) :
    PE X (.Call (.Attribute o m apos) (e :: es) [] pos) (tMethS C m sp E ta t) := by
  refine ⟨fun pins s σ H Q I h => ?_⟩
  refine PySem.W.methodCall_KW (pl := pl) (thn (he.run pins s σ H _ I h) fun u s1 ⟨x, H1, I1, rx, a, dx, fs, ex, ea, l, q⟩ => ?_) ht
  subst ex
  obtain rfl : u = Value.ref a := rx
  refine getmeth_ok I1 ea c hm l ?_
  refine PySem.W.callWith_K (first := [.ref a]) (h₀ := X.base) I.ok.mod.kin hm.kp (thn (ha.run pos pins s1 σ H1 _ I1 q) fun us s2 ⟨vs, H2, I2, r, q2⟩ => ⟨I2.kIn, ?_⟩) hst hpl
  exact run_fnS (us := .ref a :: us) (vs := .ref a :: vs) F hr hb (hx σ) I2 (.cons rfl r) q2
theorem pe_methS0 {E : St → XK} {pl : Sem Bool} (he : PE X o ta) (c : Cls X.K C) (hm : Meth X.K C m f) (F : FnOk X.prog X.w X.K X.mg X.base CX k f fd ps sp) (hr : Room k X.A) (hb : L2.Binds X.K fd ps []) (hx : ∀ σ, PassesAt CX X σ (E σ))
    (ht : eval (.Call (.Attribute o m apos) [] [] pos) X.env = (do
      let ov ← eval o X.env
      standAt apos.atName
      let (f, first) ← holding [ov] (getMethod ov m pl)
      callWith pos f first (backTo pos (starEach [] X.env)) (backToKw pos (keywordEach [] X.env))) := by rfl) :
    PE X (.Call (.Attribute o m apos) [] [] pos) (tMethS C m sp E ta tNil) := by
  refine ⟨fun pins s σ H Q I h => ?_⟩
  refine PySem.W.methodCall_KW (pl := pl) (thn (he.run pins s σ H _ I h) fun u s1 ⟨x, H1, I1, rx, a, dx, fs, ex, ea, l, q⟩ => ?_) ht
  subst ex
  obtain rfl : u = Value.ref a := rx
  refine getmeth_ok I1 ea c hm l ?_
  exact PySem.W.callWith_K0 (first := [.ref a]) I1.kIn hm.kp (run_fnS (us := [.ref a]) (vs := [.ref a]) F hr hb (hx σ) I1 (.cons rfl .nil) q)
end
section
variable {X : Cx} {T : Tb} {Z : Act} {W : WX} {own : List Nat} {o e : Expr} {es : List Expr} {fo : PP.X} {f : XA} {apos pos : Pos} {m : Str} {k n c : Nat} {C fA : Addr} {Fn : FN}
theorem lookup_none_of {ps : List (Str × V)} {m : Str} (h : m ∉ ps.map (·.1)) : ps.lookup m = none := by
  induction ps with
  | nil => rfl
  | cons p r ih =>
    simp only [List.map_cons, List.mem_cons, not_or] at h
    have : (m == p.1) = false := by rw [beq_eq_false_iff_ne]; exact h.1
    obtain ⟨g, v⟩ := p
    simp only [List.lookup, this]
    exact ih h.2
theorem meth_imp (t : ClT T c C) (hm : m ∉ T.clF c) {σ : St} {H : Hp} {Q : VK} (hlen : Ln f n) (h : tP T Z W own (xMeth c Fn fo f) σ H Q) : tMethS C m (spF T Fn (n + 1)) (WE W) (tP T Z W own fo) (tPA T Z W own f) σ H Q := by
  obtain ⟨kp, F, ρ, g, cc, q⟩ := h
  refine tP.then cc q.bind fun d1 g1 v1 F1 H1 q1 c1 s1 r1 => ?_
  cases d1 with
  | ins c' fs =>
    cases hcc : decide (c' = c) with
    | true =>
      have hc2 := of_decide_eq_true hcc
      subst hc2
      simp only [hcc] at q1
      obtain ⟨a, C', dx, ps, rfl, e1, e2, e3, e4⟩ := rep_ins r1 t.xn
      rw [t.at_] at e2; cases e2
      refine ⟨a, dx, ps, rfl, c1.core.sub _ _ e1, lookup_none_of (fun hx => hm (List.mem_of_mem_take (by rw [e3] at hx; exact hx))), kp, F1, ρ, g1, c1, ?_⟩
      have q2 := (rQ.up s1 q1 (fun _ _ z => z)).bind
      cases hf : f ρ g1 with
      | ok ds g2 =>
        rw [hf] at q2
        intro vs F2 H2 c2 s2 r2
        have q3 : rQ T Z W kp F1 σ ρ (pD T Z own kp F σ ρ Q) (Fn (.ins c' fs :: ds) g2) := q2
        exact call_sp c2 (.cons (Rep.mono s2 _ _ r1) r2) (by simp [r2.length, hlen _ _ _ _ hf]) (rQ.up s2 q3 (pD.up (s1.trans s2)))
      | ex e g2 => rw [hf] at q2; exact q2
      | bad => rw [hf] at q2; exact q2
    | false => simp only [hcc] at q1; exact q1.elim
  | _ => exact q1.elim
theorem x_meth {pl : Sem Bool} (o' : Ok X.prog X.w X.K X.mg X.base T k fA (n + 1) Fn) (t : ClT T c C) (hm : m ∉ T.clF c) (hmeth : Meth T.K C m fA) (hl : es.length + 1 = n) (hr : Room k X.A) (tk : Takes X W) (ho : XE X T Z W own o fo) (ha : XAs X T Z W own (e :: es) f) (hlen : Ln f n) (hK : X.K = T.K := by rfl)
    (hst : starEach (e :: es) X.env = (false, eval e X.env) :: starEach es X.env := by rfl) (hpl : (backTo pos (starEach es X.env)).any (·.1) = false := by rfl)
    (ht : eval (.Call (.Attribute o m apos) (e :: es) [] pos) X.env = (do
      let ov ← eval o X.env
      standAt apos.atName
      let (f, first) ← holding [ov] (getMethod ov m pl)
      callWith pos f first (backTo pos (starEach (e :: es) X.env)) (backToKw pos (keywordEach [] X.env))) := by rfl) :
    XE X T Z W own (.Call (.Attribute o m apos) (e :: es) [] pos) (xMeth c Fn fo f) := by
  obtain ⟨fd, ps, F, hk, hb⟩ := o'.ex
  exact PE.imp (pe_methS (apos := apos) ho (by rw [hK]; exact t.cls) (by rw [hK]; exact hmeth) F hr hb (fun σ => passAt tk σ) ha hst hpl ht) fun σ H Q h => meth_imp t hm hlen h
theorem x_meth0 {pl : Sem Bool} (o' : Ok X.prog X.w X.K X.mg X.base T k fA 1 Fn) (t : ClT T c C) (hm : m ∉ T.clF c) (hmeth : Meth T.K C m fA) (hr : Room k X.A) (tk : Takes X W) (ho : XE X T Z W own o fo) (hK : X.K = T.K := by rfl)
    (ht : eval (.Call (.Attribute o m apos) [] [] pos) X.env = (do
      let ov ← eval o X.env
      standAt apos.atName
      let (f, first) ← holding [ov] (getMethod ov m pl)
      callWith pos f first (backTo pos (starEach [] X.env)) (backToKw pos (keywordEach [] X.env))) := by rfl) :
    XE X T Z W own (.Call (.Attribute o m apos) [] [] pos) (xMeth c Fn fo aNil) := by
  obtain ⟨fd, ps, F, hk, hb⟩ := o'.ex
  refine PE.imp (pe_methS0 (apos := apos) ho (by rw [hK]; exact t.cls) (by rw [hK]; exact hmeth) F hr hb (fun σ => passAt tk σ) ht) fun σ H Q h => ?_
  have h2 := meth_imp (m := m) t hm al_nil h
  obtain ⟨kp, F, ρ, g, cc, q⟩ := h2
  exact ⟨kp, F, ρ, g, cc, q.imp fun d g1 q1 v F1 H1 c1 s1 r1 => by
    obtain ⟨a, dx, fs, e1, e2, e3, kp, F2, ρ, g, c2, q⟩ := q1 v F1 H1 c1 s1 r1
    exact ⟨a, dx, fs, e1, e2, e3, q [] F2 H1 c2 (.refl _) .nil⟩⟩
end
/-! ### isinstance(e, C) -/
structure IsT (T : Tb) (c : Nat) (C : Addr) : Prop where
  kit : ∀ t ∈ ["NoneType", "bool", "int", "str", "list", "tuple"], PySem.W.kitOne T.K (.type t) (.ref C) = some false
  ins : ∀ c' C', T.clA c' = some C' → Cls T.K C' ∧ PySem.W.findIn T.K (.ref C') "__class__" = some (some (.builtin "object.__class__")) ∧ PySem.W.mroIn T.K C' (.type "object") = some true ∧ PySem.W.kitOne T.K (.ref C') (.ref C) = some (c' == c)
  sp : PySem.W.specialIn T.K (.builtin "object.__class__") "__get__" = some (some (.builtin "getset_descriptor.__get__"))
  tk : PySem.W.takesIn T.K (.builtin "object.__class__") = some true
  xn : T.exn = none
def rIsC (K : PySem.W.Frag) (C : Addr) : V → Hp → VK → Prop := fun x H Q => rIsi K [x, .ref C] H Q
theorem un_isC {T : Tb} {c : Nat} {C : Addr} (t : IsT T c C) : UnOk T (rIsC T.K C) (isC c) := by
  intro F H x d1 d Q s r e k
  have go : ∀ (ty : String), ty ∈ ["NoneType", "bool", "int", "str", "list", "tuple"] → TyX T.K H x (.type ty) → d = .bl false → rIsC T.K C x H Q := fun ty hm h hd => by
    subst hd
    exact ⟨x, .ref C, .type ty, .ref C, false, rfl, .own C, h, t.kit ty hm, k _ F H (.refl s) mk_bl⟩
  cases d1 with
  | non => obtain rfl := rep_non r; cases e; exact go "NoneType" (by simp) (.base .non) rfl
  | bl b => obtain rfl := rep_bl r; cases e; exact go "bool" (by simp) (.base (.bl b)) rfl
  | int i => obtain rfl := rep_int r; cases e; exact go "int" (by simp) (.base (.int i)) rfl
  | str z => obtain ⟨rfl, _⟩ := rep_str r; cases e; exact go "str" (by simp) (.base (.str _)) rfl
  | tup l => obtain ⟨p, vs, rfl, e1, _⟩ := rep_tup r; cases e; exact go "tuple" (by simp) (th_ty (e1.mono s)) rfl
  | lst l => obtain ⟨p, vs, rfl, e1, _⟩ := rep_lst r; cases e; exact go "list" (by simp) (.base (.lst (s _ _ e1))) rfl
  | ins c' fs =>
    cases e
    obtain ⟨a, C', dx, ps, rfl, e1, e2, e3, e4⟩ := rep_ins r t.xn
    obtain ⟨h1, h2, h3, h4⟩ := t.ins _ _ e2
    exact ⟨.ref a, .ref C, .ref C', .ref C, c' == c, rfl, .own C, .base (.ins (s _ _ e1) h1 h2 t.sp t.tk h3), h4, k _ F H (.refl s) mk_bl⟩
  | fn n => cases e
  | gen a => cases e
  | dic ks ds => cases e
section
variable {X : Cx} {T : Tb} {Z : Act} {W : WX} {own : List Nat} {a : Expr} {fa : PP.X} {p py pos : Pos} {x y : Str} {c : Nat} {C : Addr}
theorem x_isC (t : IsT T c C) (hg : Gl X x) (hm : X.mg x = none) (hv : bootBuiltins x = some (.builtin "isinstance")) (hg2 : Gl X y) (hm2 : X.mg y = some (.ref C)) (ha : XE X T Z W own a fa) (hK : X.K = T.K := by rfl)
    (hn : x ≠ "__name__" := by decide) (hdb : (x == ("__debug__" : Str)) = false := by decide) (hdb2 : (y == ("__debug__" : Str)) = false := by decide)
    (he : starEach [a, .Name y py] X.env = (false, eval a X.env) :: starEach [.Name y py] X.env := by rfl) (he2 : starEach [.Name y py] X.env = (false, eval (.Name y py) X.env) :: starEach [] X.env := by rfl) (hpl : (backTo pos (starEach [.Name y py] X.env)).any (·.1) = false := by rfl) :
    XE X T Z W own (.Call (.Name x p) [a, .Name y py] [] pos) (xUn (isC c) fa) := by
  have h1 : CallR X (.builtin "isinstance") (rIsi T.K) := by rw [← hK]; exact call_isi
  exact PE.imp (pe_callB h1 hg hm hv (pa_cons ha (pa_cons (pe_glob (v := .ref C) hg2 hm2 rfl hdb2) pa_nil he2) he) hn hdb he hpl) fun σ H Q h => un_imp (r := rIsC T.K C) (un_isC t) h
end
end PP

set_option Elab.async false
set_option linter.all false
set_option maxRecDepth 100000
set_option maxHeartbeats 4000000
/-! zip and enumerate over lists, tuples and texts, in any mix. -/
namespace PPG
open PySem PySem.Spec PyProof.Rows L2
/-- what may be walked -/
inductive Sc where
  | l (a : Addr) | t (a : Addr) | s (z : PySem.Str)
def Sc.v : Sc → V
  | .l a => .ref a | .t a => .ref a | .s z => .str z
def Sc.at_ (K : PySem.W.Frag) (H : Hp) (xs : List V) : Sc → Prop
  | .l a => SqL K H a xs
  | .t a => SqT K H a xs
  | .s z => xs = z.cps.toList.map fun c => V.str ⟨#[c]⟩
def Sc.it (h : Heap) (it : Addr) (i : Nat) : Sc → Prop
  | .l a => h.IsListIter it a i
  | .t a => h.IsTupleIter it a i
  | .s z => ∃ t, h.IsStrIter it (strIterType z) z t i
def Sc.ad : Sc → List Addr
  | .l a => [a] | .t a => [a] | .s _ => []
theorem Sc.it_obj {c : Sc} {h : Heap} {it : Addr} {i : Nat} (x : c.it h it i) : ∃ o, h.get? it = some o ∧ ∀ v, o.data ≠ .cell v := by
  cases c with
  | l a => obtain ⟨o, e, _, d⟩ := x; exact ⟨o, e, fun v q => by rw [d] at q; cases q⟩
  | t a => obtain ⟨o, e, _, d⟩ := x; exact ⟨o, e, fun v q => by rw [d] at q; cases q⟩
  | s z => obtain ⟨t, o, e, _, d⟩ := x; exact ⟨o, e, fun v q => by rw [d] at q; cases q⟩
theorem Sc.it_keep {c : Sc} {h h' : Heap} {it : Addr} {i : Nat} (x : c.it h it i) (k : ∀ o, h.get? it = some o → h'.get? it = some o) : c.it h' it i := by
  cases c with
  | l a => obtain ⟨o, e, r⟩ := x; exact ⟨o, k o e, r⟩
  | t a => obtain ⟨o, e, r⟩ := x; exact ⟨o, k o e, r⟩
  | s z => obtain ⟨t, o, e, r⟩ := x; exact ⟨t, o, k o e, r⟩
section
variable {X : Cx} {pins : List (Addr × Obj)} {σ : L2.St} {H : Hp} {s : Shared} {c : Sc} {xs ys : List V} {it : Addr} {i : Nat}
theorem Sc.inj (I : Inv X pins σ H s) (h : c.at_ X.K H xs) (h' : c.at_ X.K H ys) : xs = ys := by
  cases c with
  | l a => exact I.list_inj h h'
  | t a => exact I.tuple_inj h h'
  | s z => rw [show xs = _ from h, show ys = _ from h']
theorem Sc.draws (I : Inv X pins σ H s) (hc : X.calm = true) (h : c.at_ X.K H xs) (st : c.it s.heap it i) (hn : ∀ a ∈ c.ad, a ≠ it) :
    ∃ (P : Nat → Value → Prop) (St : Nat → Heap → Prop), Draws X.prog X.w X.A.in1 it (it :: c.ad) xs.length P St ∧ St i s.heap ∧ (∀ j v, P j v → ∃ x, xs[j]? = some x ∧ RelV x v) ∧ ∀ j h, St j h → c.it h it j := by
  have hh : X.A.in1.handled = none := I.ok.hd hc
  cases c with
  | l a =>
    obtain ⟨its, rv, p, _⟩ := I.list h
    have hl : xs.length = its.toArray.size := by simpa using rv.length
    have D := Draws.list (prog := X.prog) (w := X.w) hh it a (hn a (by simp [Sc.ad])) its.toArray
    rw [← hl] at D
    refine ⟨_, _, D, ⟨st, p.isList⟩, fun j v e => ?_, fun j h q => q.1⟩
    have e' : its[j]? = some v := by simpa using e
    obtain ⟨hj, _⟩ := List.getElem?_eq_some_iff.mp e'
    have hx : xs[j]? = some (xs[j]'(by rw [rv.length]; exact hj)) := List.getElem?_eq_getElem _
    obtain ⟨u, hu, ru⟩ := rv.get hx
    rw [hu] at e'; cases e'
    exact ⟨_, hx, ru⟩
  | t a =>
    obtain ⟨its, rv, p, _⟩ := I.tuple h
    have hl : xs.length = its.toArray.size := by simpa using rv.length
    have D := Draws.tuple (prog := X.prog) (w := X.w) hh it a (hn a (by simp [Sc.ad])) its.toArray
    rw [← hl] at D
    refine ⟨_, _, D, ⟨st, p⟩, fun j v e => ?_, fun j h q => q.1⟩
    have e' : its[j]? = some v := by simpa using e
    obtain ⟨hj, _⟩ := List.getElem?_eq_some_iff.mp e'
    have hx : xs[j]? = some (xs[j]'(by rw [rv.length]; exact hj)) := List.getElem?_eq_getElem _
    obtain ⟨u, hu, ru⟩ := rv.get hx
    rw [hu] at e'; cases e'
    exact ⟨_, hx, ru⟩
  | s z =>
    obtain ⟨t, st⟩ := st
    have hx : xs = z.cps.toList.map fun c => V.str ⟨#[c]⟩ := h
    subst hx
    refine ⟨_, _, by rw [show (z.cps.toList.map fun c => V.str ⟨#[c]⟩).length = z.cps.size from by simp]; exact Draws.text hh it z t, st, fun j v e => ?_, fun j h q => ⟨t, q⟩⟩
    obtain ⟨c, u, e1, rfl⟩ := e
    have e2 : z.cps.toList[j]? = some c := by simpa using e1
    exact ⟨.str ⟨#[c]⟩, by simp [List.getElem?_map, e2], ⟨u, rfl⟩⟩
theorem Sc.begins {u : Value} (I : Inv X pins σ H s) (h : c.at_ X.K H xs) (r : RelV c.v u) : ∃ (o : Obj) (Hc : Heap → Prop), Begins u o Hc ∧ Hc s.heap ∧ (∀ h' it, h'.get? it = some o → c.it h' it 0) ∧ ∀ a ∈ c.ad, a < s.heap.objs.size := by
  cases c with
  | l a =>
    obtain ⟨its, rv, p, _⟩ := I.list h
    cases r
    exact ⟨_, _, begins_list a its.toArray, p.isList, fun h' it e => ⟨_, e, rfl, rfl⟩, fun b hb => by rw [show b = a by simpa [Sc.ad] using hb]; exact p.lt⟩
  | t a =>
    obtain ⟨its, rv, p, _⟩ := I.tuple h
    cases r
    refine ⟨_, _, begins_tuple a its.toArray, p, fun h' it e => ⟨_, e, rfl, rfl⟩, fun b hb => ?_⟩
    rw [show b = a by simpa [Sc.ad] using hb]
    obtain ⟨o, e, _⟩ := p
    exact Heap.lt_size e
  | s z =>
    obtain ⟨t, rfl⟩ := r
    exact ⟨_, _, begins_text z t, trivial, fun h' it e => ⟨t, _, e, rfl, rfl⟩, fun b hb => by simp [Sc.ad] at hb⟩
end
/-- a and b as they stand at each turn, the items in new pairs -/
def Itz (K : PySem.W.Frag) (a b : Sc) : It :=
  ⟨fun i H => ∃ (xs ys : List V) (x y : V), a.at_ K H xs ∧ b.at_ K H ys ∧ xs[i]? = some x ∧ ys[i]? = some y,
    fun i H v H' => ∃ T x y, v = .ref T ∧ H T = none ∧ (∃ o : Obj, o.cls = .type "tuple" ∧ o.dict = none ∧ H' = upd H T (.frz o (.tup [x, y]))) ∧ (∀ xs, a.at_ K H xs → xs[i]? = some x) ∧ ∀ ys, b.at_ K H ys → ys[i]? = some y,
    fun i H => ∃ xs ys : List V, a.at_ K H xs ∧ b.at_ K H ys ∧ i ≤ xs.length ∧ i ≤ ys.length ∧ (i = xs.length ∨ i = ys.length)⟩
theorem turn_zip {P : Program} {w : World} {K : PySem.W.Frag} {elts : List Expr} {kk : Nat} {tpos : Pos} {a b : Sc} {z TI TO i1 i2 : Addr} (D : ZipSep2 z TI TO i1 i2 (i1 :: a.ad) (i2 :: b.ad)) (n1 : ∀ x ∈ a.ad, x ≠ i1) (n2 : ∀ x ∈ b.ad, x ≠ i2) :
    Turn P w K (.Tuple elts kk tpos) (Itz K a b) [z, TI, TO, i1, i2] z (fun i h => IsZip h z TI TO .none ∧ IsPair h TI (.ref i1) (.ref i2) ∧ (∃ x y, IsPair h TO x y) ∧ a.it h i1 i ∧ b.it h i2 i) where
  mem := by simp
  obj := fun i h st c hc => by
    obtain ⟨hz, hTI, ⟨x, y, hTO⟩, h1, h2⟩ := st
    have e' : c = z ∨ c = TI ∨ c = TO ∨ c = i1 ∨ c = i2 := by simpa using hc
    rcases e' with q | q | q | q | q
    · rw [q]; exact ⟨_, hz, fun v q => nomatch q⟩
    · rw [q]; exact ⟨_, hTI, fun v q => nomatch q⟩
    · rw [q]; exact ⟨_, hTO, fun v q => nomatch q⟩
    · rw [q]; exact Sc.it_obj h1
    · rw [q]; exact Sc.it_obj h2
  keep := fun i h h' st k => by
    obtain ⟨hz, hTI, ⟨x, y, hTO⟩, h1, h2⟩ := st
    exact ⟨k z (by simp) _ hz, k TI (by simp) _ hTI, ⟨x, y, k TO (by simp) _ hTO⟩, Sc.it_keep h1 fun o q => k i1 (by simp) o q, Sc.it_keep h2 fun o q => k i2 (by simp) o q⟩
  item := by
    intro X hP hw hK hc i pins s σ H E I hf st hg
    subst hP hw hK
    obtain ⟨hz, hTI, ⟨x0, y0, hTO⟩, h1, h2⟩ := st
    obtain ⟨xs, ys, x, y, hqx, hqy, hx, hy⟩ := hg
    obtain ⟨P1, St1, D1, st1, p1, k1⟩ := Sc.draws I hc hqx h1 n1
    obtain ⟨P2, St2, D2, st2, p2, k2⟩ := Sc.draws I hc hqy h2 n2
    have hzl : z < s.heap.objs.size := Heap.lt_size hz
    refine wpAny_pyNext_zipD2_item D D1 D2 hz hTI hTO st1 st2 (List.getElem?_eq_some_iff.mp hx).1 (List.getElem?_eq_some_iff.mp hy).1 fun u u2 h' tk q1 q2 z' TO' h1' h2' hT hsz hk => ?_
    obtain ⟨x', ex, ru⟩ := p1 _ _ q1
    obtain ⟨y', ey, ru2⟩ := p2 _ _ q2
    rw [hx] at ex; cases ex
    rw [hy] at ey; cases ey
    have g1 := k1 _ _ h1'
    have g2 := k2 _ _ h2'
    refine ⟨_, rfl, wpAny_letOwnedTupleGo_zip (s := { s with heap := h', toks := tk }) z' fun h'' z'' sb => ?_⟩
    have hT2 : h''.get? s.heap.objs.size = some { cls := .type "tuple", data := .seq #[u, u2] } := (sb.2 _ (Nat.ne_of_gt hzl)).trans hT
    have new : ObjOk X.prog X.w (upd H s.heap.objs.size (.frz { cls := .type "tuple", data := .seq #[u, u2] } (.tup [x, y]))) h'' s.heap.objs.size (.frz { cls := .type "tuple", data := .seq #[u, u2] } (.tup [x, y])) :=
      ⟨hT2, by show 2 ≤ sizeLine; decide, [u, u2], .cons ru (.cons ru2 .nil), ⟨_, hT2, rfl, _, rfl⟩⟩
    have I1 : Inv X pins σ (upd H s.heap.objs.size (.frz { cls := .type "tuple", data := .seq #[u, u2] } (.tup [x, y]))) { s with heap := h'', toks := tk } :=
      I.turnedNew (t' := tk) (ch := [z, TI, TO, i1, i2]) (fun c o hb q => (sb.2 c (fun q' => hb (by simp [q']))).trans (hk c o (fun q' => hb (by simp [q'])) (fun q' => hb (by simp [q'])) (fun q' => hb (by simp [q'])) (fun q' => hb (by simp [q'])) q)) hf (Nat.le_refl _) new
    refine ⟨.ref s.heap.objs.size, _, I1, rfl, ⟨_, x, y, rfl, I.hok.fresh (Nat.le_refl _), ⟨_, rfl, rfl, rfl⟩, fun l hl => by rw [Sc.inj I hl hqx]; exact hx, fun l hl => by rw [Sc.inj I hl hqy]; exact hy⟩, ⟨z'', ?_, ⟨u, u2, ?_⟩, ?_, ?_⟩, fun c hcm => ?_⟩
    · exact (sb.2 _ D.TIz).trans (hk _ _ D.TIz D.TITO D.TIi1 D.TIi2 hTI)
    · exact (sb.2 _ D.TOz).trans TO'
    · exact Sc.it_keep g1 fun o q => (sb.2 _ (Ne.symm D.zi1)).trans q
    · exact Sc.it_keep g2 fun o q => (sb.2 _ (Ne.symm D.zi2)).trans q
    · have hlt : c < s.heap.objs.size := by
        have e' : c = z ∨ c = TI ∨ c = TO ∨ c = i1 ∨ c = i2 := by simpa using hcm
        rcases e' with q | q | q | q | q
        · rw [q]; exact hzl
        · rw [q]; exact Heap.lt_size hTI
        · rw [q]; exact Heap.lt_size hTO
        · rw [q]; obtain ⟨_, e1, _⟩ := Sc.it_obj h1; exact Heap.lt_size e1
        · rw [q]; obtain ⟨_, e2, _⟩ := Sc.it_obj h2; exact Heap.lt_size e2
      rw [upd_ne (Nat.ne_of_lt hlt)]
      exact (hf c hcm).1
  done := by
    intro X hP hw hK hc i pins s σ H E I hf st hg
    subst hP hw hK
    obtain ⟨hz, hTI, ⟨x0, y0, hTO⟩, h1, h2⟩ := st
    obtain ⟨xs, ys, hqx, hqy, l1, l2, hend⟩ := hg
    obtain ⟨P1, St1, D1, st1, p1, k1⟩ := Sc.draws I hc hqx h1 n1
    obtain ⟨P2, St2, D2, st2, p2, k2⟩ := Sc.draws I hc hqy h2 n2
    exact wpAny_pyNext_zipD2_end D D1 D2 hz hTI hTO st1 st2 l1 l2 hend fun h' tk hk => ⟨rfl, I.turnedL (t' := tk) (ch := [z, TI, TO, i1, i2]) (fun c o hb q =>
      hk c o (fun q' => hb (by simp [q'])) (fun q' => hb (by simp [q'])) (fun q' => hb (by simp [q'])) (fun q' => hb (by simp [q'])) q) hf⟩
  self := fun A i s Q E st h => wpAny_pyIter_zip st.1 h
def iZipG (K : PySem.W.Frag) (ta : TA) : TI := fun σ H R => ta σ H fun vs H1 => ∃ (a b : Sc) (xs ys : List V), vs = [a.v, b.v] ∧ a.at_ K H1 xs ∧ b.at_ K H1 ys ∧ R (Itz K a b) H1
theorem pi_zipG {X : Cx} {e e2 : Expr} {ta : TA} {p pos tpos : Pos} {elts : List Expr} {kk : Nat} (hg : Gl X "zip") (hm : X.mg "zip" = none) (ha : PA X [e, e2] ta)
    (hs : starEach [e, e2] X.env = (false, eval e X.env) :: starEach [e2] X.env := by rfl) (hpl : (backTo pos (starEach [e2] X.env)).any (·.1) = false := by rfl) :
    PI X (.Tuple elts kk tpos) (.Call (.Name "zip" p) [e, e2] [] pos) (iZipG X.K ta) := by
  refine ⟨fun pins s σ H R I h => ?_⟩
  refine Call_ (ld_blt I hg hm PyProof.Rows.boot_zip (PyProof.Rows.callWith_type1 (thn (ha.run pos pins s σ H _ I h) fun us s1 ⟨vs, H1, I1, r1, q1⟩ => ?_) hs hpl))
  obtain ⟨a, b, xs, ys, ex, hqx, hqy, q⟩ := q1
  subst ex
  cases r1 with
  | cons r rr =>
    cases rr with
    | cons r' rr =>
      cases rr
      have fresh5 : ∀ c, c ∈ [s1.heap.objs.size + 4, s1.heap.objs.size + 2, s1.heap.objs.size + 3, s1.heap.objs.size, s1.heap.objs.size + 1] → FpOk X pins H1 c := fun c hcm => by
        have e' : c = s1.heap.objs.size + 4 ∨ c = s1.heap.objs.size + 2 ∨ c = s1.heap.objs.size + 3 ∨ c = s1.heap.objs.size ∨ c = s1.heap.objs.size + 1 := by simpa using hcm
        have hle : s1.heap.objs.size ≤ c := by
          rcases e' with z | z | z | z | z
          · rw [z]; exact Nat.le_add_right _ _
          · rw [z]; exact Nat.le_add_right _ _
          · rw [z]; exact Nat.le_add_right _ _
          · rw [z]; exact Nat.le_refl _
          · rw [z]; exact Nat.le_add_right _ _
        exact I1.fpOk hle (I1.hok.fresh hle)
      obtain ⟨o1, B1h, B1, b1, k1, l1⟩ := Sc.begins I1 hqx r
      obtain ⟨o2, B2h, B2, b2, k2, l2⟩ := Sc.begins I1 hqy r'
      refine zip_begins2 B1 B2 b1 b2 fun h' hz hTI hTO h1 h2 hsz hk => wpAny_pyIter_zip hz ?_
      have I2 : Inv X pins σ H1 { s1 with heap := h' } := I1.kept (t' := s1.toks) hk
      exact ⟨s1.heap.objs.size + 4, [s1.heap.objs.size + 4, s1.heap.objs.size + 2, s1.heap.objs.size + 3, s1.heap.objs.size, s1.heap.objs.size + 1], _, _, H1, rfl, I2, turn_zip (zip_sep2 l1 l2) (fun x hx => Nat.ne_of_lt (l1 x hx)) (fun x hx => Nat.ne_of_lt (Nat.lt_succ_of_lt (l2 x hx))), ⟨hz, hTI, ⟨_, _, hTO⟩, k1 _ _ h1, k2 _ _ h2⟩, fresh5, q⟩
/-! enumerate -/
theorem meets_enum {v : Value} {o : Obj} {H : Heap → Prop} (B : Begins v o H) :
    Meets (Builtin.«enumerate.__new__» ⟨[.type "enumerate", v], []⟩) (fun _ R s => H s.heap ∧
      R (.ok (.ret (.ref (s.heap.push o).objs.size))) { s with heap := (s.heap.push o).push { cls := .type "enumerate", data := .fields #[.none, .bool false, .ref s.heap.objs.size, rawInt 0, .none, .none] } }) :=
  .of_wp fun prog w A R s h => by
    obtain ⟨hp, g, d, tk, os⟩ := s; obtain ⟨h1, h⟩ := h
    have hsub := sub_enumerate
    have q1 : ∀ {A' : Around} {E : Value → Shared → Prop} {Q : Value → Shared → Prop}, Q (.ref hp.objs.size) ⟨hp.push o, g, d, tk, os⟩ → wpAny (model prog w) A' (pyIter v) Q E ⟨hp, g, d, tk, os⟩ :=
      fun q => B.iter prog w _ _ ⟨hp, g, d, tk, os⟩ _ h1 q
    wp_walk using q1
    refine wpAny_stack_any fun st => wpAny_pure ?_
    split
    · rename_i c _ _ _ _ _
      cases (c == Value.type "enumerate")
      · wp_walk using q1
        exact ⟨_, rfl, h⟩
      · wp_walk using q1
        exact ⟨_, rfl, h⟩
    · wp_walk using q1
      exact ⟨_, rfl, h⟩
theorem call_enum {prog : Program} {w : World} {A : Around} {E : Value → Shared → Prop} {s : Shared} {v : Value} {o : Obj} {H : Heap → Prop} {Q : Value → Shared → Prop} (B : Begins v o H) (h1 : H s.heap)
    (h : ∀ h', IsEnum h' (s.heap.objs.size + 1) s.heap.objs.size 0 .none → h'.get? s.heap.objs.size = some o → h'.objs.size = s.heap.objs.size + 2 →
      (∀ b o, s.heap.get? b = some o → h'.get? b = some o) → Q (.ref (s.heap.objs.size + 1)) { s with heap := h' }) :
    wpAny (model prog w) A (call (.type "enumerate") [v]) Q E s := by
  refine callType_new F.called_enumerate (by decide) (F.typeCall_enumerate_1 _) (F.newCall_enumerate_1 _) (fun obj => F.args_object_init_2 obj _) F.entry_enumerate_new
    (meets_enum B) ⟨h1, ?_⟩
  have hz : (s.heap.push o).objs.size = s.heap.objs.size + 1 := Heap.size_push ..
  show _ ∧ _
  rw [hz]
  have he : IsEnum ((s.heap.push o).push { cls := .type "enumerate", data := .fields #[.none, .bool false, .ref s.heap.objs.size, rawInt 0, .none, .none] }) (s.heap.objs.size + 1) s.heap.objs.size 0 .none := by
    have := Heap.get?_push_size (s.heap.push o) (o := { cls := .type "enumerate", data := .fields #[.none, .bool false, .ref s.heap.objs.size, rawInt 0, .none, .none] }) rfl
    rw [hz] at this; exact this
  refine ⟨⟨_, he, rfl⟩, h _ he (Heap.get?_push_of_some _ (Heap.get?_push_size _ B.free)) (by rw [Heap.size_push, hz]) fun b o x => Heap.get?_push_of_some _ (Heap.get?_push_of_some _ x)⟩
def Ite (K : PySem.W.Frag) (a : Sc) : It :=
  ⟨fun i H => ∃ (xs : List V) (x : V), a.at_ K H xs ∧ xs[i]? = some x,
    fun i H v H' => ∃ T x, v = .ref T ∧ H T = none ∧ (∃ o : Obj, o.cls = .type "tuple" ∧ o.dict = none ∧ H' = upd H T (.frz o (.tup [.int (i : Nat), x]))) ∧ ∀ xs, a.at_ K H xs → xs[i]? = some x,
    fun i H => ∃ xs : List V, a.at_ K H xs ∧ i = xs.length⟩
theorem turn_enum {P : Program} {w : World} {K : PySem.W.Frag} {elts : List Expr} {kk : Nat} {tpos : Pos} (a : Sc) (e it : Addr) (hne : e ≠ it) (hna : e ∉ a.ad) (hni : ∀ x ∈ a.ad, x ≠ it) :
    Turn P w K (.Tuple elts kk tpos) (Ite K a) [e, it] e (fun i h => (∃ old, IsEnum h e it ((i : Nat) : Int) old) ∧ a.it h it i) where
  mem := by simp
  obj := fun i h st b hb => by
    obtain ⟨⟨old, he⟩, h1⟩ := st
    have e' : b = e ∨ b = it := by simpa using hb
    rcases e' with z | z
    · rw [z]; exact ⟨_, he, fun v q => nomatch q⟩
    · rw [z]; exact Sc.it_obj h1
  keep := fun i h h' st k => let ⟨⟨old, he⟩, hi⟩ := st; ⟨⟨old, k e (by simp) _ he⟩, Sc.it_keep hi fun o q => k it (by simp) o q⟩
  item := by
    intro X hP hw hK hc i pins s σ H E I hf st hg
    subst hP hw hK
    obtain ⟨⟨old, he⟩, hit⟩ := st
    obtain ⟨xs, x, hq, hx⟩ := hg
    obtain ⟨P1, St1, D1, st1, p1, k1⟩ := Sc.draws I hc hq hit hni
    have hel : e < s.heap.objs.size := Heap.lt_size he
    have hil : it < s.heap.objs.size := by obtain ⟨_, q, _⟩ := Sc.it_obj hit; exact Heap.lt_size q
    refine wpAny_pyNext_enum_itemD D1 he st1 (List.getElem?_eq_some_iff.mp hx).1 hne (by simp [hne, hna]) fun u h' tk hu ho hit' hT hsz hk => ?_
    obtain ⟨x', ex, ru⟩ := p1 _ _ hu
    rw [hx] at ex; cases ex
    have g1 := k1 _ _ hit'
    refine ⟨_, rfl, wpAny_letOwnedTupleGo_enum (s := { s with heap := h', toks := tk + 1 }) ho fun h'' he' sb => ?_⟩
    have hT2 : h''.get? s.heap.objs.size = some { cls := .type "tuple", data := .seq #[.int i tk, u] } := (sb.2 _ (Nat.ne_of_gt hel)).trans hT
    have new : ObjOk X.prog X.w (upd H s.heap.objs.size (.frz { cls := .type "tuple", data := .seq #[.int i tk, u] } (.tup [.int (i : Nat), x]))) h'' s.heap.objs.size (.frz { cls := .type "tuple", data := .seq #[.int i tk, u] } (.tup [.int (i : Nat), x])) :=
      ⟨hT2, by show 2 ≤ sizeLine; decide, [.int i tk, u], .cons ⟨_, rfl⟩ (.cons ru .nil), ⟨_, hT2, rfl, _, rfl⟩⟩
    have I1 : Inv X pins σ (upd H s.heap.objs.size (.frz { cls := .type "tuple", data := .seq #[.int i tk, u] } (.tup [.int (i : Nat), x]))) { s with heap := h'', toks := tk + 1 } :=
      I.turnedNew (ch := [e, it]) (fun b ob hb q => (sb.2 b (fun z => hb (by simp [z]))).trans (hk b ob (fun z => hb (by simp [z])) (fun z => hb (by simp [z])) q)) hf (Nat.le_refl _) new
    refine ⟨.ref s.heap.objs.size, _, I1, rfl, ⟨_, x, rfl, I.hok.fresh (Nat.le_refl _), ⟨_, rfl, rfl, rfl⟩, fun ys hy => by rw [Sc.inj I hy hq]; exact hx⟩, ⟨⟨u, ?_⟩, Sc.it_keep g1 fun o q => (sb.2 it (Ne.symm hne)).trans q⟩, fun b hb => ?_⟩
    · have e1 : ((i + 1 : Nat) : Int) = (i : Int) + 1 := by omega
      rw [e1]; exact he'
    · have hb' : b < s.heap.objs.size := by
        have e' : b = e ∨ b = it := by simpa using hb
        rcases e' with z | z
        · rw [z]; exact hel
        · rw [z]; exact hil
      rw [upd_ne (Nat.ne_of_lt hb')]
      exact (hf b hb).1
  done := by
    intro X hP hw hK hc i pins s σ H E I hf st hg
    subst hP hw hK
    obtain ⟨⟨old, he⟩, hit⟩ := st
    obtain ⟨xs, hq, hx⟩ := hg
    obtain ⟨P1, St1, D1, st1, p1, k1⟩ := Sc.draws I hc hq hit hni
    obtain ⟨f0, f1, f2, f3, f4, f5⟩ := hf it (by simp)
    subst hx
    exact wpAny_pyNext_enum_endD D1 he st1 fun h' eb => ⟨rfl, I.turned (t' := s.toks) (fun b o hb q => eb b o hb q) f0 f1 f3 f4 f5⟩
  self := fun A i s Q E st h => let ⟨⟨_, he⟩, _⟩ := st; wpAny_pyIter_enum he h
def iEnumG (K : PySem.W.Frag) (ta : TA) : TI := fun σ H R => ta σ H fun vs H1 => ∃ (a : Sc) (xs : List V), vs = [a.v] ∧ a.at_ K H1 xs ∧ R (Ite K a) H1
theorem pi_enumG {X : Cx} {e : Expr} {ta : TA} {p pos tpos : Pos} {elts : List Expr} {kk : Nat} (hg : Gl X "enumerate") (hm : X.mg "enumerate" = none) (ha : PA X [e] ta) (hs : starEach [e] X.env = [(false, eval e X.env)] := by rfl) :
    PI X (.Tuple elts kk tpos) (.Call (.Name "enumerate" p) [e] [] pos) (iEnumG X.K ta) := by
  refine ⟨fun pins s σ H R I h => ?_⟩
  refine Call_ (ld_blt I hg hm boot_enumerate (PyProof.Rows.callWith_type1 (thn (ha.run pos pins s σ H _ I h) fun us s1 ⟨vs, H1, I1, r1, q1⟩ => ?_) hs rfl))
  obtain ⟨a, xs, ex, hq, q⟩ := q1
  subst ex
  cases r1 with
  | cons r rr =>
    cases rr
    obtain ⟨o1, B1h, B1, b1, k1, l1⟩ := Sc.begins I1 hq r
    refine call_enum B1 b1 fun h' he hit hsz hk => wpAny_pyIter_enum he ?_
    have I2 : Inv X pins σ H1 { s1 with heap := h' } := I1.kept (t' := s1.toks) hk
    refine ⟨s1.heap.objs.size + 1, [s1.heap.objs.size + 1, s1.heap.objs.size], _, _, H1, rfl, I2, turn_enum a (s1.heap.objs.size + 1) s1.heap.objs.size (Nat.succ_ne_self _) (fun hm => absurd (l1 _ hm) (by show ¬ (s1.heap.objs.size + 1 < s1.heap.objs.size); omega)) (fun x hx => Nat.ne_of_lt (l1 x hx)), ⟨⟨.none, he⟩, k1 _ _ hit⟩, fun b hb => ?_, q⟩
    have e' : b = s1.heap.objs.size + 1 ∨ b = s1.heap.objs.size := by simpa using hb
    have hle : s1.heap.objs.size ≤ b := by
      rcases e' with z | z
      · rw [z]; exact Nat.le_add_right _ _
      · rw [z]; exact Nat.le_refl _
    exact I1.fpOk hle (I1.hok.fresh hle)
end PPG
namespace PP
open PySem L2 PPG
/-- a new pair of the i-th of two rows -/
def YPairF (f g : Nat → Option V) : Nat → Hp → V → Hp → Prop := fun i H x H' => ∃ p u v, x = .ref p ∧ H p = none ∧ (∃ o : Obj, o.cls = .type "tuple" ∧ o.dict = none ∧ H' = upd H p (.frz o (.tup [u, v]))) ∧ f i = some u ∧ g i = some v
theorem iters_pair {T : Tb} {F : Hp} {J : It} {xs ys : List V} {l m : List D} {G : Hp → Prop} (w : Walk J (zipL l m).length G (YPairF (fun i => xs[i]?) (fun i => ys[i]?))) (hg : ∀ H, Sub F H → G H) (r1 : RepL T F xs l) (r2 : RepL T F ys m) : Iters T F J (zipL l m) := by
  refine ⟨_, _, w, hg, fun i H1 x H2 d e s y => ?_⟩
  obtain ⟨p, u, v, rfl, np, ⟨o, o1, o2, rfl⟩, h1, h2⟩ := y
  obtain ⟨dx, dy, z1, z2, rfl⟩ := zip_get e
  obtain ⟨u', k1, k2⟩ := r1.get z1
  obtain ⟨v', k3, k4⟩ := r2.get z2
  have h1' : xs[i]? = some u := h1
  have h2' : ys[i]? = some v := h2
  rw [k1] at h1'; cases h1'
  rw [k3] at h2'; cases h2'
  obtain ⟨gr, rr⟩ := new_tup (T := T) s np o1 o2 (by simp [LIM]) (.cons k2 (.cons k4 .nil))
  exact ⟨_, gr, rr⟩
theorem walk_zipG {K : PySem.W.Frag} {a b : Sc} {xs ys : List V} {n : Nat} (hn : n = min xs.length ys.length) : Walk (PPG.Itz K a b) n (fun H => a.at_ K H xs ∧ b.at_ K H ys) (YPairF (fun i => xs[i]?) (fun i => ys[i]?)) := by
  subst hn
  refine ⟨fun i _ hi q => ?_, fun _ q => ⟨xs, ys, q.1, q.2, by omega⟩, fun i H v H' _ q y => ?_⟩
  · have h1 : i < xs.length := by omega
    have h2 : i < ys.length := by omega
    exact ⟨xs, ys, xs[i], ys[i], q.1, q.2, by simp [h1], by simp [h2]⟩
  · obtain ⟨T, x, z, h1, h2, h3, h4, h5⟩ := y
    exact ⟨T, x, z, h1, h2, h3, h4 xs q.1, h5 ys q.2⟩
theorem sc_of {T : Tb} {F H : Hp} {v : V} {d : D} {l : List D} (r : Rep T F v d) (e : walkD d = some l) : ∃ (a : Sc) (xs : List V), v = a.v ∧ (∀ H, Sub F H → a.at_ T.K H xs) ∧ RepL T F xs l ∧ xs.length ≤ LIM := by
  cases d with
  | tup m => cases e; obtain ⟨p, vs, rfl, e1, l1, r1⟩ := rep_tup r; exact ⟨.t p, vs, rfl, fun H s => (e1.mono s).sq, r1, l1⟩
  | lst m => cases e; obtain ⟨p, vs, rfl, e1, l1, r1⟩ := rep_lst r; exact ⟨.l p, vs, rfl, fun H s => SqL.of (s _ _ e1), r1, l1⟩
  | str s =>
    cases e
    obtain ⟨rfl, h1, h2⟩ := rep_str r
    refine ⟨.s ⟨s.toArray⟩, _, rfl, fun H _ => rfl, ?_, by simpa using h1⟩
    clear r h1
    show RepL T F (s.map fun c => V.str ⟨#[c]⟩) _
    induction s with
    | nil => exact .nil
    | cons c s ih => exact .cons (mk_str (s := [c]) (by simp [LIM]) fun c' hc => by
        obtain rfl : c' = c := by simpa using hc
        exact h2 _ (by simp)) (ih fun c' hc => h2 _ (by simp [hc]))
  | _ => cases e
section
variable {X : Cx} {T : Tb} {Z : Act} {W : WX} {own : List Nat} {e e2 : Expr} {fa fb : PP.X} {p pos tpos : Pos}
theorem i_zipG {elts : List Expr} {kk : Nat} (hg : Gl X "zip") (hm : X.mg "zip" = none) (ha : XAs X T Z W own [e, e2] (aCons fa (aCons fb aNil))) (hK : X.K = T.K := by rfl)
    (hs : starEach [e, e2] X.env = (false, eval e X.env) :: starEach [e2] X.env := by rfl) (hpl : (backTo pos (starEach [e2] X.env)).any (·.1) = false := by rfl) :
    XI X T Z W own (.Tuple elts kk tpos) (.Call (.Name "zip" p) [e, e2] [] pos) (iZipA fa fb) := by
  have h1 := pi_zipG (tpos := tpos) (elts := elts) (kk := kk) (p := p) (pos := pos) hg hm ha hs hpl
  rw [hK] at h1
  refine PI.imp h1 fun σ H R ⟨kp, F, ρ, g, c, q⟩ => ?_
  refine ⟨kp, F, ρ, g, c, ?_⟩
  have q' := q.bind
  simp only [aCons]
  cases hf : fa ρ g with
  | ok d g1 =>
    rw [hf] at q'
    have q2 := rQ.bind (σ := σ) q'
    simp only [PP.R.bind_ok]
    cases hf2 : fb ρ g1 with
    | ok d2 g2 =>
      rw [hf2] at q2
      cases hl : walkD d with
      | none => simp only [rQ, hl] at q2
      | some l =>
        cases hm : walkD d2 with
        | none => simp only [rQ, hl, hm] at q2
        | some m =>
          simp only [rQ, hl, hm] at q2
          intro vs F1 H1 c1 s1 r1
          obtain ⟨x, y, rfl, r, r'⟩ := call2 r1
          obtain ⟨a, us, rfl, e1, k1, l1⟩ := sc_of (H := H1) r hl
          obtain ⟨b, ws, rfl, e3, k3, l3⟩ := sc_of (H := H1) r' hm
          refine ⟨a, b, us, ws, rfl, e1 _ c1.core.sub, e3 _ c1.core.sub, q2 _ F1 H1 c1 s1 (iters_pair (walk_zipG (K := T.K) (a := a) (b := b) (xs := us) (ys := ws) (by rw [zipL_length, k1.length, k3.length])) (fun H s => ⟨e1 _ s, e3 _ s⟩) k1 k3) ?_⟩
          rw [zipL_length, ← k1.length]; omega
    | ex e' g1 => rw [hf2] at q2; exact q2
    | bad => rw [hf2] at q2; exact q2.elim
  | ex e' g1 => rw [hf] at q'; exact q'
  | bad => rw [hf] at q'; exact q'.elim
theorem walk_enumG {K : PySem.W.Frag} {a : Sc} {xs : List V} : Walk (PPG.Ite K a) xs.length (fun H => a.at_ K H xs) (YPairF (fun i => some (.int (i : Nat))) (fun i => xs[i]?)) := by
  refine ⟨fun i _ hi q => ⟨xs, xs[i], q, by simp [hi]⟩, fun _ q => ⟨xs, q, rfl⟩, fun i H v H' _ q y => ?_⟩
  obtain ⟨T, x, h1, h2, h3, h4⟩ := y
  exact ⟨T, .int (i : Nat), x, h1, h2, h3, rfl, h4 xs q⟩
theorem i_enumG {elts : List Expr} {kk : Nat} (hg : Gl X "enumerate") (hm : X.mg "enumerate" = none) (ha : XAs X T Z W own [e] (aCons fa aNil)) (hK : X.K = T.K := by rfl) (hs : starEach [e] X.env = [(false, eval e X.env)] := by rfl) :
    XI X T Z W own (.Tuple elts kk tpos) (.Call (.Name "enumerate" p) [e] [] pos) (iEnumA fa) := by
  have h1 := pi_enumG (tpos := tpos) (elts := elts) (kk := kk) (p := p) (pos := pos) hg hm ha hs
  rw [hK] at h1
  refine PI.imp h1 fun σ H R ⟨kp, F, ρ, g, c, q⟩ => ?_
  refine ⟨kp, F, ρ, g, c, ?_⟩
  have q' := q.bind
  unfold aCons
  cases hf : fa ρ g with
  | ok d g1 =>
    rw [hf] at q'
    cases hl : walkD d with
    | none => simp only [rQ, hl] at q'
    | some l =>
      simp only [rQ, hl] at q'
      intro vs F1 H1 c1 s1 r1
      obtain ⟨x, rfl, r⟩ := call1 r1
      obtain ⟨a, us, rfl, e1, k1, l1⟩ := sc_of (H := H1) r hl
      refine ⟨a, us, rfl, e1 _ c1.core.sub, q' _ F1 H1 c1 s1 ?_ (by simp [enumL, zipL, rngL]; rw [← k1.length]; exact l1)⟩
      have w := walk_enumG (K := T.K) (a := a) (xs := us)
      have hl : us.length = (enumL l).length := by simp [enumL, zipL, rngL, k1.length]
      rw [hl] at w
      refine ⟨_, _, w, fun H s => e1 _ s, fun i H1 x H2 d e s y => ?_⟩
      obtain ⟨p, u, v, rfl, np, ⟨o, o1, o2, rfl⟩, h1, h2⟩ := y
      obtain ⟨dx, dy, z1, z2, rfl⟩ := zip_get e
      obtain ⟨_, rfl⟩ := rng_get z1
      obtain ⟨v', k3, k4⟩ := k1.get z2
      have h2' : us[i]? = some v := h2
      rw [k3] at h2'; cases h2'
      cases h1
      obtain ⟨gr, rr⟩ := new_tup (T := T) (l := [.int (0 + (i : Int)), dy]) s np o1 o2 (by simp [LIM]) (.cons (by rw [Int.zero_add]; exact mk_int) (.cons k4 .nil))
      exact ⟨_, gr, rr⟩
  | ex e' g1 => rw [hf] at q'; exact q'
  | bad => rw [hf] at q'; exact q'.elim
end
end PP

set_option Elab.async false
set_option linter.all false
set_option maxRecDepth 100000
set_option maxHeartbeats 4000000
/-! An exception out of a list comprehension. -/
namespace PPX
open PySem PySem.Spec PyProof.Rows L2
theorem note_cg {e1 e2 : Env} (h : e1.frame = e2.frame) (x : Value) : noteFrame x e1 = noteFrame x e2 := by
  unfold noteFrame PySem.frameOf
  rw [h]
theorem pass_cg {α : Type} {e1 e2 : Env} (h : e1.frame = e2.frame) (n : String) (x : Value) : (PySem.passOn n x e1 : Sem α) = PySem.passOn n x e2 := by
  unfold PySem.passOn
  rw [h]
section
variable {M : Model} {A : Around} {E : Value → Shared → Prop} {s : Shared} {Z : Obj → Prop} {base : Heap} {env : Env} {outer l : List Env} {L e : Addr}
/-- noted elsewhere, or nowhere yet -/
theorem looks_any {fl : Value} {Q : Unit → Shared → Prop} (hZ : HandSPX.Steady Z) (hfr : A.frames = some (env :: outer)) (hf : env.frame = some L) (hkb : base.StaysIn s.heap) (hen : base.get? e = none) (hl : s.heap.FunFrames base (env :: outer)) (ht : HandSPX.TracedZ s.heap base e Z fl) (hfl : (fl == rawInt L) = false)
    (hQ : ∀ h', HandSPX.HeldZ base (env :: outer) e Z L h' → s.heap.UpToSlots h' → Q () { s with heap := h' }) : wpAny M A (noteFrame (.ref e) env) Q E s := by
  obtain ⟨oe, vs, T, oT, ts, he, hz, hd, h1, hnT, hTe, hT, hdT, h3⟩ := ht
  unfold noteFrame
  simp only [hf]
  refine wpAny_bind (wpAny_field he hd h1 ?_)
  rw [if_pos (show (Value.ref T != Value.none) = true from by simp)]
  refine wpAny_bind (wpAny_field hT hdT h3 ?_)
  rw [if_neg (by rw [hfl]; exact Bool.false_ne_true)]
  refine wpAny_bind (wpAny_setField hT hdT (Array.getElem?_eq_some_iff.mp h3).1 ?_)
  have other : ∀ b, b ≠ T → (s.heap.update T (Obj.mapFields (·.setIfInBounds 3 Value.none))).get? b = s.heap.get? b := fun b hb => Heap.get?_update_other _ _ (Ne.symm hb)
  have noRecord : ∀ b o, s.heap.get? b = some o → (∀ vs, o.data ≠ .fields vs) → b ≠ T := fun b o hb hnf q => by
    rw [q, hT] at hb; injection hb with hb; subst hb; exact hnf ts hdT
  refine HandSPX.wpAny_entryZ hZ hfr (hl.of_keeps fun b o hb hnf => ⟨o, (other b (noRecord b o hb hnf)).trans hb, rfl⟩) hf ((other e (Ne.symm hTe)).trans he)
    (fun b o hbo => (other b fun q => by rw [q, hnT] at hbo; cases hbo).trans (hkb b o hbo)) hen hd (Array.getElem?_eq_some_iff.mp h1).1 hz fun h' hN => ?_
  obtain ⟨x1, x2, x3, x4⟩ := hN
  exact hQ h' ⟨x1, hen, x2, x3⟩ fun b o hb hnf => x4 b o ((other b (noRecord b o hb hnf)).trans hb) hnf
theorem sky_note {B : Heap} {C a : Addr} {Q : Unit → Shared → Prop} (hZ : HandSPX.Steady Z) (hfr : A.frames = some (env :: outer)) (hf : env.frame = some L) (hC : C ≠ L) (x : Sky B (env :: outer) a Z C s.heap)
    (hQ : ∀ h', HandSPX.HeldZ B (env :: outer) a Z L h' → s.heap.UpToSlots h' → Q () { s with heap := h' }) : wpAny M A (noteFrame (.ref a) env) Q E s := by
  rcases x with ⟨hB, hn, hl, oe, vs, he, hz, hd, h1⟩ | fl | hh
  · exact HandSPX.look_newZ hZ hfr hl hf he hB hn hd h1 hz hQ
  · exact HandSPX.looks_onZ hZ hfr hf fl hQ
  · obtain ⟨h1, h2, h3, h4⟩ := hh
    refine looks_any hZ hfr hf h1 h2 h3 h4 ?_ hQ
    have : ¬ ((C : Int) = (L : Int)) := fun q => hC (by exact_mod_cast q)
    simp [rawInt, this]
/-- behind a comprehension's block -/
def postE (M : Model) (A : Around) (E : Value → Shared → Prop) (Q : Value → Shared → Prop) (acc : Value) (cenv : Env) (r : Result) (s' : Shared) : Prop :=
  match r with
  | .ok _ => ∃ m, s'.heap.Ns cenv.locals m ∧ ∀ h', Heap.SameBut cenv.locals s'.heap h' → Q acc { s' with heap := h' }
  | .error x => ∃ m, s'.heap.Ns cenv.locals m ∧ ∀ h', Heap.SameBut cenv.locals s'.heap h' → wpAny M A (PySem.passOn "comprehension.variables-let-go" x cenv : Sem Value) (fun _ _ => False) E { s' with heap := h' }
theorem compE {e : Expr} {scope : Scope} {pos : Pos} {newAcc first : Sem Value} {g : Comprehension} {gs : List Comprehension} {cl : List (Str × Addr)} {Q : Value → Shared → Prop}
    (hcl : clausesOf e = g :: gs) (hs : ∀ x, foldedSetIterable g.iter env x = pure x) (hclos : closureFor scope env = pure cl)
    (hkind : scope.kind = .function) (hnames : ∀ x ∈ scope.names, x.2 = .local → scope.names.lookup x.1 = some .local)
    (h : wpAny M A first (fun x s₁ => wpAny M A (pyIter x) (fun it s₂ => wpAny M A newAcc (fun acc s₃ =>
      wpAny M A (newFunctionEnv scope env.globals cl [] env.qual none .none (some env)) (fun cenv s₄ =>
        codeAny M A (.compStart e 0 it acc { cenv with scope := relabel scope env }) (postE M A E Q acc { cenv with scope := relabel scope env }) s₄) E s₃) E s₂) E s₁) E s) :
    wpAny M A (comprehension e scope env pos newAcc false first none) Q E s := by
  unfold comprehension
  rw [hclos, hcl]
  refine wpAny_bind (wpAny_mono h (fun x s₁ h₁ => wpAny_bind (wpAny_standAt (wpAny_bind (wpAny_of_eq (hs x) (wpAny_bind (wpAny_holding (wpAny_mono h₁ (fun it s₂ h₂ =>
    wpAny_standIf (wpAny_bind (wpAny_mono h₂ (fun acc s₃ h₃ => wpAny_bind (wpAny_pure (wpAny_bind (wpAny_mono h₃ (fun cenv s₄ h₄ => ?_) fun _ _ h' => h')))) fun _ _ h' => h')))
      fun _ _ h' => h'))))))) fun _ _ h' => h')
  dsimp only
  have hv : ∀ x ∈ (scope.names.filter fun x => (x.2 == .local || x.2 == .cell) && x.1 != (".0" : Str)).reverse, x.2 = .local →
      Env.kindOf { cenv with scope := relabel scope env } x.1 = some .local := fun x hx hl => lookup_relabel_local (hnames x (List.mem_filter.mp (List.mem_reverse.mp hx)).1 hl)
  refine wpAny_holding (wpAny_bind (wpAny_attempt (wpAny_holding (wpAny_run (codeAny_mono h₄ fun r s' hr => ?_)))))
  cases r with
  | ok f =>
    obtain ⟨m, hn, hr⟩ := hr
    exact wpAny_bind (wpAny_holding (wpAny_comp_letGo (cenv := { cenv with scope := relabel scope env }) hkind _ s' m hv hn fun h' m' _ hs' => wpAny_pure (hr h' hs')))
  | error x =>
    obtain ⟨m, hn, hr⟩ := hr
    exact wpAny_bind (wpAny_holding (wpAny_comp_letGo (cenv := { cenv with scope := relabel scope env }) hkind _ s' m hv hn fun h' m' _ hs' => wpAny_mono (hr h' hs') (fun _ _ f => f.elim) fun _ _ y => y))
end
theorem funFrames_to {h1 h2 B B' : Heap} (k : ∀ b o, B.get? b = none → h1.get? b = some o → h2.get? b = some o) (hB : ∀ b, B.get? b = none → B'.get? b = none) : ∀ {l : List Env}, h1.FunFrames B l → h2.FunFrames B' l
  | [], _ => trivial
  | env :: l, h => by
    obtain ⟨hk, ⟨L, o, hf, hn, ho, hd⟩, hr⟩ := h
    exact ⟨hk, ⟨L, o, hf, hB _ hn, k _ _ hn ho, hd⟩, funFrames_to k hB hr⟩
abbrev blkE (X : Cx) (s : Shared) (H : Hp) (scope : Scope) (cenv : Env) (fp : List Addr) (xe : Value → Shared → Prop) : Cx := { X.blk s H scope cenv fp with xe := xe }
section
variable {X : Cx} {W : WX} {pins : List (Addr × Obj)} {σ : L2.St} {H3 : Hp} {s3 : Shared} {scope : Scope} {ce : Env} {fp : List Addr} {xe' : Value → Shared → Prop}
theorem pass {Q : Value → Shared → Prop} {acc : Value} (hs : X.stack = X.env :: X.outer) (hf : X.env.frame = some X.env.locals) (tk : Takes X W) (I3 : Inv X pins σ H3 s3) (hfp : ∀ b ∈ fp, FpOk X pins H3 b) (cf : ce.frame = X.env.frame) (cL : ce.locals = s3.heap.objs.size) {u : Value} {s' : Shared}
    (x : XE (blkE X s3 H3 scope ce fp xe') (fun cls d _ H => W cls d σ H) u s') : notedBy (model X.prog X.w) X.A ce (fun e s' => postE (model X.prog X.w) X.A X.xe Q acc ce (.error e) s') u s' := by
  obtain ⟨a, B, sI, pins', σb, H', cls, d, rfl, I, nb, up, sky, na, os, ag, w⟩ := x
  have hfr : X.A.frames = some (X.env :: X.outer) := by rw [I3.ok.frames, hs]
  unfold notedBy
  rw [note_cg cf]
  have hCL : ce.locals ≠ X.env.locals := by rw [cL]; exact Nat.ne_of_gt I3.lt
  have sky' : Sky B (X.env :: X.outer) a (Zc cls d) ce.locals s'.heap := by rw [← hs]; exact sky
  refine sky_note Zc.steady hfr hf hCL sky' fun h1 hh up1 => ?_
  obtain ⟨m, hn, _⟩ := I.loc
  have hn : sI.heap.Ns ce.locals m := hn
  have hCn : ce.locals ∉ frs X.stack := fun hb => by
    obtain ⟨_, o, ho, _⟩ := I3.stack.mem hb
    have := Heap.lt_size ho
    rw [cL] at this
    exact Nat.lt_irrefl _ this
  obtain ⟨oC, _, _, hoC, _⟩ := id hn
  have hBC : B.get? ce.locals = some oC := nb _ _ hoC hCn
  have n1 : h1.Ns ce.locals m := up1.ns (up.ns hn)
  refine ⟨m, n1, fun h2 sb => ?_⟩
  rw [pass_cg cf]
  obtain ⟨b1, b2, b3, oe, vs, T, oT, ts, he, hz, hd, hv1, hnT, hTe, hT, hdT, h3⟩ := hh
  have other : ∀ b, b ≠ ce.locals → h2.get? b = h1.get? b := fun b hb => sb.2 b hb
  have haC : a ≠ ce.locals := fun q => by rw [q, hBC] at b2; cases b2
  have hTC : T ≠ ce.locals := fun q => by rw [q, hBC] at hnT; cases hnT
  have hB' : ∀ b, B.get? b = none → (PySem.W.hideAll B [ce.locals]).get? b = none := fun b hb => by
    cases q : (PySem.W.hideAll B [ce.locals]).get? b with
    | none => rfl
    | some o => have z := PySem.W.of_hideAll _ q; rw [hb] at z; cases z
  have neC : ∀ {h : Heap} {b : Addr} {o : Obj}, (PySem.W.hideAll h [ce.locals]).get? b = some o → b ≠ ce.locals := fun {h b o} e q => by
    rw [q, PySem.W.hideAll_none _ (List.mem_singleton.mpr rfl)] at e; cases e
  have hh2 : HandSPX.HeldZ (PySem.W.hideAll B [ce.locals]) (X.env :: X.outer) a (Zc cls d) X.env.locals h2 :=
    ⟨fun b o e => (other b (neC e)).trans (b1 b o (PySem.W.of_hideAll _ e)), hB' _ b2, funFrames_to (fun b o hb e => (other b fun q => by rw [q, hBC] at hb; cases hb).trans e) hB' b3,
      oe, vs, T, oT, ts, (other a haC).trans he, hz, hd, hv1, hB' _ hnT, hTe, (other T hTC).trans hT, hdT, h3⟩
  unfold PySem.passOn
  refine wpAny_bind (wpAny_field ((other a haC).trans he) hd hv1 ?_)
  rw [if_neg (show ¬ ((Value.ref T == Value.none) = true) from Bool.false_ne_true), hf]
  refine wpAny_bind (HandSPX.setFlight_onZ (L := X.env.locals) hh2 fun h4 hh4 up4 => wpAny_throw ?_)
  refine tk _ _ ⟨a, PySem.W.hideAll B [ce.locals], { sI with heap := PySem.W.hideAll sI.heap [ce.locals] }, pins, σ, H', cls, d, rfl, ?_, fun b o e hb => ?_, fun b o e hn => ?_, ?_, na, os, ag, w⟩
  · have ub : Un (frs X.stack) fp H3 H' s3.heap sI.heap := I.base
    have lt : ∀ {b : Addr} {o : Obj}, s3.heap.get? b = some o → b ≠ ce.locals := fun {b o} e q => by
      have := Heap.lt_size e
      rw [q, cL] at this; exact Nat.lt_irrefl _ this
    have fr : H' ce.locals = none := I.free
    refine I3.call' (ch := fp) (s' := { sI with heap := PySem.W.hideAll sI.heap [ce.locals] }) I.os ⟨fun b o e n h1 h2 => PySem.W.hideAll_get _ (ub.keep b o e n h1 h2) (by simpa using lt e), fun b o e n h1 h2 => ?_, ub.free, fun b o e h1 => ?_, ub.tups, ub.frzs, ub.tbls⟩
      (fun b o e => (I.hok b o e).stay (fun c u hc r => PySem.W.hideAll_get _ r (by
        simp only [List.mem_singleton]
        intro q
        rcases hc with hc | hc
        · rw [← hc, q, fr] at e; cases e
        · rw [q, fr] at hc; cases hc)) (fun _ q => q) fun _ _ q => q) I.bare fun b hb => ⟨(hfp b hb).2.2.2.1, (hfp b hb).2.1, (hfp b hb).2.2.2.2.1, (hfp b hb).2.2.2.2.2⟩
    · obtain ⟨sl, q⟩ := ub.slot b o e n h1 h2
      exact ⟨sl, PySem.W.hideAll_get _ q (by simpa using lt e)⟩
    · obtain ⟨o', q⟩ := ub.there b o e h1
      exact ⟨o', PySem.W.hideAll_get _ q (by simpa using lt e)⟩
  · exact PySem.W.hideAll_get _ (nb b o (PySem.W.of_hideAll _ e) hb) (by simpa using neC e)
  · obtain ⟨sl, e1⟩ := (up.trans up1) b o (PySem.W.of_hideAll _ e) hn
    obtain ⟨sl2, e2⟩ := up4 b { o with slots := sl } ((other b (neC e)).trans e1) hn
    exact ⟨sl2, e2⟩
  · rw [hs]; exact .inr (.inr hh4)
end
theorem Inv.xe {X : Cx} {pins : List (Addr × Obj)} {σ : L2.St} {H : Hp} {s : Shared} (I : Inv X pins σ H s) (xe' : Value → Shared → Prop) : Inv { X with xe := xe' } pins σ H s := by
  obtain ⟨⟨a1, a2, a3, a4, a5, a6, a7, a8, a9, a10, a11, a12, a13, a14, a15, a16, a17, a18⟩, b2, b3, b4, b5, b6, b7, b8, b9, b10, b11⟩ := I
  exact ⟨⟨a1, a2, a3, a4, a5, a6, a7, a8, a9, a10, a11, a12, a13, a14, a15, a16, a17, a18⟩, b2, b3, b4, b5, b6, b7, b8, b9, b10, b11⟩
section
variable {X : Cx} {W : WX}
theorem lc_coreE {pins : List (Addr × Obj)} {s : Shared} {σ : L2.St} {H : Hp} {Q : VK} {elt tg iter : Expr} {ifs : List Expr} {scope : Scope} {own : List (Str × Nat)} {pos pos' : Pos} {wi : L2.TI} {g : L2.TG} {tt : L2.TT} {te : TE} {Qf : Value → Shared → Prop}
    (hstk : X.stack = X.env :: X.outer) (hfr : X.env.frame = some X.env.locals) (tk : Takes X W)
    (hc : X.calm = true) (hN : X.N.Nodup) (I : Inv X pins σ H s) (hi : PI X tg iter wi) (ok : BlkOk X.N X.env.scope scope own)
    (hg : ∀ (s : Shared) (H : Hp) (C : Addr) (cl : List (Str × Addr)) (fp : List Addr) (xe : Value → Shared → Prop), PG (blkE X s H scope (compEnvC scope cl C X.env) fp xe) tg g)
    (ht : ∀ (s : Shared) (H : Hp) (C : Addr) (cl : List (Str × Addr)) (fp : List Addr) (xe : Value → Shared → Prop), Takes (blkE X s H scope (compEnvC scope cl C X.env) fp xe) (fun cls d _ H => W cls d σ H) → PTs (blkE X s H scope (compEnvC scope cl C X.env) fp xe) ifs tt)
    (he : ∀ (s : Shared) (H : Hp) (C : Addr) (cl : List (Str × Addr)) (fp : List Addr) (xe : Value → Shared → Prop), Takes (blkE X s H scope (compEnvC scope cl C X.env) fp xe) (fun cls d _ H => W cls d σ H) → PE (blkE X s H scope (compEnvC scope cl C X.env) fp xe) elt te) (hs : ∀ x, foldedSetIterable iter X.env x = pure x)
    (h : tLc wi g tt te (own.map (·.2)) σ H Q)
    (hRR : ∀ D C s' m H', Inv X pins σ H' s' → Q (.ref D) H' → s'.heap.Ns C m → FpOk X pins H' C → ∀ h', Heap.SameBut C s'.heap h' → Qf (.ref D) { s' with heap := h' }) :
    wpAny (model X.prog X.w) X.A (comprehension (.ListComp elt [⟨tg, iter, ifs, 0⟩] scope pos) scope X.env pos' (newList []) false (eval iter X.env) none) Qf X.xe s := by
  have hfree : ∀ y ∈ scope.names, y.2 = .free → ∃ c, X.env.cells.lookup y.1 = some c := fun y hy e => by
    rcases ok.free y hy e with k | k
    · exact I.ok.has _ (.inl k)
    · exact I.ok.has _ (.inr k)
  refine compE rfl hs (closure_ok hfree) ok.kind (fun y hy e => by rw [ok.uniq y hy, e])
    (thn (hi.run pins s σ H _ I h) fun xv s1 hx => thn hx fun itv s2 h2 => ?_)
  obtain ⟨it, fp, tn, J, H2, e, I2, T, st2, f2, q⟩ := h2
  subst e
  refine wpAny_newObj_type (newEnv_comp ?_) (by show 0 ≤ sizeLine; decide)
  generalize hD : s2.heap.objs.size = D
  have hDn : H2 D = none := I2.hok.fresh (Nat.le_of_eq hD)
  obtain ⟨W', ⟨m0, w0⟩, turn⟩ := q D hDn
  generalize hs3 : ({ s2 with heap := s2.heap.push { cls := .type "list", data := .seq ([] : List Value).toArray } } : Shared) = s3
  have I3 : Inv X pins σ (upd H2 D (.lst [])) s3 := by
    rw [← hs3]
    refine I2.laid (t' := s2.toks) (fun b o e => Heap.get?_push_of_some _ e) (Nat.le_of_eq hD) ⟨Nat.zero_le _, [], 0, .nil, ?_⟩
    rw [← hD]
    exact Heap.get?_push_size _ rfl
  have h3 : s3.heap = s2.heap.push { cls := .type "list", data := .seq ([] : List Value).toArray } := by rw [← hs3]
  have sz : ∀ b ∈ fp, b < s2.heap.objs.size := fun b hb => by
    obtain ⟨o, e, _⟩ := T.obj _ _ st2 b hb
    exact Heap.lt_size e
  have f3 : ∀ b ∈ fp, FpOk X pins (upd H2 D (.lst [])) b ∧ b < s3.heap.objs.size := fun b hb => by
    have hlt := sz b hb
    refine ⟨⟨?_, (f2 b hb).2⟩, by rw [h3, Heap.size_push]; exact Nat.lt_succ_of_lt hlt⟩
    rw [upd_ne (by rw [← hD]; exact Nat.ne_of_lt hlt)]
    exact (f2 b hb).1
  have st3 : tn 0 s3.heap := T.keep _ _ _ st2 fun b _ o e => by rw [h3]; exact Heap.get?_push_of_some _ e
  have I4 := block_start I3 ok hN f3
  have pg := hg s3 (upd H2 D (.lst [])) s3.heap.objs.size (cellsFrom (s3.heap.objs.size + 1) scope.names (cloFrom X.env.cells scope.names [])) fp
  have pt := ht s3 (upd H2 D (.lst [])) s3.heap.objs.size (cellsFrom (s3.heap.objs.size + 1) scope.names (cloFrom X.env.cells scope.names [])) fp
  have pe := he s3 (upd H2 D (.lst [])) s3.heap.objs.size (cellsFrom (s3.heap.objs.size + 1) scope.names (cloFrom X.env.cells scope.names [])) fp
  show codeAny _ _ (.compStart (.ListComp elt [⟨tg, iter, ifs, 0⟩] scope pos) 0 (.ref it) (.ref D) (compEnvC scope (cellsFrom (s3.heap.objs.size + 1) scope.names (cloFrom X.env.cells scope.names [])) s3.heap.objs.size X.env)) (postE (model X.prog X.w) X.A X.xe Qf (.ref D) (compEnvC scope (cellsFrom (s3.heap.objs.size + 1) scope.names (cloFrom X.env.cells scope.names [])) s3.heap.objs.size X.env)) { s3 with heap := pushCells (s3.heap.push { cls := .type "dict", data := .dict #[] }) scope.names }
  have nfp : ∀ b ∈ fp, (upd H2 D (.lst [])) b = none := fun b hb => (f3 b hb).1.1
  have cF : (compEnvC scope (cellsFrom (s3.heap.objs.size + 1) scope.names (cloFrom X.env.cells scope.names [])) s3.heap.objs.size X.env).frame = X.env.frame := rfl
  generalize hce : compEnvC scope (cellsFrom (s3.heap.objs.size + 1) scope.names (cloFrom X.env.cells scope.names [])) s3.heap.objs.size X.env = ce at I4 pg pt pe cF ⊢
  have cL : ce.locals = s3.heap.objs.size := by subst hce; rfl
  generalize hH3 : upd H2 D (.lst []) = H3 at I3 I4 pg pt pe w0 nfp f3
  generalize hs4 : ({ s3 with heap := pushCells (s3.heap.push { cls := .type "dict", data := .dict #[] }) scope.names } : Shared) = s4 at I4 ⊢
  generalize hxe : (notedBy (model X.prog X.w) X.A ce fun e s' => postE (model X.prog X.w) X.A X.xe Qf (.ref D) ce (.error e) s') = xe
  have tkE : Takes (blkE X s3 H3 scope ce fp xe) (fun cls d _ H => W cls d σ H) := fun u s' x => by
    have := pass (Q := Qf) (acc := .ref D) hstk hfr tk I3 (fun b hb => (f3 b hb).1) cF cL x
    rw [hxe] at this
    exact this
  have pg := pg xe
  have pt := pt xe tkE
  have pe := pe xe tkE
  have I4 : Inv (blkE X s3 H3 scope ce fp xe) [] (wipe σ (own.map (·.2))) H3 s4 := Inv.xe I4 xe
  have st4 : tn 0 s4.heap := T.keep _ _ _ st3 fun b _ o e => by rw [← hs4]; exact pushCells_keeps _ _ _ _ (Heap.get?_push_of_some _ e)
  have stat : ∀ {σ' : L2.St} {H' : Hp} {s' : Shared}, Inv (blkE X s3 H3 scope ce fp xe) [] σ' H' s' → (∀ b ∈ fp, H' b = none) → ∀ b ∈ fp, FpOk (blkE X s3 H3 scope ce fp xe) [] H' b := fun {σ' H' s'} I' hn b hb =>
    ⟨hn b hb, (I'.ok.exf b hb).1, I'.ok.exfs b hb, .inl hb, fun x c e => (I'.ok.exf b hb).2 x c e, fun p hp => absurd (show p ∈ ([] : List (Addr × Obj)) ++ [] from hp) (by simp)⟩
  have loop : codeAny (model X.prog X.w) X.A (.compLoop (.ListComp elt [⟨tg, iter, ifs, 0⟩] scope pos) 0 (.ref it) (.ref D) ce) (postE (model X.prog X.w) X.A X.xe Qf (.ref D) ce) s4 := by
    refine compLoop_any (fun n s' => ∃ i H', Inv (blkE X s3 H3 scope ce fp xe) [] (wipe σ (own.map (·.2))) H' s' ∧ tn i s'.heap ∧ (∀ b ∈ fp, H' b = none) ∧ W' i n H') ?_ m0 ⟨0, H3, I4, st4, nfp, w0⟩
    rintro n s5 ⟨i, H5, I5, st5, n5, w5⟩
    rw [hxe]
    rcases turn i n H5 w5 with ⟨stop, qq⟩ | ⟨go, Nx, hNx, step⟩
    · have td := T.done (blkE X s3 H3 scope ce fp xe) rfl rfl rfl hc i [] s5 _ H5 (fun _ _ => False) I5 (stat I5 n5) st5 stop
      refine thnF td fun r s6 ⟨hr, I6⟩ => ?_
      subst hr
      have I7 : Inv X pins σ H5 s6 := I3.call' (ch := fp) I6.os I6.base I6.hok I6.bare fun b hb => ⟨(f3 b hb).1.2.2.2.1, (f3 b hb).1.2.1, (f3 b hb).1.2.2.2.2.1, (f3 b hb).1.2.2.2.2.2⟩
      have nC : H5 s3.heap.objs.size = none := by
        have z : H5 ce.locals = none := I6.free
        rw [cL] at z
        exact z
      obtain ⟨m, hn, _⟩ := I6.loc
      have hn : s6.heap.Ns ce.locals m := hn
      refine ⟨m, hn, ?_⟩
      rw [cL] at hn ⊢
      exact hRR D s3.heap.objs.size s6 m H5 I7 qq hn (I3.fpOk (Nat.le_refl _) nC)
    · have ti := T.item (blkE X s3 H3 scope ce fp xe) rfl rfl rfl hc i [] s5 _ H5 (fun _ _ => False) I5 (stat I5 n5) st5 go
      refine thnF ti fun r s6 ⟨u, hr, h6⟩ => ?_
      subst hr
      refine thnF h6 fun _ s7 ⟨x, H7, I7, r7, y7, st7, n7⟩ => ?_
      have I7' := I7.pinned (stat I7 n7) (T.obj _ _ st7)
      refine thn (pg.run _ s7 _ H7 x u _ I7' r7 (step x H7 y7)) fun _ s8 ⟨σ8, H8, I8, hw8, q8⟩ => ?_
      refine thn (pt.run _ s8 σ8 H8 _ I8 q8) fun b s9 ⟨H9, I9, q9⟩ => ?_
      have fin : ∀ {s' : Shared} {H' : Hp}, Inv (blkE X s3 H3 scope ce fp xe) ([] ++ pinsAt fp s7.heap) σ8 H' s' → Nx H' → ∃ m, m < n ∧ ∃ i H', Inv (blkE X s3 H3 scope ce fp xe) [] (wipe σ (own.map (·.2))) H' s' ∧ tn i s'.heap ∧ (∀ b ∈ fp, H' b = none) ∧ W' i m H' := fun {s' H'} I' nx => by
        obtain ⟨m', hm, w'⟩ := hNx H' nx
        have pin' : ∀ b ∈ fp, ∀ o, s7.heap.get? b = some o → s'.heap.get? b = some o ∧ H' b = none := fun b hb o e =>
          let z := I'.pin (b, o) (List.mem_append_right _ (List.mem_append_right _ (mem_pinsAt hb e)))
          ⟨z.1, z.2.1⟩
        have hl : (wipe σ (own.map (·.2))).length = σ8.length := by rw [← hw8, wipe_length]
        refine ⟨m', hm, i + 1, H', (I'.unpinned (pins := [])).weak hl (fun j v e => ?_), T.keep _ _ _ st7 fun b hb o e => (pin' b hb o e).1, fun b hb => ?_, w'⟩
        · rw [← hw8] at e
          exact (wipe_some e).1
        · obtain ⟨o, e, _⟩ := T.obj _ _ st7 b hb
          exact (pin' b hb o e).2
      cases b with
      | false =>
        simp only [Bool.false_eq_true, if_false] at q9 ⊢
        exact fin I9 q9
      | true =>
        simp only [if_true] at q9 ⊢
        refine thn (pe.run _ s9 σ8 H9 _ I9 q9) fun z s10 ⟨yv, H10, I10, r10, acc, hD10, hz10, nx⟩ => ?_
        exact app_ok (X := blkE X s3 H3 scope ce fp xe) I10 hD10 hz10 r10 fun s11 I11 => fin I11 nx
  exact codeAny_compStart_list loop (T.self X.A 0 _ _ _ st4 loop)
theorem pe_lcE {elt tg iter : Expr} {ifs : List Expr} {scope : Scope} {own : List (Str × Nat)} {pos : Pos} {wi : L2.TI} {g : L2.TG} {tt : L2.St → L2.TT} {te : L2.St → TE} (hstk : X.stack = X.env :: X.outer) (hfr : X.env.frame = some X.env.locals) (tk : Takes X W) (hc : X.calm = true) (hN : X.N.Nodup) (hi : PI X tg iter wi) (ok : BlkOk X.N X.env.scope scope own)
    (hg : ∀ (s : Shared) (H : Hp) (C : Addr) (cl : List (Str × Addr)) (fp : List Addr) (xe : Value → Shared → Prop), PG (blkE X s H scope (compEnvC scope cl C X.env) fp xe) tg g)
    (ht : ∀ (σ : L2.St) (s : Shared) (H : Hp) (C : Addr) (cl : List (Str × Addr)) (fp : List Addr) (xe : Value → Shared → Prop), Takes (blkE X s H scope (compEnvC scope cl C X.env) fp xe) (fun cls d _ H => W cls d σ H) → PTs (blkE X s H scope (compEnvC scope cl C X.env) fp xe) ifs (tt σ))
    (he : ∀ (σ : L2.St) (s : Shared) (H : Hp) (C : Addr) (cl : List (Str × Addr)) (fp : List Addr) (xe : Value → Shared → Prop), Takes (blkE X s H scope (compEnvC scope cl C X.env) fp xe) (fun cls d _ H => W cls d σ H) → PE (blkE X s H scope (compEnvC scope cl C X.env) fp xe) elt (te σ)) (hs : ∀ x, foldedSetIterable iter X.env x = pure x := by intro _; rfl) :
    PE X (.ListComp elt [⟨tg, iter, ifs, 0⟩] scope pos) (fun σ H Q => tLc wi g (tt σ) (te σ) (own.map (·.2)) σ H Q) := by
  refine ⟨fun pins s σ H Q I h => ?_⟩
  rw [eval_ListComp]
  refine lc_coreE hstk hfr tk hc hN I hi ok hg (ht σ) (he σ) hs h fun D C s' m H' I' q hn f h'' sb => ?_
  obtain ⟨f0, f1, f2, f3, f4, f5⟩ := f
  exact ⟨.ref D, H', I'.turned (t' := s'.toks) (fun b o hb e => (sb.2 b hb).trans e) f0 f1 f3 f4 f5, rfl, q⟩
end
end PPX

set_option Elab.async false
set_option linter.all false
set_option maxRecDepth 100000
set_option maxHeartbeats 4000000
namespace PP
open PySem L2 PPX
open PyProof.Rows (envOfC)
theorem rQ.blk {α : Type} {T : Tb} {Z : Act} {W W' : WX} {kp kp' F F' : Hp} {σ σ' : St} {ρ ρ' : Env} {post post' : α → G → Prop} {x : R α} (h : rQ T Z W kp F σ ρ post x) (he : ∀ e g, exQ T Z W kp F ρ e g → exQ T Z W' kp' F' ρ' e g) (hp : ∀ a g, post a g → post' a g) : rQ T Z W' kp' F' σ' ρ' post' x := by
  cases x with
  | ok a g => exact hp _ _ h
  | ex e g => exact he _ _ h
  | bad => exact h
/-- an exception within, told by the slots outside -/
abbrev WW (W : WX) (σ : St) : WX := fun cls d _ H => W cls d σ H
section
variable {X : Cx} {T : Tb} {Z : Act} {W : WX} {tg iter elt e : Expr} {ifs : List Expr} {fi : XA} {ft : XT} {fe : PP.X} {pos : Pos}
theorem lc_redE {gr : L2.TG} {gt : PP.TG} {is vs : List Nat} (gOk : ∀ F H x d σ ρ ρ' Q, Sub F H → Rep T F x d → gt d ρ = some ρ' → (∀ σ', Ups T F is σ ρ σ' ρ' → Q σ' H) → gr x σ H Q)
    (h2 : ∀ i ∈ is, i ∈ vs) {σ : St} {H : Hp} {Q : VK} (w : tPF T Z W [] (xLcE vs fi gt ft fe) σ H Q) : tLc (tPI T Z W [] fi) gr (tPT T Z (WW W σ) [] ft) (tP T Z (WW W σ) [] fe) vs σ H Q := by
  obtain ⟨kp, F, ρ, g, c, q⟩ := w
  refine ⟨kp, F, ρ, g, c, q.bind.imp fun ds g1 q1 J F1 H1 c1 s1 it hlen => ?_⟩
  intro D nD
  obtain ⟨GG, Y, w, hG, hY⟩ := it.up (.refl F1)
  have z0 := c1.core.atNone nD
  have zg := c1.core.ne_gen nD
  have zk := c1.core.kph.none nD
  have h1 : ∀ i ∈ ([] : List Nat), i ∉ vs := fun i hi => by cases hi
  have q1' : rQ T Z W kp F1 σ ρ (fun ys g' => pF T Z [] kp F1 σ ρ Q (.lst ys) g') (lcLE gt ft fe (PP.wipe vs ρ) ds g1) := (rQ.bind q1).up s1 fun _ _ z => pF.up s1 _ _ z
  let Pv : Nat → Hp → Prop := fun i H => ∃ F2 g2 us zs, Rel T Z [] (upd kp D (.lst us)) F2 H (PP.wipe vs σ) (PP.wipe vs ρ) g2 ∧ Sub F1 F2 ∧ RepL T F2 us zs ∧ us.length ≤ i ∧ rQ T Z W kp F2 σ ρ (fun rs g' => pF T Z [] kp F2 σ ρ Q (.lst (zs ++ rs)) g') (lcLE gt ft fe (PP.wipe vs ρ) (ds.drop i) g2)
  refine lc_it w Pv ⟨F1, g1, [], [], (c1.wipe h1).keep nD, .refl _, .nil, Nat.le_refl _, by simpa using q1'⟩ (fun i H hi ⟨F2, g2, us, zs, c2, s2, _⟩ => hG H (s2.trans c2.core.sub)) (fun i x H H' hi ⟨F2, g2, us, zs, c2, s2, r2, hl, q2⟩ y => ?_) (fun H ⟨F2, g2, us, zs, c2, s2, r2, hl, q2⟩ => ?_)
  · have hd : ds[i]? = some ds[i] := by simp [hi]
    obtain ⟨F3, gr3, rx⟩ := hY i H x H' _ F2 hd s2 c2.core.sub y
    have c3 := c2.grow gr3
    rw [drop_cons hd] at q2
    simp only [lcLE] at q2
    cases hgt : gt ds[i] (PP.wipe vs ρ) with
    | none => rw [hgt] at q2; exact q2.elim
    | some ρ1 =>
    rw [hgt] at q2
    simp only at q2
    rw [wipe_eq]
    refine gOk F3 H' x ds[i] _ _ ρ1 _ c3.core.sub rx hgt fun σ2 u2 => ?_
    have uw := u2.wipe h2
    rw [wipe_wipe, wipe_wipe] at uw
    refine ⟨by rw [wipe_eq]; exact uw.1, ?_⟩
    have c4 := c3.ups u2 fun i hi h => by cases h
    have exc : ∀ (Fa Fb : Hp), Sub F1 Fb → Sub Fa Fb → ∀ e g', exQ T Z W kp Fa ρ e g' → exQ T Z (WW W σ) (upd kp D (.lst us)) Fb ρ1 e g' := fun Fa Fb sa sb e g' q cls dd σ' F' H' cc s x =>
      q cls dd σ F' H' ⟨cc.core.kpw ((Sub.refl kp).upd zk), c1.len, (fun i hi => by cases hi), fun i d hi e => by
        obtain ⟨v, k1, k2⟩ := c1.shr i d hi e
        exact ⟨v, k1, Rep.mono (sa.trans s) _ _ k2⟩⟩ (sb.trans s) x
    refine ⟨_, F3, ρ1, g2, c4, ?_⟩
    have back : ∀ {F' H' : Hp} {g' : G} {kp' : Hp}, Rel T Z [] kp' F' H' σ2 ρ1 g' → Rel T Z [] kp' F' H' (PP.wipe vs σ) (PP.wipe vs ρ) g' := fun {F' H' g' kp'} cc => by
      have := cc.wipe h1
      rw [uw.1, uw.2] at this; exact this
    refine rQ.blk (rQ.bind q2) (exc F2 F3 (s2.trans gr3.ff) gr3.ff) fun b g3 q4 F4 H4 c5 s5 => ?_
    cases b with
    | false =>
      rw [if_neg Bool.false_ne_true]
      exact ⟨F4, g3, us, zs, back c5, (s2.trans gr3.ff).trans s5, RepL.mono (gr3.ff.trans s5) _ _ r2, Nat.le_succ_of_le hl, rQ.up (gr3.ff.trans s5) q4 fun _ _ z => pF.up (gr3.ff.trans s5) _ _ z⟩
    | true =>
      rw [if_pos rfl]
      refine ⟨_, F4, ρ1, g3, c5, rQ.blk (rQ.bind q4) (exc F2 F4 ((s2.trans gr3.ff).trans s5) (gr3.ff.trans s5)) fun yv g4 q5 v F5 H5 c6 s6 r6 => ?_⟩
      refine ⟨us, c6.core.kph D _ upd_same, by rw [← LIM_eq]; omega, F5, g4, us ++ [v], zs ++ [yv], (back c6).kset z0, ((s2.trans gr3.ff).trans s5).trans s6, ?_, by simp; omega, ?_⟩
      · exact (RepL.mono ((gr3.ff.trans s5).trans s6) _ _ r2).append (.cons r6 .nil)
      · refine rQ.up ((gr3.ff.trans s5).trans s6) (rQ.bind q5) fun ys g' z => ?_
        have z' : pF T Z [] kp F2 σ ρ Q (.lst (zs ++ yv :: ys)) g' := z
        have := pF.up ((gr3.ff.trans s5).trans s6) _ _ z'
        rw [List.append_assoc]
        exact this
  · have e0 : ds.drop ds.length = [] := by simp
    rw [e0] at q2
    have q3 : pF T Z [] kp F2 σ ρ Q (.lst (zs ++ [])) g2 := q2
    rw [List.append_nil] at q3
    have cu := c1.unwipe c2 s2 h1
    have ck : Rel T Z [] kp F2 H σ ρ g2 := cu.kpw (fun a o e => by rw [upd_ne (fun z => by rw [z, zk] at e; cases e)]; exact e)
    exact q3 D F2 H ck (.refl _) ⟨c2.core.kpf D _ upd_same, zk, z0, zg, _, c2.core.kph D _ upd_same, us, rfl, by omega, r2⟩ fun j hj e => by cases hj
theorem f_lcE {scope : Scope} {ownN : List (Str × Nat)} {gr : L2.TG} {gt : PP.TG} {is : List Nat} (hstk : X.stack = X.env :: X.outer) (hfr : X.env.frame = some X.env.locals) (tk : Takes X W) (hc : X.calm = true) (hN : X.N.Nodup) (hi : XI X T Z W [] tg iter fi) (ok : BlkOk X.N X.env.scope scope ownN)
    (hg : ∀ (s : Shared) (H : Hp) (C : Addr) (cl : List (Str × Addr)) (fp : List Addr) (xe : Value → Shared → Prop), XG (blkE X s H scope (compEnvC scope cl C X.env) fp xe) T tg gr gt is)
    (ht : ∀ (W' : WX) (s : Shared) (H : Hp) (C : Addr) (cl : List (Str × Addr)) (fp : List Addr) (xe : Value → Shared → Prop), Takes (blkE X s H scope (compEnvC scope cl C X.env) fp xe) W' → XTs (blkE X s H scope (compEnvC scope cl C X.env) fp xe) T Z W' [] ifs ft)
    (he : ∀ (W' : WX) (s : Shared) (H : Hp) (C : Addr) (cl : List (Str × Addr)) (fp : List Addr) (xe : Value → Shared → Prop), Takes (blkE X s H scope (compEnvC scope cl C X.env) fp xe) W' → XE (blkE X s H scope (compEnvC scope cl C X.env) fp xe) T Z W' [] elt fe)
    (h2 : ∀ i ∈ is, i ∈ ownN.map (·.2)) (hs : ∀ x, foldedSetIterable iter X.env x = pure x := by intro _; rfl) :
    XF X T Z W [] (.ListComp elt [⟨tg, iter, ifs, 0⟩] scope pos) (xLcE (ownN.map (·.2)) fi gt ft fe) :=
  ⟨fun pins s0 σ0 H0 Q0 I0 w0 => (PE.imp (t' := tPF T Z W [] (xLcE (ownN.map (·.2)) fi gt ft fe)) (pe_lcE (tt := fun σ => tPT T Z (WW W σ) [] ft) (te := fun σ => tP T Z (WW W σ) [] fe) hstk hfr tk hc hN hi ok (fun s H C cl fp xe => (hg s H C cl fp xe).1) (fun σ s H C cl fp xe t => ht _ s H C cl fp xe t) (fun σ s H C cl fp xe t => he _ s H C cl fp xe t) hs) fun σ H Q w => lc_redE (hg s0 H0 0 [] [] fun _ _ => False).2 h2 w).run pins s0 σ0 H0 Q0 I0 w0⟩
end
end PP

set_option Elab.async false
set_option linter.all false
set_option maxRecDepth 100000
set_option maxHeartbeats 4000000
/-! a method with one argument of a list, a tuple or a text. -/
namespace PPM
open PySem PySem.Spec PyProof.Rows L2
section
variable {X : Cx} {o e : Expr} {to te : TE} {name : PySem.Str} {apos cpos : Pos} {il it is : String} {rl rt rs : V → List V → Hp → VK → Prop}
def tM3 (K : PySem.W.Frag) (rl rt rs : V → List V → Hp → VK → Prop) (to te : TE) : TE := fun σ H Q => to σ H fun x H1 =>
  ((∃ a vs, x = .ref a ∧ SqL K H1 a vs) ∧ te σ H1 fun y H2 => rl x [y] H2 Q) ∨ ((∃ a vs, x = .ref a ∧ PPT.TH H1 a vs) ∧ te σ H1 fun y H2 => rt x [y] H2 Q) ∨ ((∃ z, x = .str z) ∧ te σ H1 fun y H2 => rs x [y] H2 Q)
theorem pe_m3 (sl : Slot "list" name il) (tl : typeOf (.builtin il) = pure (.type "method_descriptor")) (ml : MtR X il rl) (st : Slot "tuple" name it) (tt : typeOf (.builtin it) = pure (.type "method_descriptor")) (mt : MtR X it rt)
    (ss : Slot "str" name is) (ts : typeOf (.builtin is) = pure (.type "method_descriptor")) (ms : MtR X is rs) (ho : PE X o to) (he : PE X e te)
    (hbase : attributeBase o name X.env (eval o X.env) = eval o X.env := by rfl)
    (hfew : ((backTo cpos (starEach [e] X.env)).all (fun x => !x.1) && (backToKw cpos (keywordEach [] X.env)).all (fun x => x.1.isSome)
      && decide ([e].length + ([] : List Keyword).length + (if ([] : List Keyword).isEmpty then 0 else 1) < 30)) = true := by rfl)
    (hline : (apos.endLine == cpos.line) = true := by rfl) (hs : starEach [e] X.env = (false, eval e X.env) :: starEach [] X.env := by rfl) (hplain : (backTo cpos (starEach [] X.env)).any (·.1) = false := by rfl) :
    PE X (.Call (.Attribute o name apos) [e] [] cpos) (tM3 X.K rl rt rs to te) := by
  refine ⟨fun pins s σ H Q I h => ?_⟩
  refine wpAny_Call_method_late hbase hfew hline rfl (thn (ho.run pins s σ H _ I h) fun v s1 ⟨x, H1, I1, r1, q1⟩ => ?_)
  have fin : ∀ {id : String} {r : V → List V → Hp → VK → Prop}, MtR X id r → (te σ H1 fun y H2 => r x [y] H2 Q) → wpAny (model X.prog X.w) X.A (callWith cpos (.builtin id) [v] (backTo cpos (starEach [e] X.env)) (backToKw cpos (keywordEach [] X.env))) (EP X pins σ Q) X.xe s1 := fun {id r} hm q => by
    have hA := (pa_cons he pa_nil hs).run cpos pins s1 σ H1 (fun xs H2 => r x xs H2 Q) I1 (show tCons te tNil σ H1 _ from q)
    rw [hs] at hA ⊢
    refine Calls.callWith_builtin (by show (false || (backTo cpos (starEach [] X.env)).any (·.1)) = false; rw [hplain] <;> rfl) (Calls.evalArgs_plain ?_)
    exact thn hA fun us s2 ⟨vs, H2, I2, r2, q2⟩ => hm pins s2 σ H2 x vs v us Q I2 r1 r2 q2
  rcases q1 with ⟨⟨a, vs, rfl, hq⟩, q⟩ | ⟨⟨a, vs, rfl, hq⟩, q⟩ | ⟨⟨z, rfl⟩, q⟩
  · obtain ⟨h1, h2⟩ := tyV_is (T := "list") I1 r1 (.inl ⟨rfl, vs, hq⟩)
    exact ⟨"list", il, PySem.F.plainAttrs_list, sl, tl, h1, h2, fin ml q⟩
  · cases (show v = Value.ref a from r1)
    obtain ⟨its, _, ⟨ob, ho', hc, hd⟩, _⟩ := PPT.TH.inj I1 hq
    exact ⟨"tuple", it, PySem.F.plainAttrs_tuple, st, tt, ⟨ob, ho', hc⟩, fun b e => by cases e; exact ⟨ob, ho', hd⟩, fin mt q⟩
  · obtain ⟨h1, h2⟩ := tyV_is (T := "str") I1 r1 rfl
    exact ⟨"str", is, PySem.F.plainAttrs_str, ss, ts, h1, h2, fin ms q⟩
end
end PPM
namespace PPM
open PySem PySem.Spec PyProof.Rows L2
section
variable {X : Cx}
def rIndexT (K : PySem.W.Frag) : V → List V → Hp → VK → Prop := fun x xs H Q => ∃ (a : Addr) (ys : List V) (y : V) (j : Nat) (z : V), x = V.ref a ∧ xs = [y] ∧ SqT K H a ys ∧ flatV y = true ∧ ys.all flatV = true ∧ ys[j]? = some z ∧ eqV z y = true ∧
  (∀ (m : Nat) (z' : V), m < j → ys[m]? = some z' → eqV z' y = false) ∧ Q (.int (j : Nat)) H
theorem mt_indexT : MtR X "tuple.index" (rIndexT X.K) := by
  intro pins s σ H x xs v us Q I rx rxs h
  obtain ⟨a, ys, y, j, z, rfl, rfl, hs, fy, fys, hz, hzj, hno, q⟩ := h
  cases rx
  cases rxs with
  | cons ry rt =>
    rename_i uy ut
    cases rt
    obtain ⟨its, rv, ⟨⟨cls, dd, data, sl⟩, ho, hc, n, hd⟩, hlen⟩ := I.tuple hs
    simp only at hc hd
    subst hc hd
    obtain ⟨u, hu, ru⟩ := rv.get hz
    obtain ⟨hjl, hje⟩ := List.getElem?_eq_some_iff.mp hu
    have hvl := rv.length
    have hj : j < its.toArray.size := by simpa using hjl
    refine call_meets PySem.F.slot_tuple_index ⟨_, ho, rfl⟩ PySem.F.entry_tuple_index (PySem.F.args_tuple_index_2 _ _)
      (TI.tuple_indexAt a its.toArray n dd sl uy (eqU y) j hj ?_ ?_) ⟨ho, fun u' hu' => mem_eqAt ry fy rv fys u' (by simpa using hu'), ?_⟩
    · have e1 : its.toArray[j] = u := by simpa using hje
      rw [e1, eqU_of ru (flat_at fys hz)]
      exact hzj
    · intro m hm hmj
      have hml : m < its.length := by simpa using hm
      have hmy : m < ys.length := by omega
      have hy' : ys[m]? = some ys[m] := List.getElem?_eq_getElem hmy
      obtain ⟨u2, hu2, ru2⟩ := rv.get hy'
      obtain ⟨_, hme⟩ := List.getElem?_eq_some_iff.mp hu2
      have e1 : its.toArray[m] = u2 := by simpa using hme
      rw [e1, eqU_of ru2 (flat_at fys hy')]
      exact hno m _ hmj hy'
    · exact ⟨.int (j : Nat), H, I.tok _, ⟨_, rfl⟩, q⟩
end
end PPM
namespace PP
open PySem L2 PPM
theorem idx_rep {T : Tb} {F : Hp} {y : V} {e d : D} {l : List D} {vs : List V} (r : RepL T F vs l) (ry : Rep T F y e) (h : idxRow e l = some d) : ∃ (j : Nat) (z : V), flatV y = true ∧ vs.all flatV = true ∧ vs[j]? = some z ∧ eqV z y = true ∧ (∀ (m : Nat) (z' : V), m < j → vs[m]? = some z' → eqV z' y = false) ∧ d = .int (j : Nat) := by
  unfold idxRow at h
  simp only [Option.ite_none_right_eq_some, Bool.and_eq_true, Option.map_eq_some_iff] at h
  obtain ⟨⟨f1, f2⟩, j, hj, rfl⟩ := h
  rw [List.findIdx?_eq_some_iff_getElem] at hj
  obtain ⟨hl, h1, h2⟩ := hj
  obtain ⟨z, k1, k2⟩ := r.get (List.getElem?_eq_getElem hl)
  have fl : ∀ x ∈ l, flatD x = true := List.all_eq_true.mp f2
  refine ⟨j, z, flat_rep ry f1, flat_reps r f2, k1, by rw [eq_flat k2 ry (fl _ (List.getElem_mem hl)) f1]; exact h1, fun m z' hm hz => ?_, rfl⟩
  have hml : m < l.length := by omega
  obtain ⟨w, k3, k4⟩ := r.get (List.getElem?_eq_getElem hml)
  rw [hz] at k3; cases k3
  rw [eq_flat k4 ry (fl _ (List.getElem_mem hml)) f1]
  have := h2 m hm
  simpa using this
section
variable {X : Cx} {T : Tb} {Z : Act} {W : WX} {own : List Nat} {o e : Expr} {fa fb : PP.X} {apos pos : Pos}
theorem x_idx (ho : XE X T Z W own o fa) (he : XE X T Z W own e fb) (hK : X.K = T.K := by rfl)
    (hbase : attributeBase o "index" X.env (eval o X.env) = eval o X.env := by rfl)
    (hfew : ((backTo pos (starEach [e] X.env)).all (fun x => !x.1) && (backToKw pos (keywordEach [] X.env)).all (fun x => x.1.isSome)
      && decide ([e].length + ([] : List Keyword).length + (if ([] : List Keyword).isEmpty then 0 else 1) < 30)) = true := by rfl)
    (hline : (apos.endLine == pos.line) = true := by rfl) (hs : starEach [e] X.env = (false, eval e X.env) :: starEach [] X.env := by rfl) (hplain : (backTo pos (starEach [] X.env)).any (·.1) = false := by rfl) :
    XE X T Z W own (.Call (.Attribute o "index" apos) [e] [] pos) (xIdx fa fb) := by
  have h1 := pe_m3 (cpos := pos) PySem.F.slot_list_index PySem.F.type_list_index mt_index PySem.F.slot_tuple_index PySem.F.type_tuple_index mt_indexT F.slot_str_index F.type_str_index mt_sindex ho he hbase hfew hline hs hplain
  rw [hK] at h1
  refine PE.imp h1 fun σ H Q ⟨kp, F, ρ, g, c, q⟩ => tP.then c q.bind fun d1 g1 v1 F1 H1 q1 c1 s1 r1 => ?_
  have arg : ∀ (r : V → List V → Hp → VK → Prop), isSeq d1 = true → (∀ d2 d v2 F2 H2, Sub F1 F2 → Sub F2 H2 → Rep T F2 v2 d2 → idxD d1 d2 = some d → (∀ v F' H', Grow F2 H2 F' H' → Rep T F' v d → Q v H') → r v1 [v2] H2 Q) → tP T Z W own fb σ H1 fun y H2 => r v1 [y] H2 Q := fun r hq k => by
    simp only [hq] at q1
    exact tP.then c1 (q1.bind.up s1 fun _ _ z => z) fun d2 g2 v2 F2 H2 q2 c2 s2 r2 => by
      obtain ⟨d, e, q3⟩ := rQ.ofO (H := H) q2
      exact k d2 d v2 F2 H2 s2 c2.core.sub r2 e fun v F' H' gr rv => q3 v F' H' (c2.grow gr) ((s1.trans s2).trans gr.ff) rv
  cases d1 with
  | lst l =>
    obtain ⟨p, vs, rfl, e1, l1, k1⟩ := rep_lst r1
    refine .inl ⟨⟨p, vs, rfl, SqL.of (c1.core.sub _ _ e1)⟩, arg _ rfl fun d2 d v2 F2 H2 s2 s3 r2 e k => ?_⟩
    obtain ⟨j, z, a1, a2, a3, a4, a5, rfl⟩ := idx_rep (RepL.mono s2 _ _ k1) r2 (by simpa [idxD] using e)
    exact ⟨p, vs, v2, j, z, rfl, rfl, SqL.of (s3 _ _ (s2 _ _ e1)), a1, a2, a3, a4, a5, k _ F2 H2 (.refl s3) mk_int⟩
  | tup l =>
    obtain ⟨p, vs, rfl, e1, l1, k1⟩ := rep_tup r1
    refine .inr (.inl ⟨⟨p, vs, rfl, e1.mono c1.core.sub⟩, arg _ rfl fun d2 d v2 F2 H2 s2 s3 r2 e k => ?_⟩)
    obtain ⟨j, z, a1, a2, a3, a4, a5, rfl⟩ := idx_rep (RepL.mono s2 _ _ k1) r2 (by simpa [idxD] using e)
    exact ⟨p, vs, v2, j, z, rfl, rfl, ((e1.mono s2).mono s3).sq, a1, a2, a3, a4, a5, k _ F2 H2 (.refl s3) mk_int⟩
  | str s =>
    obtain ⟨rfl, l1, m1⟩ := rep_str r1
    exact .inr (.inr ⟨⟨_, rfl⟩, arg (fun x xs H Q => ∃ a b i rest, x = .str a ∧ xs = [.str b] ∧ Builtin.Str.occurrences a b 0 a.length 1 = i :: rest ∧ Q (.int (i : Nat)) H) rfl fun d2 d v2 F2 H2 s2 s3 r2 e k => mk_index F2 H2 s v2 d2 d Q s3 ⟨l1, m1⟩ r2 (by simpa [idxD] using e) k⟩)
  | _ => exact q1.elim
end
end PP

set_option Elab.async false
set_option linter.all false
set_option maxRecDepth 100000
set_option maxHeartbeats 4000000
/-! PPS23: order of data: min, max, sorted -/
namespace PP
open PySem PySem.W L2 PyProof.Rows
mutual
theorem al_py : ∀ a b : D, isDat a = true → isDat b = true → alike (toPy a) (toPy b) = alB a b
  | .non, b, _, h => by cases b <;> first | rfl | simp [isDat] at h
  | .bl _, b, _, h => by cases b <;> first | rfl | simp [isDat] at h
  | .int _, b, _, h => by cases b <;> first | rfl | simp [isDat] at h
  | .str _, b, _, h => by cases b <;> first | rfl | simp [isDat] at h
  | .tup l, b, e, h => by
    cases b with
    | tup m => simpa [toPy, alike, alB] using alL_py l m (by simpa [isDat] using e) (by simpa [isDat] using h)
    | _ => first | rfl | simp [isDat] at h
  | .lst l, b, e, h => by
    cases b with
    | lst m => simpa [toPy, alike, alB] using alL_py l m (by simpa [isDat] using e) (by simpa [isDat] using h)
    | _ => first | rfl | simp [isDat] at h
  | .fn _, _, e, _ => by simp [isDat] at e
  | .gen _, _, e, _ => by simp [isDat] at e
  | .ins _ _, _, e, _ => by simp [isDat] at e
theorem alL_py : ∀ a b : List D, isDatL a = true → isDatL b = true → alikeAll (toPyL a) (toPyL b) = alBL a b
  | [], [], _, _ => rfl
  | [], _ :: _, _, _ => by simp [toPyL, alikeAll, alBL]
  | _ :: _, [], _, _ => by simp [toPyL, alikeAll, alBL]
  | x :: xs, y :: ys, e, h => by
    simp only [isDatL, Bool.and_eq_true] at e h
    simp [toPyL, alikeAll, alBL, al_py x y e.1 h.1, alL_py xs ys e.2 h.2]
end
theorem str_lt (a b : List Nat) : itemLt (.inr a) (.inr b) = ltL a b := by
  rw [ltL_lt]; rfl
mutual
theorem lt_py : ∀ a b : D, isDat a = true → isDat b = true → alB a b = true → dataLt (toPy a) (toPy b) = ltB a b
  | .non, b, _, h, e => by cases b <;> first | rfl | simp [alB] at e
  | .bl x, b, _, h, e => by
    cases b with
    | bl y => cases x <;> cases y <;> rfl
    | _ => simp [alB] at e
  | .int i, b, _, h, e => by
    cases b with
    | int j =>
      simp only [toPy, dataLt, keyToks, ltB]
      simp [PyProof.Rows.lexLt, itemLt]
    | _ => simp [alB] at e
  | .str i, b, _, h, e => by
    cases b with
    | str j =>
      simp only [toPy, dataLt, keyToks, ltB, ← str_lt]
      simp [PyProof.Rows.lexLt]
    | _ => simp [alB] at e
  | .tup l, b, e, h, q => by
    cases b with
    | tup m => exact ltL_py l m (by simpa [isDat] using e) (by simpa [isDat] using h) (by simpa [alB] using q)
    | _ => simp [alB] at q
  | .lst l, b, e, h, q => by
    cases b with
    | lst m => exact ltL_py l m (by simpa [isDat] using e) (by simpa [isDat] using h) (by simpa [alB] using q)
    | _ => simp [alB] at q
  | .fn _, _, e, _, _ => by simp [isDat] at e
  | .gen _, _, e, _, _ => by simp [isDat] at e
  | .ins _ _, _, e, _, _ => by simp [isDat] at e
theorem ltL_py : ∀ a b : List D, isDatL a = true → isDatL b = true → alBL a b = true → PyProof.Rows.lexLt itemOrd (keyToksAll (toPyL a)) (keyToksAll (toPyL b)) = ltBL a b
  | [], [], _, _, _ => by simp [toPyL, keyToksAll, ltBL, PyProof.Rows.lexLt, itemLt]
  | [], _ :: _, _, _, _ => by simp [toPyL, keyToksAll, ltBL, PyProof.Rows.lexLt, itemLt]
  | _ :: _, [], _, _, _ => by simp [toPyL, keyToksAll, ltBL, PyProof.Rows.lexLt, itemLt]
  | x :: xs, y :: ys, e, h, q => by
    simp only [isDatL, Bool.and_eq_true] at e h
    simp only [alBL, Bool.and_eq_true] at q
    have h1 : alike (toPy x) (toPy y) = true := by rw [al_py x y e.1 h.1]; exact q.1
    simp only [toPyL]
    rw [dataLt_cons h1, eqv_py x y e.1 h.1, ltL_py xs ys e.2 h.2 q.2, lt_py x y e.1 h.1 q.1]
    simp only [ltBL]
end
/-! sorting by insertion is sorting -/
section
variable {α : Type}
def insG (le : α → α → Bool) (x : α) : List α → List α
  | [] => [x]
  | y :: ys => if !le x y then y :: insG le x ys else x :: y :: ys
theorem insG_mem {le : α → α → Bool} {x z : α} : ∀ {l : List α}, z ∈ insG le x l ↔ z = x ∨ z ∈ l
  | [] => by simp [insG]
  | y :: ys => by
    unfold insG
    split
    · simp only [List.mem_cons, insG_mem (l := ys)]
      constructor
      · rintro (h | h | h) <;> simp [h]
      · rintro (h | h | h) <;> simp [h]
    · simp
theorem insG_sorted {le : α → α → Bool} (T : TotalLe le) {x : α} : ∀ {l : List α}, l.Pairwise (fun a b => le a b = true) → (insG le x l).Pairwise fun a b => le a b = true
  | [], _ => by simp [insG]
  | y :: ys, h => by
    obtain ⟨h1, h2⟩ := List.pairwise_cons.mp h
    unfold insG
    split
    · rename_i hx
      refine List.pairwise_cons.mpr ⟨fun z hz => ?_, insG_sorted T h2⟩
      rcases insG_mem.mp hz with rfl | hz
      · rcases T.total z y with q | q
        · rw [q] at hx; cases hx
        · exact q
      · exact h1 z hz
    · rename_i hx
      have hx' : le x y = true := by simpa using hx
      refine List.pairwise_cons.mpr ⟨fun z hz => ?_, h⟩
      rcases List.mem_cons.mp hz with rfl | hz
      · exact hx'
      · exact T.trans _ _ _ hx' (h1 z hz)
theorem insG_stable {le : α → α → Bool} (T : TotalLe le) {x c : α} : ∀ {l : List α}, (insG le x l).filter (sameRank le c) = (x :: l).filter (sameRank le c)
  | [] => rfl
  | y :: ys => by
    unfold insG
    split
    · rename_i hx
      have hx' : le x y = false := by simpa using hx
      rw [List.filter_cons, insG_stable T (l := ys)]
      by_cases h1 : sameRank le c x = true
      · have h2 : sameRank le c y = false := by
          simp only [sameRank, Bool.and_eq_true] at h1 ⊢
          cases q : le c y with
          | false => rfl
          | true =>
            have := T.trans _ _ _ h1.2 q
            rw [hx'] at this; cases this
        simp [List.filter_cons, h1, h2]
      · simp [List.filter_cons, h1]
    · rfl
theorem sortG_eq {le : α → α → Bool} (T : TotalLe le) (l : List α) : l.foldr (insG le) [] = l.mergeSort le := by
  refine sort_unique T ?_ fun c => ?_
  · induction l with
    | nil => exact List.Pairwise.nil
    | cons x l ih => exact insG_sorted T ih
  · induction l with
    | nil => rfl
    | cons x l ih =>
      rw [List.foldr_cons, insG_stable T, List.filter_cons, List.filter_cons, ih]
end
theorem ins_le {x : D} : ∀ {l : List D}, (∀ y ∈ l, dataLt (toPy y) (toPy x) = ltB y x) → insG (dataLe false toPy) x l = insD x l
  | [], _ => rfl
  | y :: ys, h => by
    have e : (!dataLe false toPy x y) = ltB y x := by
      rw [dataLe_eq]
      simp only [cond_false, Bool.not_not]
      exact h y (by simp)
    unfold insG insD
    rw [e, ins_le fun z hz => h z (List.mem_cons_of_mem _ hz)]
theorem insD_mem {x z : D} : ∀ {l : List D}, z ∈ insD x l ↔ z = x ∨ z ∈ l
  | [] => by simp [insD]
  | y :: ys => by
    unfold insD
    split
    · simp only [List.mem_cons, insD_mem (l := ys)]
      constructor
      · rintro (h | h | h) <;> simp [h]
      · rintro (h | h | h) <;> simp [h]
    · simp
theorem sortL_mem {z : D} : ∀ {l : List D}, z ∈ sortL l ↔ z ∈ l
  | [] => by simp [sortL]
  | x :: xs => by
    have := sortL_mem (z := z) (l := xs)
    unfold sortL at this ⊢
    rw [List.foldr_cons, insD_mem, this, List.mem_cons]
theorem insD_len {x : D} : ∀ {l : List D}, (insD x l).length = l.length + 1
  | [] => rfl
  | y :: ys => by unfold insD; split <;> simp [insD_len (l := ys)]
theorem sortL_len : ∀ (l : List D), (sortL l).length = l.length
  | [] => rfl
  | x :: xs => by
    have := sortL_len xs
    unfold sortL at this ⊢
    rw [List.foldr_cons, insD_len, this]; rfl
theorem sort_le : ∀ {l : List D}, (∀ x ∈ l, ∀ y ∈ l, dataLt (toPy y) (toPy x) = ltB y x) → l.foldr (insG (dataLe false toPy)) [] = sortL l
  | [], _ => rfl
  | x :: xs, h => by
    have ih := sort_le fun a ha b hb => h a (List.mem_cons_of_mem _ ha) b (List.mem_cons_of_mem _ hb)
    rw [List.foldr_cons, ih]
    show _ = (x :: xs).foldr insD []
    rw [List.foldr_cons]
    exact ins_le fun y hy => h x (by simp) y (List.mem_cons_of_mem _ (sortL_mem.mp hy))
theorem sort_merge {l : List D} (h : ∀ x ∈ l, ∀ y ∈ l, dataLt (toPy y) (toPy x) = ltB y x) : l.mergeSort (dataLe false toPy) = sortL l := by
  rw [← sort_le h]
  exact (sortG_eq (le := dataLe false toPy) (sortLe_total (listOrd itemOrd) false fun b => keyToks (toPy b)) l).symm
theorem toPyL_map : ∀ l : List D, toPyL l = l.map toPy
  | [] => rfl
  | x :: xs => by simp [toPyL, toPyL_map xs]
/-- what may be sorted, as data -/
theorem srt_facts {l : List D} (h : srtOk l = true) : (∀ x ∈ l, isDat x = true ∧ dep x ≤ 64) ∧ (∀ x ∈ l, ∀ y ∈ l, alB x y = true) ∧ AllAlike (l.map toPy) ∧ Sortable (l.map toPy) ∧ (∀ x ∈ l, ∀ y ∈ l, dataLt (toPy y) (toPy x) = ltB y x) := by
  simp only [srtOk, Bool.and_eq_true, List.all_eq_true, Bool.or_eq_true] at h
  obtain ⟨⟨h1, h2⟩, h3⟩ := h
  have hd : ∀ x ∈ l, isDat x = true ∧ dep x ≤ 64 := fun x hx => by
    have := h1 x hx
    simp only [shapeOk, Bool.and_eq_true, decide_eq_true_eq] at this
    exact this
  refine ⟨hd, h2, fun d hd1 d' hd2 => ?_, ?_, fun x hx y hy => lt_py y x (hd y hy).1 (hd x hx).1 (h2 y hy x hx)⟩
  · obtain ⟨x, hx, rfl⟩ := List.mem_map.mp hd1
    obtain ⟨y, hy, rfl⟩ := List.mem_map.mp hd2
    rw [al_py x y (hd x hx).1 (hd y hy).1]; exact h2 x hx y hy
  · rcases h3 with h3 | h3
    · refine .inl fun d hd1 => ?_
      obtain ⟨x, hx, rfl⟩ := List.mem_map.mp hd1
      have := h3 x hx
      cases x with
      | tup m =>
        cases m with
        | nil => simp [isTupNE] at this
        | cons a m => exact ⟨toPy a, toPyL m, rfl⟩
      | _ => simp [isTupNE] at this
    · refine .inr fun d hd1 => ?_
      obtain ⟨x, hx, rfl⟩ := List.mem_map.mp hd1
      have h4 := h3 x hx
      have h5 := (hd x hx).1
      cases x with
      | non => simp [isPlainK] at h4
      | tup m => simp [isPlainK] at h4
      | bl b => exact ⟨fun e => by simp [toPy] at e, fun xs e => by simp [toPy] at e⟩
      | int b => exact ⟨fun e => by simp [toPy] at e, fun xs e => by simp [toPy] at e⟩
      | str b => exact ⟨fun e => by simp [toPy] at e, fun xs e => by simp [toPy] at e⟩
      | lst b => exact ⟨fun e => by simp [toPy] at e, fun xs e => by simp [toPy] at e⟩
      | _ => simp [isDat] at h5
/-! the calls -/
section
variable {X : Cx} {T : Tb}
/-- a row of data, for V and for the machine -/
theorem row_each {K : PySem.W.Frag} {F H : Hp} (hK : T.K = K) (s0 : PP.Sub F H) {pins : List (Addr × Obj)} {σ : L2.St} {s : Shared} {X : Cx} (hX : X.K = K) (I : Inv X pins σ H s) : ∀ {l : List D} {vs : List V} {us : List Value}, RepL T F vs l → Vals vs us → (∀ x ∈ l, isDat x = true) → EachIs (fun u d => ∃ v, RelV v u ∧ Rep T F v d) us l ∧ EachIs (fun u d => ∃ as, PySem.Reads s.heap u (toPy d) as) us l
  | [], _, _, r, v, _ => by
    obtain rfl := r.nil_inv
    cases v
    exact ⟨.nil, .nil⟩
  | d :: l, _, _, r, v, h => by
    obtain ⟨w, ws, rfl, h1, h2⟩ := r.inv2
    cases v with
    | cons rv t =>
      obtain ⟨q1, q2⟩ := row_each hK s0 hX I h2 t fun x hx => h x (List.mem_cons_of_mem _ hx)
      obtain ⟨z, _⟩ := rep_dp s0 d w (h d (by simp)) h1
      rw [hK, ← hX] at z
      exact ⟨.cons ⟨w, rv, h1⟩ q1, .cons (Dp.reads I _ _ _ z rv) q2⟩
theorem each_split {F : Hp} : ∀ {us : List Value} {l : List D}, EachIs (fun u d => ∃ v, RelV v u ∧ Rep T F v d) us l → ∃ vs, Vals vs us ∧ RepL T F vs l
  | _, _, .nil => ⟨[], .nil, .nil⟩
  | _, _, .cons ⟨v, h1, h2⟩ t => by
    obtain ⟨vs, q1, q2⟩ := each_split t
    exact ⟨v :: vs, .cons h1 q1, .cons h2 q2⟩
/-- a call that makes a new list -/
def rNewL (T : Tb) (od : List D → Option D) : List V → Hp → VK → Prop := fun xs H Q => ∃ F ds l, PP.Sub F H ∧ RepL T F xs ds ∧ od ds = some (.lst l) ∧ ∀ vs p, H p = none → vs.length ≤ LIM → RepL T F vs l → Q (.ref p) (L2.upd H p (.lst vs))
/-- .. or something there -/
def rData (T : Tb) (od : List D → Option D) : List V → Hp → VK → Prop := fun xs H Q => ∃ F ds d, PP.Sub F H ∧ RepL T F xs ds ∧ od ds = some d ∧ ∀ v, Rep T F v d → Q v H
theorem cl_data {od : List D → Option D} : CallOk T (rData T od) od := fun F H xs ds d Q s r e k => ⟨F, ds, d, s, r, e, fun v rv => k v F H (.refl s) rv⟩
def sortLD : List D → Option D
  | [.lst l] => if srtOk l then some (.lst (sortL l)) else none
  | _ => none
def sortKD : List D → Option D
  | [.dic ks _] => if keyed ks && decide (ks.length < 64) then some (.lst (sortL ks)) else none
  | _ => none
theorem cr_sortLD (hu : X.A.units + 180 < cLine) (hK : X.K = T.K := by rfl) : CallR X (.builtin "sorted") (rNewL T sortLD) := by
  intro pins s σ H vs us Q I r h
  obtain ⟨F, ds, l', s0, hr, hod, q⟩ := h
  unfold sortLD at hod
  split at hod
  · rename_i l
    split at hod
    · rename_i hs
      cases hod
      obtain ⟨y, rfl, ry⟩ := call1 hr
      obtain ⟨a, ws, rfl, e1, l1, r2⟩ := rep_lst ry
      obtain ⟨h1, h2, h3, h4, h5⟩ := srt_facts hs
      obtain ⟨its, rv, hl, hz⟩ := I.list (SqL.of (s0 _ _ e1))
      rw [Vals.ref1 r]
      obtain ⟨q1, q2⟩ := row_each (T := T) rfl s0 hK I r2 rv fun x hx => (h1 x hx).1
      have hln : l.length = ws.length := r2.length.symm
      refine sorted_data (enc := toPy) hl.isList q1 q2 h3 h4 (by rw [hln]; exact hz) (fun b hb => ?_) fun out h6 h7 => ?_
      · rw [dep_py b (h1 b hb).1]
        have := (h1 b hb).2
        omega
      · rw [sort_merge h5] at h7
        obtain ⟨zs, z1, z2⟩ := each_split h7
        obtain ⟨ep, he'⟩ := PyProof.Rows.sortedAll_at s.heap its out.toArray
        have hlen : zs.length ≤ sizeLine := by rw [z1.length, h6, hln]; exact hz
        exact ⟨.ref _, L2.upd H (s.heap.objs.size + 1) (.lst zs), I.laid (t' := s.toks) (fun _ _ => PyProof.Rows.sortedAll_old) (Nat.le_succ _) ⟨hlen, out, ep, z1, he'⟩, rfl, q zs _ (I.hok.fresh (Nat.le_succ _)) (by rw [LIM_eq]; exact hlen) z2⟩
    · cases hod
  · cases hod
end
section
variable {X : Cx} {T : Tb} {Z : Act} {W : WX} {own : List Nat} {e : Expr} {es : List Expr} {f : XA} {p pos : Pos} {x : Str}
theorem newL_imp {od : List D → Option D} (ho : ∀ ds d, od ds = some d → ∃ l, d = .lst l) {σ : L2.St} {H : Hp} {Q : VK} (h : tPF T Z W own (xCB od f) σ H Q) : tCB (rNewL T od) (tPA T Z W own f) σ H Q := by
  obtain ⟨kp, F, ρ, g, c, q⟩ := h
  exact tPA.then c q.bind fun ds g1 vs F1 H1 q1 c1 s1 r1 => by
    cases hd : od ds with
    | none => rw [hd] at q1; exact q1.elim
    | some d =>
      rw [hd] at q1
      obtain ⟨l, rfl⟩ := ho ds d hd
      exact ⟨F1, ds, l, c1.core.sub, r1, hd, fun us p np hl r2 => tPF.of (f := xCB od f) c1 (pF.up s1 _ _ q1) hl r2 p np⟩
theorem f_cbL {id : String} {od : List D → Option D} (hc : CallR X (.builtin id) (rNewL T od)) (ho : ∀ ds d, od ds = some d → ∃ l, d = .lst l) (hg : Gl X x) (hm : X.mg x = none) (hv : bootBuiltins x = some (.builtin id)) (ha : XAs X T Z W own (e :: es) f)
    (hn : x ≠ "__name__" := by decide) (hdb : (x == ("__debug__" : Str)) = false := by decide) (he : starEach (e :: es) X.env = (false, eval e X.env) :: starEach es X.env := by rfl) (hpl : (backTo pos (starEach es X.env)).any (·.1) = false := by rfl) :
    XF X T Z W own (.Call (.Name x p) (e :: es) [] pos) (xCB od f) := PE.imp (pe_callB hc hg hm hv ha hn hdb he hpl) fun σ H Q h => newL_imp ho h
theorem f_ctL {id : String} {od : List D → Option D} (hc : CallR X (.type id) (rNewL T od)) (ho : ∀ ds d, od ds = some d → ∃ l, d = .lst l) (hg : Gl X x) (hm : X.mg x = none) (hv : bootBuiltins x = some (.type id)) (ha : XAs X T Z W own (e :: es) f)
    (hn : x ≠ "__name__" := by decide) (hdb : (x == ("__debug__" : Str)) = false := by decide) (he : starEach (e :: es) X.env = (false, eval e X.env) :: starEach es X.env := by rfl) (hpl : (backTo pos (starEach es X.env)).any (·.1) = false := by rfl) :
    XF X T Z W own (.Call (.Name x p) (e :: es) [] pos) (xCB od f) := PE.imp (pe_callTy hc hg hm hv ha hn hdb he hpl) fun σ H Q h => newL_imp ho h
end
end PP

set_option Elab.async false
set_option linter.all false
set_option maxRecDepth 100000
set_option maxHeartbeats 4000000
/-! PPS24: list(s) of a text; more of order; displays of dicts -/
namespace PPL
open PySem PySem.W PySem.Spec L2 PyProof.Rows
section
variable {prog : Program} {w : World} {A : Around} {E : Value → Shared → Prop} {s : Shared}
theorem list_str_extend {R : Result → Shared → Prop} (hh : A.handled = none) (x : Str) (t : Tok) (S : Addr) (res : Value) (c₀ : Nat) (hS : s.heap.get? S = some { cls := .type "list", data := .seq #[] c₀ })
    (hR : ∀ h' tk acc' c', (∀ b o, b ≠ S → s.heap.get? b = some o → h'.get? b = some o) → h'.get? S = some { cls := .type "list", dict := none, data := .seq acc' c', slots := #[] } → ItemsOf (SignAt x) acc' x.cps.size → R (.ok (.ret res)) { s with heap := h', toks := tk }) (hn : x.cps.size ≤ sizeLine) :
    wpAny (model prog w) A.in1 (Builtin.List.listExtendWith (.ref S) (.str x t) res)
      (fun fin s' => match fin with | .done f => R (.ok f) s' | .again c' => c'.quiet = true ∧ codeAny (model prog w) A c' R s') (fun e s' => R (.error e) s') s := by
  have hSI : S ≠ s.heap.objs.size := Nat.ne_of_lt (Heap.lt_size hS)
  have hSf : S ∉ [s.heap.objs.size] := by simpa using hSI
  unfold Builtin.List.listExtendWith
  refine wpAny_bind (wpAny_typeOf (T := "str") (v := .str x t) rfl ?_)
  have h1 : Builtin.List.listSameRef (.ref S) (.str x t) = false := rfl
  have h2 : (Value.type "str" == Value.type "list") = false := by decide
  have h3 : (Value.type "str" == Value.type "tuple") = false := by decide
  simp only [h1, h2, h3, Bool.or_false, Bool.false_eq_true, if_false]
  refine wpAny_bind (wpAny_pyIter_str fun o St W hst => ?_)
  refine wpAny_bind (wpAny_holding ?_)
  unfold Builtin.List.listLengthHint
  refine wpAny_bind (wpAny_specialOf (T := "str") (v := .str x t) rfl PySem.F.str_len ?_)
  wp_delta
  refine wpAny_bind (wpAny_isInstance (T := "str") (v := .str x t) (b := true) rfl (by rw [isSubtype_type]; kernel_rfl) ?_)
  show wpAny _ A.in1 (typeOf (Value.str x t) >>= _) _ _ _
  refine wpAny_bind (wpAny_typeOf (T := "str") (v := .str x t) rfl ?_)
  refine wpAny_pure ?_
  rw [if_neg (by decide)]
  have hS₁ := Heap.get?_push_of_some o hS
  refine wpAny_pure ⟨plainId_quiet F.plain_extend_loop _, codeAny_extend_loopS (W A.in1 hh).toS hn _ hSf _ x.cps.size 0 _ _ _ rfl (Nat.zero_le _) hst hS₁ (ItemsOf.nil _) fun s' acc' c' hm hS' hacc => ?_⟩
  rw [Moved.eq_with hm]
  refine hR s'.heap s'.toks acc' c' (fun b ob hb e => hm.heap b ob (fun hmem => ?_) (Heap.get?_push_of_some _ e)) hS' hacc
  rcases List.mem_cons.mp hmem with e' | hmem
  · exact hb e'
  · exact absurd (Heap.lt_size e) (by rw [List.mem_singleton.mp hmem]; exact Nat.lt_irrefl _)
theorem list_str_init {R : Result → Shared → Prop} (hh : A.handled = none) (x : Str) (t : Tok) (S : Addr) (hS : s.heap.get? S = some { cls := .type "list", data := .seq #[] })
    (hR : ∀ h' tk acc' c', (∀ b o, b ≠ S → s.heap.get? b = some o → h'.get? b = some o) → h'.get? S = some { cls := .type "list", dict := none, data := .seq acc' c', slots := #[] } → ItemsOf (SignAt x) acc' x.cps.size → R (.ok (.ret .none)) { s with heap := h', toks := tk }) (hn : x.cps.size ≤ sizeLine) :
    wpAny (model prog w) A.in1 (Builtin.«list.__init__» ⟨[.ref S, .str x t], []⟩)
      (fun fin s' => match fin with | .done f => R (.ok f) s' | .again c' => c'.quiet = true ∧ codeAny (model prog w) A c' R s') (fun e s' => R (.error e) s') s := by
  show wpAny _ _ (do let old ← Builtin.List.listItems (.ref S); Builtin.List.listUpdate (.ref S) (fun _ => #[]); letGo old.toList.reverse; Builtin.List.listExtendWith (.ref S) (.str x t) .none) _ _ s
  refine wpAny_bind ?_
  unfold Builtin.List.listItems
  refine wpAny_bind (wpAny_seqItems hS rfl (wpAny_pure ?_))
  show wpAny _ _ (updateSeq S (fun _ => #[]) >>= fun _ => letGo (#[] : Array Value).toList.reverse >>= fun _ => Builtin.List.listExtendWith (.ref S) (.str x t) .none) _ _ s
  refine wpAny_bind (wpAny_updateSeq hS rfl ?_)
  have hS₂ := Heap.get?_update_self (Obj.mapSeq (fun _ => (#[] : Array Value))) hS rfl
  have oth : ∀ b o, b ≠ S → s.heap.get? b = some o → (s.heap.update S (Obj.mapSeq (fun _ => (#[] : Array Value)))).get? b = some o :=
    fun b o hb e => (Heap.get?_update_other _ _ (Ne.symm hb)).trans e
  refine wpAny_bind (wpAny_letGo ?_)
  refine list_str_extend hh x t S .none _ hS₂ (fun h' tk acc' c' hk hS' hacc => ?_) hn
  exact hR h' tk acc' c' (fun b o hb e => hk b o hb (oth b o hb e)) hS' hacc
theorem list_str_call {Q : Value → Shared → Prop} (hh : A.handled = none) (x : Str) (t : Tok) (hn : x.cps.size ≤ sizeLine)
    (hQ : ∀ h' tk acc' c', (∀ b o, s.heap.get? b = some o → h'.get? b = some o) → h'.get? s.heap.objs.size = some { cls := .type "list", dict := none, data := .seq acc' c', slots := #[] } → ItemsOf (SignAt x) acc' x.cps.size → Q (.ref s.heap.objs.size) { s with heap := h', toks := tk }) :
    wpAny (model prog w) A (call (.type "list") [.str x t]) Q E s := by
  refine callType_codes (Q₁ := fun obj s₁ => obj = .ref s.heap.objs.size ∧ s₁ = { s with heap := s.heap.push { cls := .type "list", data := .seq #[] } }) PySem.F.called_list (PySem.F.typeCall_list_1 _) PySem.F.entry_list_init
    (code_list_new _ ⟨rfl, rfl⟩) fun obj s₁ h₁ => ?_
  obtain ⟨rfl, rfl⟩ := h₁
  have hS : (s.heap.push { cls := .type "list", data := .seq #[] }).get? s.heap.objs.size = some { cls := .type "list", data := .seq #[] } := Heap.get?_push_size _ rfl
  refine ⟨⟨_, hS, rfl⟩, PySem.F.args_list_init_2 _ _, list_str_init (A := A.in1) hh x t _ hS (fun h' tk acc' c' hk hS' hacc => ?_) hn⟩
  exact ⟨rfl, hQ h' tk acc' c' (fun b o e => hk b o (Nat.ne_of_lt (Heap.lt_size e)) (Heap.get?_push_of_some _ e)) hS' hacc⟩
end
end PPL
namespace PP
open PySem PySem.W PySem.Spec L2 PyProof.Rows
section
variable {X : Cx} {T : Tb}
def listSD : List D → Option D
  | [.str s] => some (.lst (s.map fun c => .str [c]))
  | _ => none
theorem signs_vals (x : Str) : ∀ (us : List Value) (k : Nat), (∀ (j : Nat) v, us[j]? = some v → SignAt x (k + j) v) → (k + us.length = x.cps.size) → Vals ((x.cps.toList.drop k).map fun c => V.str ⟨#[c]⟩) us
  | [], k, _, hl => by
    have : x.cps.toList.drop k = [] := List.drop_eq_nil_of_le (by simp at hl ⊢; omega)
    rw [this]; exact .nil
  | u :: us, k, h, hl => by
    obtain ⟨c, t, e1, e2⟩ := h 0 u rfl
    have hk : k < x.cps.toList.length := by simp at hl ⊢; omega
    rw [List.drop_eq_getElem_cons hk, List.map_cons]
    refine .cons ?_ (signs_vals x us (k + 1) (fun j v e => ?_) (by simp at hl ⊢; omega))
    · have e3 : x.cps.toList[k] = c := by
        have := e1
        rw [Nat.add_zero, ← Array.getElem?_toList, List.getElem?_eq_getElem hk] at this
        exact Option.some.inj this
      rw [e3, e2]
      exact ⟨t, rfl⟩
    · have := h (j + 1) v (by simpa using e)
      rwa [Nat.add_assoc, Nat.add_comm 1 j]
theorem rep_signs {T : Tb} {F : Hp} : ∀ {s : List Nat}, (∀ c ∈ s, c < 1114112) → RepL T F (s.map fun c => V.str ⟨#[c]⟩) (s.map fun c => D.str [c])
  | [], _ => .nil
  | c :: s, h => .cons (mk_str (s := [c]) (show 1 ≤ LIM by decide) fun d hd => by
      rcases List.mem_singleton.mp hd with rfl
      exact h d (by simp)) (rep_signs fun d hd => h d (List.mem_cons_of_mem _ hd))
theorem ct_listSD (hc : X.calm = true) (hK : X.K = T.K := by rfl) : CallR X (.type "list") (rNewL T listSD) := by
  intro pins s σ H vs us Q I r h
  obtain ⟨F, ds, l', s0, hr, hod, q⟩ := h
  unfold listSD at hod
  split at hod
  · rename_i z
    cases hod
    obtain ⟨y, rfl, ry⟩ := call1 hr
    obtain ⟨rfl, h1, h2⟩ := rep_str ry
    obtain ⟨u, rfl, t, rfl⟩ := vals1 r
    have hz : z.length ≤ sizeLine := by rw [← LIM_eq]; exact h1
    refine PPL.list_str_call (I.ok.hd hc) ⟨z.toArray⟩ t (by simpa using hz) fun h' tk acc' c' hk hS' hacc => ?_
    have hlen : acc'.toList.length = z.length := by rw [Array.length_toList, hacc.1]; simp
    have hv := signs_vals ⟨z.toArray⟩ acc'.toList 0 (fun j v e => by
      rw [Nat.zero_add]
      exact hacc.2 j v (by rw [← Array.getElem?_toList]; exact e)) (by simp [hlen])
    rw [List.drop_zero] at hv
    refine ⟨.ref _, L2.upd H s.heap.objs.size (.lst (z.map fun c => V.str ⟨#[c]⟩)), I.laid (t' := tk) (fun b o e => hk b o e) (Nat.le_refl _) ⟨by simpa using hz, acc'.toList, c', by simpa using hv, by rw [Array.toArray_toList]; exact hS'⟩, rfl, q _ _ (I.hok.fresh (Nat.le_refl _)) (by simpa using h1) (rep_signs h2)⟩
  · cases hod
/-- list of a list, a tuple, too -/
theorem ct_listLD (hK : X.K = T.K := by rfl) : CallR X (.type "list") (rNewL T listD) := by
  intro pins s σ H vs us Q I r h
  obtain ⟨F, ds, l', s0, hr, hod, q⟩ := h
  refine call_list_of pins s σ H vs us Q I r ?_
  unfold listD at hod
  split at hod
  · cases hod
    obtain ⟨y, rfl, ry⟩ := call1 hr
    obtain ⟨a, ws, rfl, e1, l1, r2⟩ := rep_lst ry
    exact ⟨a, ws, rfl, .inl (SqL.of (s0 _ _ e1)), fun p np => q ws p np l1 r2⟩
  · cases hod
    obtain ⟨y, rfl, ry⟩ := call1 hr
    obtain ⟨a, ws, rfl, e1, l1, r2⟩ := rep_tup ry
    refine ⟨a, ws, rfl, .inr ?_, fun p np => q ws p np l1 r2⟩
    rw [hK]; exact (e1.mono s0).sq
  · cases hod
theorem newL_or {f : Value} {o o' od : List D → Option D} (h : CallR X f (rNewL T o)) (h' : CallR X f (rNewL T o')) (e : ∀ ds d, od ds = some d → o ds = some d ∨ o' ds = some d) : CallR X f (rNewL T od) := by
  intro pins s σ H vs us Q I r ⟨F, ds, l, s0, hr, hod, q⟩
  rcases e _ _ hod with e | e
  · exact h pins s σ H vs us Q I r ⟨F, ds, l, s0, hr, e, q⟩
  · exact h' pins s σ H vs us Q I r ⟨F, ds, l, s0, hr, e, q⟩
theorem ct_list2 (hc : X.calm = true) (hK : X.K = T.K := by rfl) : CallR X (.type "list") (rNewL T listD2) := newL_or (ct_listSD hc hK) (ct_listLD hK) fun ds d h => by
  unfold listD2 at h
  split at h
  · exact .inl h
  · exact .inr h
theorem listD2_lst : ∀ ds d, listD2 ds = some d → ∃ l, d = .lst l := fun ds d h => by
  unfold listD2 listD at h
  split at h
  · cases h; exact ⟨_, rfl⟩
  · split at h
    · cases h; exact ⟨_, rfl⟩
    · cases h; exact ⟨_, rfl⟩
    · cases h
/-! sorted(d), d a dict -/
theorem srt_keyed {ks : List D} (h : keyed ks = true) : srtOk ks = true := by
  unfold keyed at h
  split at h
  · rfl
  · rename_i i r
    have h' : ∀ x ∈ D.int i :: r, ∃ j, x = .int j := fun x hx => by
      rcases List.mem_cons.mp hx with rfl | hx
      · exact ⟨i, rfl⟩
      · have := List.all_eq_true.mp h x hx
        cases x <;> first | exact ⟨_, rfl⟩ | cases this
    simp only [srtOk, Bool.and_eq_true, List.all_eq_true, Bool.or_eq_true]
    refine ⟨⟨fun x hx => ?_, fun x hx y hy => ?_⟩, .inr fun x hx => ?_⟩
    · obtain ⟨j, rfl⟩ := h' x hx; exact shape_int j
    · obtain ⟨j, rfl⟩ := h' x hx; obtain ⟨k, rfl⟩ := h' y hy; rfl
    · obtain ⟨j, rfl⟩ := h' x hx; rfl
  · rename_i i r
    have h' : ∀ x ∈ D.str i :: r, ∃ j, x = .str j := fun x hx => by
      rcases List.mem_cons.mp hx with rfl | hx
      · exact ⟨i, rfl⟩
      · have := List.all_eq_true.mp h x hx
        cases x <;> first | exact ⟨_, rfl⟩ | cases this
    simp only [srtOk, Bool.and_eq_true, List.all_eq_true, Bool.or_eq_true]
    refine ⟨⟨fun x hx => ?_, fun x hx y hy => ?_⟩, .inr fun x hx => ?_⟩
    · obtain ⟨j, rfl⟩ := h' x hx; exact shape_str j
    · obtain ⟨j, rfl⟩ := h' x hx; obtain ⟨k, rfl⟩ := h' y hy; rfl
    · obtain ⟨j, rfl⟩ := h' x hx; rfl
  · cases h
theorem keyed_cases {ks : List D} (h : keyed ks = true) : (∃ is : List Int, ks = is.map .int) ∨ ∃ ss : List (List Nat), ks = ss.map .str := by
  cases ks with
  | nil => exact .inl ⟨[], rfl⟩
  | cons k ks =>
    cases k with
    | int i =>
      refine .inl ?_
      simp only [keyed, List.all_eq_true] at h
      have : ∃ is : List Int, ks = is.map .int := by
        clear i
        induction ks with
        | nil => exact ⟨[], rfl⟩
        | cons d ks ih =>
          have hd := h d (by simp)
          obtain ⟨is, e⟩ := ih fun x hx => h x (List.mem_cons_of_mem _ hx)
          cases d with
          | int j => exact ⟨j :: is, by rw [e]; rfl⟩
          | _ => cases hd
      obtain ⟨is, e⟩ := this
      exact ⟨i :: is, by rw [e]; rfl⟩
    | str i =>
      refine .inr ?_
      simp only [keyed, List.all_eq_true] at h
      have : ∃ is : List (List Nat), ks = is.map .str := by
        clear i
        induction ks with
        | nil => exact ⟨[], rfl⟩
        | cons d ks ih =>
          have hd := h d (by simp)
          obtain ⟨is, e⟩ := ih fun x hx => h x (List.mem_cons_of_mem _ hx)
          cases d with
          | str j => exact ⟨j :: is, by rw [e]; rfl⟩
          | _ => cases hd
      obtain ⟨is, e⟩ := this
      exact ⟨i :: is, by rw [e]; rfl⟩
    | _ => cases h
theorem insD_sorted {x : D} : ∀ {l : List D}, (∀ y ∈ l, ltB y x = true → ltB x y = false) → (∀ y ∈ l, ∀ z ∈ l, ltB y x = false → ltB z y = false → ltB z x = false) → l.Pairwise (fun a b => ltB b a = false) → (insD x l).Pairwise fun a b => ltB b a = false
  | [], _, _, _ => by simp [insD]
  | y :: ys, h0, h1, h => by
    obtain ⟨h2, h3⟩ := List.pairwise_cons.mp h
    unfold insD
    split
    · rename_i hx
      refine List.pairwise_cons.mpr ⟨fun z hz => ?_, insD_sorted (fun a ha => h0 a (List.mem_cons_of_mem _ ha)) (fun a ha b hb => h1 a (List.mem_cons_of_mem _ ha) b (List.mem_cons_of_mem _ hb)) h3⟩
      rcases insD_mem.mp hz with rfl | hz
      · exact h0 y (by simp) hx
      · exact h2 z hz
    · rename_i hx
      have hx' : ltB y x = false := by simpa using hx
      refine List.pairwise_cons.mpr ⟨fun z hz => ?_, h⟩
      rcases List.mem_cons.mp hz with rfl | hz
      · exact hx'
      · exact h1 y (by simp) z (List.mem_cons_of_mem _ hz) hx' (h2 z hz)
theorem insD_perm (x : D) : ∀ l : List D, (insD x l).Perm (x :: l)
  | [] => .refl _
  | y :: ys => by
    unfold insD
    split
    · exact ((insD_perm x ys).cons y).trans (.swap x y ys)
    · exact .refl _
theorem sortL_perm : ∀ l : List D, (sortL l).Perm l
  | [] => .refl _
  | x :: xs => by
    have := sortL_perm xs
    unfold sortL at this ⊢
    rw [List.foldr_cons]
    exact (insD_perm x _).trans (this.cons x)
theorem sortL_uniq {l m : List D} (hs : srtOk l = true) (hp : m.Perm l) (hm : m.Pairwise (fun a b => ltB b a = false)) (ha : ∀ a ∈ l, ∀ b ∈ l, ltB a b = false → ltB b a = false → a = b) : m = sortL l := by
  obtain ⟨h1, h2, h3, h4, h5⟩ := srt_facts hs
  have le : ∀ a ∈ l, ∀ b ∈ l, dataLe false toPy a b = !ltB b a := fun a ha b hb => by
    rw [dataLe_eq]
    simp only [cond_false]
    rw [h5 a ha b hb]
  have hT := sortLe_total (listOrd itemOrd) false fun b : D => keyToks (toPy b)
  have hp2 : (l.mergeSort (dataLe false toPy)).Pairwise fun a b => dataLe false toPy a b = true := sort_pairwise hT l
  rw [← sort_merge h5]
  have hpm : (l.mergeSort (dataLe false toPy)).Perm l := List.mergeSort_perm l _
  refine List.Perm.eq_of_pairwise (le := fun a b => dataLe false toPy a b = true) (fun a b hma hmb e1 e2 => ?_) (hm.imp_of_mem fun {a b} hma hmb e => ?_) hp2 (hp.trans hpm.symm)
  · have hal := hp.mem_iff.mp hma
    have hbl := hpm.mem_iff.mp hmb
    rw [le a hal b hbl] at e1
    rw [le b hbl a hal] at e2
    exact ha a hal b hbl (by simpa using e2) (by simpa using e1)
  · rw [le a (hp.mem_iff.mp hma) b (hp.mem_iff.mp hmb), e]; rfl
theorem ltL_anti : ∀ a b : List Nat, ltL a b = false → ltL b a = false → a = b
  | [], [], _, _ => rfl
  | [], _ :: _, h, _ => by simp [ltL] at h
  | _ :: _, [], _, h => by simp [ltL] at h
  | x :: xs, y :: ys, h, h' => by
    unfold ltL at h h'
    by_cases e : x = y
    · subst e
      simp only [if_true] at h h'
      rw [ltL_anti xs ys h h']
    · rw [if_neg e] at h
      rw [if_neg (Ne.symm e)] at h'
      simp only [decide_eq_false_iff_not] at h h'
      omega
theorem keys_int {T : Tb} {F : Hp} : ∀ {kvs : List (Key × V)} {is : List Int}, RepL T F (kvs.map fun kv => kV kv.1) (is.map .int) → kvs.map (·.1) = is.map Sum.inl
  | [], [], _ => rfl
  | [], _ :: _, h => by unfold RepL at h; exact h.elim
  | _ :: _, [], h => by unfold RepL at h; exact h.elim
  | kv :: kvs, i :: is, h => by
    simp only [List.map_cons] at h
    unfold RepL at h
    have e := rep_int h.1
    have := keys_int h.2
    cases hk : kv.1 with
    | inl j => rw [hk] at e; cases e; simp [this, hk]
    | inr j => rw [hk] at e; cases e
theorem keys_str {T : Tb} {F : Hp} : ∀ {kvs : List (Key × V)} {is : List (List Nat)}, RepL T F (kvs.map fun kv => kV kv.1) (is.map .str) → kvs.map (·.1) = (is.map fun s => (⟨s.toArray⟩ : Str)).map Sum.inr
  | [], [], _ => rfl
  | [], _ :: _, h => by unfold RepL at h; exact h.elim
  | _ :: _, [], h => by unfold RepL at h; exact h.elim
  | kv :: kvs, i :: is, h => by
    simp only [List.map_cons] at h
    unfold RepL at h
    have e := (rep_str h.1).1
    have := keys_str h.2
    cases hk : kv.1 with
    | inl j => rw [hk] at e; cases e
    | inr j => rw [hk] at e; cases e; simp [this, hk]
theorem rep_ints {T : Tb} {F : Hp} : ∀ is : List Int, RepL T F (is.map V.int) (is.map .int)
  | [] => .nil
  | i :: is => .cons mk_int (rep_ints is)
theorem rising_pw : ∀ (l : List Str) (x : Str), risingS x l = true → (x :: l).Pairwise fun a b => ltL b.cps.toList a.cps.toList = false
  | [], x, _ => by simp
  | y :: l, x, h => by
    simp only [risingS, Bool.and_eq_true, Bool.not_eq_true'] at h
    have ih := rising_pw l y h.2
    have e : ∀ a b : List Nat, ltCps a b = ltL a b := fun a b => by rw [ltL_lt]; exact ltCps_eq a b
    rw [e] at h
    refine List.pairwise_cons.mpr ⟨fun z hz => ?_, ih⟩
    rcases List.mem_cons.mp hz with rfl | hz
    · exact h.1
    · have h2 := (List.pairwise_cons.mp ih).1 z hz
      have h1 := h.1
      rw [ltL_lt, decide_eq_false_iff_not] at h1 h2 ⊢
      exact fun hh => h2 (Std.lt_of_lt_of_le hh (Std.not_lt.mp h1))
theorem cr_sortKD (hc : X.calm = true) : CallR X (.builtin "sorted") (rNewL T sortKD) := by
  intro pins s σ H vs us Q I r h
  obtain ⟨F, ds, l', s0, hr, hod, q⟩ := h
  unfold sortKD at hod
  split at hod
  · rename_i ks vls
    split at hod
    · rename_i hs
      simp only [Bool.and_eq_true, decide_eq_true_eq] at hs
      obtain ⟨hs, h64⟩ := hs
      cases hod
      obtain ⟨y, rfl, ry⟩ := call1 hr
      obtain ⟨a, kvs, rfl, e1, l1, r1, r2⟩ := rep_dic ry
      rcases keyed_cases hs with ⟨is, rfl⟩ | ⟨ss, rfl⟩
      · refine call_sortedDI hc pins s σ H _ us Q I r ⟨a, kvs, is, rfl, .of (s0 _ _ e1), keys_int r1, by simpa using h64, fun ys p h1 h2 np => ?_⟩
        have e : sortL (is.map D.int) = ys.map .int := by
          refine (sortL_uniq (srt_keyed hs) (h1.map _) (List.pairwise_map.mpr (h2.imp fun {a b} hab => ?_)) fun a ha b hb e1 e2 => ?_).symm
          · simp [ltB]; omega
          · obtain ⟨i, _, rfl⟩ := List.mem_map.mp ha
            obtain ⟨j, _, rfl⟩ := List.mem_map.mp hb
            simp [ltB] at e1 e2
            have : i = j := by omega
            rw [this]
        rw [e] at q
        exact q _ p np (by simp [h1.length_eq]; simp at h64; exact LIM_le (by omega)) (rep_ints ys)
      · have hok : ∀ z ∈ ss, z.length ≤ LIM ∧ ∀ c ∈ z, c < 1114112 := fun z hz => by
          have : ∀ {vs : List V} {l : List (List Nat)}, RepL T F vs (l.map .str) → ∀ z ∈ l, z.length ≤ LIM ∧ ∀ c ∈ z, c < 1114112 := by
            intro vs l
            induction l generalizing vs with
            | nil => intro _ z hz; cases hz
            | cons x l ih =>
              intro h z hz
              obtain ⟨v, us, rfl, h1, h2⟩ := h.inv2
              rcases List.mem_cons.mp hz with rfl | hz
              · exact (rep_str h1).2
              · exact ih h2 z hz
          exact this r1 z hz
        refine call_sortedD hc pins s σ H _ us Q I r ⟨a, kvs, ss.map fun s => ⟨s.toArray⟩, rfl, .of (s0 _ _ e1), keys_str r1, by simpa using h64, fun ys p h1 h2 np => ?_⟩
        have hp : (ys.map fun y => y.cps.toList).Perm ss := by
          have := h1.map fun y : Str => y.cps.toList
          rw [List.map_map] at this
          have e : ss.map ((fun y : Str => y.cps.toList) ∘ fun s => ⟨s.toArray⟩) = ss := by
            conv => rhs; rw [← List.map_id ss]
            exact List.map_congr_left fun s _ => by simp
          rw [e] at this
          exact this
        have hpw : ys.Pairwise fun a b => ltL b.cps.toList a.cps.toList = false := by
          cases ys with
          | nil => exact .nil
          | cons y ys => exact rising_pw ys y h2
        have e : sortL (ss.map D.str) = (ys.map fun y => y.cps.toList).map .str := by
          refine (sortL_uniq (srt_keyed hs) (hp.map _) (List.pairwise_map.mpr (List.pairwise_map.mpr (hpw.imp fun {a b} hab => hab))) fun a ha b hb e1 e2 => ?_).symm
          obtain ⟨i, _, rfl⟩ := List.mem_map.mp ha
          obtain ⟨j, _, rfl⟩ := List.mem_map.mp hb
          rw [ltL_anti i j e1 e2]
        rw [e] at q
        have rr : ∀ l : List Str, (∀ y ∈ l, y.cps.toList ∈ ss) → RepL T F (l.map V.str) ((l.map fun y => y.cps.toList).map .str) := by
          intro l
          induction l with
          | nil => intro _; exact .nil
          | cons y l ih =>
            intro h
            have hy := hok _ (h y (by simp))
            refine .cons ?_ (ih fun z hz => h z (List.mem_cons_of_mem _ hz))
            have := mk_str (T := T) (H := F) hy.1 hy.2
            simpa using this
        have hlen : ys.length = ss.length := by simpa using h1.length_eq
        exact q _ p np (by rw [List.length_map, hlen]; simp at h64; exact LIM_le (by omega)) (rr ys fun y hy => hp.mem_iff.mp (List.mem_map.mpr ⟨y, hy, rfl⟩))
    · cases hod
  · cases hod
theorem cr_sorted2 (hc : X.calm = true) (hu : X.A.units + 180 < cLine) (hK : X.K = T.K := by rfl) : CallR X (.builtin "sorted") (rNewL T sortedD) := newL_or (cr_sortLD hu hK) (cr_sortKD hc) fun ds d h => by
  unfold sortedD at h
  split at h
  · exact .inl h
  · exact .inr h
  · cases h
theorem sortedD_lst : ∀ ds d, sortedD ds = some d → ∃ l, d = .lst l := fun ds d h => by
  unfold sortedD at h
  split at h
  · split at h
    · cases h; exact ⟨_, rfl⟩
    · cases h
  · split at h
    · cases h; exact ⟨_, rfl⟩
    · cases h
  · cases h
end
end PP

set_option Elab.async false
set_option linter.all false
set_option maxRecDepth 100000
set_option maxHeartbeats 4000000
/-! PPS25: min, max -/
namespace PP
open PySem PySem.W PySem.Spec L2 PyProof.Rows
mutual
theorem toPy_inj : ∀ a b : D, isDat a = true → isDat b = true → toPy a = toPy b → a = b
  | .non, b, _, h, e => by cases b <;> first | rfl | (simp [toPy] at e; done) | simp [isDat] at h
  | .bl _, b, _, h, e => by cases b <;> first | (simp [toPy] at e; done) | (simp [toPy] at e; rw [e]) | simp [isDat] at h
  | .int _, b, _, h, e => by cases b <;> first | (simp [toPy] at e; done) | (simp [toPy] at e; rw [e]) | simp [isDat] at h
  | .str _, b, _, h, e => by cases b <;> first | (simp [toPy] at e; done) | (simp [toPy] at e; rw [e]) | simp [isDat] at h
  | .tup l, b, q, h, e => by
    cases b with
    | tup m => rw [toPyL_inj l m (by simpa [isDat] using q) (by simpa [isDat] using h) (by simpa [toPy] using e)]
    | _ => first | (simp [toPy] at e; done) | simp [isDat] at h
  | .lst l, b, q, h, e => by
    cases b with
    | lst m => rw [toPyL_inj l m (by simpa [isDat] using q) (by simpa [isDat] using h) (by simpa [toPy] using e)]
    | _ => first | (simp [toPy] at e; done) | simp [isDat] at h
  | .fn _, _, e, _, _ => by simp [isDat] at e
  | .gen _, _, e, _, _ => by simp [isDat] at e
  | .ins _ _, _, e, _, _ => by simp [isDat] at e
theorem toPyL_inj : ∀ a b : List D, isDatL a = true → isDatL b = true → toPyL a = toPyL b → a = b
  | [], [], _, _, _ => rfl
  | [], _ :: _, _, _, e => by simp [toPyL] at e
  | _ :: _, [], _, _, e => by simp [toPyL] at e
  | x :: xs, y :: ys, q, h, e => by
    simp only [isDatL, Bool.and_eq_true] at q h
    simp only [toPyL, List.cons.injEq] at e
    rw [toPy_inj x y q.1 h.1 e.1, toPyL_inj xs ys q.2 h.2 e.2]
end
theorem minL_mem : ∀ (xs : List D) (x : D), minL x xs ∈ x :: xs
  | [], x => by simp [minL]
  | y :: ys, x => by
    have h := minL_mem ys (if ltB y x then y else x)
    unfold minL at h ⊢
    rw [List.foldl_cons]
    rcases List.mem_cons.mp h with e | e
    · rw [e]; split <;> simp
    · simp [e]
theorem maxL_mem : ∀ (xs : List D) (x : D), maxL x xs ∈ x :: xs
  | [], x => by simp [maxL]
  | y :: ys, x => by
    have h := maxL_mem ys (if ltB x y then y else x)
    unfold maxL at h ⊢
    rw [List.foldl_cons]
    rcases List.mem_cons.mp h with e | e
    · rw [e]; split <;> simp
    · simp [e]
theorem minL_py : ∀ (xs : List D) (x : D), (∀ a ∈ x :: xs, ∀ b ∈ x :: xs, dataLt (toPy b) (toPy a) = ltB b a) → W.minD (toPy x) (xs.map toPy) = toPy (minL x xs)
  | [], x, _ => rfl
  | y :: ys, x, h => by
    have e := h x (by simp) y (by simp)
    have ih := minL_py ys (if ltB y x then y else x) fun a ha b hb => h a (by
      rcases List.mem_cons.mp ha with rfl | ha
      · split <;> simp
      · simp [ha]) b (by
      rcases List.mem_cons.mp hb with rfl | hb
      · split <;> simp
      · simp [hb])
    unfold W.minD minL at ih ⊢
    rw [List.map_cons, List.foldl_cons, List.foldl_cons, e, ← ih]
    split <;> rfl
theorem maxL_py : ∀ (xs : List D) (x : D), (∀ a ∈ x :: xs, ∀ b ∈ x :: xs, dataLt (toPy b) (toPy a) = ltB b a) → W.maxD (toPy x) (xs.map toPy) = toPy (maxL x xs)
  | [], x, _ => rfl
  | y :: ys, x, h => by
    have e := h y (by simp) x (by simp)
    have ih := maxL_py ys (if ltB x y then y else x) fun a ha b hb => h a (by
      rcases List.mem_cons.mp ha with rfl | ha
      · split <;> simp
      · simp [ha]) b (by
      rcases List.mem_cons.mp hb with rfl | hb
      · split <;> simp
      · simp [hb])
    unfold W.maxD maxL at ih ⊢
    rw [List.map_cons, List.foldl_cons, List.foldl_cons, e, ← ih]
    split <;> rfl
theorem each_get {α β : Type} {R : α → β → Prop} : ∀ {as : List α} {bs : List β}, EachIs R as bs → ∀ (i : Nat) (a : α), as[i]? = some a → ∃ b, bs[i]? = some b ∧ R a b
  | _, _, .nil, i, a, e => by simp at e
  | _, _, .cons h t, 0, a, e => by simp at e; subst e; exact ⟨_, rfl, h⟩
  | _, _, .cons h t, i + 1, a, e => by
    obtain ⟨b, h1, h2⟩ := each_get t i a (by simpa using e)
    exact ⟨b, by simpa using h1, h2⟩
section
variable {X : Cx} {T : Tb}
def mm1 (g : D → List D → D) : List D → Option D
  | [d] => (rowOf d).bind fun l => match l with
    | x :: xs => if srtOk (x :: xs) then some (g x xs) else none
    | [] => none
  | _ => none
theorem depthAll_le {l : List D} (h : ∀ x ∈ l, isDat x = true ∧ dep x ≤ 64) : PyData.depthAll (l.map toPy) ≤ 64 := by
  have : ∀ l : List D, (∀ x ∈ l, isDat x = true ∧ dep x ≤ 64) → PyData.depthAll (toPyL l) ≤ 64 := by
    intro l
    induction l with
    | nil => intro _; simp [toPyL, PyData.depthAll]
    | cons x l ih =>
      intro h
      have h1 := h x (by simp)
      have := ih fun y hy => h y (List.mem_cons_of_mem _ hy)
      simp only [toPyL, PyData.depthAll, dep_py x h1.1]
      omega
  rw [← toPyL_map]; exact this l h
theorem no_none {l : List D} (h : srtOk l = true) : ∀ x ∈ l.map toPy, x ≠ PyData.none := fun d hd => by
  obtain ⟨x, hx, rfl⟩ := List.mem_map.mp hd
  obtain ⟨h1, _, _, h4, _⟩ := srt_facts h
  rcases h4 with h4 | h4
  · obtain ⟨a, r, e⟩ := h4 _ hd
    rw [e]; intro z; cases z
  · exact (h4 _ hd).1
theorem cr_mm {id : String} {g : D → List D → D} {gp : PyData → List PyData → PyData} (hc : X.calm = true) (hu : X.A.units + 180 < cLine)
    (hg : ∀ (xs : List D) (x : D), (∀ a ∈ x :: xs, ∀ b ∈ x :: xs, dataLt (toPy b) (toPy a) = ltB b a) → gp (toPy x) (xs.map toPy) = toPy (g x xs)) (hm : ∀ (xs : List D) (x : D), g x xs ∈ x :: xs)
    (hL : ∀ {E : Value → Shared → Prop} {s : Shared} {l : Addr} {vs : Array Value} {x : PyData} {xs : List PyData} {as : List Addr} {Q : Value → Shared → Prop}, X.A.handled = none → s.heap.IsList l vs → ReadsAll s.heap vs.toList (x :: xs) as → AlikeAll (x :: xs) → X.A.units + 1 + PyData.depthAll (x :: xs) < cLine →
      (∀ (i : Nat) v h' tk bs, vs[i]? = some v → Reads h' v (gp x xs) bs → (∀ b o, s.heap.get? b = some o → h'.get? b = some o) → Q v { s with heap := h', toks := tk }) → wpAny (model X.prog X.w) X.A (call (.builtin id) [.ref l]) Q E s)
    (hT : ∀ {E : Value → Shared → Prop} {s : Shared} {l : Addr} {vs : Array Value} {x : PyData} {xs : List PyData} {as : List Addr} {Q : Value → Shared → Prop}, X.A.handled = none → s.heap.IsTuple l vs → ReadsAll s.heap vs.toList (x :: xs) as → AlikeAll (x :: xs) → X.A.units + 1 + PyData.depthAll (x :: xs) < cLine →
      (∀ (i : Nat) v h' tk bs, vs[i]? = some v → Reads h' v (gp x xs) bs → (∀ b o, s.heap.get? b = some o → h'.get? b = some o) → Q v { s with heap := h', toks := tk }) → wpAny (model X.prog X.w) X.A (call (.builtin id) [.ref l]) Q E s)
    (hK : X.K = T.K := by rfl) : CallR X (.builtin id) (rData T (mm1 g)) := by
  intro pins s σ H vs us Q I r h
  obtain ⟨F, ds, d', s0, hr, hod, q⟩ := h
  unfold mm1 at hod
  split at hod
  · rename_i d0
    obtain ⟨y, rfl, ry⟩ := call1 hr
    cases hrow : rowOf d0 with
    | none => rw [hrow] at hod; cases hod
    | some l =>
      rw [hrow] at hod
      cases l with
      | nil => cases hod
      | cons x xs =>
        simp only [Option.bind_some] at hod
        split at hod
        · rename_i hs
          cases hod
          obtain ⟨h1, h2, h3, h4, h5⟩ := srt_facts hs
          have ha : AlikeAll (toPy x :: xs.map toPy) := ⟨fun a hma b hmb => h3 a hma b hmb, no_none hs⟩
          have hdep : X.A.units + 1 + PyData.depthAll (toPy x :: xs.map toPy) < cLine := by
            have := depthAll_le h1
            simp only [List.map_cons] at this
            omega
          have fin : ∀ (ws : List V) (its : List Value), RepL T F ws (x :: xs) → Vals ws its → ∃ as, ReadsAll s.heap its (toPy x :: xs.map toPy) as ∧ ∀ (i : Nat) v h' tk bs, its.toArray[i]? = some v → Reads h' v (gp (toPy x) (xs.map toPy)) bs → (∀ b o, s.heap.get? b = some o → h'.get? b = some o) → ∃ z H', Inv X pins σ H' { s with heap := h', toks := tk } ∧ RelV z v ∧ Q z H' := by
            intro ws its hrl hv
            obtain ⟨q1, q2⟩ := row_each (T := T) rfl s0 hK I hrl hv fun x hx => (h1 x hx).1
            obtain ⟨as, has⟩ := each_readsAll toPy q2
            refine ⟨as, has, fun i v h' tk bs hi hrd hk => ?_⟩
            have hi' : its[i]? = some v := by simpa using hi
            obtain ⟨e, e1, w, e2, e3⟩ := each_get q1 i v hi'
            obtain ⟨e', e1', as', e4⟩ := each_get q2 i v hi'
            rw [e1] at e1'; cases e1'
            have e5 := (Reads.unique (PyProof.Rows.Reads.keeps hk e4) _ _ hrd).1
            rw [hg xs x h5] at e5
            have hem : e ∈ x :: xs := List.mem_of_getElem? e1
            have := toPy_inj _ _ (h1 e hem).1 (h1 _ (hm xs x)).1 e5
            subst this
            exact ⟨w, H, I.kept hk, e2, q _ e3⟩
          cases d0 with
          | lst l =>
            cases hrow
            obtain ⟨a, ws, rfl, e1, l1, r2⟩ := rep_lst ry
            obtain ⟨its, rv, hl, hz⟩ := I.list (SqL.of (s0 _ _ e1))
            rw [Vals.ref1 r]
            obtain ⟨as, has, hfin⟩ := fin ws its r2 rv
            exact hL (I.ok.hd hc) hl.isList (by simpa using has) ha hdep hfin
          | tup l =>
            cases hrow
            obtain ⟨a, ws, rfl, e1, l1, r2⟩ := rep_tup ry
            have sq : SqT X.K H a ws := by rw [hK]; exact (e1.mono s0).sq
            obtain ⟨its, rv, hl, hz⟩ := I.tuple sq
            rw [Vals.ref1 r]
            obtain ⟨as, has, hfin⟩ := fin ws its r2 rv
            exact hT (I.ok.hd hc) hl (by simpa using has) ha hdep hfin
          | _ => cases hrow
        · cases hod
  · cases hod
def mm2 (g : Int → Int → Int) : List D → Option D
  | [.int i, .int j] => some (.int (g i j))
  | _ => none
theorem cr_mm2 {id : String} {g : Int → Int → Int} (h : CallR X (.builtin id) (fun xs H Q => ∃ i j, xs = [.int i, .int j] ∧ Q (.int (g i j)) H)) : CallR X (.builtin id) (rData T (mm2 g)) := by
  intro pins s σ H vs us Q I r ⟨F, ds, d', s0, hr, hod, q⟩
  refine h pins s σ H vs us Q I r ?_
  unfold mm2 at hod
  split at hod
  · rename_i i j
    cases hod
    obtain ⟨x, y, rfl, rx, ry⟩ := call2 hr
    obtain rfl := rep_int rx
    obtain rfl := rep_int ry
    exact ⟨i, j, rfl, q _ mk_int⟩
  · cases hod
theorem data_or {f : Value} {o o' od : List D → Option D} (h : CallR X f (rData T o)) (h' : CallR X f (rData T o')) (e : ∀ ds d, od ds = some d → o ds = some d ∨ o' ds = some d) : CallR X f (rData T od) := by
  intro pins s σ H vs us Q I r ⟨F, ds, l, s0, hr, hod, q⟩
  rcases e _ _ hod with e | e
  · exact h pins s σ H vs us Q I r ⟨F, ds, l, s0, hr, e, q⟩
  · exact h' pins s σ H vs us Q I r ⟨F, ds, l, s0, hr, e, q⟩
theorem cr_minD (hc : X.calm = true) (hu : X.A.units + 180 < cLine) (hK : X.K = T.K := by rfl) : CallR X (.builtin "min") (rData T PP.minD) :=
  data_or (cr_mm2 (call_min2 hc)) (cr_mm hc hu minL_py minL_mem min_list_data min_tuple_data hK) fun ds d h => by
    unfold PP.minD at h
    split at h
    · exact .inl h
    · exact .inr h
    · cases h
theorem cr_maxD (hc : X.calm = true) (hu : X.A.units + 180 < cLine) (hK : X.K = T.K := by rfl) : CallR X (.builtin "max") (rData T PP.maxD) :=
  data_or (cr_mm2 (call_max2 hc)) (cr_mm hc hu maxL_py maxL_mem max_list_data max_tuple_data hK) fun ds d h => by
    unfold PP.maxD at h
    split at h
    · exact .inl h
    · exact .inr h
    · cases h
end
end PP

set_option Elab.async false
set_option linter.all false
set_option maxRecDepth 100000
set_option maxHeartbeats 4000000
/-! an exception that carries what it was made with; the field read in the clause that caught it -/
namespace PP
open PySem L2
open PyProof.Rows (envOfC)
/-- what is known of a class of the module that leaves __init__ to ValueError -/
structure FinC (K : PySem.W.Frag) (B : Addr) : Prop where
  ga : PySem.W.specialIn K (.ref B) "__getattribute__" = some (some (.builtin "type.__getattribute__"))
  ty : PySem.W.typeIn K (.ref B) = some (.type "type")
  rd : PySem.W.readsIn K B (.type "type") = true
  fi : PySem.W.findCls K (.ref B) (.type "type") "__init__" = some (.val (.builtin "ValueError.__init__"))
section
variable {X : Cx} {o e : Expr} {es : List Expr} {ta : TA} {p1 p2 pos : Pos}
theorem pe_finit {pl : Sem Bool} {B : Addr} {x : Str} (T : FinC X.K B) (hg : Gl X x) (hm : X.mg x = some (.ref B)) (ha : PA X (e :: es) ta)
    (hdb : (x == ("__debug__" : Str)) = false := by decide)
    (hc : eval (.Call (.Attribute (.Name x p1) "__init__" p2) (e :: es) [] pos) X.env = (do
      let ov ← eval (.Name x p1) X.env
      standAt p2.atName
      let (f, first) ← holding [ov] (getMethod ov "__init__" pl)
      callWith pos f first (backTo pos (starEach (e :: es) X.env)) (backToKw pos (keywordEach [] X.env))) := by rfl)
    (he : starEach (e :: es) X.env = (false, eval e X.env) :: starEach es X.env := by rfl) (hpl : (backTo pos (starEach es X.env)).any (·.1) = false := by rfl) :
    PE X (.Call (.Attribute (.Name x p1) "__init__" p2) (e :: es) [] pos) (tVeI X.K ta) := by
  refine ⟨fun pins s σ H Q I h => ?_⟩
  refine PySem.W.methodCall_KW (ld_glob I hg hm ?_ hdb) hc
  obtain ⟨m, fr⟩ := I.fr
  refine PySem.W.method_of_cls fr I.ok.mod.kin T.ga (PySem.W.cls_val fr I.ok.mod.kin T.ty T.rd T.fi (by decide +kernel) ?_)
  show wpAny _ _ (callWith pos (Value.builtin "ValueError.__init__") [] (backTo pos (starEach (e :: es) X.env)) []) _ _ _
  refine PyProof.Rows.callWith_method1 (thn (ha.run pos pins _ σ H _ (I.tok _) h) fun us s1 ⟨vs, H1, I1, r1, a, C, ws, ev, hl, T, ea, q⟩ => ?_) he hpl
  subst ev
  cases r1 with
  | @cons _ u0 _ ur ra rw' =>
    obtain rfl : u0 = Value.ref a := ra
    have hlen : ur.length ≤ sizeLine := by
      rw [← Paired.length rw', sizeLine_eq]
      omega
    exact oinit_ok T I1 ea hlen fun s' J => ⟨.non, H1, J, rfl, q⟩
end
/-- the __init__ that hands what it is given on and keeps it -/
def spPay (K : PySem.W.Frag) (nm : Str) : Sp := fun vs H Q E => ∃ a C v, vs = [.ref a, v] ∧ OexC K C ∧ PySem.W.findIn K (.ref C) nm = some none ∧ H a = some (exo a C none) ∧ ∀ dx, H dx = none → dx ≠ a → Q .non (upd (upd H dx (exd dx [(nm, v)])) a (exo a C (some dx)))
def tPay (K : PySem.W.Frag) (nm : Str) : TS := tSeq (tDrop (tVeI K (tCons (tVar 0) (tCons (tVar 1) tNil)))) (tOst K nm (tVar 0) (tVar 1))
theorem pay_mk {P : Program} {w : World} {K : PySem.W.Frag} {mg : Str → Option Value} {base : Heap} {x qual nm : Str} {st : Stmt} {fA : Addr} {fd : FuncData} {N ps : List Str} (F : Fun K x qual st fA fd) (Sc : FnScope N ps (defScope st)) (hN : N = [("self" : Str), nm]) (hps : ps = [("self" : Str), nm])
    (hp : ∀ (cdv : Value) (A : Around) (outer : List PySem.Env) (s : Shared) (H : Hp) (E : XK), PSs (cxOf (L2.CX P w) P w K mg base N qual (defScope st) fA cdv A outer s H E) (defBody st) (tPay K nm)) :
    FnOk P w K mg base (L2.CX P w) 1 fA fd ps (spPay K nm) := by
  subst hN
  subst hps
  refine F.okX Sc (fun vs H Q E ⟨a, C, v, e, _⟩ => by rw [e]; rfl) fun cdv A outer s H vs Q E hr ⟨a, C, v, e, oc, nf, ea, hq⟩ => ?_
  subst e
  refine ⟨_, hp cdv A outer s H E, ?_⟩
  refine ⟨.ref a, rfl, v, rfl, a, C, [v], rfl, by simp, oc, ea, ?_⟩
  exact ⟨v, rfl, .ref a, rfl, a, C, rfl, oc, nf, .inl ⟨ea, fun dx n ne => hq dx n ne⟩⟩
theorem passes_never {X : Cx} {P : Program} {w : World} : Passes (L2.CX P w) X (fun _ _ _ => False) := fun pins σ H s e s' I c => by
  obtain ⟨a, B, H', cls, d, rfl, fl, hok, ub, na, os, ag, hE⟩ := c
  exact hE.elim
section
variable {X : Cx} {T : Tb} {Z : Act} {W : WX} {own ob own1 : List Nat} {e : Expr} {fe : PP.X} {p pos pos2 : Pos} {x : Str}
theorem s_raiseP {cn k : Nat} {C fI : Addr} {fd : FuncData} {ps : List Str} {nm : Str} (hc : X.calm = true) (tk : Takes X W) (oc : OexC T.K C) (nf : PySem.W.findIn T.K (.ref C) nm = some none) (iC : PySem.W.findIn T.K (.ref C) "__init__" = some (some (.ref fI))) (tI : PySem.W.typeIn T.K (.ref fI) = some (.type "function"))
    (F1 : FnOk X.prog X.w X.K X.mg X.base (L2.CX X.prog X.w) k fI fd ps (spPay T.K nm)) (hb : Binds T.K fd ps []) (hr : Room (k + 1) X.A) (hg : Gl X x) (hm : X.mg x = some (.ref C)) (he : XE X T Z W own e fe) (hT : T.exA cn = some C) (hF : T.exF cn = [nm]) (hK : X.K = T.K := by rfl)
    (hdb : (x == ("__debug__" : Str)) = false := by decide) (hs1 : starEach [e] X.env = (false, eval e X.env) :: starEach [] X.env := by rfl) (hpl : (backTo pos (starEach [] X.env)).any (·.1) = false := by rfl) :
    YS X T Z W own ob (.Raise (some (.Call (.Name x p) [e] [] pos)) none pos2) (sRaise cn (aCons fe aNil)) own1 := by
  refine PS.imp (ps_raise hc tk (pmk_oex (dvs := []) (hK ▸ oc) (hK ▸ iC) (hK ▸ tI) F1 hr (hK ▸ hb) .nil passes_never hg hm (pa_cons he pa_nil (hs := hs1)) (hdb := hdb) (he := hs1) (hpl := hpl))) fun D σ H ⟨kp, F, ρ, g, c, q⟩ => ?_
  have q' : rQ T Z W kp F σ ρ (fun d g => exQ T Z W kp F ρ (.mk cn [d]) g) (fe ρ g) := by
    have := to_bind (σ := σ) q
    unfold aCons aNil at this
    cases hfe : fe ρ g with
    | ok d g1 => rw [hfe] at this; exact this
    | ex e g1 => rw [hfe] at this; exact this
    | bad => rw [hfe] at this; exact this
  show tP T Z W own fe σ H _
  refine tP.then c q' fun d g1 v F1' H1 q1 c1 s1 r1 => ?_
  have hl : [v].length ≤ 1000 := by simp
  refine ⟨hl, fun a na => ⟨a, C, v, rfl, oc, nf, upd_same, fun dx n ne => ⟨rfl, dx, [(nm, v)], upd_same, ?_, ?_, ?_⟩⟩⟩
  · rw [upd_ne (Ne.symm ne.symm)]; exact upd_same
  · rw [upd_ne ne] at n; exact n
  · have n1 : H1 dx = none := by rw [upd_ne ne] at n; exact n
    have eH : upd (del (upd (upd (upd H1 a (exo a C none)) dx (exd dx [(nm, v)])) a (exo a C (some dx))) a) dx (.xd [(nm, v)]) = upd H1 dx (.xd [(nm, v)]) := by
      funext b
      by_cases hb1 : b = dx
      · subst hb1; rw [upd_same, upd_same]
      · rw [upd_ne hb1, upd_ne hb1]
        by_cases hb2 : b = a
        · subst hb2; rw [del_same, na]
        · rw [del_ne hb2, upd_ne hb2, upd_ne hb1, upd_ne hb2]
    rw [eH]
    obtain ⟨F2, s2, c2⟩ := c1.freezeAll
    have gr : Grow F2 H1 (upd F2 dx (.xd [(nm, v)])) (upd H1 dx (.xd [(nm, v)])) := Grow.one c2.core.sub n1
    exact q1 (.ref C) (some dx) σ _ _ (c2.grow gr) (s1.trans (s2.trans gr.ff)) ⟨C, hT, rfl, .inr ⟨dx, [(nm, v)], rfl, upd_same, by rw [hF]; rfl, .cons ((r1.mono s2).mono gr.ff) .nil⟩⟩
/-- e.f in the clause that has caught e -/
theorem x_xfld {cn : Nat} {C a d : Addr} {oe : Obj} {pn : List (Addr × Obj)} {f : Str} (xc : XfC T.K C) (nf : PySem.W.findIn T.K (.ref C) f = some none) (hz : Zc (.ref C) (some d) oe) (hf : ∃ vs, oe.data = .fields vs) (hcl : T.clA cn = none) (hF : T.exF cn = [f])
    (he : XE (X.suite a ((a, oe) :: pn)) (T.at (some (a, d))) Z W own e fe) (hK : X.K = T.K := by rfl) (hb : attributeBase e f X.env (eval e X.env) = eval e X.env := by rfl) :
    XE (X.suite a ((a, oe) :: pn)) (T.at (some (a, d))) Z W own (.Attribute e f pos) (xUn (fldC cn 0) fe) := by
  refine PE.imp (pe_xf (hK ▸ xc) (hK ▸ nf) hz hf he hb) fun σ H Q ⟨kp, F, ρ, g, c, q⟩ => ?_
  unfold xUn at q
  refine tP.then c (rQ.bind q) fun d1 g1 v F1 H1 q1 c1 s1 r1 => ?_
  cases d1 with
  | ins c' fs =>
    unfold Rep at r1
    by_cases h : c' = cn
    · subst h
      rcases r1 with ⟨a', C', dx, ps, _, _, h3, _⟩ | ⟨a', d', ps, h1, h2, h3, h4, h5⟩
      · exact absurd (h3.symm.trans hcl) (by simp)
      · cases h1
        refine ⟨h2, rfl, d, ps, ?_⟩
        have h4' : ps.map (·.1) = [f] := h4.trans hF
        match ps, h4', h3, h5 with
        | [(f', v')], e1, h3, h5 =>
          simp at e1
          subst e1
          cases fs with
          | nil => exact absurd h5.length (by simp)
          | cons y r =>
            refine ⟨v', rfl, c1.core.sub _ _ h3, by simp [List.lookup], ?_⟩
            obtain ⟨z1, z2⟩ := by unfold RepL at h5; exact h5
            simp only [fldC, if_pos rfl, List.getElem?_cons_zero, ofO] at q1
            exact q1 v' F1 H1 c1 s1 z1
    · simp only [fldC, if_neg h, ofO] at q1
      exact q1.elim
  | _ => simp only [fldC, ofO] at q1; exact q1.elim
end
end PP

set_option Elab.async false
set_option linter.all false
set_option maxRecDepth 100000
set_option maxHeartbeats 4000000
/-! dicts new and shown; a text times a number; the item of a list of one's own -/
namespace PP
open PySem L2
open PyProof.Rows (envOfC)
section
variable {X : Cx} {T : Tb} {Z : Act} {W : WX} {own ob : List Nat} {e a b : Expr} {fa fb f : PP.X} {p pos : Pos}
theorem tPF.ofC {kp F H : Hp} {σ : St} {ρ : Env} {g : G} {Q : VK} {d : D} {o : HO} (c : Rel T Z own kp F H σ ρ g) (q : pF T Z own kp F σ ρ Q d g) (r : OwnC T F o d) :
    ∀ p, H p = none → Q (.ref p) (upd H p o) := fun p np => by
  have gr : Grow F H F (upd H p o) := ⟨.refl _, (Sub.refl H).upd np, fun a o e => by rw [upd_ne (ne_of_none (c.core.sub a o e) np)]; exact c.core.sub a o e, fun a o e => .inl e⟩
  refine q p F _ (c.grow gr) (.refl _) ⟨c.core.sub.none np, c.core.kph.none np, c.core.atNone np, c.core.ne_gen np, _, upd_same, r⟩ fun j hj e => ?_
  obtain ⟨p', ds', h1, h2, w, h4⟩ := c.own_ j hj
  rw [h1] at e
  cases e
  obtain ⟨us, h5, _⟩ := w.at_
  rw [np] at h5; cases h5
theorem f_dic0 : XF X T Z W own (.Dict [] [] pos) xDic0 := PE.imp pe_dnewK fun σ H Q ⟨kp, F, ρ, g, c, q⟩ =>
  fun p np => tPF.ofC c q ⟨[], rfl, by decide, .nil, .nil⟩ p np
theorem tPairs_imp {kp : Hp} {σ : St} {ρ : Env} : ∀ (ps : List (PP.X × PP.X)) {H : Hp} {g : G} {F1 : Hp} {Q : List (V × V) → Hp → Prop}, Rel T Z own kp F1 H σ ρ g →
    rQ T Z W kp F1 σ ρ (fun l g' => ∀ (vs : List (V × V)) F' H', Rel T Z own kp F' H' σ ρ g' → Sub F1 F' → RepL T F' (vs.map (·.1)) (l.map (·.1)) → RepL T F' (vs.map (·.2)) (l.map (·.2)) → Q vs H') (xPairs ps ρ g) →
    tPairs (ps.map fun p => (tP T Z W own p.1, tP T Z W own p.2)) σ H Q
  | [], H, g, F1, Q, c, h => h [] F1 H c (.refl _) .nil .nil
  | (k, v) :: r, H, g, F1, Q, c, h => by
    unfold xPairs at h
    show tP T Z W own k σ H _
    refine tP.then c (rQ.bind h) fun dk g1 vk F2 H2 q2 c2 s2 r2 => ?_
    show tP T Z W own v σ H2 _
    refine tP.then c2 (rQ.up s2 (rQ.bind q2) fun _ _ x => x) fun dv g2 vv F3 H3 q3 c3 s3 r3 => ?_
    refine tPairs_imp r c3 ?_
    refine rQ.up (s2.trans s3) (rQ.bind q3) fun l g4 q4 vs F' H' c' s' ra rb => ?_
    exact q4 ((vk, vv) :: vs) F' H' c' (s2.trans (s3.trans s')) (.cons (Rep.mono (s3.trans s') _ _ r2) ra) (.cons (Rep.mono s' _ _ r3) rb)
theorem merge_rep {F : Hp} : ∀ (l : List (PP.D × PP.D)) {kvs more : List (Key × V)} {ks ds : List PP.D} {vs : List (V × V)}, RepL T F (vs.map (·.1)) (l.map (·.1)) → RepL T F (vs.map (·.2)) (l.map (·.2)) → vs = more.map (fun kv => (kV kv.1, kv.2)) →
    RepL T F (kvs.map fun kv => kV kv.1) ks → RepL T F (kvs.map (·.2)) ds → kvs.length + l.length < LIM → OwnC T F (.dK (mergeK kvs more)) (putAll l ks ds)
  | [], kvs, more, ks, ds, vs, ra, rb, e, r1, r2, hl => by
    have : vs = [] := by
      have := RepL.length ra
      simpa using this
    subst this
    have : more = [] := by simpa using e.symm
    subst this
    exact ⟨kvs, rfl, by simp at hl; omega, r1, r2⟩
  | (dk, dv) :: l, kvs, more, ks, ds, vs, ra, rb, e, r1, r2, hl => by
    cases vs with
    | nil => exact absurd ra.length (by simp)
    | cons p vs =>
      cases more with
      | nil => cases e
      | cons m more =>
        simp only [List.map_cons, List.cons.injEq] at e
        obtain ⟨rfl, e⟩ := e
        obtain ⟨_, _, z1, ra1, ra2⟩ := ra.inv
        cases z1
        obtain ⟨_, _, z1, rb1, rb2⟩ := rb.inv
        cases z1
        have hl' : kvs.length < LIM := by simp at hl; omega
        have o := dput_rep ra1 rb1 r1 r2 hl'
        have hm : mergeK kvs (m :: more) = mergeK (putK kvs m.1 m.2) more := rfl
        rw [hm]
        unfold putAll
        cases hd : dPut dk dv ks ds with
        | dic ks' vs' =>
          rw [hd] at o
          obtain ⟨kvs', e1, e2, e3, e4⟩ := o
          cases e1
          refine merge_rep l ra2 rb2 e e3 e4 ?_
          have := length_putK kvs m.1 m.2
          simp at hl
          omega
        | _ => unfold dPut at hd; split at hd <;> cases hd
theorem keys_of {F : Hp} : ∀ (l : List (PP.D × PP.D)) {vs : List (V × V)}, RepL T F (vs.map (·.1)) (l.map (·.1)) → RepL T F (vs.map (·.2)) (l.map (·.2)) → (l.all fun kv => isKey kv.1) = true → ∃ more : List (Key × V), vs = more.map (fun kv => (kV kv.1, kv.2)) ∧ more.length = l.length
  | [], vs, ra, rb, h => by
    have : vs = [] := by
      have := RepL.length ra
      simpa using this
    exact ⟨[], by simpa using this, rfl⟩
  | (dk, dv) :: l, vs, ra, rb, h => by
    cases vs with
    | nil => exact absurd ra.length (by simp)
    | cons p vs =>
      obtain ⟨_, _, z1, ra1, ra2⟩ := ra.inv
      cases z1
      obtain ⟨_, _, z1, rb1, rb2⟩ := rb.inv
      cases z1
      simp only [List.all_cons, Bool.and_eq_true] at h
      obtain ⟨k, hk⟩ := key_of_rep h.1 ra1
      obtain ⟨more, e, hl⟩ := keys_of l ra2 rb2 h.2
      exact ⟨(k, p.2) :: more, by rw [e, List.map_cons, ← hk], by simp [hl]⟩
/-- the pairs of a display -/
def XPs (X : Cx) (T : Tb) (Z : Act) (W : WX) (own : List Nat) (pos : Pos) (keys : List (Option Expr)) (values : List Expr) (ps : List (PP.X × PP.X)) : Prop :=
  PPs X pos keys values (ps.map fun p => (tP T Z W own p.1, tP T Z W own p.2)) ∧ keys.length = ps.length
theorem ds_nil : XPs X T Z W own pos [] [] [] := ⟨pps_nil, rfl⟩
theorem ds_cons {k v : Expr} {fk fv : PP.X} {ks : List (Option Expr)} {vs : List Expr} {ps : List (PP.X × PP.X)} (hk : XE X T Z W own k fk) (hv : XE X T Z W own v fv) (h : XPs X T Z W own pos ks vs ps) : XPs X T Z W own pos (some k :: ks) (v :: vs) ((fk, fv) :: ps) :=
  ⟨pps_cons hk hv h.1, by simp [h.2]⟩
theorem xPairs_len {ρ : Env} : ∀ (ps : List (PP.X × PP.X)) {g g' : G} {l : List (PP.D × PP.D)}, xPairs ps ρ g = .ok l g' → l.length = ps.length
  | [], g, g', l, h => by cases h; rfl
  | (k, v) :: r, g, g', l, h => by
    unfold xPairs at h
    cases hk : k ρ g with
    | ok dk g1 =>
      rw [hk] at h
      simp only [PP.R.bind_ok] at h
      cases hv : v ρ g1 with
      | ok dv g2 =>
        rw [hv] at h
        simp only [PP.R.bind_ok] at h
        cases hr : xPairs r ρ g2 with
        | ok l' g3 =>
          rw [hr] at h
          simp only [PP.R.bind_ok, PP.R.ok.injEq] at h
          obtain ⟨rfl, _⟩ := h
          simp [xPairs_len r hr]
        | ex e g3 => rw [hr] at h; cases h
        | bad => rw [hr] at h; cases h
      | ex e g3 => rw [hv] at h; cases h
      | bad => rw [hv] at h; cases h
    | ex e g3 => rw [hk] at h; cases h
    | bad => rw [hk] at h; cases h
theorem f_disp {keys : List (Option Expr)} {values : List Expr} {ps : List (PP.X × PP.X)} (h : XPs X T Z W own pos keys values ps) (hall : keys.all (·.isSome) = true := by rfl) (hl : keys.length = values.length := by rfl) (h0 : keys ≠ [] := by simp) (h15 : keys.length ≤ 15 := by decide) :
    XF X T Z W own (.Dict keys values pos) (xDisp ps) := PE.imp (pe_disp h.1 hall hl h0 h15) fun σ H Q ⟨kp, F, ρ, g, c, q⟩ => by
  intro p np
  have z0 := c.core.atNone np
  have zg := c.core.ne_gen np
  have zk := c.core.kph.none np
  have hk : Sub kp (upd kp p (.dK [])) := (Sub.refl kp).upd zk
  unfold xDisp at q
  refine tPairs_imp ps (c.keep (o := .dK []) np) ((rQ.bind q).kpw hk |>.imp fun l g1 q1 vs F1 H1 c1 s1 ra rb => ?_)
  cases hb : decide (l.length ≤ 15) && l.all fun kv => isKey kv.1 with
  | false => simp only [hb] at q1; exact q1.elim
  | true =>
    simp only [hb] at q1
    obtain ⟨b1, b2⟩ := Bool.and_eq_true_iff.mp hb
    have b1' := of_decide_eq_true b1
    obtain ⟨more, e, hm⟩ := keys_of l ra rb b2
    refine ⟨c1.core.kph p _ upd_same, more, e, by omega, ?_⟩
    have o := merge_rep l (kvs := []) (ks := []) (ds := []) ra rb e .nil .nil (by simp; exact Nat.lt_of_le_of_lt b1' (by decide))
    have c2 : Rel T Z own kp F1 (upd H1 p (.dK (mergeK [] more))) σ ρ g1 := (c1.kset z0).kpw (fun a o e => by rw [upd_ne (fun z => by rw [z, zk] at e; cases e)]; exact e)
    refine q1 p F1 _ c2 s1 ⟨c1.core.kpf p _ upd_same, zk, z0, zg, _, upd_same, o⟩ fun j hj e => ?_
    obtain ⟨p', ds', k1, k2, w', k4⟩ := c.own_ j hj
    rw [k1] at e
    cases e
    obtain ⟨vs', k5, _⟩ := w'.at_
    rw [np] at k5; cases k5
end
end PP

set_option Elab.async false
set_option linter.all false
set_option maxRecDepth 100000
set_option maxHeartbeats 4000000
namespace PP
open PySem L2
open PyProof.Rows (envOfC)
/-! ### a text times a number -/
def rMulS : R2 := fun x y H Q => ∃ z k, x = .str z ∧ y = .int k ∧ MulOk z k ∧ Q (.str (Txt.mul z k)) H
theorem op_mulS {X : Cx} : OpR X (binaryOp .Mult) rMulS := by
  intro pins s σ H x y v u Q I rx ry h
  obtain ⟨z, k, rfl, rfl, ok, q⟩ := h
  obtain ⟨t, rfl⟩ : ∃ t, v = .str z t := rx
  obtain ⟨tu, rfl⟩ : ∃ t, u = Value.int k t := ry
  exact SB.mul ok fun t' m => ⟨V.str (Txt.mul z k), H, I.tok m, ⟨t', rfl⟩, q⟩
theorem rep_foldl (a : List Nat) : ∀ (n : Nat) (acc : Array Nat), (List.replicate n a.toArray).foldl (· ++ ·) acc = ⟨acc.toList ++ repL n a⟩
  | 0, acc => by simp [repL]
  | n + 1, acc => by
    rw [List.replicate_succ, List.foldl_cons, rep_foldl a n]
    simp [repL, List.replicate_succ]
theorem txt_mul (a : List Nat) (k : Int) : Txt.mul ⟨a.toArray⟩ k = ⟨(repL k.toNat a).toArray⟩ := by
  unfold Txt.mul
  by_cases h1 : k < 1
  · rw [if_pos h1]
    have : k.toNat = 0 := by omega
    rw [this]; rfl
  · rw [if_neg h1]
    by_cases h2 : (k == 1 || (⟨a.toArray⟩ : Str).length == 0) = true
    · rw [if_pos h2]
      simp only [Bool.or_eq_true, beq_iff_eq] at h2
      rcases h2 with rfl | h2
      · simp [repL]
      · have : a = [] := by
          have e : (⟨a.toArray⟩ : Str).length = a.length := by rfl
          rw [e] at h2
          exact List.length_eq_zero_iff.mp h2
        subst this
        simp [repL]
    · rw [if_neg h2, rep_foldl]
      simp
theorem mulS_ok {a : List Nat} {k : Int} (h : cntOk a.length k = true) : MulOk ⟨a.toArray⟩ k := by
  simp only [cntOk, Bool.and_eq_true, decide_eq_true_eq] at h
  obtain ⟨h1, h2⟩ := h
  have e : (⟨a.toArray⟩ : Str).length = a.length := rfl
  have hl : (LIM : Nat) ≤ 16777216 := by decide
  unfold MulOk
  rw [e]
  refine ⟨?_, fun hk hc => ?_, fun hk hc => ?_⟩
  · simp only [Bool.or_eq_false_iff, decide_eq_false_iff_not]
    omega
  · have hk' : 0 < k := by omega
    intro hgt
    have h3 := Int.lt_ediv_add_one_mul_self ((2 : Int) ^ 63 - 1) hk'
    have h4 : ((2 : Int) ^ 63 - 1) / k + 1 ≤ (a.length : Int) := by omega
    have h5 : (((2 : Int) ^ 63 - 1) / k + 1) * k ≤ (a.length : Int) * k := Int.mul_le_mul_of_nonneg_right h4 (by omega)
    have h6 : (a.length : Int) * k = ((a.length * k.toNat : Nat) : Int) := by
      rw [Int.natCast_mul, Int.toNat_of_nonneg (by omega)]
    rw [h6] at h5
    omega
  · have : a.length * k.toNat ≤ 16777216 := by omega
    unfold PySem.Builtin.Str.tooLong
    simp
    first
      | omega
      | (have := sizeLine_eq; omega)
theorem op_mulB {X : Cx} : OpR X (binaryOp .Mult) (fun x y H Q => rMulA X.K x y H Q ∨ rMulS x y H Q) := op_mulA.or op_mulS
theorem bin_mul2 {T : Tb} : BinOk T (fun x y H Q => rMulA T.K x y H Q ∨ rMulS x y H Q) mulD2 := by
  intro F H x y d1 d2 d Q s r1 r2 e k
  by_cases hs : ∃ a i, d1 = .str a ∧ d2 = .int i
  · obtain ⟨a, i, rfl, rfl⟩ := hs
    simp only [mulD2, Option.ite_none_right_eq_some, Option.some.injEq] at e
    obtain ⟨h, rfl⟩ := e
    obtain ⟨rfl, l1, l2⟩ := rep_str r1
    obtain rfl := rep_int r2
    refine .inr ⟨_, _, rfl, rfl, mulS_ok h, ?_⟩
    rw [txt_mul]
    refine k _ F H (.refl s) ?_
    unfold Rep
    simp only [cntOk, Bool.and_eq_true, decide_eq_true_eq] at h
    refine ⟨rfl, ?_, fun c hc => ?_⟩
    · have : (repL i.toNat a).length = i.toNat * a.length := by simp [repL]
      rw [this, Nat.mul_comm]; exact h.2
    · unfold repL at hc
      obtain ⟨l, hl, hc'⟩ := List.mem_flatten.mp hc
      obtain ⟨_, rfl⟩ := List.mem_replicate.mp hl
      exact l2 c hc'
  · have e' : mulD d1 d2 = some d := by
      rw [← e]
      cases d1 <;> cases d2 <;> first | rfl | exact absurd ⟨_, _, rfl, rfl⟩ hs
    exact .inl (bin_mul F H x y d1 d2 d Q s r1 r2 e' k)
section
variable {X : Cx} {T : Tb} {Z : Act} {W : WX} {own ob : List Nat} {a b : Expr} {fa fb : PP.X} {x y : Str} {i j : Nat} {px py pt pos : Pos} {kt k2 : Nat} {pt2 : Pos}
/-- x, y = a new thing, a new thing: both owners -/
theorem s_parFF (hc : X.calm = true) (hN : X.N.Nodup) (hi : X.N[i]? = some x) (hj : X.N[j]? = some y) (hij : i ≠ j)
    (hx : X.env.scope.names.lookup x = some .local) (hy : X.env.scope.names.lookup y = some .local) (ha : XF X T Z W own a fa) (hb : XF X T Z W own b fb)
    (hw : swappedStores [.Tuple [.Name x px, .Name y py] kt pt] (.Tuple [a, b] k2 pt2) X.env = pure (some [x, y])) (hio : i ∉ own) (hjo : j ∉ own)
    (hs : swapsWithSole [.Tuple [.Name x px, .Name y py] kt pt] (.Tuple [a, b] k2 pt2) pos.line X.env = pure false := by rfl) (hs1 : starEach [a, b] X.env = (false, eval a X.env) :: starEach [b] X.env := by rfl) (hs2 : starEach [b] X.env = (false, eval b X.env) :: starEach [] X.env := by rfl) :
    YS X T Z W own ob (.Assign [.Tuple [.Name x px, .Name y py] kt pt] (.Tuple [a, b] k2 pt2) pos) (sPar i j fa fb) (j :: i :: own) :=
  PS.imp (ps_par hc hN hi hj hij hx hy (pa_cons ha (pa_cons hb pa_nil hs2) hs1) hw hs) fun D σ H ⟨kp, F, ρ, g, c, q⟩ => by
    refine tPF.then c (to_bind (σ := σ) q) fun ds g1 p F1 H1 q1 c1 s1 w n => ?_
    obtain ⟨us, r, ch⟩ := c1.hold w n
    have zk := w.k
    have ks : Sub kp (upd kp p us) := (Sub.refl kp).upd zk
    refine tPF.then ch (((to_bind (σ := σ) q1).up s1 fun _ _ z => z).kpw ks) fun d g2 p2 F2 H2 q2 c2 s2 w2 n2 => ?_
    by_cases hlr : i < ρ.length ∧ j < ρ.length
    · simp only [if_pos hlr] at q2
      obtain ⟨c3, w3, n3⟩ := c2.unhold zk w.h0 (r.mono s2) w.g
      have hp2 : p2 ≠ p := fun z => by
        have := w2.k
        rw [z, upd_same] at this
        cases this
      have w4 : Own T Z kp F2 H2 p2 d := ⟨w2.f, by have := w2.k; rw [upd_ne hp2] at this; exact this, w2.h0, w2.g, w2.at_⟩
      refine ⟨.ref p, .ref p2, rfl, q2 _ F2 H2 ((c3.take w3 n3 hio hlr.1).take w4 (fun m hm => ?_) (fun h => (List.mem_cons.mp h).elim (fun e => hij e.symm) hjo) (by simpa using hlr.2)) (s1.trans s2)⟩
      by_cases hmi : m = i
      · subst hmi
        rw [List.getElem?_set_self (by rw [c3.len]; exact hlr.1)]
        exact fun e => hp2 (by cases e; rfl)
      · rw [List.getElem?_set_ne (Ne.symm hmi)]
        exact n2 m ((List.mem_cons.mp hm).resolve_left hmi)
    · simp only [if_neg hlr] at q2
      exact q2.elim
theorem PT.imp' {X : Cx} {e : Expr} {t t' : TT} (h : PT X e t) (i : ∀ σ H Q, t' σ H Q → t σ H Q) : PT X e t' := ⟨fun pins s σ H Q I w => h.run pins s σ H Q I (i σ H Q w)⟩
/-- a test may read what is one's own -/
theorem xt_flat {e : Expr} {f : XT} (h : XTt X T Z W [] e f) : XTt X T Z W own e f := PT.imp' h fun σ H Q ⟨kp, F, ρ, g, c, q⟩ => by
  obtain ⟨F2, s2, c2⟩ := c.freezeAll
  exact ⟨kp, F2, ρ, g, c2, rQ.up s2 q fun b g1 p F' H' c' s' => p F H' (c.thaw s2 c2 c' s') (.refl _)⟩
/-- own[k] -/
theorem x_ixO {npos : Pos} (hN : X.N[i]? = some x) (hv : Vis X.env.scope x) (hi : i ∈ own) (hb : XE X T Z W own b fb) (hK : X.K = T.K := by rfl)
    (hd : (x == ("__debug__" : Str)) = false := by decide) (hcd : (x == ("__classdict__" : Str)) = false := by decide) (hs : PlainIx b := by intro _ _; rfl) : XE X T Z W own (.Subscript (.Name x npos) b pos) (xIxO i fb) := by
  have h1 := pe_ix (ix_seq (X := X)) (pe_var (pos := npos) hN hv hd hcd) hb hs (pos := pos)
  rw [hK] at h1
  refine PE.imp h1 fun σ H Q ⟨kp, F, ρ, g, c, q⟩ => ?_
  obtain ⟨p, d0, k1, k2, w, k4⟩ := c.own_ i hi
  refine ⟨_, k1, ?_⟩
  unfold xIxO at q
  refine tP.then c (rQ.bind q) fun d g1 v F1 H1 q1 c1 s1 r1 => ?_
  obtain ⟨p', d0', k1', k2', w', k4'⟩ := c1.own_ i hi
  rw [k1] at k1'; cases k1'
  rw [k2] at k2'; cases k2'
  simp only [k2] at q1
  cases d0 with
  | lst l =>
    cases d with
    | int z =>
      obtain rfl := rep_int r1
      simp only at q1
      obtain ⟨dd, e1, e2⟩ := rQ.ofO (H := H1) q1
      obtain ⟨us, z1, z2, z3⟩ := w'.lst
      obtain ⟨vv, y1, y2⟩ := atI_rep z3 e1
      exact .inl ⟨p, us, z, vv, rfl, rfl, SqL.of z1, y1, e2 vv F1 H1 c1 s1 y2⟩
    | _ => exact q1.elim
  | _ => exact q1.elim
end
end PP
namespace PP
theorem room9 {k : Nat} {A : PySem.Around} (r : L2.Room k A) : A.units + 180 < PySem.cLine := by have := r.un; omega
end PP

namespace K23
open PP
set_option linter.all false
def F_law_take : FN := takeF
def law_word_c0 : X := xLc [3] (iRng1 (xVar 2)) (gName 3) tYes (xBin ixD (xC (.str [97, 98, 99, 100])) (xCall F_law_take (aCons (xVar 0) (aCons (xVar 1) aNil))))
def B_law_word : S := (sRet (xSM joinD (xC (.str [])) (law_word_c0)))
def F_law_word : FN := fnOf 4 B_law_word
def law_places_c0 : X := xLc [2] (iRng1 (xBin addD (xBin subD (xCB lenD (aCons (xVar 0) aNil)) (xCB lenD (aCons (xVar 1) aNil))) (xC (.int 1)))) (gName 2) (tV (xBin eqD (xSlice (xVar 0) (some (xVar 2)) (some (xBin addD (xVar 2) (xCB lenD (aCons (xVar 1) aNil))))) (xVar 1))) (xVar 2)
def B_law_places : S := (sRet (law_places_c0))
def F_law_places : FN := fnOf 3 B_law_places
def B_is_integer : S := (sRet (xAnd (xUn (isKd .int) (xVar 0)) (xNot (xUn (isKd .bool) (xVar 0)))))
def F_is_integer : FN := fnOf 1 B_is_integer
def B_check_from : S := (sIf (tOr (tNot (tV (xCall F_is_integer (aCons (xVar 0) aNil)))) (tNot (tV (xChain leD leD (xVar 1) (xVar 0) (xVar 2))))) (sRaise 0 aNil) sNop)
def F_check_from : FN := fnOf 3 B_check_from
def is_word_c0 : X := xLc [2] (iSeq (xVar 0)) (gName 2) tYes (xBin inD (xVar 2) (xSlice (xC (.str [97, 98, 99, 100])) none (some (xVar 1))))
def B_is_word : S := (sRet (xAnd (xUn (isKd .str) (xVar 0)) (xAnd (xBin leD (xCB lenD (aCons (xVar 0) aNil)) (xC (.int 200))) (xCB allD (aCons (is_word_c0) aNil)))))
def F_is_word : FN := fnOf 3 B_is_word
def check_word_s0 : S := (sExpr (xCall F_check_from (aCons (xVar 1) (aCons (xC (.int 1)) (aCons (xC (.int 4)) aNil)))))
def check_word_s1 : S := (sIf (tNot (tV (xCall F_is_word (aCons (xVar 0) (aCons (xVar 1) aNil))))) (sRaise 0 aNil) sNop)
def B_check_word : S := (sSeq check_word_s0 check_word_s1)
def F_check_word : FN := fnOf 2 B_check_word
def return_words_s0 : S := (sExpr (xCall F_check_word (aCons (xVar 0) (aCons (xC (.int 4)) aNil))))
def return_words_s1 : S := (sIf (tOr (tNot (tV (xUn (isKd .str) (xVar 1)))) (tOr (tV (xBin eqD (xVar 1) (xC (.str [])))) (tNot (tV (xCall F_is_word (aCons (xVar 1) (aCons (xC (.int 4)) aNil))))))) (sRaise 0 aNil) sNop)
def return_words_c0 : X := xLc [6] (iRng1 (xBin addD (xBin subD (xCB lenD (aCons (xVar 0) aNil)) (xCB lenD (aCons (xVar 1) aNil))) (xC (.int 1)))) (gName 6) (tV (xBin eqD (xSlice (xVar 0) (some (xVar 6)) (some (xBin addD (xVar 6) (xCB lenD (aCons (xVar 1) aNil))))) (xVar 1))) (xVar 6)
def return_words_s2 : S := (sSet (gName 2) (return_words_c0))
def return_words_s3 : S := (sSet (gName 3) (xLst aNil))
def return_words_b1 : S := (sSeq (sIf (tV (xBin ninD (xSlice (xVar 0) (some (xVar 4)) (some (xVar 5))) (xVar 3))) (sApp 3 (xSlice (xVar 0) (some (xVar 4)) (some (xVar 5)))) sNop) (sKill [4, 5]))
def return_words_s4 : S := (sSeq (sFor (gTup [(gName 4), (gName 5)]) (iZipA (xVar 2) (xSlice (xVar 2) (some (xC (.int 1))) none)) return_words_b1) (sKill [4, 5]))
def return_words_s5 : S := (sRet (xCB tupleD (aCons (xVar 3) aNil)))
def return_words_t4 : S := sSeq return_words_s4 return_words_s5
def return_words_t3 : S := sSeq return_words_s3 return_words_t4
def return_words_t2 : S := sSeq return_words_s2 return_words_t3
def return_words_t1 : S := sSeq return_words_s1 return_words_t2
def B_return_words : S := (sSeq return_words_s0 return_words_t1)
def F_return_words : FN := fnOf 7 B_return_words
def B_law_is_whole : S := (sRet (xAnd (xUn (isKd .int) (xVar 0)) (xNot (xUn (isKd .bool) (xVar 0)))))
def F_law_is_whole : FN := fnOf 1 B_law_is_whole
def law_same_s0 (self : FN) : S := (sIf (tV (xUn (isKd .bool) (xVar 1))) (sRet (xAnd (xUn (isKd .bool) (xVar 0)) (xBin eqD (xVar 0) (xVar 1)))) sNop)
def law_same_c0 (self : FN) : X := xLc [2] (iRng1 (xCB lenD (aCons (xVar 1) aNil))) (gName 2) tYes (xCall self (aCons (xBin ixD (xVar 0) (xVar 2)) (aCons (xBin ixD (xVar 1) (xVar 2)) aNil)))
def law_same_s1 (self : FN) : S := (sIf (tV (xUn (isKd .tuple) (xVar 1))) (sRet (xAnd (xUn (isKd .tuple) (xVar 0)) (xAnd (xBin eqD (xCB lenD (aCons (xVar 0) aNil)) (xCB lenD (aCons (xVar 1) aNil))) (xCB allD (aCons (law_same_c0 self) aNil))))) sNop)
def law_same_s2 (self : FN) : S := (sIf (tV (xUn (isKd .list) (xVar 1))) (sRet (xAnd (xUn (isKd .list) (xVar 0)) (xCall self (aCons (xCB tupleD (aCons (xVar 0) aNil)) (aCons (xCB tupleD (aCons (xVar 1) aNil)) aNil))))) sNop)
def law_same_s3 (self : FN) : S := (sIf (tV (xUn (isKd .str) (xVar 1))) (sRet (xAnd (xUn (isKd .str) (xVar 0)) (xBin eqD (xVar 0) (xVar 1)))) sNop)
def law_same_s4 (self : FN) : S := (sIf (tV (xUn isNonD (xVar 1))) (sRet (xUn isNonD (xVar 0))) sNop)
def law_same_s5 (self : FN) : S := (sRet (xAnd (xCall F_law_is_whole (aCons (xVar 0) aNil)) (xBin eqD (xVar 0) (xVar 1))))
def law_same_t4 (self : FN) : S := sSeq (law_same_s4 self) (law_same_s5 self)
def law_same_t3 (self : FN) : S := sSeq (law_same_s3 self) (law_same_t4 self)
def law_same_t2 (self : FN) : S := sSeq (law_same_s2 self) (law_same_t3 self)
def law_same_t1 (self : FN) : S := sSeq (law_same_s1 self) (law_same_t2 self)
def B_law_same (self : FN) : S := (sSeq (law_same_s0 self) (law_same_t1 self))
def R_law_same : Nat → FN
  | 0 => fun _ _ => .bad
  | n + 1 => fnOf 3 (B_law_same (R_law_same n))
def F_law_same : FN := R_law_same 16
def derived_word_s0 : S := (sSet (gName 2) (xCall F_return_words (aCons (xVar 0) (aCons (xVar 1) aNil))))
def derived_word_s1 : S := (sIf (tV (xBin gtD (xCB lenD (aCons (xVar 2) aNil)) (xC (.int 4)))) (sRaise 1 (aCons (xC (.str [109, 97, 110, 121])) aNil)) sNop)
def derived_word_c0 : X := xLc [4] (iRng1 (xBin addD (xBin subD (xCB lenD (aCons (xVar 0) aNil)) (xCB lenD (aCons (xVar 1) aNil))) (xC (.int 1)))) (gName 4) (tV (xBin eqD (xSlice (xVar 0) (some (xVar 4)) (some (xBin addD (xVar 4) (xCB lenD (aCons (xVar 1) aNil))))) (xVar 1))) (xVar 4)
def derived_word_s2 : S := (sSet (gName 3) (derived_word_c0))
def derived_word_c1 : X := xLc [5, 6] (iZipA (xVar 3) (xSlice (xVar 3) (some (xC (.int 1))) none)) (gTup [(gName 5), (gName 6)]) tYes (xBin ixD (xC (.str [97, 98, 99, 100])) (xIdx (xVar 2) (xSlice (xVar 0) (some (xVar 5)) (some (xVar 6)))))
def derived_word_s3 : S := (sRet (xSM joinD (xC (.str [])) (derived_word_c1)))
def derived_word_t2 : S := sSeq derived_word_s2 derived_word_s3
def derived_word_t1 : S := sSeq derived_word_s1 derived_word_t2
def B_derived_word : S := (sSeq derived_word_s0 derived_word_t1)
def F_derived_word : FN := fnOf 7 B_derived_word
def tbl_1 : Nat → FN := fun n => ([fun _ _ => .bad, fun _ _ => .bad] : List FN).getD n (fun _ _ => .bad)
def tbl_2 : Nat → FN := fun n => ([F_derived_word, F_return_words] : List FN).getD n (fun _ _ => .bad)
def tbl_3 : Nat → FN := fun n => ([fun _ _ => .bad, fun _ _ => .bad] : List FN).getD n (fun _ _ => .bad)
def tbl_4 : Nat → FN := fun n => ([fun _ _ => .bad, fun _ _ => .bad] : List FN).getD n (fun _ _ => .bad)
def law_told_h0 : S := (sRet (xTup (aCons (xC (.str [114, 101, 102, 117, 115, 101, 100])) (aCons (xUn (fldC 1 0) (xVar 2)) aNil))))
def B_law_told : S := (sTry (sSeq (sIf (tV (xBin eqD (xCB lenD (aCons (xVar 1) aNil)) (xC (.int 1)))) (sRet (xTup (aCons (xC (.str [116, 111, 108, 100])) (aCons (xCallV tbl_1 (xVar 0) (aCons (xBin ixD (xVar 1) (xC (.int 0))) aNil)) aNil)))) sNop) (sSeq (sIf (tV (xBin eqD (xCB lenD (aCons (xVar 1) aNil)) (xC (.int 2)))) (sRet (xTup (aCons (xC (.str [116, 111, 108, 100])) (aCons (xCallV tbl_2 (xVar 0) (aCons (xBin ixD (xVar 1) (xC (.int 0))) (aCons (xBin ixD (xVar 1) (xC (.int 1))) aNil))) aNil)))) sNop) (sSeq (sIf (tV (xBin eqD (xCB lenD (aCons (xVar 1) aNil)) (xC (.int 3)))) (sRet (xTup (aCons (xC (.str [116, 111, 108, 100])) (aCons (xCallV tbl_3 (xVar 0) (aCons (xBin ixD (xVar 1) (xC (.int 0))) (aCons (xBin ixD (xVar 1) (xC (.int 1))) (aCons (xBin ixD (xVar 1) (xC (.int 2))) aNil)))) aNil)))) sNop) (sRet (xTup (aCons (xC (.str [116, 111, 108, 100])) (aCons (xCallV tbl_4 (xVar 0) (aCons (xBin ixD (xVar 1) (xC (.int 0))) (aCons (xBin ixD (xVar 1) (xC (.int 1))) (aCons (xBin ixD (xVar 1) (xC (.int 2))) (aCons (xBin ixD (xVar 1) (xC (.int 3))) aNil))))) aNil))))))) [(0, none, (sRet (xTup (aCons (xC (.str [109, 97, 108, 102, 111, 114, 109, 101, 100])) (aCons (xC .non) aNil))))), (1, some 2, law_told_h0)])
def F_law_told : FN := fnOf 3 B_law_told
def Growing_init_s0 : S := (sIf (tOr (tNot (tV (xUn (isKd .tuple) (xVar 1)))) (tNot (tV (xChain leD leD (xC (.int 1)) (xCB lenD (aCons (xVar 1) aNil)) (xC (.int 4)))))) (sRaise 0 aNil) sNop)
def Growing_init_c0 : X := xLc [2] (iSeq (xVar 1)) (gName 2) tYes (xAnd (xCall F_is_word (aCons (xVar 2) (aCons (xCB lenD (aCons (xVar 1) aNil)) aNil))) (xChain leD leD (xC (.int 1)) (xCB lenD (aCons (xVar 2) aNil)) (xC (.int 6))))
def Growing_init_s1 : S := (sIf (tNot (tV (xCB allD (aCons (Growing_init_c0) aNil)))) (sRaise 0 aNil) sNop)
def J_Growing_init : XJ := (jSeq Growing_init_s0 (jSeq Growing_init_s1 (jFld (xCB lenD (aCons (xVar 1) aNil)) (jFld (xVar 1) jNil))))
noncomputable def F_Growing_init : FN := initF 2 3 J_Growing_init
def named_rule_s0 : S := (sSet (gName 1) (xDisp [((xC (.str [103, 111, 108, 100, 101, 110])), (xTup (aCons (xC (.str [97, 98])) (aCons (xC (.str [97])) aNil)))), ((xC (.str [100, 111, 117, 98, 108, 101])), (xTup (aCons (xC (.str [97, 98])) (aCons (xC (.str [98, 97])) aNil)))), ((xC (.str [112, 101, 114, 105, 111, 100])), (xTup (aCons (xC (.str [97, 98])) (aCons (xC (.str [97, 97])) aNil)))), ((xC (.str [116, 104, 114, 101, 101])), (xTup (aCons (xC (.str [97, 98])) (aCons (xC (.str [97, 99])) (aCons (xC (.str [97])) aNil)))))]))
def named_rule_s1 : S := (sSet (gName 2) (xDisp [((xC (.str [112, 97, 112, 101, 114])), (xTup (aCons (xC (.str [97, 98])) (aCons (xC (.str [99, 98])) (aCons (xC (.str [97, 100])) (aCons (xC (.str [99, 100])) aNil)))))), ((xC (.str [116, 104, 114, 101, 101, 32, 108, 105, 110, 101, 115])), (xTup (aCons (xC (.str [97, 98, 97])) (aCons (xC (.str [98, 98, 98])) aNil))))]))
def named_rule_s2 : S := (sIf (tOr (tNot (tV (xUn (isKd .str) (xVar 0)))) (tAnd (tV (xBin ninD (xVar 0) (xVar 1))) (tV (xBin ninD (xVar 0) (xVar 2))))) (sRaise 0 aNil) sNop)
noncomputable def named_rule_s3 : S := (sRet (xCall F_Growing_init (aCons (xIf (tV (xBin inD (xVar 0) (xVar 1))) (xBin ixD (xVar 1) (xVar 0)) (xBin ixD (xVar 2) (xVar 0))) aNil)))
noncomputable def named_rule_t2 : S := sSeq named_rule_s2 named_rule_s3
noncomputable def named_rule_t1 : S := sSeq named_rule_s1 named_rule_t2
noncomputable def B_named_rule : S := (sSeq named_rule_s0 named_rule_t1)
noncomputable def F_named_rule : FN := fnOf 3 B_named_rule
def B_check_growing : S := (sIf (tNot (tV (xUn (isC 2) (xVar 0)))) (sRaise 0 aNil) sNop)
def F_check_growing : FN := fnOf 1 B_check_growing
def fixed_letters_s0 : S := (sExpr (xCall F_check_growing (aCons (xVar 0) aNil)))
def fixed_letters_c0 : X := xLc [1, 2] (iZipA (xC (.str [97, 98, 99, 100])) (xUn (fldC 2 1) (xVar 0))) (gTup [(gName 1), (gName 2)]) (tAnd (tV (xBin eqD (xBin ixD (xVar 2) (xC (.int 0))) (xVar 1))) (tV (xBin gtD (xCB lenD (aCons (xVar 2) aNil)) (xC (.int 1))))) (xVar 1)
def fixed_letters_s1 : S := (sRet (xCB tupleD (aCons (fixed_letters_c0) aNil)))
def B_fixed_letters : S := (sSeq fixed_letters_s0 fixed_letters_s1)
def F_fixed_letters : FN := fnOf 3 B_fixed_letters
def fixed_start_s0 : S := (sExpr (xCall F_check_growing (aCons (xVar 0) aNil)))
def fixed_start_s1 : S := (sIf (tV (xBin ninD (xVar 1) (xCall F_fixed_letters (aCons (xVar 0) aNil)))) (sRaise 0 aNil) sNop)
def fixed_start_s2 : S := (sExpr (xCall F_check_from (aCons (xVar 2) (aCons (xC (.int 1)) (aCons (xC (.int 500)) aNil)))))
def fixed_start_s3 : S := (sSet (gName 3) (xVar 1))
def fixed_start_b0 : S := (sSeq (sIf (tV (xBin ltD (xCB lenD (aCons (xVar 4) aNil)) (xVar 2))) (sSet (gName 4) (xBin addD (xVar 4) (xBin ixD (xUn (fldC 2 1) (xVar 0)) (xSM indexD (xC (.str [97, 98, 99, 100])) (xVar 5))))) sNop) (sKill [5]))
def fixed_start_b1 : S := (sSeq (sSeq (sSet (gName 4) (xC (.str []))) (sSeq (sSeq (sFor (gName 5) (iSeq (xVar 3)) fixed_start_b0) (sKill [5])) (sSeq (sIf (tV (xBin eqD (xVar 4) (xVar 3))) (sRaise 1 (aCons (xC (.str [115, 104, 111, 114, 116])) aNil)) sNop) (sSet (gName 3) (xVar 4))))) (sKill [4, 5]))
def fixed_start_s4 : S := (sSeq (sWhile WFUEL (tV (xBin ltD (xCB lenD (aCons (xVar 3) aNil)) (xVar 2))) fixed_start_b1) (sKill [4, 5]))
def fixed_start_s5 : S := (sRet (xSlice (xVar 3) none (some (xVar 2))))
def fixed_start_t4 : S := sSeq fixed_start_s4 fixed_start_s5
def fixed_start_t3 : S := sSeq fixed_start_s3 fixed_start_t4
def fixed_start_t2 : S := sSeq fixed_start_s2 fixed_start_t3
def fixed_start_t1 : S := sSeq fixed_start_s1 fixed_start_t2
def B_fixed_start : S := (sSeq fixed_start_s0 fixed_start_t1)
def F_fixed_start : FN := fnOf 6 B_fixed_start
def letter_table_s0 : S := (sExpr (xCall F_check_growing (aCons (xVar 0) aNil)))
def letter_table_c0 : X := xLc [2] (iSeq (xSlice (xC (.str [97, 98, 99, 100])) none (some (xUn (fldC 2 0) (xVar 0))))) (gName 2) tYes (xSM countD (xVar 1) (xVar 2))
def letter_table_c1 : X := xLc [1] (iSeq (xUn (fldC 2 1) (xVar 0))) (gName 1) tYes (xCB tupleD (aCons (letter_table_c0) aNil))
def letter_table_s1 : S := (sRet (xCB tupleD (aCons (letter_table_c1) aNil)))
def B_letter_table : S := (sSeq letter_table_s0 letter_table_s1)
def F_letter_table : FN := fnOf 3 B_letter_table
def is_row_c0 : X := xLc [1] (iSeq (xVar 0)) (gName 1) tYes (xCall F_is_integer (aCons (xVar 1) aNil))
def B_is_row : S := (sRet (xAnd (xUn (isKd .tuple) (xVar 0)) (xCB allD (aCons (is_row_c0) aNil))))
def F_is_row : FN := fnOf 2 B_is_row
def is_table_s0 : S := (sIf (tOr (tNot (tV (xUn (isKd .tuple) (xVar 0)))) (tV (xBin gtD (xCB lenD (aCons (xVar 0) aNil)) (xC (.int 12))))) (sRet (xC (.bl false))) sNop)
def is_table_c0 : X := xLc [1] (iSeq (xVar 0)) (gName 1) tYes (xAnd (xCall F_is_row (aCons (xVar 1) aNil)) (xAnd (xBin eqD (xCB lenD (aCons (xVar 1) aNil)) (xCB lenD (aCons (xVar 0) aNil))) (xBin geD (xCB minD (aCons (xBin addD (xVar 1) (xTup (aCons (xC (.int 0)) aNil))) aNil)) (xC (.int 0)))))
def is_table_s1 : S := (sRet (xCB allD (aCons (is_table_c0) aNil)))
def B_is_table : S := (sSeq is_table_s0 is_table_s1)
def F_is_table : FN := fnOf 2 B_is_table
def is_primitive_s0 : S := (sIf (tNot (tV (xCall F_is_table (aCons (xVar 0) aNil)))) (sRaise 0 aNil) sNop)
def is_primitive_s1 : S := (sSet (gName 1) (xCB lenD (aCons (xVar 0) aNil)))
def is_primitive_s2 : S := (sIf (tV (xBin eqD (xVar 1) (xC (.int 0)))) (sRet (xC (.bl false))) sNop)
def is_primitive_c0 : X := xLc [7] (iSeq (xVar 6)) (gName 7) tYes (xCB minD (aCons (xVar 7) (aCons (xC (.int 1)) aNil)))
def is_primitive_c1 : X := xLc [6] (iSeq (xVar 0)) (gName 6) tYes (xCB tupleD (aCons (is_primitive_c0) aNil))
def is_primitive_s3 : S := (sSet (gName 2) (xCB tupleD (aCons (is_primitive_c1) aNil)))
def is_primitive_s4 : S := (sSet (gName 3) (xVar 2))
def is_primitive_c2 : X := xLc [6] (iSeq (xVar 2)) (gName 6) tYes (xBin gtD (xCB minD (aCons (xVar 6) aNil)) (xC (.int 0)))
def is_primitive_c3 : X := xLc [9, 7] (iEnumA (xVar 6)) (gTup [(gName 9), (gName 7)]) tYes (xBin mulD (xVar 7) (xBin ixD (xBin ixD (xVar 3) (xVar 9)) (xVar 8)))
def is_primitive_c4 : X := xLc [8] (iRng1 (xVar 1)) (gName 8) tYes (xCB minD (aCons (xCB sumD (aCons (is_primitive_c3) aNil)) (aCons (xC (.int 1)) aNil)))
def is_primitive_b5 : S := (sApp 5 (xCB tupleD (aCons (is_primitive_c4) aNil)))
def is_primitive_b6 : S := (sSeq (sSeq (sIf (tV (xCB allD (aCons (is_primitive_c2) aNil))) (sRet (xC (.bl true))) sNop) (sSeq (sSet (gName 5) (xLst aNil)) (sSeq (sFor (gName 6) (iSeq (xVar 2)) is_primitive_b5) (sSet (gName 2) (xCB tupleD (aCons (xVar 5) aNil)))))) (sKill [4, 5]))
def is_primitive_s5 : S := (sSeq (sFor (gName 4) (iRng1 (xBin addD (xBin subD (xBin mulD (xVar 1) (xVar 1)) (xBin mulD (xC (.int 2)) (xVar 1))) (xC (.int 2)))) is_primitive_b6) (sKill [2, 4, 5, 6]))
def is_primitive_s6 : S := (sRet (xC (.bl false)))
def is_primitive_t5 : S := sSeq is_primitive_s5 is_primitive_s6
def is_primitive_t4 : S := sSeq is_primitive_s4 is_primitive_t5
def is_primitive_t3 : S := sSeq is_primitive_s3 is_primitive_t4
def is_primitive_t2 : S := sSeq is_primitive_s2 is_primitive_t3
def is_primitive_t1 : S := sSeq is_primitive_s1 is_primitive_t2
def B_is_primitive : S := (sSeq is_primitive_s0 is_primitive_t1)
def F_is_primitive : FN := fnOf 10 B_is_primitive
def is_steady_s0 : S := (sExpr (xCall F_check_growing (aCons (xVar 0) aNil)))
def is_steady_c0 : X := xLc [1] (iSeq (xUn (fldC 2 1) (xVar 0))) (gName 1) tYes (xBin gtD (xCB lenD (aCons (xVar 1) aNil)) (xC (.int 1)))
def is_steady_s1 : S := (sRet (xAnd (xCall F_is_primitive (aCons (xCall F_letter_table (aCons (xVar 0) aNil)) aNil)) (xCB anyD (aCons (is_steady_c0) aNil))))
def B_is_steady : S := (sSeq is_steady_s0 is_steady_s1)
def F_is_steady : FN := fnOf 2 B_is_steady
def Growing_on_c0 : X := xLc [3] (iSeq (xVar 1)) (gName 3) tYes (xBin inD (xVar 3) (xSlice (xC (.str [97, 98, 99, 100])) none (some (xUn (fldC 2 0) (xVar 0)))))
def Growing_on_s0 : S := (sIf (tOr (tNot (tV (xUn (isKd .str) (xVar 1)))) (tOr (tV (xBin gtD (xCB lenD (aCons (xVar 1) aNil)) (xC (.int 3000)))) (tNot (tV (xCB allD (aCons (Growing_on_c0) aNil)))))) (sRaise 0 aNil) sNop)
def Growing_on_c1 : X := xLc [3] (iSeq (xVar 1)) (gName 3) tYes (xBin ixD (xUn (fldC 2 1) (xVar 0)) (xSM indexD (xC (.str [97, 98, 99, 100])) (xVar 3)))
def Growing_on_s1 : S := (sSet (gName 2) (xSM joinD (xC (.str [])) (Growing_on_c1)))
def Growing_on_s2 : S := (sIf (tV (xBin gtD (xCB lenD (aCons (xVar 2) aNil)) (xC (.int 3000)))) (sRaise 1 (aCons (xC (.str [108, 111, 110, 103])) aNil)) sNop)
def Growing_on_s3 : S := (sRet (xVar 2))
def Growing_on_t2 : S := sSeq Growing_on_s2 Growing_on_s3
def Growing_on_t1 : S := sSeq Growing_on_s1 Growing_on_t2
def B_Growing_on : S := (sSeq Growing_on_s0 Growing_on_t1)
def F_Growing_on : FN := fnOf 4 B_Growing_on
def factors_of_c0 : X := xLc [2] (iRng1 (xBin addD (xBin subD (xCB lenD (aCons (xVar 0) aNil)) (xVar 1)) (xC (.int 1)))) (gName 2) tYes (xSlice (xVar 0) (some (xVar 2)) (some (xBin addD (xVar 2) (xVar 1))))
def B_factors_of : S := (sRet (factors_of_c0))
def F_factors_of : FN := fnFof 3 B_factors_of
def grown_words_s0 : S := (sExpr (xCall F_check_growing (aCons (xVar 0) aNil)))
def grown_words_s1 : S := (sExpr (xCall F_check_from (aCons (xVar 1) (aCons (xC (.int 0)) (aCons (xC (.int 8)) aNil)))))
def grown_words_s2 : S := (sIf (tNot (tV (xCall F_is_steady (aCons (xVar 0) aNil)))) (sRaise 1 (aCons (xC (.str [115, 116, 101, 97, 100, 121])) aNil)) sNop)
def grown_words_s3 : S := (sIf (tV (xBin leD (xVar 1) (xC (.int 1)))) (sRet (xIf (tV (xBin eqD (xVar 1) (xC (.int 0)))) (xLst (aCons (xC (.str [])) aNil)) (xCB listD2 (aCons (xSlice (xC (.str [97, 98, 99, 100])) none (some (xUn (fldC 2 0) (xVar 0)))) aNil)))) sNop)
def grown_words_c0 : X := xLc [3] (iSeq (xUn (fldC 2 1) (xVar 0))) (gName 3) tYes (xCB lenD (aCons (xVar 3) aNil))
def grown_words_s4 : S := (sSet (gName 2) (xCB maxD (aCons (grown_words_c0) aNil)))
def grown_words_c1 : X := xLc [6, 7] (iZipA (xC (.str [97, 98, 99, 100])) (xUn (fldC 2 1) (xVar 0))) (gTup [(gName 6), (gName 7)]) (tV (xBin eqD (xCB lenD (aCons (xVar 7) aNil)) (xVar 2))) (xVar 6)
def grown_words_s5 : S := (sSet (gName 3) (xBin ixD (grown_words_c1) (xC (.int 0))))
def grown_words_b2 : S := (sSet (gName 3) (xMeth 2 F_Growing_on (xVar 0) (aCons (xVar 3) aNil)))
def grown_words_s6 : S := (sWhile WFUEL (tV (xBin ltD (xCB lenD (aCons (xVar 3) aNil)) (xVar 1))) grown_words_b2)
def grown_words_s7 : S := (sPar 4 5 xDic0 (xCall F_factors_of (aCons (xVar 3) (aCons (xVar 1) aNil))))
def grown_words_b3 : S := (sSeq (sSeq (sPopTo (gName 3) 5) (sIf (tV (xBin ninD (xVar 3) (xVar 4))) (sSeq (sPut 4 (xVar 3) (xC (.bl true))) (sExt 5 (xCall F_factors_of (aCons (xMeth 2 F_Growing_on (xVar 0) (aCons (xVar 3) aNil)) (aCons (xVar 1) aNil))))) sNop)) (sKill [3]))
def grown_words_s8 : S := (sSeq (sWhile WFUEL (tV (xBin gtD (xCB lenD (aCons (xVar 5) aNil)) (xC (.int 0)))) grown_words_b3) (sKill [3]))
def grown_words_s9 : S := (sRet (xCB sortedD (aCons (xVar 4) aNil)))
def grown_words_t8 : S := sSeq grown_words_s8 grown_words_s9
def grown_words_t7 : S := sSeq grown_words_s7 grown_words_t8
def grown_words_t6 : S := sSeq grown_words_s6 grown_words_t7
def grown_words_t5 : S := sSeq grown_words_s5 grown_words_t6
def grown_words_t4 : S := sSeq grown_words_s4 grown_words_t5
def grown_words_t3 : S := sSeq grown_words_s3 grown_words_t4
def grown_words_t2 : S := sSeq grown_words_s2 grown_words_t3
def grown_words_t1 : S := sSeq grown_words_s1 grown_words_t2
def B_grown_words : S := (sSeq grown_words_s0 grown_words_t1)
def F_grown_words : FN := fnOf 8 B_grown_words
def law_s0 : S := (sSet (gName 2) (xBin addD (xC (.int 2)) (xCall F_law_take (aCons (xVar 1) (aCons (xC (.int 3)) aNil)))))
def law_s1 : S := (sSet (gName 3) (xCall F_law_word (aCons (xVar 1) (aCons (xVar 2) (aCons (xCall F_law_take (aCons (xVar 1) (aCons (xC (.int 40)) aNil))) aNil)))))
def law_s2 : S := (sPar 16 11 (xCall F_law_take (aCons (xVar 1) (aCons (xBin addD (xCB lenD (aCons (xVar 3) aNil)) (xC (.int 1))) aNil))) (xBin addD (xC (.int 1)) (xCall F_law_take (aCons (xVar 1) (aCons (xC (.int 3)) aNil)))))
def law_s3 : S := (sSet (gName 4) (xSlice (xVar 3) (some (xVar 16)) (some (xBin addD (xVar 16) (xVar 11)))))
def law_s4 : S := (sSet (gName 4) (xIf (tV (xBin neD (xVar 4) (xC (.str [])))) (xVar 4) (xC (.str [97]))))
def law_s5 : S := (sSet (gName 5) (xCall F_law_places (aCons (xVar 3) (aCons (xVar 4) aNil))))
def law_s6 : S := (sSet (gName 6) (xLst aNil))
def law_b0 : S := (sIf (tV (xBin ninD (xSlice (xVar 3) (some (xVar 17)) (some (xVar 18))) (xVar 6))) (sApp 6 (xSlice (xVar 3) (some (xVar 17)) (some (xVar 18)))) sNop)
def law_s7 : S := (sFor (gTup [(gName 17), (gName 18)]) (iZipA (xVar 5) (xSlice (xVar 5) (some (xC (.int 1))) none)) law_b0)
def law_s8 : S := (sIf (tNot (tV (xCall F_law_same (aCons (xCall F_return_words (aCons (xVar 3) (aCons (xVar 4) aNil))) (aCons (xCB tupleD (aCons (xVar 6) aNil)) aNil))))) (sRet (xC (.bl false))) sNop)
def law_s9 : S := (sSet (gName 7) (xCall F_law_told (aCons (xC (.fn 0)) (aCons (xTup (aCons (xVar 3) (aCons (xVar 4) aNil))) aNil))))
def law_c1 : X := xLc [17, 18] (iZipA (xVar 5) (xSlice (xVar 5) (some (xC (.int 1))) none)) (gTup [(gName 17), (gName 18)]) tYes (xBin ixD (xC (.str [97, 98, 99, 100])) (xIdx (xVar 6) (xSlice (xVar 3) (some (xVar 17)) (some (xVar 18)))))
def law_c2 : X := xLc [25] (iSeq (xVar 19)) (gName 25) tYes (xBin ixD (xVar 6) (xSM indexD (xC (.str [97, 98, 99, 100])) (xVar 25)))
def law_s10 : S := (sIf (tV (xBin gtD (xCB lenD (aCons (xVar 6) aNil)) (xC (.int 4)))) (sIf (tV (xBin neD (xVar 7) (xTup (aCons (xC (.str [114, 101, 102, 117, 115, 101, 100])) (aCons (xC (.str [109, 97, 110, 121])) aNil))))) (sRet (xC (.bl false))) sNop) (sSeq (sSet (gName 19) (xSM joinD (xC (.str [])) (law_c1))) (sSeq (sIf (tNot (tV (xCall F_law_same (aCons (xVar 7) (aCons (xTup (aCons (xC (.str [116, 111, 108, 100])) (aCons (xVar 19) aNil))) aNil))))) (sRet (xC (.bl false))) sNop) (sIf (tAnd (tV (xBin gtD (xCB lenD (aCons (xVar 5) aNil)) (xC (.int 0)))) (tV (xBin neD (xBin addD (xSM joinD (xC (.str [])) (law_c2)) (xVar 4)) (xSlice (xVar 3) (some (xBin ixD (xVar 5) (xC (.int 0)))) (some (xBin addD (xBin ixD (xVar 5) (xUn negD (xC (.int 1)))) (xCB lenD (aCons (xVar 4) aNil)))))))) (sRet (xC (.bl false))) sNop))))
def law_b3 : S := (sSeq (sIf (tV (xBin neD (xCall F_law_places (aCons (xBin addD (xVar 8) (xVar 4)) (aCons (xVar 4) aNil))) (xLst (aCons (xC (.int 0)) (aCons (xCB lenD (aCons (xVar 8) aNil)) aNil))))) (sRet (xC (.bl false))) sNop) (sKill [8]))
def law_s11 : S := (sSeq (sFor (gName 8) (iSeq (xVar 6)) law_b3) (sKill [8]))
noncomputable def law_s12 : S := (sSet (gName 9) (xCall F_named_rule (aCons (xC (.str [103, 111, 108, 100, 101, 110])) aNil)))
def law_s13 : S := (sSet (gName 10) (xCall F_fixed_start (aCons (xVar 9) (aCons (xC (.str [97])) (aCons (xC (.int 200)) aNil)))))
def law_s14 : S := (sSet (gName 11) (xBin addD (xC (.int 1)) (xCall F_law_take (aCons (xVar 1) (aCons (xC (.int 6)) aNil)))))
def law_s15 : S := (sSet (gName 12) (xCall F_grown_words (aCons (xVar 9) (aCons (xVar 11) aNil))))
def law_s16 : S := (sSet (gName 13) (xBin ixD (xVar 12) (xCall F_law_take (aCons (xVar 1) (aCons (xCB lenD (aCons (xVar 12) aNil)) aNil)))))
def law_s17 : S := (sSet (gName 14) (xCall F_return_words (aCons (xVar 10) (aCons (xVar 13) aNil))))
def law_c4 : X := xLc [24] (iSeq (xCall F_derived_word (aCons (xVar 10) (aCons (xVar 13) aNil)))) (gName 24) tYes (xBin ninD (xVar 24) (xC (.str [97, 98])))
def law_s18 : S := (sIf (tOr (tV (xBin neD (xCB lenD (aCons (xVar 14) aNil)) (xC (.int 2)))) (tOr (tV (xCB anyD (aCons (law_c4) aNil))) (tV (xBin gtD (xCB absD (aCons (xBin subD (xCB lenD (aCons (xBin ixD (xVar 14) (xC (.int 0))) aNil)) (xCB lenD (aCons (xBin ixD (xVar 14) (xC (.int 1))) aNil))) aNil)) (xC (.int 21)))))) (sRet (xC (.bl false))) sNop)
def law_s19 : S := (sPar 20 21 (xCall F_return_words (aCons (xVar 10) (aCons (xSlice (xVar 13) none (some (xC (.int 1)))) aNil))) (xCall F_derived_word (aCons (xVar 10) (aCons (xC (.str [97])) aNil))))
def law_c5 : X := xLc [25] (iSeq (xSlice (xVar 10) none (some (xCB lenD (aCons (xVar 21) aNil))))) (gName 25) tYes (xBin ixD (xC (.str [97, 98])) (xSM indexD (xC (.str [98, 97])) (xVar 25)))
def law_s20 : S := (sIf (tOr (tV (xBin neD (xCB lenD (aCons (xVar 20) aNil)) (xC (.int 2)))) (tAnd (tV (xBin neD (xVar 21) (xSlice (xVar 10) none (some (xCB lenD (aCons (xVar 21) aNil)))))) (tV (xBin neD (xVar 21) (xSM joinD (xC (.str [])) (law_c5)))))) (sRet (xC (.bl false))) sNop)
def law_s21 : S := (sIf (tOr (tV (xBin neD (xCall F_return_words (aCons (xC (.str [])) (aCons (xC (.str [97])) aNil))) (xTup aNil))) (tOr (tV (xBin neD (xCall F_derived_word (aCons (xC (.str [97])) (aCons (xC (.str [97])) aNil))) (xC (.str [])))) (tOr (tV (xBin neD (xCall F_return_words (aCons (xC (.str [97, 97, 97])) (aCons (xC (.str [97, 97])) aNil))) (xTup (aCons (xC (.str [97])) aNil)))) (tNot (tV (xCall F_law_same (aCons (xCall F_derived_word (aCons (xC (.str [97, 98, 99, 97, 99, 98])) (aCons (xC (.str [97])) aNil))) (aCons (xC (.str [97])) aNil)))))))) (sRet (xC (.bl false))) sNop)
def law_s22 : S := (sSet (gName 15) (xLst (aCons (xTup (aCons (xC (.fn 1)) (aCons (xTup (aCons (xVar 3) (aCons (xC (.str [])) aNil))) aNil))) (aCons (xTup (aCons (xC (.fn 1)) (aCons (xTup (aCons (xVar 3) (aCons (xC .non) aNil))) aNil))) (aCons (xTup (aCons (xC (.fn 1)) (aCons (xTup (aCons (xC (.int 5)) (aCons (xC (.str [97])) aNil))) aNil))) (aCons (xTup (aCons (xC (.fn 1)) (aCons (xTup (aCons (xC (.str [101])) (aCons (xC (.str [97])) aNil))) aNil))) (aCons (xTup (aCons (xC (.fn 1)) (aCons (xTup (aCons (xVar 3) (aCons (xC (.str [101])) aNil))) aNil))) aNil)))))))
def law_s23 : S := (sSet (gName 15) (xBin addD (xVar 15) (xLst (aCons (xTup (aCons (xC (.fn 0)) (aCons (xTup (aCons (xVar 3) (aCons (xC (.str [])) aNil))) aNil))) (aCons (xTup (aCons (xC (.fn 0)) (aCons (xTup (aCons (xC .non) (aCons (xC (.str [97])) aNil))) aNil))) (aCons (xTup (aCons (xC (.fn 0)) (aCons (xTup (aCons (xBin mulD2 (xC (.str [97])) (xC (.int 201))) (aCons (xC (.str [97])) aNil))) aNil))) aNil))))))
def law_c6 : X := xLc [22, 23] (iSeq (xVar 15)) (gTup [(gName 22), (gName 23)]) tYes (xBin ixD (xCall F_law_told (aCons (xVar 22) (aCons (xVar 23) aNil))) (xC (.int 0)))
def law_s24 : S := (sRet (xBin eqD (law_c6) (xBin mulD (xLst (aCons (xC (.str [109, 97, 108, 102, 111, 114, 109, 101, 100])) aNil)) (xC (.int 8)))))
def law_t23 : S := sSeq law_s23 law_s24
def law_t22 : S := sSeq law_s22 law_t23
def law_t21 : S := sSeq law_s21 law_t22
def law_t20 : S := sSeq law_s20 law_t21
def law_t19 : S := sSeq law_s19 law_t20
def law_t18 : S := sSeq law_s18 law_t19
def law_t17 : S := sSeq law_s17 law_t18
def law_t16 : S := sSeq law_s16 law_t17
def law_t15 : S := sSeq law_s15 law_t16
def law_t14 : S := sSeq law_s14 law_t15
def law_t13 : S := sSeq law_s13 law_t14
noncomputable def law_t12 : S := sSeq law_s12 law_t13
noncomputable def law_t11 : S := sSeq law_s11 law_t12
noncomputable def law_t10 : S := sSeq law_s10 law_t11
noncomputable def law_t9 : S := sSeq law_s9 law_t10
noncomputable def law_t8 : S := sSeq law_s8 law_t9
noncomputable def law_t7 : S := sSeq law_s7 law_t8
noncomputable def law_t6 : S := sSeq law_s6 law_t7
noncomputable def law_t5 : S := sSeq law_s5 law_t6
noncomputable def law_t4 : S := sSeq law_s4 law_t5
noncomputable def law_t3 : S := sSeq law_s3 law_t4
noncomputable def law_t2 : S := sSeq law_s2 law_t3
noncomputable def law_t1 : S := sSeq law_s1 law_t2
noncomputable def B_law : S := (sSeq law_s0 law_t1)
end K23

/-! PT2: what the operations do to Lean's own kinds (core Lean alone). -/
namespace PP
set_option linter.all false
set_option autoImplicit true
theorem mapD {o : Option D} : o = o.map cD := by cases o <;> rfl
theorem RmapD {r : R D} : r = r.map cD := by cases r <;> rfl
/-! ### == -/
def eqT [DecidableEq α] (a b : α) : Bool := decide (a = b)
def memT [DecidableEq α] (x : α) (l : List α) : Bool := decide (x ∈ l)
def EqC (c : α → D) [DecidableEq α] : Prop := ∀ a b, eqB (c a) (c b) = decide (a = b)
theorem eqc_int : EqC D.int := fun a b => by
  show (a == b) = decide (a = b)
  by_cases h : a = b
  · subst h; simp
  · simp [h]
theorem eqc_bl : EqC D.bl := fun a b => by cases a <;> cases b <;> rfl
theorem eqc_str : EqC D.str := fun a b => by
  show (a == b) = decide (a = b)
  by_cases h : a = b
  · subst h; simp
  · simp [h]
theorem eqBL_map [DecidableEq α] {c : α → D} (h : EqC c) : ∀ (l m : List α), eqBL (l.map c) (m.map c) = decide (l = m)
  | [], [] => by simp [eqBL]
  | [], _ :: _ => by simp [eqBL]
  | _ :: _, [] => by simp [eqBL]
  | x :: xs, y :: ys => by
    simp only [List.map_cons, eqBL, h x y, eqBL_map h xs ys, List.cons.injEq]
    by_cases h1 : x = y <;> by_cases h2 : xs = ys <;> simp [h1, h2]
theorem eqc_L [DecidableEq α] {c : α → D} (h : EqC c) : EqC (cL c) := fun a b => by simp only [cL, eqB]; exact eqBL_map h a b
theorem eqc_T [DecidableEq α] {c : α → D} (h : EqC c) : EqC (cT c) := fun a b => by simp only [cT, eqB]; exact eqBL_map h a b
theorem eqc_2 [DecidableEq α] [DecidableEq β] {c : α → D} {c' : β → D} (h : EqC c) (h' : EqC c') : EqC (c2 c c') := fun a b => by
  obtain ⟨a1, a2⟩ := a
  obtain ⟨b1, b2⟩ := b
  simp only [c2, eqB, eqBL, h a1 b1, h' a2 b2, Bool.and_true, Prod.mk.injEq]
  by_cases h1 : a1 = b1 <;> by_cases h2 : a2 = b2 <;> simp [h1, h2]
/-! plain shapes -/
def ShC (c : α → D) (n : Nat) : Prop := ∀ a, isDat (c a) = true ∧ dep (c a) ≤ n
theorem shc_int : ShC D.int 0 := fun a => ⟨rfl, by simp [dep]⟩
theorem shc_bl : ShC D.bl 0 := fun a => ⟨rfl, by simp [dep]⟩
theorem shc_str : ShC D.str 0 := fun a => ⟨rfl, by simp [dep]⟩
theorem sh_map {c : α → D} (h : ShC c n) : ∀ l : List α, isDatL (l.map c) = true ∧ depL (l.map c) ≤ n
  | [] => ⟨rfl, by simp [depL]⟩
  | x :: xs => by
    obtain ⟨h1, h2⟩ := h x
    obtain ⟨h3, h4⟩ := sh_map h xs
    simp only [List.map_cons, isDatL, depL, h1, h3, Bool.and_self, true_and]
    omega
theorem shc_L {c : α → D} (h : ShC c n) : ShC (cL c) (n + 1) := fun a => by
  obtain ⟨h1, h2⟩ := sh_map h a
  simp only [cL, isDat, dep, h1, true_and]
  omega
theorem shc_T {c : α → D} (h : ShC c n) : ShC (cT c) (n + 1) := fun a => by
  obtain ⟨h1, h2⟩ := sh_map h a
  simp only [cT, isDat, dep, h1, true_and]
  omega
theorem shc_2 {c : α → D} {c' : β → D} (h : ShC c n) (h' : ShC c' n) : ShC (c2 c c') (n + 1) := fun a => by
  obtain ⟨h1, h2⟩ := h a.1
  obtain ⟨h3, h4⟩ := h' a.2
  simp only [c2, isDat, isDatL, dep, depL, h1, h3, Bool.and_self, true_and]
  omega
theorem sh_ok {c : α → D} (h : ShC c n) (hn : n ≤ 64) (a : α) : shapeOk (c a) = true := by
  obtain ⟨h1, h2⟩ := h a
  simp only [shapeOk, h1, Bool.true_and, decide_eq_true_eq]; omega
theorem eq_C [DecidableEq α] {c : α → D} (h : EqC c) (s : ShC c n) (hn : n ≤ 64) (a b : α) : eqD (c a) (c b) = some (.bl (eqT a b)) := by
  simp only [eqD, sh_ok s hn, Bool.and_self, if_true, h a b, eqT]
theorem ne_C [DecidableEq α] {c : α → D} (h : EqC c) (s : ShC c n) (hn : n ≤ 64) (a b : α) : neD (c a) (c b) = some (.bl (!eqT a b)) := by
  simp only [neD, sh_ok s hn, Bool.and_self, if_true, h a b, eqT]
/-! ### rows -/
theorem len_L {c : α → D} {l : List α} : lenD [cL c l] = some (.int l.length) := by simp [lenD, cL]
theorem len_T {c : α → D} {l : List α} : lenD [cT c l] = some (.int l.length) := by simp [lenD, cT]
theorem it_map {c : α → D} {l : List α} {i : Int} : itD (l.map c) i = (itD l i).map c := by
  simp only [itD, List.length_map]
  cases plc l.length i with
  | none => rfl
  | some j => simp
theorem itx_L {c : α → D} {l : List α} {i : Int} : ixD (cL c l) (.int i) = (itD l i).map c := it_map
theorem itx_T {c : α → D} {l : List α} {i : Int} : ixD (cT c l) (.int i) = (itD l i).map c := it_map
def ixS (s : List Nat) (i : Int) : Option (List Nat) := (itD s i).map fun c => [c]
theorem itx_S {s : List Nat} {i : Int} : ixD (.str s) (.int i) = (ixS s i).map .str := by
  simp [ixD, ixS, Option.map_map, Function.comp_def]
def catO (a b : List α) : Option (List α) := if a.length + b.length ≤ LIM then some (a ++ b) else none
theorem add_S {a b : List Nat} : addD (.str a) (.str b) = (catO a b).map .str := by
  simp only [addD, catO]; split <;> rfl
theorem add_L {c : α → D} {a b : List α} : addD (cL c a) (cL c b) = (catO a b).map (cL c) := by
  simp only [addD, catO, cL, List.length_map]; split <;> simp [cL]
theorem add_T {c : α → D} {a b : List α} : addD (cT c a) (cT c b) = (catO a b).map (cT c) := by
  simp only [addD, catO, cT, List.length_map]; split <;> simp [cT]
def mulO (i j : Int) : Option Int := if mulOk i j then some (i * j) else none
theorem mul_I {i j : Int} : mulD (.int i) (.int j) = (mulO i j).map .int := by simp only [mulD, mulO]; split <;> rfl
def repO (a : List α) (k : Int) : Option (List α) := if cntOk a.length k then some (repL k.toNat a) else none
theorem mul_L {c : α → D} {a : List α} {k : Int} : mulD (cL c a) (.int k) = (repO a k).map (cL c) := by
  simp only [mulD, repO, cL, List.length_map]; split <;> simp [cL, repL, List.map_flatten]
theorem mul_S {a : List Nat} {k : Int} : mulD2 (.str a) (.int k) = (repO a k).map .str := by
  simp only [mulD2, repO]; split <;> rfl
def modO (i j : Int) : Option Int := if 0 < j then some (i % j) else none
theorem mod_I {i j : Int} : modD (.int i) (.int j) = (modO i j).map .int := by simp only [modD, modO]; split <;> rfl
def fdivO (i j : Int) : Option Int := if 0 < j ∧ j.natAbs < 1073741824 then some (i / j) else none
theorem fdiv_I {i j : Int} : fdivD (.int i) (.int j) = (fdivO i j).map .int := by simp only [fdivD, fdivO]; split <;> rfl
/-! in, index -/
def inS (x s : List Nat) : Option Bool := match x with
  | [c] => some (s.contains c)
  | _ => none
theorem in_S {x s : List Nat} : inD (.str x) (.str s) = (inS x s).map .bl := by
  unfold inD inB inS
  split <;> simp_all
theorem nin_S {x s : List Nat} : ninD (.str x) (.str s) = ((inS x s).map fun b => !b).map .bl := by
  unfold ninD inB inS
  split <;> simp_all
structure FlC (c : α → D) [DecidableEq α] : Prop where
  e : EqC c
  f : ∀ a, flatD (c a) = true
theorem flc_int : FlC D.int := ⟨eqc_int, fun _ => rfl⟩
theorem flc_str : FlC D.str := ⟨eqc_str, fun _ => rfl⟩
theorem flc_bl : FlC D.bl := ⟨eqc_bl, fun _ => rfl⟩
theorem any_C [DecidableEq α] {c : α → D} (h : FlC c) (x : α) : ∀ l : List α, ((l.map c).any fun y => eqB y (c x)) = decide (x ∈ l)
  | [] => by simp
  | y :: l => by
    have := any_C h x l
    simp only [List.map_cons, List.any_cons, h.e y x, this, List.mem_cons]
    by_cases h1 : y = x
    · subst h1; simp
    · simp [h1, Ne.symm h1]
theorem all_F [DecidableEq α] {c : α → D} (h : FlC c) (l : List α) : (l.map c).all flatD = true := by simp [h.f]
theorem inRow_C [DecidableEq α] {c : α → D} (h : FlC c) (x : α) (l : List α) : inRow (c x) (l.map c) = some (decide (x ∈ l)) := by
  simp only [inRow, h.f x, all_F h l, Bool.and_self, if_true, any_C h x l]
theorem inB_L [DecidableEq α] {c : α → D} (h : FlC c) (x : α) (l : List α) : inB (c x) (cL c l) = some (decide (x ∈ l)) := by
  have : inB (c x) (cL c l) = inRow (c x) (l.map c) := by
    unfold inB cL
    split <;> simp_all
  rw [this, inRow_C h]
theorem inB_T [DecidableEq α] {c : α → D} (h : FlC c) (x : α) (l : List α) : inB (c x) (cT c l) = some (decide (x ∈ l)) := by
  have : inB (c x) (cT c l) = inRow (c x) (l.map c) := by
    unfold inB cT
    split <;> simp_all
  rw [this, inRow_C h]
theorem in_L [DecidableEq α] {c : α → D} (h : FlC c) (x : α) (l : List α) : inD (c x) (cL c l) = some (.bl (memT x l)) := by rw [inD, inB_L h]; rfl
theorem in_T [DecidableEq α] {c : α → D} (h : FlC c) (x : α) (l : List α) : inD (c x) (cT c l) = some (.bl (memT x l)) := by rw [inD, inB_T h]; rfl
theorem nin_L [DecidableEq α] {c : α → D} (h : FlC c) (x : α) (l : List α) : ninD (c x) (cL c l) = some (.bl (!memT x l)) := by rw [ninD, inB_L h]; rfl
theorem nin_T [DecidableEq α] {c : α → D} (h : FlC c) (x : α) (l : List α) : ninD (c x) (cT c l) = some (.bl (!memT x l)) := by rw [ninD, inB_T h]; rfl
def idxO [DecidableEq α] (l : List α) (x : α) : Option Int := (l.findIdx? fun y => decide (y = x)).map fun (j : Nat) => (j : Int)
theorem idx_C [DecidableEq α] {c : α → D} (h : FlC c) (x : α) (l : List α) : idxRow (c x) (l.map c) = (idxO l x).map .int := by
  have e : ∀ y, eqB (c y) (c x) = decide (y = x) := fun y => h.e y x
  simp only [idxRow, h.f x, all_F h l, Bool.and_self, if_true, List.findIdx?_map, Function.comp_def, e, idxO, Option.map_map]
theorem idx_L [DecidableEq α] {c : α → D} (h : FlC c) (x : α) (l : List α) : idxD (cL c l) (c x) = (idxO l x).map .int := idx_C h x l
theorem idx_T [DecidableEq α] {c : α → D} (h : FlC c) (x : α) (l : List α) : idxD (cT c l) (c x) = (idxO l x).map .int := idx_C h x l
def indexO (s x : List Nat) : Option Int := match x with
  | [c] => if s.contains c then some (s.idxOf c : Nat) else none
  | _ => none
theorem index_S {s x : List Nat} : indexD s (.str x) = (indexO s x).map .int := by
  match x with
  | [] => rfl
  | [c] => simp only [indexD, indexO]; split <;> rfl
  | _ :: _ :: _ => rfl
def countO (s x : List Nat) : Option Int := match x with
  | [c] => some (s.count c : Nat)
  | _ => none
theorem count_S {s x : List Nat} : countD s (.str x) = (countO s x).map .int := by
  unfold countD countO
  split <;> simp_all
theorem starts_S {s x : List Nat} : startsD s (.str x) = some (.bl (x.isPrefixOf s)) := rfl
def joinO (sep : List Nat) (l : List (List Nat)) : Option (List Nat) := if (l.map List.length).sum + l.length * sep.length ≤ LIM then some (joinL sep l) else none
theorem strs_map : ∀ l : List (List Nat), strsD (l.map .str) = some l
  | [] => rfl
  | x :: l => by simp [strsD, strs_map l]
theorem join_S {sep : List Nat} {l : List (List Nat)} : joinD sep (cL .str l) = (joinO sep l).map .str := by
  simp only [joinD, cL, joinS, strs_map, Option.bind_some, joinO]; split <;> rfl
/-! all, any, sum, tuple, list -/
theorem bls_map : ∀ l : List Bool, blsD (l.map .bl) = some l
  | [] => rfl
  | x :: l => by simp [blsD, bls_map l]
theorem all_L {l : List Bool} : allD [cL .bl l] = some (.bl (l.all id)) := by simp [allD, cL, bls_map]
theorem any_L {l : List Bool} : anyD [cL .bl l] = some (.bl (l.any id)) := by simp [anyD, cL, bls_map]
theorem ints_map : ∀ l : List Int, intsD (l.map .int) = some l
  | [] => rfl
  | x :: l => by simp [intsD, ints_map l]
theorem sum_L {l : List Int} : sumD [cL .int l] = some (.int l.sum) := by simp [sumD, cL, ints_map]
theorem sum_T {l : List Int} : sumD [cT .int l] = some (.int l.sum) := by simp [sumD, cT, ints_map]
def absI (i : Int) : Int := if i < 0 then -i else i
/-! the draw -/
def takeR (a : Nat) (m : Int) (g : G) : R Int := if g.on = true ∧ a = g.at_ ∧ 0 < m ∧ m.natAbs < 1000000000000000000 then .ok (tkG g m).1 (tkG g m).2 else .bad
theorem ty_take {a : Nat} {m : Int} {g : G} : takeF [.gen a, .int m] g = (takeR a m g).map .int := by
  unfold takeF takeR
  simp only
  split <;> rfl
/-! what is known to be a truth -/
def bO (o : Option D) : Option Bool := o.bind isB
theorem bO_of {o : Option D} (h : ∀ d, o = some d → ∃ b, d = .bl b) : o = (bO o).map .bl := by
  cases o with
  | none => rfl
  | some d => obtain ⟨b, rfl⟩ := h d rfl; rfl
theorem b_eq {a b : D} : eqD a b = (bO (eqD a b)).map .bl := bO_of fun d h => by unfold eqD at h; split at h <;> cases h; exact ⟨_, rfl⟩
theorem b_ne {a b : D} : neD a b = (bO (neD a b)).map .bl := bO_of fun d h => by unfold neD at h; split at h <;> cases h; exact ⟨_, rfl⟩
theorem b_lt {a b : D} : ltD a b = (bO (ltD a b)).map .bl := bO_of fun d h => by unfold ltD at h; split at h <;> cases h <;> exact ⟨_, rfl⟩
theorem b_gt {a b : D} : gtD a b = (bO (gtD a b)).map .bl := b_lt
theorem b_le {a b : D} : leD a b = (bO (leD a b)).map .bl := bO_of fun d h => by unfold leD at h; split at h <;> cases h <;> exact ⟨_, rfl⟩
theorem b_ge {a b : D} : geD a b = (bO (geD a b)).map .bl := bO_of fun d h => by unfold geD at h; split at h <;> cases h <;> exact ⟨_, rfl⟩
theorem b_in {a b : D} : inD a b = (bO (inD a b)).map .bl := bO_of fun d h => by
  unfold inD at h
  cases hb : inB a b <;> rw [hb] at h <;> cases h
  exact ⟨_, rfl⟩
theorem b_nin {a b : D} : ninD a b = (bO (ninD a b)).map .bl := bO_of fun d h => by
  unfold ninD at h
  cases hb : inB a b <;> rw [hb] at h <;> cases h
  exact ⟨_, rfl⟩
theorem b_isN {a : D} : isNonD a = (bO (isNonD a)).map .bl := bO_of fun d h => by cases a <;> cases h <;> exact ⟨_, rfl⟩
theorem b_notN {a : D} : notNonD a = (bO (notNonD a)).map .bl := bO_of fun d h => by cases a <;> cases h <;> exact ⟨_, rfl⟩
theorem b_isKd {k : Kd} {a : D} : isKd k a = (bO (isKd k a)).map .bl := bO_of fun d h => by cases a <;> cases h <;> exact ⟨_, rfl⟩
theorem b_isC {c : Nat} {a : D} : isC c a = (bO (isC c a)).map .bl := bO_of fun d h => by cases a <;> cases h <;> exact ⟨_, rfl⟩
theorem ofO_D {o : Option D} {g : G} : ofO o g = (ofR o g).map cD := by cases o <;> rfl
section
variable {p : Pt} {g : G} {f : X} {x y : X}
theorem nx_slD00 {r : R D} (h : NX p g f r cD) : NX p g (xSlice f none none) (r.bind fun d g => ofR (sliceD d none none) g) cD := fun ρ m => by
  rw [ev_sl00, h ρ m, R.bind_map, R.map_bind]; exact R.bind_cg fun d g => ofO_D
theorem nx_slD10 {r : R D} {i : Int} (h : NX p g f r cD) (h1 : NP p x i .int) : NX p g (xSlice f (some x) none) (r.bind fun d g => ofR (sliceD d (some i) none) g) cD := fun ρ m => by
  rw [ev_sl10, h ρ m, R.bind_map, R.map_bind]; exact R.bind_cg fun d g => by simp only [h1 ρ m g, R.bind_ok]; exact ofO_D
theorem nx_slD01 {r : R D} {i : Int} (h : NX p g f r cD) (h1 : NP p x i .int) : NX p g (xSlice f none (some x)) (r.bind fun d g => ofR (sliceD d none (some i)) g) cD := fun ρ m => by
  rw [ev_sl01, h ρ m, R.bind_map, R.map_bind]; exact R.bind_cg fun d g => by simp only [h1 ρ m g, R.bind_ok]; exact ofO_D
theorem nx_slD11 {r : R D} {i j : Int} (h : NX p g f r cD) (h1 : NP p x i .int) (h2 : NP p y j .int) : NX p g (xSlice f (some x) (some y)) (r.bind fun d g => ofR (sliceD d (some i) (some j)) g) cD := fun ρ m => by
  rw [ev_sl11, h ρ m, R.bind_map, R.map_bind]; exact R.bind_cg fun d g => by simp only [h1 ρ m g, R.bind_ok, h2 ρ m g]; exact ofO_D
theorem walk_eq (d : D) (g : G) : (match d with
    | .tup l => R.ok l g
    | .lst l => .ok l g
    | .str s => .ok (s.map fun c => .str [c]) g
    | _ => .bad) = (ofR (walkD d) g).map (List.map cD) := by
  cases d <;> simp [walkD]
theorem ix_D {r : R D} (h : NX p g f r cD) : IX p g (iSeq f) (r.bind fun d g => ofR (walkD d) g) cD := fun ρ m => by
  rw [ev_iSeq, h ρ m, R.bind_map, R.map_bind]
  exact R.bind_cg fun d g => walk_eq d g
/-- a slice by bounds that are reckoned -/
def isI : D → Option Int
  | .int i => some i
  | _ => none
def BX (p : Pt) (g : G) (x : X) (r : R Int) : Prop := ∀ ρ, Mt p ρ → ((x ρ g).bind fun b g => ofR (isI b) g) = r
theorem bx_I {r : R Int} (h : NX p g x r .int) : BX p g x r := fun ρ m => by
  rw [h ρ m, R.bind_map]; cases r <;> rfl
theorem bx_D {r : R D} (h : NX p g x r cD) : BX p g x (r.bind fun b g => ofR (isI b) g) := fun ρ m => by
  rw [h ρ m, R.bind_map]
theorem nx_slB11 {r : R D} {r1 : G → R Int} {r2 : G → R Int} (h : NX p g f r cD) (h1 : ∀ g, BX p g x (r1 g)) (h2 : ∀ g, BX p g y (r2 g)) : NX p g (xSlice f (some x) (some y)) (r.bind fun d g => (r1 g).bind fun i g => (r2 g).bind fun j g => ofR (sliceD d (some i) (some j)) g) cD := fun ρ m => by
  rw [ev_sl11, h ρ m, R.bind_map, R.map_bind]
  refine R.bind_cg fun d g => ?_
  rw [← h1 g ρ m, R.bind_bind, R.map_bind]
  refine R.bind_cg fun b g => ?_
  cases b <;> simp only [isI, ofR_none, R.bind_bad, ofR_some, R.bind_ok] <;> try rfl
  rw [← h2 g ρ m, R.bind_bind, R.map_bind]
  refine R.bind_cg fun b g => ?_
  cases b <;> simp only [isI, ofR_none, R.bind_bad, ofR_some, R.bind_ok] <;> try rfl
  exact ofO_D
theorem nx_slB10 {r : R D} {r1 : G → R Int} (h : NX p g f r cD) (h1 : ∀ g, BX p g x (r1 g)) : NX p g (xSlice f (some x) none) (r.bind fun d g => (r1 g).bind fun i g => ofR (sliceD d (some i) none) g) cD := fun ρ m => by
  rw [ev_sl10, h ρ m, R.bind_map, R.map_bind]
  refine R.bind_cg fun d g => ?_
  rw [← h1 g ρ m, R.bind_bind, R.map_bind]
  refine R.bind_cg fun b g => ?_
  cases b <;> simp only [isI, ofR_none, R.bind_bad, ofR_some, R.bind_ok] <;> try rfl
  exact ofO_D
theorem nx_slB01 {r : R D} {r1 : G → R Int} (h : NX p g f r cD) (h1 : ∀ g, BX p g x (r1 g)) : NX p g (xSlice f none (some x)) (r.bind fun d g => (r1 g).bind fun i g => ofR (sliceD d none (some i)) g) cD := fun ρ m => by
  rw [ev_sl01, h ρ m, R.bind_map, R.map_bind]
  refine R.bind_cg fun d g => ?_
  rw [← h1 g ρ m, R.bind_bind, R.map_bind]
  refine R.bind_cg fun b g => ?_
  cases b <;> simp only [isI, ofR_none, R.bind_bad, ofR_some, R.bind_ok] <;> try rfl
  exact ofO_D
end
def Ctl.on {τ β γ : Type} (z : Ctl τ β) (k : τ → γ) (r : β → γ) : γ := match z with
  | .nx s => k s
  | .bk s => k s
  | .rt x => r x
/-! loops over what is known -/
section
variable {γ β : Type} {k : KS γ β} {p q : Pt} {g : G} {S0 : PP.S} {α : Type} {c : α → D}
theorem ns_forP {τ : Type} {P : τ → Pt} {tg : TG} {it : XA} {b : PP.S} {f : τ → α → G → R τ} {q : τ → α → Pt} {xs : List α} {s : τ} {kk : τ → G → R γ} (hi : IP p it xs c) (l : Lep (P s) p) (ht : ∀ s x, GT tg (c x) (P s) (q s x)) (hb : ∀ s x g, NS (kTurn P) (q s x) g b (f s x g)) (hk : ∀ s g, NS k (P s) g S0 (kk s g)) : NS k p g (sSeq (sFor tg it b) S0) ((forS f xs s g).bind kk) :=
  ns_for hi.x l ht hb hk
theorem ns_forN2 {τ β' : Type} {cb : β' → D} {P : τ → Pt} {tg : TG} {it : XA} {b : PP.S} {f : τ → α → G → R (Ctl τ β')} {q : τ → α → Pt} {r : R (List α)} {s : τ} {kk : τ → G → R γ} {kr : β' → G → R γ} (hi : IX p g it r c) (l : Lep (P s) p) (ht : ∀ s x, GT tg (c x) (P s) (q s x)) (hb : ∀ s x g, NS (kBody P cb) (q s x) g b (f s x g)) (hr : ∀ x g, k.K (.rt (cb x) g) (kr x g)) (hk : ∀ s g, NS k (P s) g S0 (kk s g)) : NS k p g (sSeq (sFor tg it b) S0) (r.bind fun xs g => (forN f xs s g).bind fun z g => z.on (fun s => kk s g) (fun x => kr x g)) :=
  (ns_forN hi l ht hb hr hk).as (R.bind_cg fun xs g => R.bind_cg fun z g => by cases z <;> rfl)
theorem ns_forNP {τ β' : Type} {cb : β' → D} {P : τ → Pt} {tg : TG} {it : XA} {b : PP.S} {f : τ → α → G → R (Ctl τ β')} {q : τ → α → Pt} {xs : List α} {s : τ} {kk : τ → G → R γ} {kr : β' → G → R γ} (hi : IP p it xs c) (l : Lep (P s) p) (ht : ∀ s x, GT tg (c x) (P s) (q s x)) (hb : ∀ s x g, NS (kBody P cb) (q s x) g b (f s x g)) (hr : ∀ x g, k.K (.rt (cb x) g) (kr x g)) (hk : ∀ s g, NS k (P s) g S0 (kk s g)) : NS k p g (sSeq (sFor tg it b) S0) ((forN f xs s g).bind fun z g => z.on (fun s => kk s g) (fun x => kr x g)) :=
  (ns_forN2 hi.x l ht hb hr hk)
theorem ns_whileN2 {τ β' : Type} {cb : β' → D} {P : τ → Pt} {t : XT} {b : PP.S} {n : Nat} {tn : τ → G → R Bool} {f : τ → G → R (Ctl τ β')} {s : τ} {kk : τ → G → R γ} {kr : β' → G → R γ} (l : Lep (P s) p) (ht : ∀ s g, TX (P s) g t (tn s g)) (hb : ∀ s g, NS (kBody P cb) (P s) g b (f s g)) (hr : ∀ x g, k.K (.rt (cb x) g) (kr x g)) (hk : ∀ s g, NS k (P s) g S0 (kk s g)) : NS k p g (sSeq (sWhile n t b) S0) ((whileN tn f n s g).bind fun z g => z.on (fun s => kk s g) (fun x => kr x g)) :=
  (ns_whileN l ht hb hr hk).as (R.bind_cg fun z g => by cases z <;> rfl)
theorem ns_exprP {f : X} {v : α} {r : R γ} (h : NP p f v c) (hk : NS k p g S0 r) : NS k p g (sSeq (sExpr f) S0) r := fun ρ m => by
  rw [ev_seqT, ev_expr, h ρ m g]
  exact hk ρ m
end
end PP

namespace K23
open PP
noncomputable section
set_option linter.all false
set_option maxRecDepth 100000
set_option maxHeartbeats 400000
def f_is_integer (value : D) (g : G) : R (Bool) := (ofR (bO (isKd .int value)) g).bind fun b g => if b then (ofR (bO (isKd .bool value)) g).bind fun a g => .ok (!a) g else .ok false g
theorem ty_is_integer {value : D} {g : G} : F_is_integer [value] g = (f_is_integer value g).map D.bl := by
  have h := ((ns_last (ns_retF (nx_and (r2 := fun g => (ofR (bO (isKd .bool value)) g).bind fun a g => .ok (!a) g) (nx_unP (c' := D.bl) (np_var (c := cD) (v := value) (i := 0) rfl) b_isKd) (fun g => (nx_not (nx_unP (c' := D.bl) (np_var (c := cD) (v := value) (i := 0) rfl) b_isKd)))))) : NS (kFn D.bl) [some value] g B_is_integer (f_is_integer value g)) _ (Mt.self _)
  have e : F_is_integer [value] g = fnOf 1 B_is_integer [value] g := rfl
  rw [e, fnOf_fin]
  exact h
def f_check_from (n : Int) (low : Int) (high : Int) (g : G) : R (Unit) := (((f_is_integer (D.int n) g).bind fun b g => .ok (!b) g).bind fun b g => if b then .ok true g else R.ok (!(decide (low ≤ n) && decide (n ≤ high))) g).bind fun b g => if b then .ex (.mk 0 []) g else .ok () g
theorem ty_check_from {n : Int} {low : Int} {high : Int} {g : G} : F_check_from [(D.int n), (D.int low), (D.int high)] g = (f_check_from n low high g).map cN := by
  have h := ((ns_last (ns_if (r1 := fun g => .ex (.mk 0 []) g) (r2 := fun g => .ok () g) (tx_or (w := fun g => R.ok (!(decide (low ≤ n) && decide (n ≤ high))) g) (tx_not (tx_v (nx_callP (ap_cons (NP.d (np_var (c := D.int) (v := n) (i := 0) rfl)) ap_nil) ty_is_integer))) (fun g => (TP.x (tp_not (tp_v (np_chain (b := decide (low ≤ n)) (b' := decide (n ≤ high)) (np_var (c := D.int) (v := low) (i := 1) rfl) (np_var (c := D.int) (v := n) (i := 0) rfl) (np_var (c := D.int) (v := high) (i := 2) rfl) rfl rfl)))))) (fun g => ns_raise) (fun g => (ns_nop ns_off)))) : NS (kFn cN) [some (D.int n), some (D.int low), some (D.int high)] g B_check_from (f_check_from n low high g)) _ (Mt.self _)
  have e : F_check_from [(D.int n), (D.int low), (D.int high)] g = fnOf 3 B_check_from [(D.int n), (D.int low), (D.int high)] g := rfl
  rw [e, fnOf_fin]
  exact h
def f_is_word (value : List Nat) (size : Int) (g : G) : R (Bool) := if true then if decide (((value.length : Nat) : Int) ≤ 200) then ((R.ok (chars value) g).bind fun xs g => noX (lcN (fun (c : List Nat) (g : G) => R.ok true g) (fun (c : List Nat) (g : G) => ofR (inS c (cut ([97, 98, 99, 100] : List Nat) none (some size))) g) xs g)).bind fun y1 g => .ok (y1.all id) g else .ok false g else .ok false g
theorem ty_is_word {value : List Nat} {size : Int} {g : G} : F_is_word [(D.str value), (D.int size)] g = (f_is_word value size g).map D.bl := by
  have h := ((ns_last (ns_retF (nx_andP (np_un (c' := D.bl) (w := true) (np_var (c := D.str) (v := value) (i := 0) rfl) rfl) (nx_andP (np_bin (c'' := D.bl) (z := decide (((value.length : Nat) : Int) ≤ 200)) (np_cb (c := D.int) (v := ((value.length : Nat) : Int)) (ap_cons (np_var (c := D.str) (v := value) (i := 0) rfl) ap_nil) rfl) (np_c (c := D.int)) rfl) (nx_cb (c := D.bl) (ax_X (r := fun y1 g => .ok (y1.all id) g) (nx_lcN (q := (fun (c : List Nat) => [some (D.str value), some (D.int size), some (D.str c)])) (c' := D.bl) (tn := (fun (c : List Nat) (g : G) => R.ok true g)) (en := (fun (c : List Nat) (g : G) => ofR (inS c (cut ([97, 98, 99, 100] : List Nat) none (some size))) g)) (IP.x (ip_str (np_var (c := D.str) (v := value) (i := 0) rfl))) (fun c => (gt_name (i := 2) (of_decide_eq_true rfl))) (fun c g => (TP.x tp_yes)) (fun c g => (nx_binPP (c'' := D.bl) (np_var (c := D.str) (v := c) (i := 2) rfl) (np_sl01 (c := D.str) (w := cut ([97, 98, 99, 100] : List Nat) none (some size)) (np_c (c := D.str)) (np_var (c := D.int) (v := size) (i := 1) rfl) rfl) in_S))) (fun y1 g => ax_nil (by show ofO (allD [((cL D.bl) y1)]) g = _; rw [show allD [((cL D.bl) y1)] = some _ from all_L]; rfl)))))))) : NS (kFn D.bl) [some (D.str value), some (D.int size), none] g B_is_word (f_is_word value size g)) _ (Mt.self _)
  have e : F_is_word [(D.str value), (D.int size)] g = fnOf 3 B_is_word [(D.str value), (D.int size)] g := rfl
  rw [e, fnOf_fin]
  exact h
def f_check_word_T1 (value : List Nat) (size : Int) (g : G) : R (Unit) := ((f_is_word value size g).bind fun b g => .ok (!b) g).bind fun b g => if b then .ex (.mk 0 []) g else .ok () g
theorem ty_check_word_T1 (value : List Nat) (size : Int) (g : G) : NS (kFn cN) [some (D.str value), some (D.int size)] g check_word_s1 (f_check_word_T1 value size g) := (ns_last (ns_if (r1 := fun g => .ex (.mk 0 []) g) (r2 := fun g => .ok () g) (tx_not (tx_v (nx_callP (ap_cons (np_var (c := D.str) (v := value) (i := 0) rfl) (ap_cons (np_var (c := D.int) (v := size) (i := 1) rfl) ap_nil)) ty_is_word))) (fun g => ns_raise) (fun g => (ns_nop ns_off))))
def f_check_word (value : List Nat) (size : Int) (g : G) : R (Unit) := (f_check_from size 1 4 g).bind fun _ g => f_check_word_T1 value size g
theorem ty_check_word {value : List Nat} {size : Int} {g : G} : F_check_word [(D.str value), (D.int size)] g = (f_check_word value size g).map cN := by
  have h := ((ns_expr (nx_callP (ap_cons (np_var (c := D.int) (v := size) (i := 1) rfl) (ap_cons (np_c (c := D.int)) (ap_cons (np_c (c := D.int)) ap_nil))) ty_check_from) (fun _ g => (NS.weak (.keep (.keep .nil)) (ty_check_word_T1 value size g)))) : NS (kFn cN) [some (D.str value), some (D.int size)] g B_check_word (f_check_word value size g)) _ (Mt.self _)
  have e : F_check_word [(D.str value), (D.int size)] g = fnOf 2 B_check_word [(D.str value), (D.int size)] g := rfl
  rw [e, fnOf_fin]
  exact h
def f_return_words_L1 (word : List Nat) (places : List (Int)) (found : List (List Nat)) (x : (Int) × (Int)) (g : G) : R ((List (List Nat))) := if !memT (cut word (some x.1) (some x.2)) found then (ofR (appO found (cut word (some x.1) (some x.2))) g).bind fun found g => .ok found g else .ok found g
theorem ty_return_words_L1 (word : List Nat) (places : List (Int)) (found : List (List Nat)) (x : (Int) × (Int)) (g : G) : NS (kTurn (fun s : (List (List Nat)) => ([some (D.str word), none, some ((cL D.int) places), some ((cL D.str) s), none, none, none] : Pt))) [some (D.str word), none, some ((cL D.int) places), some ((cL D.str) found), some (D.int x.1), some (D.int x.2), none] g return_words_b1 (f_return_words_L1 word places found x g) := (ns_ifP (tp_v (np_bin (c'' := D.bl) (z := !memT (cut word (some x.1) (some x.2)) found) (np_sl11 (c := D.str) (w := cut word (some x.1) (some x.2)) (np_var (c := D.str) (v := word) (i := 0) rfl) (np_var (c := D.int) (v := x.1) (i := 4) rfl) (np_var (c := D.int) (v := x.2) (i := 5) rfl) rfl) (np_var (c := (cL D.str)) (v := found) (i := 3) rfl) (nin_L flc_str _ _))) (ns_appP rfl (np_sl11 (c := D.str) (w := cut word (some x.1) (some x.2)) (np_var (c := D.str) (v := word) (i := 0) rfl) (np_var (c := D.int) (v := x.1) (i := 4) rfl) (np_var (c := D.int) (v := x.2) (i := 5) rfl) rfl) (fun found g => (ns_last (ns_kill (ns_end (s := found) (.keep (.keep (.keep (.keep (.keep (.keep (.keep .nil)))))))))))) (ns_nop (ns_last (ns_kill (ns_end (s := found) (.keep (.keep (.keep (.keep (.keep (.keep (.keep .nil))))))))))))
def f_return_words_T5 (found : List (List Nat)) (g : G) : R (List (List Nat)) := .ok found g
theorem ty_return_words_T5 (found : List (List Nat)) (g : G) : NS (kFn (cT D.str)) [none, none, none, some ((cL D.str) found), none, none, none] g return_words_s5 (f_return_words_T5 found g) := (ns_last (ns_retFP (np_cb (c := (cT D.str)) (v := found) (ap_cons (np_var (c := (cL D.str)) (v := found) (i := 3) rfl) ap_nil) rfl)))
def f_return_words_T4 (word : List Nat) (places : List (Int)) (found : List (List Nat)) (g : G) : R (List (List Nat)) := (forS (fun s x g => f_return_words_L1 word places s x g) ((places).zip (cut places (some 1) none)) found g).bind fun s g => f_return_words_T5 s g
theorem ty_return_words_T4 (word : List Nat) (places : List (Int)) (found : List (List Nat)) (g : G) : NS (kFn (cT D.str)) [some (D.str word), none, some ((cL D.int) places), some ((cL D.str) found), none, none, none] g return_words_t4 (f_return_words_T4 word places found g) := (ns_assoc (ns_forP (P := (fun s : (List (List Nat)) => ([some (D.str word), none, some ((cL D.int) places), some ((cL D.str) s), none, none, none] : Pt))) (f := (fun s x g => f_return_words_L1 word places s x g)) (s := found) (kk := fun s g => f_return_words_T5 s g) (ip_zip (np_var (c := (cL D.int)) (v := places) (i := 2) rfl) (np_sl10 (c := (cL D.int)) (w := cut places (some 1) none) (np_var (c := (cL D.int)) (v := places) (i := 2) rfl) (np_c (c := D.int)) sl_L) wk_L wk_L) (.keep (.keep (.keep (.keep (.keep (.keep (.keep .nil))))))) (fun s x => (gt_tup (gq_cons (gt_name (i := 4) (of_decide_eq_true rfl)) (gq_cons (gt_name (i := 5) (of_decide_eq_true rfl)) gq_nil)))) (fun s x g => ty_return_words_L1 word places s x g) (fun s g => (ns_kill (NS.weak (.skip (.keep (.skip (.keep (.keep (.keep (.keep .nil))))))) (ty_return_words_T5 s g))))))
def f_return_words_T3 (word : List Nat) (places : List (Int)) (g : G) : R (List (List Nat)) := f_return_words_T4 word places ([] : List (List Nat)) g
theorem ty_return_words_T3 (word : List Nat) (places : List (Int)) (g : G) : NS (kFn (cT D.str)) [some (D.str word), none, some ((cL D.int) places), none, none, none, none] g return_words_t3 (f_return_words_T3 word places g) := (ns_setP (np_lst (c := (cL D.str)) (v := ([] : List (List Nat))) ap_nil (by rfl) rfl) (gt_name (i := 3) (of_decide_eq_true rfl)) (NS.weak (.keep (.keep (.keep (.keep (.keep (.keep (.keep .nil))))))) (ty_return_words_T4 word places ([] : List (List Nat)) g)))
def f_return_words_T2 (word : List Nat) (part : List Nat) (g : G) : R (List (List Nat)) := ((ofR (rngO1 ((((word.length : Nat) : Int) - ((part.length : Nat) : Int)) + 1)) g).bind fun xs g => .ok ((xs.filter (fun (k : Int) => eqT (cut word (some k) (some (k + ((part.length : Nat) : Int)))) part)).map (fun (k : Int) => k)) g).bind fun places g => f_return_words_T3 word places g
theorem ty_return_words_T2 (word : List Nat) (part : List Nat) (g : G) : NS (kFn (cT D.str)) [some (D.str word), some (D.str part), none, none, none, none, none] g return_words_t2 (f_return_words_T2 word part g) := (ns_set (nx_lcP (q := (fun (k : Int) => [some (D.str word), some (D.str part), none, none, none, none, some (D.int k)])) (c' := D.int) (v := (fun (k : Int) => k)) (pr := (fun (k : Int) => eqT (cut word (some k) (some (k + ((part.length : Nat) : Int)))) part)) (ix_rng1P (np_bin (c'' := D.int) (z := (((word.length : Nat) : Int) - ((part.length : Nat) : Int)) + 1) (np_bin (c'' := D.int) (z := ((word.length : Nat) : Int) - ((part.length : Nat) : Int)) (np_cb (c := D.int) (v := ((word.length : Nat) : Int)) (ap_cons (np_var (c := D.str) (v := word) (i := 0) rfl) ap_nil) rfl) (np_cb (c := D.int) (v := ((part.length : Nat) : Int)) (ap_cons (np_var (c := D.str) (v := part) (i := 1) rfl) ap_nil) rfl) rfl) (np_c (c := D.int)) rfl)) (fun k => (gt_name (i := 6) (of_decide_eq_true rfl))) (fun k => (tp_v (np_bin (c'' := D.bl) (z := eqT (cut word (some k) (some (k + ((part.length : Nat) : Int)))) part) (np_sl11 (c := D.str) (w := cut word (some k) (some (k + ((part.length : Nat) : Int)))) (np_var (c := D.str) (v := word) (i := 0) rfl) (np_var (c := D.int) (v := k) (i := 6) rfl) (np_bin (c'' := D.int) (z := k + ((part.length : Nat) : Int)) (np_var (c := D.int) (v := k) (i := 6) rfl) (np_cb (c := D.int) (v := ((part.length : Nat) : Int)) (ap_cons (np_var (c := D.str) (v := part) (i := 1) rfl) ap_nil) rfl) rfl) rfl) (np_var (c := D.str) (v := part) (i := 1) rfl) (eq_C eqc_str shc_str (by decide) _ _)))) (fun k => (np_var (c := D.int) (v := k) (i := 6) rfl))) (fun places => (gt_name (i := 2) (of_decide_eq_true rfl))) (fun places g => (NS.weak (.keep (.skip (.keep (.keep (.keep (.keep (.keep .nil))))))) (ty_return_words_T3 word places g))))
def f_return_words_T1 (word : List Nat) (part : List Nat) (g : G) : R (List (List Nat)) := (if !true then .ok true g else if eqT part ([] : List Nat) then .ok true g else (f_is_word part 4 g).bind fun b g => .ok (!b) g).bind fun b g => if b then .ex (.mk 0 []) g else f_return_words_T2 word part g
theorem ty_return_words_T1 (word : List Nat) (part : List Nat) (g : G) : NS (kFn (cT D.str)) [some (D.str word), some (D.str part), none, none, none, none, none] g return_words_t1 (f_return_words_T1 word part g) := (ns_if (r1 := fun g => .ex (.mk 0 []) g) (r2 := fun g => f_return_words_T2 word part g) (tx_orP (tp_not (tp_v (np_un (c' := D.bl) (w := true) (np_var (c := D.str) (v := part) (i := 1) rfl) rfl))) (tx_orP (tp_v (np_bin (c'' := D.bl) (z := eqT part ([] : List Nat)) (np_var (c := D.str) (v := part) (i := 1) rfl) (np_c (c := D.str)) (eq_C eqc_str shc_str (by decide) _ _))) (tx_not (tx_v (nx_callP (ap_cons (np_var (c := D.str) (v := part) (i := 1) rfl) (ap_cons (np_c (c := D.int)) ap_nil)) ty_is_word))))) (fun g => ns_raise) (fun g => (ns_nop (NS.weak (.keep (.keep (.keep (.keep (.keep (.keep (.keep .nil))))))) (ty_return_words_T2 word part g)))))
def f_return_words (word : List Nat) (part : List Nat) (g : G) : R (List (List Nat)) := (f_check_word word 4 g).bind fun _ g => f_return_words_T1 word part g
theorem ty_return_words {word : List Nat} {part : List Nat} {g : G} : F_return_words [(D.str word), (D.str part)] g = (f_return_words word part g).map (cT D.str) := by
  have h := ((ns_expr (nx_callP (ap_cons (np_var (c := D.str) (v := word) (i := 0) rfl) (ap_cons (np_c (c := D.int)) ap_nil)) ty_check_word) (fun _ g => (NS.weak (.keep (.keep (.keep (.keep (.keep (.keep (.keep .nil))))))) (ty_return_words_T1 word part g)))) : NS (kFn (cT D.str)) [some (D.str word), some (D.str part), none, none, none, none, none] g B_return_words (f_return_words word part g)) _ (Mt.self _)
  have e : F_return_words [(D.str word), (D.str part)] g = fnOf 7 B_return_words [(D.str word), (D.str part)] g := rfl
  rw [e, fnOf_fin]
  exact h
def f_derived_word_T3 (word : List Nat) (words : List (List Nat)) (places : List (Int)) (g : G) : R (List Nat) := ((R.ok ((places).zip (cut places (some 1) none)) g).bind fun xs g => noX (lcN (fun (x2 : (Int) × (Int)) (g : G) => R.ok true g) (fun (x2 : (Int) × (Int)) (g : G) => (ofR (idxO words (cut word (some x2.1) (some x2.2))) g).bind fun x3 g => ofR (ixS ([97, 98, 99, 100] : List Nat) x3) g) xs g)).bind fun x4 g => ofR (joinO ([] : List Nat) x4) g
theorem ty_derived_word_T3 (word : List Nat) (words : List (List Nat)) (places : List (Int)) (g : G) : NS (kFn D.str) [some (D.str word), none, some ((cT D.str) words), some ((cL D.int) places), none, none, none] g derived_word_s3 (f_derived_word_T3 word words places g) := (ns_last (ns_retF (nx_smX (c'' := D.str) (o := fun x4 => joinO ([] : List Nat) x4) (np_c (c := D.str)) (nx_lcN (q := (fun (x2 : (Int) × (Int)) => [some (D.str word), none, some ((cT D.str) words), some ((cL D.int) places), none, some (D.int x2.1), some (D.int x2.2)])) (c' := D.str) (tn := (fun (x2 : (Int) × (Int)) (g : G) => R.ok true g)) (en := (fun (x2 : (Int) × (Int)) (g : G) => (ofR (idxO words (cut word (some x2.1) (some x2.2))) g).bind fun x3 g => ofR (ixS ([97, 98, 99, 100] : List Nat) x3) g)) (IP.x (ip_zip (np_var (c := (cL D.int)) (v := places) (i := 3) rfl) (np_sl10 (c := (cL D.int)) (w := cut places (some 1) none) (np_var (c := (cL D.int)) (v := places) (i := 3) rfl) (np_c (c := D.int)) sl_L) wk_L wk_L)) (fun x2 => (gt_tup (gq_cons (gt_name (i := 5) (of_decide_eq_true rfl)) (gq_cons (gt_name (i := 6) (of_decide_eq_true rfl)) gq_nil)))) (fun x2 g => (TP.x tp_yes)) (fun x2 g => (nx_binPX (c'' := D.str) (o := fun x3 => ixS ([97, 98, 99, 100] : List Nat) x3) (np_c (c := D.str)) (nx_idxP (c'' := D.int) (np_var (c := (cT D.str)) (v := words) (i := 2) rfl) (np_sl11 (c := D.str) (w := cut word (some x2.1) (some x2.2)) (np_var (c := D.str) (v := word) (i := 0) rfl) (np_var (c := D.int) (v := x2.1) (i := 5) rfl) (np_var (c := D.int) (v := x2.2) (i := 6) rfl) rfl) rfl (idx_T flc_str _ _)) (fun x3 => itx_S)))) (fun _ => join_S))))
def f_derived_word_T2 (word : List Nat) (part : List Nat) (words : List (List Nat)) (g : G) : R (List Nat) := ((ofR (rngO1 ((((word.length : Nat) : Int) - ((part.length : Nat) : Int)) + 1)) g).bind fun xs g => .ok ((xs.filter (fun (k : Int) => eqT (cut word (some k) (some (k + ((part.length : Nat) : Int)))) part)).map (fun (k : Int) => k)) g).bind fun places g => f_derived_word_T3 word words places g
theorem ty_derived_word_T2 (word : List Nat) (part : List Nat) (words : List (List Nat)) (g : G) : NS (kFn D.str) [some (D.str word), some (D.str part), some ((cT D.str) words), none, none, none, none] g derived_word_t2 (f_derived_word_T2 word part words g) := (ns_set (nx_lcP (q := (fun (k : Int) => [some (D.str word), some (D.str part), some ((cT D.str) words), none, some (D.int k), none, none])) (c' := D.int) (v := (fun (k : Int) => k)) (pr := (fun (k : Int) => eqT (cut word (some k) (some (k + ((part.length : Nat) : Int)))) part)) (ix_rng1P (np_bin (c'' := D.int) (z := (((word.length : Nat) : Int) - ((part.length : Nat) : Int)) + 1) (np_bin (c'' := D.int) (z := ((word.length : Nat) : Int) - ((part.length : Nat) : Int)) (np_cb (c := D.int) (v := ((word.length : Nat) : Int)) (ap_cons (np_var (c := D.str) (v := word) (i := 0) rfl) ap_nil) rfl) (np_cb (c := D.int) (v := ((part.length : Nat) : Int)) (ap_cons (np_var (c := D.str) (v := part) (i := 1) rfl) ap_nil) rfl) rfl) (np_c (c := D.int)) rfl)) (fun k => (gt_name (i := 4) (of_decide_eq_true rfl))) (fun k => (tp_v (np_bin (c'' := D.bl) (z := eqT (cut word (some k) (some (k + ((part.length : Nat) : Int)))) part) (np_sl11 (c := D.str) (w := cut word (some k) (some (k + ((part.length : Nat) : Int)))) (np_var (c := D.str) (v := word) (i := 0) rfl) (np_var (c := D.int) (v := k) (i := 4) rfl) (np_bin (c'' := D.int) (z := k + ((part.length : Nat) : Int)) (np_var (c := D.int) (v := k) (i := 4) rfl) (np_cb (c := D.int) (v := ((part.length : Nat) : Int)) (ap_cons (np_var (c := D.str) (v := part) (i := 1) rfl) ap_nil) rfl) rfl) rfl) (np_var (c := D.str) (v := part) (i := 1) rfl) (eq_C eqc_str shc_str (by decide) _ _)))) (fun k => (np_var (c := D.int) (v := k) (i := 4) rfl))) (fun places => (gt_name (i := 3) (of_decide_eq_true rfl))) (fun places g => (NS.weak (.keep (.skip (.keep (.keep (.keep (.keep (.keep .nil))))))) (ty_derived_word_T3 word words places g))))
def f_derived_word_T1 (word : List Nat) (part : List Nat) (words : List (List Nat)) (g : G) : R (List Nat) := if decide (4 < ((words.length : Nat) : Int)) then .ex (.mk 1 [(D.str ([109, 97, 110, 121] : List Nat))]) g else f_derived_word_T2 word part words g
theorem ty_derived_word_T1 (word : List Nat) (part : List Nat) (words : List (List Nat)) (g : G) : NS (kFn D.str) [some (D.str word), some (D.str part), some ((cT D.str) words), none, none, none, none] g derived_word_t1 (f_derived_word_T1 word part words g) := (ns_ifP (tp_v (np_bin (c'' := D.bl) (z := decide (4 < ((words.length : Nat) : Int))) (np_cb (c := D.int) (v := ((words.length : Nat) : Int)) (ap_cons (np_var (c := (cT D.str)) (v := words) (i := 2) rfl) ap_nil) len_T) (np_c (c := D.int)) rfl)) (ns_raiseP (ap_cons (np_c (c := D.str)) ap_nil)) (ns_nop (NS.weak (.keep (.keep (.keep (.keep (.keep (.keep (.keep .nil))))))) (ty_derived_word_T2 word part words g))))
def f_derived_word (word : List Nat) (part : List Nat) (g : G) : R (List Nat) := (f_return_words word part g).bind fun words g => f_derived_word_T1 word part words g
theorem ty_derived_word {word : List Nat} {part : List Nat} {g : G} : F_derived_word [(D.str word), (D.str part)] g = (f_derived_word word part g).map D.str := by
  have h := ((ns_set (nx_callP (ap_cons (np_var (c := D.str) (v := word) (i := 0) rfl) (ap_cons (np_var (c := D.str) (v := part) (i := 1) rfl) ap_nil)) ty_return_words) (fun words => (gt_name (i := 2) (of_decide_eq_true rfl))) (fun words g => (NS.weak (.keep (.keep (.keep (.keep (.keep (.keep (.keep .nil))))))) (ty_derived_word_T1 word part words g)))) : NS (kFn D.str) [some (D.str word), some (D.str part), none, none, none, none, none] g B_derived_word (f_derived_word word part g)) _ (Mt.self _)
  have e : F_derived_word [(D.str word), (D.str part)] g = fnOf 7 B_derived_word [(D.str word), (D.str part)] g := rfl
  rw [e, fnOf_fin]
  exact h
def f_law_word (state : Nat) (size : Int) (length : Int) (g : G) : R (List Nat) := ((ofR (rngO1 length) g).bind fun xs g => noX (lcN (fun (k : Int) (g : G) => R.ok true g) (fun (k : Int) (g : G) => (takeR state size g).bind fun x5 g => ofR (ixS ([97, 98, 99, 100] : List Nat) x5) g) xs g)).bind fun x6 g => ofR (joinO ([] : List Nat) x6) g
theorem ty_law_word {state : Nat} {size : Int} {length : Int} {g : G} : F_law_word [(D.gen state), (D.int size), (D.int length)] g = (f_law_word state size length g).map D.str := by
  have h := ((ns_last (ns_retF (nx_smX (c'' := D.str) (o := fun x6 => joinO ([] : List Nat) x6) (np_c (c := D.str)) (nx_lcN (q := (fun (k : Int) => [some (D.gen state), some (D.int size), some (D.int length), some (D.int k)])) (c' := D.str) (tn := (fun (k : Int) (g : G) => R.ok true g)) (en := (fun (k : Int) (g : G) => (takeR state size g).bind fun x5 g => ofR (ixS ([97, 98, 99, 100] : List Nat) x5) g)) (ix_rng1P (np_var (c := D.int) (v := length) (i := 2) rfl)) (fun k => (gt_name (i := 3) (of_decide_eq_true rfl))) (fun k g => (TP.x tp_yes)) (fun k g => (nx_binPX (c'' := D.str) (o := fun x5 => ixS ([97, 98, 99, 100] : List Nat) x5) (np_c (c := D.str)) (nx_callP (ap_cons (np_var (c := D.gen) (v := state) (i := 0) rfl) (ap_cons (np_var (c := D.int) (v := size) (i := 1) rfl) ap_nil)) ty_take) (fun x5 => itx_S)))) (fun _ => join_S)))) : NS (kFn D.str) [some (D.gen state), some (D.int size), some (D.int length), none] g B_law_word (f_law_word state size length g)) _ (Mt.self _)
  have e : F_law_word [(D.gen state), (D.int size), (D.int length)] g = fnOf 4 B_law_word [(D.gen state), (D.int size), (D.int length)] g := rfl
  rw [e, fnOf_fin]
  exact h
def f_law_places (word : List Nat) (piece : List Nat) (g : G) : R (List (Int)) := (ofR (rngO1 ((((word.length : Nat) : Int) - ((piece.length : Nat) : Int)) + 1)) g).bind fun xs g => .ok ((xs.filter (fun (k : Int) => eqT (cut word (some k) (some (k + ((piece.length : Nat) : Int)))) piece)).map (fun (k : Int) => k)) g
theorem ty_law_places {word : List Nat} {piece : List Nat} {g : G} : F_law_places [(D.str word), (D.str piece)] g = (f_law_places word piece g).map (cL D.int) := by
  have h := ((ns_last (ns_retF (nx_lcP (q := (fun (k : Int) => [some (D.str word), some (D.str piece), some (D.int k)])) (c' := D.int) (v := (fun (k : Int) => k)) (pr := (fun (k : Int) => eqT (cut word (some k) (some (k + ((piece.length : Nat) : Int)))) piece)) (ix_rng1P (np_bin (c'' := D.int) (z := (((word.length : Nat) : Int) - ((piece.length : Nat) : Int)) + 1) (np_bin (c'' := D.int) (z := ((word.length : Nat) : Int) - ((piece.length : Nat) : Int)) (np_cb (c := D.int) (v := ((word.length : Nat) : Int)) (ap_cons (np_var (c := D.str) (v := word) (i := 0) rfl) ap_nil) rfl) (np_cb (c := D.int) (v := ((piece.length : Nat) : Int)) (ap_cons (np_var (c := D.str) (v := piece) (i := 1) rfl) ap_nil) rfl) rfl) (np_c (c := D.int)) rfl)) (fun k => (gt_name (i := 2) (of_decide_eq_true rfl))) (fun k => (tp_v (np_bin (c'' := D.bl) (z := eqT (cut word (some k) (some (k + ((piece.length : Nat) : Int)))) piece) (np_sl11 (c := D.str) (w := cut word (some k) (some (k + ((piece.length : Nat) : Int)))) (np_var (c := D.str) (v := word) (i := 0) rfl) (np_var (c := D.int) (v := k) (i := 2) rfl) (np_bin (c'' := D.int) (z := k + ((piece.length : Nat) : Int)) (np_var (c := D.int) (v := k) (i := 2) rfl) (np_cb (c := D.int) (v := ((piece.length : Nat) : Int)) (ap_cons (np_var (c := D.str) (v := piece) (i := 1) rfl) ap_nil) rfl) rfl) rfl) (np_var (c := D.str) (v := piece) (i := 1) rfl) (eq_C eqc_str shc_str (by decide) _ _)))) (fun k => (np_var (c := D.int) (v := k) (i := 2) rfl))))) : NS (kFn (cL D.int)) [some (D.str word), some (D.str piece), none] g B_law_places (f_law_places word piece g)) _ (Mt.self _)
  have e : F_law_places [(D.str word), (D.str piece)] g = fnOf 3 B_law_places [(D.str word), (D.str piece)] g := rfl
  rw [e, fnOf_fin]
  exact h
def f_law_L1 (state : Nat) (word : List Nat) (piece : List Nat) (places : List (Int)) (length : Int) (found : List (List Nat)) (x : (Int) × (Int)) (g : G) : R ((List (List Nat))) := if !memT (cut word (some x.1) (some x.2)) found then (ofR (appO found (cut word (some x.1) (some x.2))) g).bind fun found g => .ok found g else .ok found g
theorem ty_law_L1 (state : Nat) (word : List Nat) (piece : List Nat) (places : List (Int)) (length : Int) (found : List (List Nat)) (x : (Int) × (Int)) (g : G) : NS (kTurn (fun s : (List (List Nat)) => ([none, some (D.gen state), none, some (D.str word), some (D.str piece), some ((cL D.int) places), some ((cL D.str) s), none, none, none, none, some (D.int length), none, none, none, none, none, none, none, none, none, none, none, none, none, none] : Pt))) [none, some (D.gen state), none, some (D.str word), some (D.str piece), some ((cL D.int) places), some ((cL D.str) found), none, none, none, none, some (D.int length), none, none, none, none, none, some (D.int x.1), some (D.int x.2), none, none, none, none, none, none, none] g law_b0 (f_law_L1 state word piece places length found x g) := (ns_last (ns_ifP (tp_v (np_bin (c'' := D.bl) (z := !memT (cut word (some x.1) (some x.2)) found) (np_sl11 (c := D.str) (w := cut word (some x.1) (some x.2)) (np_var (c := D.str) (v := word) (i := 3) rfl) (np_var (c := D.int) (v := x.1) (i := 17) rfl) (np_var (c := D.int) (v := x.2) (i := 18) rfl) rfl) (np_var (c := (cL D.str)) (v := found) (i := 6) rfl) (nin_L flc_str _ _))) (ns_appP rfl (np_sl11 (c := D.str) (w := cut word (some x.1) (some x.2)) (np_var (c := D.str) (v := word) (i := 3) rfl) (np_var (c := D.int) (v := x.1) (i := 17) rfl) (np_var (c := D.int) (v := x.2) (i := 18) rfl) rfl) (fun found g => (ns_end (s := found) (.keep (.keep (.keep (.keep (.keep (.keep (.keep (.keep (.keep (.keep (.keep (.keep (.keep (.keep (.keep (.keep (.keep (.skip (.skip (.keep (.keep (.keep (.keep (.keep (.keep (.keep .nil))))))))))))))))))))))))))))) (ns_nop (ns_end (s := found) (.keep (.keep (.keep (.keep (.keep (.keep (.keep (.keep (.keep (.keep (.keep (.keep (.keep (.keep (.keep (.keep (.keep (.skip (.skip (.keep (.keep (.keep (.keep (.keep (.keep (.keep .nil))))))))))))))))))))))))))))))
def f_law_L2 (state : Nat) (word : List Nat) (piece : List Nat) (found : List (List Nat)) (length : Int)  (own : List Nat) (g : G) : R (Ctl (Unit) (Bool)) := (((ofR (catO own piece) g).bind fun y11 g => f_law_places y11 piece g).bind fun x12 g => .ok (!eqT x12 ([0, ((own.length : Nat) : Int)] : List (Int))) g).bind fun b g => if b then .ok (Ctl.rt false) g else .ok (Ctl.nx ()) g
theorem ty_law_L2 (state : Nat) (word : List Nat) (piece : List Nat) (found : List (List Nat)) (length : Int)  (own : List Nat) (g : G) : NS (kBody (fun s : Unit => ([none, some (D.gen state), none, some (D.str word), some (D.str piece), none, some ((cL D.str) found), none, none, none, none, some (D.int length), none, none, none, none, none, none, none, none, none, none, none, none, none, none] : Pt)) D.bl) [none, some (D.gen state), none, some (D.str word), some (D.str piece), none, some ((cL D.str) found), none, some (D.str own), none, none, some (D.int length), none, none, none, none, none, none, none, none, none, none, none, none, none, none] g law_b3 (f_law_L2 state word piece found length  own g) := (ns_if (r1 := fun g => .ok (Ctl.rt false) g) (r2 := fun g => .ok (Ctl.nx ()) g) (tx_v (nx_binXPT (c'' := D.bl) (o := fun x12 => !eqT x12 ([0, ((own.length : Nat) : Int)] : List (Int))) (nx_call (ax_X (r := fun y11 g => f_law_places y11 piece g) (nx_binPP (c'' := D.str) (np_var (c := D.str) (v := own) (i := 8) rfl) (np_var (c := D.str) (v := piece) (i := 4) rfl) add_S) (fun y11 g => (ax_P (np_var (c := D.str) (v := piece) (i := 4) rfl) (ax_nil ty_law_places))))) (np_lst (c := (cL D.int)) (v := ([0, ((own.length : Nat) : Int)] : List (Int))) (ap_cons (np_c (c := D.int)) (ap_cons (np_cb (c := D.int) (v := ((own.length : Nat) : Int)) (ap_cons (np_var (c := D.str) (v := own) (i := 8) rfl) ap_nil) rfl) ap_nil)) (by rfl) rfl) (fun x12 => (ne_C (eqc_L eqc_int) (shc_L shc_int) (by decide) _ _)))) (fun g => (ns_retP (np_c (c := D.bl)))) (fun g => (ns_nop (ns_last (ns_kill (ns_endB (s := ()) (.keep (.keep (.keep (.keep (.keep (.keep (.keep (.keep (.keep (.keep (.keep (.keep (.keep (.keep (.keep (.keep (.keep (.keep (.keep (.keep (.keep (.keep (.keep (.keep (.keep (.keep .nil))))))))))))))))))))))))))))))))
def f_law_T24 (tried : List ((D) × (D))) (g : G) : R (Bool) := (((R.ok tried g).bind fun xs g => noX (lcN (fun (x38 : (D) × (D)) (g : G) => R.ok true g) (fun (x38 : (D) × (D)) (g : G) => (F_law_told [x38.1, x38.2] g).bind fun x39 g => ofR (ixD x39 (D.int 0)) g) xs g)).map (cL cD)).bind fun x42 g => ((ofR (repO ([([109, 97, 108, 102, 111, 114, 109, 101, 100] : List Nat)] : List (List Nat)) 8) g).map (cL D.str)).bind fun x43 g => ofR (bO (eqD x42 x43)) g
theorem ty_law_T24 (tried : List ((D) × (D))) (g : G) : NS (kFn D.bl) [none, none, none, none, none, none, none, none, none, none, none, none, none, none, none, some ((cL (c2 cD cD)) tried), none, none, none, none, none, none, none, none, none, none] g law_s24 (f_law_T24 tried g) := (ns_last (ns_retF (nx_binXX (c'' := D.bl) (r2 := fun _ g => (ofR (repO ([([109, 97, 108, 102, 111, 114, 109, 101, 100] : List Nat)] : List (List Nat)) 8) g).map (cL D.str)) (o := fun x42 x43 => bO (eqD x42 x43)) (NX.d (nx_lcN (q := (fun (x38 : (D) × (D)) => [none, none, none, none, none, none, none, none, none, none, none, none, none, none, none, some ((cL (c2 cD cD)) tried), none, none, none, none, none, none, some x38.1, some x38.2, none, none])) (c' := cD) (tn := (fun (x38 : (D) × (D)) (g : G) => R.ok true g)) (en := (fun (x38 : (D) × (D)) (g : G) => (F_law_told [x38.1, x38.2] g).bind fun x39 g => ofR (ixD x39 (D.int 0)) g)) (IP.x (ip_L (np_var (c := (cL (c2 cD cD))) (v := tried) (i := 15) rfl))) (fun x38 => (gt_tup (gq_cons (gt_name (i := 22) (of_decide_eq_true rfl)) (gq_cons (gt_name (i := 23) (of_decide_eq_true rfl)) gq_nil)))) (fun x38 g => (TP.x tp_yes)) (fun x38 g => (nx_binXP (c'' := cD) (o := fun x39 => ixD x39 (D.int 0)) (nx_callP (ap_cons (np_var (c := cD) (v := x38.1) (i := 22) rfl) (ap_cons (np_var (c := cD) (v := x38.2) (i := 23) rfl) ap_nil)) RmapD) (NP.d (np_c (c := D.int))) (fun x39 => mapD))))) (fun _ g => (NX.d (nx_binPP (c'' := (cL D.str)) (np_lst (c := (cL D.str)) (v := ([([109, 97, 108, 102, 111, 114, 109, 101, 100] : List Nat)] : List (List Nat))) (ap_cons (np_c (c := D.str)) ap_nil) (by rfl) rfl) (np_c (c := D.int)) mul_L))) (fun x42 x43 => b_eq))))
def f_law_T23 (word : List Nat) (tried : List ((D) × (D))) (g : G) : R (Bool) := ((((((ofR (repO ([97] : List Nat) 201) g).bind fun y34 g => .ok (y34, ([97] : List Nat)) g).map (c2 D.str D.str)).bind fun y35 g => .ok ((D.fn 0), y35) g).bind fun y36 g => .ok ([((D.fn 0), ((c2 D.str D.str) (word, ([] : List Nat)))), ((D.fn 0), ((c2 cN D.str) ((), ([97] : List Nat)))), y36] : List ((D) × (D))) g).bind fun x37 g => ofR (catO tried x37) g).bind fun tried g => f_law_T24 tried g
theorem ty_law_T23 (word : List Nat) (tried : List ((D) × (D))) (g : G) : NS (kFn D.bl) [none, none, none, some (D.str word), none, none, none, none, none, none, none, none, none, none, none, some ((cL (c2 cD cD)) tried), none, none, none, none, none, none, none, none, none, none] g law_t23 (f_law_T23 word tried g) := (ns_set (nx_binPX (c'' := (cL (c2 cD cD))) (o := fun x37 => catO tried x37) (np_var (c := (cL (c2 cD cD))) (v := tried) (i := 15) rfl) (nx_lst (c := (cL (c2 cD cD))) (ax_P (np_tup (c := (c2 cD cD)) (v := ((D.fn 0), ((c2 D.str D.str) (word, ([] : List Nat))))) (ap_cons (np_c (c := cD)) (ap_cons (NP.d (np_tup (c := (c2 D.str D.str)) (v := (word, ([] : List Nat))) (ap_cons (np_var (c := D.str) (v := word) (i := 3) rfl) (ap_cons (np_c (c := D.str)) ap_nil)) (by rfl) rfl)) ap_nil)) (by rfl) rfl) (ax_P (np_tup (c := (c2 cD cD)) (v := ((D.fn 0), ((c2 cN D.str) ((), ([97] : List Nat))))) (ap_cons (np_c (c := cD)) (ap_cons (NP.d (np_tup (c := (c2 cN D.str)) (v := ((), ([97] : List Nat))) (ap_cons (np_c (c := cN) (v := ())) (ap_cons (np_c (c := D.str)) ap_nil)) (by rfl) rfl)) ap_nil)) (by rfl) rfl) (ax_X (r := fun y36 g => .ok ([((D.fn 0), ((c2 D.str D.str) (word, ([] : List Nat)))), ((D.fn 0), ((c2 cN D.str) ((), ([97] : List Nat)))), y36] : List ((D) × (D))) g) (nx_tup (c := (c2 cD cD)) (ax_P (np_c (c := cD)) (ax_X (r := fun y35 g => .ok ((D.fn 0), y35) g) (NX.d (nx_tup (c := (c2 D.str D.str)) (ax_X (r := fun y34 g => .ok (y34, ([97] : List Nat)) g) (nx_binPP (c'' := D.str) (np_c (c := D.str)) (np_c (c := D.int)) mul_S) (fun y34 g => (ax_P (np_c (c := D.str)) (ax_nil rfl)))))) (fun y35 g => (ax_nil rfl))))) (fun y36 g => (ax_nil rfl)))))) (fun x37 => add_L)) (fun tried => (gt_name (i := 15) (of_decide_eq_true rfl))) (fun tried g => (NS.weak (.keep (.keep (.keep (.skip (.keep (.keep (.keep (.keep (.keep (.keep (.keep (.keep (.keep (.keep (.keep (.keep (.keep (.keep (.keep (.keep (.keep (.keep (.keep (.keep (.keep (.keep .nil)))))))))))))))))))))))))) (ty_law_T24 tried g))))
def f_law_T22 (word : List Nat) (g : G) : R (Bool) := f_law_T23 word ([((D.fn 1), ((c2 D.str D.str) (word, ([] : List Nat)))), ((D.fn 1), ((c2 D.str cN) (word, ()))), ((D.fn 1), ((c2 D.int D.str) (5, ([97] : List Nat)))), ((D.fn 1), ((c2 D.str D.str) (([101] : List Nat), ([97] : List Nat)))), ((D.fn 1), ((c2 D.str D.str) (word, ([101] : List Nat))))] : List ((D) × (D))) g
theorem ty_law_T22 (word : List Nat) (g : G) : NS (kFn D.bl) [none, none, none, some (D.str word), none, none, none, none, none, none, none, none, none, none, none, none, none, none, none, none, none, none, none, none, none, none] g law_t22 (f_law_T22 word g) := (ns_setP (np_lst (c := (cL (c2 cD cD))) (v := ([((D.fn 1), ((c2 D.str D.str) (word, ([] : List Nat)))), ((D.fn 1), ((c2 D.str cN) (word, ()))), ((D.fn 1), ((c2 D.int D.str) (5, ([97] : List Nat)))), ((D.fn 1), ((c2 D.str D.str) (([101] : List Nat), ([97] : List Nat)))), ((D.fn 1), ((c2 D.str D.str) (word, ([101] : List Nat))))] : List ((D) × (D)))) (ap_cons (np_tup (c := (c2 cD cD)) (v := ((D.fn 1), ((c2 D.str D.str) (word, ([] : List Nat))))) (ap_cons (np_c (c := cD)) (ap_cons (NP.d (np_tup (c := (c2 D.str D.str)) (v := (word, ([] : List Nat))) (ap_cons (np_var (c := D.str) (v := word) (i := 3) rfl) (ap_cons (np_c (c := D.str)) ap_nil)) (by rfl) rfl)) ap_nil)) (by rfl) rfl) (ap_cons (np_tup (c := (c2 cD cD)) (v := ((D.fn 1), ((c2 D.str cN) (word, ())))) (ap_cons (np_c (c := cD)) (ap_cons (NP.d (np_tup (c := (c2 D.str cN)) (v := (word, ())) (ap_cons (np_var (c := D.str) (v := word) (i := 3) rfl) (ap_cons (np_c (c := cN) (v := ())) ap_nil)) (by rfl) rfl)) ap_nil)) (by rfl) rfl) (ap_cons (np_tup (c := (c2 cD cD)) (v := ((D.fn 1), ((c2 D.int D.str) (5, ([97] : List Nat))))) (ap_cons (np_c (c := cD)) (ap_cons (NP.d (np_tup (c := (c2 D.int D.str)) (v := (5, ([97] : List Nat))) (ap_cons (np_c (c := D.int)) (ap_cons (np_c (c := D.str)) ap_nil)) (by rfl) rfl)) ap_nil)) (by rfl) rfl) (ap_cons (np_tup (c := (c2 cD cD)) (v := ((D.fn 1), ((c2 D.str D.str) (([101] : List Nat), ([97] : List Nat))))) (ap_cons (np_c (c := cD)) (ap_cons (NP.d (np_tup (c := (c2 D.str D.str)) (v := (([101] : List Nat), ([97] : List Nat))) (ap_cons (np_c (c := D.str)) (ap_cons (np_c (c := D.str)) ap_nil)) (by rfl) rfl)) ap_nil)) (by rfl) rfl) (ap_cons (np_tup (c := (c2 cD cD)) (v := ((D.fn 1), ((c2 D.str D.str) (word, ([101] : List Nat))))) (ap_cons (np_c (c := cD)) (ap_cons (NP.d (np_tup (c := (c2 D.str D.str)) (v := (word, ([101] : List Nat))) (ap_cons (np_var (c := D.str) (v := word) (i := 3) rfl) (ap_cons (np_c (c := D.str)) ap_nil)) (by rfl) rfl)) ap_nil)) (by rfl) rfl) ap_nil))))) (by rfl) rfl) (gt_name (i := 15) (of_decide_eq_true rfl)) (NS.weak (.keep (.keep (.keep (.keep (.keep (.keep (.keep (.keep (.keep (.keep (.keep (.keep (.keep (.keep (.keep (.keep (.keep (.keep (.keep (.keep (.keep (.keep (.keep (.keep (.keep (.keep .nil)))))))))))))))))))))))))) (ty_law_T23 word ([((D.fn 1), ((c2 D.str D.str) (word, ([] : List Nat)))), ((D.fn 1), ((c2 D.str cN) (word, ()))), ((D.fn 1), ((c2 D.int D.str) (5, ([97] : List Nat)))), ((D.fn 1), ((c2 D.str D.str) (([101] : List Nat), ([97] : List Nat)))), ((D.fn 1), ((c2 D.str D.str) (word, ([101] : List Nat))))] : List ((D) × (D))) g)))
def f_law_T21 (word : List Nat) (g : G) : R (Bool) := (((f_return_words ([] : List Nat) ([97] : List Nat) g).bind fun x30 g => .ok (!eqT x30 ([] : List (List Nat))) g).bind fun b g => if b then .ok true g else ((f_derived_word ([97] : List Nat) ([97] : List Nat) g).bind fun x31 g => .ok (!eqT x31 ([] : List Nat)) g).bind fun b g => if b then .ok true g else ((f_return_words ([97, 97, 97] : List Nat) ([97, 97] : List Nat) g).bind fun x32 g => .ok (!eqT x32 ([([97] : List Nat)] : List (List Nat))) g).bind fun b g => if b then .ok true g else ((((f_derived_word ([97, 98, 99, 97, 99, 98] : List Nat) ([97] : List Nat) g).map D.str).bind fun y33 g => F_law_same [y33, (D.str ([97] : List Nat))] g).bind fun d g => ofR (isB d) g).bind fun b g => .ok (!b) g).bind fun b g => if b then .ok false g else f_law_T22 word g
theorem ty_law_T21 (word : List Nat) (g : G) : NS (kFn D.bl) [none, none, none, some (D.str word), none, none, none, none, none, none, none, none, none, none, none, none, none, none, none, none, none, none, none, none, none, none] g law_t21 (f_law_T21 word g) := (ns_if (r1 := fun g => .ok false g) (r2 := fun g => f_law_T22 word g) (tx_or (w := fun g => ((f_derived_word ([97] : List Nat) ([97] : List Nat) g).bind fun x31 g => .ok (!eqT x31 ([] : List Nat)) g).bind fun b g => if b then .ok true g else ((f_return_words ([97, 97, 97] : List Nat) ([97, 97] : List Nat) g).bind fun x32 g => .ok (!eqT x32 ([([97] : List Nat)] : List (List Nat))) g).bind fun b g => if b then .ok true g else ((((f_derived_word ([97, 98, 99, 97, 99, 98] : List Nat) ([97] : List Nat) g).map D.str).bind fun y33 g => F_law_same [y33, (D.str ([97] : List Nat))] g).bind fun d g => ofR (isB d) g).bind fun b g => .ok (!b) g) (tx_v (nx_binXPT (c'' := D.bl) (o := fun x30 => !eqT x30 ([] : List (List Nat))) (nx_callP (ap_cons (np_c (c := D.str)) (ap_cons (np_c (c := D.str)) ap_nil)) ty_return_words) (np_tup (c := (cT D.str)) (v := ([] : List (List Nat))) ap_nil (by rfl) rfl) (fun x30 => (ne_C (eqc_T eqc_str) (shc_T shc_str) (by decide) _ _)))) (fun g => (tx_or (w := fun g => ((f_return_words ([97, 97, 97] : List Nat) ([97, 97] : List Nat) g).bind fun x32 g => .ok (!eqT x32 ([([97] : List Nat)] : List (List Nat))) g).bind fun b g => if b then .ok true g else ((((f_derived_word ([97, 98, 99, 97, 99, 98] : List Nat) ([97] : List Nat) g).map D.str).bind fun y33 g => F_law_same [y33, (D.str ([97] : List Nat))] g).bind fun d g => ofR (isB d) g).bind fun b g => .ok (!b) g) (tx_v (nx_binXPT (c'' := D.bl) (o := fun x31 => !eqT x31 ([] : List Nat)) (nx_callP (ap_cons (np_c (c := D.str)) (ap_cons (np_c (c := D.str)) ap_nil)) ty_derived_word) (np_c (c := D.str)) (fun x31 => (ne_C eqc_str shc_str (by decide) _ _)))) (fun g => (tx_or (w := fun g => ((((f_derived_word ([97, 98, 99, 97, 99, 98] : List Nat) ([97] : List Nat) g).map D.str).bind fun y33 g => F_law_same [y33, (D.str ([97] : List Nat))] g).bind fun d g => ofR (isB d) g).bind fun b g => .ok (!b) g) (tx_v (nx_binXPT (c'' := D.bl) (o := fun x32 => !eqT x32 ([([97] : List Nat)] : List (List Nat))) (nx_callP (ap_cons (np_c (c := D.str)) (ap_cons (np_c (c := D.str)) ap_nil)) ty_return_words) (np_tup (c := (cT D.str)) (v := ([([97] : List Nat)] : List (List Nat))) (ap_cons (np_c (c := D.str)) ap_nil) (by rfl) rfl) (fun x32 => (ne_C (eqc_T eqc_str) (shc_T shc_str) (by decide) _ _)))) (fun g => (tx_not (tx_vD (nx_call (ax_X (r := fun y33 g => F_law_same [y33, (D.str ([97] : List Nat))] g) (NX.d (nx_callP (ap_cons (np_c (c := D.str)) (ap_cons (np_c (c := D.str)) ap_nil)) ty_derived_word)) (fun y33 g => (ax_P (NP.d (np_c (c := D.str))) (ax_nil RmapD))))))))))))) (fun g => (ns_retFP (np_c (c := D.bl)))) (fun g => (ns_nop (NS.weak (.keep (.keep (.keep (.keep (.keep (.keep (.keep (.keep (.keep (.keep (.keep (.keep (.keep (.keep (.keep (.keep (.keep (.keep (.keep (.keep (.keep (.keep (.keep (.keep (.keep (.keep .nil)))))))))))))))))))))))))) (ty_law_T22 word g)))))
def f_law_T20 (word : List Nat) (row : D) (one : D) (two : D) (g : G) : R (Bool) := (((ofR (lenD [one]) g).bind fun x25 g => ofR (bO (neD x25 (D.int 2))) g).bind fun b g => if b then .ok true g else (((R.ok row g).bind fun d g => ((ofR (lenD [two]) g).bind fun b g => ofR (isI b) g).bind fun j g => ofR (sliceD d none (some j)) g).bind fun x26 g => ofR (bO (neD two x26)) g).bind fun b g => if b then ((((((R.ok row g).bind fun d g => ((ofR (lenD [two]) g).bind fun b g => ofR (isI b) g).bind fun j g => ofR (sliceD d none (some j)) g).bind fun d g => ofR (walkD d) g).bind fun xs g => noX (lcN (fun (c : D) (g : G) => R.ok true g) (fun (c : D) (g : G) => (ofR (indexD ([98, 97] : List Nat) c) g).bind fun x27 g => ofR (ixD (D.str ([97, 98] : List Nat)) x27) g) xs g)).map (cL cD)).bind fun x28 g => ofR (joinD ([] : List Nat) x28) g).bind fun x29 g => ofR (bO (neD two x29)) g else .ok false g).bind fun b g => if b then .ok false g else f_law_T21 word g
theorem ty_law_T20 (word : List Nat) (row : D) (one : D) (two : D) (g : G) : NS (kFn D.bl) [none, none, none, some (D.str word), none, none, none, none, none, none, some row, none, none, none, none, none, none, none, none, none, some one, some two, none, none, none, none] g law_t20 (f_law_T20 word row one two g) := (ns_if (r1 := fun g => .ok false g) (r2 := fun g => f_law_T21 word g) (tx_or (w := fun g => (((R.ok row g).bind fun d g => ((ofR (lenD [two]) g).bind fun b g => ofR (isI b) g).bind fun j g => ofR (sliceD d none (some j)) g).bind fun x26 g => ofR (bO (neD two x26)) g).bind fun b g => if b then ((((((R.ok row g).bind fun d g => ((ofR (lenD [two]) g).bind fun b g => ofR (isI b) g).bind fun j g => ofR (sliceD d none (some j)) g).bind fun d g => ofR (walkD d) g).bind fun xs g => noX (lcN (fun (c : D) (g : G) => R.ok true g) (fun (c : D) (g : G) => (ofR (indexD ([98, 97] : List Nat) c) g).bind fun x27 g => ofR (ixD (D.str ([97, 98] : List Nat)) x27) g) xs g)).map (cL cD)).bind fun x28 g => ofR (joinD ([] : List Nat) x28) g).bind fun x29 g => ofR (bO (neD two x29)) g else .ok false g) (tx_v (nx_binXP (c'' := D.bl) (o := fun x25 => bO (neD x25 (D.int 2))) (nx_cbP (ap_cons (np_var (c := cD) (v := one) (i := 20) rfl) ap_nil) mapD) (NP.d (np_c (c := D.int))) (fun x25 => b_ne))) (fun g => (tx_and (w := fun g => ((((((R.ok row g).bind fun d g => ((ofR (lenD [two]) g).bind fun b g => ofR (isI b) g).bind fun j g => ofR (sliceD d none (some j)) g).bind fun d g => ofR (walkD d) g).bind fun xs g => noX (lcN (fun (c : D) (g : G) => R.ok true g) (fun (c : D) (g : G) => (ofR (indexD ([98, 97] : List Nat) c) g).bind fun x27 g => ofR (ixD (D.str ([97, 98] : List Nat)) x27) g) xs g)).map (cL cD)).bind fun x28 g => ofR (joinD ([] : List Nat) x28) g).bind fun x29 g => ofR (bO (neD two x29)) g) (tx_v (nx_binPX (c'' := D.bl) (o := fun x26 => bO (neD two x26)) (np_var (c := cD) (v := two) (i := 21) rfl) (nx_slB01 (r1 := fun g => (ofR (lenD [two]) g).bind fun b g => ofR (isI b) g) (NP.x (np_var (c := cD) (v := row) (i := 10) rfl)) (fun g => (bx_D (nx_cbP (ap_cons (np_var (c := cD) (v := two) (i := 21) rfl) ap_nil) mapD)))) (fun x26 => b_ne))) (fun g => (tx_v (nx_binPX (c'' := D.bl) (o := fun x29 => bO (neD two x29)) (np_var (c := cD) (v := two) (i := 21) rfl) (nx_smX (c'' := cD) (o := fun x28 => joinD ([] : List Nat) x28) (np_c (c := D.str)) (NX.d (nx_lcN (q := (fun (c : D) => [none, none, none, some (D.str word), none, none, none, none, none, none, some row, none, none, none, none, none, none, none, none, none, some one, some two, none, none, none, some c])) (c' := cD) (tn := (fun (c : D) (g : G) => R.ok true g)) (en := (fun (c : D) (g : G) => (ofR (indexD ([98, 97] : List Nat) c) g).bind fun x27 g => ofR (ixD (D.str ([97, 98] : List Nat)) x27) g)) (ix_D (nx_slB01 (r1 := fun g => (ofR (lenD [two]) g).bind fun b g => ofR (isI b) g) (NP.x (np_var (c := cD) (v := row) (i := 10) rfl)) (fun g => (bx_D (nx_cbP (ap_cons (np_var (c := cD) (v := two) (i := 21) rfl) ap_nil) mapD))))) (fun c => (gt_name (i := 25) (of_decide_eq_true rfl))) (fun c g => (TP.x tp_yes)) (fun c g => (nx_binPX (c'' := cD) (o := fun x27 => ixD (D.str ([97, 98] : List Nat)) x27) (NP.d (np_c (c := D.str))) (nx_smP (c'' := cD) (np_c (c := D.str)) (np_var (c := cD) (v := c) (i := 25) rfl) mapD) (fun x27 => mapD))))) (fun _ => mapD)) (fun x29 => b_ne))))))) (fun g => (ns_retFP (np_c (c := D.bl)))) (fun g => (ns_nop (NS.weak (.keep (.keep (.keep (.keep (.keep (.keep (.keep (.keep (.keep (.keep (.skip (.keep (.keep (.keep (.keep (.keep (.keep (.keep (.keep (.keep (.skip (.skip (.keep (.keep (.keep (.keep .nil)))))))))))))))))))))))))) (ty_law_T21 word g)))))
def f_law_T19 (word : List Nat) (row : D) (low : D) (g : G) : R (Bool) := (((R.ok low g).bind fun d g => ofR (sliceD d none (some 1)) g).bind fun y24 g => F_return_words [row, y24] g).bind fun one g => (F_derived_word [row, (D.str ([97] : List Nat))] g).bind fun two g => f_law_T20 word row one two g
theorem ty_law_T19 (word : List Nat) (row : D) (low : D) (g : G) : NS (kFn D.bl) [none, none, none, some (D.str word), none, none, none, none, none, none, some row, none, none, some low, none, none, none, none, none, none, none, none, none, none, none, none] g law_t19 (f_law_T19 word row low g) := (ns_par (r := ((R.ok low g).bind fun d g => ofR (sliceD d none (some 1)) g).bind fun y24 g => F_return_words [row, y24] g) (r2 := fun _ g => F_derived_word [row, (D.str ([97] : List Nat))] g) (nx_call (ax_P (np_var (c := cD) (v := row) (i := 10) rfl) (ax_X (r := fun y24 g => F_return_words [row, y24] g) (nx_slD01 (NP.x (np_var (c := cD) (v := low) (i := 13) rfl)) (np_c (c := D.int))) (fun y24 g => (ax_nil RmapD))))) (fun _ g => (nx_callP (ap_cons (np_var (c := cD) (v := row) (i := 10) rfl) (ap_cons (NP.d (np_c (c := D.str))) ap_nil)) RmapD)) (of_decide_eq_true rfl) (of_decide_eq_true rfl) (fun one two g => (NS.weak (.keep (.keep (.keep (.keep (.keep (.keep (.keep (.keep (.keep (.keep (.keep (.keep (.keep (.skip (.keep (.keep (.keep (.keep (.keep (.keep (.keep (.keep (.keep (.keep (.keep (.keep .nil)))))))))))))))))))))))))) (ty_law_T20 word row one two g))))
def f_law_T18 (word : List Nat) (row : D) (low : D) (back : D) (g : G) : R (Bool) := (((ofR (lenD [back]) g).bind fun x16 g => ofR (bO (neD x16 (D.int 2))) g).bind fun b g => if b then .ok true g else ((((F_derived_word [row, low] g).bind fun d g => ofR (walkD d) g).bind fun xs g => noX (lcN (fun (x : D) (g : G) => R.ok true g) (fun (x : D) (g : G) => ofR (bO (ninD x (D.str ([97, 98] : List Nat)))) g) xs g)).bind fun y17 g => .ok (y17.any id) g).bind fun b g => if b then .ok true g else ((((ofR (ixD back (D.int 0)) g).bind fun y18 g => ofR (lenD [y18]) g).bind fun x20 g => ((ofR (ixD back (D.int 1)) g).bind fun y19 g => ofR (lenD [y19]) g).bind fun x21 g => ofR (subD x20 x21) g).bind fun y22 g => ofR (absD [y22]) g).bind fun x23 g => ofR (bO (gtD x23 (D.int 21))) g).bind fun b g => if b then .ok false g else f_law_T19 word row low g
theorem ty_law_T18 (word : List Nat) (row : D) (low : D) (back : D) (g : G) : NS (kFn D.bl) [none, none, none, some (D.str word), none, none, none, none, none, none, some row, none, none, some low, some back, none, none, none, none, none, none, none, none, none, none, none] g law_t18 (f_law_T18 word row low back g) := (ns_if (r1 := fun g => .ok false g) (r2 := fun g => f_law_T19 word row low g) (tx_or (w := fun g => ((((F_derived_word [row, low] g).bind fun d g => ofR (walkD d) g).bind fun xs g => noX (lcN (fun (x : D) (g : G) => R.ok true g) (fun (x : D) (g : G) => ofR (bO (ninD x (D.str ([97, 98] : List Nat)))) g) xs g)).bind fun y17 g => .ok (y17.any id) g).bind fun b g => if b then .ok true g else ((((ofR (ixD back (D.int 0)) g).bind fun y18 g => ofR (lenD [y18]) g).bind fun x20 g => ((ofR (ixD back (D.int 1)) g).bind fun y19 g => ofR (lenD [y19]) g).bind fun x21 g => ofR (subD x20 x21) g).bind fun y22 g => ofR (absD [y22]) g).bind fun x23 g => ofR (bO (gtD x23 (D.int 21))) g) (tx_v (nx_binXP (c'' := D.bl) (o := fun x16 => bO (neD x16 (D.int 2))) (nx_cbP (ap_cons (np_var (c := cD) (v := back) (i := 14) rfl) ap_nil) mapD) (NP.d (np_c (c := D.int))) (fun x16 => b_ne))) (fun g => (tx_or (w := fun g => ((((ofR (ixD back (D.int 0)) g).bind fun y18 g => ofR (lenD [y18]) g).bind fun x20 g => ((ofR (ixD back (D.int 1)) g).bind fun y19 g => ofR (lenD [y19]) g).bind fun x21 g => ofR (subD x20 x21) g).bind fun y22 g => ofR (absD [y22]) g).bind fun x23 g => ofR (bO (gtD x23 (D.int 21))) g) (tx_v (nx_cb (c := D.bl) (ax_X (r := fun y17 g => .ok (y17.any id) g) (nx_lcN (q := (fun (x : D) => [none, none, none, some (D.str word), none, none, none, none, none, none, some row, none, none, some low, some back, none, none, none, none, none, none, none, none, none, some x, none])) (c' := D.bl) (tn := (fun (x : D) (g : G) => R.ok true g)) (en := (fun (x : D) (g : G) => ofR (bO (ninD x (D.str ([97, 98] : List Nat)))) g)) (ix_D (nx_callP (ap_cons (np_var (c := cD) (v := row) (i := 10) rfl) (ap_cons (np_var (c := cD) (v := low) (i := 13) rfl) ap_nil)) RmapD)) (fun x => (gt_name (i := 24) (of_decide_eq_true rfl))) (fun x g => (TP.x tp_yes)) (fun x g => (nx_binPP (c'' := D.bl) (np_var (c := cD) (v := x) (i := 24) rfl) (NP.d (np_c (c := D.str))) b_nin))) (fun y17 g => ax_nil (by show ofO (anyD [((cL D.bl) y17)]) g = _; rw [show anyD [((cL D.bl) y17)] = some _ from any_L]; rfl))))) (fun g => (tx_v (nx_binXP (c'' := D.bl) (o := fun x23 => bO (gtD x23 (D.int 21))) (nx_cb (ax_X (r := fun y22 g => ofR (absD [y22]) g) (nx_binXX (c'' := cD) (r2 := fun _ g => (ofR (ixD back (D.int 1)) g).bind fun y19 g => ofR (lenD [y19]) g) (o := fun x20 x21 => subD x20 x21) (nx_cb (ax_X (r := fun y18 g => ofR (lenD [y18]) g) (nx_binPP (c'' := cD) (np_var (c := cD) (v := back) (i := 14) rfl) (NP.d (np_c (c := D.int))) mapD) (fun y18 g => (ax_nil (ofO_D))))) (fun _ g => (nx_cb (ax_X (r := fun y19 g => ofR (lenD [y19]) g) (nx_binPP (c'' := cD) (np_var (c := cD) (v := back) (i := 14) rfl) (NP.d (np_c (c := D.int))) mapD) (fun y19 g => (ax_nil (ofO_D)))))) (fun x20 x21 => mapD)) (fun y22 g => (ax_nil (ofO_D))))) (NP.d (np_c (c := D.int))) (fun x23 => b_gt))))))) (fun g => (ns_retFP (np_c (c := D.bl)))) (fun g => (ns_nop (NS.weak (.keep (.keep (.keep (.keep (.keep (.keep (.keep (.keep (.keep (.keep (.keep (.keep (.keep (.keep (.skip (.keep (.keep (.keep (.keep (.keep (.keep (.keep (.keep (.keep (.keep (.keep .nil)))))))))))))))))))))))))) (ty_law_T19 word row low g)))))
def f_law_T17 (word : List Nat) (row : D) (low : D) (g : G) : R (Bool) := (F_return_words [row, low] g).bind fun back g => f_law_T18 word row low back g
theorem ty_law_T17 (word : List Nat) (row : D) (low : D) (g : G) : NS (kFn D.bl) [none, none, none, some (D.str word), none, none, none, none, none, none, some row, none, none, some low, none, none, none, none, none, none, none, none, none, none, none, none] g law_t17 (f_law_T17 word row low g) := (ns_set (nx_callP (ap_cons (np_var (c := cD) (v := row) (i := 10) rfl) (ap_cons (np_var (c := cD) (v := low) (i := 13) rfl) ap_nil)) RmapD) (fun back => (gt_name (i := 14) (of_decide_eq_true rfl))) (fun back g => (NS.weak (.keep (.keep (.keep (.keep (.keep (.keep (.keep (.keep (.keep (.keep (.keep (.keep (.keep (.keep (.keep (.keep (.keep (.keep (.keep (.keep (.keep (.keep (.keep (.keep (.keep (.keep .nil)))))))))))))))))))))))))) (ty_law_T18 word row low back g))))
def f_law_T16 (state : Nat) (word : List Nat) (row : D) (lot : D) (g : G) : R (Bool) := (((ofR (lenD [lot]) g).bind fun y14 g => F_law_take [(D.gen state), y14] g).bind fun x15 g => ofR (ixD lot x15) g).bind fun low g => f_law_T17 word row low g
theorem ty_law_T16 (state : Nat) (word : List Nat) (row : D) (lot : D) (g : G) : NS (kFn D.bl) [none, some (D.gen state), none, some (D.str word), none, none, none, none, none, none, some row, none, some lot, none, none, none, none, none, none, none, none, none, none, none, none, none] g law_t16 (f_law_T16 state word row lot g) := (ns_set (nx_binPX (c'' := cD) (o := fun x15 => ixD lot x15) (np_var (c := cD) (v := lot) (i := 12) rfl) (nx_call (ax_P (NP.d (np_var (c := D.gen) (v := state) (i := 1) rfl)) (ax_X (r := fun y14 g => F_law_take [(D.gen state), y14] g) (nx_cbP (ap_cons (np_var (c := cD) (v := lot) (i := 12) rfl) ap_nil) mapD) (fun y14 g => (ax_nil RmapD))))) (fun x15 => mapD)) (fun low => (gt_name (i := 13) (of_decide_eq_true rfl))) (fun low g => (NS.weak (.keep (.skip (.keep (.keep (.keep (.keep (.keep (.keep (.keep (.keep (.keep (.keep (.skip (.keep (.keep (.keep (.keep (.keep (.keep (.keep (.keep (.keep (.keep (.keep (.keep (.keep .nil)))))))))))))))))))))))))) (ty_law_T17 word row low g))))
def f_law_T15 (state : Nat) (word : List Nat) (golden : D) (row : D) (length : Int) (g : G) : R (Bool) := (F_grown_words [golden, (D.int length)] g).bind fun lot g => f_law_T16 state word row lot g
theorem ty_law_T15 (state : Nat) (word : List Nat) (golden : D) (row : D) (length : Int) (g : G) : NS (kFn D.bl) [none, some (D.gen state), none, some (D.str word), none, none, none, none, none, some golden, some row, some (D.int length), none, none, none, none, none, none, none, none, none, none, none, none, none, none] g law_t15 (f_law_T15 state word golden row length g) := (ns_set (nx_callP (ap_cons (np_var (c := cD) (v := golden) (i := 9) rfl) (ap_cons (NP.d (np_var (c := D.int) (v := length) (i := 11) rfl)) ap_nil)) RmapD) (fun lot => (gt_name (i := 12) (of_decide_eq_true rfl))) (fun lot g => (NS.weak (.keep (.keep (.keep (.keep (.keep (.keep (.keep (.keep (.keep (.skip (.keep (.skip (.keep (.keep (.keep (.keep (.keep (.keep (.keep (.keep (.keep (.keep (.keep (.keep (.keep (.keep .nil)))))))))))))))))))))))))) (ty_law_T16 state word row lot g))))
def f_law_T14 (state : Nat) (word : List Nat) (golden : D) (row : D) (length : Int) (g : G) : R (Bool) := ((takeR state 6 g).bind fun x13 g => .ok (1 + x13) g).bind fun length g => f_law_T15 state word golden row length g
theorem ty_law_T14 (state : Nat) (word : List Nat) (golden : D) (row : D) (length : Int) (g : G) : NS (kFn D.bl) [none, some (D.gen state), none, some (D.str word), none, none, none, none, none, some golden, some row, some (D.int length), none, none, none, none, none, none, none, none, none, none, none, none, none, none] g law_t14 (f_law_T14 state word golden row length g) := (ns_set (nx_binPXT (c'' := D.int) (o := fun x13 => 1 + x13) (np_c (c := D.int)) (nx_callP (ap_cons (np_var (c := D.gen) (v := state) (i := 1) rfl) (ap_cons (np_c (c := D.int)) ap_nil)) ty_take) (fun x13 => rfl)) (fun length => (gt_name (i := 11) (of_decide_eq_true rfl))) (fun length g => (NS.weak (.keep (.keep (.keep (.keep (.keep (.keep (.keep (.keep (.keep (.keep (.keep (.keep (.keep (.keep (.keep (.keep (.keep (.keep (.keep (.keep (.keep (.keep (.keep (.keep (.keep (.keep .nil)))))))))))))))))))))))))) (ty_law_T15 state word golden row length g))))
def f_law_T13 (state : Nat) (word : List Nat) (golden : D) (length : Int) (g : G) : R (Bool) := (F_fixed_start [golden, (D.str ([97] : List Nat)), (D.int 200)] g).bind fun row g => f_law_T14 state word golden row length g
theorem ty_law_T13 (state : Nat) (word : List Nat) (golden : D) (length : Int) (g : G) : NS (kFn D.bl) [none, some (D.gen state), none, some (D.str word), none, none, none, none, none, some golden, none, some (D.int length), none, none, none, none, none, none, none, none, none, none, none, none, none, none] g law_t13 (f_law_T13 state word golden length g) := (ns_set (nx_callP (ap_cons (np_var (c := cD) (v := golden) (i := 9) rfl) (ap_cons (NP.d (np_c (c := D.str))) (ap_cons (NP.d (np_c (c := D.int))) ap_nil))) RmapD) (fun row => (gt_name (i := 10) (of_decide_eq_true rfl))) (fun row g => (NS.weak (.keep (.keep (.keep (.keep (.keep (.keep (.keep (.keep (.keep (.keep (.keep (.keep (.keep (.keep (.keep (.keep (.keep (.keep (.keep (.keep (.keep (.keep (.keep (.keep (.keep (.keep .nil)))))))))))))))))))))))))) (ty_law_T14 state word golden row length g))))
def f_law_T12 (state : Nat) (word : List Nat) (length : Int) (g : G) : R (Bool) := (F_named_rule [(D.str ([103, 111, 108, 100, 101, 110] : List Nat))] g).bind fun golden g => f_law_T13 state word golden length g
theorem ty_law_T12 (state : Nat) (word : List Nat) (length : Int) (g : G) : NS (kFn D.bl) [none, some (D.gen state), none, some (D.str word), none, none, none, none, none, none, none, some (D.int length), none, none, none, none, none, none, none, none, none, none, none, none, none, none] g law_t12 (f_law_T12 state word length g) := (ns_set (nx_callP (ap_cons (NP.d (np_c (c := D.str))) ap_nil) RmapD) (fun golden => (gt_name (i := 9) (of_decide_eq_true rfl))) (fun golden g => (NS.weak (.keep (.keep (.keep (.keep (.keep (.keep (.keep (.keep (.keep (.keep (.keep (.keep (.keep (.keep (.keep (.keep (.keep (.keep (.keep (.keep (.keep (.keep (.keep (.keep (.keep (.keep .nil)))))))))))))))))))))))))) (ty_law_T13 state word golden length g))))
def f_law_T11 (state : Nat) (word : List Nat) (piece : List Nat) (found : List (List Nat)) (length : Int) (g : G) : R (Bool) := (forN (fun s x g => f_law_L2 state word piece found length  x g) found () g).bind fun z g => z.on (fun s => f_law_T12 state word length g) (fun x => .ok x g)
theorem ty_law_T11 (state : Nat) (word : List Nat) (piece : List Nat) (found : List (List Nat)) (length : Int) (g : G) : NS (kFn D.bl) [none, some (D.gen state), none, some (D.str word), some (D.str piece), none, some ((cL D.str) found), none, none, none, none, some (D.int length), none, none, none, none, none, none, none, none, none, none, none, none, none, none] g law_t11 (f_law_T11 state word piece found length g) := (ns_assoc (ns_forNP (P := (fun s : Unit => ([none, some (D.gen state), none, some (D.str word), some (D.str piece), none, some ((cL D.str) found), none, none, none, none, some (D.int length), none, none, none, none, none, none, none, none, none, none, none, none, none, none] : Pt))) (f := (fun s x g => f_law_L2 state word piece found length  x g)) (s := ()) (kk := fun s g => f_law_T12 state word length g) (kr := fun x g => .ok x g) (ip_L (np_var (c := (cL D.str)) (v := found) (i := 6) rfl)) (.keep (.keep (.keep (.keep (.keep (.keep (.keep (.keep (.keep (.keep (.keep (.keep (.keep (.keep (.keep (.keep (.keep (.keep (.keep (.keep (.keep (.keep (.keep (.keep (.keep (.keep .nil)))))))))))))))))))))))))) (fun s x => (gt_name (i := 8) (of_decide_eq_true rfl))) (fun s x g => ty_law_L2 state word piece found length  x g) (fun x g => rfl) (fun s g => (ns_kill (NS.weak (.keep (.keep (.keep (.keep (.skip (.keep (.skip (.keep (.keep (.keep (.keep (.keep (.keep (.keep (.keep (.keep (.keep (.keep (.keep (.keep (.keep (.keep (.keep (.keep (.keep (.keep .nil)))))))))))))))))))))))))) (ty_law_T12 state word length g))))))
def f_law_T10 (state : Nat) (word : List Nat) (piece : List Nat) (places : List (Int)) (found : List (List Nat)) (told : D) (length : Int) (g : G) : R (Bool) := if decide (4 < ((found.length : Nat) : Int)) then (ofR (bO (neD told ((c2 D.str D.str) (([114, 101, 102, 117, 115, 101, 100] : List Nat), ([109, 97, 110, 121] : List Nat))))) g).bind fun b g => if b then .ok false g else f_law_T11 state word piece found length g else (((R.ok ((places).zip (cut places (some 1) none)) g).bind fun xs g => noX (lcN (fun (x44 : (Int) × (Int)) (g : G) => R.ok true g) (fun (x44 : (Int) × (Int)) (g : G) => (ofR (idxO found (cut word (some x44.1) (some x44.2))) g).bind fun x45 g => ofR (ixS ([97, 98, 99, 100] : List Nat) x45) g) xs g)).bind fun x46 g => ofR (joinO ([] : List Nat) x46) g).bind fun due g => (((F_law_same [told, ((c2 D.str D.str) (([116, 111, 108, 100] : List Nat), due))] g).bind fun d g => ofR (isB d) g).bind fun b g => .ok (!b) g).bind fun b g => if b then .ok false g else (if decide (0 < ((places.length : Nat) : Int)) then (((((R.ok (chars due) g).bind fun xs g => noX (lcN (fun (c : List Nat) (g : G) => R.ok true g) (fun (c : List Nat) (g : G) => (ofR (indexO ([97, 98, 99, 100] : List Nat) c) g).bind fun x47 g => ofR (itD found x47) g) xs g)).bind fun x48 g => ofR (joinO ([] : List Nat) x48) g).bind fun x49 g => ofR (catO x49 piece) g).map D.str).bind fun x51 g => ((R.ok (D.str word) g).bind fun d g => (ofR (itD places 0) g).bind fun i g => ((ofR (itD places (-1)) g).bind fun x50 g => .ok (x50 + ((piece.length : Nat) : Int)) g).bind fun j g => ofR (sliceD d (some i) (some j)) g).bind fun x52 g => ofR (bO (neD x51 x52)) g else .ok false g).bind fun b g => if b then .ok false g else f_law_T11 state word piece found length g
theorem ty_law_T10 (state : Nat) (word : List Nat) (piece : List Nat) (places : List (Int)) (found : List (List Nat)) (told : D) (length : Int) (g : G) : NS (kFn D.bl) [none, some (D.gen state), none, some (D.str word), some (D.str piece), some ((cL D.int) places), some ((cL D.str) found), some told, none, none, none, some (D.int length), none, none, none, none, none, none, none, none, none, none, none, none, none, none] g law_t10 (f_law_T10 state word piece places found told length g) := (ns_ifP (tp_v (np_bin (c'' := D.bl) (z := decide (4 < ((found.length : Nat) : Int))) (np_cb (c := D.int) (v := ((found.length : Nat) : Int)) (ap_cons (np_var (c := (cL D.str)) (v := found) (i := 6) rfl) ap_nil) len_L) (np_c (c := D.int)) rfl)) (ns_if (r1 := fun g => .ok false g) (r2 := fun g => f_law_T11 state word piece found length g) (tx_v (nx_binPP (c'' := D.bl) (np_var (c := cD) (v := told) (i := 7) rfl) (NP.d (np_tup (c := (c2 D.str D.str)) (v := (([114, 101, 102, 117, 115, 101, 100] : List Nat), ([109, 97, 110, 121] : List Nat))) (ap_cons (np_c (c := D.str)) (ap_cons (np_c (c := D.str)) ap_nil)) (by rfl) rfl)) b_ne)) (fun g => (ns_retFP (np_c (c := D.bl)))) (fun g => (ns_nop (NS.weak (.keep (.keep (.keep (.keep (.keep (.skip (.keep (.skip (.keep (.keep (.keep (.keep (.keep (.keep (.keep (.keep (.keep (.keep (.keep (.keep (.keep (.keep (.keep (.keep (.keep (.keep .nil)))))))))))))))))))))))))) (ty_law_T11 state word piece found length g))))) (ns_assoc (ns_set (nx_smX (c'' := D.str) (o := fun x46 => joinO ([] : List Nat) x46) (np_c (c := D.str)) (nx_lcN (q := (fun (x44 : (Int) × (Int)) => [none, some (D.gen state), none, some (D.str word), some (D.str piece), some ((cL D.int) places), some ((cL D.str) found), some told, none, none, none, some (D.int length), none, none, none, none, none, some (D.int x44.1), some (D.int x44.2), none, none, none, none, none, none, none])) (c' := D.str) (tn := (fun (x44 : (Int) × (Int)) (g : G) => R.ok true g)) (en := (fun (x44 : (Int) × (Int)) (g : G) => (ofR (idxO found (cut word (some x44.1) (some x44.2))) g).bind fun x45 g => ofR (ixS ([97, 98, 99, 100] : List Nat) x45) g)) (IP.x (ip_zip (np_var (c := (cL D.int)) (v := places) (i := 5) rfl) (np_sl10 (c := (cL D.int)) (w := cut places (some 1) none) (np_var (c := (cL D.int)) (v := places) (i := 5) rfl) (np_c (c := D.int)) sl_L) wk_L wk_L)) (fun x44 => (gt_tup (gq_cons (gt_name (i := 17) (of_decide_eq_true rfl)) (gq_cons (gt_name (i := 18) (of_decide_eq_true rfl)) gq_nil)))) (fun x44 g => (TP.x tp_yes)) (fun x44 g => (nx_binPX (c'' := D.str) (o := fun x45 => ixS ([97, 98, 99, 100] : List Nat) x45) (np_c (c := D.str)) (nx_idxP (c'' := D.int) (np_var (c := (cL D.str)) (v := found) (i := 6) rfl) (np_sl11 (c := D.str) (w := cut word (some x44.1) (some x44.2)) (np_var (c := D.str) (v := word) (i := 3) rfl) (np_var (c := D.int) (v := x44.1) (i := 17) rfl) (np_var (c := D.int) (v := x44.2) (i := 18) rfl) rfl) rfl (idx_L flc_str _ _)) (fun x45 => itx_S)))) (fun _ => join_S)) (fun due => (gt_name (i := 19) (of_decide_eq_true rfl))) (fun due g => (ns_assoc (ns_if (r1 := fun g => .ok false g) (r2 := fun g => (if decide (0 < ((places.length : Nat) : Int)) then (((((R.ok (chars due) g).bind fun xs g => noX (lcN (fun (c : List Nat) (g : G) => R.ok true g) (fun (c : List Nat) (g : G) => (ofR (indexO ([97, 98, 99, 100] : List Nat) c) g).bind fun x47 g => ofR (itD found x47) g) xs g)).bind fun x48 g => ofR (joinO ([] : List Nat) x48) g).bind fun x49 g => ofR (catO x49 piece) g).map D.str).bind fun x51 g => ((R.ok (D.str word) g).bind fun d g => (ofR (itD places 0) g).bind fun i g => ((ofR (itD places (-1)) g).bind fun x50 g => .ok (x50 + ((piece.length : Nat) : Int)) g).bind fun j g => ofR (sliceD d (some i) (some j)) g).bind fun x52 g => ofR (bO (neD x51 x52)) g else .ok false g).bind fun b g => if b then .ok false g else f_law_T11 state word piece found length g) (tx_not (tx_vD (nx_callP (ap_cons (np_var (c := cD) (v := told) (i := 7) rfl) (ap_cons (NP.d (np_tup (c := (c2 D.str D.str)) (v := (([116, 111, 108, 100] : List Nat), due)) (ap_cons (np_c (c := D.str)) (ap_cons (np_var (c := D.str) (v := due) (i := 19) rfl) ap_nil)) (by rfl) rfl)) ap_nil)) RmapD))) (fun g => (ns_retFP (np_c (c := D.bl)))) (fun g => (ns_nop (ns_if (r1 := fun g => .ok false g) (r2 := fun g => f_law_T11 state word piece found length g) (tx_andP (tp_v (np_bin (c'' := D.bl) (z := decide (0 < ((places.length : Nat) : Int))) (np_cb (c := D.int) (v := ((places.length : Nat) : Int)) (ap_cons (np_var (c := (cL D.int)) (v := places) (i := 5) rfl) ap_nil) len_L) (np_c (c := D.int)) rfl)) (tx_v (nx_binXX (c'' := D.bl) (r2 := fun _ g => (R.ok (D.str word) g).bind fun d g => (ofR (itD places 0) g).bind fun i g => ((ofR (itD places (-1)) g).bind fun x50 g => .ok (x50 + ((piece.length : Nat) : Int)) g).bind fun j g => ofR (sliceD d (some i) (some j)) g) (o := fun x51 x52 => bO (neD x51 x52)) (NX.d (nx_binXP (c'' := D.str) (o := fun x49 => catO x49 piece) (nx_smX (c'' := D.str) (o := fun x48 => joinO ([] : List Nat) x48) (np_c (c := D.str)) (nx_lcN (q := (fun (c : List Nat) => [none, some (D.gen state), none, some (D.str word), some (D.str piece), some ((cL D.int) places), some ((cL D.str) found), some told, none, none, none, some (D.int length), none, none, none, none, none, none, none, some (D.str due), none, none, none, none, none, some (D.str c)])) (c' := D.str) (tn := (fun (c : List Nat) (g : G) => R.ok true g)) (en := (fun (c : List Nat) (g : G) => (ofR (indexO ([97, 98, 99, 100] : List Nat) c) g).bind fun x47 g => ofR (itD found x47) g)) (IP.x (ip_str (np_var (c := D.str) (v := due) (i := 19) rfl))) (fun c => (gt_name (i := 25) (of_decide_eq_true rfl))) (fun c g => (TP.x tp_yes)) (fun c g => (nx_binPX (c'' := D.str) (o := fun x47 => itD found x47) (np_var (c := (cL D.str)) (v := found) (i := 6) rfl) (nx_smP (c'' := D.int) (np_c (c := D.str)) (np_var (c := D.str) (v := c) (i := 25) rfl) index_S) (fun x47 => itx_L)))) (fun _ => join_S)) (np_var (c := D.str) (v := piece) (i := 4) rfl) (fun x49 => add_S))) (fun _ g => (nx_slB11 (r1 := fun g => ofR (itD places 0) g) (r2 := fun g => (ofR (itD places (-1)) g).bind fun x50 g => .ok (x50 + ((piece.length : Nat) : Int)) g) (NP.x (NP.d (np_var (c := D.str) (v := word) (i := 3) rfl))) (fun g => (bx_I (nx_binPP (c'' := D.int) (np_var (c := (cL D.int)) (v := places) (i := 5) rfl) (np_c (c := D.int)) itx_L))) (fun g => (bx_I (nx_binXPT (c'' := D.int) (o := fun x50 => x50 + ((piece.length : Nat) : Int)) (nx_binPP (c'' := D.int) (np_var (c := (cL D.int)) (v := places) (i := 5) rfl) (np_un (c' := D.int) (w := -1) (np_c (c := D.int)) rfl) itx_L) (np_cb (c := D.int) (v := ((piece.length : Nat) : Int)) (ap_cons (np_var (c := D.str) (v := piece) (i := 4) rfl) ap_nil) rfl) (fun x50 => rfl)))))) (fun x51 x52 => b_ne)))) (fun g => (ns_retFP (np_c (c := D.bl)))) (fun g => (ns_nop (NS.weak (.keep (.keep (.keep (.keep (.keep (.skip (.keep (.skip (.keep (.keep (.keep (.keep (.keep (.keep (.keep (.keep (.keep (.keep (.keep (.skip (.keep (.keep (.keep (.keep (.keep (.keep .nil)))))))))))))))))))))))))) (ty_law_T11 state word piece found length g)))))))))))))
def f_law_T9 (state : Nat) (word : List Nat) (piece : List Nat) (places : List (Int)) (found : List (List Nat)) (length : Int) (g : G) : R (Bool) := (F_law_told [(D.fn 0), ((c2 D.str D.str) (word, piece))] g).bind fun told g => f_law_T10 state word piece places found told length g
theorem ty_law_T9 (state : Nat) (word : List Nat) (piece : List Nat) (places : List (Int)) (found : List (List Nat)) (length : Int) (g : G) : NS (kFn D.bl) [none, some (D.gen state), none, some (D.str word), some (D.str piece), some ((cL D.int) places), some ((cL D.str) found), none, none, none, none, some (D.int length), none, none, none, none, none, none, none, none, none, none, none, none, none, none] g law_t9 (f_law_T9 state word piece places found length g) := (ns_set (nx_callP (ap_cons (np_c (c := cD)) (ap_cons (NP.d (np_tup (c := (c2 D.str D.str)) (v := (word, piece)) (ap_cons (np_var (c := D.str) (v := word) (i := 3) rfl) (ap_cons (np_var (c := D.str) (v := piece) (i := 4) rfl) ap_nil)) (by rfl) rfl)) ap_nil)) RmapD) (fun told => (gt_name (i := 7) (of_decide_eq_true rfl))) (fun told g => (NS.weak (.keep (.keep (.keep (.keep (.keep (.keep (.keep (.keep (.keep (.keep (.keep (.keep (.keep (.keep (.keep (.keep (.keep (.keep (.keep (.keep (.keep (.keep (.keep (.keep (.keep (.keep .nil)))))))))))))))))))))))))) (ty_law_T10 state word piece places found told length g))))
def f_law_T8 (state : Nat) (word : List Nat) (piece : List Nat) (places : List (Int)) (found : List (List Nat)) (length : Int) (g : G) : R (Bool) := (((((f_return_words word piece g).map (cT D.str)).bind fun y10 g => F_law_same [y10, ((cT D.str) found)] g).bind fun d g => ofR (isB d) g).bind fun b g => .ok (!b) g).bind fun b g => if b then .ok false g else f_law_T9 state word piece places found length g
theorem ty_law_T8 (state : Nat) (word : List Nat) (piece : List Nat) (places : List (Int)) (found : List (List Nat)) (length : Int) (g : G) : NS (kFn D.bl) [none, some (D.gen state), none, some (D.str word), some (D.str piece), some ((cL D.int) places), some ((cL D.str) found), none, none, none, none, some (D.int length), none, none, none, none, none, none, none, none, none, none, none, none, none, none] g law_t8 (f_law_T8 state word piece places found length g) := (ns_if (r1 := fun g => .ok false g) (r2 := fun g => f_law_T9 state word piece places found length g) (tx_not (tx_vD (nx_call (ax_X (r := fun y10 g => F_law_same [y10, ((cT D.str) found)] g) (NX.d (nx_callP (ap_cons (np_var (c := D.str) (v := word) (i := 3) rfl) (ap_cons (np_var (c := D.str) (v := piece) (i := 4) rfl) ap_nil)) ty_return_words)) (fun y10 g => (ax_P (NP.d (np_cb (c := (cT D.str)) (v := found) (ap_cons (np_var (c := (cL D.str)) (v := found) (i := 6) rfl) ap_nil) rfl)) (ax_nil RmapD))))))) (fun g => (ns_retFP (np_c (c := D.bl)))) (fun g => (ns_nop (NS.weak (.keep (.keep (.keep (.keep (.keep (.keep (.keep (.keep (.keep (.keep (.keep (.keep (.keep (.keep (.keep (.keep (.keep (.keep (.keep (.keep (.keep (.keep (.keep (.keep (.keep (.keep .nil)))))))))))))))))))))))))) (ty_law_T9 state word piece places found length g)))))
def f_law_T7 (state : Nat) (word : List Nat) (piece : List Nat) (places : List (Int)) (found : List (List Nat)) (length : Int) (g : G) : R (Bool) := (forS (fun s x g => f_law_L1 state word piece places length s x g) ((places).zip (cut places (some 1) none)) found g).bind fun s g => f_law_T8 state word piece places s length g
theorem ty_law_T7 (state : Nat) (word : List Nat) (piece : List Nat) (places : List (Int)) (found : List (List Nat)) (length : Int) (g : G) : NS (kFn D.bl) [none, some (D.gen state), none, some (D.str word), some (D.str piece), some ((cL D.int) places), some ((cL D.str) found), none, none, none, none, some (D.int length), none, none, none, none, none, none, none, none, none, none, none, none, none, none] g law_t7 (f_law_T7 state word piece places found length g) := (ns_forP (P := (fun s : (List (List Nat)) => ([none, some (D.gen state), none, some (D.str word), some (D.str piece), some ((cL D.int) places), some ((cL D.str) s), none, none, none, none, some (D.int length), none, none, none, none, none, none, none, none, none, none, none, none, none, none] : Pt))) (f := (fun s x g => f_law_L1 state word piece places length s x g)) (s := found) (kk := fun s g => f_law_T8 state word piece places s length g) (ip_zip (np_var (c := (cL D.int)) (v := places) (i := 5) rfl) (np_sl10 (c := (cL D.int)) (w := cut places (some 1) none) (np_var (c := (cL D.int)) (v := places) (i := 5) rfl) (np_c (c := D.int)) sl_L) wk_L wk_L) (.keep (.keep (.keep (.keep (.keep (.keep (.keep (.keep (.keep (.keep (.keep (.keep (.keep (.keep (.keep (.keep (.keep (.keep (.keep (.keep (.keep (.keep (.keep (.keep (.keep (.keep .nil)))))))))))))))))))))))))) (fun s x => (gt_tup (gq_cons (gt_name (i := 17) (of_decide_eq_true rfl)) (gq_cons (gt_name (i := 18) (of_decide_eq_true rfl)) gq_nil)))) (fun s x g => ty_law_L1 state word piece places length s x g) (fun s g => (NS.weak (.keep (.keep (.keep (.keep (.keep (.keep (.keep (.keep (.keep (.keep (.keep (.keep (.keep (.keep (.keep (.keep (.keep (.keep (.keep (.keep (.keep (.keep (.keep (.keep (.keep (.keep .nil)))))))))))))))))))))))))) (ty_law_T8 state word piece places s length g))))
def f_law_T6 (state : Nat) (word : List Nat) (piece : List Nat) (places : List (Int)) (length : Int) (g : G) : R (Bool) := f_law_T7 state word piece places ([] : List (List Nat)) length g
theorem ty_law_T6 (state : Nat) (word : List Nat) (piece : List Nat) (places : List (Int)) (length : Int) (g : G) : NS (kFn D.bl) [none, some (D.gen state), none, some (D.str word), some (D.str piece), some ((cL D.int) places), none, none, none, none, none, some (D.int length), none, none, none, none, none, none, none, none, none, none, none, none, none, none] g law_t6 (f_law_T6 state word piece places length g) := (ns_setP (np_lst (c := (cL D.str)) (v := ([] : List (List Nat))) ap_nil (by rfl) rfl) (gt_name (i := 6) (of_decide_eq_true rfl)) (NS.weak (.keep (.keep (.keep (.keep (.keep (.keep (.keep (.keep (.keep (.keep (.keep (.keep (.keep (.keep (.keep (.keep (.keep (.keep (.keep (.keep (.keep (.keep (.keep (.keep (.keep (.keep .nil)))))))))))))))))))))))))) (ty_law_T7 state word piece places ([] : List (List Nat)) length g)))
def f_law_T5 (state : Nat) (word : List Nat) (piece : List Nat) (length : Int) (g : G) : R (Bool) := (f_law_places word piece g).bind fun places g => f_law_T6 state word piece places length g
theorem ty_law_T5 (state : Nat) (word : List Nat) (piece : List Nat) (length : Int) (g : G) : NS (kFn D.bl) [none, some (D.gen state), none, some (D.str word), some (D.str piece), none, none, none, none, none, none, some (D.int length), none, none, none, none, none, none, none, none, none, none, none, none, none, none] g law_t5 (f_law_T5 state word piece length g) := (ns_set (nx_callP (ap_cons (np_var (c := D.str) (v := word) (i := 3) rfl) (ap_cons (np_var (c := D.str) (v := piece) (i := 4) rfl) ap_nil)) ty_law_places) (fun places => (gt_name (i := 5) (of_decide_eq_true rfl))) (fun places g => (NS.weak (.keep (.keep (.keep (.keep (.keep (.keep (.keep (.keep (.keep (.keep (.keep (.keep (.keep (.keep (.keep (.keep (.keep (.keep (.keep (.keep (.keep (.keep (.keep (.keep (.keep (.keep .nil)))))))))))))))))))))))))) (ty_law_T6 state word piece places length g))))
def f_law_T4 (state : Nat) (word : List Nat) (piece : List Nat) (length : Int) (g : G) : R (Bool) := f_law_T5 state word (if !eqT piece ([] : List Nat) then piece else ([97] : List Nat)) length g
theorem ty_law_T4 (state : Nat) (word : List Nat) (piece : List Nat) (length : Int) (g : G) : NS (kFn D.bl) [none, some (D.gen state), none, some (D.str word), some (D.str piece), none, none, none, none, none, none, some (D.int length), none, none, none, none, none, none, none, none, none, none, none, none, none, none] g law_t4 (f_law_T4 state word piece length g) := (ns_setP (np_if (tp_v (np_bin (c'' := D.bl) (z := !eqT piece ([] : List Nat)) (np_var (c := D.str) (v := piece) (i := 4) rfl) (np_c (c := D.str)) (ne_C eqc_str shc_str (by decide) _ _))) (np_var (c := D.str) (v := piece) (i := 4) rfl) (np_c (c := D.str))) (gt_name (i := 4) (of_decide_eq_true rfl)) (NS.weak (.keep (.keep (.keep (.keep (.keep (.keep (.keep (.keep (.keep (.keep (.keep (.keep (.keep (.keep (.keep (.keep (.keep (.keep (.keep (.keep (.keep (.keep (.keep (.keep (.keep (.keep .nil)))))))))))))))))))))))))) (ty_law_T5 state word (if !eqT piece ([] : List Nat) then piece else ([97] : List Nat)) length g)))
def f_law_T3 (state : Nat) (word : List Nat) (length : Int) (k : Int) (g : G) : R (Bool) := f_law_T4 state word (cut word (some k) (some (k + length))) length g
theorem ty_law_T3 (state : Nat) (word : List Nat) (length : Int) (k : Int) (g : G) : NS (kFn D.bl) [none, some (D.gen state), none, some (D.str word), none, none, none, none, none, none, none, some (D.int length), none, none, none, none, some (D.int k), none, none, none, none, none, none, none, none, none] g law_t3 (f_law_T3 state word length k g) := (ns_setP (np_sl11 (c := D.str) (w := cut word (some k) (some (k + length))) (np_var (c := D.str) (v := word) (i := 3) rfl) (np_var (c := D.int) (v := k) (i := 16) rfl) (np_bin (c'' := D.int) (z := k + length) (np_var (c := D.int) (v := k) (i := 16) rfl) (np_var (c := D.int) (v := length) (i := 11) rfl) rfl) rfl) (gt_name (i := 4) (of_decide_eq_true rfl)) (NS.weak (.keep (.keep (.keep (.keep (.keep (.keep (.keep (.keep (.keep (.keep (.keep (.keep (.keep (.keep (.keep (.keep (.skip (.keep (.keep (.keep (.keep (.keep (.keep (.keep (.keep (.keep .nil)))))))))))))))))))))))))) (ty_law_T4 state word (cut word (some k) (some (k + length))) length g)))
def f_law_T2 (state : Nat) (word : List Nat) (g : G) : R (Bool) := (takeR state (((word.length : Nat) : Int) + 1) g).bind fun k g => ((takeR state 3 g).bind fun x9 g => .ok (1 + x9) g).bind fun length g => f_law_T3 state word length k g
theorem ty_law_T2 (state : Nat) (word : List Nat) (g : G) : NS (kFn D.bl) [none, some (D.gen state), none, some (D.str word), none, none, none, none, none, none, none, none, none, none, none, none, none, none, none, none, none, none, none, none, none, none] g law_t2 (f_law_T2 state word g) := (ns_par (r := takeR state (((word.length : Nat) : Int) + 1) g) (r2 := fun _ g => (takeR state 3 g).bind fun x9 g => .ok (1 + x9) g) (nx_callP (ap_cons (np_var (c := D.gen) (v := state) (i := 1) rfl) (ap_cons (np_bin (c'' := D.int) (z := ((word.length : Nat) : Int) + 1) (np_cb (c := D.int) (v := ((word.length : Nat) : Int)) (ap_cons (np_var (c := D.str) (v := word) (i := 3) rfl) ap_nil) rfl) (np_c (c := D.int)) rfl) ap_nil)) ty_take) (fun _ g => (nx_binPXT (c'' := D.int) (o := fun x9 => 1 + x9) (np_c (c := D.int)) (nx_callP (ap_cons (np_var (c := D.gen) (v := state) (i := 1) rfl) (ap_cons (np_c (c := D.int)) ap_nil)) ty_take) (fun x9 => rfl))) (of_decide_eq_true rfl) (of_decide_eq_true rfl) (fun k length g => (NS.weak (.keep (.keep (.keep (.keep (.keep (.keep (.keep (.keep (.keep (.keep (.keep (.keep (.keep (.keep (.keep (.keep (.keep (.keep (.keep (.keep (.keep (.keep (.keep (.keep (.keep (.keep .nil)))))))))))))))))))))))))) (ty_law_T3 state word length k g))))
def f_law_T1 (state : Nat) (size : Int) (g : G) : R (Bool) := ((takeR state 40 g).bind fun y8 g => f_law_word state size y8 g).bind fun word g => f_law_T2 state word g
theorem ty_law_T1 (state : Nat) (size : Int) (g : G) : NS (kFn D.bl) [none, some (D.gen state), some (D.int size), none, none, none, none, none, none, none, none, none, none, none, none, none, none, none, none, none, none, none, none, none, none, none] g law_t1 (f_law_T1 state size g) := (ns_set (nx_call (ax_P (np_var (c := D.gen) (v := state) (i := 1) rfl) (ax_P (np_var (c := D.int) (v := size) (i := 2) rfl) (ax_X (r := fun y8 g => f_law_word state size y8 g) (nx_callP (ap_cons (np_var (c := D.gen) (v := state) (i := 1) rfl) (ap_cons (np_c (c := D.int)) ap_nil)) ty_take) (fun y8 g => (ax_nil ty_law_word)))))) (fun word => (gt_name (i := 3) (of_decide_eq_true rfl))) (fun word g => (NS.weak (.keep (.keep (.skip (.keep (.keep (.keep (.keep (.keep (.keep (.keep (.keep (.keep (.keep (.keep (.keep (.keep (.keep (.keep (.keep (.keep (.keep (.keep (.keep (.keep (.keep (.keep .nil)))))))))))))))))))))))))) (ty_law_T2 state word g))))
def f_law (st : Nat) (g : G) : R Bool := ((takeR st 3 g).bind fun x7 g => .ok (2 + x7) g).bind fun size g => f_law_T1 st size g
theorem ty_law (st : Nat) (g : G) : (B_law ([none, some (.gen st)] ++ List.replicate 24 none) g).fin = (f_law st g).map D.bl := ((ns_set (nx_binPXT (c'' := D.int) (o := fun x7 => 2 + x7) (np_c (c := D.int)) (nx_callP (ap_cons (np_var (c := D.gen) (v := st) (i := 1) rfl) (ap_cons (np_c (c := D.int)) ap_nil)) ty_take) (fun x7 => rfl)) (fun size => (gt_name (i := 2) (of_decide_eq_true rfl))) (fun size g => (NS.weak (.keep (.keep (.keep (.keep (.keep (.keep (.keep (.keep (.keep (.keep (.keep (.keep (.keep (.keep (.keep (.keep (.keep (.keep (.keep (.keep (.keep (.keep (.keep (.keep (.keep (.keep .nil)))))))))))))))))))))))))) (ty_law_T1 st size g)))) : NS (kFn D.bl) [none, some (D.gen st), none, none, none, none, none, none, none, none, none, none, none, none, none, none, none, none, none, none, none, none, none, none, none, none] g B_law _) _ ⟨rfl, fun i d e => e⟩
end
end K23

namespace K23
open PP
set_option linter.all false
set_option maxRecDepth 100000
/-! ### the law's own -/
theorem law_is_whole_i (i : Int) (g : G) : F_law_is_whole [.int i] g = .ok (.bl true) g := by
  simp [F_law_is_whole, fnOf, B_law_is_whole]
inductive OkS : Nat → D → Prop
  | non {n : Nat} : OkS (n + 1) .non
  | bl {n : Nat} {b : Bool} : OkS (n + 1) (.bl b)
  | int {n : Nat} {i : Int} : OkS (n + 1) (.int i)
  | str {n : Nat} {s : List Nat} : OkS (n + 1) (.str s)
  | tup {n : Nat} {l : List D} (hl : l.length ≤ LIM) (h : ∀ d ∈ l, OkS n d) : OkS (n + 1) (.tup l)
  | lst {n : Nat} {l : List D} (h : OkS n (.tup l)) : OkS (n + 1) (.lst l)
theorem same_refl : ∀ (n : Nat) (d : D), OkS n d → ∀ g : G, R_law_same n [d, d] g = .ok (.bl true) g := by
  intro n
  induction n with
  | zero => intro d h; cases h
  | succ n ih =>
    intro d h g
    cases h with
    | non => simp [R_law_same, fnOf, B_law_same, law_same_t1, law_same_t2, law_same_t3, law_same_t4, law_same_s0, law_same_s1, law_same_s2, law_same_s3, law_same_s4]
    | bl => simp [R_law_same, fnOf, B_law_same, law_same_s0, eqD, eqB]
    | int => simp [R_law_same, fnOf, B_law_same, law_same_t1, law_same_t2, law_same_t3, law_same_t4, law_same_s0, law_same_s1, law_same_s2, law_same_s3, law_same_s4, law_same_s5, law_is_whole_i]
    | str => simp [R_law_same, fnOf, B_law_same, law_same_t1, law_same_t2, law_same_t3, law_same_t4, law_same_s0, law_same_s1, law_same_s2, law_same_s3, eqD, eqB]
    | tup hl h =>
      rename_i l
      have hc : law_same_c0 (R_law_same n) [some (.tup l), some (.tup l), none] g = .ok (.lst ((rngL 0 l.length).map fun _ => .bl true)) g := by
        refine xLc_of (ds := rngL 0 l.length) ?_ (lcL_map _ fun d hd => ?_)
        · exact iRng1_nat (by simp) hl
        · obtain ⟨i, hi, rfl⟩ := rng_mem hd
          refine ⟨_, rfl, ?_⟩
          have e : l[i]? = some l[i] := List.getElem?_eq_getElem hi
          simp [itD_nat e, ih l[i] (h _ (List.getElem_mem hi))]
      have ha : allD [.lst ((rngL 0 l.length).map fun _ => D.bl true)] = some (.bl true) := allD_t _
      simp [R_law_same, fnOf, B_law_same, law_same_t1, law_same_s0, law_same_s1, hc, ha]
    | lst h =>
      rename_i l
      simp [R_law_same, fnOf, B_law_same, law_same_t1, law_same_t2, law_same_s0, law_same_s1, law_same_s2, ih _ h]
theorem same_ok {d : D} (h : OkS 16 d) (g : G) : F_law_same [d, d] g = .ok (.bl true) g := same_refl 16 d h g
abbrev malT : D := .tup [.str [109, 97, 108, 102, 111, 114, 109, 101, 100], .non]
theorem told2_mal {n : Nat} {d1 d2 : D} {g : G} (h : tbl_2 n [d1, d2] g = .ex (.mk 0 []) g) : F_law_told [.fn n, .tup [d1, d2]] g = .ok malT g := by
  simp [F_law_told, fnOf, B_law_told, sTry, itD, plc, h, handleL, noExO]
theorem told2_ok {n : Nat} {d1 d2 d : D} {g g' : G} (h : tbl_2 n [d1, d2] g = .ok d g') : F_law_told [.fn n, .tup [d1, d2]] g = .ok (.tup [.str [116, 111, 108, 100], d]) g' := by
  simp [F_law_told, fnOf, B_law_told, sTry, itD, plc, h, handleL, noExO]
theorem told2_ref {n : Nat} {d1 d2 : D} {s : List Nat} {g : G} (h : tbl_2 n [d1, d2] g = .ex (.mk 1 [.str s]) g) : F_law_told [.fn n, .tup [d1, d2]] g = .ok (.tup [.str [114, 101, 102, 117, 115, 101, 100], .str s]) g := by
  simp [F_law_told, fnOf, B_law_told, sTry, itD, plc, h, handleL, noExO, law_told_h0, fldC, isDat, isDatL]
end K23

namespace K23
open PP
set_option linter.all false
set_option maxRecDepth 100000
abbrev goldD : D := .ins 2 [.int 2, .tup [.str [97, 98], .str [97]]]
abbrev goldS : D := .str [103, 111, 108, 100, 101, 110]
theorem init_gold (g : G) : F_Growing_init [.tup [.str [97, 98], .str [97]]] g = .ok goldD g := initF_of fun a => by kernel_rfl
def E1 : D := (match named_rule_s0 [some goldS, none, none] ⟨false, 0, 0, 0⟩ with
  | .nx [_, some d, _] _ => d
  | _ => .non)
def E2 : D := (match named_rule_s1 [some goldS, none, none] ⟨false, 0, 0, 0⟩ with
  | .nx [_, _, some d] _ => d
  | _ => .non)
theorem nr0 (g : G) : named_rule_s0 [some goldS, none, none] g = .nx [some goldS, some E1, none] g := by kernel_rfl
theorem nr1 (g : G) : named_rule_s1 [some goldS, some E1, none] g = .nx [some goldS, some E1, some E2] g := by kernel_rfl
theorem nr2 (g : G) : named_rule_s2 [some goldS, some E1, some E2] g = .nx [some goldS, some E1, some E2] g := by kernel_rfl
theorem nr3a (g : G) : (aCons (xIf (tV (xBin inD (xVar 0) (xVar 1))) (xBin ixD (xVar 1) (xVar 0)) (xBin ixD (xVar 2) (xVar 0))) aNil) [some goldS, some E1, some E2] g = .ok [.tup [.str [97, 98], .str [97]]] g := by kernel_rfl
theorem nr3 (g : G) : named_rule_s3 [some goldS, some E1, some E2] g = .rt goldD g := by
  unfold named_rule_s3
  rw [ev_ret, ev_call, nr3a, R.bind_ok, init_gold]
  rfl
theorem named_gold (g : G) : F_named_rule [goldS] g = .ok goldD g := by
  unfold F_named_rule
  rw [fnOf_fin]
  show O.fin (B_named_rule [some goldS, none, none] g) = _
  unfold B_named_rule named_rule_t1 named_rule_t2
  rw [seq_nx (nr0 g), seq_nx (nr1 g), seq_nx (nr2 g), nr3]
  rfl
def rowL : List Nat := (match F_fixed_start [goldD, .str [97], .int 200] ⟨false, 0, 0, 0⟩ with
  | .ok (.str s) _ => s
  | _ => [])
theorem row_gold (g : G) : F_fixed_start [goldD, .str [97], .int 200] g = .ok (.str rowL) g := by kernel_rfl
def lotL (n : Int) : List (List Nat) := (match F_grown_words [goldD, .int n] ⟨false, 0, 0, 0⟩ with
  | .ok (.lst l) _ => l.map fun d => match d with
    | .str s => s
    | _ => []
  | _ => [])
theorem lot_gold (g : G) : ∀ n : Int, 1 ≤ n → n < 7 → F_grown_words [goldD, .int n] g = .ok (.lst ((lotL n).map .str)) g := by
  intro n h1 h2
  have : n = 1 ∨ n = 2 ∨ n = 3 ∨ n = 4 ∨ n = 5 ∨ n = 6 := by omega
  rcases this with rfl | rfl | rfl | rfl | rfl | rfl <;> kernel_rfl
end K23

namespace K23
open PP
set_option linter.all false
set_option maxRecDepth 100000
abbrev abcd : List Nat := [97, 98, 99, 100]
/-! ### runs in general -/
theorem lcN_map {t : α → G → R Bool} {e : α → G → R β} {v : α → β} : ∀ (xs : List α) (g : G), (∀ x ∈ xs, ∀ g, t x g = .ok true g) → (∀ x ∈ xs, ∀ g, e x g = .ok (v x) g) → lcN t e xs g = .ok (xs.map v) g
  | [], g, _, _ => rfl
  | x :: xs, g, ht, he => by
    have ih := lcN_map (t := t) (e := e) (v := v) xs g (fun y hy => ht y (by simp [hy])) (fun y hy => he y (by simp [hy]))
    simp only [lcN, ht x (by simp), he x (by simp), ih, List.map_cons]
theorem forS_inv {τ α : Type} {f : τ → α → G → R τ} {step : τ → α → τ} {P : Nat → τ → Prop} (h : ∀ n s x g, P (n + 1) s → f s x g = .ok (step s x) g ∧ P n (step s x)) : ∀ (xs : List α) (s : τ) (g : G), P xs.length s → forS f xs s g = .ok (xs.foldl step s) g
  | [], s, g, _ => rfl
  | x :: xs, s, g, p => by
    obtain ⟨h1, h2⟩ := h xs.length s x g p
    simp only [forS, h1, R.bind_ok, List.foldl_cons]
    exact forS_inv h xs _ g h2
theorem LIM_le' {n : Nat} (h : n ≤ 1000000) : n ≤ LIM := LIM_big h
theorem bind_okE {r : R α} {k : α → G → R β} {a : α} {g : G} (h : r = .ok a g) : r.bind k = k a g := by rw [h]; rfl
theorem bind_false {r : R Bool} {k1 k2 : G → R γ} {g : G} (h : r = .ok false g) : (r.bind fun b g => if b then k1 g else k2 g) = k2 g := by rw [h]; rfl
theorem bind_true {r : R Bool} {k1 k2 : G → R γ} {g : G} (h : r = .ok true g) : (r.bind fun b g => if b then k1 g else k2 g) = k1 g := by rw [h]; rfl
/-! ### the draw -/
theorem take_ok {a : Nat} {m : Int} {g : G} (h : Gn a g) (h3 : 0 < m) (h4 : m < 1000000000000000000) : ∃ v g1, takeR a m g = .ok v g1 ∧ 0 ≤ v ∧ v < m ∧ Gn a g1 := by
  obtain ⟨v, g1, e, h5, h6, h7⟩ := take_ex h h3 h4
  rw [ty_take] at e
  cases hr : takeR a m g with
  | ok v' g' => rw [hr] at e; cases e; exact ⟨_, _, rfl, h5, h6, h7⟩
  | ex _ _ => rw [hr] at e; cases e
  | bad => rw [hr] at e; cases e
/-! ### words -/
def okW (w : List Nat) : Prop := w.length ≤ 200 ∧ ∀ c ∈ w, c ∈ abcd
theorem is_integer_ok (i : Int) (g : G) : f_is_integer (.int i) g = .ok true g := rfl
theorem check_from_ok (g : G) : f_check_from 4 1 4 g = .ok () g := rfl
def oneIn : List Nat → Bool
  | [x] => abcd.contains x
  | _ => false
theorem is_word_run {w : List Nat} (h : w.length ≤ 200) (g : G) : f_is_word w 4 g = .ok (w.all fun c => abcd.contains c) g := by
  have hl : ((w.length : Nat) : Int) ≤ 200 := by omega
  have e : lcN (fun (c : List Nat) (g : G) => R.ok true g) (fun (c : List Nat) (g : G) => ofR (inS c (cut ([97, 98, 99, 100] : List Nat) none (some 4))) g) (chars w) g = .ok ((chars w).map oneIn) g := by
    refine lcN_map _ _ (fun _ _ _ => rfl) fun x hx g => ?_
    unfold chars at hx
    obtain ⟨c, _, rfl⟩ := List.mem_map.mp hx
    rfl
  have e2 : (chars w).map oneIn = w.map fun c => abcd.contains c := by
    unfold chars; rw [List.map_map]; rfl
  unfold f_is_word
  simp only [hl, decide_true, if_true, R.bind_ok, e, noX_ok, e2, List.all_map]
  rfl
theorem all_in {w : List Nat} (h : ∀ c ∈ w, c ∈ abcd) : (w.all fun c => abcd.contains c) = true := by
  rw [List.all_eq_true]
  exact fun c hc => List.contains_iff_mem.mpr (h c hc)
theorem is_word_ok {w : List Nat} (h : okW w) (g : G) : f_is_word w 4 g = .ok true g := by rw [is_word_run h.1, all_in h.2]
theorem check_word_ok {w : List Nat} (h : okW w) (g : G) : f_check_word w 4 g = .ok () g := by
  unfold f_check_word f_check_word_T1
  rw [check_from_ok, R.bind_ok, is_word_ok h]
  rfl
/-! ### slices by places -/
theorem bnd_lo (n d : Nat) (i : Nat) : bnd n d (some (i : Int)) = min i n := by
  show (if (i : Int) < 0 then ((i : Int) + (n : Int)).toNat else min (i : Int).toNat n) = _
  rw [if_neg (by omega)]; rfl
theorem cut_nat {α : Type} (w : List α) {a b : Nat} (h : a ≤ b) (hb : b ≤ w.length) : cut w (some (a : Int)) (some (b : Int)) = (w.drop a).take (b - a) := by
  unfold cut
  rw [bnd_lo, bnd_lo, Nat.min_eq_left (show a ≤ w.length by omega)]
  try rw [Nat.min_eq_left hb]
theorem cut_one {α : Type} (l : List α) : cut l (some 1) none = l.tail := by
  have e : (1 : Int) = ((1 : Nat) : Int) := rfl
  unfold cut
  rw [e, bnd_lo]
  unfold bnd
  cases l with
  | nil => rfl
  | cons x l => simp
/-- where p stands in w -/
def occ (w p : List Nat) : List Nat := (List.range (w.length + 1 - p.length)).filter fun i => eqT ((w.drop i).take p.length) p
def ocI (w p : List Nat) : List Int := (occ w p).map fun (i : Nat) => (i : Int)
theorem rng_ok (n : Int) (h : n ≤ 100000) (h2 : -100000 ≤ n) : rngO1 n = some (rng 0 n.toNat) := by
  unfold rngO1
  have h1 : rngOk n = true := decide_eq_true (by omega)
  have h2 : decide (n.toNat ≤ LIM) = true := decide_eq_true (LIM_le' (by omega))
  rw [h1, h2]; rfl
theorem places_eq {w p : List Nat} : ((rng 0 ((((w.length : Nat) : Int) - ((p.length : Nat) : Int)) + 1).toNat).filter fun (k : Int) => eqT (cut w (some k) (some (k + ((p.length : Nat) : Int)))) p).map (fun (k : Int) => k) = ocI w p := by
  have e : ((((w.length : Nat) : Int) - ((p.length : Nat) : Int)) + 1).toNat = w.length + 1 - p.length := by omega
  rw [e, List.map_id']
  unfold ocI occ rng
  rw [List.filter_map]
  simp only [Int.zero_add]
  congr 1
  refine List.filter_congr fun i hi => ?_
  have hi' := List.mem_range.mp hi
  show eqT (cut w (some (i : Int)) (some ((i : Int) + ((p.length : Nat) : Int)))) p = _
  rw [show ((i : Int) + ((p.length : Nat) : Int)) = ((i + p.length : Nat) : Int) by omega, cut_nat w (by omega) (by omega), Nat.add_sub_cancel_left]
theorem law_places_ok {w p : List Nat} (h1 : w.length ≤ 1000) (h2 : p.length ≤ 1000) (g : G) : f_law_places w p g = .ok (ocI w p) g := by
  unfold f_law_places
  rw [rng_ok _ (by omega) (by omega), ofR_some, R.bind_ok, places_eq]
/-! ### what comes between -/
def stepW (w : List Nat) (found : List (List Nat)) (x : Int × Int) : List (List Nat) := if !memT (cut w (some x.1) (some x.2)) found then found ++ [cut w (some x.1) (some x.2)] else found
def RW (w p : List Nat) : List (List Nat) := ((ocI w p).zip (ocI w p).tail).foldl (stepW w) []
theorem app_ok {l : List α} {x : α} (h : l.length ≤ 100000) : appO l x = some (l ++ [x]) := if_pos (Nat.lt_of_le_of_lt h (by decide))
theorem stepW_len {w : List Nat} {f : List (List Nat)} {x : Int × Int} : (stepW w f x).length ≤ f.length + 1 := by
  unfold stepW; split <;> simp
theorem occ_len (w p : List Nat) : (ocI w p).length ≤ w.length + 1 := by
  unfold ocI occ
  rw [List.length_map]
  refine Nat.le_trans (List.length_filter_le _ _) ?_
  rw [List.length_range]; omega
theorem zip_len {l m : List α} : (l.zip m.tail).length ≤ l.length := by rw [List.length_zip]; omega
theorem found_run {w p : List Nat} (h1 : w.length ≤ 1000) {f : List (List Nat) → Int × Int → G → R (List (List Nat))} (hf : ∀ s x g, f s x g = if !memT (cut w (some x.1) (some x.2)) s then (ofR (appO s (cut w (some x.1) (some x.2))) g).bind fun found g => .ok found g else .ok s g) (g : G) :
    forS f ((ocI w p).zip (ocI w p).tail) [] g = .ok (RW w p) g := by
  refine forS_inv (step := stepW w) (P := fun n s => s.length + n ≤ 2000) (fun n s x g hp => ⟨?_, ?_⟩) _ _ g ?_
  · rw [hf]
    unfold stepW
    rw [app_ok (by omega)]
    split <;> rfl
  · have := stepW_len (w := w) (f := s) (x := x)
    show (stepW w s x).length + n ≤ 2000
    omega
  · have h3 := occ_len w p
    have h4 := zip_len (l := ocI w p) (m := ocI w p)
    show ([] : List (List Nat)).length + ((ocI w p).zip (ocI w p).tail).length ≤ 2000
    simp only [List.length_nil]; omega
theorem return_ok {w p : List Nat} (hw : okW w) (hp : okW p) (h0 : p ≠ []) (g : G) : f_return_words w p g = .ok (RW w p) g := by
  have h1 := hw.1
  have h2 := hp.1
  unfold f_return_words
  rw [check_word_ok hw, R.bind_ok]
  unfold f_return_words_T1
  have e0 : eqT p ([] : List Nat) = false := decide_eq_false h0
  rw [e0, is_word_ok hp]
  show f_return_words_T2 w p g = _
  unfold f_return_words_T2
  rw [rng_ok _ (by omega) (by omega), ofR_some, R.bind_ok]
  show (R.ok _ g).bind _ = _
  rw [places_eq, R.bind_ok]
  unfold f_return_words_T3 f_return_words_T4
  rw [cut_one, found_run (w := w) (by omega) (f := fun s x g => f_return_words_L1 w (ocI w p) s x g) (fun s x g => rfl)]
  rfl
end K23

namespace K23
open PP
set_option linter.all false
set_option maxRecDepth 100000
/-! ### places in order -/
theorem occ_sorted (w p : List Nat) : (occ w p).Pairwise (· < ·) := List.Pairwise.filter _ List.pairwise_lt_range
theorem occ_mem {w p : List Nat} {i : Nat} : i ∈ occ w p ↔ i + p.length ≤ w.length ∧ (w.drop i).take p.length = p := by
  unfold occ
  rw [List.mem_filter, List.mem_range]
  unfold eqT
  rw [decide_eq_true_iff]
  constructor
  · rintro ⟨h1, h2⟩; exact ⟨by omega, h2⟩
  · rintro ⟨h1, h2⟩; exact ⟨by omega, h2⟩
theorem next {l : List Nat} (h : l.Pairwise (· < ·)) : ∀ {a b : Nat}, (a, b) ∈ l.zip l.tail → a ∈ l ∧ b ∈ l ∧ a < b ∧ ∀ c ∈ l, c ≤ a ∨ b ≤ c := by
  induction h with
  | nil => intro a b hm; cases hm
  | @cons x l hx hl ih =>
    intro a b hm
    cases l with
    | nil => cases hm
    | cons y l =>
      simp only [List.tail_cons, List.zip_cons_cons, List.mem_cons, Prod.mk.injEq] at hm
      rcases hm with ⟨rfl, rfl⟩ | hm
      · refine ⟨by simp, by simp, hx _ (by simp), fun c hc => ?_⟩
        rcases List.mem_cons.mp hc with rfl | hc
        · exact .inl (Nat.le_refl _)
        · rcases List.mem_cons.mp hc with rfl | hc
          · exact .inr (Nat.le_refl _)
          · exact .inr (Nat.le_of_lt ((List.pairwise_cons.mp hl).1 c hc))
      · obtain ⟨h1, h2, h3, h4⟩ := ih hm
        refine ⟨List.mem_cons_of_mem _ h1, List.mem_cons_of_mem _ h2, h3, fun c hc => ?_⟩
        rcases List.mem_cons.mp hc with rfl | hc
        · exact .inl (Nat.le_of_lt (hx a h1))
        · exact h4 c hc
theorem zipI (l : List Nat) : ((l.map fun (i : Nat) => (i : Int)).zip (l.map fun (i : Nat) => (i : Int)).tail) = (l.zip l.tail).map fun x => ((x.1 : Int), (x.2 : Int)) := by
  rw [← List.map_tail, List.zip_map]; rfl
def btw (w : List Nat) (x : Nat × Nat) : List Nat := (w.drop x.1).take (x.2 - x.1)
theorem btw_cut {w p : List Nat} {x : Nat × Nat} (h : x ∈ (occ w p).zip (occ w p).tail) : cut w (some (x.1 : Int)) (some (x.2 : Int)) = btw w x := by
  obtain ⟨h1, h2, h3, _⟩ := next (occ_sorted w p) (a := x.1) (b := x.2) h
  have := (occ_mem.mp h2).1
  exact cut_nat w (by omega) (by omega)
/-! what is found -/
def stepB (w : List Nat) (found : List (List Nat)) (x : Nat × Nat) : List (List Nat) := if btw w x ∈ found then found else found ++ [btw w x]
theorem fold_B {w : List Nat} : ∀ (l : List (Nat × Nat)) (f : List (List Nat)), (∀ x ∈ l, cut w (some (x.1 : Int)) (some (x.2 : Int)) = btw w x) → (l.map fun x => ((x.1 : Int), (x.2 : Int))).foldl (stepW w) f = l.foldl (stepB w) f
  | [], f, _ => rfl
  | x :: l, f, h => by
    have e : stepW w f ((x.1 : Int), (x.2 : Int)) = stepB w f x := by
      unfold stepW stepB memT
      simp only [h x (by simp)]
      by_cases q : btw w x ∈ f <;> simp [q]
    simp only [List.map_cons, List.foldl_cons, e]
    exact fold_B l _ fun y hy => h y (by simp [hy])
theorem RW_eq (w p : List Nat) : RW w p = ((occ w p).zip (occ w p).tail).foldl (stepB w) [] := by
  unfold RW ocI
  rw [zipI]
  exact fold_B _ _ fun x hx => btw_cut hx
theorem fold_mem {w : List Nat} : ∀ (l : List (Nat × Nat)) (f : List (List Nat)) (s : List Nat), s ∈ l.foldl (stepB w) f ↔ s ∈ f ∨ ∃ x ∈ l, btw w x = s
  | [], f, s => by simp
  | x :: l, f, s => by
    rw [List.foldl_cons, fold_mem l]
    unfold stepB
    by_cases q : btw w x ∈ f
    · rw [if_pos q]
      constructor
      · rintro (h | ⟨y, h1, h2⟩)
        · exact .inl h
        · exact .inr ⟨y, by simp [h1], h2⟩
      · rintro (h | ⟨y, h1, h2⟩)
        · exact .inl h
        · rcases List.mem_cons.mp h1 with rfl | h1
          · exact .inl (h2 ▸ q)
          · exact .inr ⟨y, h1, h2⟩
    · rw [if_neg q]
      constructor
      · rintro (h | ⟨y, h1, h2⟩)
        · rcases List.mem_append.mp h with h | h
          · exact .inl h
          · exact .inr ⟨x, by simp, (List.mem_singleton.mp h).symm⟩
        · exact .inr ⟨y, by simp [h1], h2⟩
      · rintro (h | ⟨y, h1, h2⟩)
        · exact .inl (by simp [h])
        · rcases List.mem_cons.mp h1 with rfl | h1
          · exact .inl (by simp [h2])
          · exact .inr ⟨y, h1, h2⟩
theorem RW_mem {w p s : List Nat} : s ∈ RW w p ↔ ∃ x ∈ (occ w p).zip (occ w p).tail, btw w x = s := by
  rw [RW_eq, fold_mem]; simp
/-! what was between, put together -/
theorem btw_all {w : List Nat} : ∀ (l : List Nat) (a : Nat), (a :: l).Pairwise (· < ·) → (((a :: l).zip l).map (btw w)).flatten = (w.drop a).take ((a :: l).getLast (by simp) - a)
  | [], a, _ => by simp
  | b :: l, a, h => by
    have h1 : a < b := (List.pairwise_cons.mp h).1 b (by simp)
    have h2 := (List.pairwise_cons.mp h).2
    have ih := btw_all (w := w) l b h2
    have h3 : b ≤ (b :: l).getLast (by simp) := by
      rcases List.mem_cons.mp (List.getLast_mem (l := b :: l) (by simp)) with e | e
      · rw [e]; exact Nat.le_refl _
      · exact Nat.le_of_lt ((List.pairwise_cons.mp h2).1 _ e)
    have e0 : (a :: b :: l).getLast (by simp) = (b :: l).getLast (by simp) := rfl
    rw [List.zip_cons_cons, List.map_cons, List.flatten_cons, ih, e0]
    unfold btw
    have e1 : (b :: l).getLast (by simp) - a = (b - a) + ((b :: l).getLast (by simp) - b) := by omega
    rw [e1, List.take_add, List.drop_drop]
    congr 3
    omega
/-! p after what comes between -/
theorem range_ends {d : Nat} (hd : 0 < d) {f : Nat → Bool} (h0 : f 0 = true) (h1 : f d = true) (h2 : ∀ i, 0 < i → i < d → f i = false) : (List.range (d + 1)).filter f = [0, d] := by
  obtain ⟨e, rfl⟩ : ∃ e, d = e + 1 := ⟨d - 1, by omega⟩
  rw [List.range_succ, List.range_succ_eq_map, List.filter_append, List.filter_cons, h0]
  have e1 : (List.map Nat.succ (List.range e)).filter f = [] := by
    rw [List.filter_eq_nil_iff]
    intro i hi
    obtain ⟨j, hj, rfl⟩ := List.mem_map.mp hi
    have := List.mem_range.mp hj
    rw [h2 (j + 1) (by omega) (by omega)]; simp
  rw [e1]
  simp [h1]
theorem occ_own {w p : List Nat} {x : Nat × Nat} (h : x ∈ (occ w p).zip (occ w p).tail) : ocI (btw w x ++ p) p = [0, (((btw w x).length : Nat) : Int)] := by
  obtain ⟨h1, h2, h3, h4⟩ := next (occ_sorted w p) (a := x.1) (b := x.2) h
  obtain ⟨a1, a2⟩ := occ_mem.mp h1
  obtain ⟨b1, b2⟩ := occ_mem.mp h2
  have hl : (btw w x).length = x.2 - x.1 := by
    unfold btw; rw [List.length_take, List.length_drop]; omega
  have hu : btw w x ++ p = (w.drop x.1).take (x.2 - x.1 + p.length) := by
    unfold btw
    rw [List.take_add, List.drop_drop, show x.1 + (x.2 - x.1) = x.2 by omega, b2]
  have ht : ∀ i, i ≤ x.2 - x.1 → ((btw w x ++ p).drop i).take p.length = (w.drop (x.1 + i)).take p.length := fun i hi => by
    rw [hu, List.drop_take, List.take_take, List.drop_drop, Nat.min_eq_left (by omega)]
  have e : occ (btw w x ++ p) p = [0, x.2 - x.1] := by
    unfold occ
    rw [List.length_append, hl, show x.2 - x.1 + p.length + 1 - p.length = (x.2 - x.1) + 1 by omega]
    refine range_ends (by omega) ?_ ?_ fun i i0 i1 => ?_
    · rw [ht 0 (by omega)]
      exact decide_eq_true a2
    · rw [ht _ (Nat.le_refl _), show x.1 + (x.2 - x.1) = x.2 by omega]
      exact decide_eq_true b2
    · rw [ht i (by omega)]
      refine decide_eq_false fun z => ?_
      have := h4 (x.1 + i) (occ_mem.mpr ⟨by omega, z⟩)
      omega
  unfold ocI
  rw [e, hl]; rfl
end K23

namespace K23
open PP
set_option linter.all false
set_option maxRecDepth 100000
theorem joinL_nil : ∀ xs : List (List Nat), joinL [] xs = xs.flatten
  | [] => rfl
  | [x] => by simp [joinL]
  | x :: y :: r => by
    have := joinL_nil (y :: r)
    simp only [joinL, this, List.flatten_cons, List.append_nil]
theorem join_ok {xs : List (List Nat)} (h : xs.flatten.length ≤ 100000) : joinO [] xs = some xs.flatten := by
  unfold joinO
  rw [joinL_nil]
  have e : (xs.map List.length).sum + xs.length * ([] : List Nat).length = xs.flatten.length := by simp
  rw [e, if_pos (LIM_le' (by omega))]
theorem flat_one {α : Type} (f : α → Nat) (l : List α) : (l.map fun x => [f x]).flatten = l.map f := by
  induction l with
  | nil => rfl
  | cons x l ih => simp [ih]
/-! a word's letter among those that are found -/
theorem dig {found : List (List Nat)} {s : List Nat} (h : s ∈ found) (h4 : found.length ≤ 4) : ∃ j : Nat, j < 4 ∧ idxO found s = some (j : Int) ∧ itD found (j : Int) = some s ∧ ixS abcd (j : Int) = some [97 + j] ∧ indexO abcd [97 + j] = some (j : Int) := by
  have h1 : (found.findIdx? fun y => decide (y = s)).isSome = true := by
    rw [List.findIdx?_isSome]
    exact List.any_eq_true.mpr ⟨s, h, by simp⟩
  obtain ⟨j, hj⟩ := Option.isSome_iff_exists.mp h1
  obtain ⟨h2, h3, _⟩ := List.findIdx?_eq_some_iff_getElem.mp hj
  have h5 : found[j] = s := of_decide_eq_true h3
  have hj4 : j < 4 := by omega
  refine ⟨j, hj4, by unfold idxO; rw [hj]; rfl, ?_, ?_⟩
  · unfold itD plc
    rw [if_pos (by omega), if_pos (by omega)]
    simp [h5, h2]
  · have : j = 0 ∨ j = 1 ∨ j = 2 ∨ j = 3 := by omega
    rcases this with rfl | rfl | rfl | rfl <;> exact ⟨rfl, rfl⟩
def lf (found : List (List Nat)) (s : List Nat) : Nat := match idxO found s with
  | some j => 97 + j.toNat
  | none => 97
def dueW (w p : List Nat) : List Nat := ((occ w p).zip (occ w p).tail).map fun x => lf (RW w p) (btw w x)
abbrev prs (w p : List Nat) : List (Int × Int) := (ocI w p).zip (ocI w p).tail
theorem prs_eq (w p : List Nat) : prs w p = ((occ w p).zip (occ w p).tail).map fun x => ((x.1 : Int), (x.2 : Int)) := zipI _
theorem prs_len (w p : List Nat) : ((occ w p).zip (occ w p).tail).length ≤ w.length + 1 := by
  have := occ_len w p
  have h : (occ w p).length ≤ w.length + 1 := by unfold ocI at this; simpa using this
  have := zip_len (l := occ w p) (m := occ w p)
  omega
theorem due_run {w p : List Nat} (hl : w.length ≤ 1000) (h4 : (RW w p).length ≤ 4) (g : G) :
    ((R.ok (prs w p) g).bind fun xs g => noX (lcN (fun (x2 : (Int) × (Int)) (g : G) => R.ok true g) (fun (x2 : (Int) × (Int)) (g : G) => (ofR (idxO (RW w p) (cut w (some x2.1) (some x2.2))) g).bind fun x3 g => ofR (ixS ([97, 98, 99, 100] : List Nat) x3) g) xs g)).bind (fun x4 g => ofR (joinO ([] : List Nat) x4) g) = .ok (dueW w p) g := by
  have e : lcN (fun (x2 : (Int) × (Int)) (g : G) => R.ok true g) (fun (x2 : (Int) × (Int)) (g : G) => (ofR (idxO (RW w p) (cut w (some x2.1) (some x2.2))) g).bind fun x3 g => ofR (ixS ([97, 98, 99, 100] : List Nat) x3) g) (prs w p) g = .ok ((prs w p).map fun x => [lf (RW w p) (cut w (some x.1) (some x.2))]) g := by
    refine lcN_map _ _ (fun _ _ _ => rfl) fun x hx g => ?_
    rw [prs_eq] at hx
    obtain ⟨y, hy, rfl⟩ := List.mem_map.mp hx
    simp only
    rw [btw_cut hy]
    obtain ⟨j, h1, h2, h3, h5, h6⟩ := dig (RW_mem.mpr ⟨y, hy, rfl⟩) h4
    unfold lf
    rw [h2, ofR_some, R.bind_ok, h5]
    rfl
  rw [R.bind_ok, e, noX_ok, R.bind_ok]
  have e2 : ((prs w p).map fun x => [lf (RW w p) (cut w (some x.1) (some x.2))]) = ((occ w p).zip (occ w p).tail).map fun x => [lf (RW w p) (btw w x)] := by
    rw [prs_eq, List.map_map]
    exact List.map_congr_left fun x hx => by simp only [Function.comp, btw_cut hx]
  rw [e2]
  have h5 := prs_len w p
  rw [join_ok (by rw [flat_one, List.length_map]; omega), flat_one]
  rfl
theorem derived_ok {w p : List Nat} (hw : okW w) (hp : okW p) (h0 : p ≠ []) (g : G) : f_derived_word w p g = if 4 < (RW w p).length then .ex (.mk 1 [.str [109, 97, 110, 121]]) g else .ok (dueW w p) g := by
  have h1 := hw.1
  have h2 := hp.1
  unfold f_derived_word
  rw [return_ok hw hp h0, R.bind_ok]
  unfold f_derived_word_T1
  by_cases h4 : 4 < (RW w p).length
  · rw [if_pos h4, if_pos (decide_eq_true (show (4 : Int) < (((RW w p).length : Nat) : Int) by omega))]
  · rw [if_neg h4, if_neg (by rw [decide_eq_true_iff]; omega)]
    unfold f_derived_word_T2
    rw [rng_ok _ (by omega) (by omega), ofR_some, R.bind_ok]
    show (R.ok _ g).bind _ = _
    rw [places_eq, R.bind_ok]
    unfold f_derived_word_T3
    rw [cut_one]
    exact due_run (by omega) (by omega) g
/-! back again -/
theorem back_run {w p : List Nat} (hl : w.length ≤ 1000) (h4 : (RW w p).length ≤ 4) (g : G) :
    ((R.ok (chars (dueW w p)) g).bind fun xs g => noX (lcN (fun (c : List Nat) (g : G) => R.ok true g) (fun (c : List Nat) (g : G) => (ofR (indexO ([97, 98, 99, 100] : List Nat) c) g).bind fun x47 g => ofR (itD (RW w p) x47) g) xs g)) = .ok (((occ w p).zip (occ w p).tail).map (btw w)) g := by
  have e0 : chars (dueW w p) = ((occ w p).zip (occ w p).tail).map fun x => [lf (RW w p) (btw w x)] := by
    unfold chars dueW; rw [List.map_map]; rfl
  rw [R.bind_ok, e0]
  have e : ∀ (l : List (Nat × Nat)), (∀ x ∈ l, btw w x ∈ RW w p) → ∀ g, lcN (fun (c : List Nat) (g : G) => R.ok true g) (fun (c : List Nat) (g : G) => (ofR (indexO ([97, 98, 99, 100] : List Nat) c) g).bind fun x47 g => ofR (itD (RW w p) x47) g) (l.map fun x => [lf (RW w p) (btw w x)]) g = .ok (l.map (btw w)) g := by
    intro l hl g
    induction l with
    | nil => rfl
    | cons x l ih =>
      obtain ⟨j, h1, h2, h3, h5, h6⟩ := dig (hl x (by simp)) h4
      have hx : lf (RW w p) (btw w x) = 97 + j := by
        unfold lf; rw [h2]; rfl
      have := ih fun y hy => hl y (by simp [hy])
      simp only [List.map_cons, lcN, hx, h6, ofR_some, R.bind_ok, h3]
      rw [this]
  rw [e _ (fun x hx => RW_mem.mpr ⟨x, hx, rfl⟩), noX_ok]
/-! ### the law, one statement behind the other -/
theorem word_run {a : Nat} {size : Int} (h1 : 0 < size) (h2 : size ≤ 4) : ∀ (xs : List Int) (g : G), Gn a g → ∃ (ys : List Nat) (g' : G), lcN (fun (k : Int) (g : G) => R.ok true g) (fun (k : Int) (g : G) => (takeR a size g).bind fun x5 g => ofR (ixS ([97, 98, 99, 100] : List Nat) x5) g) xs g = .ok (ys.map fun c => [c]) g' ∧ ys.length = xs.length ∧ (∀ c ∈ ys, c ∈ abcd) ∧ Gn a g'
  | [], g, hg => ⟨[], g, rfl, rfl, by simp, hg⟩
  | x :: xs, g, hg => by
    obtain ⟨v, g1, e1, v0, v1, hg1⟩ := take_ok hg h1 (by omega)
    obtain ⟨ys, g2, e2, hl, hm, hg2⟩ := word_run h1 h2 xs g1 hg1
    have : v = 0 ∨ v = 1 ∨ v = 2 ∨ v = 3 := by omega
    have hv : ∃ c ∈ abcd, ixS ([97, 98, 99, 100] : List Nat) v = some [c] := by
      rcases this with rfl | rfl | rfl | rfl
      · exact ⟨97, by simp, rfl⟩
      · exact ⟨98, by simp, rfl⟩
      · exact ⟨99, by simp, rfl⟩
      · exact ⟨100, by simp, rfl⟩
    obtain ⟨c, hc, ec⟩ := hv
    refine ⟨c :: ys, g2, ?_, by simp [hl], fun d hd => (List.mem_cons.mp hd).elim (fun e => e ▸ hc) (hm d), hg2⟩
    simp only [lcN, e1, R.bind_ok, ec, ofR_some, e2, List.map_cons]
theorem law_word_ok {a : Nat} {size n : Int} {g : G} (hg : Gn a g) (h1 : 0 < size) (h2 : size ≤ 4) (h3 : 0 ≤ n) (h4 : n < 40) : ∃ w g', f_law_word a size n g = .ok w g' ∧ w.length < 40 ∧ (∀ c ∈ w, c ∈ abcd) ∧ Gn a g' := by
  obtain ⟨ys, g', e, hl, hm, hg'⟩ := word_run h1 h2 (rng 0 n.toNat) g hg
  have hn : (rng 0 n.toNat).length = n.toNat := by unfold rng; simp
  refine ⟨ys, g', ?_, by omega, hm, hg'⟩
  unfold f_law_word
  rw [rng_ok _ (by omega) (by omega), ofR_some, R.bind_ok, e, noX_ok, R.bind_ok, join_ok (by rw [flat_one]; simp; omega), flat_one]
  simp
end K23

namespace K23
open PP
set_option linter.all false
set_option maxRecDepth 100000
/-! ### what is tried -/
theorem tb0 (d1 d2 : D) (g : G) : tbl_2 0 [d1, d2] g = F_derived_word [d1, d2] g := rfl
theorem tb1 (d1 d2 : D) (g : G) : tbl_2 1 [d1, d2] g = F_return_words [d1, d2] g := rfl
theorem ret_bad0 {w : List Nat} (hw : okW w) (g : G) : f_return_words w [] g = .ex (.mk 0 []) g := by
  unfold f_return_words; rw [check_word_ok hw]; rfl
theorem ret_badE {w : List Nat} (hw : okW w) (g : G) : f_return_words w [101] g = .ex (.mk 0 []) g := by
  unfold f_return_words; rw [check_word_ok hw]; rfl
theorem der_bad0 {w : List Nat} (hw : okW w) (g : G) : f_derived_word w [] g = .ex (.mk 0 []) g := by
  unfold f_derived_word; rw [ret_bad0 hw]; rfl
theorem ret_badN {w : List Nat} (hw : okW w) (g : G) : F_return_words [.str w, .non] g = .ex (.mk 0 []) g := by
  have h : F_check_word [.str w, .int 4] g = .ok .non g := by rw [ty_check_word, check_word_ok hw]; rfl
  have h2 : return_words_s0 [some (.str w), some .non, none, none, none, none, none] g = .nx [some (.str w), some .non, none, none, none, none, none] g := by
    unfold return_words_s0
    have ha : (aCons (xVar 0) (aCons (xC (.int 4)) aNil)) [some (.str w), some .non, none, none, none, none, none] g = .ok [.str w, .int 4] g := rfl
    rw [ev_expr, ev_call, ha, R.bind_ok, h]; rfl
  show (match B_return_words [some (.str w), some .non, none, none, none, none, none] g with
    | .rt d g1 => R.ok d g1
    | .nx _ g1 => .ok .non g1
    | .ex e _ g1 => .ex e g1
    | _ => .bad) = _
  unfold B_return_words
  rw [seq_nx h2]
  rfl
theorem ret_bad5 (g : G) : F_return_words [.int 5, .str [97]] g = .ex (.mk 0 []) g := rfl
theorem ret_bade (g : G) : F_return_words [.str [101], .str [97]] g = .ex (.mk 0 []) g := by kernel_rfl
theorem der_badN (g : G) : F_derived_word [.non, .str [97]] g = .ex (.mk 0 []) g := by kernel_rfl
theorem der_bad201 (g : G) : F_derived_word [.str (List.replicate 201 97), .str [97]] g = .ex (.mk 0 []) g := by kernel_rfl
def triedL (w : List Nat) : List (D × D) := [(.fn 1, .tup [.str w, .str []]), (.fn 1, .tup [.str w, .non]), (.fn 1, .tup [.int 5, .str [97]]), (.fn 1, .tup [.str [101], .str [97]]), (.fn 1, .tup [.str w, .str [101]]), (.fn 0, .tup [.str w, .str []]), (.fn 0, .tup [.non, .str [97]]), (.fn 0, .tup [.str (List.replicate 201 97), .str [97]])]
theorem T22_ok {w : List Nat} (hw : okW w) (g : G) : f_law_T22 w g = .ok true g := by
  unfold f_law_T22 f_law_T23
  have e201 : repO ([97] : List Nat) 201 = some (List.replicate 201 97) := by kernel_rfl
  rw [e201]
  show f_law_T24 _ g = _
  unfold f_law_T24
  have k : ∀ (n : Nat) (d1 d2 : D) (g : G), tbl_2 n [d1, d2] g = .ex (.mk 0 []) g → ((F_law_told [.fn n, .tup [d1, d2]] g).bind fun x39 g => ofR (ixD x39 (D.int 0)) g) = .ok (.str [109, 97, 108, 102, 111, 114, 109, 101, 100]) g := fun n d1 d2 g h => by
    rw [told2_mal h]; rfl
  have e : lcN (fun (x38 : (D) × (D)) (g : G) => R.ok true g) (fun (x38 : (D) × (D)) (g : G) => (F_law_told [x38.1, x38.2] g).bind fun x39 g => ofR (ixD x39 (D.int 0)) g) (triedL w) g = .ok ((triedL w).map fun _ => D.str [109, 97, 108, 102, 111, 114, 109, 101, 100]) g := by
    refine lcN_map _ _ (fun _ _ _ => rfl) fun x hx g => ?_
    unfold triedL at hx
    simp only [List.mem_cons, List.not_mem_nil, or_false] at hx
    rcases hx with rfl | rfl | rfl | rfl | rfl | rfl | rfl | rfl
    · exact k _ _ _ g (by rw [tb1, ty_return_words, ret_bad0 hw]; rfl)
    · exact k _ _ _ g (by rw [tb1]; exact ret_badN hw g)
    · exact k _ _ _ g (by rw [tb1]; exact ret_bad5 g)
    · exact k _ _ _ g (by rw [tb1]; exact ret_bade g)
    · exact k _ _ _ g (by rw [tb1, ty_return_words, ret_badE hw]; rfl)
    · exact k _ _ _ g (by rw [tb0, ty_derived_word, der_bad0 hw]; rfl)
    · exact k _ _ _ g (by rw [tb0]; exact der_badN g)
    · exact k _ _ _ g (by rw [tb0]; exact der_bad201 g)
  show ((((R.ok (triedL w) g).bind fun xs g => noX (lcN _ _ xs g)).map (cL cD)).bind _) = _
  rw [R.bind_ok, e]
  rfl
end K23

namespace K23
open PP
set_option linter.all false
set_option maxRecDepth 100000
theorem T21_ok {w : List Nat} (hw : okW w) (g : G) : f_law_T21 w g = .ok true g := by
  unfold f_law_T21
  exact (bind_false (by kernel_rfl)).trans (T22_ok hw g)
/-! ### the golden rule's row -/
abbrev g00 : G := ⟨false, 0, 0, 0⟩
def theD : R D → D
  | .ok d _ => d
  | _ => .non
def backD (low : List Nat) : D := theD (F_return_words [.str rowL, .str low] g00)
def oneD (low : List Nat) : D := theD (F_return_words [.str rowL, .str (low.take 1)] g00)
def twoD : D := theD (F_derived_word [.str rowL, .str [97]] g00)
theorem go17 {w : List Nat} (hw : okW w) {g : G} {low : List Nat} (a1 : F_return_words [.str rowL, .str low] g = .ok (backD low) g) (a2 : f_law_T18 w (.str rowL) (.str low) (backD low) g = f_law_T19 w (.str rowL) (.str low) g) (a3 : (((R.ok (D.str low) g).bind fun d g => ofR (sliceD d none (some 1)) g).bind fun y24 g => F_return_words [.str rowL, y24] g) = .ok (oneD low) g)
    (a4 : f_law_T20 w (.str rowL) (oneD low) twoD g = f_law_T21 w g) : f_law_T17 w (.str rowL) (.str low) g = .ok true g := by
  unfold f_law_T17
  rw [a1, R.bind_ok, a2]
  unfold f_law_T19
  rw [a3, R.bind_ok, show F_derived_word [.str rowL, .str [97]] g = .ok twoD g from by kernel_rfl, R.bind_ok, a4, T21_ok hw]
theorem lot1 : lotL 1 = [[97], [98]] := by kernel_rfl
theorem low1_0 {w : List Nat} (hw : okW w) (g : G) : f_law_T17 w (.str rowL) (.str [97]) g = .ok true g := go17 hw (by kernel_rfl) (by unfold f_law_T18; exact bind_false (by kernel_rfl)) (by kernel_rfl) (by unfold f_law_T20; exact bind_false (by kernel_rfl))
theorem low1_1 {w : List Nat} (hw : okW w) (g : G) : f_law_T17 w (.str rowL) (.str [98]) g = .ok true g := go17 hw (by kernel_rfl) (by unfold f_law_T18; exact bind_false (by kernel_rfl)) (by kernel_rfl) (by unfold f_law_T20; exact bind_false (by kernel_rfl))
theorem lows1 {w : List Nat} (hw : okW w) (g : G) (low : List Nat) (h : low ∈ lotL 1) : f_law_T17 w (.str rowL) (.str low) g = .ok true g := by
  rw [lot1] at h
  simp only [List.mem_cons, List.not_mem_nil, or_false] at h
  rcases h with rfl | rfl
  · exact low1_0 hw g
  · exact low1_1 hw g
theorem lot2 : lotL 2 = [[97, 97], [97, 98], [98, 97]] := by kernel_rfl
theorem low2_0 {w : List Nat} (hw : okW w) (g : G) : f_law_T17 w (.str rowL) (.str [97, 97]) g = .ok true g := go17 hw (by kernel_rfl) (by unfold f_law_T18; exact bind_false (by kernel_rfl)) (by kernel_rfl) (by unfold f_law_T20; exact bind_false (by kernel_rfl))
theorem low2_1 {w : List Nat} (hw : okW w) (g : G) : f_law_T17 w (.str rowL) (.str [97, 98]) g = .ok true g := go17 hw (by kernel_rfl) (by unfold f_law_T18; exact bind_false (by kernel_rfl)) (by kernel_rfl) (by unfold f_law_T20; exact bind_false (by kernel_rfl))
theorem low2_2 {w : List Nat} (hw : okW w) (g : G) : f_law_T17 w (.str rowL) (.str [98, 97]) g = .ok true g := go17 hw (by kernel_rfl) (by unfold f_law_T18; exact bind_false (by kernel_rfl)) (by kernel_rfl) (by unfold f_law_T20; exact bind_false (by kernel_rfl))
theorem lows2 {w : List Nat} (hw : okW w) (g : G) (low : List Nat) (h : low ∈ lotL 2) : f_law_T17 w (.str rowL) (.str low) g = .ok true g := by
  rw [lot2] at h
  simp only [List.mem_cons, List.not_mem_nil, or_false] at h
  rcases h with rfl | rfl | rfl
  · exact low2_0 hw g
  · exact low2_1 hw g
  · exact low2_2 hw g
theorem lot3 : lotL 3 = [[97, 97, 98], [97, 98, 97], [98, 97, 97], [98, 97, 98]] := by kernel_rfl
theorem low3_0 {w : List Nat} (hw : okW w) (g : G) : f_law_T17 w (.str rowL) (.str [97, 97, 98]) g = .ok true g := go17 hw (by kernel_rfl) (by unfold f_law_T18; exact bind_false (by kernel_rfl)) (by kernel_rfl) (by unfold f_law_T20; exact bind_false (by kernel_rfl))
theorem low3_1 {w : List Nat} (hw : okW w) (g : G) : f_law_T17 w (.str rowL) (.str [97, 98, 97]) g = .ok true g := go17 hw (by kernel_rfl) (by unfold f_law_T18; exact bind_false (by kernel_rfl)) (by kernel_rfl) (by unfold f_law_T20; exact bind_false (by kernel_rfl))
theorem low3_2 {w : List Nat} (hw : okW w) (g : G) : f_law_T17 w (.str rowL) (.str [98, 97, 97]) g = .ok true g := go17 hw (by kernel_rfl) (by unfold f_law_T18; exact bind_false (by kernel_rfl)) (by kernel_rfl) (by unfold f_law_T20; exact bind_false (by kernel_rfl))
theorem low3_3 {w : List Nat} (hw : okW w) (g : G) : f_law_T17 w (.str rowL) (.str [98, 97, 98]) g = .ok true g := go17 hw (by kernel_rfl) (by unfold f_law_T18; exact bind_false (by kernel_rfl)) (by kernel_rfl) (by unfold f_law_T20; exact bind_false (by kernel_rfl))
theorem lows3 {w : List Nat} (hw : okW w) (g : G) (low : List Nat) (h : low ∈ lotL 3) : f_law_T17 w (.str rowL) (.str low) g = .ok true g := by
  rw [lot3] at h
  simp only [List.mem_cons, List.not_mem_nil, or_false] at h
  rcases h with rfl | rfl | rfl | rfl
  · exact low3_0 hw g
  · exact low3_1 hw g
  · exact low3_2 hw g
  · exact low3_3 hw g
theorem lot4 : lotL 4 = [[97, 97, 98, 97], [97, 98, 97, 97], [97, 98, 97, 98], [98, 97, 97, 98], [98, 97, 98, 97]] := by kernel_rfl
theorem low4_0 {w : List Nat} (hw : okW w) (g : G) : f_law_T17 w (.str rowL) (.str [97, 97, 98, 97]) g = .ok true g := go17 hw (by kernel_rfl) (by unfold f_law_T18; exact bind_false (by kernel_rfl)) (by kernel_rfl) (by unfold f_law_T20; exact bind_false (by kernel_rfl))
theorem low4_1 {w : List Nat} (hw : okW w) (g : G) : f_law_T17 w (.str rowL) (.str [97, 98, 97, 97]) g = .ok true g := go17 hw (by kernel_rfl) (by unfold f_law_T18; exact bind_false (by kernel_rfl)) (by kernel_rfl) (by unfold f_law_T20; exact bind_false (by kernel_rfl))
theorem low4_2 {w : List Nat} (hw : okW w) (g : G) : f_law_T17 w (.str rowL) (.str [97, 98, 97, 98]) g = .ok true g := go17 hw (by kernel_rfl) (by unfold f_law_T18; exact bind_false (by kernel_rfl)) (by kernel_rfl) (by unfold f_law_T20; exact bind_false (by kernel_rfl))
theorem low4_3 {w : List Nat} (hw : okW w) (g : G) : f_law_T17 w (.str rowL) (.str [98, 97, 97, 98]) g = .ok true g := go17 hw (by kernel_rfl) (by unfold f_law_T18; exact bind_false (by kernel_rfl)) (by kernel_rfl) (by unfold f_law_T20; exact bind_false (by kernel_rfl))
theorem low4_4 {w : List Nat} (hw : okW w) (g : G) : f_law_T17 w (.str rowL) (.str [98, 97, 98, 97]) g = .ok true g := go17 hw (by kernel_rfl) (by unfold f_law_T18; exact bind_false (by kernel_rfl)) (by kernel_rfl) (by unfold f_law_T20; exact bind_false (by kernel_rfl))
theorem lows4 {w : List Nat} (hw : okW w) (g : G) (low : List Nat) (h : low ∈ lotL 4) : f_law_T17 w (.str rowL) (.str low) g = .ok true g := by
  rw [lot4] at h
  simp only [List.mem_cons, List.not_mem_nil, or_false] at h
  rcases h with rfl | rfl | rfl | rfl | rfl
  · exact low4_0 hw g
  · exact low4_1 hw g
  · exact low4_2 hw g
  · exact low4_3 hw g
  · exact low4_4 hw g
theorem lot5 : lotL 5 = [[97, 97, 98, 97, 97], [97, 97, 98, 97, 98], [97, 98, 97, 97, 98], [97, 98, 97, 98, 97], [98, 97, 97, 98, 97], [98, 97, 98, 97, 97]] := by kernel_rfl
theorem low5_0 {w : List Nat} (hw : okW w) (g : G) : f_law_T17 w (.str rowL) (.str [97, 97, 98, 97, 97]) g = .ok true g := go17 hw (by kernel_rfl) (by unfold f_law_T18; exact bind_false (by kernel_rfl)) (by kernel_rfl) (by unfold f_law_T20; exact bind_false (by kernel_rfl))
theorem low5_1 {w : List Nat} (hw : okW w) (g : G) : f_law_T17 w (.str rowL) (.str [97, 97, 98, 97, 98]) g = .ok true g := go17 hw (by kernel_rfl) (by unfold f_law_T18; exact bind_false (by kernel_rfl)) (by kernel_rfl) (by unfold f_law_T20; exact bind_false (by kernel_rfl))
theorem low5_2 {w : List Nat} (hw : okW w) (g : G) : f_law_T17 w (.str rowL) (.str [97, 98, 97, 97, 98]) g = .ok true g := go17 hw (by kernel_rfl) (by unfold f_law_T18; exact bind_false (by kernel_rfl)) (by kernel_rfl) (by unfold f_law_T20; exact bind_false (by kernel_rfl))
theorem low5_3 {w : List Nat} (hw : okW w) (g : G) : f_law_T17 w (.str rowL) (.str [97, 98, 97, 98, 97]) g = .ok true g := go17 hw (by kernel_rfl) (by unfold f_law_T18; exact bind_false (by kernel_rfl)) (by kernel_rfl) (by unfold f_law_T20; exact bind_false (by kernel_rfl))
theorem low5_4 {w : List Nat} (hw : okW w) (g : G) : f_law_T17 w (.str rowL) (.str [98, 97, 97, 98, 97]) g = .ok true g := go17 hw (by kernel_rfl) (by unfold f_law_T18; exact bind_false (by kernel_rfl)) (by kernel_rfl) (by unfold f_law_T20; exact bind_false (by kernel_rfl))
theorem low5_5 {w : List Nat} (hw : okW w) (g : G) : f_law_T17 w (.str rowL) (.str [98, 97, 98, 97, 97]) g = .ok true g := go17 hw (by kernel_rfl) (by unfold f_law_T18; exact bind_false (by kernel_rfl)) (by kernel_rfl) (by unfold f_law_T20; exact bind_false (by kernel_rfl))
theorem lows5 {w : List Nat} (hw : okW w) (g : G) (low : List Nat) (h : low ∈ lotL 5) : f_law_T17 w (.str rowL) (.str low) g = .ok true g := by
  rw [lot5] at h
  simp only [List.mem_cons, List.not_mem_nil, or_false] at h
  rcases h with rfl | rfl | rfl | rfl | rfl | rfl
  · exact low5_0 hw g
  · exact low5_1 hw g
  · exact low5_2 hw g
  · exact low5_3 hw g
  · exact low5_4 hw g
  · exact low5_5 hw g
theorem lot6 : lotL 6 = [[97, 97, 98, 97, 97, 98], [97, 97, 98, 97, 98, 97], [97, 98, 97, 97, 98, 97], [97, 98, 97, 98, 97, 97], [98, 97, 97, 98, 97, 97], [98, 97, 97, 98, 97, 98], [98, 97, 98, 97, 97, 98]] := by kernel_rfl
theorem low6_0 {w : List Nat} (hw : okW w) (g : G) : f_law_T17 w (.str rowL) (.str [97, 97, 98, 97, 97, 98]) g = .ok true g := go17 hw (by kernel_rfl) (by unfold f_law_T18; exact bind_false (by kernel_rfl)) (by kernel_rfl) (by unfold f_law_T20; exact bind_false (by kernel_rfl))
theorem low6_1 {w : List Nat} (hw : okW w) (g : G) : f_law_T17 w (.str rowL) (.str [97, 97, 98, 97, 98, 97]) g = .ok true g := go17 hw (by kernel_rfl) (by unfold f_law_T18; exact bind_false (by kernel_rfl)) (by kernel_rfl) (by unfold f_law_T20; exact bind_false (by kernel_rfl))
theorem low6_2 {w : List Nat} (hw : okW w) (g : G) : f_law_T17 w (.str rowL) (.str [97, 98, 97, 97, 98, 97]) g = .ok true g := go17 hw (by kernel_rfl) (by unfold f_law_T18; exact bind_false (by kernel_rfl)) (by kernel_rfl) (by unfold f_law_T20; exact bind_false (by kernel_rfl))
theorem low6_3 {w : List Nat} (hw : okW w) (g : G) : f_law_T17 w (.str rowL) (.str [97, 98, 97, 98, 97, 97]) g = .ok true g := go17 hw (by kernel_rfl) (by unfold f_law_T18; exact bind_false (by kernel_rfl)) (by kernel_rfl) (by unfold f_law_T20; exact bind_false (by kernel_rfl))
theorem low6_4 {w : List Nat} (hw : okW w) (g : G) : f_law_T17 w (.str rowL) (.str [98, 97, 97, 98, 97, 97]) g = .ok true g := go17 hw (by kernel_rfl) (by unfold f_law_T18; exact bind_false (by kernel_rfl)) (by kernel_rfl) (by unfold f_law_T20; exact bind_false (by kernel_rfl))
theorem low6_5 {w : List Nat} (hw : okW w) (g : G) : f_law_T17 w (.str rowL) (.str [98, 97, 97, 98, 97, 98]) g = .ok true g := go17 hw (by kernel_rfl) (by unfold f_law_T18; exact bind_false (by kernel_rfl)) (by kernel_rfl) (by unfold f_law_T20; exact bind_false (by kernel_rfl))
theorem low6_6 {w : List Nat} (hw : okW w) (g : G) : f_law_T17 w (.str rowL) (.str [98, 97, 98, 97, 97, 98]) g = .ok true g := go17 hw (by kernel_rfl) (by unfold f_law_T18; exact bind_false (by kernel_rfl)) (by kernel_rfl) (by unfold f_law_T20; exact bind_false (by kernel_rfl))
theorem lows6 {w : List Nat} (hw : okW w) (g : G) (low : List Nat) (h : low ∈ lotL 6) : f_law_T17 w (.str rowL) (.str low) g = .ok true g := by
  rw [lot6] at h
  simp only [List.mem_cons, List.not_mem_nil, or_false] at h
  rcases h with rfl | rfl | rfl | rfl | rfl | rfl | rfl
  · exact low6_0 hw g
  · exact low6_1 hw g
  · exact low6_2 hw g
  · exact low6_3 hw g
  · exact low6_4 hw g
  · exact low6_5 hw g
  · exact low6_6 hw g
theorem lows {w : List Nat} (hw : okW w) (g : G) (n : Int) (h1 : 1 ≤ n) (h2 : n < 7) (low : List Nat) (h : low ∈ lotL n) : f_law_T17 w (.str rowL) (.str low) g = .ok true g := by
  have : n = 1 ∨ n = 2 ∨ n = 3 ∨ n = 4 ∨ n = 5 ∨ n = 6 := by omega
  rcases this with rfl | rfl | rfl | rfl | rfl | rfl
  · exact lows1 hw g low h
  · exact lows2 hw g low h
  · exact lows3 hw g low h
  · exact lows4 hw g low h
  · exact lows5 hw g low h
  · exact lows6 hw g low h
theorem lot_len : ∀ n : Int, 1 ≤ n → n < 7 → 0 < (lotL n).length ∧ (lotL n).length ≤ 7 := by
  intro n h1 h2
  have : n = 1 ∨ n = 2 ∨ n = 3 ∨ n = 4 ∨ n = 5 ∨ n = 6 := by omega
  rcases this with rfl | rfl | rfl | rfl | rfl | rfl
  · rw [lot1]; decide
  · rw [lot2]; decide
  · rw [lot3]; decide
  · rw [lot4]; decide
  · rw [lot5]; decide
  · rw [lot6]; decide
theorem T12_ok {a : Nat} {w : List Nat} (hw : okW w) (length : Int) {g : G} (hg : Gn a g) : ∃ g', f_law_T12 a w length g = .ok true g' := by
  unfold f_law_T12
  rw [named_gold, R.bind_ok]
  unfold f_law_T13
  rw [row_gold, R.bind_ok]
  unfold f_law_T14
  obtain ⟨v, g1, e1, v0, v1, hg1⟩ := take_ok hg (show (0 : Int) < 6 by decide) (by decide)
  rw [e1, R.bind_ok, R.bind_ok]
  unfold f_law_T15
  rw [lot_gold g1 (1 + v) (by omega) (by omega), R.bind_ok]
  unfold f_law_T16
  obtain ⟨l0, l1⟩ := lot_len (1 + v) (by omega) (by omega)
  have el : lenD [.lst ((lotL (1 + v)).map .str)] = some (.int (((lotL (1 + v)).length : Nat) : Int)) := by simp [lenD]
  obtain ⟨i, g2, e2, i0, i1, hg2⟩ := take_ok hg1 (show (0 : Int) < (((lotL (1 + v)).length : Nat) : Int) by omega) (by omega)
  have e3 : F_law_take [.gen a, .int (((lotL (1 + v)).length : Nat) : Int)] g1 = .ok (.int i) g2 := by
    show takeF _ _ = _
    rw [ty_take, e2]; rfl
  obtain ⟨j, rfl⟩ : ∃ j : Nat, i = (j : Int) := ⟨i.toNat, by omega⟩
  have hj : j < (lotL (1 + v)).length := by omega
  have e4 : ixD (.lst ((lotL (1 + v)).map .str)) (.int (j : Int)) = some (.str ((lotL (1 + v))[j])) := by
    show itD _ _ = _
    rw [it_map]
    unfold itD plc
    rw [if_pos (by omega), if_pos (by omega)]
    simp [hj]
  rw [el, ofR_some, R.bind_ok, e3, R.bind_ok, e4, ofR_some, R.bind_ok]
  exact ⟨g2, lows hw g2 (1 + v) (by omega) (by omega) _ (List.getElem_mem hj)⟩
end K23

namespace K23
open PP
set_option linter.all false
set_option maxRecDepth 100000
theorem own_ok {w p : List Nat} (hw : okW w) (hp : okW p) {a : Nat} {found : List (List Nat)} {length : Int} {own : List Nat} (h : own ∈ RW w p) (g : G) : f_law_L2 a w p found length own g = .ok (Ctl.nx ()) g := by
  obtain ⟨x, hx, rfl⟩ := RW_mem.mp h
  have h1 := hw.1
  have h2 := hp.1
  have hl : (btw w x).length ≤ 200 := by
    unfold btw; rw [List.length_take, List.length_drop]; omega
  unfold f_law_L2
  rw [show catO (btw w x) p = some (btw w x ++ p) from if_pos (LIM_le' (by omega)), ofR_some, R.bind_ok, law_places_ok (by rw [List.length_append]; omega) (by omega), occ_own hx, R.bind_ok, R.bind_ok]
  rw [show eqT [0, (((btw w x).length : Nat) : Int)] ([0, (((btw w x).length : Nat) : Int)] : List Int) = true from decide_eq_true rfl]
  rfl
theorem forN_nx {τ α β : Type} {f : τ → α → G → R (Ctl τ β)} {s : τ} : ∀ (xs : List α) (g : G), (∀ x ∈ xs, ∀ g, f s x g = .ok (Ctl.nx s) g) → forN f xs s g = .ok (Ctl.nx s) g
  | [], g, _ => rfl
  | x :: xs, g, h => by
    simp only [forN, h x (by simp), R.bind_ok]
    exact forN_nx xs g fun y hy => h y (by simp [hy])
theorem T11_ok {w p : List Nat} (hw : okW w) (hp : okW p) {a : Nat} {length : Int} {g : G} (hg : Gn a g) : ∃ g', f_law_T11 a w p (RW w p) length g = .ok true g' := by
  unfold f_law_T11
  rw [forN_nx (RW w p) g fun own ho g => own_ok hw hp ho g, R.bind_ok]
  exact T12_ok hw length hg
theorem last_occ {w p : List Nat} {b : Nat} {l : List Nat} (h : occ w p = b :: l) : itD (ocI w p) 0 = some (b : Int) ∧ itD (ocI w p) (-1) = some (((b :: l).getLast (by simp) : Nat) : Int) := by
  have hl : (ocI w p).length = l.length + 1 := by unfold ocI; rw [h]; simp
  refine ⟨?_, ?_⟩
  · unfold itD plc
    rw [if_pos (by omega), if_pos (by rw [hl]; omega)]
    unfold ocI; rw [h]; rfl
  · unfold itD plc
    rw [if_neg (by omega), if_pos (by rw [hl]; omega)]
    have e : (-1 + (((ocI w p).length : Nat) : Int)).toNat = l.length := by rw [hl]; omega
    rw [e]
    unfold ocI
    have e2 : (b :: l)[l.length]? = some ((b :: l).getLast (by simp)) := by rw [List.getLast_eq_getElem]; simp
    rw [h, Option.bind_some, List.getElem?_map, e2]
    rfl
theorem bO_ne {a b : D} (ha : shapeOk a = true) (e : eqB a b = true) (hb : shapeOk b = true) : bO (neD a b) = some false := by
  unfold neD; rw [ha, hb, e]; rfl
theorem eqB_str (s : List Nat) : eqB (.str s) (.str s) = true := by simp [eqB]
theorem T10_ok {w p : List Nat} (hw : okW w) (hp : okW p) (h0 : p ≠ []) {a : Nat} {length : Int} {told : D} {g : G} (hg : Gn a g)
    (ht : told = if 4 < (RW w p).length then .tup [.str [114, 101, 102, 117, 115, 101, 100], .str [109, 97, 110, 121]] else .tup [.str [116, 111, 108, 100], .str (dueW w p)]) : ∃ g', f_law_T10 a w p (ocI w p) (RW w p) told length g = .ok true g' := by
  have h1 := hw.1
  have h2 := hp.1
  unfold f_law_T10
  by_cases h4 : 4 < (RW w p).length
  · rw [if_pos (decide_eq_true (show (4 : Int) < (((RW w p).length : Nat) : Int) by omega))]
    rw [if_pos h4] at ht
    subst ht
    exact T11_ok hw hp hg
  · rw [if_neg (by rw [decide_eq_true_iff]; omega)]
    rw [if_neg h4] at ht
    subst ht
    rw [cut_one, due_run (by omega) (by omega), R.bind_ok]
    have hs : F_law_same [D.tup [.str [116, 111, 108, 100], .str (dueW w p)], (c2 D.str D.str) (([116, 111, 108, 100] : List Nat), dueW w p)] g = .ok (.bl true) g :=
      same_ok (.tup (by simp [LIM]) fun d hd => by
        simp only [List.mem_cons, List.not_mem_nil, or_false] at hd
        rcases hd with rfl | rfl <;> exact .str) g
    rw [hs]
    have fin : ∀ r : R Bool, r = .ok false g → ∃ g', (r.bind fun b g => if b = true then R.ok false g else f_law_T11 a w p (RW w p) length g) = R.ok true g' := fun r hr => by
      rw [hr]
      exact T11_ok hw hp hg
    refine fin _ ?_
    cases ho : occ w p with
    | nil =>
      have : (ocI w p).length = 0 := by unfold ocI; rw [ho]; rfl
      rw [this]; rfl
    | cons b l =>
      have hl : (ocI w p).length = l.length + 1 := by unfold ocI; rw [ho]; simp
      rw [if_pos (decide_eq_true (show (0 : Int) < (((ocI w p).length : Nat) : Int) by rw [hl]; omega))]
      have hsort := occ_sorted w p
      rw [ho] at hsort
      have hb := btw_all (w := w) l b hsort
      have hlast : (b :: l).getLast (by simp) ∈ occ w p := by rw [ho]; exact List.getLast_mem _
      obtain ⟨q1, q2⟩ := occ_mem.mp hlast
      have hbl : b ≤ (b :: l).getLast (by simp) := by
        rcases List.mem_cons.mp (List.getLast_mem (l := b :: l) (by simp)) with e | e
        · rw [e]; exact Nat.le_refl _
        · exact Nat.le_of_lt ((List.pairwise_cons.mp hsort).1 _ e)
      have hz : ((occ w p).zip (occ w p).tail).map (btw w) = ((b :: l).zip l).map (btw w) := by rw [ho]; rfl
      have hf : (((occ w p).zip (occ w p).tail).map (btw w)).flatten = (w.drop b).take ((b :: l).getLast (by simp) - b) := by rw [hz, hb]
      have hfl : (((occ w p).zip (occ w p).tail).map (btw w)).flatten.length ≤ 200 := by
        rw [hf, List.length_take, List.length_drop]; omega
      rw [back_run (by omega) (by omega), R.bind_ok, join_ok (by omega), ofR_some, R.bind_ok, show catO (((occ w p).zip (occ w p).tail).map (btw w)).flatten p = some ((((occ w p).zip (occ w p).tail).map (btw w)).flatten ++ p) from if_pos (LIM_le' (by omega)), ofR_some, R.map_ok, R.bind_ok, R.bind_ok, (last_occ ho).1, ofR_some, R.bind_ok, (last_occ ho).2, ofR_some, R.bind_ok, R.bind_ok]
      have e1 : sliceD (.str w) (some (b : Int)) (some ((((b :: l).getLast (by simp) : Nat) : Int) + ((p.length : Nat) : Int))) = some (.str ((((occ w p).zip (occ w p).tail).map (btw w)).flatten ++ p)) := by
        have e3 : ((((b :: l).getLast (by simp) : Nat) : Int) + ((p.length : Nat) : Int)) = (((b :: l).getLast (by simp) + p.length : Nat) : Int) := by omega
        rw [sl_Str, e3, cut_nat w (by omega) (by omega), hf]
        congr 2
        rw [show (b :: l).getLast (by simp) + p.length - b = ((b :: l).getLast (by simp) - b) + p.length by omega, List.take_add, List.drop_drop, show b + ((b :: l).getLast (by simp) - b) = (b :: l).getLast (by simp) by omega, q2]
      rw [e1, ofR_some, R.bind_ok, bO_ne (by rfl) (eqB_str _) (by rfl)]
      rfl
theorem T9_ok {w p : List Nat} (hw : okW w) (hp : okW p) (h0 : p ≠ []) {a : Nat} {length : Int} {g : G} (hg : Gn a g) : ∃ g', f_law_T9 a w p (ocI w p) (RW w p) length g = .ok true g' := by
  unfold f_law_T9
  by_cases h4 : 4 < (RW w p).length
  · have e : F_law_told [D.fn 0, D.tup [.str w, .str p]] g = .ok (.tup [.str [114, 101, 102, 117, 115, 101, 100], .str [109, 97, 110, 121]]) g := told2_ref (by rw [tb0, ty_derived_word, derived_ok hw hp h0, if_pos h4]; rfl)
    show ∃ g', ((F_law_told [D.fn 0, D.tup [.str w, .str p]] g).bind _) = _
    rw [e, R.bind_ok]
    exact T10_ok hw hp h0 hg (by rw [if_pos h4])
  · have e : F_law_told [D.fn 0, D.tup [.str w, .str p]] g = .ok (.tup [.str [116, 111, 108, 100], .str (dueW w p)]) g := told2_ok (by rw [tb0, ty_derived_word, derived_ok hw hp h0, if_neg h4]; rfl)
    show ∃ g', ((F_law_told [D.fn 0, D.tup [.str w, .str p]] g).bind _) = _
    rw [e, R.bind_ok]
    exact T10_ok hw hp h0 hg (by rw [if_neg h4])
theorem RW_len {w p : List Nat} (h : w.length ≤ 200) : (RW w p).length ≤ 1000 := by
  have : ∀ (l : List (Int × Int)) (f : List (List Nat)), (l.foldl (stepW w) f).length ≤ f.length + l.length := by
    intro l
    induction l with
    | nil => intro f; simp
    | cons x l ih =>
      intro f
      have h1 := ih (stepW w f x)
      have h2 := stepW_len (w := w) (f := f) (x := x)
      simp only [List.foldl_cons, List.length_cons]; omega
  have h2 := this (prs w p) []
  have h3 := occ_len w p
  have h4 := zip_len (l := ocI w p) (m := ocI w p)
  show (((prs w p)).foldl (stepW w) []).length ≤ 1000
  simp only [List.length_nil] at h2
  show _ ≤ 1000
  unfold prs at h2 ⊢
  omega
theorem T5_ok {w p : List Nat} (hw : okW w) (hp : okW p) (h0 : p ≠ []) {a : Nat} {length : Int} {g : G} (hg : Gn a g) : ∃ g', f_law_T5 a w p length g = .ok true g' := by
  have h1 := hw.1
  have h2 := hp.1
  unfold f_law_T5
  rw [law_places_ok (by omega) (by omega), R.bind_ok]
  unfold f_law_T6 f_law_T7
  rw [cut_one, found_run (w := w) (by omega) (f := fun s x g => f_law_L1 a w p (ocI w p) length s x g) (fun s x g => rfl), R.bind_ok]
  unfold f_law_T8
  rw [return_ok hw hp h0, R.map_ok, R.bind_ok]
  have hs : F_law_same [cT D.str (RW w p), cT D.str (RW w p)] g = .ok (.bl true) g :=
    same_ok (.tup (by rw [List.length_map]; exact LIM_le' (by have := RW_len (w := w) (p := p) h1; omega)) fun d hd => by
      obtain ⟨s, _, rfl⟩ := List.mem_map.mp hd
      exact .str) g
  rw [hs]
  exact T9_ok hw hp h0 hg
theorem f_law_ok {a : Nat} {g : G} (hg : Gn a g) : ∃ g', f_law a g = .ok true g' := by
  unfold f_law
  obtain ⟨v, g1, e1, v0, v1, hg1⟩ := take_ok hg (show (0 : Int) < 3 by decide) (by decide)
  rw [e1, R.bind_ok, R.bind_ok]
  unfold f_law_T1
  obtain ⟨n, g2, e2, n0, n1, hg2⟩ := take_ok hg1 (show (0 : Int) < 40 by decide) (by decide)
  rw [e2, R.bind_ok]
  obtain ⟨w, g3, e3, hl, hm, hg3⟩ := law_word_ok hg2 (show 0 < 2 + v by omega) (by omega) n0 n1
  rw [e3, R.bind_ok]
  have hw : okW w := ⟨by omega, hm⟩
  unfold f_law_T2
  obtain ⟨k, g4, e4, k0, k1, hg4⟩ := take_ok hg3 (show (0 : Int) < ((w.length : Nat) : Int) + 1 by omega) (by omega)
  rw [e4, R.bind_ok]
  obtain ⟨x, g5, e5, x0, x1, hg5⟩ := take_ok hg4 (show (0 : Int) < 3 by decide) (by decide)
  rw [e5, R.bind_ok, R.bind_ok]
  unfold f_law_T3 f_law_T4
  have hc : ∀ c ∈ cut w (some k) (some (k + (1 + x))), c ∈ abcd := fun c hc => hm c (List.mem_of_mem_drop (List.mem_of_mem_take hc))
  have hcl : (cut w (some k) (some (k + (1 + x)))).length ≤ 200 := by
    unfold cut; rw [List.length_take, List.length_drop]; omega
  by_cases he : cut w (some k) (some (k + (1 + x))) = []
  · rw [he]
    exact T5_ok hw ⟨by decide, by decide⟩ (by decide) hg5
  · have : (!eqT (cut w (some k) (some (k + (1 + x)))) ([] : List Nat)) = true := by
      rw [show eqT (cut w (some k) (some (k + (1 + x)))) ([] : List Nat) = false from decide_eq_false he]; rfl
    rw [if_pos this]
    exact T5_ok hw ⟨hcl, hc⟩ he hg5
theorem pure_law : ∀ (a : Nat) (g : G), g.on = true → g.at_ = a → GOk g → ∃ g', B_law ([none, some (.gen a)] ++ List.replicate 24 none) g = .rt (.bl true) g' := by
  intro a g h1 h2 h3
  obtain ⟨g', e⟩ := f_law_ok (a := a) (g := g) ⟨h1, h2⟩
  have h := ty_law a g
  rw [e] at h
  refine ⟨g', ?_⟩
  revert h
  generalize B_law ([none, some (.gen a)] ++ List.replicate 24 none) g = o
  intro h
  cases o with
  | rt d g1 => cases h; rfl
  | nx ρ g1 => cases h
  | bk ρ g1 => cases h
  | ct ρ g1 => cases h
  | ex e ρ g1 => cases h
  | bad => cases h
end K23

set_option Elab.async false
set_option linter.all false
set_option maxRecDepth 100000
set_option maxHeartbeats 400000
namespace K23
open PySem PySem.Spec PyProof.Rows L2 PP
def top (i : Nat) : Stmt := PySem.Challenge.pw_shiftroads_k23_whole_return_words_and_de.main.body.getD i (.Pass ⟨0, 0, 0, 0⟩)
abbrev s_law_take : Stmt := top 31
theorem sc_law_take : FnScope ["state", "m", "value"] ["state", "m"] (defScope s_law_take) := ⟨rfl, rfl, rfl, by decide +kernel, rfl, by decide +kernel, by decide +kernel⟩
abbrev s_law_state : Stmt := top 30
theorem sc_law_state : FnScope ["script", "seed", "total", "cell"] ["script"] (defScope s_law_state) := ⟨rfl, rfl, rfl, by decide +kernel, rfl, by decide +kernel, by decide +kernel⟩
abbrev s_is_integer : Stmt := top 6
theorem sc_is_integer : FnScope ["value"] ["value"] (defScope s_is_integer) := ⟨rfl, rfl, rfl, by decide +kernel, rfl, by decide +kernel, by decide +kernel⟩
abbrev s_check_from : Stmt := top 7
theorem sc_check_from : FnScope ["n", "low", "high"] ["n", "low", "high"] (defScope s_check_from) := ⟨rfl, rfl, rfl, by decide +kernel, rfl, by decide +kernel, by decide +kernel⟩
abbrev s_is_row : Stmt := top 8
theorem sc_is_row : FnScope ["value", "x"] ["value"] (defScope s_is_row) := ⟨rfl, rfl, rfl, by decide +kernel, rfl, by decide +kernel, by decide +kernel⟩
abbrev s_is_word : Stmt := top 9
theorem sc_is_word : FnScope ["value", "size", "c"] ["value", "size"] (defScope s_is_word) := ⟨rfl, rfl, rfl, by decide +kernel, rfl, by decide +kernel, by decide +kernel⟩
abbrev s_check_word : Stmt := top 10
theorem sc_check_word : FnScope ["value", "size"] ["value", "size"] (defScope s_check_word) := ⟨rfl, rfl, rfl, by decide +kernel, rfl, by decide +kernel, by decide +kernel⟩
abbrev s_factors_of : Stmt := top 11
theorem sc_factors_of : FnScope ["word", "length", "k"] ["word", "length"] (defScope s_factors_of) := ⟨rfl, rfl, rfl, by decide +kernel, rfl, by decide +kernel, by decide +kernel⟩
abbrev s_is_table : Stmt := top 14
theorem sc_is_table : FnScope ["value", "row"] ["value"] (defScope s_is_table) := ⟨rfl, rfl, rfl, by decide +kernel, rfl, by decide +kernel, by decide +kernel⟩
abbrev s_check_growing : Stmt := top 19
theorem sc_check_growing : FnScope ["value"] ["value"] (defScope s_check_growing) := ⟨rfl, rfl, rfl, by decide +kernel, rfl, by decide +kernel, by decide +kernel⟩
abbrev s_letter_table : Stmt := top 20
theorem sc_letter_table : FnScope ["rule", "own", "c"] ["rule"] (defScope s_letter_table) := ⟨rfl, rfl, rfl, by decide +kernel, rfl, by decide +kernel, by decide +kernel⟩
abbrev s_is_primitive : Stmt := top 21
theorem sc_is_primitive : FnScope ["table", "n", "own", "start", "_", "rows", "row", "c", "j", "k"] ["table"] (defScope s_is_primitive) := ⟨rfl, rfl, rfl, by decide +kernel, rfl, by decide +kernel, by decide +kernel⟩
abbrev s_is_steady : Stmt := top 22
theorem sc_is_steady : FnScope ["rule", "own"] ["rule"] (defScope s_is_steady) := ⟨rfl, rfl, rfl, by decide +kernel, rfl, by decide +kernel, by decide +kernel⟩
abbrev s_grown_words : Stmt := top 23
theorem sc_grown_words : FnScope ["rule", "length", "best", "own", "found", "line", "c", "low"] ["rule", "length"] (defScope s_grown_words) := ⟨rfl, rfl, rfl, by decide +kernel, rfl, by decide +kernel, by decide +kernel⟩
abbrev s_fixed_letters : Stmt := top 24
theorem sc_fixed_letters : FnScope ["rule", "c", "own"] ["rule"] (defScope s_fixed_letters) := ⟨rfl, rfl, rfl, by decide +kernel, rfl, by decide +kernel, by decide +kernel⟩
abbrev s_fixed_start : Stmt := top 25
theorem sc_fixed_start : FnScope ["rule", "letter", "length", "own", "later", "c"] ["rule", "letter", "length"] (defScope s_fixed_start) := ⟨rfl, rfl, rfl, by decide +kernel, rfl, by decide +kernel, by decide +kernel⟩
abbrev s_return_words : Stmt := top 26
theorem sc_return_words : FnScope ["word", "part", "places", "found", "a", "b", "k"] ["word", "part"] (defScope s_return_words) := ⟨rfl, rfl, rfl, by decide +kernel, rfl, by decide +kernel, by decide +kernel⟩
abbrev s_derived_word : Stmt := top 27
theorem sc_derived_word : FnScope ["word", "part", "words", "places", "k", "a", "b"] ["word", "part"] (defScope s_derived_word) := ⟨rfl, rfl, rfl, by decide +kernel, rfl, by decide +kernel, by decide +kernel⟩
abbrev s_named_rule : Stmt := top 28
theorem sc_named_rule : FnScope ["name", "names", "more"] ["name"] (defScope s_named_rule) := ⟨rfl, rfl, rfl, by decide +kernel, rfl, by decide +kernel, by decide +kernel⟩
abbrev s_law_is_whole : Stmt := top 32
theorem sc_law_is_whole : FnScope ["value"] ["value"] (defScope s_law_is_whole) := ⟨rfl, rfl, rfl, by decide +kernel, rfl, by decide +kernel, by decide +kernel⟩
abbrev s_law_same : Stmt := top 33
theorem sc_law_same : FnScope ["one", "two", "k"] ["one", "two"] (defScope s_law_same) := ⟨rfl, rfl, rfl, by decide +kernel, rfl, by decide +kernel, by decide +kernel⟩
abbrev s_law_told : Stmt := top 34
theorem sc_law_told : FnScope ["act", "given", "refused"] ["act", "given"] (defScope s_law_told) := ⟨rfl, rfl, rfl, by decide +kernel, rfl, by decide +kernel, by decide +kernel⟩
abbrev s_law_word : Stmt := top 35
theorem sc_law_word : FnScope ["state", "size", "length", "k"] ["state", "size", "length"] (defScope s_law_word) := ⟨rfl, rfl, rfl, by decide +kernel, rfl, by decide +kernel, by decide +kernel⟩
abbrev s_law_places : Stmt := top 36
theorem sc_law_places : FnScope ["word", "piece", "k"] ["word", "piece"] (defScope s_law_places) := ⟨rfl, rfl, rfl, by decide +kernel, rfl, by decide +kernel, by decide +kernel⟩
abbrev s_law : Stmt := top 37
theorem sc_law : FnScope ["script", "state", "size", "word", "piece", "places", "found", "told", "own", "golden", "row", "length", "lot", "low", "back", "tried", "k", "a", "b", "due", "one", "two", "act", "given", "x", "c"] ["script"] (defScope s_law) := ⟨rfl, rfl, rfl, by decide +kernel, rfl, by decide +kernel, by decide +kernel⟩
abbrev s_Growing_init : Stmt := inClass (top 18) 0
theorem sc_Growing_init : FnScope ["self", "images", "own"] ["self", "images"] (defScope s_Growing_init) := ⟨rfl, rfl, rfl, by decide +kernel, rfl, by decide +kernel, by decide +kernel⟩
abbrev s_Growing_on : Stmt := inClass (top 18) 2
theorem sc_Growing_on : FnScope ["self", "word", "found", "c"] ["self", "word"] (defScope s_Growing_on) := ⟨rfl, rfl, rfl, by decide +kernel, rfl, by decide +kernel, by decide +kernel⟩
abbrev s_Refused_init : Stmt := inClass (top 3) 0
theorem sc_Refused_init : FnScope ["self", "reason"] ["self", "reason"] (defScope s_Refused_init) := ⟨rfl, rfl, rfl, by decide +kernel, rfl, by decide +kernel, by decide +kernel⟩
structure Ad where
  (f_law_take f_law_state f_is_integer f_check_from f_is_row f_is_word f_check_word f_factors_of f_is_table f_check_growing f_letter_table f_is_primitive f_is_steady f_grown_words f_fixed_letters f_fixed_start f_return_words f_derived_word f_named_rule f_law_is_whole f_law_same f_law_told f_law_word f_law_places f_law f_Growing_init f_Growing_on f_Refused_init : Addr)
  (c_Malformed c_Refused c_Fault c_Growing : Addr)
def TT (K : PySem.W.Frag) (A : Ad) : Tb where
  K := K
  fnA := fun n => ([A.f_derived_word, A.f_return_words] : List Addr)[n]?
  clA := fun n => ([none, none, some A.c_Growing] : List (Option Addr)).getD n none
  clF := fun n => ([[], [], ["size", "images"]] : List (List Str)).getD n []
  exA := fun n => ([A.c_Malformed, A.c_Refused] : List Addr)[n]?
  exF := fun n => ([[], ["reason"]] : List (List Str)).getD n []
  exn := none
structure Tx (K : PySem.W.Frag) (mg : Str → Option Value) (A : Ad) : Prop where
  f_law_take : ∃ fd, Fun K "_law_take" "_law_take" s_law_take A.f_law_take fd ∧ Binds K fd ["state", "m"] []
  g_law_take : mg "_law_take" = some (.ref A.f_law_take)
  f_law_state : ∃ fd, Fun K "_law_state" "_law_state" s_law_state A.f_law_state fd ∧ Binds K fd ["script"] []
  g_law_state : mg "_law_state" = some (.ref A.f_law_state)
  f_is_integer : ∃ fd, Fun K "is_integer" "is_integer" s_is_integer A.f_is_integer fd ∧ Binds K fd ["value"] []
  g_is_integer : mg "is_integer" = some (.ref A.f_is_integer)
  f_check_from : ∃ fd, Fun K "check_from" "check_from" s_check_from A.f_check_from fd ∧ Binds K fd ["n", "low", "high"] []
  g_check_from : mg "check_from" = some (.ref A.f_check_from)
  f_is_row : ∃ fd, Fun K "is_row" "is_row" s_is_row A.f_is_row fd ∧ Binds K fd ["value"] []
  g_is_row : mg "is_row" = some (.ref A.f_is_row)
  f_is_word : ∃ fd, Fun K "is_word" "is_word" s_is_word A.f_is_word fd ∧ Binds K fd ["value", "size"] []
  g_is_word : mg "is_word" = some (.ref A.f_is_word)
  f_check_word : ∃ fd, Fun K "check_word" "check_word" s_check_word A.f_check_word fd ∧ Binds K fd ["value", "size"] []
  g_check_word : mg "check_word" = some (.ref A.f_check_word)
  f_factors_of : ∃ fd, Fun K "factors_of" "factors_of" s_factors_of A.f_factors_of fd ∧ Binds K fd ["word", "length"] []
  g_factors_of : mg "factors_of" = some (.ref A.f_factors_of)
  f_is_table : ∃ fd, Fun K "is_table" "is_table" s_is_table A.f_is_table fd ∧ Binds K fd ["value"] []
  g_is_table : mg "is_table" = some (.ref A.f_is_table)
  f_check_growing : ∃ fd, Fun K "check_growing" "check_growing" s_check_growing A.f_check_growing fd ∧ Binds K fd ["value"] []
  g_check_growing : mg "check_growing" = some (.ref A.f_check_growing)
  f_letter_table : ∃ fd, Fun K "letter_table" "letter_table" s_letter_table A.f_letter_table fd ∧ Binds K fd ["rule"] []
  g_letter_table : mg "letter_table" = some (.ref A.f_letter_table)
  f_is_primitive : ∃ fd, Fun K "is_primitive" "is_primitive" s_is_primitive A.f_is_primitive fd ∧ Binds K fd ["table"] []
  g_is_primitive : mg "is_primitive" = some (.ref A.f_is_primitive)
  f_is_steady : ∃ fd, Fun K "is_steady" "is_steady" s_is_steady A.f_is_steady fd ∧ Binds K fd ["rule"] []
  g_is_steady : mg "is_steady" = some (.ref A.f_is_steady)
  f_grown_words : ∃ fd, Fun K "grown_words" "grown_words" s_grown_words A.f_grown_words fd ∧ Binds K fd ["rule", "length"] []
  g_grown_words : mg "grown_words" = some (.ref A.f_grown_words)
  f_fixed_letters : ∃ fd, Fun K "fixed_letters" "fixed_letters" s_fixed_letters A.f_fixed_letters fd ∧ Binds K fd ["rule"] []
  g_fixed_letters : mg "fixed_letters" = some (.ref A.f_fixed_letters)
  f_fixed_start : ∃ fd, Fun K "fixed_start" "fixed_start" s_fixed_start A.f_fixed_start fd ∧ Binds K fd ["rule", "letter", "length"] []
  g_fixed_start : mg "fixed_start" = some (.ref A.f_fixed_start)
  f_return_words : ∃ fd, Fun K "return_words" "return_words" s_return_words A.f_return_words fd ∧ Binds K fd ["word", "part"] []
  g_return_words : mg "return_words" = some (.ref A.f_return_words)
  f_derived_word : ∃ fd, Fun K "derived_word" "derived_word" s_derived_word A.f_derived_word fd ∧ Binds K fd ["word", "part"] []
  g_derived_word : mg "derived_word" = some (.ref A.f_derived_word)
  f_named_rule : ∃ fd, Fun K "named_rule" "named_rule" s_named_rule A.f_named_rule fd ∧ Binds K fd ["name"] []
  g_named_rule : mg "named_rule" = some (.ref A.f_named_rule)
  f_law_is_whole : ∃ fd, Fun K "_law_is_whole" "_law_is_whole" s_law_is_whole A.f_law_is_whole fd ∧ Binds K fd ["value"] []
  g_law_is_whole : mg "_law_is_whole" = some (.ref A.f_law_is_whole)
  f_law_same : ∃ fd, Fun K "_law_same" "_law_same" s_law_same A.f_law_same fd ∧ Binds K fd ["one", "two"] []
  g_law_same : mg "_law_same" = some (.ref A.f_law_same)
  f_law_told : ∃ fd, Fun K "_law_told" "_law_told" s_law_told A.f_law_told fd ∧ Binds K fd ["act", "given"] []
  g_law_told : mg "_law_told" = some (.ref A.f_law_told)
  f_law_word : ∃ fd, Fun K "_law_word" "_law_word" s_law_word A.f_law_word fd ∧ Binds K fd ["state", "size", "length"] []
  g_law_word : mg "_law_word" = some (.ref A.f_law_word)
  f_law_places : ∃ fd, Fun K "_law_places" "_law_places" s_law_places A.f_law_places fd ∧ Binds K fd ["word", "piece"] []
  g_law_places : mg "_law_places" = some (.ref A.f_law_places)
  f_law : ∃ fd, Fun K "law" "law" s_law A.f_law fd ∧ Binds K fd ["script"] []
  g_law : mg "law" = some (.ref A.f_law)
  f_Growing_init : ∃ fd, Fun K "__init__" "Growing.__init__" s_Growing_init A.f_Growing_init fd ∧ Binds K fd ["self", "images"] []
  f_Growing_on : ∃ fd, Fun K "on" "Growing.on" s_Growing_on A.f_Growing_on fd ∧ Binds K fd ["self", "word"] []
  f_Refused_init : ∃ fd, Fun K "__init__" "Refused.__init__" s_Refused_init A.f_Refused_init fd ∧ Binds K fd ["self", "reason"] []
  m_abs : mg "abs" = none
  m_all : mg "all" = none
  m_any : mg "any" = none
  m_bool : mg "bool" = none
  m_enumerate : mg "enumerate" = none
  m_int : mg "int" = none
  m_isinstance : mg "isinstance" = none
  m_len : mg "len" = none
  m_list : mg "list" = none
  m_max : mg "max" = none
  m_min : mg "min" = none
  m_range : mg "range" = none
  m_sorted : mg "sorted" = none
  m_str : mg "str" = none
  m_sum : mg "sum" = none
  m_tuple : mg "tuple" = none
  m_zip : mg "zip" = none
  c_LETTERS : ∃ u, mg "LETTERS" = some u ∧ ∃ t, u = Value.str ⟨([97, 98, 99, 100] : List Nat).toArray⟩ t
  c_MOST_IMAGE : ∃ u, mg "MOST_IMAGE" = some u ∧ ∃ t, u = Value.int 6 t
  c_MOST_SIDE : ∃ u, mg "MOST_SIDE" = some u ∧ ∃ t, u = Value.int 12 t
  c_MOST_TEXT : ∃ u, mg "MOST_TEXT" = some u ∧ ∃ t, u = Value.int 3000 t
  g_Malformed : mg "Malformed" = some (.ref A.c_Malformed)
  m_Malformed : ∀ m C, (TT K A).exA m = some C → PySem.W.exmOne K (.ref C) (.ref A.c_Malformed) = some (decide (0 = m))
  x_Malformed : PySem.W.excIn K A.c_Malformed [.type "ValueError", .type "Exception", .type "BaseException", .type "object"] "ValueError.__new__" = true
  k_Malformed : PySem.W.keepIn K (.ref A.c_Malformed) = true
  b_Malformed : PySem.W.subIn K (.ref A.c_Malformed) (.type "BaseException") = some true
  y_Malformed : PySem.W.typeIn K (.ref A.c_Malformed) = some (.type "type")
  g_Refused : mg "Refused" = some (.ref A.c_Refused)
  m_Refused : ∀ m C, (TT K A).exA m = some C → PySem.W.exmOne K (.ref C) (.ref A.c_Refused) = some (decide (1 = m))
  k_Refused : PySem.W.keepIn K (.ref A.c_Refused) = true
  b_Refused : PySem.W.subIn K (.ref A.c_Refused) (.type "BaseException") = some true
  y_Refused : PySem.W.typeIn K (.ref A.c_Refused) = some (.type "type")
  oc_Refused : OexC K A.c_Refused
  xn_Refused : PySem.W.findIn K (.ref A.c_Refused) "reason" = some none
  iC_Refused : PySem.W.findIn K (.ref A.c_Refused) "__init__" = some (some (.ref A.f_Refused_init))
  tI_Refused : PySem.W.typeIn K (.ref A.f_Refused_init) = some (.type "function")
  xf_Refused : XfC K A.c_Refused
  fi_Fault : FinC K A.c_Fault
  g_Fault : mg "Fault" = some (.ref A.c_Fault)
  g_Growing : mg "Growing" = some (.ref A.c_Growing)
  cls_Growing : Cls K A.c_Growing
  n_Growing_size : NoAttr K A.c_Growing "size"
  n_Growing_images : NoAttr K A.c_Growing "images"
  mk_Growing : Mk K A.c_Growing A.f_Growing_init
  isT_Growing : IsT (TT K A) 2 A.c_Growing
  me_Growing_on : Meth K A.c_Growing "on" A.f_Growing_on
section
variable {P : Program} {w : World} {K : PySem.W.Frag} {mg : Str → Option Value} {base : Heap} {A : Ad}
theorem cl_Growing (tx : Tx K mg A) : ClT (TT K A) 2 A.c_Growing := ⟨rfl, tx.cls_Growing, fun f hf => by
    have hf' : f ∈ (["size", "images"] : List Str) := hf
    simp only [List.mem_cons, List.not_mem_nil, or_false] at hf'
    rcases hf' with rfl | rfl <;> first | exact tx.n_Growing_size | exact tx.n_Growing_images, (by decide : (["size", "images"] : List Str).Nodup), rfl⟩
theorem is_Growing (tx : Tx K mg A) : IsT (TT K A) 2 A.c_Growing := tx.isT_Growing
theorem mk_Growing (tx : Tx K mg A) : Mk K A.c_Growing A.f_Growing_init := tx.mk_Growing
theorem me_Growing_on (tx : Tx K mg A) : Meth K A.c_Growing "on" A.f_Growing_on := tx.me_Growing_on
theorem pay_Refused (tx : Tx K mg A) : ∃ fd ps, FnOk P w K mg base (L2.CX P w) 1 A.f_Refused_init fd ps (spPay K "reason") ∧ Binds K fd ps [] := by
  obtain ⟨fd, F, b⟩ := tx.f_Refused_init
  exact ⟨fd, _, pay_mk F sc_Refused_init rfl rfl (fun cdv A' outer s H E => pss_cons (ps_expr (pe_finit tx.fi_Fault rfl tx.g_Fault (pa_cons (pv 0) (pa_cons (pv 1) pa_nil)))) (pss_one (ps_ost (pv 0) (pv 1)))), b⟩
theorem ok_law_take (tx : Tx K mg A) : Ok P w K mg base (TT K A) 1 A.f_law_take 2 F_law_take := by
  obtain ⟨fd, F, b⟩ := tx.f_law_take
  refine ⟨fd, _, F.okX (k := 0) sc_law_take (fun vs H Q E ⟨F0, ds, g, hl, _⟩ => by rw [hl]; rfl) (fun cdv A' outer s H vs Q E hr ⟨F0, ds, g, hl, hs, hg, hrep, hq⟩ => ?_), F.kp, b⟩
  obtain ⟨m, rfl, ho, m0, m1, q⟩ := take_inv hrep hq
  obtain ⟨hh, hf, hok⟩ := hg ho
  refine ⟨_, pss_cons (ps_if (pt_cmpR op_gt (pe_ix ix_seq (pv 0) pe_int (fun _ _ => rfl)) pe_int (nomark _))
      (pss_cons (ps_set (i := 2) sc_law_take.nd rfl (by first | exact Or.inl rfl | exact Or.inr rfl) (pe_op op_mod (pe_callTy call_int1 rfl tx.m_int (by decide +kernel) (pa_cons (pe_ix ix_seq (pv 0) pe_int (fun _ _ => rfl)) pa_nil)) (pv 1)))
      (pss_cons (ps_asg (pe_op op_fdivW (pe_ix ix_seq (pv 0) pe_int (fun _ _ => rfl)) (pv 1)) (pg_sub (pv 0) pe_int set_list))
      (pss_one (ps_ret (pv 2))))) pss_nil)
    (pss_cons (ps_asg (pe_op op_mod (pe_callTy call_int1 rfl tx.m_int (by decide +kernel) (pa_cons (pe_op op_add (pe_op op_mulA (pe_ix ix_seq (pv 0) pe_int (fun _ _ => rfl)) pe_int) pe_int) pa_nil)) pe_int) (pg_sub (pv 0) pe_int set_list))
    (pss_one (ps_ret (pe_op op_mod (pe_callTy call_int1 rfl tx.m_int (by decide +kernel) (pa_cons (pe_op op_fdiv (pe_ix ix_seq (pv 0) pe_int (fun _ _ => rfl)) pe_int) pa_nil)) (pv 1))))), ?_⟩
  have hS : SqL K H g.at_ [.int g.s, .int g.t] := SqL.of hh
  refine ⟨.ref g.at_, rfl, .inl ⟨g.at_, _, 0, .int g.s, rfl, rfl, hS, rfl, g.s, 0, rfl, rfl, decide (g.s > 0), rfl, ?_⟩⟩
  by_cases h : 0 < g.s
  · rw [show decide (g.s > 0) = true from decide_eq_true h]
    dsimp only
    rw [if_pos rfl]
    unfold tkG at q
    simp only [if_pos h] at q
    refine ⟨.ref g.at_, rfl, .inl ⟨g.at_, _, 0, .int g.s, rfl, rfl, hS, rfl, .inl ⟨g.s, rfl, .int m, rfl, g.s, m, rfl, rfl, m0, ?_⟩⟩⟩
    refine ⟨.ref g.at_, rfl, .inl ⟨g.at_, _, 0, .int g.s, rfl, rfl, hS, rfl, .int m, rfl, g.s, m, rfl, rfl, div_ok m0 m1, ?_⟩⟩
    refine ⟨.ref g.at_, rfl, g.at_, _, _, 0, rfl, rfl, hh, rfl, ?_⟩
    exact ⟨.int (g.s % m), rfl, q _ F0 _ (take_post (g' := { g with s := g.s / m }) hs hf ⟨_, hh⟩ rfl rfl (by have := tkG_ok hok m0; unfold tkG at this; simpa only [if_pos h] using this) ho) mk_int⟩
  · rw [show decide (g.s > 0) = false from decide_eq_false h]
    dsimp only
    rw [if_neg Bool.false_ne_true]
    unfold tkG at q
    simp only [if_neg h] at q
    refine ⟨.ref g.at_, rfl, .inl ⟨g.at_, _, 1, .int g.t, rfl, rfl, hS, rfl, .inl ⟨g.t, 48271, rfl, rfl, mulOk_C (by simp [mulOk]), _, 11, rfl, rfl, .inl ⟨_, rfl, _, 2147483647, rfl, rfl, (show (0 : Int) < 2147483647 by decide), ?_⟩⟩⟩⟩
    refine ⟨.ref g.at_, rfl, g.at_, _, _, 1, rfl, rfl, hh, rfl, ?_⟩
    refine ⟨.ref g.at_, rfl, .inl ⟨g.at_, _, 1, .int ((g.t * 48271 + 11) % 2147483647), rfl, rfl, SqL.of upd_same, rfl, _, 7, rfl, rfl, (show (0 : Int) < 7 ∧ (7 : Int) < 1073741824 by decide), .inl ⟨_, rfl, .int m, rfl, _, m, rfl, rfl, m0, ?_⟩⟩⟩
    exact q _ F0 _ (take_post (g' := { g with t := (g.t * 48271 + 11) % 2147483647 }) hs hf ⟨_, hh⟩ rfl rfl (by have := tkG_ok hok m0; unfold tkG at this; simpa only [if_neg h] using this) ho) mk_int
theorem ok_law_state (tx : Tx K mg A) : ∃ fd, FnOk P w K mg base (L2.CX P w) 1 A.f_law_state fd ["script"] (spState K) ∧ PySem.W.keepIn K (.ref A.f_law_state) = true ∧ Binds K fd ["script"] [] := by
  obtain ⟨fd, F, b⟩ := tx.f_law_state
  refine ⟨fd, F.okX (k := 0) sc_law_state (fun vs H Q E ⟨a, ns, e, _⟩ => by rw [e]; rfl) (fun cdv A' outer s H vs Q E hr ⟨a, ns, e, hSq, q⟩ => ?_), F.kp, b⟩
  subst e
  have hu := hr.units
  refine ⟨_, pss_cons (ps_set (i := 1) sc_law_state.nd rfl (by first | exact Or.inl rfl | exact Or.inr rfl) pe_int)
    (pss_cons (ps_set (i := 2) sc_law_state.nd rfl (by first | exact Or.inl rfl | exact Or.inr rfl) pe_int)
    (pss_cons (ps_for (passes_of rfl) rfl (pi_list (pe_slice sl_list (pv 0) po_none (po_some pe_int))) (pg_name (i := 3) sc_law_state.nd rfl (by first | exact Or.inl rfl | exact Or.inr rfl))
      (pss_cons (ps_set (i := 1) sc_law_state.nd rfl (by first | exact Or.inl rfl | exact Or.inr rfl) (pe_op op_add (pe_op op_mulA (pv 1) pe_int) (pe_callB call_abs rfl tx.m_abs (by decide +kernel) (pa_cons (pv 3) pa_nil))))
      (pss_one (ps_set (i := 2) sc_law_state.nd rfl (by first | exact Or.inl rfl | exact Or.inr rfl) (pe_op op_mod (pe_callTy call_int1 rfl tx.m_int (by decide +kernel) (pa_cons (pe_op op_add (pe_op op_mulA (pv 2) pe_int) (pv 3)) pa_nil)) pe_int)))))
    (pss_one (ps_ret (pe_lst (pa_cons (pv 1) (pa_cons (pe_ifExp (pt_cmpR (op_neD hu) (pv 2) pe_int (nomark _)) (pv 2) pe_int) pa_nil))))))), ?_⟩
  refine ⟨.ref a, rfl, 63, rfl, a, _, rfl, hSq, fun c nc => ?_⟩
  refine ⟨c, rfl, ⟨_, SqL.of upd_same⟩, ?_⟩
  refine for_list (fun i σ H2 => ∃ y3 s t, σ = [some (.ref a), some (.int s), some (.int t), y3] ∧ 0 ≤ s ∧ 0 ≤ t ∧ t < 2147483647 ∧ H2 c = some (.lst (cutV (ns.map V.int) none (some 63)))) ⟨none, 0, 1, rfl, by decide, by decide, by decide, upd_same⟩
    (fun i σ H2 hi ⟨y3, s1, t1, e, h1, h2, h3, h4⟩ => SqL.of h4) (fun i x σ H2 hx ⟨y3, s1, t1, e, h1, h2, h3, h4⟩ => ?_) (fun σ H2 ⟨y3, s1, t1, e, h1, h2, h3, h4⟩ => ?_)
  · subst e
    have hm : x ∈ ns.map V.int := List.mem_of_mem_drop (List.mem_of_mem_take (List.mem_of_getElem? hx))
    obtain ⟨z, _, rfl⟩ := List.mem_map.mp hm
    refine ⟨.int s1, rfl, .inl ⟨s1, 1000003, rfl, rfl, mulOk_C (by simp [mulOk]), .int z, rfl, z, rfl, _, _, rfl, rfl, ?_⟩⟩
    refine ⟨.int t1, rfl, .inl ⟨t1, 48271, rfl, rfl, mulOk_C (by simp [mulOk]), .int z, rfl, _, _, rfl, rfl, .inl ⟨_, rfl, _, 2147483647, rfl, rfl, (show (0 : Int) < 2147483647 by decide), ?_⟩⟩⟩
    refine ⟨_, _, _, rfl, ?_, Int.emod_nonneg _ (by decide), Int.emod_lt_of_pos _ (by decide), h4⟩
    split <;> omega
  · subst e
    refine ⟨.int s1, rfl, .int t1, rfl, .int t1, .int 1973665155, .int _, .int _, rfl, rfl, _, rfl, ?_⟩
    by_cases ht : (!PyData.eqv (PyData.int t1) (PyData.int 1973665155)) = true
    · dsimp only
      rw [if_pos ht]
      exact ⟨.int t1, rfl, (show (2 : Nat) ≤ sizeLine by decide), fun p np => q s1 t1 p _ h1 h2 h3 upd_same⟩
    · dsimp only
      rw [if_neg ht]
      exact ⟨(show (2 : Nat) ≤ sizeLine by decide), fun p np => q s1 7 p _ h1 (by decide) (by decide) upd_same⟩
theorem ok_law_word (tx : Tx K mg A) : Ok P w K mg base (TT K A) 2 A.f_law_word 3 F_law_word := by
  obtain ⟨fd, F, b⟩ := tx.f_law_word
  refine ⟨fd, _, fn_mk (T := TT K A) (S := B_law_word) (own := []) F sc_law_word rfl rfl (fun cdv A' outer s H E Z hZ hr => ?_), F.kp, b⟩
  have hu := hr.units
  have hu1 := hu_of hr
  have hu9 := room9 hr
  exact (ss_one (s_ret hZ (x_join (x_str []) (XF.toE (f_lc (ownN := [("k", 3)]) rfl sc_law_word.nd (i_rng1 rfl tx.m_range (a_cons (x_var (pv 2) (by decide)) a_nil)) (blkOk_by (by first | (show blkC ["state", "size", "length", "k"] (defScope s_law_word) _ _ = true; decide +kernel) | exact rfl)) (fun _ _ _ _ _ => (g_name sc_law_word.nd rfl (by first | exact Or.inl rfl | exact Or.inr rfl))) (fun _ _ _ _ _ => ts_nil) (fun _ _ _ _ _ => (x_ix hu1 (x_str [97, 98, 99, 100]) (x_callO (ok_law_take tx) rfl (hr.mono (by decide)) rfl tx.g_law_take takes_none5 (a_cons (x_var (pv 0) (by decide)) (a_cons (x_var (pv 1) (by decide)) a_nil)) (al_cons (al_cons al_nil))))) (by decide) (by decide))))))
theorem ok_law_places (tx : Tx K mg A) : Ok P w K mg base (TT K A) 1 A.f_law_places 2 F_law_places := by
  obtain ⟨fd, F, b⟩ := tx.f_law_places
  refine ⟨fd, _, fn_mk (T := TT K A) (S := B_law_places) (own := []) F sc_law_places rfl rfl (fun cdv A' outer s H E Z hZ hr => ?_), F.kp, b⟩
  have hu := hr.units
  have hu1 := hu_of hr
  have hu9 := room9 hr
  exact (ss_one (s_ret hZ (XF.toE (f_lc (ownN := [("k", 2)]) rfl sc_law_places.nd (i_rng1 rfl tx.m_range (a_cons (x_bin op_addA bin_add (x_bin op_sub bin_sub (x_cb call_lenA cl_len rfl tx.m_len PySem.boot_len (a_cons (x_var (pv 0) (by decide)) a_nil)) (x_cb call_lenA cl_len rfl tx.m_len PySem.boot_len (a_cons (x_var (pv 1) (by decide)) a_nil))) x_int) a_nil)) (blkOk_by (by first | (show blkC ["word", "piece", "k"] (defScope s_law_places) _ _ = true; decide +kernel) | exact rfl)) (fun _ _ _ _ _ => (g_name sc_law_places.nd rfl (by first | exact Or.inl rfl | exact Or.inr rfl))) (fun _ _ _ _ _ => (ts_one (xt_cmp (op_eqD hu) bin_eq (nomark _) (x_slice (x_var (pv 0) (by decide)) (o_some (x_var (pv 2) (by decide))) (o_some (x_bin op_addA bin_add (x_var (pv 2) (by decide)) (x_cb call_lenA cl_len rfl tx.m_len PySem.boot_len (a_cons (x_var (pv 1) (by decide)) a_nil))))) (x_var (pv 1) (by decide))))) (fun _ _ _ _ _ => (x_var (pv 2) (by decide))) (by decide) (by decide)))))
theorem ok_is_integer (tx : Tx K mg A) : Ok P w K mg base (TT K A) 1 A.f_is_integer 1 F_is_integer := by
  obtain ⟨fd, F, b⟩ := tx.f_is_integer
  refine ⟨fd, _, fn_mk (T := TT K A) (S := B_is_integer) (own := []) F sc_is_integer rfl rfl (fun cdv A' outer s H E Z hZ hr => ?_), F.kp, b⟩
  have hu := hr.units
  have hu1 := hu_of hr
  have hu9 := room9 hr
  exact (ss_one (s_ret hZ (x_and (x_isi .int rfl tx.m_isinstance (by decide +kernel) rfl tx.m_int (by decide +kernel) (x_var (pv 0) (by decide))) (x_one (x_not (x_isi .bool rfl tx.m_isinstance (by decide +kernel) rfl tx.m_bool (by decide +kernel) (x_var (pv 0) (by decide))))))))
theorem ok_check_from (tx : Tx K mg A) : Ok P w K mg base (TT K A) 2 A.f_check_from 3 F_check_from := by
  obtain ⟨fd, F, b⟩ := tx.f_check_from
  refine ⟨fd, _, fn_mk (T := TT K A) (S := B_check_from) (own := []) F sc_check_from rfl rfl (fun cdv A' outer s H E Z hZ hr => ?_), F.kp, b⟩
  have hu := hr.units
  have hu1 := hu_of hr
  have hu9 := room9 hr
  exact (ss_one (s_if (XW.t (xw_or (xt_not (xt_val (x_callO (ok_is_integer tx) rfl (hr.mono (by decide)) rfl tx.g_is_integer (takes_of rfl rfl rfl rfl) (a_cons (x_var (pv 0) (by decide)) a_nil) (al_cons al_nil)))) (xw_or1 (xt_not (xt_chain op_leA op_leA bin_le bin_le (x_var (pv 1) (by decide)) (x_var (pv 0) (by decide)) (x_var (pv 2) (by decide))))))) (ss_one (s_raise rfl (takes_of rfl rfl rfl rfl) (pmk_own PySem.F.excBase_ValueError tx.x_Malformed tx.g_Malformed tx.k_Malformed (raises_own tx.b_Malformed tx.y_Malformed) rfl) (fun _ _ _ q => q) rfl)) ss_nil))
theorem ok_is_word (tx : Tx K mg A) : Ok P w K mg base (TT K A) 1 A.f_is_word 2 F_is_word := by
  obtain ⟨fd, F, b⟩ := tx.f_is_word
  refine ⟨fd, _, fn_mk (T := TT K A) (S := B_is_word) (own := []) F sc_is_word rfl rfl (fun cdv A' outer s H E Z hZ hr => ?_), F.kp, b⟩
  have hu := hr.units
  have hu1 := hu_of hr
  have hu9 := room9 hr
  exact (ss_one (s_ret hZ (x_and (x_isi .str rfl tx.m_isinstance (by decide +kernel) rfl tx.m_str (by decide +kernel) (x_var (pv 0) (by decide))) (x_and (x_cmp op_leA bin_le (nomark _) (x_cb call_lenA cl_len rfl tx.m_len PySem.boot_len (a_cons (x_var (pv 0) (by decide)) a_nil)) x_int) (x_one (x_cb (cr_all rfl) cl_all rfl tx.m_all (by decide +kernel) (a_cons (XF.toE (f_lc (ownN := [("c", 2)]) rfl sc_is_word.nd (i_seq (x_var (pv 0) (by decide))) (blkOk_by (by first | (show blkC ["value", "size", "c"] (defScope s_is_word) _ _ = true; decide +kernel) | exact rfl)) (fun _ _ _ _ _ => (g_name sc_is_word.nd rfl (by first | exact Or.inl rfl | exact Or.inr rfl))) (fun _ _ _ _ _ => ts_nil) (fun _ _ _ _ _ => (x_cmp (op_inA hu1) bin_in (by with_unfolding_all rfl) (x_var (pv 2) (by decide)) (x_slice (x_gstr [97, 98, 99, 100] rfl tx.c_LETTERS.choose_spec.1 tx.c_LETTERS.choose_spec.2) o_none (o_some (x_var (pv 1) (by decide)))))) (by decide) (by decide))) a_nil)))))))
theorem ok_check_word (tx : Tx K mg A) : Ok P w K mg base (TT K A) 3 A.f_check_word 2 F_check_word := by
  obtain ⟨fd, F, b⟩ := tx.f_check_word
  refine ⟨fd, _, fn_mk (T := TT K A) (S := B_check_word) (own := []) F sc_check_word rfl rfl (fun cdv A' outer s H E Z hZ hr => ?_), F.kp, b⟩
  have hu := hr.units
  have hu1 := hu_of hr
  have hu9 := room9 hr
  exact (ss_cons (s_expr (x_callO (ok_check_from tx) rfl (hr.mono (by decide)) rfl tx.g_check_from (takes_of rfl rfl rfl rfl) (a_cons (x_var (pv 1) (by decide)) (a_cons x_int (a_cons x_int a_nil))) (al_cons (al_cons (al_cons al_nil))))) (ss_one (s_if (xt_not (xt_val (x_callO (ok_is_word tx) rfl (hr.mono (by decide)) rfl tx.g_is_word (takes_of rfl rfl rfl rfl) (a_cons (x_var (pv 0) (by decide)) (a_cons (x_var (pv 1) (by decide)) a_nil)) (al_cons (al_cons al_nil))))) (ss_one (s_raise rfl (takes_of rfl rfl rfl rfl) (pmk_own PySem.F.excBase_ValueError tx.x_Malformed tx.g_Malformed tx.k_Malformed (raises_own tx.b_Malformed tx.y_Malformed) rfl) (fun _ _ _ q => q) rfl)) ss_nil)))
theorem ok_return_words (tx : Tx K mg A) : Ok P w K mg base (TT K A) 4 A.f_return_words 2 F_return_words := by
  obtain ⟨fd, F, b⟩ := tx.f_return_words
  refine ⟨fd, _, fn_mk (T := TT K A) (S := B_return_words) (own := []) F sc_return_words rfl rfl (fun cdv A' outer s H E Z hZ hr => ?_), F.kp, b⟩
  have hu := hr.units
  have hu1 := hu_of hr
  have hu9 := room9 hr
  exact (ss_cons (s_expr (x_callO (ok_check_word tx) rfl (hr.mono (by decide)) rfl tx.g_check_word (takes_of rfl rfl rfl rfl) (a_cons (x_var (pv 0) (by decide)) (a_cons x_int a_nil)) (al_cons (al_cons al_nil)))) (ss_cons (s_if (XW.t (xw_or (xt_not (xt_val (x_isi .str rfl tx.m_isinstance (by decide +kernel) rfl tx.m_str (by decide +kernel) (x_var (pv 1) (by decide))))) (xw_or (xt_cmp (op_eqD hu) bin_eq (nomark _) (x_var (pv 1) (by decide)) (x_str [])) (xw_or1 (xt_not (xt_val (x_callO (ok_is_word tx) rfl (hr.mono (by decide)) rfl tx.g_is_word (takes_of rfl rfl rfl rfl) (a_cons (x_var (pv 1) (by decide)) (a_cons x_int a_nil)) (al_cons (al_cons al_nil))))))))) (ss_one (s_raise rfl (takes_of rfl rfl rfl rfl) (pmk_own PySem.F.excBase_ValueError tx.x_Malformed tx.g_Malformed tx.k_Malformed (raises_own tx.b_Malformed tx.y_Malformed) rfl) (fun _ _ _ q => q) rfl)) ss_nil) (ss_cons (s_setL (i := 2) (ownN := [("k", 6)]) rfl sc_return_words.nd rfl rfl (sw_true rfl rfl rfl (by decide +kernel)) (by decide) (i_rng1 rfl tx.m_range (a_cons (x_bin op_addA bin_add (x_bin op_sub bin_sub (x_cb call_lenA cl_len rfl tx.m_len PySem.boot_len (a_cons (x_var (pv 0) (by decide)) a_nil)) (x_cb call_lenA cl_len rfl tx.m_len PySem.boot_len (a_cons (x_var (pv 1) (by decide)) a_nil))) x_int) a_nil)) (blkOk_by (by first | (show blkC ["word", "part", "places", "found", "a", "b", "k"] (defScope s_return_words) _ _ = true; decide +kernel) | exact rfl)) (fun _ _ _ _ _ => (g_name sc_return_words.nd rfl (by first | exact Or.inl rfl | exact Or.inr rfl))) (fun _ _ _ _ _ => (ts_one (xt_cmp (op_eqD hu) bin_eq (nomark _) (x_slice (x_var (pv 0) (by decide)) (o_some (x_var (pv 6) (by decide))) (o_some (x_bin op_addA bin_add (x_var (pv 6) (by decide)) (x_cb call_lenA cl_len rfl tx.m_len PySem.boot_len (a_cons (x_var (pv 1) (by decide)) a_nil))))) (x_var (pv 1) (by decide))))) (fun _ _ _ _ _ => (x_var (pv 6) (by decide))) (by decide) (by decide)) (ss_cons (s_setF (i := 3) sc_return_words.nd rfl (by first | exact Or.inl rfl | exact Or.inr rfl) (f_lst a_nil) (by decide)) (ss_cons (s_kill (is := [4, 5]) (s_pre (own1 := [3]) (s_for (passes_of rfl) rfl (i_zipG rfl tx.m_zip (a_cons (x_var (pv 2) (by decide)) (a_cons (x_slice (x_var (pv 2) (by decide)) (o_some x_int) o_none) a_nil))) (g_tup rfl (gs_cons (g_name sc_return_words.nd rfl (by first | exact Or.inl rfl | exact Or.inr rfl)) (gs_cons (g_name sc_return_words.nd rfl (by first | exact Or.inl rfl | exact Or.inr rfl)) (gs_nil (is := []))))) (ss_kill (is := [4, 5]) (ss_one (s_if (xt_flat (xt_cmp (op_ninA hu1) bin_nin (by with_unfolding_all rfl) (x_slice (x_var (pv 0) (by decide)) (o_some (x_var (pv 4) (by decide))) (o_some (x_var (pv 5) (by decide)))) (x_var (pv 3) (by decide)))) (ss_one (s_app (i := 3) rfl (by first | exact Or.inl rfl | exact Or.inr (Or.inl rfl) | exact Or.inr (Or.inr rfl)) (by decide) (x_slice (x_var (pv 0) (by decide)) (o_some (x_var (pv 4) (by decide))) (o_some (x_var (pv 5) (by decide)))))) ss_nil)) (by decide)) (by decide)) (by decide)) (by decide)) (ss_one (s_pre (own1 := []) (s_ret hZ (x_ct PPT.call_tupleF cl_tuple rfl tx.m_tuple (by decide +kernel) (a_cons (x_var (pv 3) (by decide)) a_nil))) (by decide))))))))
theorem ok_law_is_whole (tx : Tx K mg A) : Ok P w K mg base (TT K A) 1 A.f_law_is_whole 1 F_law_is_whole := by
  obtain ⟨fd, F, b⟩ := tx.f_law_is_whole
  refine ⟨fd, _, fn_mk (T := TT K A) (S := B_law_is_whole) (own := []) F sc_law_is_whole rfl rfl (fun cdv A' outer s H E Z hZ hr => ?_), F.kp, b⟩
  have hu := hr.units
  have hu1 := hu_of hr
  have hu9 := room9 hr
  exact (ss_one (s_ret hZ (x_and (x_isi .int rfl tx.m_isinstance (by decide +kernel) rfl tx.m_int (by decide +kernel) (x_var (pv 0) (by decide))) (x_one (x_not (x_isi .bool rfl tx.m_isinstance (by decide +kernel) rfl tx.m_bool (by decide +kernel) (x_var (pv 0) (by decide))))))))
theorem or_law_same (tx : Tx K mg A) : ∀ n : Nat, Ok P w K mg base (TT K A) (2 + n) A.f_law_same 2 (R_law_same n)
  | 0 => by
    obtain ⟨fd, F, b⟩ := tx.f_law_same
    exact ok_bad (T := TT K A) F b sc_law_same
  | n + 1 => by
    obtain ⟨fd, F, b⟩ := tx.f_law_same
    have oSelf := or_law_same tx n
    refine ⟨fd, _, fn_mk (T := TT K A) (S := B_law_same (R_law_same n)) (own := []) F sc_law_same rfl rfl (fun cdv A' outer s H E Z hZ hr => ?_), F.kp, b⟩
    have hu := hr.units
    have hu1 := hu_of hr
    have hu9 := room9 hr
    have hr0 := hr.mono (Nat.le_add_right 2 n)
    exact (ss_cons (s_if (xt_val (x_isi .bool rfl tx.m_isinstance (by decide +kernel) rfl tx.m_bool (by decide +kernel) (x_var (pv 1) (by decide)))) (ss_one (s_ret hZ (x_and (x_isi .bool rfl tx.m_isinstance (by decide +kernel) rfl tx.m_bool (by decide +kernel) (x_var (pv 0) (by decide))) (x_one (x_cmp (op_eqD hu) bin_eq (nomark _) (x_var (pv 0) (by decide)) (x_var (pv 1) (by decide))))))) ss_nil) (ss_cons (s_if (xt_val (x_isi .tuple rfl tx.m_isinstance (by decide +kernel) rfl tx.m_tuple (by decide +kernel) (x_var (pv 1) (by decide)))) (ss_one (s_ret hZ (x_and (x_isi .tuple rfl tx.m_isinstance (by decide +kernel) rfl tx.m_tuple (by decide +kernel) (x_var (pv 0) (by decide))) (x_and (x_cmp (op_eqD hu) bin_eq (nomark _) (x_cb call_lenA cl_len rfl tx.m_len PySem.boot_len (a_cons (x_var (pv 0) (by decide)) a_nil)) (x_cb call_lenA cl_len rfl tx.m_len PySem.boot_len (a_cons (x_var (pv 1) (by decide)) a_nil))) (x_one (x_cb (cr_all rfl) cl_all rfl tx.m_all (by decide +kernel) (a_cons (XF.toE (f_lc (ownN := [("k", 2)]) rfl sc_law_same.nd (i_rng1 rfl tx.m_range (a_cons (x_cb call_lenA cl_len rfl tx.m_len PySem.boot_len (a_cons (x_var (pv 1) (by decide)) a_nil)) a_nil)) (blkOk_by (by first | (show blkC ["one", "two", "k"] (defScope s_law_same) _ _ = true; decide +kernel) | exact rfl)) (fun _ _ _ _ _ => (g_name sc_law_same.nd rfl (by first | exact Or.inl rfl | exact Or.inr rfl))) (fun _ _ _ _ _ => ts_nil) (fun _ _ _ _ _ => (x_callO oSelf rfl hr rfl tx.g_law_same takes_none5 (a_cons (x_ix hu1 (x_var (pv 0) (by decide)) (x_var (pv 2) (by decide))) (a_cons (x_ix hu1 (x_var (pv 1) (by decide)) (x_var (pv 2) (by decide))) a_nil)) (al_cons (al_cons al_nil)))) (by decide) (by decide))) a_nil))))))) ss_nil) (ss_cons (s_if (xt_val (x_isi .list rfl tx.m_isinstance (by decide +kernel) rfl tx.m_list (by decide +kernel) (x_var (pv 1) (by decide)))) (ss_one (s_ret hZ (x_and (x_isi .list rfl tx.m_isinstance (by decide +kernel) rfl tx.m_list (by decide +kernel) (x_var (pv 0) (by decide))) (x_one (x_callO oSelf rfl hr rfl tx.g_law_same (takes_of rfl rfl rfl rfl) (a_cons (x_ct PPT.call_tupleF cl_tuple rfl tx.m_tuple (by decide +kernel) (a_cons (x_var (pv 0) (by decide)) a_nil)) (a_cons (x_ct PPT.call_tupleF cl_tuple rfl tx.m_tuple (by decide +kernel) (a_cons (x_var (pv 1) (by decide)) a_nil)) a_nil)) (al_cons (al_cons al_nil))))))) ss_nil) (ss_cons (s_if (xt_val (x_isi .str rfl tx.m_isinstance (by decide +kernel) rfl tx.m_str (by decide +kernel) (x_var (pv 1) (by decide)))) (ss_one (s_ret hZ (x_and (x_isi .str rfl tx.m_isinstance (by decide +kernel) rfl tx.m_str (by decide +kernel) (x_var (pv 0) (by decide))) (x_one (x_cmp (op_eqD hu) bin_eq (nomark _) (x_var (pv 0) (by decide)) (x_var (pv 1) (by decide))))))) ss_nil) (ss_cons (s_if (xt_isN (x_var (pv 1) (by decide))) (ss_one (s_ret hZ (x_isN (x_var (pv 0) (by decide))))) ss_nil) (ss_one (s_ret hZ (x_and (x_callO (ok_law_is_whole tx) rfl (hr0.mono (by decide)) rfl tx.g_law_is_whole (takes_of rfl rfl rfl rfl) (a_cons (x_var (pv 0) (by decide)) a_nil) (al_cons al_nil)) (x_one (x_cmp (op_eqD hu) bin_eq (nomark _) (x_var (pv 0) (by decide)) (x_var (pv 1) (by decide))))))))))))
theorem ok_law_same (tx : Tx K mg A) : Ok P w K mg base (TT K A) 18 A.f_law_same 2 F_law_same := or_law_same tx 16
theorem ok_derived_word (tx : Tx K mg A) : Ok P w K mg base (TT K A) 5 A.f_derived_word 2 F_derived_word := by
  obtain ⟨fd, F, b⟩ := tx.f_derived_word
  refine ⟨fd, _, fn_mk (T := TT K A) (S := B_derived_word) (own := []) F sc_derived_word rfl rfl (fun cdv A' outer s H E Z hZ hr => ?_), F.kp, b⟩
  have hu := hr.units
  have hu1 := hu_of hr
  have hu9 := room9 hr
  exact (ss_cons (s_set (i := 2) sc_derived_word.nd rfl (by first | exact Or.inl rfl | exact Or.inr rfl) (x_callO (ok_return_words tx) rfl (hr.mono (by decide)) rfl tx.g_return_words (takes_of rfl rfl rfl rfl) (a_cons (x_var (pv 0) (by decide)) (a_cons (x_var (pv 1) (by decide)) a_nil)) (al_cons (al_cons al_nil))) (by decide)) (ss_cons (s_if (xt_cmp op_gtA bin_gt (nomark _) (x_cb call_lenA cl_len rfl tx.m_len PySem.boot_len (a_cons (x_var (pv 2) (by decide)) a_nil)) x_int) (ss_one (s_raiseP rfl (takes_of rfl rfl rfl rfl) tx.oc_Refused tx.xn_Refused tx.iC_Refused tx.tI_Refused (pay_Refused tx).choose_spec.choose_spec.1 (pay_Refused tx).choose_spec.choose_spec.2 (hr.mono (by decide)) rfl tx.g_Refused (x_str [109, 97, 110, 121]) rfl rfl)) ss_nil) (ss_cons (s_setL (i := 3) (ownN := [("k", 4)]) rfl sc_derived_word.nd rfl rfl (sw_true rfl rfl rfl (by decide +kernel)) (by decide) (i_rng1 rfl tx.m_range (a_cons (x_bin op_addA bin_add (x_bin op_sub bin_sub (x_cb call_lenA cl_len rfl tx.m_len PySem.boot_len (a_cons (x_var (pv 0) (by decide)) a_nil)) (x_cb call_lenA cl_len rfl tx.m_len PySem.boot_len (a_cons (x_var (pv 1) (by decide)) a_nil))) x_int) a_nil)) (blkOk_by (by first | (show blkC ["word", "part", "words", "places", "k", "a", "b"] (defScope s_derived_word) _ _ = true; decide +kernel) | exact rfl)) (fun _ _ _ _ _ => (g_name sc_derived_word.nd rfl (by first | exact Or.inl rfl | exact Or.inr rfl))) (fun _ _ _ _ _ => (ts_one (xt_cmp (op_eqD hu) bin_eq (nomark _) (x_slice (x_var (pv 0) (by decide)) (o_some (x_var (pv 4) (by decide))) (o_some (x_bin op_addA bin_add (x_var (pv 4) (by decide)) (x_cb call_lenA cl_len rfl tx.m_len PySem.boot_len (a_cons (x_var (pv 1) (by decide)) a_nil))))) (x_var (pv 1) (by decide))))) (fun _ _ _ _ _ => (x_var (pv 4) (by decide))) (by decide) (by decide)) (ss_one (s_ret hZ (x_join (x_str []) (XF.toE (f_lc (ownN := [("a", 5), ("b", 6)]) rfl sc_derived_word.nd (i_zipG rfl tx.m_zip (a_cons (x_var (pv 3) (by decide)) (a_cons (x_slice (x_var (pv 3) (by decide)) (o_some x_int) o_none) a_nil))) (blkOk_by (by first | (show blkC ["word", "part", "words", "places", "k", "a", "b"] (defScope s_derived_word) _ _ = true; decide +kernel) | exact rfl)) (fun _ _ _ _ _ => (g_tup rfl (gs_cons (g_name sc_derived_word.nd rfl (by first | exact Or.inl rfl | exact Or.inr rfl)) (gs_cons (g_name sc_derived_word.nd rfl (by first | exact Or.inl rfl | exact Or.inr rfl)) (gs_nil (is := [])))))) (fun _ _ _ _ _ => ts_nil) (fun _ _ _ _ _ => (x_ix hu1 (x_gstr [97, 98, 99, 100] rfl tx.c_LETTERS.choose_spec.1 tx.c_LETTERS.choose_spec.2) (x_idx (x_var (pv 2) (by decide)) (x_slice (x_var (pv 0) (by decide)) (o_some (x_var (pv 5) (by decide))) (o_some (x_var (pv 6) (by decide))))))) (by decide) (by decide)))))))))
theorem tb_1 (tx : Tx K mg A) : Tbl P w K mg base (TT K A) 5 1 tbl_1 := tbl_of fun n fA e => match n, e with
  | 0, e => .inr fun _ _ _ => rfl
  | 1, e => .inr fun _ _ _ => rfl
  | k + 2, e => by cases e
theorem tb_2 (tx : Tx K mg A) : Tbl P w K mg base (TT K A) 5 2 tbl_2 := tbl_of fun n fA e => match n, e with
  | 0, e => by cases e; exact .inl ((ok_derived_word tx).mono (by decide))
  | 1, e => by cases e; exact .inl ((ok_return_words tx).mono (by decide))
  | k + 2, e => by cases e
theorem tb_3 (tx : Tx K mg A) : Tbl P w K mg base (TT K A) 5 3 tbl_3 := tbl_of fun n fA e => match n, e with
  | 0, e => .inr fun _ _ _ => rfl
  | 1, e => .inr fun _ _ _ => rfl
  | k + 2, e => by cases e
theorem tb_4 (tx : Tx K mg A) : Tbl P w K mg base (TT K A) 5 4 tbl_4 := tbl_of fun n fA e => match n, e with
  | 0, e => .inr fun _ _ _ => rfl
  | 1, e => .inr fun _ _ _ => rfl
  | k + 2, e => by cases e
theorem ok_law_told (tx : Tx K mg A) : Ok P w K mg base (TT K A) 6 A.f_law_told 2 F_law_told := by
  obtain ⟨fd, F, b⟩ := tx.f_law_told
  refine ⟨fd, _, fn_mk (T := TT K A) (S := B_law_told) (own := []) F sc_law_told rfl rfl (fun cdv A' outer s H E Z hZ hr => ?_), F.kp, b⟩
  have hu := hr.units
  have hu1 := hu_of hr
  have hu9 := room9 hr
  exact (ss_one (s_try hZ rfl rfl (takes_of rfl rfl rfl rfl) (fun W' pn' xe' tk' hp' => (ss_cons (s_if (xt_cmp (op_eqD hu) bin_eq (nomark _) (x_cb call_lenA cl_len rfl tx.m_len PySem.boot_len (a_cons (x_var (pv 1) (by decide)) a_nil)) x_int) (ss_one (s_ret hZ (x_tup (a_cons (x_str [116, 111, 108, 100]) (a_cons (x_callV (tb_1 tx) (hr.mono (by decide)) rfl (by first | exact Or.inl rfl | exact Or.inr (Or.inl rfl) | exact Or.inr (Or.inr rfl)) (by decide) tk' (a_cons (x_ix hu1 (x_var (pv 1) (by decide)) x_int) a_nil) (al_cons al_nil) (nx_ix nx_nil)) a_nil))))) ss_nil) (ss_cons (s_if (xt_cmp (op_eqD hu) bin_eq (nomark _) (x_cb call_lenA cl_len rfl tx.m_len PySem.boot_len (a_cons (x_var (pv 1) (by decide)) a_nil)) x_int) (ss_one (s_ret hZ (x_tup (a_cons (x_str [116, 111, 108, 100]) (a_cons (x_callV (tb_2 tx) (hr.mono (by decide)) rfl (by first | exact Or.inl rfl | exact Or.inr (Or.inl rfl) | exact Or.inr (Or.inr rfl)) (by decide) tk' (a_cons (x_ix hu1 (x_var (pv 1) (by decide)) x_int) (a_cons (x_ix hu1 (x_var (pv 1) (by decide)) x_int) a_nil)) (al_cons (al_cons al_nil)) (nx_ix (nx_ix nx_nil))) a_nil))))) ss_nil) (ss_cons (s_if (xt_cmp (op_eqD hu) bin_eq (nomark _) (x_cb call_lenA cl_len rfl tx.m_len PySem.boot_len (a_cons (x_var (pv 1) (by decide)) a_nil)) x_int) (ss_one (s_ret hZ (x_tup (a_cons (x_str [116, 111, 108, 100]) (a_cons (x_callV (tb_3 tx) (hr.mono (by decide)) rfl (by first | exact Or.inl rfl | exact Or.inr (Or.inl rfl) | exact Or.inr (Or.inr rfl)) (by decide) tk' (a_cons (x_ix hu1 (x_var (pv 1) (by decide)) x_int) (a_cons (x_ix hu1 (x_var (pv 1) (by decide)) x_int) (a_cons (x_ix hu1 (x_var (pv 1) (by decide)) x_int) a_nil))) (al_cons (al_cons (al_cons al_nil))) (nx_ix (nx_ix (nx_ix nx_nil)))) a_nil))))) ss_nil) (ss_one (s_ret hZ (x_tup (a_cons (x_str [116, 111, 108, 100]) (a_cons (x_callV (tb_4 tx) (hr.mono (by decide)) rfl (by first | exact Or.inl rfl | exact Or.inr (Or.inl rfl) | exact Or.inr (Or.inr rfl)) (by decide) tk' (a_cons (x_ix hu1 (x_var (pv 1) (by decide)) x_int) (a_cons (x_ix hu1 (x_var (pv 1) (by decide)) x_int) (a_cons (x_ix hu1 (x_var (pv 1) (by decide)) x_int) (a_cons (x_ix hu1 (x_var (pv 1) (by decide)) x_int) a_nil)))) (al_cons (al_cons (al_cons (al_cons al_nil)))) (nx_ix (nx_ix (nx_ix (nx_ix nx_nil))))) a_nil))))))))) (.bare (x := "Malformed") ⟨rfl, by decide, .inl tx.g_Malformed⟩ (tx.m_Malformed) (fun _ _ _ _ _ _ _ => (ss_one (s_ret hZ (x_tup (a_cons (x_str [109, 97, 108, 102, 111, 114, 109, 101, 100]) (a_cons x_non a_nil)))))) (.named (x := "Refused") ⟨rfl, by decide, .inl tx.g_Refused⟩ (tx.m_Refused) rfl sc_law_told.nd rfl rfl (fun _ _ _ _ hz_ hf_ => (ss_one (s_ret hZ (x_tup (a_cons (x_str [114, 101, 102, 117, 115, 101, 100]) (a_cons (x_xfld tx.xf_Refused tx.xn_Refused hz_ hf_ rfl rfl (x_var (pv 2) (by decide))) a_nil)))))) .nil)) rfl))
theorem okI_Growing_init (tx : Tx K mg A) : OkI P w K mg base (TT K A) 2 A.f_Growing_init 2 2 F_Growing_init := by
  obtain ⟨fd, F, b⟩ := tx.f_Growing_init
  refine ⟨fd, _, fnI_mk (T := TT K A) (J := J_Growing_init) F sc_Growing_init rfl rfl (by decide) (show (["size", "images"] : List Str).length ≤ 100 by decide) (fun cdv A' outer s H E hr F0 H00 on at_ a C dx hC => ?_) (fun a ds g _ h => initF_hF _ _ _ a ds g h), b⟩
  have hu := hr.units
  have hu1 := hu_of hr
  have hu9 := room9 hr
  obtain rfl : A.c_Growing = C := Option.some.inj hC
  exact (j_seq (ob := []) (fun Z hZ => (s_if (XW.t (xw_or (xt_not (xt_val (x_isi .tuple rfl tx.m_isinstance (by decide +kernel) rfl tx.m_tuple (by decide +kernel) (x_var (pv 1) (by decide))))) (xw_or1 (xt_not (xt_chain op_leA op_leA bin_le bin_le x_int (x_cb call_lenA cl_len rfl tx.m_len PySem.boot_len (a_cons (x_var (pv 1) (by decide)) a_nil)) x_int))))) (ss_one (s_raise rfl (takes_of rfl rfl rfl rfl) (pmk_own PySem.F.excBase_ValueError tx.x_Malformed tx.g_Malformed tx.k_Malformed (raises_own tx.b_Malformed tx.y_Malformed) rfl) (fun _ _ _ q => q) rfl)) ss_nil)) (j_seq (ob := []) (fun Z hZ => (s_if (xt_not (xt_val (x_cb (cr_all rfl) cl_all rfl tx.m_all (by decide +kernel) (a_cons (XF.toE (f_lc (ownN := [("own", 2)]) rfl sc_Growing_init.nd (i_seq (x_var (pv 1) (by decide))) (blkOk_by (by first | (show blkC ["self", "images", "own"] (defScope s_Growing_init) _ _ = true; decide +kernel) | exact rfl)) (fun _ _ _ _ _ => (g_name sc_Growing_init.nd rfl (by first | exact Or.inl rfl | exact Or.inr rfl))) (fun _ _ _ _ _ => ts_nil) (fun _ _ _ _ _ => (x_and (x_callO (ok_is_word tx) rfl (hr.mono (by decide)) rfl tx.g_is_word takes_none5 (a_cons (x_var (pv 2) (by decide)) (a_cons (x_cb call_lenA cl_len rfl tx.m_len PySem.boot_len (a_cons (x_var (pv 1) (by decide)) a_nil)) a_nil)) (al_cons (al_cons al_nil))) (x_one (x_chain op_leA op_leA bin_le bin_le x_int (x_cb call_lenA cl_len rfl tx.m_len PySem.boot_len (a_cons (x_var (pv 2) (by decide)) a_nil)) (x_gint 6 rfl tx.c_MOST_IMAGE.choose_spec.1 tx.c_MOST_IMAGE.choose_spec.2))))) (by decide) (by decide))) a_nil)))) (ss_one (s_raise rfl (takes_of rfl rfl rfl rfl) (pmk_own PySem.F.excBase_ValueError tx.x_Malformed tx.g_Malformed tx.k_Malformed (raises_own tx.b_Malformed tx.y_Malformed) rfl) (fun _ _ _ q => q) rfl)) ss_nil)) (j_fld tx.cls_Growing tx.n_Growing_size rfl (by first | exact Or.inl rfl | exact Or.inr (Or.inl rfl) | exact Or.inr (Or.inr rfl)) (fun Z => (x_cb call_lenA cl_len rfl tx.m_len PySem.boot_len (a_cons (x_var (pv 1) (by decide)) a_nil))) (j_fld tx.cls_Growing tx.n_Growing_images rfl (by first | exact Or.inl rfl | exact Or.inr (Or.inl rfl) | exact Or.inr (Or.inr rfl)) (fun Z => (x_var (pv 1) (by decide))) j_nil (by decide) (by decide)) (by decide) (by decide)) (k0_if k0_raise k0_nop)) (k0_if k0_raise k0_nop))
theorem ok_named_rule (tx : Tx K mg A) : Ok P w K mg base (TT K A) 4 A.f_named_rule 1 F_named_rule := by
  obtain ⟨fd, F, b⟩ := tx.f_named_rule
  refine ⟨fd, _, fn_mk (T := TT K A) (S := B_named_rule) (own := []) F sc_named_rule rfl rfl (fun cdv A' outer s H E Z hZ hr => ?_), F.kp, b⟩
  have hu := hr.units
  have hu1 := hu_of hr
  have hu9 := room9 hr
  exact (ss_cons (s_set (i := 1) sc_named_rule.nd rfl (by first | exact Or.inl rfl | exact Or.inr rfl) (XF.toE (f_disp (ds_cons (x_str [103, 111, 108, 100, 101, 110]) (x_tup (a_cons (x_str [97, 98]) (a_cons (x_str [97]) a_nil))) (ds_cons (x_str [100, 111, 117, 98, 108, 101]) (x_tup (a_cons (x_str [97, 98]) (a_cons (x_str [98, 97]) a_nil))) (ds_cons (x_str [112, 101, 114, 105, 111, 100]) (x_tup (a_cons (x_str [97, 98]) (a_cons (x_str [97, 97]) a_nil))) (ds_cons (x_str [116, 104, 114, 101, 101]) (x_tup (a_cons (x_str [97, 98]) (a_cons (x_str [97, 99]) (a_cons (x_str [97]) a_nil)))) ds_nil)))))) (by decide)) (ss_cons (s_set (i := 2) sc_named_rule.nd rfl (by first | exact Or.inl rfl | exact Or.inr rfl) (XF.toE (f_disp (ds_cons (x_str [112, 97, 112, 101, 114]) (x_tup (a_cons (x_str [97, 98]) (a_cons (x_str [99, 98]) (a_cons (x_str [97, 100]) (a_cons (x_str [99, 100]) a_nil))))) (ds_cons (x_str [116, 104, 114, 101, 101, 32, 108, 105, 110, 101, 115]) (x_tup (a_cons (x_str [97, 98, 97]) (a_cons (x_str [98, 98, 98]) a_nil))) ds_nil)))) (by decide)) (ss_cons (s_if (XW.t (xw_or (xt_not (xt_val (x_isi .str rfl tx.m_isinstance (by decide +kernel) rfl tx.m_str (by decide +kernel) (x_var (pv 0) (by decide))))) (xw_or1 (XW.t (xw_and (xt_cmp (op_ninA hu1) bin_nin (by with_unfolding_all rfl) (x_var (pv 0) (by decide)) (x_var (pv 1) (by decide))) (xw_and1 (xt_cmp (op_ninA hu1) bin_nin (by with_unfolding_all rfl) (x_var (pv 0) (by decide)) (x_var (pv 2) (by decide))))))))) (ss_one (s_raise rfl (takes_of rfl rfl rfl rfl) (pmk_own PySem.F.excBase_ValueError tx.x_Malformed tx.g_Malformed tx.k_Malformed (raises_own tx.b_Malformed tx.y_Malformed) rfl) (fun _ _ _ q => q) rfl)) ss_nil) (ss_one (s_ret hZ (x_make (okI_Growing_init tx) (cl_Growing tx) (mk_Growing tx) rfl (hr.mono (by decide)) rfl tx.g_Growing (takes_of rfl rfl rfl rfl) (a_cons (x_if (xt_cmp (op_inA hu1) bin_in (by with_unfolding_all rfl) (x_var (pv 0) (by decide)) (x_var (pv 1) (by decide))) (x_ix hu1 (x_var (pv 1) (by decide)) (x_var (pv 0) (by decide))) (x_ix hu1 (x_var (pv 2) (by decide)) (x_var (pv 0) (by decide)))) a_nil) (al_cons al_nil) initF_ins))))))
theorem ok_check_growing (tx : Tx K mg A) : Ok P w K mg base (TT K A) 1 A.f_check_growing 1 F_check_growing := by
  obtain ⟨fd, F, b⟩ := tx.f_check_growing
  refine ⟨fd, _, fn_mk (T := TT K A) (S := B_check_growing) (own := []) F sc_check_growing rfl rfl (fun cdv A' outer s H E Z hZ hr => ?_), F.kp, b⟩
  have hu := hr.units
  have hu1 := hu_of hr
  have hu9 := room9 hr
  exact (ss_one (s_if (xt_not (xt_val (x_isC (is_Growing tx) rfl tx.m_isinstance (by decide +kernel) rfl tx.g_Growing (x_var (pv 0) (by decide))))) (ss_one (s_raise rfl (takes_of rfl rfl rfl rfl) (pmk_own PySem.F.excBase_ValueError tx.x_Malformed tx.g_Malformed tx.k_Malformed (raises_own tx.b_Malformed tx.y_Malformed) rfl) (fun _ _ _ q => q) rfl)) ss_nil))
theorem ok_fixed_letters (tx : Tx K mg A) : Ok P w K mg base (TT K A) 2 A.f_fixed_letters 1 F_fixed_letters := by
  obtain ⟨fd, F, b⟩ := tx.f_fixed_letters
  refine ⟨fd, _, fn_mk (T := TT K A) (S := B_fixed_letters) (own := []) F sc_fixed_letters rfl rfl (fun cdv A' outer s H E Z hZ hr => ?_), F.kp, b⟩
  have hu := hr.units
  have hu1 := hu_of hr
  have hu9 := room9 hr
  exact (ss_cons (s_expr (x_callO (ok_check_growing tx) rfl (hr.mono (by decide)) rfl tx.g_check_growing (takes_of rfl rfl rfl rfl) (a_cons (x_var (pv 0) (by decide)) a_nil) (al_cons al_nil))) (ss_one (s_ret hZ (x_ct PPT.call_tupleF cl_tuple rfl tx.m_tuple (by decide +kernel) (a_cons (XF.toE (f_lc (ownN := [("c", 1), ("own", 2)]) rfl sc_fixed_letters.nd (i_zipG rfl tx.m_zip (a_cons (x_gstr [97, 98, 99, 100] rfl tx.c_LETTERS.choose_spec.1 tx.c_LETTERS.choose_spec.2) (a_cons (x_fld (cl_Growing tx) rfl (x_var (pv 0) (by decide))) a_nil))) (blkOk_by (by first | (show blkC ["rule", "c", "own"] (defScope s_fixed_letters) _ _ = true; decide +kernel) | exact rfl)) (fun _ _ _ _ _ => (g_tup rfl (gs_cons (g_name sc_fixed_letters.nd rfl (by first | exact Or.inl rfl | exact Or.inr rfl)) (gs_cons (g_name sc_fixed_letters.nd rfl (by first | exact Or.inl rfl | exact Or.inr rfl)) (gs_nil (is := [])))))) (fun _ _ _ _ _ => (ts_one (XW.t (xw_and (xt_cmp (op_eqD hu) bin_eq (nomark _) (x_ix hu1 (x_var (pv 2) (by decide)) x_int) (x_var (pv 1) (by decide))) (xw_and1 (xt_cmp op_gtA bin_gt (nomark _) (x_cb call_lenA cl_len rfl tx.m_len PySem.boot_len (a_cons (x_var (pv 2) (by decide)) a_nil)) x_int)))))) (fun _ _ _ _ _ => (x_var (pv 1) (by decide))) (by decide) (by decide))) a_nil)))))
theorem ok_fixed_start (tx : Tx K mg A) : Ok P w K mg base (TT K A) 3 A.f_fixed_start 3 F_fixed_start := by
  obtain ⟨fd, F, b⟩ := tx.f_fixed_start
  refine ⟨fd, _, fn_mk (T := TT K A) (S := B_fixed_start) (own := []) F sc_fixed_start rfl rfl (fun cdv A' outer s H E Z hZ hr => ?_), F.kp, b⟩
  have hu := hr.units
  have hu1 := hu_of hr
  have hu9 := room9 hr
  exact (ss_cons (s_expr (x_callO (ok_check_growing tx) rfl (hr.mono (by decide)) rfl tx.g_check_growing (takes_of rfl rfl rfl rfl) (a_cons (x_var (pv 0) (by decide)) a_nil) (al_cons al_nil))) (ss_cons (s_if (xt_cmp (op_ninA hu1) bin_nin (by with_unfolding_all rfl) (x_var (pv 1) (by decide)) (x_callO (ok_fixed_letters tx) rfl (hr.mono (by decide)) rfl tx.g_fixed_letters (takes_of rfl rfl rfl rfl) (a_cons (x_var (pv 0) (by decide)) a_nil) (al_cons al_nil))) (ss_one (s_raise rfl (takes_of rfl rfl rfl rfl) (pmk_own PySem.F.excBase_ValueError tx.x_Malformed tx.g_Malformed tx.k_Malformed (raises_own tx.b_Malformed tx.y_Malformed) rfl) (fun _ _ _ q => q) rfl)) ss_nil) (ss_cons (s_expr (x_callO (ok_check_from tx) rfl (hr.mono (by decide)) rfl tx.g_check_from (takes_of rfl rfl rfl rfl) (a_cons (x_var (pv 2) (by decide)) (a_cons x_int (a_cons x_int a_nil))) (al_cons (al_cons (al_cons al_nil))))) (ss_cons (s_set (i := 3) sc_fixed_start.nd rfl (by first | exact Or.inl rfl | exact Or.inr rfl) (x_var (pv 1) (by decide)) (by decide)) (ss_cons (s_kill (is := [4, 5]) (s_pre (own1 := []) (s_while (passes_of rfl) (xt_cmp op_ltA bin_lt (nomark _) (x_cb call_lenA cl_len rfl tx.m_len PySem.boot_len (a_cons (x_var (pv 3) (by decide)) a_nil)) (x_var (pv 2) (by decide))) (ss_kill (is := [4, 5]) (ss_cons (s_set (i := 4) sc_fixed_start.nd rfl (by first | exact Or.inl rfl | exact Or.inr rfl) (x_str []) (by decide)) (ss_cons (s_kill (is := [5]) (s_pre (own1 := []) (s_for (passes_of rfl) rfl (i_seq (x_var (pv 3) (by decide))) (g_name sc_fixed_start.nd rfl (by first | exact Or.inl rfl | exact Or.inr rfl)) (ss_kill (is := [5]) (ss_one (s_if (xt_cmp op_ltA bin_lt (nomark _) (x_cb call_lenA cl_len rfl tx.m_len PySem.boot_len (a_cons (x_var (pv 4) (by decide)) a_nil)) (x_var (pv 2) (by decide))) (ss_one (s_set (i := 4) sc_fixed_start.nd rfl (by first | exact Or.inl rfl | exact Or.inr rfl) (x_bin op_addA bin_add (x_var (pv 4) (by decide)) (x_ix hu1 (x_fld (cl_Growing tx) rfl (x_var (pv 0) (by decide))) (x_index (x_gstr [97, 98, 99, 100] rfl tx.c_LETTERS.choose_spec.1 tx.c_LETTERS.choose_spec.2) (x_var (pv 5) (by decide))))) (by decide))) ss_nil)) (by decide)) (by decide)) (by decide)) (by decide)) (ss_cons (s_if (xt_cmp (op_eqD hu) bin_eq (nomark _) (x_var (pv 4) (by decide)) (x_var (pv 3) (by decide))) (ss_one (s_raiseP rfl (takes_of rfl rfl rfl rfl) tx.oc_Refused tx.xn_Refused tx.iC_Refused tx.tI_Refused (pay_Refused tx).choose_spec.choose_spec.1 (pay_Refused tx).choose_spec.choose_spec.2 (hr.mono (by decide)) rfl tx.g_Refused (x_str [115, 104, 111, 114, 116]) rfl rfl)) ss_nil) (ss_one (s_set (i := 3) sc_fixed_start.nd rfl (by first | exact Or.inl rfl | exact Or.inr rfl) (x_var (pv 4) (by decide)) (by decide)))))) (by decide))) (by decide)) (by decide)) (ss_one (s_ret hZ (x_slice (x_var (pv 3) (by decide)) o_none (o_some (x_var (pv 2) (by decide)))))))))))
theorem ok_letter_table (tx : Tx K mg A) : Ok P w K mg base (TT K A) 2 A.f_letter_table 1 F_letter_table := by
  obtain ⟨fd, F, b⟩ := tx.f_letter_table
  refine ⟨fd, _, fn_mk (T := TT K A) (S := B_letter_table) (own := []) F sc_letter_table rfl rfl (fun cdv A' outer s H E Z hZ hr => ?_), F.kp, b⟩
  have hu := hr.units
  have hu1 := hu_of hr
  have hu9 := room9 hr
  exact (ss_cons (s_expr (x_callO (ok_check_growing tx) rfl (hr.mono (by decide)) rfl tx.g_check_growing (takes_of rfl rfl rfl rfl) (a_cons (x_var (pv 0) (by decide)) a_nil) (al_cons al_nil))) (ss_one (s_ret hZ (x_ct PPT.call_tupleF cl_tuple rfl tx.m_tuple (by decide +kernel) (a_cons (XF.toE (f_lc (ownN := [("own", 1)]) rfl sc_letter_table.nd (i_seq (x_fld (cl_Growing tx) rfl (x_var (pv 0) (by decide)))) (blkOk_by (by first | (show blkC ["rule", "own", "c"] (defScope s_letter_table) _ _ = true; decide +kernel) | exact rfl)) (fun _ _ _ _ _ => (g_name sc_letter_table.nd rfl (by first | exact Or.inl rfl | exact Or.inr rfl))) (fun _ _ _ _ _ => ts_nil) (fun _ _ _ _ _ => (x_ct PPT.call_tupleF cl_tuple rfl tx.m_tuple (by decide +kernel) (a_cons (XF.toE (f_lc (ownN := [("c", 2)]) rfl sc_letter_table.nd (i_seq (x_slice (x_gstr [97, 98, 99, 100] rfl tx.c_LETTERS.choose_spec.1 tx.c_LETTERS.choose_spec.2) o_none (o_some (x_fld (cl_Growing tx) rfl (x_var (pv 0) (by decide)))))) (blkOk_by (by first | (show blkC ["rule", "own", "c"] (defScope s_letter_table) _ _ = true; decide +kernel) | exact rfl)) (fun _ _ _ _ _ => (g_name sc_letter_table.nd rfl (by first | exact Or.inl rfl | exact Or.inr rfl))) (fun _ _ _ _ _ => ts_nil) (fun _ _ _ _ _ => (x_count (x_var (pv 1) (by decide)) (x_var (pv 2) (by decide)))) (by decide) (by decide))) a_nil))) (by decide) (by decide))) a_nil)))))
theorem ok_is_row (tx : Tx K mg A) : Ok P w K mg base (TT K A) 2 A.f_is_row 1 F_is_row := by
  obtain ⟨fd, F, b⟩ := tx.f_is_row
  refine ⟨fd, _, fn_mk (T := TT K A) (S := B_is_row) (own := []) F sc_is_row rfl rfl (fun cdv A' outer s H E Z hZ hr => ?_), F.kp, b⟩
  have hu := hr.units
  have hu1 := hu_of hr
  have hu9 := room9 hr
  exact (ss_one (s_ret hZ (x_and (x_isi .tuple rfl tx.m_isinstance (by decide +kernel) rfl tx.m_tuple (by decide +kernel) (x_var (pv 0) (by decide))) (x_one (x_cb (cr_all rfl) cl_all rfl tx.m_all (by decide +kernel) (a_cons (XF.toE (f_lc (ownN := [("x", 1)]) rfl sc_is_row.nd (i_seq (x_var (pv 0) (by decide))) (blkOk_by (by first | (show blkC ["value", "x"] (defScope s_is_row) _ _ = true; decide +kernel) | exact rfl)) (fun _ _ _ _ _ => (g_name sc_is_row.nd rfl (by first | exact Or.inl rfl | exact Or.inr rfl))) (fun _ _ _ _ _ => ts_nil) (fun _ _ _ _ _ => (x_callO (ok_is_integer tx) rfl (hr.mono (by decide)) rfl tx.g_is_integer takes_none5 (a_cons (x_var (pv 1) (by decide)) a_nil) (al_cons al_nil))) (by decide) (by decide))) a_nil))))))
theorem ok_is_table (tx : Tx K mg A) : Ok P w K mg base (TT K A) 3 A.f_is_table 1 F_is_table := by
  obtain ⟨fd, F, b⟩ := tx.f_is_table
  refine ⟨fd, _, fn_mk (T := TT K A) (S := B_is_table) (own := []) F sc_is_table rfl rfl (fun cdv A' outer s H E Z hZ hr => ?_), F.kp, b⟩
  have hu := hr.units
  have hu1 := hu_of hr
  have hu9 := room9 hr
  exact (ss_cons (s_if (XW.t (xw_or (xt_not (xt_val (x_isi .tuple rfl tx.m_isinstance (by decide +kernel) rfl tx.m_tuple (by decide +kernel) (x_var (pv 0) (by decide))))) (xw_or1 (xt_cmp op_gtA bin_gt (nomark _) (x_cb call_lenA cl_len rfl tx.m_len PySem.boot_len (a_cons (x_var (pv 0) (by decide)) a_nil)) (x_gint 12 rfl tx.c_MOST_SIDE.choose_spec.1 tx.c_MOST_SIDE.choose_spec.2))))) (ss_one (s_ret hZ x_bl)) ss_nil) (ss_one (s_ret hZ (x_cb (cr_all rfl) cl_all rfl tx.m_all (by decide +kernel) (a_cons (XF.toE (f_lc (ownN := [("row", 1)]) rfl sc_is_table.nd (i_seq (x_var (pv 0) (by decide))) (blkOk_by (by first | (show blkC ["value", "row"] (defScope s_is_table) _ _ = true; decide +kernel) | exact rfl)) (fun _ _ _ _ _ => (g_name sc_is_table.nd rfl (by first | exact Or.inl rfl | exact Or.inr rfl))) (fun _ _ _ _ _ => ts_nil) (fun _ _ _ _ _ => (x_and (x_callO (ok_is_row tx) rfl (hr.mono (by decide)) rfl tx.g_is_row takes_none5 (a_cons (x_var (pv 1) (by decide)) a_nil) (al_cons al_nil)) (x_and (x_cmp (op_eqD hu) bin_eq (nomark _) (x_cb call_lenA cl_len rfl tx.m_len PySem.boot_len (a_cons (x_var (pv 1) (by decide)) a_nil)) (x_cb call_lenA cl_len rfl tx.m_len PySem.boot_len (a_cons (x_var (pv 0) (by decide)) a_nil))) (x_one (x_cmp op_geA bin_ge (nomark _) (x_cb (cr_minD rfl hu9) cl_data rfl tx.m_min (by decide +kernel) (a_cons (x_bin op_addA bin_add (x_var (pv 1) (by decide)) (x_tup (a_cons x_int a_nil))) a_nil)) x_int))))) (by decide) (by decide))) a_nil)))))
theorem ok_is_primitive (tx : Tx K mg A) : Ok P w K mg base (TT K A) 4 A.f_is_primitive 1 F_is_primitive := by
  obtain ⟨fd, F, b⟩ := tx.f_is_primitive
  refine ⟨fd, _, fn_mk (T := TT K A) (S := B_is_primitive) (own := []) F sc_is_primitive rfl rfl (fun cdv A' outer s H E Z hZ hr => ?_), F.kp, b⟩
  have hu := hr.units
  have hu1 := hu_of hr
  have hu9 := room9 hr
  exact (ss_cons (s_if (xt_not (xt_val (x_callO (ok_is_table tx) rfl (hr.mono (by decide)) rfl tx.g_is_table (takes_of rfl rfl rfl rfl) (a_cons (x_var (pv 0) (by decide)) a_nil) (al_cons al_nil)))) (ss_one (s_raise rfl (takes_of rfl rfl rfl rfl) (pmk_own PySem.F.excBase_ValueError tx.x_Malformed tx.g_Malformed tx.k_Malformed (raises_own tx.b_Malformed tx.y_Malformed) rfl) (fun _ _ _ q => q) rfl)) ss_nil) (ss_cons (s_set (i := 1) sc_is_primitive.nd rfl (by first | exact Or.inl rfl | exact Or.inr rfl) (x_cb call_lenA cl_len rfl tx.m_len PySem.boot_len (a_cons (x_var (pv 0) (by decide)) a_nil)) (by decide)) (ss_cons (s_if (xt_cmp (op_eqD hu) bin_eq (nomark _) (x_var (pv 1) (by decide)) x_int) (ss_one (s_ret hZ x_bl)) ss_nil) (ss_cons (s_set (i := 2) sc_is_primitive.nd rfl (by first | exact Or.inl rfl | exact Or.inr rfl) (x_ct PPT.call_tupleF cl_tuple rfl tx.m_tuple (by decide +kernel) (a_cons (XF.toE (f_lc (ownN := [("row", 6)]) rfl sc_is_primitive.nd (i_seq (x_var (pv 0) (by decide))) (blkOk_by (by first | (show blkC ["table", "n", "own", "start", "_", "rows", "row", "c", "j", "k"] (defScope s_is_primitive) _ _ = true; decide +kernel) | exact rfl)) (fun _ _ _ _ _ => (g_name sc_is_primitive.nd rfl (by first | exact Or.inl rfl | exact Or.inr rfl))) (fun _ _ _ _ _ => ts_nil) (fun _ _ _ _ _ => (x_ct PPT.call_tupleF cl_tuple rfl tx.m_tuple (by decide +kernel) (a_cons (XF.toE (f_lc (ownN := [("c", 7)]) rfl sc_is_primitive.nd (i_seq (x_var (pv 6) (by decide))) (blkOk_by (by first | (show blkC ["table", "n", "own", "start", "_", "rows", "row", "c", "j", "k"] (defScope s_is_primitive) _ _ = true; decide +kernel) | exact rfl)) (fun _ _ _ _ _ => (g_name sc_is_primitive.nd rfl (by first | exact Or.inl rfl | exact Or.inr rfl))) (fun _ _ _ _ _ => ts_nil) (fun _ _ _ _ _ => (x_cb (cr_minD rfl hu9) cl_data rfl tx.m_min (by decide +kernel) (a_cons (x_var (pv 7) (by decide)) (a_cons x_int a_nil)))) (by decide) (by decide))) a_nil))) (by decide) (by decide))) a_nil)) (by decide)) (ss_cons (s_set (i := 3) sc_is_primitive.nd rfl (by first | exact Or.inl rfl | exact Or.inr rfl) (x_var (pv 2) (by decide)) (by decide)) (ss_cons (s_kill (is := [2, 4, 5, 6]) (s_pre (own1 := []) (s_for (passes_of rfl) rfl (i_rng1 rfl tx.m_range (a_cons (x_bin op_addA bin_add (x_bin op_sub bin_sub (x_bin op_mulA bin_mul (x_var (pv 1) (by decide)) (x_var (pv 1) (by decide))) (x_bin op_mulA bin_mul x_int (x_var (pv 1) (by decide)))) x_int) a_nil)) (g_name sc_is_primitive.nd rfl (by first | exact Or.inl rfl | exact Or.inr rfl)) (ss_kill (is := [4, 5]) (ss_cons (s_if (xt_val (x_cb (cr_all rfl) cl_all rfl tx.m_all (by decide +kernel) (a_cons (XF.toE (f_lc (ownN := [("row", 6)]) rfl sc_is_primitive.nd (i_seq (x_var (pv 2) (by decide))) (blkOk_by (by first | (show blkC ["table", "n", "own", "start", "_", "rows", "row", "c", "j", "k"] (defScope s_is_primitive) _ _ = true; decide +kernel) | exact rfl)) (fun _ _ _ _ _ => (g_name sc_is_primitive.nd rfl (by first | exact Or.inl rfl | exact Or.inr rfl))) (fun _ _ _ _ _ => ts_nil) (fun _ _ _ _ _ => (x_cmp op_gtA bin_gt (nomark _) (x_cb (cr_minD rfl hu9) cl_data rfl tx.m_min (by decide +kernel) (a_cons (x_var (pv 6) (by decide)) a_nil)) x_int)) (by decide) (by decide))) a_nil))) (ss_one (s_ret hZ x_bl)) ss_nil) (ss_cons (s_setF (i := 5) sc_is_primitive.nd rfl (by first | exact Or.inl rfl | exact Or.inr rfl) (f_lst a_nil) (by decide)) (ss_cons (s_pre (own1 := [5]) (s_for (passes_of rfl) rfl (i_seq (x_var (pv 2) (by decide))) (g_name sc_is_primitive.nd rfl (by first | exact Or.inl rfl | exact Or.inr rfl)) (ss_one (s_app (i := 5) rfl (by first | exact Or.inl rfl | exact Or.inr (Or.inl rfl) | exact Or.inr (Or.inr rfl)) (by decide) (x_ct PPT.call_tupleF cl_tuple rfl tx.m_tuple (by decide +kernel) (a_cons (XF.toE (f_lc (ownN := [("j", 8)]) rfl sc_is_primitive.nd (i_rng1 rfl tx.m_range (a_cons (x_var (pv 1) (by decide)) a_nil)) (blkOk_by (by first | (show blkC ["table", "n", "own", "start", "_", "rows", "row", "c", "j", "k"] (defScope s_is_primitive) _ _ = true; decide +kernel) | exact rfl)) (fun _ _ _ _ _ => (g_name sc_is_primitive.nd rfl (by first | exact Or.inl rfl | exact Or.inr rfl))) (fun _ _ _ _ _ => ts_nil) (fun _ _ _ _ _ => (x_cb (cr_minD rfl hu9) cl_data rfl tx.m_min (by decide +kernel) (a_cons (x_cb (cr_sumA rfl) cl_sum rfl tx.m_sum (by decide +kernel) (a_cons (XF.toE (f_lc (ownN := [("k", 9), ("c", 7)]) rfl sc_is_primitive.nd (i_enumG rfl tx.m_enumerate (a_cons (x_var (pv 6) (by decide)) a_nil)) (blkOk_by (by first | (show blkC ["table", "n", "own", "start", "_", "rows", "row", "c", "j", "k"] (defScope s_is_primitive) _ _ = true; decide +kernel) | exact rfl)) (fun _ _ _ _ _ => (g_tup rfl (gs_cons (g_name sc_is_primitive.nd rfl (by first | exact Or.inl rfl | exact Or.inr rfl)) (gs_cons (g_name sc_is_primitive.nd rfl (by first | exact Or.inl rfl | exact Or.inr rfl)) (gs_nil (is := [])))))) (fun _ _ _ _ _ => ts_nil) (fun _ _ _ _ _ => (x_bin op_mulA bin_mul (x_var (pv 7) (by decide)) (x_ix hu1 (x_ix hu1 (x_var (pv 3) (by decide)) (x_var (pv 9) (by decide))) (x_var (pv 8) (by decide))))) (by decide) (by decide))) a_nil)) (a_cons x_int a_nil)))) (by decide) (by decide))) a_nil)))) (by decide)) (by decide)) (ss_one (s_pre (own1 := []) (s_set (i := 2) sc_is_primitive.nd rfl (by first | exact Or.inl rfl | exact Or.inr rfl) (x_ct PPT.call_tupleF cl_tuple rfl tx.m_tuple (by decide +kernel) (a_cons (x_var (pv 5) (by decide)) a_nil)) (by decide)) (by decide)))))) (by decide)) (by decide)) (by decide)) (by decide)) (ss_one (s_ret hZ x_bl))))))))
theorem ok_is_steady (tx : Tx K mg A) : Ok P w K mg base (TT K A) 5 A.f_is_steady 1 F_is_steady := by
  obtain ⟨fd, F, b⟩ := tx.f_is_steady
  refine ⟨fd, _, fn_mk (T := TT K A) (S := B_is_steady) (own := []) F sc_is_steady rfl rfl (fun cdv A' outer s H E Z hZ hr => ?_), F.kp, b⟩
  have hu := hr.units
  have hu1 := hu_of hr
  have hu9 := room9 hr
  exact (ss_cons (s_expr (x_callO (ok_check_growing tx) rfl (hr.mono (by decide)) rfl tx.g_check_growing (takes_of rfl rfl rfl rfl) (a_cons (x_var (pv 0) (by decide)) a_nil) (al_cons al_nil))) (ss_one (s_ret hZ (x_and (x_callO (ok_is_primitive tx) rfl (hr.mono (by decide)) rfl tx.g_is_primitive (takes_of rfl rfl rfl rfl) (a_cons (x_callO (ok_letter_table tx) rfl (hr.mono (by decide)) rfl tx.g_letter_table (takes_of rfl rfl rfl rfl) (a_cons (x_var (pv 0) (by decide)) a_nil) (al_cons al_nil)) a_nil) (al_cons al_nil)) (x_one (x_cb (cr_any rfl) cl_any rfl tx.m_any (by decide +kernel) (a_cons (XF.toE (f_lc (ownN := [("own", 1)]) rfl sc_is_steady.nd (i_seq (x_fld (cl_Growing tx) rfl (x_var (pv 0) (by decide)))) (blkOk_by (by first | (show blkC ["rule", "own"] (defScope s_is_steady) _ _ = true; decide +kernel) | exact rfl)) (fun _ _ _ _ _ => (g_name sc_is_steady.nd rfl (by first | exact Or.inl rfl | exact Or.inr rfl))) (fun _ _ _ _ _ => ts_nil) (fun _ _ _ _ _ => (x_cmp op_gtA bin_gt (nomark _) (x_cb call_lenA cl_len rfl tx.m_len PySem.boot_len (a_cons (x_var (pv 1) (by decide)) a_nil)) x_int)) (by decide) (by decide))) a_nil)))))))
theorem ok_Growing_on (tx : Tx K mg A) : Ok P w K mg base (TT K A) 3 A.f_Growing_on 2 F_Growing_on := by
  obtain ⟨fd, F, b⟩ := tx.f_Growing_on
  refine ⟨fd, _, fn_mk (T := TT K A) (S := B_Growing_on) (own := []) F sc_Growing_on rfl rfl (fun cdv A' outer s H E Z hZ hr => ?_), F.kp, b⟩
  have hu := hr.units
  have hu1 := hu_of hr
  have hu9 := room9 hr
  exact (ss_cons (s_if (XW.t (xw_or (xt_not (xt_val (x_isi .str rfl tx.m_isinstance (by decide +kernel) rfl tx.m_str (by decide +kernel) (x_var (pv 1) (by decide))))) (xw_or (xt_cmp op_gtA bin_gt (nomark _) (x_cb call_lenA cl_len rfl tx.m_len PySem.boot_len (a_cons (x_var (pv 1) (by decide)) a_nil)) (x_gint 3000 rfl tx.c_MOST_TEXT.choose_spec.1 tx.c_MOST_TEXT.choose_spec.2)) (xw_or1 (xt_not (xt_val (x_cb (cr_all rfl) cl_all rfl tx.m_all (by decide +kernel) (a_cons (XF.toE (f_lc (ownN := [("c", 3)]) rfl sc_Growing_on.nd (i_seq (x_var (pv 1) (by decide))) (blkOk_by (by first | (show blkC ["self", "word", "found", "c"] (defScope s_Growing_on) _ _ = true; decide +kernel) | exact rfl)) (fun _ _ _ _ _ => (g_name sc_Growing_on.nd rfl (by first | exact Or.inl rfl | exact Or.inr rfl))) (fun _ _ _ _ _ => ts_nil) (fun _ _ _ _ _ => (x_cmp (op_inA hu1) bin_in (by with_unfolding_all rfl) (x_var (pv 3) (by decide)) (x_slice (x_gstr [97, 98, 99, 100] rfl tx.c_LETTERS.choose_spec.1 tx.c_LETTERS.choose_spec.2) o_none (o_some (x_fld (cl_Growing tx) rfl (x_var (pv 0) (by decide))))))) (by decide) (by decide))) a_nil)))))))) (ss_one (s_raise rfl (takes_of rfl rfl rfl rfl) (pmk_own PySem.F.excBase_ValueError tx.x_Malformed tx.g_Malformed tx.k_Malformed (raises_own tx.b_Malformed tx.y_Malformed) rfl) (fun _ _ _ q => q) rfl)) ss_nil) (ss_cons (s_set (i := 2) sc_Growing_on.nd rfl (by first | exact Or.inl rfl | exact Or.inr rfl) (x_join (x_str []) (XF.toE (f_lc (ownN := [("c", 3)]) rfl sc_Growing_on.nd (i_seq (x_var (pv 1) (by decide))) (blkOk_by (by first | (show blkC ["self", "word", "found", "c"] (defScope s_Growing_on) _ _ = true; decide +kernel) | exact rfl)) (fun _ _ _ _ _ => (g_name sc_Growing_on.nd rfl (by first | exact Or.inl rfl | exact Or.inr rfl))) (fun _ _ _ _ _ => ts_nil) (fun _ _ _ _ _ => (x_ix hu1 (x_fld (cl_Growing tx) rfl (x_var (pv 0) (by decide))) (x_index (x_gstr [97, 98, 99, 100] rfl tx.c_LETTERS.choose_spec.1 tx.c_LETTERS.choose_spec.2) (x_var (pv 3) (by decide))))) (by decide) (by decide)))) (by decide)) (ss_cons (s_if (xt_cmp op_gtA bin_gt (nomark _) (x_cb call_lenA cl_len rfl tx.m_len PySem.boot_len (a_cons (x_var (pv 2) (by decide)) a_nil)) (x_gint 3000 rfl tx.c_MOST_TEXT.choose_spec.1 tx.c_MOST_TEXT.choose_spec.2)) (ss_one (s_raiseP rfl (takes_of rfl rfl rfl rfl) tx.oc_Refused tx.xn_Refused tx.iC_Refused tx.tI_Refused (pay_Refused tx).choose_spec.choose_spec.1 (pay_Refused tx).choose_spec.choose_spec.2 (hr.mono (by decide)) rfl tx.g_Refused (x_str [108, 111, 110, 103]) rfl rfl)) ss_nil) (ss_one (s_ret hZ (x_var (pv 2) (by decide)))))))
theorem okF_factors_of (tx : Tx K mg A) : OkF P w K mg base (TT K A) 1 A.f_factors_of 2 F_factors_of := by
  obtain ⟨fd, F, b⟩ := tx.f_factors_of
  refine ⟨fd, _, fnF_mk (T := TT K A) (S := B_factors_of) (own := []) F sc_factors_of rfl rfl (fun cdv A' outer s H E Z hZ hr => ?_), F.kp, b⟩
  have hu := hr.units
  have hu1 := hu_of hr
  have hu9 := room9 hr
  exact (ss_one (s_retF hZ (f_lc (ownN := [("k", 2)]) rfl sc_factors_of.nd (i_rng1 rfl tx.m_range (a_cons (x_bin op_addA bin_add (x_bin op_sub bin_sub (x_cb call_lenA cl_len rfl tx.m_len PySem.boot_len (a_cons (x_var (pv 0) (by decide)) a_nil)) (x_var (pv 1) (by decide))) x_int) a_nil)) (blkOk_by (by first | (show blkC ["word", "length", "k"] (defScope s_factors_of) _ _ = true; decide +kernel) | exact rfl)) (fun _ _ _ _ _ => (g_name sc_factors_of.nd rfl (by first | exact Or.inl rfl | exact Or.inr rfl))) (fun _ _ _ _ _ => ts_nil) (fun _ _ _ _ _ => (x_slice (x_var (pv 0) (by decide)) (o_some (x_var (pv 2) (by decide))) (o_some (x_bin op_addA bin_add (x_var (pv 2) (by decide)) (x_var (pv 1) (by decide)))))) (by decide) (by decide))))
theorem ok_factors_of (tx : Tx K mg A) : Ok P w K mg base (TT K A) 1 A.f_factors_of 2 F_factors_of := (okF_factors_of tx).ok
theorem ok_grown_words (tx : Tx K mg A) : Ok P w K mg base (TT K A) 6 A.f_grown_words 2 F_grown_words := by
  obtain ⟨fd, F, b⟩ := tx.f_grown_words
  refine ⟨fd, _, fn_mk (T := TT K A) (S := B_grown_words) (own := []) F sc_grown_words rfl rfl (fun cdv A' outer s H E Z hZ hr => ?_), F.kp, b⟩
  have hu := hr.units
  have hu1 := hu_of hr
  have hu9 := room9 hr
  exact (ss_cons (s_expr (x_callO (ok_check_growing tx) rfl (hr.mono (by decide)) rfl tx.g_check_growing (takes_of rfl rfl rfl rfl) (a_cons (x_var (pv 0) (by decide)) a_nil) (al_cons al_nil))) (ss_cons (s_expr (x_callO (ok_check_from tx) rfl (hr.mono (by decide)) rfl tx.g_check_from (takes_of rfl rfl rfl rfl) (a_cons (x_var (pv 1) (by decide)) (a_cons x_int (a_cons x_int a_nil))) (al_cons (al_cons (al_cons al_nil))))) (ss_cons (s_if (xt_not (xt_val (x_callO (ok_is_steady tx) rfl (hr.mono (by decide)) rfl tx.g_is_steady (takes_of rfl rfl rfl rfl) (a_cons (x_var (pv 0) (by decide)) a_nil) (al_cons al_nil)))) (ss_one (s_raiseP rfl (takes_of rfl rfl rfl rfl) tx.oc_Refused tx.xn_Refused tx.iC_Refused tx.tI_Refused (pay_Refused tx).choose_spec.choose_spec.1 (pay_Refused tx).choose_spec.choose_spec.2 (hr.mono (by decide)) rfl tx.g_Refused (x_str [115, 116, 101, 97, 100, 121]) rfl rfl)) ss_nil) (ss_cons (s_if (xt_cmp op_leA bin_le (nomark _) (x_var (pv 1) (by decide)) x_int) (ss_one (s_ret hZ (x_if (xt_cmp (op_eqD hu) bin_eq (nomark _) (x_var (pv 1) (by decide)) x_int) (XF.toE (f_lst (a_cons (x_str []) a_nil))) (XF.toE (f_ctL (ct_list2 rfl) listD2_lst rfl tx.m_list (by decide +kernel) (a_cons (x_slice (x_gstr [97, 98, 99, 100] rfl tx.c_LETTERS.choose_spec.1 tx.c_LETTERS.choose_spec.2) o_none (o_some (x_fld (cl_Growing tx) rfl (x_var (pv 0) (by decide))))) a_nil)))))) ss_nil) (ss_cons (s_set (i := 2) sc_grown_words.nd rfl (by first | exact Or.inl rfl | exact Or.inr rfl) (x_cb (cr_maxD rfl hu9) cl_data rfl tx.m_max (by decide +kernel) (a_cons (XF.toE (f_lc (ownN := [("own", 3)]) rfl sc_grown_words.nd (i_seq (x_fld (cl_Growing tx) rfl (x_var (pv 0) (by decide)))) (blkOk_by (by first | (show blkC ["rule", "length", "best", "own", "found", "line", "c", "low"] (defScope s_grown_words) _ _ = true; decide +kernel) | exact rfl)) (fun _ _ _ _ _ => (g_name sc_grown_words.nd rfl (by first | exact Or.inl rfl | exact Or.inr rfl))) (fun _ _ _ _ _ => ts_nil) (fun _ _ _ _ _ => (x_cb call_lenA cl_len rfl tx.m_len PySem.boot_len (a_cons (x_var (pv 3) (by decide)) a_nil))) (by decide) (by decide))) a_nil)) (by decide)) (ss_cons (s_set (i := 3) sc_grown_words.nd rfl (by first | exact Or.inl rfl | exact Or.inr rfl) (x_ix hu1 (XF.toE (f_lc (ownN := [("c", 6), ("low", 7)]) rfl sc_grown_words.nd (i_zipG rfl tx.m_zip (a_cons (x_gstr [97, 98, 99, 100] rfl tx.c_LETTERS.choose_spec.1 tx.c_LETTERS.choose_spec.2) (a_cons (x_fld (cl_Growing tx) rfl (x_var (pv 0) (by decide))) a_nil))) (blkOk_by (by first | (show blkC ["rule", "length", "best", "own", "found", "line", "c", "low"] (defScope s_grown_words) _ _ = true; decide +kernel) | exact rfl)) (fun _ _ _ _ _ => (g_tup rfl (gs_cons (g_name sc_grown_words.nd rfl (by first | exact Or.inl rfl | exact Or.inr rfl)) (gs_cons (g_name sc_grown_words.nd rfl (by first | exact Or.inl rfl | exact Or.inr rfl)) (gs_nil (is := [])))))) (fun _ _ _ _ _ => (ts_one (xt_cmp (op_eqD hu) bin_eq (nomark _) (x_cb call_lenA cl_len rfl tx.m_len PySem.boot_len (a_cons (x_var (pv 7) (by decide)) a_nil)) (x_var (pv 2) (by decide))))) (fun _ _ _ _ _ => (x_var (pv 6) (by decide))) (by decide) (by decide))) x_int) (by decide)) (ss_cons (s_pre (own1 := []) (s_while (passes_of rfl) (xt_cmp op_ltA bin_lt (nomark _) (x_cb call_lenA cl_len rfl tx.m_len PySem.boot_len (a_cons (x_var (pv 3) (by decide)) a_nil)) (x_var (pv 1) (by decide))) (ss_one (s_set (i := 3) sc_grown_words.nd rfl (by first | exact Or.inl rfl | exact Or.inr rfl) (x_meth (ok_Growing_on tx) (cl_Growing tx) (show ¬ (("on" : Str) ∈ (["size", "images"] : List Str)) by decide) (me_Growing_on tx) rfl (hr.mono (by decide)) (takes_of rfl rfl rfl rfl) (x_var (pv 0) (by decide)) (a_cons (x_var (pv 3) (by decide)) a_nil) (al_cons al_nil)) (by decide)))) (by decide)) (ss_cons (s_parFF (i := 4) (j := 5) rfl sc_grown_words.nd rfl rfl (by decide) rfl rfl f_dic0 (x_callF (okF_factors_of tx) rfl (hr.mono (by decide)) rfl tx.g_factors_of (takes_of rfl rfl rfl rfl) (a_cons (x_var (pv 3) (by decide)) (a_cons (x_var (pv 1) (by decide)) a_nil)) (al_cons (al_cons al_nil))) rfl (by decide) (by decide)) (ss_cons (s_kill (is := [3]) (s_pre (own1 := [5, 4]) (s_while (passes_of rfl) (xt_flat (xt_cmp op_gtA bin_gt (nomark _) (x_cb call_lenA cl_len rfl tx.m_len PySem.boot_len (a_cons (x_var (pv 5) (by decide)) a_nil)) x_int)) (ss_kill (is := [3]) (ss_cons (s_popTo (i := 5) rfl (by first | exact Or.inl rfl | exact Or.inr (Or.inl rfl) | exact Or.inr (Or.inr rfl)) (by decide) (g_name sc_grown_words.nd rfl (by first | exact Or.inl rfl | exact Or.inr rfl)) (by decide)) (ss_one (s_if (xt_flat (xt_cmp (op_ninA hu1) bin_nin (by with_unfolding_all rfl) (x_var (pv 3) (by decide)) (x_var (pv 4) (by decide)))) (ss_cons (s_put hu1 (i := 4) rfl (by first | exact Or.inl rfl | exact Or.inr (Or.inl rfl) | exact Or.inr (Or.inr rfl)) (by decide) x_bl (x_var (pv 3) (by decide))) (ss_one (s_ext (i := 5) rfl (by first | exact Or.inl rfl | exact Or.inr (Or.inl rfl) | exact Or.inr (Or.inr rfl)) (by decide) (XF.toE (x_callF (okF_factors_of tx) rfl (hr.mono (by decide)) rfl tx.g_factors_of (takes_of rfl rfl rfl rfl) (a_cons (x_meth (ok_Growing_on tx) (cl_Growing tx) (show ¬ (("on" : Str) ∈ (["size", "images"] : List Str)) by decide) (me_Growing_on tx) rfl (hr.mono (by decide)) (takes_of rfl rfl rfl rfl) (x_var (pv 0) (by decide)) (a_cons (x_var (pv 3) (by decide)) a_nil) (al_cons al_nil)) (a_cons (x_var (pv 1) (by decide)) a_nil)) (al_cons (al_cons al_nil))))))) ss_nil))) (by decide))) (by decide)) (by decide)) (ss_one (s_pre (own1 := [5]) (s_ret hZ (XF.toE (f_cbL (cr_sorted2 rfl hu9) sortedD_lst rfl tx.m_sorted (by decide +kernel) (a_cons (x_var (pv 4) (by decide)) a_nil)))) (by decide))))))))))))
theorem ok_law (tx : Tx K mg A) {fd : FuncData} (F : Fun K "law" "law" s_law A.f_law fd) (hS : ∀ (a : Nat) (g : G), g.on = true → g.at_ = a → GOk g → ∃ g', B_law ([none, some (.gen a)] ++ List.replicate 24 none) g = .rt (.bl true) g') : FnOk P w K mg base (L2.CX P w) 19 A.f_law fd ["script"] (spLaw K) := by
  obtain ⟨fdS, FS, kS, bS⟩ := ok_law_state (P := P) (w := w) (base := base) tx
  refine law_mk (T := TT K A) (S := B_law) (own := []) F sc_law rfl (FS.mono (by decide)) kS bS tx.g_law_state rfl rfl (by first | exact Or.inl rfl | exact Or.inr (Or.inl rfl) | exact Or.inr (Or.inr rfl)) (by first | exact Or.inl rfl | exact Or.inr rfl) (fun _ _ _ _ _ _ => rfl) (fun _ _ _ _ _ _ => by first | exact Or.inl rfl | exact Or.inr rfl) (fun cdv A' outer s H E Z hZ hr => ?_) hS
  have hu := hr.units
  have hu1 := hu_of hr
  have hu9 := room9 hr
  exact (ss_cons (s_set (i := 2) sc_law.nd rfl (by first | exact Or.inl rfl | exact Or.inr rfl) (x_bin op_addA bin_add x_int (x_callO (ok_law_take tx) rfl (hr.mono (by decide)) rfl tx.g_law_take (takes_of rfl rfl rfl rfl) (a_cons (x_var (pv 1) (by decide)) (a_cons x_int a_nil)) (al_cons (al_cons al_nil)))) (by decide)) (ss_cons (s_set (i := 3) sc_law.nd rfl (by first | exact Or.inl rfl | exact Or.inr rfl) (x_callO (ok_law_word tx) rfl (hr.mono (by decide)) rfl tx.g_law_word (takes_of rfl rfl rfl rfl) (a_cons (x_var (pv 1) (by decide)) (a_cons (x_var (pv 2) (by decide)) (a_cons (x_callO (ok_law_take tx) rfl (hr.mono (by decide)) rfl tx.g_law_take (takes_of rfl rfl rfl rfl) (a_cons (x_var (pv 1) (by decide)) (a_cons x_int a_nil)) (al_cons (al_cons al_nil))) a_nil))) (al_cons (al_cons (al_cons al_nil)))) (by decide)) (ss_cons (s_par (i := 16) (j := 11) rfl sc_law.nd rfl rfl (by decide) rfl rfl (a_cons (x_callO (ok_law_take tx) rfl (hr.mono (by decide)) rfl tx.g_law_take (takes_of rfl rfl rfl rfl) (a_cons (x_var (pv 1) (by decide)) (a_cons (x_bin op_addA bin_add (x_cb call_lenA cl_len rfl tx.m_len PySem.boot_len (a_cons (x_var (pv 3) (by decide)) a_nil)) x_int) a_nil)) (al_cons (al_cons al_nil))) (a_cons (x_bin op_addA bin_add x_int (x_callO (ok_law_take tx) rfl (hr.mono (by decide)) rfl tx.g_law_take (takes_of rfl rfl rfl rfl) (a_cons (x_var (pv 1) (by decide)) (a_cons x_int a_nil)) (al_cons (al_cons al_nil)))) a_nil)) rfl (by decide) (by decide)) (ss_cons (s_set (i := 4) sc_law.nd rfl (by first | exact Or.inl rfl | exact Or.inr rfl) (x_slice (x_var (pv 3) (by decide)) (o_some (x_var (pv 16) (by decide))) (o_some (x_bin op_addA bin_add (x_var (pv 16) (by decide)) (x_var (pv 11) (by decide))))) (by decide)) (ss_cons (s_set (i := 4) sc_law.nd rfl (by first | exact Or.inl rfl | exact Or.inr rfl) (x_if (xt_cmp (op_neD hu) bin_ne (nomark _) (x_var (pv 4) (by decide)) (x_str [])) (x_var (pv 4) (by decide)) (x_str [97])) (by decide)) (ss_cons (s_set (i := 5) sc_law.nd rfl (by first | exact Or.inl rfl | exact Or.inr rfl) (x_callO (ok_law_places tx) rfl (hr.mono (by decide)) rfl tx.g_law_places (takes_of rfl rfl rfl rfl) (a_cons (x_var (pv 3) (by decide)) (a_cons (x_var (pv 4) (by decide)) a_nil)) (al_cons (al_cons al_nil))) (by decide)) (ss_cons (s_setF (i := 6) sc_law.nd rfl (by first | exact Or.inl rfl | exact Or.inr rfl) (f_lst a_nil) (by decide)) (ss_cons (s_pre (own1 := [6]) (s_for (passes_of rfl) rfl (i_zipG rfl tx.m_zip (a_cons (x_var (pv 5) (by decide)) (a_cons (x_slice (x_var (pv 5) (by decide)) (o_some x_int) o_none) a_nil))) (g_tup rfl (gs_cons (g_name sc_law.nd rfl (by first | exact Or.inl rfl | exact Or.inr rfl)) (gs_cons (g_name sc_law.nd rfl (by first | exact Or.inl rfl | exact Or.inr rfl)) (gs_nil (is := []))))) (ss_one (s_if (xt_flat (xt_cmp (op_ninA hu1) bin_nin (by with_unfolding_all rfl) (x_slice (x_var (pv 3) (by decide)) (o_some (x_var (pv 17) (by decide))) (o_some (x_var (pv 18) (by decide)))) (x_var (pv 6) (by decide)))) (ss_one (s_app (i := 6) rfl (by first | exact Or.inl rfl | exact Or.inr (Or.inl rfl) | exact Or.inr (Or.inr rfl)) (by decide) (x_slice (x_var (pv 3) (by decide)) (o_some (x_var (pv 17) (by decide))) (o_some (x_var (pv 18) (by decide)))))) ss_nil)) (by decide)) (by decide)) (ss_cons (s_pre (own1 := []) (s_if (xt_not (xt_val (x_callO (ok_law_same tx) rfl (hr.mono (by decide)) rfl tx.g_law_same (takes_of rfl rfl rfl rfl) (a_cons (x_callO (ok_return_words tx) rfl (hr.mono (by decide)) rfl tx.g_return_words (takes_of rfl rfl rfl rfl) (a_cons (x_var (pv 3) (by decide)) (a_cons (x_var (pv 4) (by decide)) a_nil)) (al_cons (al_cons al_nil))) (a_cons (x_ct PPT.call_tupleF cl_tuple rfl tx.m_tuple (by decide +kernel) (a_cons (x_var (pv 6) (by decide)) a_nil)) a_nil)) (al_cons (al_cons al_nil))))) (ss_one (s_ret hZ x_bl)) ss_nil) (by decide)) (ss_cons (s_set (i := 7) sc_law.nd rfl (by first | exact Or.inl rfl | exact Or.inr rfl) (x_callO (ok_law_told tx) rfl (hr.mono (by decide)) rfl tx.g_law_told (takes_of rfl rfl rfl rfl) (a_cons (x_gfn 0 rfl rfl tx.g_derived_word) (a_cons (x_tup (a_cons (x_var (pv 3) (by decide)) (a_cons (x_var (pv 4) (by decide)) a_nil))) a_nil)) (al_cons (al_cons al_nil))) (by decide)) (ss_cons (s_if (xt_cmp op_gtA bin_gt (nomark _) (x_cb call_lenA cl_len rfl tx.m_len PySem.boot_len (a_cons (x_var (pv 6) (by decide)) a_nil)) x_int) (ss_one (s_if (xt_cmp (op_neD hu) bin_ne (nomark _) (x_var (pv 7) (by decide)) (x_tup (a_cons (x_str [114, 101, 102, 117, 115, 101, 100]) (a_cons (x_str [109, 97, 110, 121]) a_nil)))) (ss_one (s_ret hZ x_bl)) ss_nil)) (ss_cons (s_set (i := 19) sc_law.nd rfl (by first | exact Or.inl rfl | exact Or.inr rfl) (x_join (x_str []) (XF.toE (f_lc (ownN := [("a", 17), ("b", 18)]) rfl sc_law.nd (i_zipG rfl tx.m_zip (a_cons (x_var (pv 5) (by decide)) (a_cons (x_slice (x_var (pv 5) (by decide)) (o_some x_int) o_none) a_nil))) (blkOk_by (by first | (show blkC ["script", "state", "size", "word", "piece", "places", "found", "told", "own", "golden", "row", "length", "lot", "low", "back", "tried", "k", "a", "b", "due", "one", "two", "act", "given", "x", "c"] (defScope s_law) _ _ = true; decide +kernel) | exact rfl)) (fun _ _ _ _ _ => (g_tup rfl (gs_cons (g_name sc_law.nd rfl (by first | exact Or.inl rfl | exact Or.inr rfl)) (gs_cons (g_name sc_law.nd rfl (by first | exact Or.inl rfl | exact Or.inr rfl)) (gs_nil (is := [])))))) (fun _ _ _ _ _ => ts_nil) (fun _ _ _ _ _ => (x_ix hu1 (x_str [97, 98, 99, 100]) (x_idx (x_var (pv 6) (by decide)) (x_slice (x_var (pv 3) (by decide)) (o_some (x_var (pv 17) (by decide))) (o_some (x_var (pv 18) (by decide))))))) (by decide) (by decide)))) (by decide)) (ss_cons (s_if (xt_not (xt_val (x_callO (ok_law_same tx) rfl (hr.mono (by decide)) rfl tx.g_law_same (takes_of rfl rfl rfl rfl) (a_cons (x_var (pv 7) (by decide)) (a_cons (x_tup (a_cons (x_str [116, 111, 108, 100]) (a_cons (x_var (pv 19) (by decide)) a_nil))) a_nil)) (al_cons (al_cons al_nil))))) (ss_one (s_ret hZ x_bl)) ss_nil) (ss_one (s_if (XW.t (xw_and (xt_cmp op_gtA bin_gt (nomark _) (x_cb call_lenA cl_len rfl tx.m_len PySem.boot_len (a_cons (x_var (pv 5) (by decide)) a_nil)) x_int) (xw_and1 (xt_cmp (op_neD hu) bin_ne (nomark _) (x_bin op_addA bin_add (x_join (x_str []) (XF.toE (f_lc (ownN := [("c", 25)]) rfl sc_law.nd (i_seq (x_var (pv 19) (by decide))) (blkOk_by (by first | (show blkC ["script", "state", "size", "word", "piece", "places", "found", "told", "own", "golden", "row", "length", "lot", "low", "back", "tried", "k", "a", "b", "due", "one", "two", "act", "given", "x", "c"] (defScope s_law) _ _ = true; decide +kernel) | exact rfl)) (fun _ _ _ _ _ => (g_name sc_law.nd rfl (by first | exact Or.inl rfl | exact Or.inr rfl))) (fun _ _ _ _ _ => ts_nil) (fun _ _ _ _ _ => (x_ix hu1 (x_var (pv 6) (by decide)) (x_index (x_str [97, 98, 99, 100]) (x_var (pv 25) (by decide))))) (by decide) (by decide)))) (x_var (pv 4) (by decide))) (x_slice (x_var (pv 3) (by decide)) (o_some (x_ix hu1 (x_var (pv 5) (by decide)) x_int)) (o_some (x_bin op_addA bin_add (x_ix hu1 (x_var (pv 5) (by decide)) (x_neg x_int)) (x_cb call_lenA cl_len rfl tx.m_len PySem.boot_len (a_cons (x_var (pv 4) (by decide)) a_nil))))))))) (ss_one (s_ret hZ x_bl)) ss_nil))))) (ss_cons (s_kill (is := [8]) (s_pre (own1 := []) (s_for (passes_of rfl) rfl (i_seq (x_var (pv 6) (by decide))) (g_name sc_law.nd rfl (by first | exact Or.inl rfl | exact Or.inr rfl)) (ss_kill (is := [8]) (ss_one (s_if (xt_cmp (op_neD hu) bin_ne (nomark _) (x_callO (ok_law_places tx) rfl (hr.mono (by decide)) rfl tx.g_law_places (takes_of rfl rfl rfl rfl) (a_cons (x_bin op_addA bin_add (x_var (pv 8) (by decide)) (x_var (pv 4) (by decide))) (a_cons (x_var (pv 4) (by decide)) a_nil)) (al_cons (al_cons al_nil))) (XF.toE (f_lst (a_cons x_int (a_cons (x_cb call_lenA cl_len rfl tx.m_len PySem.boot_len (a_cons (x_var (pv 8) (by decide)) a_nil)) a_nil))))) (ss_one (s_ret hZ x_bl)) ss_nil)) (by decide)) (by decide)) (by decide)) (by decide)) (ss_cons (s_set (i := 9) sc_law.nd rfl (by first | exact Or.inl rfl | exact Or.inr rfl) (x_callO (ok_named_rule tx) rfl (hr.mono (by decide)) rfl tx.g_named_rule (takes_of rfl rfl rfl rfl) (a_cons (x_str [103, 111, 108, 100, 101, 110]) a_nil) (al_cons al_nil)) (by decide)) (ss_cons (s_set (i := 10) sc_law.nd rfl (by first | exact Or.inl rfl | exact Or.inr rfl) (x_callO (ok_fixed_start tx) rfl (hr.mono (by decide)) rfl tx.g_fixed_start (takes_of rfl rfl rfl rfl) (a_cons (x_var (pv 9) (by decide)) (a_cons (x_str [97]) (a_cons x_int a_nil))) (al_cons (al_cons (al_cons al_nil)))) (by decide)) (ss_cons (s_set (i := 11) sc_law.nd rfl (by first | exact Or.inl rfl | exact Or.inr rfl) (x_bin op_addA bin_add x_int (x_callO (ok_law_take tx) rfl (hr.mono (by decide)) rfl tx.g_law_take (takes_of rfl rfl rfl rfl) (a_cons (x_var (pv 1) (by decide)) (a_cons x_int a_nil)) (al_cons (al_cons al_nil)))) (by decide)) (ss_cons (s_set (i := 12) sc_law.nd rfl (by first | exact Or.inl rfl | exact Or.inr rfl) (x_callO (ok_grown_words tx) rfl (hr.mono (by decide)) rfl tx.g_grown_words (takes_of rfl rfl rfl rfl) (a_cons (x_var (pv 9) (by decide)) (a_cons (x_var (pv 11) (by decide)) a_nil)) (al_cons (al_cons al_nil))) (by decide)) (ss_cons (s_set (i := 13) sc_law.nd rfl (by first | exact Or.inl rfl | exact Or.inr rfl) (x_ix hu1 (x_var (pv 12) (by decide)) (x_callO (ok_law_take tx) rfl (hr.mono (by decide)) rfl tx.g_law_take (takes_of rfl rfl rfl rfl) (a_cons (x_var (pv 1) (by decide)) (a_cons (x_cb call_lenA cl_len rfl tx.m_len PySem.boot_len (a_cons (x_var (pv 12) (by decide)) a_nil)) a_nil)) (al_cons (al_cons al_nil)))) (by decide)) (ss_cons (s_set (i := 14) sc_law.nd rfl (by first | exact Or.inl rfl | exact Or.inr rfl) (x_callO (ok_return_words tx) rfl (hr.mono (by decide)) rfl tx.g_return_words (takes_of rfl rfl rfl rfl) (a_cons (x_var (pv 10) (by decide)) (a_cons (x_var (pv 13) (by decide)) a_nil)) (al_cons (al_cons al_nil))) (by decide)) (ss_cons (s_if (XW.t (xw_or (xt_cmp (op_neD hu) bin_ne (nomark _) (x_cb call_lenA cl_len rfl tx.m_len PySem.boot_len (a_cons (x_var (pv 14) (by decide)) a_nil)) x_int) (xw_or (xt_val (x_cb (cr_any rfl) cl_any rfl tx.m_any (by decide +kernel) (a_cons (XF.toE (f_lc (ownN := [("x", 24)]) rfl sc_law.nd (i_seq (x_callO (ok_derived_word tx) rfl (hr.mono (by decide)) rfl tx.g_derived_word (takes_of rfl rfl rfl rfl) (a_cons (x_var (pv 10) (by decide)) (a_cons (x_var (pv 13) (by decide)) a_nil)) (al_cons (al_cons al_nil)))) (blkOk_by (by first | (show blkC ["script", "state", "size", "word", "piece", "places", "found", "told", "own", "golden", "row", "length", "lot", "low", "back", "tried", "k", "a", "b", "due", "one", "two", "act", "given", "x", "c"] (defScope s_law) _ _ = true; decide +kernel) | exact rfl)) (fun _ _ _ _ _ => (g_name sc_law.nd rfl (by first | exact Or.inl rfl | exact Or.inr rfl))) (fun _ _ _ _ _ => ts_nil) (fun _ _ _ _ _ => (x_cmp (op_ninA hu1) bin_nin (by with_unfolding_all rfl) (x_var (pv 24) (by decide)) (x_str [97, 98]))) (by decide) (by decide))) a_nil))) (xw_or1 (xt_cmp op_gtA bin_gt (nomark _) (x_cb call_abs cl_abs rfl tx.m_abs (by decide +kernel) (a_cons (x_bin op_sub bin_sub (x_cb call_lenA cl_len rfl tx.m_len PySem.boot_len (a_cons (x_ix hu1 (x_var (pv 14) (by decide)) x_int) a_nil)) (x_cb call_lenA cl_len rfl tx.m_len PySem.boot_len (a_cons (x_ix hu1 (x_var (pv 14) (by decide)) x_int) a_nil))) a_nil)) x_int))))) (ss_one (s_ret hZ x_bl)) ss_nil) (ss_cons (s_par (i := 20) (j := 21) rfl sc_law.nd rfl rfl (by decide) rfl rfl (a_cons (x_callO (ok_return_words tx) rfl (hr.mono (by decide)) rfl tx.g_return_words (takes_of rfl rfl rfl rfl) (a_cons (x_var (pv 10) (by decide)) (a_cons (x_slice (x_var (pv 13) (by decide)) o_none (o_some x_int)) a_nil)) (al_cons (al_cons al_nil))) (a_cons (x_callO (ok_derived_word tx) rfl (hr.mono (by decide)) rfl tx.g_derived_word (takes_of rfl rfl rfl rfl) (a_cons (x_var (pv 10) (by decide)) (a_cons (x_str [97]) a_nil)) (al_cons (al_cons al_nil))) a_nil)) rfl (by decide) (by decide)) (ss_cons (s_if (XW.t (xw_or (xt_cmp (op_neD hu) bin_ne (nomark _) (x_cb call_lenA cl_len rfl tx.m_len PySem.boot_len (a_cons (x_var (pv 20) (by decide)) a_nil)) x_int) (xw_or1 (XW.t (xw_and (xt_cmp (op_neD hu) bin_ne (nomark _) (x_var (pv 21) (by decide)) (x_slice (x_var (pv 10) (by decide)) o_none (o_some (x_cb call_lenA cl_len rfl tx.m_len PySem.boot_len (a_cons (x_var (pv 21) (by decide)) a_nil))))) (xw_and1 (xt_cmp (op_neD hu) bin_ne (nomark _) (x_var (pv 21) (by decide)) (x_join (x_str []) (XF.toE (f_lc (ownN := [("c", 25)]) rfl sc_law.nd (i_seq (x_slice (x_var (pv 10) (by decide)) o_none (o_some (x_cb call_lenA cl_len rfl tx.m_len PySem.boot_len (a_cons (x_var (pv 21) (by decide)) a_nil))))) (blkOk_by (by first | (show blkC ["script", "state", "size", "word", "piece", "places", "found", "told", "own", "golden", "row", "length", "lot", "low", "back", "tried", "k", "a", "b", "due", "one", "two", "act", "given", "x", "c"] (defScope s_law) _ _ = true; decide +kernel) | exact rfl)) (fun _ _ _ _ _ => (g_name sc_law.nd rfl (by first | exact Or.inl rfl | exact Or.inr rfl))) (fun _ _ _ _ _ => ts_nil) (fun _ _ _ _ _ => (x_ix hu1 (x_str [97, 98]) (x_index (x_str [98, 97]) (x_var (pv 25) (by decide))))) (by decide) (by decide))))))))))) (ss_one (s_ret hZ x_bl)) ss_nil) (ss_cons (s_if (XW.t (xw_or (xt_cmp (op_neD hu) bin_ne (nomark _) (x_callO (ok_return_words tx) rfl (hr.mono (by decide)) rfl tx.g_return_words (takes_of rfl rfl rfl rfl) (a_cons (x_str []) (a_cons (x_str [97]) a_nil)) (al_cons (al_cons al_nil))) (x_tup a_nil)) (xw_or (xt_cmp (op_neD hu) bin_ne (nomark _) (x_callO (ok_derived_word tx) rfl (hr.mono (by decide)) rfl tx.g_derived_word (takes_of rfl rfl rfl rfl) (a_cons (x_str [97]) (a_cons (x_str [97]) a_nil)) (al_cons (al_cons al_nil))) (x_str [])) (xw_or (xt_cmp (op_neD hu) bin_ne (nomark _) (x_callO (ok_return_words tx) rfl (hr.mono (by decide)) rfl tx.g_return_words (takes_of rfl rfl rfl rfl) (a_cons (x_str [97, 97, 97]) (a_cons (x_str [97, 97]) a_nil)) (al_cons (al_cons al_nil))) (x_tup (a_cons (x_str [97]) a_nil))) (xw_or1 (xt_not (xt_val (x_callO (ok_law_same tx) rfl (hr.mono (by decide)) rfl tx.g_law_same (takes_of rfl rfl rfl rfl) (a_cons (x_callO (ok_derived_word tx) rfl (hr.mono (by decide)) rfl tx.g_derived_word (takes_of rfl rfl rfl rfl) (a_cons (x_str [97, 98, 99, 97, 99, 98]) (a_cons (x_str [97]) a_nil)) (al_cons (al_cons al_nil))) (a_cons (x_str [97]) a_nil)) (al_cons (al_cons al_nil)))))))))) (ss_one (s_ret hZ x_bl)) ss_nil) (ss_cons (s_set (i := 15) sc_law.nd rfl (by first | exact Or.inl rfl | exact Or.inr rfl) (XF.toE (f_lst (a_cons (x_tup (a_cons (x_gfn 1 rfl rfl tx.g_return_words) (a_cons (x_tup (a_cons (x_var (pv 3) (by decide)) (a_cons (x_str []) a_nil))) a_nil))) (a_cons (x_tup (a_cons (x_gfn 1 rfl rfl tx.g_return_words) (a_cons (x_tup (a_cons (x_var (pv 3) (by decide)) (a_cons x_non a_nil))) a_nil))) (a_cons (x_tup (a_cons (x_gfn 1 rfl rfl tx.g_return_words) (a_cons (x_tup (a_cons x_int (a_cons (x_str [97]) a_nil))) a_nil))) (a_cons (x_tup (a_cons (x_gfn 1 rfl rfl tx.g_return_words) (a_cons (x_tup (a_cons (x_str [101]) (a_cons (x_str [97]) a_nil))) a_nil))) (a_cons (x_tup (a_cons (x_gfn 1 rfl rfl tx.g_return_words) (a_cons (x_tup (a_cons (x_var (pv 3) (by decide)) (a_cons (x_str [101]) a_nil))) a_nil))) a_nil))))))) (by decide)) (ss_cons (s_set (i := 15) sc_law.nd rfl (by first | exact Or.inl rfl | exact Or.inr rfl) (x_bin op_addA bin_add (x_var (pv 15) (by decide)) (XF.toE (f_lst (a_cons (x_tup (a_cons (x_gfn 0 rfl rfl tx.g_derived_word) (a_cons (x_tup (a_cons (x_var (pv 3) (by decide)) (a_cons (x_str []) a_nil))) a_nil))) (a_cons (x_tup (a_cons (x_gfn 0 rfl rfl tx.g_derived_word) (a_cons (x_tup (a_cons x_non (a_cons (x_str [97]) a_nil))) a_nil))) (a_cons (x_tup (a_cons (x_gfn 0 rfl rfl tx.g_derived_word) (a_cons (x_tup (a_cons (x_bin op_mulB bin_mul2 (x_str [97]) x_int) (a_cons (x_str [97]) a_nil))) a_nil))) a_nil)))))) (by decide)) (ss_one (s_ret hZ (x_cmp (op_eqD hu) bin_eq (nomark _) (XF.toE (f_lc (ownN := [("act", 22), ("given", 23)]) rfl sc_law.nd (i_seq (x_var (pv 15) (by decide))) (blkOk_by (by first | (show blkC ["script", "state", "size", "word", "piece", "places", "found", "told", "own", "golden", "row", "length", "lot", "low", "back", "tried", "k", "a", "b", "due", "one", "two", "act", "given", "x", "c"] (defScope s_law) _ _ = true; decide +kernel) | exact rfl)) (fun _ _ _ _ _ => (g_tup rfl (gs_cons (g_name sc_law.nd rfl (by first | exact Or.inl rfl | exact Or.inr rfl)) (gs_cons (g_name sc_law.nd rfl (by first | exact Or.inl rfl | exact Or.inr rfl)) (gs_nil (is := [])))))) (fun _ _ _ _ _ => ts_nil) (fun _ _ _ _ _ => (x_ix hu1 (x_callO (ok_law_told tx) rfl (hr.mono (by decide)) rfl tx.g_law_told takes_none5 (a_cons (x_var (pv 22) (by decide)) (a_cons (x_var (pv 23) (by decide)) a_nil)) (al_cons (al_cons al_nil))) x_int)) (by decide) (by decide))) (x_bin op_mulA bin_mul (XF.toE (f_lst (a_cons (x_str [109, 97, 108, 102, 111, 114, 109, 101, 100]) a_nil))) x_int))))))))))))))))))))))))))))
theorem all_mk {af_law_take af_law_state af_is_integer af_check_from af_is_row af_is_word af_check_word af_factors_of af_is_table af_check_growing af_letter_table af_is_primitive af_is_steady af_grown_words af_fixed_letters af_fixed_start af_return_words af_derived_word af_named_rule af_law_is_whole af_law_same af_law_told af_law_word af_law_places af_law af_Growing_init af_Growing_on af_Refused_init ac__Malformed ac__Refused ac__Fault ac__Growing : Addr} {fa : Addr} {h : Heap} (KX : K.In h) (KG : h.Ns mainGlobals mg) (hfa : mg "law" = some (.ref fa))
    {od0 an0 : Option Addr} {sl0 : Array (Option Value)} {oc0 kV0 dc0 pm0 cd0 ct0 : Value}
    {od1 an1 : Option Addr} {sl1 : Array (Option Value)} {oc1 kV1 dc1 pm1 cd1 ct1 : Value}
    {od2 an2 : Option Addr} {sl2 : Array (Option Value)} {oc2 kV2 dc2 pm2 cd2 ct2 : Value}
    {od3 an3 : Option Addr} {sl3 : Array (Option Value)} {oc3 kV3 dc3 pm3 cd3 ct3 : Value}
    {od4 an4 : Option Addr} {sl4 : Array (Option Value)} {oc4 kV4 dc4 pm4 cd4 ct4 : Value}
    {od5 an5 : Option Addr} {sl5 : Array (Option Value)} {oc5 kV5 dc5 pm5 cd5 ct5 : Value}
    {od6 an6 : Option Addr} {sl6 : Array (Option Value)} {oc6 kV6 dc6 pm6 cd6 ct6 : Value}
    {od7 an7 : Option Addr} {sl7 : Array (Option Value)} {oc7 kV7 dc7 pm7 cd7 ct7 : Value}
    {od8 an8 : Option Addr} {sl8 : Array (Option Value)} {oc8 kV8 dc8 pm8 cd8 ct8 : Value}
    {od9 an9 : Option Addr} {sl9 : Array (Option Value)} {oc9 kV9 dc9 pm9 cd9 ct9 : Value}
    {od10 an10 : Option Addr} {sl10 : Array (Option Value)} {oc10 kV10 dc10 pm10 cd10 ct10 : Value}
    {od11 an11 : Option Addr} {sl11 : Array (Option Value)} {oc11 kV11 dc11 pm11 cd11 ct11 : Value}
    {od12 an12 : Option Addr} {sl12 : Array (Option Value)} {oc12 kV12 dc12 pm12 cd12 ct12 : Value}
    {od13 an13 : Option Addr} {sl13 : Array (Option Value)} {oc13 kV13 dc13 pm13 cd13 ct13 : Value}
    {od14 an14 : Option Addr} {sl14 : Array (Option Value)} {oc14 kV14 dc14 pm14 cd14 ct14 : Value}
    {od15 an15 : Option Addr} {sl15 : Array (Option Value)} {oc15 kV15 dc15 pm15 cd15 ct15 : Value}
    {od16 an16 : Option Addr} {sl16 : Array (Option Value)} {oc16 kV16 dc16 pm16 cd16 ct16 : Value}
    {od17 an17 : Option Addr} {sl17 : Array (Option Value)} {oc17 kV17 dc17 pm17 cd17 ct17 : Value}
    {od18 an18 : Option Addr} {sl18 : Array (Option Value)} {oc18 kV18 dc18 pm18 cd18 ct18 : Value}
    {od19 an19 : Option Addr} {sl19 : Array (Option Value)} {oc19 kV19 dc19 pm19 cd19 ct19 : Value}
    {od20 an20 : Option Addr} {sl20 : Array (Option Value)} {oc20 kV20 dc20 pm20 cd20 ct20 : Value}
    {od21 an21 : Option Addr} {sl21 : Array (Option Value)} {oc21 kV21 dc21 pm21 cd21 ct21 : Value}
    {od22 an22 : Option Addr} {sl22 : Array (Option Value)} {oc22 kV22 dc22 pm22 cd22 ct22 : Value}
    {od23 an23 : Option Addr} {sl23 : Array (Option Value)} {oc23 kV23 dc23 pm23 cd23 ct23 : Value}
    {od24 an24 : Option Addr} {sl24 : Array (Option Value)} {oc24 kV24 dc24 pm24 cd24 ct24 : Value}
    {od25 an25 : Option Addr} {sl25 : Array (Option Value)} {oc25 kV25 dc25 pm25 cd25 ct25 : Value}
    {od26 an26 : Option Addr} {sl26 : Array (Option Value)} {oc26 kV26 dc26 pm26 cd26 ct26 : Value}
    {od27 an27 : Option Addr} {sl27 : Array (Option Value)} {oc27 kV27 dc27 pm27 cd27 ct27 : Value}
    {t_LETTERS : Tok}
    {t_MOST_IMAGE : Tok}
    {t_MOST_SIDE : Tok}
    {t_MOST_TEXT : Tok}
    {nm_Refused q_Refused : Str} {N_Refused : Addr} {bs_Refused bm_Refused : List Value} {sn_Refused : List Str} {sub_Refused : List Value} {ab_Refused : Bool} {col_Refused : Option Bool} {dd_Refused : Option Addr} {m0_Refused m1_Refused m2_Refused m3_Refused m5_Refused : Option Value}
    (a0 : PySem.W.nsIn K mainGlobals "_law_take" = some (some (.ref af_law_take))) (l0 : K.lookup af_law_take = some ⟨oc0, od0, .func (PySem.W.fnOf "_law_take" "_law_take" (defArgs s_law_take) (defBody s_law_take) (defScope s_law_take) .none kV0 dc0 pm0 an0 cd0 ct0), sl0⟩) (c0 : PySem.W.codeIn K cd0 "_law_take" = true) (k0 : PySem.W.keepIn K (.ref af_law_take) = true)
    (a1 : PySem.W.nsIn K mainGlobals "_law_state" = some (some (.ref af_law_state))) (l1 : K.lookup af_law_state = some ⟨oc1, od1, .func (PySem.W.fnOf "_law_state" "_law_state" (defArgs s_law_state) (defBody s_law_state) (defScope s_law_state) .none kV1 dc1 pm1 an1 cd1 ct1), sl1⟩) (c1 : PySem.W.codeIn K cd1 "_law_state" = true) (k1 : PySem.W.keepIn K (.ref af_law_state) = true)
    (a2 : PySem.W.nsIn K mainGlobals "is_integer" = some (some (.ref af_is_integer))) (l2 : K.lookup af_is_integer = some ⟨oc2, od2, .func (PySem.W.fnOf "is_integer" "is_integer" (defArgs s_is_integer) (defBody s_is_integer) (defScope s_is_integer) .none kV2 dc2 pm2 an2 cd2 ct2), sl2⟩) (c2 : PySem.W.codeIn K cd2 "is_integer" = true) (k2 : PySem.W.keepIn K (.ref af_is_integer) = true)
    (a3 : PySem.W.nsIn K mainGlobals "check_from" = some (some (.ref af_check_from))) (l3 : K.lookup af_check_from = some ⟨oc3, od3, .func (PySem.W.fnOf "check_from" "check_from" (defArgs s_check_from) (defBody s_check_from) (defScope s_check_from) .none kV3 dc3 pm3 an3 cd3 ct3), sl3⟩) (c3 : PySem.W.codeIn K cd3 "check_from" = true) (k3 : PySem.W.keepIn K (.ref af_check_from) = true)
    (a4 : PySem.W.nsIn K mainGlobals "is_row" = some (some (.ref af_is_row))) (l4 : K.lookup af_is_row = some ⟨oc4, od4, .func (PySem.W.fnOf "is_row" "is_row" (defArgs s_is_row) (defBody s_is_row) (defScope s_is_row) .none kV4 dc4 pm4 an4 cd4 ct4), sl4⟩) (c4 : PySem.W.codeIn K cd4 "is_row" = true) (k4 : PySem.W.keepIn K (.ref af_is_row) = true)
    (a5 : PySem.W.nsIn K mainGlobals "is_word" = some (some (.ref af_is_word))) (l5 : K.lookup af_is_word = some ⟨oc5, od5, .func (PySem.W.fnOf "is_word" "is_word" (defArgs s_is_word) (defBody s_is_word) (defScope s_is_word) .none kV5 dc5 pm5 an5 cd5 ct5), sl5⟩) (c5 : PySem.W.codeIn K cd5 "is_word" = true) (k5 : PySem.W.keepIn K (.ref af_is_word) = true)
    (a6 : PySem.W.nsIn K mainGlobals "check_word" = some (some (.ref af_check_word))) (l6 : K.lookup af_check_word = some ⟨oc6, od6, .func (PySem.W.fnOf "check_word" "check_word" (defArgs s_check_word) (defBody s_check_word) (defScope s_check_word) .none kV6 dc6 pm6 an6 cd6 ct6), sl6⟩) (c6 : PySem.W.codeIn K cd6 "check_word" = true) (k6 : PySem.W.keepIn K (.ref af_check_word) = true)
    (a7 : PySem.W.nsIn K mainGlobals "factors_of" = some (some (.ref af_factors_of))) (l7 : K.lookup af_factors_of = some ⟨oc7, od7, .func (PySem.W.fnOf "factors_of" "factors_of" (defArgs s_factors_of) (defBody s_factors_of) (defScope s_factors_of) .none kV7 dc7 pm7 an7 cd7 ct7), sl7⟩) (c7 : PySem.W.codeIn K cd7 "factors_of" = true) (k7 : PySem.W.keepIn K (.ref af_factors_of) = true)
    (a8 : PySem.W.nsIn K mainGlobals "is_table" = some (some (.ref af_is_table))) (l8 : K.lookup af_is_table = some ⟨oc8, od8, .func (PySem.W.fnOf "is_table" "is_table" (defArgs s_is_table) (defBody s_is_table) (defScope s_is_table) .none kV8 dc8 pm8 an8 cd8 ct8), sl8⟩) (c8 : PySem.W.codeIn K cd8 "is_table" = true) (k8 : PySem.W.keepIn K (.ref af_is_table) = true)
    (a9 : PySem.W.nsIn K mainGlobals "check_growing" = some (some (.ref af_check_growing))) (l9 : K.lookup af_check_growing = some ⟨oc9, od9, .func (PySem.W.fnOf "check_growing" "check_growing" (defArgs s_check_growing) (defBody s_check_growing) (defScope s_check_growing) .none kV9 dc9 pm9 an9 cd9 ct9), sl9⟩) (c9 : PySem.W.codeIn K cd9 "check_growing" = true) (k9 : PySem.W.keepIn K (.ref af_check_growing) = true)
    (a10 : PySem.W.nsIn K mainGlobals "letter_table" = some (some (.ref af_letter_table))) (l10 : K.lookup af_letter_table = some ⟨oc10, od10, .func (PySem.W.fnOf "letter_table" "letter_table" (defArgs s_letter_table) (defBody s_letter_table) (defScope s_letter_table) .none kV10 dc10 pm10 an10 cd10 ct10), sl10⟩) (c10 : PySem.W.codeIn K cd10 "letter_table" = true) (k10 : PySem.W.keepIn K (.ref af_letter_table) = true)
    (a11 : PySem.W.nsIn K mainGlobals "is_primitive" = some (some (.ref af_is_primitive))) (l11 : K.lookup af_is_primitive = some ⟨oc11, od11, .func (PySem.W.fnOf "is_primitive" "is_primitive" (defArgs s_is_primitive) (defBody s_is_primitive) (defScope s_is_primitive) .none kV11 dc11 pm11 an11 cd11 ct11), sl11⟩) (c11 : PySem.W.codeIn K cd11 "is_primitive" = true) (k11 : PySem.W.keepIn K (.ref af_is_primitive) = true)
    (a12 : PySem.W.nsIn K mainGlobals "is_steady" = some (some (.ref af_is_steady))) (l12 : K.lookup af_is_steady = some ⟨oc12, od12, .func (PySem.W.fnOf "is_steady" "is_steady" (defArgs s_is_steady) (defBody s_is_steady) (defScope s_is_steady) .none kV12 dc12 pm12 an12 cd12 ct12), sl12⟩) (c12 : PySem.W.codeIn K cd12 "is_steady" = true) (k12 : PySem.W.keepIn K (.ref af_is_steady) = true)
    (a13 : PySem.W.nsIn K mainGlobals "grown_words" = some (some (.ref af_grown_words))) (l13 : K.lookup af_grown_words = some ⟨oc13, od13, .func (PySem.W.fnOf "grown_words" "grown_words" (defArgs s_grown_words) (defBody s_grown_words) (defScope s_grown_words) .none kV13 dc13 pm13 an13 cd13 ct13), sl13⟩) (c13 : PySem.W.codeIn K cd13 "grown_words" = true) (k13 : PySem.W.keepIn K (.ref af_grown_words) = true)
    (a14 : PySem.W.nsIn K mainGlobals "fixed_letters" = some (some (.ref af_fixed_letters))) (l14 : K.lookup af_fixed_letters = some ⟨oc14, od14, .func (PySem.W.fnOf "fixed_letters" "fixed_letters" (defArgs s_fixed_letters) (defBody s_fixed_letters) (defScope s_fixed_letters) .none kV14 dc14 pm14 an14 cd14 ct14), sl14⟩) (c14 : PySem.W.codeIn K cd14 "fixed_letters" = true) (k14 : PySem.W.keepIn K (.ref af_fixed_letters) = true)
    (a15 : PySem.W.nsIn K mainGlobals "fixed_start" = some (some (.ref af_fixed_start))) (l15 : K.lookup af_fixed_start = some ⟨oc15, od15, .func (PySem.W.fnOf "fixed_start" "fixed_start" (defArgs s_fixed_start) (defBody s_fixed_start) (defScope s_fixed_start) .none kV15 dc15 pm15 an15 cd15 ct15), sl15⟩) (c15 : PySem.W.codeIn K cd15 "fixed_start" = true) (k15 : PySem.W.keepIn K (.ref af_fixed_start) = true)
    (a16 : PySem.W.nsIn K mainGlobals "return_words" = some (some (.ref af_return_words))) (l16 : K.lookup af_return_words = some ⟨oc16, od16, .func (PySem.W.fnOf "return_words" "return_words" (defArgs s_return_words) (defBody s_return_words) (defScope s_return_words) .none kV16 dc16 pm16 an16 cd16 ct16), sl16⟩) (c16 : PySem.W.codeIn K cd16 "return_words" = true) (k16 : PySem.W.keepIn K (.ref af_return_words) = true)
    (a17 : PySem.W.nsIn K mainGlobals "derived_word" = some (some (.ref af_derived_word))) (l17 : K.lookup af_derived_word = some ⟨oc17, od17, .func (PySem.W.fnOf "derived_word" "derived_word" (defArgs s_derived_word) (defBody s_derived_word) (defScope s_derived_word) .none kV17 dc17 pm17 an17 cd17 ct17), sl17⟩) (c17 : PySem.W.codeIn K cd17 "derived_word" = true) (k17 : PySem.W.keepIn K (.ref af_derived_word) = true)
    (a18 : PySem.W.nsIn K mainGlobals "named_rule" = some (some (.ref af_named_rule))) (l18 : K.lookup af_named_rule = some ⟨oc18, od18, .func (PySem.W.fnOf "named_rule" "named_rule" (defArgs s_named_rule) (defBody s_named_rule) (defScope s_named_rule) .none kV18 dc18 pm18 an18 cd18 ct18), sl18⟩) (c18 : PySem.W.codeIn K cd18 "named_rule" = true) (k18 : PySem.W.keepIn K (.ref af_named_rule) = true)
    (a19 : PySem.W.nsIn K mainGlobals "_law_is_whole" = some (some (.ref af_law_is_whole))) (l19 : K.lookup af_law_is_whole = some ⟨oc19, od19, .func (PySem.W.fnOf "_law_is_whole" "_law_is_whole" (defArgs s_law_is_whole) (defBody s_law_is_whole) (defScope s_law_is_whole) .none kV19 dc19 pm19 an19 cd19 ct19), sl19⟩) (c19 : PySem.W.codeIn K cd19 "_law_is_whole" = true) (k19 : PySem.W.keepIn K (.ref af_law_is_whole) = true)
    (a20 : PySem.W.nsIn K mainGlobals "_law_same" = some (some (.ref af_law_same))) (l20 : K.lookup af_law_same = some ⟨oc20, od20, .func (PySem.W.fnOf "_law_same" "_law_same" (defArgs s_law_same) (defBody s_law_same) (defScope s_law_same) .none kV20 dc20 pm20 an20 cd20 ct20), sl20⟩) (c20 : PySem.W.codeIn K cd20 "_law_same" = true) (k20 : PySem.W.keepIn K (.ref af_law_same) = true)
    (a21 : PySem.W.nsIn K mainGlobals "_law_told" = some (some (.ref af_law_told))) (l21 : K.lookup af_law_told = some ⟨oc21, od21, .func (PySem.W.fnOf "_law_told" "_law_told" (defArgs s_law_told) (defBody s_law_told) (defScope s_law_told) .none kV21 dc21 pm21 an21 cd21 ct21), sl21⟩) (c21 : PySem.W.codeIn K cd21 "_law_told" = true) (k21 : PySem.W.keepIn K (.ref af_law_told) = true)
    (a22 : PySem.W.nsIn K mainGlobals "_law_word" = some (some (.ref af_law_word))) (l22 : K.lookup af_law_word = some ⟨oc22, od22, .func (PySem.W.fnOf "_law_word" "_law_word" (defArgs s_law_word) (defBody s_law_word) (defScope s_law_word) .none kV22 dc22 pm22 an22 cd22 ct22), sl22⟩) (c22 : PySem.W.codeIn K cd22 "_law_word" = true) (k22 : PySem.W.keepIn K (.ref af_law_word) = true)
    (a23 : PySem.W.nsIn K mainGlobals "_law_places" = some (some (.ref af_law_places))) (l23 : K.lookup af_law_places = some ⟨oc23, od23, .func (PySem.W.fnOf "_law_places" "_law_places" (defArgs s_law_places) (defBody s_law_places) (defScope s_law_places) .none kV23 dc23 pm23 an23 cd23 ct23), sl23⟩) (c23 : PySem.W.codeIn K cd23 "_law_places" = true) (k23 : PySem.W.keepIn K (.ref af_law_places) = true)
    (a24 : PySem.W.nsIn K mainGlobals "law" = some (some (.ref af_law))) (l24 : K.lookup af_law = some ⟨oc24, od24, .func (PySem.W.fnOf "law" "law" (defArgs s_law) (defBody s_law) (defScope s_law) .none kV24 dc24 pm24 an24 cd24 ct24), sl24⟩) (c24 : PySem.W.codeIn K cd24 "law" = true) (k24 : PySem.W.keepIn K (.ref af_law) = true)
    (a25 : PySem.W.findIn K (.ref ac__Growing) "__init__" = some (some (.ref af_Growing_init))) (l25 : K.lookup af_Growing_init = some ⟨oc25, od25, .func (PySem.W.fnOf "__init__" "Growing.__init__" (defArgs s_Growing_init) (defBody s_Growing_init) (defScope s_Growing_init) .none kV25 dc25 pm25 an25 cd25 ct25), sl25⟩) (c25 : PySem.W.codeIn K cd25 "Growing.__init__" = true) (k25 : PySem.W.keepIn K (.ref af_Growing_init) = true)
    (if25 : PySem.W.isFn K (.ref af_Growing_init) = true)
    (a26 : PySem.W.findIn K (.ref ac__Growing) "on" = some (some (.ref af_Growing_on))) (l26 : K.lookup af_Growing_on = some ⟨oc26, od26, .func (PySem.W.fnOf "on" "Growing.on" (defArgs s_Growing_on) (defBody s_Growing_on) (defScope s_Growing_on) .none kV26 dc26 pm26 an26 cd26 ct26), sl26⟩) (c26 : PySem.W.codeIn K cd26 "Growing.on" = true) (k26 : PySem.W.keepIn K (.ref af_Growing_on) = true)
    (if26 : PySem.W.isFn K (.ref af_Growing_on) = true)
    (a27 : PySem.W.findIn K (.ref ac__Refused) "__init__" = some (some (.ref af_Refused_init))) (l27 : K.lookup af_Refused_init = some ⟨oc27, od27, .func (PySem.W.fnOf "__init__" "Refused.__init__" (defArgs s_Refused_init) (defBody s_Refused_init) (defScope s_Refused_init) .none kV27 dc27 pm27 an27 cd27 ct27), sl27⟩) (c27 : PySem.W.codeIn K cd27 "Refused.__init__" = true) (k27 : PySem.W.keepIn K (.ref af_Refused_init) = true)
    (z_abs : PySem.W.nsIn K mainGlobals "abs" = some none)
    (z_all : PySem.W.nsIn K mainGlobals "all" = some none)
    (z_any : PySem.W.nsIn K mainGlobals "any" = some none)
    (z_bool : PySem.W.nsIn K mainGlobals "bool" = some none)
    (z_enumerate : PySem.W.nsIn K mainGlobals "enumerate" = some none)
    (z_int : PySem.W.nsIn K mainGlobals "int" = some none)
    (z_isinstance : PySem.W.nsIn K mainGlobals "isinstance" = some none)
    (z_len : PySem.W.nsIn K mainGlobals "len" = some none)
    (z_list : PySem.W.nsIn K mainGlobals "list" = some none)
    (z_max : PySem.W.nsIn K mainGlobals "max" = some none)
    (z_min : PySem.W.nsIn K mainGlobals "min" = some none)
    (z_range : PySem.W.nsIn K mainGlobals "range" = some none)
    (z_sorted : PySem.W.nsIn K mainGlobals "sorted" = some none)
    (z_str : PySem.W.nsIn K mainGlobals "str" = some none)
    (z_sum : PySem.W.nsIn K mainGlobals "sum" = some none)
    (z_tuple : PySem.W.nsIn K mainGlobals "tuple" = some none)
    (z_zip : PySem.W.nsIn K mainGlobals "zip" = some none)
    (v_LETTERS : PySem.W.nsIn K mainGlobals "LETTERS" = some (some (Value.str ⟨([97, 98, 99, 100] : List Nat).toArray⟩ t_LETTERS)))
    (v_MOST_IMAGE : PySem.W.nsIn K mainGlobals "MOST_IMAGE" = some (some (Value.int 6 t_MOST_IMAGE)))
    (v_MOST_SIDE : PySem.W.nsIn K mainGlobals "MOST_SIDE" = some (some (Value.int 12 t_MOST_SIDE)))
    (v_MOST_TEXT : PySem.W.nsIn K mainGlobals "MOST_TEXT" = some (some (Value.int 3000 t_MOST_TEXT)))
    (ac_Malformed : PySem.W.nsIn K mainGlobals "Malformed" = some (some (.ref ac__Malformed)))
    (xc_Malformed : PySem.W.excIn K ac__Malformed [.type "ValueError", .type "Exception", .type "BaseException", .type "object"] "ValueError.__new__" = true)
    (kc_Malformed : PySem.W.keepIn K (.ref ac__Malformed) = true) (bc_Malformed : PySem.W.subIn K (.ref ac__Malformed) (.type "BaseException") = some true) (yc_Malformed : PySem.W.typeIn K (.ref ac__Malformed) = some (.type "type")) (dc_Malformed : PySem.W.hasDictIn K ac__Malformed = true)
    (s_Malformed_Malformed : PySem.W.subIn K (.ref ac__Malformed) (.ref ac__Malformed) = some true)
    (s_Refused_Malformed : PySem.W.subIn K (.ref ac__Refused) (.ref ac__Malformed) = some false)
    (ac_Refused : PySem.W.nsIn K mainGlobals "Refused" = some (some (.ref ac__Refused)))
    (kc_Refused : PySem.W.keepIn K (.ref ac__Refused) = true) (bc_Refused : PySem.W.subIn K (.ref ac__Refused) (.type "BaseException") = some true) (yc_Refused : PySem.W.typeIn K (.ref ac__Refused) = some (.type "type")) (dc_Refused : PySem.W.hasDictIn K ac__Refused = true)
    (s_Malformed_Refused : PySem.W.subIn K (.ref ac__Malformed) (.ref ac__Refused) = some false)
    (s_Refused_Refused : PySem.W.subIn K (.ref ac__Refused) (.ref ac__Refused) = some true)
    (ac_Fault : PySem.W.nsIn K mainGlobals "Fault" = some (some (.ref ac__Fault)))
    (xl_Refused : K.lookup ac__Refused = some (excClassObj nm_Refused q_Refused ac__Refused N_Refused bs_Refused bm_Refused true sn_Refused sub_Refused ab_Refused col_Refused dd_Refused m0_Refused m1_Refused m2_Refused m3_Refused m5_Refused "ValueError.__new__")) (rv_Refused : PySem.HandSPX.refsVE bm_Refused = true) (sa_Refused : PySem.W.findIn K (.ref ac__Refused) "__setattr__" = some (some (.builtin "object.__setattr__"))) (ga_Refused : PySem.W.findIn K (.ref ac__Refused) "__getattribute__" = some (some (.builtin "BaseException.__getattribute__"))) (gg_Refused : PySem.W.findIn K (.ref ac__Refused) "__getattr__" = some none) (nf_Refused : PySem.W.findIn K (.ref ac__Refused) "reason" = some none) (ti_Refused : PySem.W.typeIn K (.ref af_Refused_init) = some (.type "function"))
    (fa_ : PySem.W.specialIn K (.ref ac__Fault) "__getattribute__" = some (some (.builtin "type.__getattribute__"))) (fb_ : PySem.W.typeIn K (.ref ac__Fault) = some (.type "type")) (fc_ : PySem.W.readsIn K ac__Fault (.type "type") = true) (fd_ : PySem.W.findCls K (.ref ac__Fault) (.type "type") "__init__" = some (.val (.builtin "ValueError.__init__")))
    (sp_ : PySem.W.specialIn K (.builtin "object.__class__") "__get__" = some (some (.builtin "getset_descriptor.__get__"))) (tk_ : PySem.W.takesIn K (.builtin "object.__class__") = some true)
    (ac_Growing : PySem.W.nsIn K mainGlobals "Growing" = some (some (.ref ac__Growing))) (pg_Growing : PySem.W.plainGet K ac__Growing Str.empty = true) (hd_Growing : PySem.W.hasDictIn K ac__Growing = true) (po_Growing : PySem.W.plainOver K ac__Growing = true) (sa_Growing : PySem.W.findIn K (.ref ac__Growing) "__setattr__" = some (some (.builtin "object.__setattr__")))
    (n_Growing_size : PySem.W.findIn K (.ref ac__Growing) "size" = some none)
    (n_Growing_images : PySem.W.findIn K (.ref ac__Growing) "images" = some none)
    (mk_Growing : PySem.W.makesIn K ac__Growing = true) (ki_Growing : PySem.W.keepIn K (.ref ac__Growing) = true)
    (kt0_Growing : PySem.W.kitOne K (.type "NoneType") (.ref ac__Growing) = some false) (kt1_Growing : PySem.W.kitOne K (.type "bool") (.ref ac__Growing) = some false) (kt2_Growing : PySem.W.kitOne K (.type "int") (.ref ac__Growing) = some false) (kt3_Growing : PySem.W.kitOne K (.type "str") (.ref ac__Growing) = some false) (kt4_Growing : PySem.W.kitOne K (.type "list") (.ref ac__Growing) = some false) (kt5_Growing : PySem.W.kitOne K (.type "tuple") (.ref ac__Growing) = some false)
    (kk_Growing_Growing : PySem.W.kitOne K (.ref ac__Growing) (.ref ac__Growing) = some true)
    (oc_Growing : PySem.W.findIn K (.ref ac__Growing) "__class__" = some (some (.builtin "object.__class__"))) (mr_Growing : PySem.W.mroIn K ac__Growing (.type "object") = some true)
    (hS : ∀ (a : Nat) (g : G), g.on = true → g.at_ = a → GOk g → ∃ g', B_law ([none, some (.gen a)] ++ List.replicate 24 none) g = .rt (.bl true) g') :
    ∃ fd : FuncData, (∀ (s : Shared) (v : Value), BindsTo s fd ⟨[v], []⟩ [("script", v)]) ∧ ∀ base : Heap, K.In base → base.Ns mainGlobals mg → FnOk P w K mg base (L2.CX P w) 19 fa fd ["script"] (spLaw K) := by
  have e := hfa.symm.trans (PySem.W.mg_of KX KG a24)
  cases e
  have tx : Tx K mg ⟨af_law_take, af_law_state, af_is_integer, af_check_from, af_is_row, af_is_word, af_check_word, af_factors_of, af_is_table, af_check_growing, af_letter_table, af_is_primitive, af_is_steady, af_grown_words, af_fixed_letters, af_fixed_start, af_return_words, af_derived_word, af_named_rule, af_law_is_whole, af_law_same, af_law_told, af_law_word, af_law_places, af_law, af_Growing_init, af_Growing_on, af_Refused_init, ac__Malformed, ac__Refused, ac__Fault, ac__Growing⟩ := {
    f_law_take := ⟨_, fun_mk (st := s_law_take) l0 c0 k0, (fun_mk (st := s_law_take) l0 c0 k0).binds (ps := ["state", "m"]) fun _ _ _ _ _ _ us hl => match us, hl with | [_, _], _ => rfl⟩
    g_law_take := PySem.W.mg_of KX KG a0
    f_law_state := ⟨_, fun_mk (st := s_law_state) l1 c1 k1, (fun_mk (st := s_law_state) l1 c1 k1).binds (ps := ["script"]) fun _ _ _ _ _ _ us hl => match us, hl with | [_], _ => rfl⟩
    g_law_state := PySem.W.mg_of KX KG a1
    f_is_integer := ⟨_, fun_mk (st := s_is_integer) l2 c2 k2, (fun_mk (st := s_is_integer) l2 c2 k2).binds (ps := ["value"]) fun _ _ _ _ _ _ us hl => match us, hl with | [_], _ => rfl⟩
    g_is_integer := PySem.W.mg_of KX KG a2
    f_check_from := ⟨_, fun_mk (st := s_check_from) l3 c3 k3, (fun_mk (st := s_check_from) l3 c3 k3).binds (ps := ["n", "low", "high"]) fun _ _ _ _ _ _ us hl => match us, hl with | [_, _, _], _ => rfl⟩
    g_check_from := PySem.W.mg_of KX KG a3
    f_is_row := ⟨_, fun_mk (st := s_is_row) l4 c4 k4, (fun_mk (st := s_is_row) l4 c4 k4).binds (ps := ["value"]) fun _ _ _ _ _ _ us hl => match us, hl with | [_], _ => rfl⟩
    g_is_row := PySem.W.mg_of KX KG a4
    f_is_word := ⟨_, fun_mk (st := s_is_word) l5 c5 k5, (fun_mk (st := s_is_word) l5 c5 k5).binds (ps := ["value", "size"]) fun _ _ _ _ _ _ us hl => match us, hl with | [_, _], _ => rfl⟩
    g_is_word := PySem.W.mg_of KX KG a5
    f_check_word := ⟨_, fun_mk (st := s_check_word) l6 c6 k6, (fun_mk (st := s_check_word) l6 c6 k6).binds (ps := ["value", "size"]) fun _ _ _ _ _ _ us hl => match us, hl with | [_, _], _ => rfl⟩
    g_check_word := PySem.W.mg_of KX KG a6
    f_factors_of := ⟨_, fun_mk (st := s_factors_of) l7 c7 k7, (fun_mk (st := s_factors_of) l7 c7 k7).binds (ps := ["word", "length"]) fun _ _ _ _ _ _ us hl => match us, hl with | [_, _], _ => rfl⟩
    g_factors_of := PySem.W.mg_of KX KG a7
    f_is_table := ⟨_, fun_mk (st := s_is_table) l8 c8 k8, (fun_mk (st := s_is_table) l8 c8 k8).binds (ps := ["value"]) fun _ _ _ _ _ _ us hl => match us, hl with | [_], _ => rfl⟩
    g_is_table := PySem.W.mg_of KX KG a8
    f_check_growing := ⟨_, fun_mk (st := s_check_growing) l9 c9 k9, (fun_mk (st := s_check_growing) l9 c9 k9).binds (ps := ["value"]) fun _ _ _ _ _ _ us hl => match us, hl with | [_], _ => rfl⟩
    g_check_growing := PySem.W.mg_of KX KG a9
    f_letter_table := ⟨_, fun_mk (st := s_letter_table) l10 c10 k10, (fun_mk (st := s_letter_table) l10 c10 k10).binds (ps := ["rule"]) fun _ _ _ _ _ _ us hl => match us, hl with | [_], _ => rfl⟩
    g_letter_table := PySem.W.mg_of KX KG a10
    f_is_primitive := ⟨_, fun_mk (st := s_is_primitive) l11 c11 k11, (fun_mk (st := s_is_primitive) l11 c11 k11).binds (ps := ["table"]) fun _ _ _ _ _ _ us hl => match us, hl with | [_], _ => rfl⟩
    g_is_primitive := PySem.W.mg_of KX KG a11
    f_is_steady := ⟨_, fun_mk (st := s_is_steady) l12 c12 k12, (fun_mk (st := s_is_steady) l12 c12 k12).binds (ps := ["rule"]) fun _ _ _ _ _ _ us hl => match us, hl with | [_], _ => rfl⟩
    g_is_steady := PySem.W.mg_of KX KG a12
    f_grown_words := ⟨_, fun_mk (st := s_grown_words) l13 c13 k13, (fun_mk (st := s_grown_words) l13 c13 k13).binds (ps := ["rule", "length"]) fun _ _ _ _ _ _ us hl => match us, hl with | [_, _], _ => rfl⟩
    g_grown_words := PySem.W.mg_of KX KG a13
    f_fixed_letters := ⟨_, fun_mk (st := s_fixed_letters) l14 c14 k14, (fun_mk (st := s_fixed_letters) l14 c14 k14).binds (ps := ["rule"]) fun _ _ _ _ _ _ us hl => match us, hl with | [_], _ => rfl⟩
    g_fixed_letters := PySem.W.mg_of KX KG a14
    f_fixed_start := ⟨_, fun_mk (st := s_fixed_start) l15 c15 k15, (fun_mk (st := s_fixed_start) l15 c15 k15).binds (ps := ["rule", "letter", "length"]) fun _ _ _ _ _ _ us hl => match us, hl with | [_, _, _], _ => rfl⟩
    g_fixed_start := PySem.W.mg_of KX KG a15
    f_return_words := ⟨_, fun_mk (st := s_return_words) l16 c16 k16, (fun_mk (st := s_return_words) l16 c16 k16).binds (ps := ["word", "part"]) fun _ _ _ _ _ _ us hl => match us, hl with | [_, _], _ => rfl⟩
    g_return_words := PySem.W.mg_of KX KG a16
    f_derived_word := ⟨_, fun_mk (st := s_derived_word) l17 c17 k17, (fun_mk (st := s_derived_word) l17 c17 k17).binds (ps := ["word", "part"]) fun _ _ _ _ _ _ us hl => match us, hl with | [_, _], _ => rfl⟩
    g_derived_word := PySem.W.mg_of KX KG a17
    f_named_rule := ⟨_, fun_mk (st := s_named_rule) l18 c18 k18, (fun_mk (st := s_named_rule) l18 c18 k18).binds (ps := ["name"]) fun _ _ _ _ _ _ us hl => match us, hl with | [_], _ => rfl⟩
    g_named_rule := PySem.W.mg_of KX KG a18
    f_law_is_whole := ⟨_, fun_mk (st := s_law_is_whole) l19 c19 k19, (fun_mk (st := s_law_is_whole) l19 c19 k19).binds (ps := ["value"]) fun _ _ _ _ _ _ us hl => match us, hl with | [_], _ => rfl⟩
    g_law_is_whole := PySem.W.mg_of KX KG a19
    f_law_same := ⟨_, fun_mk (st := s_law_same) l20 c20 k20, (fun_mk (st := s_law_same) l20 c20 k20).binds (ps := ["one", "two"]) fun _ _ _ _ _ _ us hl => match us, hl with | [_, _], _ => rfl⟩
    g_law_same := PySem.W.mg_of KX KG a20
    f_law_told := ⟨_, fun_mk (st := s_law_told) l21 c21 k21, (fun_mk (st := s_law_told) l21 c21 k21).binds (ps := ["act", "given"]) fun _ _ _ _ _ _ us hl => match us, hl with | [_, _], _ => rfl⟩
    g_law_told := PySem.W.mg_of KX KG a21
    f_law_word := ⟨_, fun_mk (st := s_law_word) l22 c22 k22, (fun_mk (st := s_law_word) l22 c22 k22).binds (ps := ["state", "size", "length"]) fun _ _ _ _ _ _ us hl => match us, hl with | [_, _, _], _ => rfl⟩
    g_law_word := PySem.W.mg_of KX KG a22
    f_law_places := ⟨_, fun_mk (st := s_law_places) l23 c23 k23, (fun_mk (st := s_law_places) l23 c23 k23).binds (ps := ["word", "piece"]) fun _ _ _ _ _ _ us hl => match us, hl with | [_, _], _ => rfl⟩
    g_law_places := PySem.W.mg_of KX KG a23
    f_law := ⟨_, fun_mk (st := s_law) l24 c24 k24, (fun_mk (st := s_law) l24 c24 k24).binds (ps := ["script"]) fun _ _ _ _ _ _ us hl => match us, hl with | [_], _ => rfl⟩
    g_law := PySem.W.mg_of KX KG a24
    f_Growing_init := ⟨_, fun_mk (st := s_Growing_init) l25 c25 k25, (fun_mk (st := s_Growing_init) l25 c25 k25).binds (ps := ["self", "images"]) fun _ _ _ _ _ _ us hl => match us, hl with | [_, _], _ => rfl⟩
    f_Growing_on := ⟨_, fun_mk (st := s_Growing_on) l26 c26 k26, (fun_mk (st := s_Growing_on) l26 c26 k26).binds (ps := ["self", "word"]) fun _ _ _ _ _ _ us hl => match us, hl with | [_, _], _ => rfl⟩
    me_Growing_on := ⟨a26, if26, k26⟩
    f_Refused_init := ⟨_, fun_mk (st := s_Refused_init) l27 c27 k27, (fun_mk (st := s_Refused_init) l27 c27 k27).binds (ps := ["self", "reason"]) fun _ _ _ _ _ _ us hl => match us, hl with | [_, _], _ => rfl⟩
    m_abs := PySem.W.mg_none_of KX KG z_abs
    m_all := PySem.W.mg_none_of KX KG z_all
    m_any := PySem.W.mg_none_of KX KG z_any
    m_bool := PySem.W.mg_none_of KX KG z_bool
    m_enumerate := PySem.W.mg_none_of KX KG z_enumerate
    m_int := PySem.W.mg_none_of KX KG z_int
    m_isinstance := PySem.W.mg_none_of KX KG z_isinstance
    m_len := PySem.W.mg_none_of KX KG z_len
    m_list := PySem.W.mg_none_of KX KG z_list
    m_max := PySem.W.mg_none_of KX KG z_max
    m_min := PySem.W.mg_none_of KX KG z_min
    m_range := PySem.W.mg_none_of KX KG z_range
    m_sorted := PySem.W.mg_none_of KX KG z_sorted
    m_str := PySem.W.mg_none_of KX KG z_str
    m_sum := PySem.W.mg_none_of KX KG z_sum
    m_tuple := PySem.W.mg_none_of KX KG z_tuple
    m_zip := PySem.W.mg_none_of KX KG z_zip
    c_LETTERS := ⟨_, PySem.W.mg_of KX KG v_LETTERS, t_LETTERS, rfl⟩
    c_MOST_IMAGE := ⟨_, PySem.W.mg_of KX KG v_MOST_IMAGE, t_MOST_IMAGE, rfl⟩
    c_MOST_SIDE := ⟨_, PySem.W.mg_of KX KG v_MOST_SIDE, t_MOST_SIDE, rfl⟩
    c_MOST_TEXT := ⟨_, PySem.W.mg_of KX KG v_MOST_TEXT, t_MOST_TEXT, rfl⟩
    g_Malformed := PySem.W.mg_of KX KG ac_Malformed
    x_Malformed := xc_Malformed
    k_Malformed := kc_Malformed
    b_Malformed := bc_Malformed
    y_Malformed := yc_Malformed
    m_Malformed := fun m C e => match m, e with
      | 0, e => by cases e; exact PySem.W.exm_ref bc_Malformed dc_Malformed yc_Malformed s_Malformed_Malformed
      | 1, e => by cases e; exact PySem.W.exm_ref bc_Malformed dc_Malformed yc_Malformed s_Refused_Malformed
      | k + 2, e => by cases e
    g_Refused := PySem.W.mg_of KX KG ac_Refused
    k_Refused := kc_Refused
    b_Refused := bc_Refused
    y_Refused := yc_Refused
    m_Refused := fun m C e => match m, e with
      | 0, e => by cases e; exact PySem.W.exm_ref bc_Refused dc_Refused yc_Refused s_Malformed_Refused
      | 1, e => by cases e; exact PySem.W.exm_ref bc_Refused dc_Refused yc_Refused s_Refused_Refused
      | k + 2, e => by cases e
    oc_Refused := ⟨⟨nm_Refused, q_Refused, N_Refused, bs_Refused, _, sn_Refused, sub_Refused, ab_Refused, col_Refused, dd_Refused, m0_Refused, m1_Refused, m2_Refused, m3_Refused, m5_Refused, xl_Refused, rv_Refused⟩, sa_Refused, bc_Refused, yc_Refused, kc_Refused⟩
    xn_Refused := nf_Refused
    iC_Refused := a27
    tI_Refused := ti_Refused
    xf_Refused := ⟨ga_Refused, gg_Refused, bc_Refused, dc_Refused⟩
    fi_Fault := ⟨fa_, fb_, fc_, fd_⟩
    g_Fault := PySem.W.mg_of KX KG ac_Fault
    g_Growing := PySem.W.mg_of KX KG ac_Growing
    cls_Growing := ⟨pg_Growing, hd_Growing, po_Growing, sa_Growing⟩
    n_Growing_size := n_Growing_size
    n_Growing_images := n_Growing_images
    mk_Growing := ⟨mk_Growing, a25, if25, ki_Growing⟩
    isT_Growing := ⟨(by
        intro t ht
        simp only [List.mem_cons, List.not_mem_nil, or_false] at ht
        rcases ht with rfl | rfl | rfl | rfl | rfl | rfl <;> assumption), fun c' C' e => match c', e with
      | 0, e => (by cases e)
      | 1, e => (by cases e)
      | 2, e => (by cases e; exact ⟨⟨pg_Growing, hd_Growing, po_Growing, sa_Growing⟩, oc_Growing, mr_Growing, kk_Growing_Growing⟩)
      | k + 3, e => (by cases e), sp_, tk_, rfl⟩
  }
  exact ⟨_, fun s v => .of_eq rfl, fun base _ _ => ok_law tx (fun_mk (st := s_law) l24 c24 k24) hS⟩
end
end K23

open PySem PySem.W PyProof.Rows
set_option maxHeartbeats 0 in
theorem PySem.Challenge.cw_shiftroads_k23_whole_return_words_and_de_holds : PySem.Challenge.rw_shiftroads_k23_whole_return_words_and_de.Holds := by
  w_on; o_law; k_head; (case hw => w_witness2)
  k_fill
  refine L2.walk_of (l := PySem.Challenge.rw_shiftroads_k23_whole_return_words_and_de) (n := 63) (k := 19) (x := "script") (CX := fun w => L2.CX (PySem.Challenge.rw_shiftroads_k23_whole_return_words_and_de).prog w) (sp := fun w => PP.spLaw _) rfl (by decide) rfl ⟨rfl, by decide, by decide⟩ (fun w h Y => PySem.W.kIn_of Y) ?F (fun _ _ a ns hl _ hS => ⟨a, ns, rfl, hS, hl, fun _ => rfl⟩) (fun _ _ _ _ _ hz => by
    obtain ⟨_, _, _, _, _, _, _, _, _, _, _, _, z⟩ := hz
    exact z)
  case F =>
    intro w mg fa h KX G hmg
    refine' K23.all_mk KX G hmg ?a0 ?l0 ?c0 ?k0 ?a1 ?l1 ?c1 ?k1 ?a2 ?l2 ?c2 ?k2 ?a3 ?l3 ?c3 ?k3 ?a4 ?l4 ?c4 ?k4 ?a5 ?l5 ?c5 ?k5 ?a6 ?l6 ?c6 ?k6 ?a7 ?l7 ?c7 ?k7 ?a8 ?l8 ?c8 ?k8 ?a9 ?l9 ?c9 ?k9 ?a10 ?l10 ?c10 ?k10 ?a11 ?l11 ?c11 ?k11 ?a12 ?l12 ?c12 ?k12 ?a13 ?l13 ?c13 ?k13 ?a14 ?l14 ?c14 ?k14 ?a15 ?l15 ?c15 ?k15 ?a16 ?l16 ?c16 ?k16 ?a17 ?l17 ?c17 ?k17 ?a18 ?l18 ?c18 ?k18 ?a19 ?l19 ?c19 ?k19 ?a20 ?l20 ?c20 ?k20 ?a21 ?l21 ?c21 ?k21 ?a22 ?l22 ?c22 ?k22 ?a23 ?l23 ?c23 ?k23 ?a24 ?l24 ?c24 ?k24 ?a25 ?l25 ?c25 ?k25 ?if25 ?a26 ?l26 ?c26 ?k26 ?if26 ?a27 ?l27 ?c27 ?k27 ?z_abs ?z_all ?z_any ?z_bool ?z_enumerate ?z_int ?z_isinstance ?z_len ?z_list ?z_max ?z_min ?z_range ?z_sorted ?z_str ?z_sum ?z_tuple ?z_zip ?v_LETTERS ?v_MOST_IMAGE ?v_MOST_SIDE ?v_MOST_TEXT ?ac_Malformed ?xc_Malformed ?kc_Malformed ?bc_Malformed ?yc_Malformed ?dc_Malformed ?s_Malformed_Malformed ?s_Refused_Malformed ?ac_Refused ?kc_Refused ?bc_Refused ?yc_Refused ?dc_Refused ?s_Malformed_Refused ?s_Refused_Refused ?ac_Fault ?xl_Refused ?rv_Refused ?sa_Refused ?ga_Refused ?gg_Refused ?nf_Refused ?ti_Refused ?fa_ ?fb_ ?fc_ ?fd_ ?sp_ ?tk_ ?ac_Growing ?pg_Growing ?hd_Growing ?po_Growing ?sa_Growing ?n_Growing_size ?n_Growing_images ?mk_Growing ?ki_Growing ?kt0_Growing ?kt1_Growing ?kt2_Growing ?kt3_Growing ?kt4_Growing ?kt5_Growing ?kk_Growing_Growing ?oc_Growing ?mr_Growing K23.pure_law
    (case ac_Malformed => k_is)
    (case ac_Refused => k_is)
    (case ac_Fault => k_is)
    (case ac_Growing => k_is)
    (case a0 => k_is)
    (case a1 => k_is)
    (case a2 => k_is)
    (case a3 => k_is)
    (case a4 => k_is)
    (case a5 => k_is)
    (case a6 => k_is)
    (case a7 => k_is)
    (case a8 => k_is)
    (case a9 => k_is)
    (case a10 => k_is)
    (case a11 => k_is)
    (case a12 => k_is)
    (case a13 => k_is)
    (case a14 => k_is)
    (case a15 => k_is)
    (case a16 => k_is)
    (case a17 => k_is)
    (case a18 => k_is)
    (case a19 => k_is)
    (case a20 => k_is)
    (case a21 => k_is)
    (case a22 => k_is)
    (case a23 => k_is)
    (case a24 => k_is)
    (case a25 => k_is)
    (case a26 => k_is)
    (case a27 => k_is)
    (case l0 => k_is)
    (case c0 => k_is)
    (case k0 => k_is)
    (case l1 => k_is)
    (case c1 => k_is)
    (case k1 => k_is)
    (case l2 => k_is)
    (case c2 => k_is)
    (case k2 => k_is)
    (case l3 => k_is)
    (case c3 => k_is)
    (case k3 => k_is)
    (case l4 => k_is)
    (case c4 => k_is)
    (case k4 => k_is)
    (case l5 => k_is)
    (case c5 => k_is)
    (case k5 => k_is)
    (case l6 => k_is)
    (case c6 => k_is)
    (case k6 => k_is)
    (case l7 => k_is)
    (case c7 => k_is)
    (case k7 => k_is)
    (case l8 => k_is)
    (case c8 => k_is)
    (case k8 => k_is)
    (case l9 => k_is)
    (case c9 => k_is)
    (case k9 => k_is)
    (case l10 => k_is)
    (case c10 => k_is)
    (case k10 => k_is)
    (case l11 => k_is)
    (case c11 => k_is)
    (case k11 => k_is)
    (case l12 => k_is)
    (case c12 => k_is)
    (case k12 => k_is)
    (case l13 => k_is)
    (case c13 => k_is)
    (case k13 => k_is)
    (case l14 => k_is)
    (case c14 => k_is)
    (case k14 => k_is)
    (case l15 => k_is)
    (case c15 => k_is)
    (case k15 => k_is)
    (case l16 => k_is)
    (case c16 => k_is)
    (case k16 => k_is)
    (case l17 => k_is)
    (case c17 => k_is)
    (case k17 => k_is)
    (case l18 => k_is)
    (case c18 => k_is)
    (case k18 => k_is)
    (case l19 => k_is)
    (case c19 => k_is)
    (case k19 => k_is)
    (case l20 => k_is)
    (case c20 => k_is)
    (case k20 => k_is)
    (case l21 => k_is)
    (case c21 => k_is)
    (case k21 => k_is)
    (case l22 => k_is)
    (case c22 => k_is)
    (case k22 => k_is)
    (case l23 => k_is)
    (case c23 => k_is)
    (case k23 => k_is)
    (case l24 => k_is)
    (case c24 => k_is)
    (case k24 => k_is)
    (case l25 => k_is)
    (case c25 => k_is)
    (case k25 => k_is)
    (case if25 => k_is)
    (case l26 => k_is)
    (case c26 => k_is)
    (case k26 => k_is)
    (case if26 => k_is)
    (case l27 => k_is)
    (case c27 => k_is)
    (case k27 => k_is)
    (case z_abs => k_is)
    (case z_all => k_is)
    (case z_any => k_is)
    (case z_bool => k_is)
    (case z_enumerate => k_is)
    (case z_int => k_is)
    (case z_isinstance => k_is)
    (case z_len => k_is)
    (case z_list => k_is)
    (case z_max => k_is)
    (case z_min => k_is)
    (case z_range => k_is)
    (case z_sorted => k_is)
    (case z_str => k_is)
    (case z_sum => k_is)
    (case z_tuple => k_is)
    (case z_zip => k_is)
    (case v_LETTERS => k_is)
    (case v_MOST_IMAGE => k_is)
    (case v_MOST_SIDE => k_is)
    (case v_MOST_TEXT => k_is)
    (case xc_Malformed => k_exc)
    (case kc_Malformed => k_is)
    (case bc_Malformed => k_is)
    (case yc_Malformed => k_is)
    (case dc_Malformed => k_is)
    (case s_Malformed_Malformed => k_is)
    (case s_Refused_Malformed => k_is)
    (case kc_Refused => k_is)
    (case bc_Refused => k_is)
    (case yc_Refused => k_is)
    (case dc_Refused => k_is)
    (case s_Malformed_Refused => k_is)
    (case s_Refused_Refused => k_is)
    (case xl_Refused => k_is)
    (case sa_Refused => k_is)
    (case ga_Refused => k_is)
    (case gg_Refused => k_is)
    (case nf_Refused => k_is)
    (case ti_Refused => k_is)
    (case rv_Refused => decide +kernel)
    (case fa_ => k_is)
    (case fb_ => k_is)
    (case fc_ => k_is)
    (case fd_ => k_is)
    (case sp_ => k_is)
    (case tk_ => k_is)
    (case pg_Growing => k_is)
    (case hd_Growing => k_is)
    (case po_Growing => k_is)
    (case sa_Growing => k_is)
    (case n_Growing_size => k_is)
    (case n_Growing_images => k_is)
    (case mk_Growing => k_is)
    (case ki_Growing => k_is)
    (case kt0_Growing => kit_is)
    (case kt1_Growing => kit_is)
    (case kt2_Growing => kit_is)
    (case kt3_Growing => kit_is)
    (case kt4_Growing => kit_is)
    (case kt5_Growing => kit_is)
    (case kk_Growing_Growing => kit_is)
    (case oc_Growing => k_is)
    (case mr_Growing => k_is)

